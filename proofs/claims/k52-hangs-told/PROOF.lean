import PyProof.Rows.All
import Wide.All
import OpenK.AllK
import Wide.FinOn
import OpenK.KMeth
import KE.KOpsOwn
import HandS.SlotsOwn
import HandS.ForMost
import HandS.ForExc
import HandS.Lambda
import HandS.Property
import HandS.ClsMeth
import HandS.Wide
import HandS.TupLe
import HandS.IsInst
import HandS.FStr
import HandS.RaiseMore
import HandS.EndBits
import HandS.EndTab
import KE.KNestM
import HandS.AnyAll
import HandS.ExcInit
import HandS.ExcField
import HandS.ExcIs
import HandS.Style
import HandS.SortInts
import PyProof.ReprLen
import PyProof.StrLawsChain
import PyProof.Rows.StrSplitAre
import KE.KSuper
import HandS.Nested
import HandS.Defaults
import HandS.Dict
import HandS.Small
import HandS.Iter
import HandS.DictComp
import HandS.Star
import KE.KStateDown
import HandS.Head0
import HandS.Head1
import HandS.Head2
import HandS.HeadHook1
import HandS.HeadHook2
import PySem.Challenge.RW_marklessways_k52_hangs_told_and_refused
import HandS.More
import HandS.Strs
import PyProof.FString5
import HandS.Zip
import HandS.SetKeys
import HandS.SetFor
import PyProof.Rows.SortShellAny
import PyProof.Rows.SortStr
import KE.KEqDict
import KE.KEqNest
import HandS.Conv
import PyProof.ListStr
import KE.GoesMore
import PyProof.Draws
import HandS.OwnEq
import PyProof.Rows.CountFlat
import PyProof.Conv_bool
import PyProof.Rows.Range3
import HandS.DeepEq
import PyProof.P3In
import KE.KDictZip
import HandS.JoinGen
import HandS.Finally
import KE.KeyNested
import HandS.Codes
import PyProof.Rows.StrCountLaw
open List renaming getElem?_eq_some_iff->aa,mem_cons_self->af,mem_cons_of_mem->ag,getElem?_set_ne->ah,length_cons->ai,length_map->ar,mem_cons->av,mem_map->aw,map_cons->ax,getElem?_eq_getElem->ay,getElem?_append_left->az,getElem?_set_self->aE,getElem?_append_right->aL,append_nil->aT,append_assoc->a7,length_set->a8,mapM_cons->bb,filterMap_cons->bc,length_append->bg,not_mem_nil->bj,map_map->bp,getElem?_set->br,getElem?_map->bu,mem_of_getElem?->bw,pairwise_cons->bC,replicate->bN,replicate_succ->bP,getElem?_cons_succ->bS,nil_append->cc,all_eq_true->cg,getElem?_cons_zero->cj,mem_append->ck,mem_singleton->cn,range->cq,reverse_cons->cB,all_cons->cE,mem_filter->cF,length_singleton->cK,cons_append->c9,set_cons_succ->dc,size_toArray->dj,nodup_cons->dm,length_nil->dn,replicate_zero->du,any_cons->dz,filter_cons->dC,set_cons_zero->dQ,lookup->dS,length_filter_le->dV,length_range->eD,mem_append_left->eQ,drop_eq_getElem_cons->e9,length_reverse->fm,getElem?_replicate->fA,pairwise_map->f7,nodup_append->f9,flatten_cons->gb,mem_append_right->gh,foldl_cons->gC,mem_filterMap->gO,map_nil->gS,lt_irrefl->gX,getElem?_eq_none_iff->gZ,pairwise_singleton->hG,drop_of_length_le->hV,map_append->il,mapM->ip,pairwise_append->iC,map_congr_left->iM,zip_cons_cons->iS,getElem?_inj->i7,any_eq_true->jq,getD_eq_getElem?_getD->j4,drop_zero->ke,set_eq_of_length_le->kj,sum_cons->ku,find?_cons_of_pos->kA,find?_cons_of_neg->kB,not_lt->kI,map->kS,reverse_perm->k9
open PySem.W renaming Frag->ae,mg_of->aI,kitOne->aS,mg_none_of->bz,findIn->bE,notFirst->bX,codeHdIn->c6,fnOf->c7,exmOne->eJ,clsIn->fq,typeIn->fR,kitAny->fT,isFn->f6,subIn->gi,recIn->gk,Looks->gm,findCls->gn,nsIn->gB,codeIn->gE,InstAt->gF,mroIn->g9,keepIn->ik,callWith_K->iE,hasDictIn->iO,fnIn->iR,any_some->iX,cellsFrom_some->ka,looks_findIn->km,handedOut_of->kn,findObj_data->kq,callWith_KW0->kr,codeHd_of_K->kz,codeRec_of->kC,specialIn->kF,takesIn->kN,kla_obj->kO,kia_one->kP,isClsIn->kQ,SharedT->kR,notCls->k7,kla_fn->k8
open Bool renaming and_eq_true->aB,false_eq_true->bI,and_eq_true_iff->cu,false_and->de,not_true->eI,not_false->fe,true_and->fE,and_self->hH,not_eq_true->hM,false_bne->kf,and_false->kg,false_ne_true->kT,eq_false_iff->lh
open Nat renaming le_trans->a9,le_refl->ba,lt_of_lt_of_le->cL,zero_le->c4,ne_of_lt->eA,reduceLeDiff->fg,reduceEqDiff->fh,le_max_right->fk,sub_self->fv,le_of_not_lt->gp,reduceSub->gu,reducePow->gw,reduceAdd->gx,le_succ->gI,zero_add->gV,lt_or_ge->ir,le_max_left->iu,pow_le_pow_right->iF,mul_le_mul_left->iP,lt_succ_of_lt->i9,lt_succ_self->jv,mul_add->j0,le_of_ble_eq_true->kG
open Array renaming length_toList->bq,getElem?_toList->gf,mem_of_getElem?->ij,toArray_toList->kD,empty_append->kL,size_append->kU,all_toList->lj
open PySem.F renaming plainAttrs_str->cb,type_list_append->df,slot_list_append->dg,plainAttrs_list->dq,type_str_join->dE,slot_str_join->dP,type_str_split->fw,slot_str_split->fx,excAttr_ValueError->ja,slot_object_ne->kd
open False renaming elim->cm
open Or renaming inl->cw,inr->gr
open L2 renaming St->cz,wipe->c5,CX->fo,start->hY,RelV->la,Ends->lb
open List.Perm renaming refl->c0
open Option renaming bind_some->c8,isNone_iff_eq_none->gL,isSome_iff_exists->jS
open Classical renaming propDecidable->di
open List.Pairwise renaming nil->dA
open Int renaming toNat_natCast->eP,reduceToNat->fF,reducePow->gy,reduceNeg->gz,reduceLT->g0,reduceLE->g7,fmod_nonneg_of_pos->ie,lt_irrefl->i5,fmod_lt_of_pos->i6
open Ne renaming symm->eW
open LamX renaming TabB->fc,lamS_by->ft,lamCx->iA,lamEnv->kK
open Option.some renaming inj->gc
open PyProof.Rows renaming callWith_builtin1->iq,callWith_type1->iL,args_cons->i8,args_nil->jn
open PySem renaming intText?->iB,ret->iN
open HT renaming sIx->jz
open TL renaming joinL->jI,tl->k6
open And renaming intro->kH
open Sum renaming inl->kM
open True renaming intro->kX
set_option Elab.async false
set_option linter.all false
set_option maxRecDepth 100000
set_option maxHeartbeats 4000000
namespace PySem.W
/-- D's instances have no such number operator, as a test -/
def anM(K:Frag)(D:Addr)(nm:String):Bool:=match clsIn K D with
 |some cd=>cd.mro.all fun c=>findIn K c (PySem.dunder nm)==some none&&findIn K c (dunderR nm)==some none
 |none=>false
end PySem.W
namespace MW
open PySem PySem.Spec PyProof.Rows L2
/-- a value; tuples and exceptions are values, everything else that lives on the heap is an index into the store; clo: a lambda's object and its code -/
inductive CV where
 |non|bl (b:Bool)|int (i:Int)|str (x:Str)|tup (xs:List CV)|ref (n:Nat)|cls (x:Str)|ty (x:String)|scr (ns:List Int)|exn (c:Str) (fs:List (Str×CV))|clo (f c:Addr) (q:Str) (ρ:List (Option CV)) (σ:List (Option V))
mutual
def CV.beq:CV->CV->Bool
 |.non,.non=>true
 |.bl a,.bl b=>a==b
 |.int a,.int b=>decide (a=b)
 |.str a,.str b=>decide (a=b)
 |.tup a,.tup b=>CV.ahh a b
 |.ref a,.ref b=>decide (a=b)
 |.cls a,.cls b=>decide (a=b)
 |.ty a,.ty b=>decide (a=b)
 |.scr a,.scr b=>decide (a=b)
 |.exn a s,.exn b u=>decide (a=b)&&CV.ahe s u
 |.clo a c s r z,.clo b d u r' z'=>(decide (a=b)&&(decide (c=d)&&(decide (s=u)&&decide (z=z'))))&&CV.afa r r'
 |_,_=>false
termination_by structural x=>x
def CV.ahh:List CV->List CV->Bool
 | [],[]=>true
 |a::as,b::bs=>CV.beq a b&&CV.ahh as bs
 |_,_=>false
termination_by structural x=>x
def CV.ahe:List (Str×CV)->List (Str×CV)->Bool
 | [],[]=>true
 |(f,a)::as,(g,b)::bs=>decide (f=g)&&(CV.beq a b&&CV.ahe as bs)
 |_,_=>false
termination_by structural x=>x
def CV.afa:List (Option CV)->List (Option CV)->Bool
 | [],[]=>true
 |a::as,b::bs=>CV.ahd a b&&CV.afa as bs
 |_,_=>false
termination_by structural x=>x
def CV.ahd:Option CV->Option CV->Bool
 |none,none=>true
 |some a,some b=>CV.beq a b
 |_,_=>false
termination_by structural x=>x
end
mutual
theorem CV.beq_eq:∀(a b:CV),CV.beq a b=true->a=b
 |.non,b,h=>by cases b<;>first|rfl|(simp[CV.beq]at h)
 |.bl x,b,h=>by cases b<;>simp_all [CV.beq]
 |.int x,b,h=>by cases b<;>simp_all [CV.beq]
 |.str x,b,h=>by cases b<;>simp_all [CV.beq]
 |.tup x,b,h=>by
  cases b with
  |tup y=>rw[CV.ahi x y (by simpa[CV.beq]using h)]
  |_=>simp[CV.beq]at h
 |.ref x,b,h=>by cases b<;>simp_all [CV.beq]
 |.cls x,b,h=>by cases b<;>simp_all [CV.beq]
 |.ty x,b,h=>by cases b<;>simp_all [CV.beq]
 |.scr x,b,h=>by cases b<;>simp_all [CV.beq]
 |.exn x s,b,h=>by
  cases b with
  |exn y u=>
   simp only[CV.beq,aB,decide_eq_true_eq]at h
   rw[h.1,CV.ahf s u h.2]
  |_=>simp[CV.beq]at h
 |.clo x c s r z,b,h=>by
  cases b with
  |clo y d u r' z'=>
   simp only[CV.beq,aB,decide_eq_true_eq]at h
   rw[h.1.1,h.1.2.1,h.1.2.2.1,h.1.2.2.2,CV.ahg r r' h.2]
  |_=>simp[CV.beq]at h
theorem CV.ahi:∀(a b:List CV),CV.ahh a b=true->a=b
 | [],b,h=>by cases b<;>first|rfl|(simp[CV.ahh]at h)
 |a::as,b,h=>by
  cases b with
  |nil=>simp[CV.ahh]at h
  |cons c cs=>
   simp only[CV.ahh,aB]at h
   rw[CV.beq_eq a c h.1,CV.ahi as cs h.2]
theorem CV.ahf:∀(a b:List (Str×CV)),CV.ahe a b=true->a=b
 | [],b,h=>by cases b<;>first|rfl|(simp[CV.ahe]at h)
 |(f,a)::as,b,h=>by
  cases b with
  |nil=>simp[CV.ahe]at h
  |cons c cs=>
   obtain⟨g,c⟩:=c
   simp only[CV.ahe,aB,decide_eq_true_eq]at h
   rw[h.1,CV.beq_eq a c h.2.1,CV.ahf as cs h.2.2]
theorem CV.ahg:∀(a b:List (Option CV)),CV.afa a b=true->a=b
 | [],b,h=>by cases b<;>first|rfl|(simp[CV.afa]at h)
 |a::as,b,h=>by
  cases b with
  |nil=>simp[CV.afa]at h
  |cons c cs=>
   simp only[CV.afa,aB]at h
   rw[CV.apo a c h.1,CV.ahg as cs h.2]
theorem CV.apo:∀(a b:Option CV),CV.ahd a b=true->a=b
 |none,b,h=>by cases b<;>first|rfl|(simp[CV.ahd]at h)
 |some a,b,h=>by
  cases b with
  |none=>simp[CV.ahd]at h
  |some c=>rw[CV.beq_eq a c (by simpa[CV.ahd]using h)]
end
mutual
theorem CV.beq_refl:∀(a:CV),CV.beq a a=true
 |.non=>rfl
 |.bl x=>by simp[CV.beq]
 |.int x=>by simp[CV.beq]
 |.str x=>by simp[CV.beq]
 |.tup x=>by simp only[CV.beq];exact CV.ZM x
 |.ref x=>by simp[CV.beq]
 |.cls x=>by simp[CV.beq]
 |.ty x=>by simp[CV.beq]
 |.scr x=>by simp[CV.beq]
 |.exn x s=>by simp only[CV.beq,CV.ZK s];simp
 |.clo x c s r z=>by simp only[CV.beq,CV.ZL r];simp
theorem CV.ZM:∀(a:List CV),CV.ahh a a=true
 | []=>rfl
 |a::as=>by simp only[CV.ahh,CV.beq_refl a,CV.ZM as,hH]
theorem CV.ZK:∀(a:List (Str×CV)),CV.ahe a a=true
 | []=>rfl
 |(f,a)::as=>by simp only[CV.ahe,CV.beq_refl a,CV.ZK as,hH,decide_true]
theorem CV.ZL:∀(a:List (Option CV)),CV.afa a a=true
 | []=>by simp only[CV.afa]
 |a::as=>by simp only[CV.afa,CV.ais a,CV.ZL as,hH]
theorem CV.ais:∀(a:Option CV),CV.ahd a a=true
 |none=>by simp only[CV.ahd]
 |some a=>by simp only[CV.ahd,CV.beq_refl a]
end
instance:DecidableEq CV:=fun a b=>if h:CV.beq a b=true then .isTrue (CV.beq_eq a b h) else .isFalse fun e=>h (e▸CV.beq_refl a)
/-- what stands in the store -/
inductive CO where
 |lst (xs:List CV)|dic (kvs:List (CV×CV))|ins (c:Str) (fs:List (Str×CV))|tab (x:Str)|frz (o:CO)|mdc (kvs:List (CV×CV))|dct (kvs:List (CV×CV))|odd (ks:List CV)
 deriving DecidableEq
abbrev Sto:=List CO
abbrev Rho:=List (Option CV)
inductive Res(α:Type) where
 |ok (a:α) (S:Sto)|exc (c:Str) (fs:List (Str×CV)) (S:Sto)|bad
abbrev M(α:Type):=Sto->Res α
def Res.bnd{α β:Type}(r:Res α)(k:α->M β):Res β:=match r with
 |.ok a S=>k a S
 |.exc c fs S=>.exc c fs S
 |.bad=>.bad
def bnd{α β:Type}(m:M α)(k:α->M β):M β:=fun S=>(m S).bnd k
def ret{α:Type}(a:α):M α:=fun S=>.ok a S
def bad{α:Type}:M α:=fun _=>.bad
/-- an exception that is kept as a value: its object, by its class and its own dict -/
def aph(a C d:Addr):HO:=.ext fun h=>∃(o:Obj) (vs:Array Value),h.get? a=some o/\o.cls=.ref C/\o.dict=some d/\o.data=.fields vs
mutual
/-- the value c of the store stands for v -/
inductive bx(K:ae)(mg:Str->Option Value)(ι:List Addr)(H:Hp):CV->V->Prop where
 |non:bx K mg ι H .non .non
 |bl (b:Bool):bx K mg ι H (.bl b) (.bl b)
 |int (i:Int):bx K mg ι H (.int i) (.int i)
 |str (x:Str):bx K mg ι H (.str x) (.str x)
 |tup {a:Addr} {cs:List CV} {vs:List V} (h:SqT K H a vs) (r:aQ K mg ι H cs vs):bx K mg ι H (.tup cs) (.ref a)
 |ref {n:Nat} {a:Addr} (h:ι[n]?=some a):bx K mg ι H (.ref n) (.ref a)
 |cls {x:Str} {C:Addr} (h:mg x=some (.ref C)):bx K mg ι H (.cls x) (.ref C)
 |ty (x:String):bx K mg ι H (.ty x) (.ty x)
 |scr {a:Addr} {ns:List Int} (h:(∃o,H a=some (.frz o (.lst (ns.map V.int))))\/(∀H',SqL K H' a (ns.map V.int))):bx K mg ι H (.scr ns) (.ref a)
 |exn {a C d:Addr} {c:Str} {fs:List (Str×CV)} {gs:List (Str×V)} (h:mg c=some (.ref C)) (ho:H a=some (aph a C d)) (hd:H d=some (.xd gs)) (r:fL K mg ι H fs gs):bx K mg ι H (.exn c fs) (.ref a)
 |clo {f c:Addr} {q:Str} {ρ:List (Option CV)} {σ:List (Option V)} (h:H c=some (LamX.CodeO c q)) (r:tX K mg ι H ρ σ):bx K mg ι H (.clo f c q ρ σ) (.ref f)
inductive aQ(K:ae)(mg:Str->Option Value)(ι:List Addr)(H:Hp):List CV->List V->Prop where
 |nil:aQ K mg ι H [] []
 |cons {c:CV} {v:V} {cs:List CV} {vs:List V} (r:bx K mg ι H c v) (rs:aQ K mg ι H cs vs):aQ K mg ι H (c::cs) (v::vs)
inductive fL(K:ae)(mg:Str->Option Value)(ι:List Addr)(H:Hp):List (Str×CV)->List (Str×V)->Prop where
 |nil:fL K mg ι H [] []
 |cons {f:Str} {c:CV} {v:V} {cs:List (Str×CV)} {vs:List (Str×V)} (r:bx K mg ι H c v) (rs:fL K mg ι H cs vs):fL K mg ι H ((f,c)::cs) ((f,v)::vs)
inductive tX(K:ae)(mg:Str->Option Value)(ι:List Addr)(H:Hp):List (Option CV)->List (Option V)->Prop where
 |nil:tX K mg ι H [] []
 |none {o:Option V} {cs:List (Option CV)} {vs:List (Option V)} (rs:tX K mg ι H cs vs):tX K mg ι H (none::cs) (o::vs)
 |some {c:CV} {v:V} {cs:List (Option CV)} {vs:List (Option V)} (r:bx K mg ι H c v) (rs:tX K mg ι H cs vs):tX K mg ι H (some c::cs) (some v::vs)
end
section
variable {K:ae}{mg:Str->Option Value}{ι ι':List Addr}{H H':Hp}{cs:List CV}{vs:List V}
theorem aQ.length:∀{cs:List CV}{vs:List V},aQ K mg ι H cs vs->cs.length=vs.length
 |_,_,.nil=>rfl
 |_,_,.cons _ rs=>by rw[ai,ai,aQ.length rs]
theorem aQ.get:∀{cs:List CV}{vs:List V}{i:Nat}{c:CV},aQ K mg ι H cs vs->cs[i]?=some c->∃v,vs[i]?=some v/\bx K mg ι H c v
 |_,_,_,_,.nil,e=>by simp at e
 |_,_,0,_,.cons r _,e=>by simp at e;subst e;exact⟨_,rfl,r⟩
 |_,_,i+1,c,.cons _ t,e=>by
  obtain⟨u,h1,h2⟩:=aQ.get (i:=i) (c:=c) t (by simpa using e)
  exact⟨u,by simpa using h1,h2⟩
theorem aQ.append:∀{cs ds:List CV}{vs us:List V},aQ K mg ι H cs vs->aQ K mg ι H ds us->aQ K mg ι H (cs++ds) (vs++us)
 |_,_,_,_,.nil,s=>s
 |_,_,_,_,.cons r t,s=>.cons r (aQ.append t s)
theorem aQ.set{c:CV}{v:V}(r:bx K mg ι H c v):∀{cs:List CV}{vs:List V}(i:Nat),aQ K mg ι H cs vs->aQ K mg ι H (cs.set i c) (vs.set i v)
 |_,_,_,.nil=>.nil
 |_,_,0,.cons _ t=>.cons r t
 |_,_,i+1,.cons q t=>.cons q (aQ.set r i t)
theorem aQ.take:∀{cs:List CV}{vs:List V}(n:Nat),aQ K mg ι H cs vs->aQ K mg ι H (cs.take n) (vs.take n)
 |_,_,0,_=>.nil
 |_,_,_+1,.nil=>.nil
 |_,_,n+1,.cons r t=>.cons r (aQ.take n t)
theorem aQ.drop:∀{cs:List CV}{vs:List V}(n:Nat),aQ K mg ι H cs vs->aQ K mg ι H (cs.drop n) (vs.drop n)
 |_,_,0,r=>r
 |_,_,_+1,.nil=>.nil
 |_,_,n+1,.cons _ t=>aQ.drop n t
theorem aQ.ints(ns:List Int):aQ K mg ι H (ns.map CV.int) (ns.map V.int):=by
 induction ns with
 |nil=>exact .nil
 |cons n r ih=>exact .cons (.int n) ih
theorem aQ.strs(ns:List Str):aQ K mg ι H (ns.map CV.str) (ns.map V.str):=by
 induction ns with
 |nil=>exact .nil
 |cons n r ih=>exact .cons (.str n) ih
/-- what is a tuple, or the script, stays -/
structure Tk(H H':Hp):Prop where
 tup:∀b xs,Rd H b (.tup xs)->Rd H' b (.tup xs)
 scr:∀b o xs,H b=some (.frz o (.lst xs))->H' b=some (.frz o (.lst xs))
 ext:∀b φ,H b=some (.ext φ)->H' b=some (.ext φ)
 xd:∀b gs,H b=some (.xd gs)->H' b=some (.xd gs)
theorem Tk.refl(H:Hp):Tk H H:=⟨fun _ _ h=>h,fun _ _ _ h=>h,fun _ _ h=>h,fun _ _ h=>h⟩
theorem SqT.tk{a:Addr}{xs:List V}(t:Tk H H')(h:SqT K H a xs):SqT K H' a xs:=by
 rcases h with h|h
 ·exact .inl (t.tup _ _ h)
 ·exact .inr h
mutual
theorem bx.mono(t:Tk H H')(m:List Addr):∀{c:CV}{v:V},bx K mg ι H c v->bx K mg (ι++m) H' c v
 |_,_,.non=>.non
 |_,_,.bl b=>.bl b
 |_,_,.int i=>.int i
 |_,_,.str x=>.str x
 |_,_,.tup h r=>.tup (SqT.tk t h) (aQ.mono t m r)
 |_,_,.ref h=>.ref (by rw[az (aa.mp h).1];exact h)
 |_,_,.cls h=>.cls h
 |_,_,.ty x=>.ty x
 |_,_,.scr h=>.scr (h.imp (fun⟨o,e⟩=>⟨o,t.scr _ _ _ e⟩) id)
 |_,_,.exn h ho hd r=>.exn h (t.ext _ _ ho) (t.xd _ _ hd) (fL.mono t m r)
 |_,_,.clo h r=>.clo (t.ext _ _ h) (tX.mono t m r)
theorem aQ.mono(t:Tk H H')(m:List Addr):∀{cs:List CV}{vs:List V},aQ K mg ι H cs vs->aQ K mg (ι++m) H' cs vs
 |_,_,.nil=>.nil
 |_,_,.cons r rs=>.cons (bx.mono t m r) (aQ.mono t m rs)
theorem fL.mono(t:Tk H H')(m:List Addr):∀{cs:List (Str×CV)}{vs:List (Str×V)},fL K mg ι H cs vs->fL K mg (ι++m) H' cs vs
 |_,_,.nil=>.nil
 |_,_,.cons r rs=>.cons (bx.mono t m r) (fL.mono t m rs)
theorem tX.mono(t:Tk H H')(m:List Addr):∀{cs:List (Option CV)}{vs:List (Option V)},tX K mg ι H cs vs->tX K mg (ι++m) H' cs vs
 |_,_,.nil=>.nil
 |_,_,.none rs=>.none (tX.mono t m rs)
 |_,_,.some r rs=>.some (bx.mono t m r) (tX.mono t m rs)
end
end
/-- dict entries: keys are ints and texts -/
def ckey:CV->Option Key
 |.int i=>some (.inl i)
 |.str x=>some (.inr x)
 |_=>none
inductive dB(K:ae)(mg:Str->Option Value)(ι:List Addr)(H:Hp):List (CV×CV)->List (Key×V)->Prop where
 |nil:dB K mg ι H [] []
 |cons {k:CV} {k':Key} {c:CV} {v:V} {cs:List (CV×CV)} {vs:List (Key×V)} (hk:ckey k=some k') (r:bx K mg ι H c v) (rs:dB K mg ι H cs vs):dB K mg ι H ((k,c)::cs) ((k',v)::vs)
def avq:CV->Option (List Key)
 |.tup cs=>cs.mapM ckey
 |_=>none
inductive Py(K:ae)(mg:Str->Option Value)(ι:List Addr)(H:Hp):List (CV×CV)->List (List Key×V)->Prop where
 |nil:Py K mg ι H [] []
 |cons {k:CV} {k':List Key} {c:CV} {v:V} {cs:List (CV×CV)} {vs:List (List Key×V)} (hk:avq k=some k') (r:bx K mg ι H c v) (rs:Py K mg ι H cs vs):Py K mg ι H ((k,c)::cs) ((k',v)::vs)
/-- what the def x makes: lambdas, or a generator expression -/
def tqn(x:Str):Str:=if x="first_above" then "<genexpr>" else "<lambda>"
/-- the name of what the def x makes -/
def tq(K:ae)(mg:Str->Option Value)(x:Str):Str:=match mg x with
 |some (.ref f)=>match K.lookup f with
  |some ⟨_,_,.func fd,_⟩=>(fd.qualname++".<locals>.")++tqn x
  |_=>""
 |_=>""
/-- the table of the code objects that the def x makes stands at P -/
def TabN(K:ae)(mg:Str->Option Value)(x:Str)(P:Addr):Prop:=∃(f c:Addr) (fd:FuncData) (oc:Value) (od:Option Addr) (osl:Array (Option Value)),mg x=some (.ref f)/\K.lookup f=some ⟨oc,od,.func fd,osl⟩/\fd.code=.ref c/\∃(o:Obj) (us:Array Value),K.lookup c=some o/\o.data=.fields us/\us[11]?=some (.ref P)
/-- the arx object o stands at a -/
def VN(K:ae)(mg:Str->Option Value)(ι:List Addr)(H:Hp)(a:Addr):CO->Prop
 |.lst cs=>∃vs,H a=some (.lst vs)/\aQ K mg ι H cs vs
 |.dic kvs=>(∃ps,H a=some (.dK ps)/\dB K mg ι H kvs ps)\/(kvs≠[]/\∃ps,H a=some (.dT ps)/\Py K mg ι H kvs ps)
 |.ins c fs=>∃C dx gs,mg c=some (.ref C)/\H a=some (.ins C dx gs)/\fL K mg ι H fs gs
 |.tab x=>TabN K mg x a/\LamX.TabS H a (tq K mg x)
 |.frz (.dic kvs)=>∃o ps,H a=some (.frz o (.dK ps))/\dB K mg ι H kvs ps
 |.frz _=>False
 |.mdc kvs=>∃ps,H a=some (.dK ps)/\dB K mg ι H kvs ps
 |.dct kvs=>∃ps,H a=some (.dT ps)/\Py K mg ι H kvs ps
 |.odd ks=>∃(o:Obj) (es:Array DictEntry) (ep:Nat) (vs:List V),H a=some (.frz o (.ext fun _=>True))/\o.ExactDict/\o.data=.dict es ep/\Vals vs (es.toList.map (·.key))/\aQ K mg ι H ks vs/\ks.length<=sizeLine/\(a==sysModules)=false
/-- the store S, laid at ι, is held by H -/
structure RS(K:ae)(mg:Str->Option Value)(ι:List Addr)(S:Sto)(H:Hp):Prop where
 len:ι.length=S.length
 nd:ι.Nodup
 obj:∀(n:Nat)(a:Addr)(o:CO),ι[n]?=some a->S[n]?=some o->VN K mg ι H a o
section
variable {K:ae}{mg:Str->Option Value}{ι ι' ι1 ι2:List Addr}{H H' H1 H2:Hp}{S S' S1 S2:Sto}{a:Addr}
theorem dB.mono(t:Tk H H')(m:List Addr):∀{cs:List (CV×CV)}{vs:List (Key×V)},dB K mg ι H cs vs->dB K mg (ι++m) H' cs vs
 |_,_,.nil=>.nil
 |_,_,.cons hk r rs=>.cons hk (r.mono t m) (dB.mono t m rs)
theorem Py.mono(t:Tk H H')(m:List Addr):∀{cs:List (CV×CV)}{vs:List (List Key×V)},Py K mg ι H cs vs->Py K mg (ι++m) H' cs vs
 |_,_,.nil=>.nil
 |_,_,.cons hk r rs=>.cons hk (r.mono t m) (Py.mono t m rs)
/-- what stands at a stays, the tuples stay -/
theorem VN.mono{o:CO}(t:Tk H H')(m:List Addr)(h:VN K mg ι H a o)(ha:H' a=H a):VN K mg (ι++m) H' a o:=by
 cases o with
 |lst cs=>obtain⟨vs,e,r⟩:=h;exact⟨vs,ha.trans e,r.mono t m⟩
 |dic kvs=>
  rcases h with⟨ps,e,r⟩|⟨hne,ps,e,r⟩
  ·exact .inl ⟨ps,ha.trans e,r.mono t m⟩
  ·exact .inr ⟨hne,ps,ha.trans e,r.mono t m⟩
 |ins c fs=>obtain⟨C,dx,gs,e1,e,r⟩:=h;exact⟨C,dx,gs,e1,ha.trans e,r.mono t m⟩
 |tab x=>
  obtain⟨n,ps,h1,h2,h3⟩:=h
  refine⟨n,ps,ha.trans h1,h2,fun pos cv hc=>?_⟩
  obtain⟨c,e1,e2⟩:=h3 pos cv hc
  exact⟨c,e1,t.ext _ _ e2⟩
 |frz o=>
  cases o with
  |dic kvs=>
   obtain⟨o,ps,e,r⟩:=h
   exact⟨o,ps,ha.trans e,r.mono t m⟩
  |_=>exact h.elim
 |mdc kvs=>obtain⟨ps,e,r⟩:=h;exact⟨ps,ha.trans e,r.mono t m⟩
 |dct kvs=>obtain⟨ps,e,r⟩:=h;exact⟨ps,ha.trans e,r.mono t m⟩
 |odd ks=>obtain⟨o,es,ep,vs,e,h1,h2,h3,r,h4⟩:=h;exact⟨o,es,ep,vs,ha.trans e,h1,h2,h3,r.mono t m,h4⟩
/-- an object of the store is no tuple, no script, no exception, no code -/
def Plain:HO->Prop
 |.tup _=>False
 |.frz _ (.tup _)=>False
 |.frz _ (.lst _)=>False
 |.xd _=>False
 |.ext _=>False
 |_=>True
theorem VN.plain{o:CO}(h:VN K mg ι H a o):∃u,H a=some u/\Plain u:=by
 cases o with
 |lst cs=>obtain⟨vs,e,r⟩:=h;exact⟨_,e,trivial⟩
 |dic kvs=>
  rcases h with⟨ps,e,r⟩|⟨hne,ps,e,r⟩
  ·exact⟨_,e,trivial⟩
  ·exact⟨_,e,trivial⟩
 |ins c fs=>obtain⟨C,dx,gs,e1,e,r⟩:=h;exact⟨_,e,trivial⟩
 |tab x=>obtain⟨n,ps,h1,_⟩:=h;exact⟨_,h1,trivial⟩
 |frz o=>
  cases o with
  |dic kvs=>
   obtain⟨o,ps,e,r⟩:=h
   exact⟨_,e,trivial⟩
  |_=>exact h.elim
 |mdc kvs=>obtain⟨ps,e,r⟩:=h;exact⟨_,e,trivial⟩
 |dct kvs=>obtain⟨ps,e,r⟩:=h;exact⟨_,e,trivial⟩
 |odd ks=>obtain⟨o,es,ep,vs,e,_⟩:=h;exact⟨_,e,trivial⟩
theorem RS.at(R:RS K mg ι S H){n:Nat}{o:CO}(e:S[n]?=some o):∃a,ι[n]?=some a/\VN K mg ι H a o:=by
 have hl:n<ι.length:=by rw[R.len];exact(aa.mp e).1
 exact⟨ι[n],ay hl,R.obj n _ o (ay hl) e⟩
theorem RS.mem(R:RS K mg ι S H)(h:a∈ι):∃u,H a=some u/\Plain u:=by
 obtain⟨n,hn,e⟩:=List.mem_iff_getElem.mp h
 have hs:n<S.length:=by rw[<-R.len];exact hn
 exact(R.obj n a S[n] (by rw[ay hn,e]) (ay hs)).plain
theorem RS.afJ(R:RS K mg ι S H){u:HO}(e:H a=some u)(n:¬Plain u):a∉ι:=fun h=>by
 obtain⟨u',e',p⟩:=R.mem h
 rw[e]at e'
 cases e'
 exact n p
/-- no table of code objects -/
def ajm:HO->Prop
 |.tbl _=>False
 |_=>True
/-- a dict that is being walked -/
def Lkd:HO->Prop
 |.frz _ (.dK _)=>True
 |.frz _ (.ext _)=>True
 |_=>False
/-- all but what is at ι and the tables stays -/
def Frm(ι:List Addr)(H H':Hp):Prop:=∀b o,(b∉ι\/Lkd o)->ajm o->H b=some o->H' b=some o
theorem Frm.refl:Frm ι H H:=fun _ _ _ _ h=>h
theorem RS.tk(R:RS K mg ι S H)(f:Frm ι H H'):Tk H H':=by
 refine⟨fun b xs h=>?_,fun b o xs h=>f b _ (.inl (R.afJ h fun z=>z)) trivial h,fun b φ h=>f b _ (.inl (R.afJ h fun z=>z)) trivial h,fun b gs h=>f b _ (.inl (R.afJ h fun z=>z)) trivial h⟩
 rcases h with h|⟨o,h⟩
 ·exact .inl (f b _ (.inl (R.afJ h fun z=>z)) trivial h)
 ·exact .inr ⟨o,f b _ (.inl (R.afJ h fun z=>z)) trivial h⟩
/-- one came from the other: new objects behind the old ones -/
structure Nx(K:ae)(mg:Str->Option Value)(ι:List Addr)(H:Hp)(S':Sto)(ι':List Addr)(H':Hp):Prop where
 rs:RS K mg ι' S' H'
 ext:∃m,ι'=ι++m/\∀p∈m,∀o,H p=some o->¬ajm o
 fr:Frm ι H H'
theorem Nx.refl(R:RS K mg ι S H):Nx K mg ι H S ι H:=⟨R,⟨[],by simp,fun p h=>nomatch h⟩,Frm.refl⟩
theorem Nx.trans(a:Nx K mg ι H S1 ι1 H1)(b:Nx K mg ι1 H1 S2 ι2 H2):Nx K mg ι H S2 ι2 H2:=by
 obtain⟨m1,e1,f1⟩:=a.ext
 obtain⟨m2,e2,f2⟩:=b.ext
 have fr:Frm ι H H2:=fun c o hc nt h=>b.fr c o (hc.imp (fun hc z=>by
  rw[e1]at z
  rcases ck.mp z with z|z
  ·exact hc z
  ·exact f1 c z o h nt) id) nt (a.fr c o hc nt h)
 refine⟨b.rs,⟨m1++m2,by rw[e2,e1,a7],fun p hp o e nt=>?_⟩,fr⟩
 rcases ck.mp hp with z|z
 ·exact f1 p z o e nt
 ·by_cases hp:p∈ι
  ·have nd:=b.rs.nd
   rw[e2,f9]at nd
   exact nd.2.2 p (by rw[e1];exact eQ _ hp) p z rfl
  ·exact f2 p z o (a.fr p o (.inl hp) nt e) nt
theorem Nx.rep(R:RS K mg ι S H)(x:Nx K mg ι H S' ι' H'){c:CV}{v:V}(r:bx K mg ι H c v):bx K mg ι' H' c v:=by
 obtain⟨m,rfl,_⟩:=x.ext
 exact r.mono (R.tk x.fr) m
theorem Nx.reps(R:RS K mg ι S H)(x:Nx K mg ι H S' ι' H'){c:List CV}{v:List V}(r:aQ K mg ι H c v):aQ K mg ι' H' c v:=by
 obtain⟨m,rfl,_⟩:=x.ext
 exact r.mono (R.tk x.fr) m
theorem Nx.asQ(R:RS K mg ι S H)(x:Nx K mg ι H S' ι' H'){c:List (Str×CV)}{v:List (Str×V)}(r:fL K mg ι H c v):fL K mg ι' H' c v:=by
 obtain⟨m,rfl,_⟩:=x.ext
 exact r.mono (R.tk x.fr) m
/-- the slots -/
structure d8(K:ae)(mg:Str->Option Value)(ι:List Addr)(H:Hp)(ρ:Rho)(σ:cz):Prop where
 len:ρ.length=σ.length
 at':∀(i:Nat)(c:CV),ρ[i]?=some (some c)->∃v,σ[i]?=some (some v)/\bx K mg ι H c v
theorem Nx.cY(R:RS K mg ι S H)(x:Nx K mg ι H S' ι' H'){ρ:Rho}{σ:cz}(r:d8 K mg ι H ρ σ):d8 K mg ι' H' ρ σ:=
 ⟨r.len,fun i c e=>let ⟨v,h1,h2⟩:=r.at' i c e;⟨v,h1,x.rep R h2⟩⟩
theorem d8.set{ρ:Rho}{σ:cz}{c:CV}{v:V}(r:d8 K mg ι H ρ σ)(i:Nat)(h:bx K mg ι H c v):d8 K mg ι H (ρ.set i (some c)) (σ.set i (some v)):=by
 refine⟨by rw[a8,a8,r.len],fun j d e=>?_⟩
 rw[br]at e
 rw[br]
 split at e
 ·rename_i hij
  subst hij
  rw[if_pos rfl]
  split at e
  ·rename_i hl
   rw[if_pos (by rw[<-r.len];exact hl)]
   cases e
   exact⟨v,rfl,h⟩
  ·cases e
 ·rename_i hij
  rw[if_neg hij]
  exact r.at' j d e
/-- a new object -/
theorem RS.new(R:RS K mg ι S H){p:Addr}{u:HO}{o:CO}(hp:H p=none)(hu:VN K mg (ι++[p]) (upd H p u) p o):Nx K mg ι H (S++[o]) (ι++[p]) (upd H p u):=by
 have hpn:p∉ι:=fun z=>by
  obtain⟨u',e,_⟩:=R.mem z
  rw[hp]at e;cases e
 have keep:∀b o,H b=some o->upd H p u b=some o:=fun b o e=>by rw[upd_ne (ne_of_none e hp)];exact e
 have fr:Frm ι H (upd H p u):=fun b o _ _ e=>keep b o e
 have tk:=R.tk fr
 refine⟨⟨by rw[bg,bg,R.len];rfl,?_,fun n a q e1 e2=>?_⟩,⟨[p],rfl,fun b hb o e=>by rw[cn.mp hb,hp]at e;cases e⟩,fr⟩
 ·rw[f9]
  refine⟨R.nd,dm.mpr ⟨by simp,List.nodup_nil⟩,fun x hx y hy=>?_⟩
  rw[cn.mp hy]
  exact fun z=>hpn (z▸hx)
 ·by_cases hn:n<ι.length
  ·rw[az hn]at e1
   rw[az (by rw[<-R.len];exact hn)]at e2
   have ho:=R.obj n a q e1 e2
   obtain⟨u',hu',_⟩:=ho.plain
   exact ho.mono tk [p] (by rw[upd_ne (ne_of_none hu' hp)])
  ·have hn':ι.length<=n:=gp hn
   rw[aL hn']at e1
   rw[aL (by rw[<-R.len];exact hn')]at e2
   rw[<-R.len]at e2
   cases k:n-ι.length with
   |zero=>
    rw[k]at e1 e2
    simp at e1 e2
    subst e1;subst e2
    exact hu
   |succ k'=>rw[k]at e1;simp at e1
/-- an object is exchanged -/
theorem RS.put(R:RS K mg ι S H){n:Nat}{a:Addr}{u:HO}{o:CO}(ha:ι[n]?=some a)(hu:(∀gs,u≠ .xd gs)->Tk H (upd H a u)->VN K mg ι (upd H a u) a o)(hx:∀gs,u≠ .xd gs){u0:HO}(h0:H a=some u0)(hk:¬Lkd u0):Nx K mg ι H (S.set n o) ι (upd H a u):=by
 have hm:a∈ι:=bw ha
 have fr:Frm ι H (upd H a u):=fun b q hb _ e=>by
  by_cases z:b=a
  ·subst z
   rw[h0]at e;cases e
   exact(hb.elim (fun hb=>hb hm) hk).elim
  ·rw[upd_ne z];exact e
 have tk:=R.tk fr
 have hn:n<ι.length:=(aa.mp ha).1
 refine⟨⟨by rw[a8];exact R.len,R.nd,fun k b q e1 e2=>?_⟩,⟨[],by simp,fun _ h=>nomatch h⟩,fr⟩
 rw[br]at e2
 split at e2
 ·rename_i hk
  subst hk
  rw[ha]at e1;cases e1
  split at e2
  ·cases e2;exact hu hx tk
  ·cases e2
 ·rename_i hk
  have hne:b≠a:=fun z=>by
   subst z
   exact hk ((i7 hn R.nd).mp (ha.trans e1.symm))
  have ho:=R.obj k b q e1 e2
  have:=ho.mono tk [] (by rw[upd_ne hne])
  rw[aT]at this
  exact this
end
/-- what is wanted behind a computation -/
def ag8(K:ae)(mg:Str->Option Value)(ι:List Addr)(H:Hp)(c:Str)(fs:List (Str×CV))(S':Sto)(B:XK):Prop:=
 ∀(C d:Addr)(gs:List (Str×V))(ι':List Addr)(H':Hp),mg c=some (.ref C)->Nx K mg ι H S' ι' H'->H' d=some (.xd gs)->fL K mg ι' H' fs gs->B (.ref C) (some d) H'
def Fin{α β:Type}(K:ae)(mg:Str->Option Value)(ι:List Addr)(H:Hp)(R:List Addr->Hp->α->β->Prop)(r:Res α)(Q:β->Hp->Prop)(B:XK):Prop:=match r with
 |.ok d S'=>∀v ι' H',Nx K mg ι H S' ι' H'->R ι' H' d v->Q v H'
 |.exc c fs S'=>ag8 K mg ι H c fs S' B
 |.bad=>False
section
variable {α β γ δ:Type}{K:ae}{mg:Str->Option Value}{ι ι' ι1 ι2:List Addr}{H H' H1 H2:Hp}{S S' S1 S2:Sto}{B:XK}
theorem ag8.after{c:Str}{fs:List (Str×CV)}(x:Nx K mg ι H S1 ι1 H1)(h:ag8 K mg ι H c fs S' B):ag8 K mg ι1 H1 c fs S' B:=fun C d gs ι' H' e n=>h C d gs ι' H' e (x.trans n)
theorem Fin.after{R:List Addr->Hp->α->β->Prop}{r:Res α}{Q:β->Hp->Prop}(x:Nx K mg ι H S1 ι1 H1)(h:Fin K mg ι H R r Q B):Fin K mg ι1 H1 R r Q B:=by
 cases r with
 |ok d S'=>exact fun v ι' H' n=>h v ι' H' (x.trans n)
 |exc c fs S'=>exact ag8.after x h
 |bad=>exact h
theorem Fin.imp{R:List Addr->Hp->α->β->Prop}{r:Res α}{Q Q':β->Hp->Prop}(h:Fin K mg ι H R r Q B)(k:∀v H',Q v H'->Q' v H'):Fin K mg ι H R r Q' B:=by
 cases r with
 |ok d S'=>exact fun v ι' H' n q=>k _ _ (h v ι' H' n q)
 |exc c fs S'=>exact h
 |bad=>exact h
/-- one computation behind another -/
theorem Fin.bnd{R:List Addr->Hp->α->β->Prop}{R':List Addr->Hp->γ->δ->Prop}{r:Res α}{k:α->M γ}{Q:δ->Hp->Prop}(h:Fin K mg ι H R' (r.bnd k) Q B):
    Fin K mg ι H R r (fun v H1=>∃ι1 S1 d,Nx K mg ι H S1 ι1 H1/\R ι1 H1 d v/\Fin K mg ι1 H1 R' (k d S1) Q B) B:=by
  cases r with
  |ok d S1=>exact fun v ι1 H1 n q=>⟨ι1,S1,d,n,q,Fin.after n h⟩
  |exc c fs S'=>exact h
  |bad=>exact h
theorem Fin.ret{R:List Addr->Hp->α->β->Prop}{d:α}{v:β}{Q:β->Hp->Prop}(Rs:RS K mg ι S H)(h:Fin K mg ι H R (.ok d S) Q B)(r:R ι H d v):Q v H:=h v ι H (Nx.refl Rs) r
end
def tD(K:ae)(mg:Str->Option Value)(W:WX)(m:Rho->M CV):TE:=fun σ H Q=>∃ι ρ S,RS K mg ι S H/\d8 K mg ι H ρ σ/\Fin K mg ι H (bx K mg) (m ρ S) Q (fun c d H'=>W c d σ H')
def tDT(K:ae)(mg:Str->Option Value)(W:WX)(m:Rho->M Bool):TT:=fun σ H Q=>∃ι ρ S,RS K mg ι S H/\d8 K mg ι H ρ σ/\Fin K mg ι H (fun _ _ a b=>a=b) (m ρ S) Q (fun c d H'=>W c d σ H')
def tDA(K:ae)(mg:Str->Option Value)(W:WX)(m:Rho->M (List CV)):TA:=fun σ H Q=>∃ι ρ S,RS K mg ι S H/\d8 K mg ι H ρ σ/\Fin K mg ι H (aQ K mg) (m ρ S) Q (fun c d H'=>W c d σ H')
abbrev GE(X:Cx)(W:WX)(e:Expr)(m:Rho->M CV):Prop:=PE X e (tD X.K X.mg W m)
abbrev GT(X:Cx)(W:WX)(e:Expr)(m:Rho->M Bool):Prop:=PT X e (tDT X.K X.mg W m)
abbrev GW(X:Cx)(W:WX)(e:Expr)(m:Rho->M Bool):Prop:=PW X e (tDT X.K X.mg W m)
abbrev GA(X:Cx)(W:WX)(es:List Expr)(m:Rho->M (List CV)):Prop:=PA X es (tDA X.K X.mg W m)
theorem PE.imp{X:Cx}{e:Expr}{t t':TE}(h:PE X e t)(k:∀σ H Q,t' σ H Q->t σ H Q):PE X e t':=⟨fun pins s σ H Q I q=>h.run pins s σ H Q I (k σ H Q q)⟩
theorem PT.imp{X:Cx}{e:Expr}{t t':TT}(h:PT X e t)(k:∀σ H Q,t' σ H Q->t σ H Q):PT X e t':=⟨fun pins s σ H Q I q=>h.run pins s σ H Q I (k σ H Q q)⟩
theorem PW.imp{X:Cx}{e:Expr}{t t':TT}(h:PW X e t)(k:∀σ H Q,t' σ H Q->t σ H Q):PW X e t':=⟨fun wh pins s σ H Q I q=>h.run wh pins s σ H Q I (k σ H Q q)⟩
theorem PA.imp{X:Cx}{e:List Expr}{t t':TA}(h:PA X e t)(k:∀σ H Q,t' σ H Q->t σ H Q):PA X e t':=⟨fun pos pins s σ H Q I q=>h.run pos pins s σ H Q I (k σ H Q q)⟩
section
variable {X:Cx}{W:WX}{a b c e:Expr}{es:List Expr}{ma mb mc me:Rho->M CV}{mt mu:Rho->M Bool}{ms:Rho->M (List CV)}{pos:Pos}
def aK(i:Nat):Rho->M CV:=fun ρ S=>match ρ[i]? with
 |some (some c)=>.ok c S
 |_=>.bad
def mC(c:CV):Rho->M CV:=fun _ S=>.ok c S
theorem aiK{i:Nat}(h:PE X e (tVar i)):GE X W e (aK i):=PE.imp h fun σ H Q ⟨ι,ρ,S,Rs,rs,f⟩=>by
 unfold aK at f
 split at f
 ·rename_i c ec
  obtain⟨v,hv,r⟩:=rs.at' i c ec
  exact⟨v,hv,Fin.ret Rs f r⟩
 ·exact f.elim
theorem gv(i:Nat){x:Str}{pos:Pos}(hN:X.N[i]?=some x:=by rfl)(hv:Vis X.env.scope x:=by first|exact cw rfl|exact gr (cw rfl)|exact gr (gr rfl))(hd:(x==("__debug__":Str))=false:=by decide)
    (hcd:(x==("__classdict__":Str))=false:=by decide):GE X W (.Name x pos) (aK i):=aiK (pe_var hN hv hd hcd)
theorem xZ{v:V}{c:CV}(h:PE X e (tC v))(r:∀ι H,bx X.K X.mg ι H c v):GE X W e (mC c):=PE.imp h fun σ H Q ⟨ι,ρ,S,Rs,rs,f⟩=>Fin.ret Rs f (r ι H)
theorem ge_int{i:Int}{j pos}:GE X W (.Constant (.int i) j pos) (mC (.int i)):=xZ pe_int fun _ _=>.int i
theorem vJ{i:Bool}{j pos}:GE X W (.Constant (.bool i) j pos) (mC (.bl i)):=xZ pe_bl fun _ _=>.bl i
theorem sY{j pos}:GE X W (.Constant .none j pos) (mC .non):=xZ pe_non fun _ _=>.non
theorem ge_str{i:Str}{j pos}:GE X W (.Constant (.str i) j pos) (mC (.str i)):=xZ pe_str fun _ _=>.str i
/-- a constant of the module -/
theorem abV{x y:Str}{t:Tok}{pos:Pos}(hg:Gl X x)(hm:X.mg x=some (.str y t))(hd:(x==("__debug__":Str))=false:=by decide):GE X W (.Name x pos) (mC (.str y)):=xZ (pe_glob (v:=.str y) hg hm ⟨t,rfl⟩ hd) fun _ _=>.str y
theorem Qx{x:Str}{i:Int}{t:Tok}{pos:Pos}(hg:Gl X x)(hm:X.mg x=some (.int i t))(hd:(x==("__debug__":Str))=false:=by decide):GE X W (.Name x pos) (mC (.int i)):=xZ (pe_glob (v:=.int i) hg hm ⟨t,rfl⟩ hd) fun _ _=>.int i
theorem Wb{x:Str}{C:Addr}{pos:Pos}(hg:Gl X x)(hm:X.mg x=some (.ref C))(hd:(x==("__debug__":Str))=false:=by decide):GE X W (.Name x pos) (mC (.cls x)):=xZ (pe_glob (v:=.ref C) hg hm rfl hd) fun _ _=>.cls hm
theorem acG{x:Str}{T:String}{pos:Pos}(hg:Gl X x)(hm:X.mg x=none)(hv:bootBuiltins x=some (.type T))(hn:x≠"__name__":=by decide)(hd:(x==("__debug__":Str))=false:=by decide):GE X W (.Name x pos) (mC (.ty T)):=xZ (pe_bltn (v:=.ty T) hg hm hv rfl hn hd) fun _ _=>.ty T
/-- f does on values what g does on the arx -/
def OpG(X:Cx)(W:WX)(f:Value->Value->Sem Value)(g:CV->CV->M CV):Prop:=
 ∀(pins:List (Addr×Obj))(s:Shared)(σ:cz)(H:Hp)(ι:List Addr)(S:Sto)(x y:CV)(v u:V)(a b:Value)(Q:VK),Inv X pins σ H s->RelV v a->RelV u b->RS X.K X.mg ι S H->bx X.K X.mg ι H x v->bx X.K X.mg ι H y u->
  Fin X.K X.mg ι H (bx X.K X.mg) (g x y S) Q (fun c d H'=>W c d σ H')->wpAny (model X.prog X.w) X.A (f a b) (EP X pins σ Q) X.xe s
def UnG(X:Cx)(W:WX)(f:Value->Sem Value)(g:CV->M CV):Prop:=
 ∀(pins:List (Addr×Obj))(s:Shared)(σ:cz)(H:Hp)(ι:List Addr)(S:Sto)(x:CV)(v:V)(a:Value)(Q:VK),Inv X pins σ H s->RelV v a->RS X.K X.mg ι S H->bx X.K X.mg ι H x v->
  Fin X.K X.mg ι H (bx X.K X.mg) (g x S) Q (fun c d H'=>W c d σ H')->wpAny (model X.prog X.w) X.A (f a) (EP X pins σ Q) X.xe s
def oH(X:Cx)(W:WX)(f:Value)(g:List CV->M CV):Prop:=
 ∀(pins:List (Addr×Obj))(s:Shared)(σ:cz)(H:Hp)(ι:List Addr)(S:Sto)(xs:List CV)(vs:List V)(us:List Value)(Q:VK),Inv X pins σ H s->Vals vs us->RS X.K X.mg ι S H->aQ X.K X.mg ι H xs vs->
  Fin X.K X.mg ι H (bx X.K X.mg) (g xs S) Q (fun c d H'=>W c d σ H')->wpAny (model X.prog X.w) X.A (call f us) (EP X pins σ Q) X.xe s
def mOp(g:CV->CV->M CV)(ma mb:Rho->M CV):Rho->M CV:=fun ρ=>bnd (ma ρ) fun x=>bnd (mb ρ) fun y=>g x y
def mUn(g:CV->M CV)(ma:Rho->M CV):Rho->M CV:=fun ρ=>bnd (ma ρ) fun x=>g x
/-- two operands, from the left -/
theorem two(ha:GE X W a ma)(hb:GE X W b mb){g:CV->CV->M CV}{pins:List (Addr×Obj)}{s:Shared}{σ:cz}{H:Hp}{Q:VK}(I:Inv X pins σ H s)(h:tD X.K X.mg W (mOp g ma mb) σ H Q){Q':Value->Shared->Prop}{f:Value->Value->Sem Value}
    (hf:∀v' u' s2 v u H2 ι S x y,Inv X pins σ H2 s2->RelV v v'->RelV u u'->RS X.K X.mg ι S H2->bx X.K X.mg ι H2 x v->bx X.K X.mg ι H2 y u->Fin X.K X.mg ι H2 (bx X.K X.mg) (g x y S) Q (fun c d H'=>W c d σ H')->
      wpAny (model X.prog X.w) X.A (f v' u') Q' X.xe s2):
    wpAny (model X.prog X.w) X.A (eval a X.env) (fun v s₁=>wpAny (model X.prog X.w) X.A (eval b X.env) (fun u s₂=>wpAny (model X.prog X.w) X.A (f v u) Q' X.xe s₂) X.xe s₁) X.xe s:=by
  obtain⟨ι,ρ,S,Rs,rs,fi⟩:=h
  refine thn (ha.run pins s σ H _ I ⟨ι,ρ,S,Rs,rs,Fin.bnd (R:=bx X.K X.mg) fi⟩) fun v' s1 ⟨v,H1,I1,r1,ι1,S1,x,n1,rx,f1⟩=>?_
  refine thn (hb.run pins s1 σ H1 _ I1 ⟨ι1,ρ,S1,n1.rs,n1.cY Rs rs,Fin.bnd (R:=bx X.K X.mg) f1⟩) fun u' s2 ⟨u,H2,I2,r2,ι2,S2,y,n2,ry,f2⟩=>?_
  exact hf v' u' s2 v u H2 ι2 S2 x y I2 r1 r2 n2.rs (n2.rep n1.rs rx) ry f2
theorem fG{op:Operator}{g:CV->CV->M CV}(ho:OpG X W (binaryOp op) g)(ha:GE X W a ma)(hb:GE X W b mb):GE X W (.BinOp a op b pos) (mOp g ma mb):=
 ⟨fun pins s σ H Q I h=>wpAny_BinOp (two ha hb I h fun v' u' s2 v u H2 ι S x y I2 r1 r2 R rx ry f=>ho pins s2 σ H2 ι S x y v u v' u' Q I2 r1 r2 R rx ry f)⟩
theorem asi{op:UnaryOp}{g:CV->M CV}(ho:UnG X W (unaryOp op) g)(ha:GE X W a ma):GE X W (.UnaryOp op a pos) (mUn g ma):=
 ⟨fun pins s σ H Q I ⟨ι,ρ,S,Rs,rs,fi⟩=>UnaryOp_ (thn (ha.run pins s σ H _ I ⟨ι,ρ,S,Rs,rs,Fin.bnd (R:=bx X.K X.mg) fi⟩) fun v' s1 ⟨v,H1,I1,r1,ι1,S1,x,n1,rx,f1⟩=>ho pins s1 σ H1 ι1 S1 x v v' Q I1 r1 n1.rs rx f1)⟩
theorem jJ{op:CmpOp}{g:CV->CV->M CV}(ho:OpG X W (compareOp op) g)(ha:GE X W a ma)(hb:GE X W b mb)(hm:behindInMarks op b=false:=by first|exact nomark _|rfl|with_unfolding_all rfl):GE X W (.Compare a [op] [b] pos) (mOp g ma mb):=
 ⟨fun pins s σ H Q I h=>wpAny_Compare1 (two ha hb I h fun v' u' s2 v u H2 ι S x y I2 r1 r2 R rx ry f=>ho pins s2 σ H2 ι S x y v u v' u' Q I2 r1 r2 R rx ry f) hm⟩
/-- a value as a test: it must be a bool -/
def asB:CV->M Bool
 |.bl b=>ret b
 |_=>bad
def eO(m:Rho->M CV):Rho->M Bool:=fun ρ=>bnd (m ρ) asB
theorem anb{K:ae}{mg:Str->Option Value}{ι:List Addr}{H:Hp}{S:Sto}{x:CV}{v:V}{Q:Bool->Hp->Prop}{B:XK}(Rs:RS K mg ι S H)(r:bx K mg ι H x v)(h:Fin K mg ι H (fun _ _ a b=>a=b) (asB x S) Q B):∃k,v=.bl k/\Q k H:=by
 cases x with
 |bl k=>cases r;exact⟨k,rfl,Fin.ret Rs h rfl⟩
 |_=>exact h.elim
theorem amC{σ:cz}{H:Hp}{Q:Bool->Hp->Prop}(h:tDT X.K X.mg W (eO ma) σ H Q):tD X.K X.mg W ma σ H (fun v H1=>∃k,v=.bl k/\Q k H1):=by
 obtain⟨ι,ρ,S,Rs,rs,fi⟩:=h
 exact⟨ι,ρ,S,Rs,rs,(Fin.bnd (R:=bx X.K X.mg) fi).imp fun v H1 ⟨ι1,S1,x,n1,rx,f1⟩=>anb n1.rs rx f1⟩
theorem dZ{op:CmpOp}{g:CV->CV->M CV}(ho:OpG X W (compareOp op) g)(ha:GE X W a ma)(hb:GE X W b mb)(hm:behindInMarks op b=false:=by first|exact nomark _|rfl|with_unfolding_all rfl):GT X W (.Compare a [op] [b] pos) (eO (mOp g ma mb)):=by
 refine⟨fun pins s σ H Q I h=>?_⟩
 have h':=amC h
 refine wpAny_isTrue_Compare1 (two ha hb I h' fun v' u' s2 v u H2 ι S x y I2 r1 r2 R rx ry f=>thn (ho pins s2 σ H2 ι S x y v u v' u' _ I2 r1 r2 R rx ry f) fun c s3 ⟨z,H3,I3,r3,k,ek,q3⟩=>?_) hm
 subst ek
 cases r3
 exact wpAny_truthy_bool ⟨H3,I3,q3⟩
def apk(X:Cx)(W:WX)(g:CV->M Bool):Prop:=
 ∀(pins:List (Addr×Obj))(s:Shared)(σ:cz)(H:Hp)(ι:List Addr)(S:Sto)(x:CV)(v:V)(a:Value)(Q:Bool->Hp->Prop),Inv X pins σ H s->RelV v a->RS X.K X.mg ι S H->bx X.K X.mg ι H x v->
  Fin X.K X.mg ι H (fun _ _ a b=>a=b) (g x S) Q (fun c d H'=>W c d σ H')->wpAny (model X.prog X.w) X.A (truthy a) (TP X pins σ Q) X.xe s
/-- truth of what is no instance -/
def nJ:CV->M Bool:=fun x S=>match x with
 |.non=>.ok false S
 |.bl b=>.ok b S
 |.int i=>.ok (i !=0) S
 |.str y=>if y.length<=sizeLine then .ok ((y.length:Int) !=0) S else .bad
 |.tup xs=>.ok (!xs.isEmpty) S
 |.ref n=>match S[n]? with
  |some (.lst xs)=>.ok (!xs.isEmpty) S
  |_=>.bad
 |_=>.bad
theorem aQ.isEmpty{K:ae}{mg:Str->Option Value}{ι:List Addr}{H:Hp}{cs:List CV}{vs:List V}(r:aQ K mg ι H cs vs):cs.isEmpty=vs.isEmpty:=by cases r<;>rfl
theorem j8:apk X W nJ:=by
 intro pins s σ H ι S x v a Q I rv Rs rx f
 refine tru_ok pins s σ H v a Q I rv ?_
 unfold nJ at f
 cases rx with
 |non=>exact⟨false,rfl,Fin.ret Rs f rfl⟩
 |bl b=>exact⟨b,rfl,Fin.ret Rs f rfl⟩
 |int i=>exact⟨_,rfl,Fin.ret Rs f rfl⟩
 |str y=>
  dsimp only at f
  split at f
  ·rename_i h;exact⟨_,⟨h,rfl⟩,Fin.ret Rs f rfl⟩
  ·exact f.elim
 |tup h r=>exact⟨_,.inr (.inl ⟨_,h,rfl⟩),Fin.ret Rs f (by rw[r.isEmpty])⟩
 |ref h=>
  dsimp only at f
  split at f
  ·rename_i n' a' xs e
   obtain⟨vs,e1,r⟩:=Rs.obj _ _ _ h e
   exact⟨_,.inl ⟨_,SqL.of e1,rfl⟩,Fin.ret Rs f (by rw[r.isEmpty])⟩
  ·exact f.elim
 |cls h=>exact f.elim
 |ty x=>exact f.elim
 |scr h=>exact f.elim
 |exn _ _ _ _=>exact f.elim
 |clo _ _=>exact f.elim
def Iv(g:CV->M Bool)(m:Rho->M CV):Rho->M Bool:=fun ρ=>bnd (m ρ) g
/-- any expression whose test is its value's truth -/
theorem pX{g:CV->M Bool}(ht:apk X W g)(ha:GE X W e me)(he:∀whole,isTrue e X.env whole=(do let v<-whole;standAt e.pos;holding [v] (truthy v)):=by intro _;rfl):GT X W e (Iv g me):=
 ⟨fun pins s σ H Q I ⟨ι,ρ,S,Rs,rs,fi⟩=>isTrue_plain (thn (ha.run pins s σ H _ I ⟨ι,ρ,S,Rs,rs,Fin.bnd (R:=bx X.K X.mg) fi⟩) fun v' s1 ⟨v,H1,I1,r1,ι1,S1,x,n1,rx,f1⟩=>ht pins s1 σ H1 ι1 S1 x v v' Q I1 r1 n1.rs rx f1) (he _)⟩
def afC(t u:Rho->M Bool):Rho->M Bool:=fun ρ=>bnd (t ρ) fun c=>if c then u ρ else ret false
def mOr(t u:Rho->M Bool):Rho->M Bool:=fun ρ=>bnd (t ρ) fun c=>if c then ret true else u ρ
def RW(t:Rho->M Bool):Rho->M Bool:=fun ρ=>bnd (t ρ) fun c=>ret (!c)
variable {rest:List Expr}
theorem Wg(ha:GT X W a mt):GW X W (.BoolOp .And [a] pos) mt:=pw_and1 ha
theorem O8(ha:GT X W a mt):GW X W (.BoolOp .Or [a] pos) mt:=pw_or1 ha
theorem arC{σ:cz}{H:Hp}{Q:Bool->Hp->Prop}(h:tDT X.K X.mg W (afC mt mu) σ H Q):tAnd (tDT X.K X.mg W mt) (tDT X.K X.mg W mu) σ H Q:=by
 obtain⟨ι,ρ,S,Rs,rs,fi⟩:=h
 refine⟨ι,ρ,S,Rs,rs,(Fin.bnd (R:=fun _ _ a b=>a=b) fi).imp fun c H1 ⟨ι1,S1,c',n1,e,f1⟩=>?_⟩
 subst e
 cases c' with
 |true=>exact⟨ι1,ρ,S1,n1.rs,n1.cY Rs rs,f1⟩
 |false=>exact Fin.ret n1.rs f1 rfl
theorem auB{σ:cz}{H:Hp}{Q:Bool->Hp->Prop}(h:tDT X.K X.mg W (mOr mt mu) σ H Q):tOr (tDT X.K X.mg W mt) (tDT X.K X.mg W mu) σ H Q:=by
 obtain⟨ι,ρ,S,Rs,rs,fi⟩:=h
 refine⟨ι,ρ,S,Rs,rs,(Fin.bnd (R:=fun _ _ a b=>a=b) fi).imp fun c H1 ⟨ι1,S1,c',n1,e,f1⟩=>?_⟩
 subst e
 cases c' with
 |true=>exact Fin.ret n1.rs f1 rfl
 |false=>exact⟨ι1,ρ,S1,n1.rs,n1.cY Rs rs,f1⟩
theorem acH(ha:GT X W a mt)(hb:GW X W (.BoolOp .And (b::rest) pos) mu):GW X W (.BoolOp .And (a::b::rest) pos) (afC mt mu):=PW.imp (pw_and ha hb) fun _ _ _ h=>arC h
theorem Wh(ha:GT X W a mt)(hb:GW X W (.BoolOp .Or (b::rest) pos) mu):GW X W (.BoolOp .Or (a::b::rest) pos) (mOr mt mu):=PW.imp (pw_or ha hb) fun _ _ _ h=>auB h
theorem abX(h:GW X W e mt):GT X W e mt:=PW.pt h
theorem xJ(ha:GT X W a mt):GT X W (.UnaryOp .Not a pos) (RW mt):=PT.imp (pt_not ha) fun σ H Q ⟨ι,ρ,S,Rs,rs,fi⟩=>⟨ι,ρ,S,Rs,rs,(Fin.bnd (R:=fun _ _ a b=>a=b) fi).imp fun c H1 ⟨ι1,S1,c',n1,e,f1⟩=>by
 subst e
 exact Fin.ret n1.rs f1 rfl⟩
def mIf(t:Rho->M Bool)(ma mb:Rho->M CV):Rho->M CV:=fun ρ=>bnd (t ρ) fun c=>if c then ma ρ else mb ρ
theorem ge_if(hc:GT X W c mt)(ha:GE X W a ma)(hb:GE X W b mb):GE X W (.IfExp c a b pos) (mIf mt ma mb):=PE.imp (pe_ifExp hc ha hb) fun σ H Q ⟨ι,ρ,S,Rs,rs,fi⟩=>by
 refine⟨ι,ρ,S,Rs,rs,(Fin.bnd (R:=fun _ _ a b=>a=b) fi).imp fun c H1 ⟨ι1,S1,c',n1,e,f1⟩=>?_⟩
 subst e
 cases c' with
 |true=>exact⟨ι1,ρ,S1,n1.rs,n1.cY Rs rs,f1⟩
 |false=>exact⟨ι1,ρ,S1,n1.rs,n1.cY Rs rs,f1⟩
/-- and, or as values: by truth, the last one as it is -/
def uO(g:CV->M Bool)(ma mb:Rho->M CV):Rho->M CV:=fun ρ=>bnd (ma ρ) fun x=>bnd (g x) fun c=>if c then mb ρ else ret x
def anI(g:CV->M Bool)(ma mb:Rho->M CV):Rho->M CV:=fun ρ=>bnd (ma ρ) fun x=>bnd (g x) fun c=>if c then ret x else mb ρ
def acP(g:CV->M Bool)(ma:Rho->M CV):Rho->M CV:=fun ρ=>bnd (ma ρ) fun x=>bnd (g x) fun c=>ret (.bl (!c))
theorem zF{op}(h:GE X W a ma):GE X W (.BoolOp op [a] pos) ma:=pe_one h
end
section
variable {X:Cx}{W:WX}{a b c e:Expr}{es rest:List Expr}{ma mb mc me:Rho->M CV}{mt mu:Rho->M Bool}{ms:Rho->M (List CV)}{pos:Pos}
theorem uJ{g:CV->M Bool}(ht:apk X W g)(ha:GE X W a ma)(hb:GE X W (.BoolOp .And (b::rest) pos) mb):GE X W (.BoolOp .And (a::b::rest) pos) (uO g ma mb):=by
 refine⟨fun pins s σ H Q I ⟨ι,ρ,S,Rs,rs,fi⟩=>?_⟩
 refine BoolOp_and (thn (ha.run pins s σ H _ I ⟨ι,ρ,S,Rs,rs,Fin.bnd (R:=bx X.K X.mg) fi⟩) fun v' s1 ⟨v,H1,I1,r1,ι1,S1,x,n1,rx,f1⟩=>?_)
 refine thn (ht pins s1 σ H1 ι1 S1 x v v' _ I1 r1 n1.rs rx (Fin.bnd (R:=fun _ _ a b=>a=b) f1)) fun k s2 ⟨H2,I2,ι2,S2,k',n2,e,f2⟩=>?_
 subst e
 cases k' with
 |true=>exact hb.run pins s2 σ H2 Q I2 ⟨ι2,ρ,S2,n2.rs,n2.cY n1.rs (n1.cY Rs rs),f2⟩
 |false=>exact⟨v,H2,I2,r1,Fin.ret n2.rs f2 (n2.rep n1.rs rx)⟩
theorem avt{g:CV->M Bool}(ht:apk X W g)(ha:GE X W a ma)(hb:GE X W (.BoolOp .Or (b::rest) pos) mb):GE X W (.BoolOp .Or (a::b::rest) pos) (anI g ma mb):=by
 refine⟨fun pins s σ H Q I ⟨ι,ρ,S,Rs,rs,fi⟩=>?_⟩
 refine BoolOp_or (thn (ha.run pins s σ H _ I ⟨ι,ρ,S,Rs,rs,Fin.bnd (R:=bx X.K X.mg) fi⟩) fun v' s1 ⟨v,H1,I1,r1,ι1,S1,x,n1,rx,f1⟩=>?_)
 refine thn (ht pins s1 σ H1 ι1 S1 x v v' _ I1 r1 n1.rs rx (Fin.bnd (R:=fun _ _ a b=>a=b) f1)) fun k s2 ⟨H2,I2,ι2,S2,k',n2,e,f2⟩=>?_
 subst e
 cases k' with
 |false=>exact hb.run pins s2 σ H2 Q I2 ⟨ι2,ρ,S2,n2.rs,n2.cY n1.rs (n1.cY Rs rs),f2⟩
 |true=>exact⟨v,H2,I2,r1,Fin.ret n2.rs f2 (n2.rep n1.rs rx)⟩
theorem ati{g:CV->M Bool}(ht:apk X W g)(ha:GE X W a ma):GE X W (.UnaryOp .Not a pos) (acP g ma):=by
 refine⟨fun pins s σ H Q I ⟨ι,ρ,S,Rs,rs,fi⟩=>?_⟩
 refine UnaryOp_ (thn (ha.run pins s σ H _ I ⟨ι,ρ,S,Rs,rs,Fin.bnd (R:=bx X.K X.mg) fi⟩) fun v' s1 ⟨v,H1,I1,r1,ι1,S1,x,n1,rx,f1⟩=>?_)
 refine not_of (thn (ht pins s1 σ H1 ι1 S1 x v v' _ I1 r1 n1.rs rx (Fin.bnd (R:=fun _ _ a b=>a=b) f1)) fun k s2 ⟨H2,I2,ι2,S2,k',n2,e,f2⟩=>?_)
 subst e
 exact⟨.bl (!k'),H2,I2,rfl,Fin.ret n2.rs f2 (.bl _)⟩
def aN:Rho->M (List CV):=fun _=>ret []
def au(ma:Rho->M CV)(ms:Rho->M (List CV)):Rho->M (List CV):=fun ρ=>bnd (ma ρ) fun x=>bnd (ms ρ) fun xs=>ret (x::xs)
theorem aG:GA X W [] aN:=PA.imp pa_nil fun σ H Q ⟨ι,ρ,S,Rs,rs,fi⟩=>Fin.ret Rs fi .nil
theorem ao(ha:GE X W e me)(hr:GA X W es ms)(hs:starEach (e::es) X.env=(false,eval e X.env)::starEach es X.env:=by rfl):GA X W (e::es) (au me ms):=PA.imp (pa_cons ha hr hs) fun σ H Q ⟨ι,ρ,S,Rs,rs,fi⟩=>by
 refine⟨ι,ρ,S,Rs,rs,(Fin.bnd (R:=bx X.K X.mg) fi).imp fun v H1 ⟨ι1,S1,x,n1,rx,f1⟩=>?_⟩
 refine⟨ι1,ρ,S1,n1.rs,n1.cY Rs rs,(Fin.bnd (R:=aQ X.K X.mg) f1).imp fun vs H2 ⟨ι2,S2,xs,n2,rxs,f2⟩=>?_⟩
 exact Fin.ret n2.rs f2 (.cons (n2.rep n1.rs rx) rxs)
def Qe(xs:List CV):M CV:=if xs.length<=sizeLine then ret (.tup xs) else bad
def Zq(xs:List CV):M CV:=fun S=>if xs.length<=sizeLine then .ok (.ref S.length) (S++[.lst xs]) else .bad
/-- a new tuple -/
theorem QX{K:ae}{mg:Str->Option Value}{ι:List Addr}{S:Sto}{H:Hp}{p:Addr}{cs:List CV}{vs:List V}(Rs:RS K mg ι S H)(r:aQ K mg ι H cs vs)(hp:H p=none):
    Nx K mg ι H S ι (upd H p (.tup vs))/\bx K mg ι (upd H p (.tup vs)) (.tup cs) (.ref p):=by
  have keep:∀b o,H b=some o->upd H p (.tup vs) b=some o:=fun b o e=>by rw[upd_ne (ne_of_none e hp)];exact e
  have fr:Frm ι H (upd H p (.tup vs)):=fun b o _ _ e=>keep b o e
  have tk:=Rs.tk fr
  have fix:∀{P:List Addr->Prop},P (ι++[])->P ι:=fun {P} h=>by rw[aT]at h;exact h
  refine⟨⟨⟨Rs.len,Rs.nd,fun n a o e1 e2=>?_⟩,⟨[],by simp,fun _ h=>nomatch h⟩,fr⟩,.tup (SqT.of upd_same) (fix (P:=fun ι=>aQ K mg ι _ cs vs) (r.mono tk []))⟩
  have ho:=Rs.obj n a o e1 e2
  obtain⟨u,hu,_⟩:=ho.plain
  exact fix (P:=fun ι=>VN K mg ι _ a o) (ho.mono tk [] (by rw[upd_ne (ne_of_none hu hp)]))
theorem lJ{K:ae}{mg:Str->Option Value}{ι:List Addr}{S:Sto}{H:Hp}{p:Addr}{cs:List CV}{vs:List V}(Rs:RS K mg ι S H)(r:aQ K mg ι H cs vs)(hp:H p=none):
    Nx K mg ι H (S++[.lst cs]) (ι++[p]) (upd H p (.lst vs))/\bx K mg (ι++[p]) (upd H p (.lst vs)) (.ref S.length) (.ref p):=by
  have fr:Frm ι H (upd H p (.lst vs)):=fun b o _ _ e=>by rw[upd_ne (ne_of_none e hp)];exact e
  have tk:=Rs.tk fr
  exact⟨Rs.new hp ⟨vs,upd_same,r.mono tk [p]⟩,.ref (by rw[<-Rs.len,aL (ba _),fv];rfl)⟩
def pD(ms:Rho->M (List CV)):Rho->M CV:=fun ρ=>bnd (ms ρ) Qe
def vC(ms:Rho->M (List CV)):Rho->M CV:=fun ρ=>bnd (ms ρ) Zq
theorem jr{x1}(h:GA X W es ms):GE X W (.Tuple es x1 pos) (pD ms):=PE.imp (pe_tup h) fun σ H Q ⟨ι,ρ,S,Rs,rs,fi⟩=>by
 refine⟨ι,ρ,S,Rs,rs,(Fin.bnd (R:=aQ X.K X.mg) fi).imp fun vs H1 ⟨ι1,S1,xs,n1,rx,f1⟩=>?_⟩
 unfold Qe at f1
 split at f1
 ·rename_i hl
  rw[rx.length]at hl
  refine⟨hl,fun p hp=>?_⟩
  obtain⟨n2,r2⟩:=QX n1.rs rx hp
  exact f1 _ _ _ n2 r2
 ·exact f1.elim
theorem iz(h:GA X W es ms):GE X W (.List es pos) (vC ms):=PE.imp (pe_lst h) fun σ H Q ⟨ι,ρ,S,Rs,rs,fi⟩=>by
 refine⟨ι,ρ,S,Rs,rs,(Fin.bnd (R:=aQ X.K X.mg) fi).imp fun vs H1 ⟨ι1,S1,xs,n1,rx,f1⟩=>?_⟩
 unfold Zq at f1
 split at f1
 ·rename_i hl
  rw[rx.length]at hl
  refine⟨hl,fun p hp=>?_⟩
  obtain⟨n2,r2⟩:=lJ n1.rs rx hp
  exact f1 _ _ _ n2 r2
 ·exact f1.elim
/-- the promise of a def: it does what m does -/
def spD(K:ae)(mg:Str->Option Value)(n:Nat)(m:List CV->M CV):Sp:=fun vs H Q E=>vs.length=n/\∃ι S cs,RS K mg ι S H/\aQ K mg ι H cs vs/\Fin K mg ι H (bx K mg) (m cs S) Q E
/-- room, and nothing is being written out by repr -/
structure RmG(k:Nat)(A:Around):Prop where
 rm:Room k A
 gd:A.guards=some []
theorem RmG.mono{j k:Nat}{A:Around}(r:RmG k A)(h:j<=k):RmG j A:=⟨r.rm.mono h,r.gd⟩
theorem RmG.deeper{k:Nat}{A:Around}(r:RmG (k+1) A)(env:Env):RmG k (A.deeper env):=⟨r.rm.deeper env,r.gd⟩
theorem RmG.in1{k:Nat}{A:Around}(r:RmG (k+1) A):RmG k A.in1:=⟨r.rm.in1,r.gd⟩
theorem RmG.make{k:Nat}{A:Around}(r:RmG (k+1) A)(C:Addr)(us:List Value)(kw:List (Str×Value)):RmG k (A.under (.builtin "type.__call__" ⟨.ref C::us,kw⟩)):=
 ⟨r.rm.make C us kw,by first|exact r.gd|simpa[Around.under,Code.guards,Code.isGuard,guardIds]using r.gd⟩
/-- the def at f does what m does -/
structure FnD(P:Program)(w:World)(K:ae)(mg:Str->Option Value)(base:Heap)(k:Nat)(f:Addr)(fd:FuncData)(ps:List Str)(m:List CV->M CV):Prop where
 run:∀(A:Around)(outer:List Env)(s:Shared)(H:Hp)(args:Args)(us:List Value)(vs:List V)(Q:VK)(E:XK),RmG k A->Env0 P w K mg base A outer s H->BindsTo s fd args (ps.zip us)->Vals vs us->spD K mg ps.length m vs H Q E->
  codeAny (model P w) A (.call (.ref f) args) (CR (fo P w) outer P w H s Q E) s
/-- behind a call, in a body -/
def Back(X:Cx)(pins:List (Addr×Obj))(σ:cz)(Q:VK)(r:Result)(s':Shared):Prop:=match r with
 |.ok (.ret v)=>EP X pins σ Q v s'
 |.ok _=>False
 |.error e=>X.xe e s'
variable {k:Nat}{f C:Addr}{fd:FuncData}{ps:List Str}{m:List CV->M CV}{ds:List Value}{x:Str}{p:Pos}
theorem aru{K:ae}{mg:Str->Option Value}{ι:List Addr}{S:Sto}{H:Hp}{cs:List CV}{vs:List V}{Q:VK}{B:XK}{n:Nat}(Rs:RS K mg ι S H)(r:aQ K mg ι H cs vs)(f:Fin K mg ι H (bx K mg) ((if cs.length=n then m cs else bad) S) Q B):spD K mg n m vs H Q B:=by
 split at f
 ·rename_i hl;exact⟨by rw[<-r.length];exact hl,ι,S,cs,Rs,r,f⟩
 ·exact f.elim
/-- a callee runs, under A' (a builtin may stand between): its raising goes to W -/
theorem Ij{A':Around}{pins:List (Addr×Obj)}{σ:cz}{H:Hp}{s:Shared}{Q:VK}{args:Args}{us:List Value}{vs:List V}{cs:List CV}{ι:List Addr}{S:Sto}(F:FnD X.prog X.w X.K X.mg X.base k f fd ps m)(hr:RmG k A')(e0:Env0 X.prog X.w X.K X.mg X.base A' X.stack s H)
    (hb:us.length=ps.length->BindsTo s fd args (ps.zip us))(tk:Takes X W)(I:Inv X pins σ H s)(r:Vals vs us)(Rs:RS X.K X.mg ι S H)(rc:aQ X.K X.mg ι H cs vs)(h:Fin X.K X.mg ι H (bx X.K X.mg) ((if cs.length=ps.length then m cs else bad) S) Q (fun c d H'=>W c d σ H')):
    codeAny (model X.prog X.w) A' (.call (.ref f) args) (Back X pins σ Q) s:=by
  have hsp:spD X.K X.mg ps.length m vs H Q (fun c d H'=>W c d σ H'):=aru Rs rc h
  refine codeAny_mono (F.run A' X.stack s H args us vs Q _ hr e0 (hb (by rw[<-r.length];exact hsp.1)) r hsp) fun r s' hq=>?_
  cases r with
  |error e=>exact tk e s' (XE.of_call I (W:=W) (fun _ _ _ z=>z) hq)
  |ok fl=>
   cases fl with
   |ret u=>exact I.after hq
   |next=>exact cm hq
   |brk=>exact cm hq
   |cont=>exact cm hq
theorem aiq{A':Around}{pins:List (Addr×Obj)}{σ:cz}{s:Shared}{Q:VK}{g:Value}{us:List Value}(h:codeAny (model X.prog X.w) A' (.call g ⟨us,[]⟩) (Back X pins σ Q) s):wpAny (model X.prog X.w) A' (call g us) (EP X pins σ Q) X.xe s:=
 wpAny_call (codeAny_mono h fun r s' hq=>by
  cases r with
  |error e=>exact hq
  |ok fl=>cases fl<;>exact hq)
theorem arb{pins:List (Addr×Obj)}{σ:cz}{H:Hp}{s:Shared}{Q:VK}{us:List Value}{vs dvs:List V}{cs dcs:List CV}{ι:List Addr}{S:Sto}(F:FnD X.prog X.w X.K X.mg X.base k f fd ps m)(hr:RmG k X.A)(hb:Binds X.K fd ps ds)(hd:Vals dvs ds)(hdr:∀ι H,aQ X.K X.mg ι H dcs dvs)(tk:Takes X W)
    (I:Inv X pins σ H s)(r:Vals vs us)(Rs:RS X.K X.mg ι S H)(rc:aQ X.K X.mg ι H cs vs)(h:Fin X.K X.mg ι H (bx X.K X.mg) ((if cs.length+dcs.length=ps.length then m (cs++dcs) else bad) S) Q (fun c d H'=>W c d σ H')):
    wpAny (model X.prog X.w) X.A (call (.ref f) us) (EP X pins σ Q) X.xe s:=
  aiq (Ij F hr I.env0 (fun hl=>hb s us I.kIn hl) tk I (r.append hd) Rs (rc.append (hdr ι H)) (by rw[bg];exact h))
end
/-- how a statement ends -/
inductive CF where
 |nx (ρ:Rho)|rt (c:CV)|bk (ρ:Rho)|ct (ρ:Rho)|xc (c:Str) (fs:List (Str×CV)) (ρ:Rho)
def lft{α:Type}(ρ:Rho)(r:Res α)(k:α->M CF):Res CF:=match r with
 |.ok a S=>k a S
 |.exc c fs S=>.ok (.xc c fs ρ) S
 |.bad=>.bad
def zu(K:ae)(mg:Str->Option Value)(ι:List Addr)(H:Hp)(r:Res CF)(D:lb)(W:WX):Prop:=match r with
 |.ok (.nx ρ') S'=>∀σ' ι' H',Nx K mg ι H S' ι' H'->d8 K mg ι' H' ρ' σ'->D.nx σ' H'
 |.ok (.rt c) S'=>∀v ι' H',Nx K mg ι H S' ι' H'->bx K mg ι' H' c v->D.rt v H'
 |.ok (.bk ρ') S'=>∀σ' ι' H',Nx K mg ι H S' ι' H'->d8 K mg ι' H' ρ' σ'->D.bk σ' H'
 |.ok (.ct ρ') S'=>∀σ' ι' H',Nx K mg ι H S' ι' H'->d8 K mg ι' H' ρ' σ'->D.ct σ' H'
 |.ok (.xc c fs ρ') S'=>∀(C d:Addr)(gs:List (Str×V)) σ' ι' H',mg c=some (.ref C)->Nx K mg ι H S' ι' H'->d8 K mg ι' H' ρ' σ'->H' d=some (.xd gs)->fL K mg ι' H' fs gs->W (.ref C) (some d) σ' H'
 |.exc _ _ _=>False
 |.bad=>False
section
variable {K:ae}{mg:Str->Option Value}{ι ι1:List Addr}{H H1:Hp}{S S1:Sto}{D:lb}{W:WX}
theorem zu.after{r:Res CF}(x:Nx K mg ι H S1 ι1 H1)(h:zu K mg ι H r D W):zu K mg ι1 H1 r D W:=by
 cases r with
 |bad=>exact h
 |exc _ _ _=>exact h
 |ok f S'=>
  cases f with
  |nx ρ=>exact fun σ' ι' H' n=>h σ' ι' H' (x.trans n)
  |rt c=>exact fun σ' ι' H' n=>h σ' ι' H' (x.trans n)
  |bk ρ=>exact fun σ' ι' H' n=>h σ' ι' H' (x.trans n)
  |ct ρ=>exact fun σ' ι' H' n=>h σ' ι' H' (x.trans n)
  |xc c fs ρ=>exact fun C d gs σ' ι' H' e n=>h C d gs σ' ι' H' e (x.trans n)
theorem zu.lft{α β:Type}{R:List Addr->Hp->α->β->Prop}{r:Res α}{k:α->M CF}{ρ:Rho}{σ:cz}(Rs:RS K mg ι S H)(rs:d8 K mg ι H ρ σ)(h:zu K mg ι H (lft ρ r k) D W):
    Fin K mg ι H R r (fun v H1=>∃ι1 S1 d,Nx K mg ι H S1 ι1 H1/\R ι1 H1 d v/\zu K mg ι1 H1 (k d S1) D W) (fun c d H'=>W c d σ H'):=by
  cases r with
  |ok d S1=>exact fun v ι1 H1 n q=>⟨ι1,S1,d,n,q,zu.after n h⟩
  |exc c fs S'=>exact fun C d gs ι' H' e n hd hf=>h C d gs σ ι' H' e n (n.cY Rs rs) hd hf
  |bad=>exact h
end
def tS(K:ae)(mg:Str->Option Value)(W:WX)(m:Rho->M CF):TS:=fun D σ H=>∃ι ρ S,RS K mg ι S H/\d8 K mg ι H ρ σ/\zu K mg ι H (m ρ S) D W
abbrev GS(X:Cx)(W:WX)(st:Stmt)(m:Rho->M CF):Prop:=PS X st (tS X.K X.mg W m)
abbrev GSs(X:Cx)(W:WX)(st:List Stmt)(m:Rho->M CF):Prop:=PSs X st (tS X.K X.mg W m)
theorem PS.imp{X:Cx}{e:Stmt}{t t':TS}(h:PS X e t)(k:∀D σ H,t' D σ H->t D σ H):PS X e t':=⟨fun pins s σ H D I q=>h.run pins s σ H D I (k D σ H q)⟩
theorem PSs.imp{X:Cx}{e:List Stmt}{t t':TS}(h:PSs X e t)(k:∀D σ H,t' D σ H->t D σ H):PSs X e t':=⟨fun pins s σ H D I q=>h.run pins s σ H D I (k D σ H q)⟩
section
variable {X:Cx}{W:WX}{a b c e:Expr}{st:Stmt}{sts as bs:List Stmt}{es rest:List Expr}{ma mb mc me:Rho->M CV}{mt mu:Rho->M Bool}{ms:Rho->M (List CV)}{m1 m2:Rho->M CF}{pos:Pos}
def gY:Rho->M CF:=fun ρ S=>.ok (.nx ρ) S
def cJ(m1 m2:Rho->M CF):Rho->M CF:=fun ρ S=>match m1 ρ S with
 |.ok (.nx ρ') S'=>m2 ρ' S'
 |r=>r
theorem gss_nil:GSs X W [] gY:=PSs.imp pss_nil fun D σ H ⟨ι,ρ,S,Rs,rs,fi⟩=>fi σ ι H (Nx.refl Rs) rs
theorem gss_cons(h1:GS X W st m1)(h2:GSs X W sts m2):GSs X W (st::sts) (cJ m1 m2):=PSs.imp (pss_cons h1 h2) fun D σ H ⟨ι,ρ,S,Rs,rs,fi⟩=>by
 refine⟨ι,ρ,S,Rs,rs,?_⟩
 unfold cJ at fi
 cases r:m1 ρ S with
 |bad=>rw[r]at fi;exact fi
 |exc _ _ _=>rw[r]at fi;exact fi
 |ok f S'=>
  rw[r]at fi
  cases f with
  |nx ρ'=>exact fun σ' ι' H' n rs'=>⟨ι',ρ',S',n.rs,rs',zu.after n fi⟩
  |rt c=>exact fi
  |bk ρ=>exact fi
  |ct ρ=>exact fi
  |xc c fs ρ=>exact fi
theorem bA(h1:GS X W st m1):GSs X W [st] m1:=pss_one h1
def auk:Rho->M CF:=fun ρ S=>.ok (.bk ρ) S
def aw9:Rho->M CF:=fun ρ S=>.ok (.ct ρ) S
/-- never reached -/
def ax8:Rho->M CF:=fun _ _=>.bad
def Ny(me:Rho->M CV):Rho->M CF:=fun ρ S=>lft ρ (me ρ S) fun _=>ret (.nx ρ)
theorem Kf(he:GE X W e me)(hs:swapsWith e none pos.line X.env=pure false:=by rfl):GS X W (.Expr e pos) (Ny me):=PS.imp (ps_expr he hs) fun D σ H ⟨ι,ρ,S,Rs,rs,fi⟩=>
 ⟨ι,ρ,S,Rs,rs,(zu.lft (R:=bx X.K X.mg) Rs rs fi).imp fun v H1 ⟨ι1,S1,x,n1,rx,f1⟩=>f1 σ ι1 H1 (Nx.refl n1.rs) (n1.cY Rs rs)⟩
def jF(me:Rho->M CV):Rho->M CF:=fun ρ S=>lft ρ (me ρ S) fun v=>ret (.rt v)
theorem cV(he:GE X W e me):GS X W (.Return (some e) pos) (jF me):=PS.imp (ps_ret he) fun D σ H ⟨ι,ρ,S,Rs,rs,fi⟩=>
 ⟨ι,ρ,S,Rs,rs,(zu.lft (R:=bx X.K X.mg) Rs rs fi).imp fun v H1 ⟨ι1,S1,x,n1,rx,f1⟩=>f1 v ι1 H1 (Nx.refl n1.rs) rx⟩
def asS:Rho->M CF:=fun ρ S=>.ok (.rt .non) S
def sIf(mt:Rho->M Bool)(m1 m2:Rho->M CF):Rho->M CF:=fun ρ S=>lft ρ (mt ρ S) fun c=>if c then m1 ρ else m2 ρ
theorem lU(hc:GT X W c mt)(ha:GSs X W as m1)(hb:GSs X W bs m2):GS X W (.If c as bs pos) (sIf mt m1 m2):=PS.imp (ps_if hc ha hb) fun D σ H ⟨ι,ρ,S,Rs,rs,fi⟩=>by
 refine⟨ι,ρ,S,Rs,rs,(zu.lft (R:=fun _ _ a b=>a=b) Rs rs fi).imp fun v H1 ⟨ι1,S1,x,n1,rx,f1⟩=>?_⟩
 subst rx
 cases x with
 |true=>exact⟨ι1,ρ,S1,n1.rs,n1.cY Rs rs,f1⟩
 |false=>exact⟨ι1,ρ,S1,n1.rs,n1.cY Rs rs,f1⟩
/-- g stores a value into the slots -/
def tG(K:ae)(mg:Str->Option Value)(W:WX)(g:CV->Rho->M Rho):TG:=fun v σ H Q=>∃ι ρ S x,RS K mg ι S H/\d8 K mg ι H ρ σ/\bx K mg ι H x v/\Fin K mg ι H (d8 K mg) (g x ρ S) Q (fun c d H'=>W c d σ H')
abbrev GG(X:Cx)(W:WX)(target:Expr)(g:CV->Rho->M Rho):Prop:=PG X target (tG X.K X.mg W g)
theorem PG.imp{e:Expr}{t t':TG}(h:PG X e t)(k:∀v σ H Q,t' v σ H Q->t v σ H Q):PG X e t':=⟨fun pins s σ H v u Q I r q=>h.run pins s σ H v u Q I r (k v σ H Q q)⟩
def gN(i:Nat):CV->Rho->M Rho:=fun x ρ=>ret (ρ.set i (some x))
theorem Qy{i:Nat}{x:Str}(hN:X.N.Nodup)(hi:X.N[i]?=some x:=by rfl)(hx:Loc X.env.scope x:=by first|exact .inl rfl|exact .inr rfl)(hf:X.fn x=true\/X.env.scope.names.lookup x=some .local:=by first|exact .inl rfl|exact .inr rfl|assumption):GG X W (.Name x pos) (gN i):=
 PG.imp (pg_name hN hi hx hf) fun v σ H Q ⟨ι,ρ,S,x,Rs,rs,rx,f⟩=>Fin.ret Rs f (rs.set i rx)
/-- several names -/
def gNs:List Nat->List CV->Rho->Option Rho
 | [],[],ρ=>some ρ
 |i::is,x::xs,ρ=>gNs is xs (ρ.set i (some x))
 |_,_,_=>none
def ajE:List Nat->TGs:=fun is vs σ H Q=>vs.length=is.length/\Q ((is.zip vs).foldl (fun σ p=>σ.set p.1 (some p.2)) σ) H
theorem PGs.imp{e:List Expr}{t t':TGs}(h:PGs X e t)(k:∀v σ H Q,t' v σ H Q->t v σ H Q):PGs X e t':=⟨fun pins s σ H v u Q I r q=>h.run pins s σ H v u Q I r (k v σ H Q q)⟩
theorem Ke:PGs X [] (ajE []):=PGs.imp pgs_nil fun vs σ H Q ⟨h1,h2⟩=>by
 cases vs with
 |nil=>exact⟨rfl,h2⟩
 |cons _ _=>simp at h1
theorem kY{i:Nat}{is:List Nat}{x:Str}{px:Pos}(hN:X.N.Nodup)(r:PGs X es (ajE is))(hi:X.N[i]?=some x:=by rfl)(hx:Loc X.env.scope x:=by first|exact .inl rfl|exact .inr rfl)(hf:X.fn x=true\/X.env.scope.names.lookup x=some .local:=by first|exact .inl rfl|exact .inr rfl|assumption)
    (hs:(assignEach (.Name x px::es) X.env).map (·.2)=assign (.Name x px) X.env::(assignEach es X.env).map (·.2):=by rfl):PGs X (.Name x px::es) (ajE (i::is)):=PGs.imp (pgs_cons (pg_name hN hi hx hf) r hs) fun vs σ H Q ⟨h1,h2⟩=>by
  cases vs with
  |nil=>simp at h1
  |cons v vs=>exact⟨v,vs,rfl,by simpa using h1,h2⟩
theorem ahz{K:ae}{mg:Str->Option Value}{ι:List Addr}{H:Hp}:∀{is:List Nat}{cs:List CV}{vs:List V}{ρ ρ':Rho}{σ:cz},gNs is cs ρ=some ρ'->aQ K mg ι H cs vs->d8 K mg ι H ρ σ->
    vs.length=is.length/\d8 K mg ι H ρ' ((is.zip vs).foldl (fun σ p=>σ.set p.1 (some p.2)) σ)
  | [],[],_,ρ,ρ',σ,h,.nil,rs=>by
    unfold gNs at h;cases h;exact⟨rfl,rs⟩
  |i::is,c::cs,_,ρ,ρ',σ,h,.cons (v:=v) (vs:=vs) r rr,rs=>by
   unfold gNs at h
   obtain⟨h1,h2⟩:=ahz h rr (rs.set i r)
   exact⟨by simp[h1],h2⟩
  | [],_::_,_,_,_,_,h,_,_=>by unfold gNs at h;cases h
  |_::_,[],_,_,_,_,h,_,_=>by unfold gNs at h;cases h
def gT(is:List Nat):CV->Rho->M Rho:=fun x ρ S=>match x with
 |.tup xs=>match gNs is xs ρ with
  |some ρ'=>.ok ρ' S
  |none=>.bad
 |_=>.bad
theorem T9{is:List Nat}{x1}(hc:X.calm=true)(h:PGs X es (ajE is))(hn:(assignEach es X.env).length=is.length:=by rfl)(hst:(assignEach es X.env).findIdx? (·.1)=none:=by rfl):GG X W (.Tuple es x1 pos) (gT is):=
 PG.imp (pg_tup hc h hn hst) fun v σ H Q ⟨ι,ρ,S,x,Rs,rs,rx,f⟩=>by
  unfold gT at f
  cases rx with
  |tup hq rr=>
   dsimp only at f
   split at f
   ·rename_i ρ' eg
    obtain⟨h1,h2⟩:=ahz eg rr rs
    exact⟨_,_,rfl,hq,h1,h1,Fin.ret Rs f h2⟩
   ·exact f.elim
  |_=>exact f.elim
/-- target = e -/
def d9(me:Rho->M CV)(g:CV->Rho->M Rho):Rho->M CF:=fun ρ S=>lft ρ (me ρ S) fun x S1=>lft ρ (g x ρ S1) fun ρ'=>ret (.nx ρ')
theorem agJ{g:CV->Rho->M Rho}{D:lb}{σ:cz}{H:Hp}(h:tS X.K X.mg W (d9 me g) D σ H):tAsg (tD X.K X.mg W me) (tG X.K X.mg W g) D σ H:=by
 obtain⟨ι,ρ,S,Rs,rs,fi⟩:=h
 refine⟨ι,ρ,S,Rs,rs,(zu.lft (R:=bx X.K X.mg) Rs rs fi).imp fun v H1 ⟨ι1,S1,x,n1,rx,f1⟩=>?_⟩
 have rs1:=n1.cY Rs rs
 exact⟨ι1,ρ,S1,x,n1.rs,rs1,rx,(zu.lft (R:=d8 X.K X.mg) n1.rs rs1 f1).imp fun σ' H2 ⟨ι2,S2,ρ',n2,rs2,f2⟩=>f2 σ' ι2 H2 (Nx.refl n2.rs) rs2⟩
theorem uK{tg:Expr}{g:CV->Rho->M Rho}(he:GE X W e me)(hg:GG X W tg g)(hs:swapsWithSole [tg] e pos.line X.env=pure false:=by rfl)(hw:swappedStores [tg] e X.env=pure none:=by rfl)
    (h1:(assignEach [tg] X.env).map (·.2)=[assign tg X.env]:=by rfl):GS X W (.Assign [tg] e pos) (d9 me g):=PS.imp (ps_asg he hg hs hw h1) fun D σ H h=>agJ h
theorem fB{i:Nat}{x:Str}{px:Pos}(hN:X.N.Nodup)(he:GE X W e me)(hi:X.N[i]?=some x:=by rfl)(hx:Loc X.env.scope x:=by first|exact .inl rfl|exact .inr rfl)(hs:swapsWith e (some (.Name x px)) pos.line X.env=pure false:=by rfl)
    (hf:X.fn x=true\/X.env.scope.names.lookup x=some .local:=by first|exact .inl rfl|exact .inr rfl|assumption):GS X W (.Assign [.Name x px] e pos) (d9 me (gN i)):=PS.imp (ps_set hN hi hx he hs hf) fun D σ H h=>by
  obtain⟨ι,ρ,S,Rs,rs,f⟩:=agJ h
  exact⟨ι,ρ,S,Rs,rs,f.imp fun v H1 ⟨ι1,ρ1,S1,x,R1,r1,rx,f1⟩=>Fin.ret R1 f1 (r1.set i rx)⟩
/-- a, b = e, e' (plain locals) -/
def aar(i j:Nat)(ms:Rho->M (List CV)):Rho->M CF:=fun ρ S=>lft ρ (ms ρ S) fun xs S1=>match xs with
 | [x,y]=>.ok (.nx ((ρ.set i (some x)).set j (some y))) S1
 |_=>.bad
theorem anv{i j:Nat}{x y:Str}{px py pt:Pos}{kt k2 pt2}(hN:X.N.Nodup)(ha:GA X W [a,b] ms)(hc:X.calm=true:=by rfl)(hi:X.N[i]?=some x:=by rfl)(hj:X.N[j]?=some y:=by rfl)(hij:i≠j:=by decide)
    (hx:X.env.scope.names.lookup x=some .local:=by rfl)(hy:X.env.scope.names.lookup y=some .local:=by rfl)
    (hw:swappedStores [.Tuple [.Name x px,.Name y py] kt pt] (.Tuple [a,b] k2 pt2) X.env=pure (some [x,y]):=by rfl)
    (hs:swapsWithSole [.Tuple [.Name x px,.Name y py] kt pt] (.Tuple [a,b] k2 pt2) pos.line X.env=pure false:=by rfl):
    GS X W (.Assign [.Tuple [.Name x px,.Name y py] kt pt] (.Tuple [a,b] k2 pt2) pos) (aar i j ms):=PS.imp (ps_par hc hN hi hj hij hx hy ha hw hs) fun D σ H ⟨ι,ρ,S,Rs,rs,fi⟩=>by
  refine⟨ι,ρ,S,Rs,rs,(zu.lft (R:=aQ X.K X.mg) Rs rs fi).imp fun vs H1 ⟨ι1,S1,xs,n1,rx,f1⟩=>?_⟩
  cases rx with
  |nil=>exact f1.elim
  |cons r1 rr=>cases rr with
   |nil=>exact f1.elim
   |cons r2 rr=>cases rr with
    |nil=>exact⟨_,_,rfl,f1 _ ι1 H1 (Nx.refl n1.rs) (((n1.cY Rs rs).set i r1).set j r2)⟩
    |cons _ _=>exact f1.elim
end
/-- what is walked: the items, and the object of the store that must stay meanwhile -/
structure Src where
 items:List CV
 at':List (Nat×CO)
def akk(S:Sto):List (Nat×CO)->Bool
 | []=>true
 | [(n,o)]=>decide (S[n]?=some o)
 |(n,o)::l=>decide (S[n]?=some o)&&akk S l
def Src.chk(s:Src)(S:Sto):Bool:=akk S s.at'
/-- .. and the dicts that are walked -/
structure Tkk(H H':Hp):Prop where
 tk:Tk H H'
 lk:∀b o u,Lkd (.frz o u)->H b=some (.frz o u)->H' b=some (.frz o u)
theorem Tkk.refl(H:Hp):Tkk H H:=⟨Tk.refl H,fun _ _ _ _ h=>h⟩
structure oK(K:ae)(mg:Str->Option Value)(ι0:List Addr)(H0:Hp)(src:Src)(J:It):Prop where
 go:∀(ι:List Addr)(S:Sto)(H:Hp)(i:Nat)(x:CV),RS K mg ι S H->(∃m,ι=ι0++m)->Tkk H0 H->src.chk S=true->src.items[i]?=some x->J.go i H/\∀v H',J.yld i H v H'->Nx K mg ι H S ι H'/\bx K mg ι H' x v
 stop:∀(ι:List Addr)(S:Sto)(H:Hp),RS K mg ι S H->(∃m,ι=ι0++m)->Tkk H0 H->src.chk S=true->J.stop src.items.length H
def tI(K:ae)(mg:Str->Option Value)(W:WX)(m:Rho->M Src):TI:=fun σ H R=>∃ι ρ S,RS K mg ι S H/\d8 K mg ι H ρ σ/\Fin K mg ι H (oK K mg) (m ρ S) R (fun c d H'=>W c d σ H')
abbrev GI(X:Cx)(W:WX)(tg iter:Expr)(m:Rho->M Src):Prop:=PI X tg iter (tI X.K X.mg W m)
theorem PI.imp{X:Cx}{tg iter:Expr}{t t':TI}(h:PI X tg iter t)(k:∀σ H Q,t' σ H Q->t σ H Q):PI X tg iter t':=⟨fun pins s σ H Q I q=>h.run pins s σ H Q I (k σ H Q q)⟩
theorem PI.or{X:Cx}{tg iter:Expr}{t t':TI}(h:PI X tg iter t)(h':PI X tg iter t'):PI X tg iter (fun σ H Q=>t σ H Q\/t' σ H Q):=⟨fun pins s σ H Q I q=>q.elim (fun q=>h.run pins s σ H Q I q) fun q=>h'.run pins s σ H Q I q⟩
section
variable {X:Cx}{W:WX}{a b c e tg iter:Expr}{st:Stmt}{sts as bs body:List Stmt}{es rest:List Expr}{ma mb mc me:Rho->M CV}{mt mu:Rho->M Bool}{ms:Rho->M (List CV)}{m1 m2:Rho->M CF}{mi:Rho->M Src}{pos p:Pos}
variable {K:ae}{mg:Str->Option Value}
theorem Nx.tkk{K:ae}{mg:Str->Option Value}{ι ι':List Addr}{S S':Sto}{H H':Hp}(R:RS K mg ι S H)(n:Nx K mg ι H S' ι' H'):Tkk H H':=⟨R.tk n.fr,fun b o u l h=>n.fr b _ (.inr l) trivial h⟩
theorem Tk.trans{H H1 H2:Hp}(a:Tk H H1)(b:Tk H1 H2):Tk H H2:=⟨fun c xs h=>b.tup c xs (a.tup c xs h),fun c o xs h=>b.scr c o xs (a.scr c o xs h),fun c φ h=>b.ext c φ (a.ext c φ h),fun c gs h=>b.xd c gs (a.xd c gs h)⟩
theorem Tkk.trans{H H1 H2:Hp}(a:Tkk H H1)(b:Tkk H1 H2):Tkk H H2:=⟨a.tk.trans b.tk,fun c o u l h=>b.lk c o u l (a.lk c o u l h)⟩
theorem alO{ι:List Addr}{S:Sto}{H:Hp}{n:Nat}{a:Addr}{xs:List CV}(h:ι[n]?=some a):oK K mg ι H ⟨xs,[(n,.lst xs)]⟩ (Itl K a):=by
 have key:∀{ι':List Addr}{S':Sto}{H':Hp},RS K mg ι' S' H'->(∃m,ι'=ι++m)->Src.chk ⟨xs,[(n,.lst xs)]⟩ S'=true->∃vs,H' a=some (.lst vs)/\aQ K mg ι' H' xs vs:=fun {ι' S' H'} R ⟨m,em⟩ hc=>
  R.obj n a _ (by rw[em,az (aa.mp h).1];exact h) (of_decide_eq_true hc)
 refine⟨fun ι' S' H' i x R em _ hc hx=>?_,fun ι' S' H' R em _ hc=>?_⟩
 ·obtain⟨vs,e1,r⟩:=key R em hc
  obtain⟨v,hv,rv⟩:=r.get hx
  refine⟨⟨vs,v,SqL.of e1,hv⟩,fun v' H'' ⟨eh,hy⟩=>?_⟩
  subst eh
  have:=hy vs (SqL.of e1)
  rw[hv]at this;cases this
  exact⟨Nx.refl R,rv⟩
 ·obtain⟨vs,e1,r⟩:=key R em hc
  exact⟨vs,SqL.of e1,by show vs.length<=xs.length;rw[<-r.length];exact ba _⟩
theorem aqg{ι:List Addr}{H:Hp}{a:Addr}{xs:List CV}{vs:List V}(h:SqT K H a vs)(r:aQ K mg ι H xs vs):oK K mg ι H ⟨xs,[]⟩ (Itt K a):=by
 refine⟨fun ι' S' H' i x R ⟨m,em⟩ tk hc hx=>?_,fun ι' S' H' R ⟨m,em⟩ tk hc=>?_⟩
 ·subst em
  obtain⟨v,hv,rv⟩:=(r.mono tk.tk m).get hx
  have h':=SqT.tk tk.tk h
  refine⟨⟨vs,v,h',hv⟩,fun v' H'' ⟨eh,hy⟩=>?_⟩
  subst eh
  have:=hy vs h'
  rw[hv]at this;cases this
  exact⟨Nx.refl R,rv⟩
 ·exact⟨vs,SqT.tk tk.tk h,by show vs.length<=xs.length;rw[<-r.length];exact ba _⟩
def Gn(x:Str):List CV:=x.cps.toList.map fun c=>CV.str ⟨#[c]⟩
theorem ite_str{ι:List Addr}{H:Hp}(x:Str):oK K mg ι H ⟨Gn x,[]⟩ (Its x):=by
 have hl:(Gn x).length=x.cps.size:=by simp[Gn]
 refine⟨fun ι' S' H' i y R em tk hc hx=>?_,fun ι' S' H' R em tk hc=>?_⟩
 ·have hx':(Gn x)[i]?=some y:=hx
  have hi:i<x.cps.size:=by have:=(aa.mp hx').1;rw[hl]at this;exact this
  refine⟨hi,fun v H'' ⟨eh,c,ec,ev⟩=>?_⟩
  subst eh
  subst ev
  unfold Gn at hx'
  rw[bu,gf,ec]at hx'
  cases hx'
  exact⟨Nx.refl R,.str _⟩
 ·show x.cps.size<=(Gn x).length
  rw[hl];exact ba _
/-- a list, a tuple or a text is walked -/
def aeS:CV->M Src:=fun x S=>match x with
 |.tup xs=>.ok ⟨xs,[]⟩ S
 |.str z=>.ok ⟨Gn z,[]⟩ S
 |.ref n=>match S[n]? with
  |some (.lst xs)=>.ok ⟨xs,[(n,.lst xs)]⟩ S
  |_=>.bad
 |_=>.bad
def Yx(me:Rho->M CV):Rho->M Src:=fun ρ=>bnd (me ρ) aeS
theorem BK(he:GE X W e me):GI X W tg e (Yx me):=by
 refine PI.imp (PI.or (PI.or (pi_list he) (pi_str he)) (pi_tup he)) fun σ H R ⟨ι,ρ,S,Rs,rs,fi⟩=>?_
 have fb:Fin X.K X.mg ι H (oK X.K X.mg) ((me ρ S).bnd aeS) R (fun c d H'=>W c d σ H'):=fi
 cases r:me ρ S with
 |bad=>rw[r]at fb;exact fb.elim
 |exc c fs S'=>
  refine .inl (.inl ⟨ι,ρ,S,Rs,rs,?_⟩)
  rw[r]at fb ⊢
  exact fb
 |ok x S'=>
  rw[r]at fb
  have fb:Fin X.K X.mg ι H (oK X.K X.mg) (aeS x S') R (fun c d H'=>W c d σ H'):=fb
  unfold aeS at fb
  cases x with
  |tup xs=>
   refine .inr ⟨ι,ρ,S,Rs,rs,?_⟩
   rw[r]
   intro v ι' H' n rx
   cases rx with
   |tup hq rr=>exact⟨_,rfl,⟨_,hq⟩,fb _ ι' H' n (aqg hq rr)⟩
  |str z=>
   refine .inl (.inr ⟨ι,ρ,S,Rs,rs,?_⟩)
   rw[r]
   intro v ι' H' n rx
   cases rx with
   |str _=>exact⟨_,rfl,fb _ ι' H' n (ite_str z)⟩
  |ref k=>
   dsimp only at fb
   split at fb
   ·rename_i xs ek
    refine .inl (.inl ⟨ι,ρ,S,Rs,rs,?_⟩)
    rw[r]
    intro v ι' H' n rx
    cases rx with
    |ref hq=>
     obtain⟨vs,e1,_⟩:=n.rs.obj _ _ _ hq ek
     exact⟨_,rfl,⟨vs,SqL.of e1⟩,fb _ ι' H' n (alO (S:=S') hq)⟩
   ·exact fb.elim
  |_=>exact fb.elim
def nU(lo:Int)(n:Nat):List CV:=(cq n).map fun(i:Nat)=>CV.int (lo+(i:Int))
theorem aqf{ι:List Addr}{H:Hp}(lo:Int)(n:Nat):oK K mg ι H ⟨nU lo n,[]⟩ (Itr lo n):=by
 have hl:(nU lo n).length=n:=by simp[nU]
 refine⟨fun ι' S' H' i x R ⟨m,em⟩ tk hc hx=>?_,fun ι' S' H' R ⟨m,em⟩ tk hc=>?_⟩
 ·have hi:i<n:=by have:=(aa.mp hx).1;rw[show(Src.items ⟨nU lo n,[]⟩)=nU lo n from rfl,hl]at this;exact this
  have hx':x=.int (lo+(i:Int)):=by
   have:(nU lo n)[i]?=some x:=hx
   unfold nU at this
   rw[bu,List.getElem?_range hi]at this
   exact(gc this).symm
  subst hx'
  refine⟨hi,fun v H'' ⟨eh,ev⟩=>?_⟩
  subst eh;subst ev
  exact⟨Nx.refl R,.int _⟩
 ·show n<=(nU lo n).length
  rw[hl];exact ba _
noncomputable def asR:List CV->M Src:=fun xs S=>match xs with
 | [.int j]=>@ite _ (-(2 ^ 62)<=j/\j<2 ^ 62) (di _) (.ok ⟨nU 0 j.toNat,[]⟩ S) .bad
 |_=>.bad
noncomputable def ax7:List CV->M Src:=fun xs S=>match xs with
 | [.int i,.int j]=>@ite _ (-(2 ^ 62)<=i/\i<2 ^ 62/\ -(2 ^ 62)<=j/\j<2 ^ 62) (di _) (.ok ⟨nU i (j-i).toNat,[]⟩ S) .bad
 |_=>.bad
noncomputable def Av(ms:Rho->M (List CV)):Rho->M Src:=fun ρ=>bnd (ms ρ) asR
noncomputable def awa(ms:Rho->M (List CV)):Rho->M Src:=fun ρ=>bnd (ms ρ) ax7
theorem vf(hm:X.mg "range"=none)(ha:GA X W [a] ms)(hg:Gl X "range":=by rfl)(hs:starEach [a] X.env=[(false,eval a X.env)]:=by rfl):GI X W tg (.Call (.Name "range" p) [a] [] pos) (Av ms):=
  PI.imp (pi_range1 hg hm ha hs) fun σ H R ⟨ι,ρ,S,Rs,rs,fi⟩=>by
    refine⟨ι,ρ,S,Rs,rs,(Fin.bnd (R:=aQ X.K X.mg) fi).imp fun vs H1 ⟨ι1,S1,xs,n1,rx,f1⟩=>?_⟩
    unfold asR at f1
    split at f1
    · cases rx with
      |cons r1 rr=>cases r1;cases rr;split at f1
                   · rename_i h;exact⟨_,rfl,h.1,h.2,f1 _ ι1 H1 (Nx.refl n1.rs) (aqf _ _)⟩
                   · exact f1.elim
    · exact f1.elim
def xY(chk:Sto->Bool)(g:CV->Rho->M Rho)(mb:Rho->M CF):List CV->Rho->M CF
  | [],ρ,S=>if chk S then .ok (.nx ρ) S else .bad
  |x::xs,ρ,S=>if chk S then lft ρ (g x ρ S) fun ρ1 S1=>match mb ρ1 S1 with
    |.ok (.nx ρ2) S2=>xY chk g mb xs ρ2 S2
    |.ok (.ct ρ2) S2=>xY chk g mb xs ρ2 S2
    |.ok (.bk ρ2) S2=>.ok (.nx ρ2) S2
    |r=>r
   else .bad
def aeM(mi:Rho->M Src)(g:CV->Rho->M Rho)(mb:Rho->M CF):Rho->M CF:=fun ρ S=>lft ρ (mi ρ S) fun src=>xY src.chk g mb src.items ρ
theorem Nx.tk{ι ι':List Addr}{S S':Sto}{H H':Hp}(R:RS K mg ι S H)(n:Nx K mg ι H S' ι' H'):Tk H H':=R.tk n.fr
theorem Ym{g:CV->Rho->M Rho}(hp:PassesOwn (model X.prog X.w) X.A X.env X.xe)(hi:GI X W tg iter mi)(hg:GG X W tg g)(hb:GSs X W body m1)(hc:X.calm=true:=by rfl)
    (hs:∀x,foldedSetIterable iter X.env x=pure x:=by intro _;rfl):GS X W (.For tg iter body [] pos) (aeM mi g m1):=PS.imp (ps_for hp hc hi hg hb hs) fun D σ H ⟨ι,ρ,S,Rs,rs,fi⟩=>by
  refine⟨ι,ρ,S,Rs,rs,(zu.lft (R:=oK X.K X.mg) Rs rs fi).imp fun J H1 ⟨ι1,S1,src,n1,it,f1⟩=>?_⟩
  refine⟨fun i m σ2 H2=>m+i=src.items.length/\∃ι2 ρ2 S2,RS X.K X.mg ι2 S2 H2/\d8 X.K X.mg ι2 H2 ρ2 σ2/\(∃m,ι2=ι1++m)/\Tkk H1 H2/\zu X.K X.mg ι2 H2 (xY src.chk g m1 (src.items.drop i) ρ2 S2) D W,
    ⟨src.items.length,by simp,ι1,ρ,S1,n1.rs,n1.cY Rs rs,⟨[],by simp⟩,Tkk.refl _,f1⟩,?_⟩
  rintro i m σ2 H2 ⟨hm,ι2,ρ2,S2,R2,r2,ext,tk,f2⟩
  by_cases hi:i<src.items.length
  · have hd:src.items.drop i=src.items[i]::src.items.drop (i+1):=e9 hi
    rw[hd]at f2
    unfold xY at f2
    split at f2
    · rename_i hck
      obtain⟨hgo,apS⟩:=it.go ι2 S2 H2 i src.items[i] R2 ext tk hck (ay hi)
      refine .inr ⟨hgo,fun σ' H'=>∃ι2 ρ2 S2,RS X.K X.mg ι2 S2 H'/\d8 X.K X.mg ι2 H' ρ2 σ'/\(∃m,ι2=ι1++m)/\Tkk H1 H'/\zu X.K X.mg ι2 H' (xY src.chk g m1 (src.items.drop (i+1)) ρ2 S2) D W,
        fun σ' H' hN=>⟨m-1,by omega,by omega,hN⟩,fun v H' hy=>?_⟩
      obtain⟨n3,rv⟩:=apS v H' hy
      have r3:=n3.cY R2 r2
      refine⟨ι2,ρ2,S2,_,n3.rs,r3,rv,(zu.lft (R:=d8 X.K X.mg) n3.rs r3 (zu.after n3 f2)).imp fun σ4 H4 ⟨ι4,S4,ρ4,n4,rs4,f4⟩=>?_⟩
      refine⟨ι4,ρ4,S4,n4.rs,rs4,?_⟩
      have n34:=n3.trans n4
      have go:∀{ρ5:Rho}{S5:Sto}{σ5:cz}{ι5:List Addr}{H5:Hp},Nx X.K X.mg ι4 H4 S5 ι5 H5->d8 X.K X.mg ι5 H5 ρ5 σ5->zu X.K X.mg ι4 H4 (xY src.chk g m1 (src.items.drop (i+1)) ρ5 S5) D W->
          ∃ι2 ρ2 S2,RS X.K X.mg ι2 S2 H5/\d8 X.K X.mg ι2 H5 ρ2 σ5/\(∃m,ι2=ι1++m)/\Tkk H1 H5/\zu X.K X.mg ι2 H5 (xY src.chk g m1 (src.items.drop (i+1)) ρ2 S2) D W:=fun {ρ5 S5 σ5 ι5 H5} n5 rs5 f5=>by
        have n:=n34.trans n5
        refine⟨ι5,ρ5,S5,n5.rs,rs5,?_,tk.trans (n.tkk R2),zu.after n5 f5⟩
        obtain⟨m1',e1⟩:=ext
        obtain⟨m2',e2,_⟩:=n.ext
        exact⟨m1'++m2',by rw[e2,e1,a7]⟩
      cases r:m1 ρ4 S4 with
      |bad=>rw[r]at f4;exact f4
      |exc _ _ _=>rw[r]at f4;exact f4
      |ok fl S5=>
       rw[r]at f4
       cases fl with
       |nx ρ5=>exact fun σ5 ι5 H5 n5 rs5=>go n5 rs5 f4
       |ct ρ5=>exact fun σ5 ι5 H5 n5 rs5=>go n5 rs5 f4
       |bk ρ5=>exact f4
       |rt c=>exact f4
       |xc c fs ρ5=>exact f4
    · exact f2.elim
  · have hd:src.items.drop i=[]:=hV (gp hi)
    rw[hd]at f2
    unfold xY at f2
    split at f2
    · rename_i hck
      have e:i=src.items.length:=by omega
      exact .inl ⟨by rw[e];exact it.stop ι2 S2 H2 R2 ext tk hck,f2 σ2 ι2 H2 (Nx.refl R2) r2⟩
    · exact f2.elim
end
abbrev W0:WX:=fun _ _ _ _=>False
def pB(ρ:Rho):List Nat->Rho
 | []=>ρ
 |v::vs=>(pB ρ vs).set v none
section
variable {K:ae}{mg:Str->Option Value}{ι:List Addr}{H:Hp}
theorem d8.unset{ρ:Rho}{σ:cz}(r:d8 K mg ι H ρ σ)(i:Nat)(o:Option V):d8 K mg ι H (ρ.set i none) (σ.set i o):=by
 refine⟨by rw[a8,a8,r.len],fun j d e=>?_⟩
 rw[br]at e
 rw[br]
 split at e
 ·split at e<;>cases e
 ·rename_i hij
  rw[if_neg hij]
  exact r.at' j d e
theorem d8.wipe{ρ:Rho}{σ:cz}(r:d8 K mg ι H ρ σ):∀vs:List Nat,d8 K mg ι H (pB ρ vs) (c5 σ vs)
 | []=>r
 |v::vs=>(d8.wipe r vs).unset v none
theorem Xx{σ:cz}{i:Nat}{o:Option V}:∀{vs:List Nat},i∈vs->c5 (σ.set i o) vs=c5 σ vs
 | [],h=>nomatch h
 |v::vs,h=>by
  unfold c5
  by_cases hi:i∈vs
  ·rw[Xx hi]
  ·have e:i=v:=by
    rcases av.mp h with h|h
    ·exact h
    ·exact absurd h hi
   subst e
   have key:∀(us:List Nat)(τ:cz),i∉us->c5 (τ.set i o) us=(c5 τ us).set i o:=by
    intro us
    induction us with
    |nil=>intro τ _;rfl
    |cons u us ih=>
     intro τ hu
     unfold c5
     rw[ih τ fun z=>hu (ag _ z),List.set_comm _ _ (fun z=>hu (by rw[z];exact af))]
   rw[key vs σ hi,List.set_set]
theorem aaz{σ:cz}{vs:List Nat}:c5 (c5 σ vs) vs=c5 σ vs:=by
 have key:∀us:List Nat,(∀u∈us,u∈vs)->c5 (c5 σ us) vs=c5 σ vs:=by
  intro us
  induction us with
  |nil=>intro _;rfl
  |cons u us ih=>
   intro h
   show c5 ((c5 σ us).set u none) vs=_
   rw[Xx (h u af)]
   exact ih fun z hz=>h z (ag _ hz)
 exact key vs fun _ h=>h
/-- a comprehension's target: t does what g does, to the block's own slots alone -/
def CTg(K:ae)(mg:Str->Option Value)(vs:List Nat)(t:TG)(g:CV->Rho->Option Rho):Prop:=
 ∀(ι:List Addr)(H:Hp)(ρ ρ':Rho)(σ:cz)(x:CV)(v:V),d8 K mg ι H ρ σ->bx K mg ι H x v->g x ρ=some ρ'->∃σ2,d8 K mg ι H ρ' σ2/\c5 σ2 vs=c5 σ vs/\∀Q:cz->Hp->Prop,Q σ2 H->t v σ H Q
def cN(i:Nat):CV->Rho->Option Rho:=fun x ρ=>some (ρ.set i (some x))
def cT(is:List Nat):CV->Rho->Option Rho:=fun x ρ=>match x with
 |.tup xs=>gNs is xs ρ
 |_=>none
theorem cZ{i:Nat}{vs:List Nat}(h:i∈vs):CTg K mg vs (gName i) (cN i):=fun ι H ρ ρ' σ x v rs rx e=>by
 cases e
 exact⟨_,rs.set i rx,Xx h,fun Q q=>q⟩
end
/-- the turns of a list comprehension -/
def Om(chk:Sto->Bool)(n:Nat)(g:CV->Rho->Option Rho)(mt:Rho->M Bool)(me:Rho->M CV)(ρ:Rho):List CV->M Unit
  | [],S=>if chk S then .ok () S else .bad
  |x::xs,S=>if chk S then (match g x ρ with
    |some ρ1=>(match mt ρ1 S with
     |.ok b S2=>if b then (match me ρ1 S2 with
            |.ok y S3=>(match S3[n]? with
             |some (.lst acc)=>if acc.length<sizeLine then Om chk n g mt me ρ xs (S3.set n (.lst (acc++[y]))) else .bad
             |_=>.bad)
            |_=>.bad) else Om chk n g mt me ρ xs S2
     |_=>.bad)
    |none=>.bad) else .bad
def mLc(mi:Rho->M Src)(g:CV->Rho->Option Rho)(mt:Rho->M Bool)(me:Rho->M CV)(vs:List Nat):Rho->M CV:=fun ρ=>bnd (mi ρ) fun src S=>(Om src.chk S.length g mt me (pB ρ vs) src.items (S++[.lst []])).bnd fun _=>ret (.ref S.length)
def wV:Rho->M Bool:=fun _=>ret true
abbrev GTs(X:Cx)(W:WX)(ifs:List Expr)(m:Rho->M Bool):Prop:=PTs X ifs (tDT X.K X.mg W m)
theorem PTs.imp{X:Cx}{e:List Expr}{t t':TT}(h:PTs X e t)(k:∀σ H Q,t' σ H Q->t σ H Q):PTs X e t':=⟨fun pins s σ H Q I q=>h.run pins s σ H Q I (k σ H Q q)⟩
theorem gj{X:Cx}{W:WX}:GTs X W [] wV:=PTs.imp pts_nil fun σ H Q ⟨ι,ρ,S,Rs,rs,fi⟩=>Fin.ret Rs fi rfl
theorem Kg{X:Cx}{W:WX}{c:Expr}{mt:Rho->M Bool}(h:GT X W c mt):GTs X W [c] mt:=pts_one h
section
variable {X:Cx}{W:WX}{elt tg iter:Expr}{ifs:List Expr}{scope:Scope}{own:List (Str×Nat)}{pos:Pos}{mi:Rho->M Src}{me:Rho->M CV}{mt:Rho->M Bool}{t:TG}{g:CV->Rho->Option Rho}
theorem asq(htg:CTg X.K X.mg (own.map (·.2)) t g){σ:cz}{H:Hp}{Q:VK}(h:tD X.K X.mg W (mLc mi g mt me (own.map (·.2))) σ H Q):
    tLc (tI X.K X.mg W mi) t (tDT X.K X.mg W0 mt) (tD X.K X.mg W0 me) (own.map (·.2)) σ H Q:=by
  obtain⟨ι,ρ,S,Rs,rs,fi⟩:=h
  refine⟨ι,ρ,S,Rs,rs,(Fin.bnd (R:=oK X.K X.mg) fi).imp fun J H1 ⟨ι1,S1,src,n1,it,f1⟩=>?_⟩
  intro D hD
  obtain⟨n2,rD⟩:=lJ (cs:=[]) (vs:=[]) n1.rs .nil hD
  have rw1:=(n2.cY n1.rs (n1.cY Rs rs)).wipe (own.map (·.2))
  have f1:Fin X.K X.mg ι1 H1 (bx X.K X.mg) ((Om src.chk S1.length g mt me (pB ρ (own.map (·.2))) src.items (S1++[.lst []])).bnd fun _=>ret (.ref S1.length)) Q (fun c d H'=>W c d σ H'):=f1
  refine⟨fun i m H2=>m+i=src.items.length/\∃ι2 S2,RS X.K X.mg ι2 S2 H2/\d8 X.K X.mg ι2 H2 (pB ρ (own.map (·.2))) (c5 σ (own.map (·.2)))/\(∃m,ι2=(ι1++[D])++m)/\Tkk H1 H2/\
      Fin X.K X.mg ι2 H2 (bx X.K X.mg) ((Om src.chk S1.length g mt me (pB ρ (own.map (·.2))) (src.items.drop i) S2).bnd fun _=>ret (.ref S1.length)) Q (fun c d H'=>W c d σ H'),
    ⟨src.items.length,by simp,ι1++[D],S1++[.lst []],n2.rs,rw1,⟨[],by simp⟩,n2.tkk n1.rs,by rw[ke];exact Fin.after n2 f1⟩,?_⟩
  rintro i m H2 ⟨hm,ι2,S2,R2,r2,ext,tk,f2⟩
  obtain⟨me',ext⟩:=ext
  have ext1:∃m,ι2=ι1++m:=⟨[D]++me',by rw[ext,a7]⟩
  have akl:ι2[S1.length]?=some D:=by
    rw[ext,a7, <-n1.rs.len,aL (ba _),fv];rfl
  by_cases hi:i<src.items.length
  · have hd:src.items.drop i=src.items[i]::src.items.drop (i+1):=e9 hi
    rw[hd]at f2
    unfold Om at f2
    split at f2
    · rename_i hck
      obtain⟨hgo,apS⟩:=it.go ι2 S2 H2 i src.items[i] R2 ext1 tk hck (ay hi)
      refine .inr ⟨hgo,fun H'=>∃ι2 S2,RS X.K X.mg ι2 S2 H'/\d8 X.K X.mg ι2 H' (pB ρ (own.map (·.2))) (c5 σ (own.map (·.2)))/\(∃m,ι2=(ι1++[D])++m)/\Tkk H1 H'/\
        Fin X.K X.mg ι2 H' (bx X.K X.mg) ((Om src.chk S1.length g mt me (pB ρ (own.map (·.2))) (src.items.drop (i+1)) S2).bnd fun _=>ret (.ref S1.length)) Q (fun c d H'=>W c d σ H'),fun H' hN=>⟨m-1,by omega,by omega,hN⟩,fun v H' hy=>?_⟩
      obtain⟨n3,rv⟩:=apS v H' hy
      have r3:=n3.cY R2 r2
      cases eg:g src.items[i] (pB ρ (own.map (·.2))) with
      |none=>rw[eg]at f2;exact f2.elim
      |some ρ1=>
       rw[eg]at f2
       dsimp only at f2
       obtain⟨σ2,rs2,ew,ht⟩:=htg ι2 H' _ ρ1 _ _ v r3 rv eg
       refine ht _ ⟨by rw[ew,aaz],ι2,ρ1,S2,n3.rs,rs2,?_⟩
       -- what stays for the next turn
       have go:∀{S5:Sto}{ι5:List Addr}{H5:Hp},Nx X.K X.mg ι2 H2 S5 ι5 H5->Fin X.K X.mg ι2 H2 (bx X.K X.mg) ((Om src.chk S1.length g mt me (pB ρ (own.map (·.2))) (src.items.drop (i+1)) S5).bnd fun _=>ret (.ref S1.length)) Q (fun c d H'=>W c d σ H')->
            ∃ι2 S2,RS X.K X.mg ι2 S2 H5/\d8 X.K X.mg ι2 H5 (pB ρ (own.map (·.2))) (c5 σ (own.map (·.2)))/\(∃m,ι2=(ι1++[D])++m)/\Tkk H1 H5/\
             Fin X.K X.mg ι2 H5 (bx X.K X.mg) ((Om src.chk S1.length g mt me (pB ρ (own.map (·.2))) (src.items.drop (i+1)) S2).bnd fun _=>ret (.ref S1.length)) Q (fun c d H'=>W c d σ H'):=fun {S5 ι5 H5} n5 f5=>by
          obtain⟨m2',e2,_⟩:=n5.ext
          exact⟨ι5,S5,n5.rs,n5.cY R2 r2,⟨me'++m2',by rw[e2,ext,a7 (ι1++[D])]⟩,tk.trans (n5.tkk R2),Fin.after n5 f5⟩
       cases em:mt ρ1 S2 with
       |bad=>rw[em]at f2;exact f2.elim
       |exc _ _ _=>rw[em]at f2;exact f2.elim
       |ok b S3=>
        rw[em]at f2
        dsimp only at f2
        intro b' ι3 H3 n4 eb
        subst eb
        have n34:=n3.trans n4
        cases b with
        |false=>exact go n34 f2
        |true=>
         rw[if_pos rfl]at f2
         refine⟨ι3,ρ1,S3,n4.rs,n4.cY n3.rs rs2,?_⟩
         cases ey:me ρ1 S3 with
         |bad=>rw[ey]at f2;exact f2.elim
         |exc _ _ _=>rw[ey]at f2;exact f2.elim
         |ok y S4=>
          rw[ey]at f2
          dsimp only at f2
          intro v4 ι4 H4 n5 ry
          have n35:=n34.trans n5
          have hD4:ι4[S1.length]?=some D:=by
                obtain⟨m2',e2,_⟩:=n35.ext
                rw[e2,az (aa.mp akl).1];exact akl
          cases eo:S4[S1.length]? with
          |none=>rw[eo]at f2;exact f2.elim
          |some o=>
           rw[eo]at f2
           cases o with
           |lst acc=>
            dsimp only at f2
            obtain⟨vs,e1,aq1⟩:=n35.rs.obj _ _ _ hD4 eo
            split at f2
            · rename_i hl
              refine⟨vs,e1,by rw[<-aq1.length];exact hl,?_⟩
              have n6:Nx X.K X.mg ι4 H4 (S4.set S1.length (.lst (acc++[y]))) ι4 (upd H4 D (.lst (vs++[v4]))):=n35.rs.put hD4 (fun _ tk'=>⟨vs++[v4],upd_same,by
                      have q:=(aq1.append (.cons ry .nil)).mono (H':=upd H4 D (.lst (vs++[v4]))) tk' []
                      rw[aT]at q
                      exact q⟩) (fun gs z=>nomatch z) e1 (fun z=>z)
              exact go (n35.trans n6) f2
            · exact f2.elim
           |dic _=>exact f2.elim
           |ins _ _=>exact f2.elim
           |tab _=>exact f2.elim
           |frz _=>exact f2.elim
           |mdc _=>exact f2.elim
           |dct _=>exact f2.elim
           |odd _=>exact f2.elim
    · exact f2.elim
  · have hd:src.items.drop i=[]:=hV (gp hi)
    rw[hd]at f2
    unfold Om at f2
    split at f2
    · rename_i hck
      have e:i=src.items.length:=by omega
      exact .inl ⟨by rw[e];exact it.stop ι2 S2 H2 R2 ext1 tk hck,Fin.ret R2 f2 (.ref akl)⟩
    · exact f2.elim
theorem qj(hN:X.N.Nodup)(hi:GI X W tg iter mi)(ok:BlkOk X.N X.env.scope scope own)(htg:CTg X.K X.mg (own.map (·.2)) t g)
    (hg:∀(s:Shared)(H:Hp)(C:Addr)(cl:List (Str×Addr))(fp:List Addr),PG (X.blk s H scope (compEnvC scope cl C X.env) fp) tg t)(ht:∀(s:Shared)(H:Hp)(C:Addr)(cl:List (Str×Addr))(fp:List Addr),GTs (X.blk s H scope (compEnvC scope cl C X.env) fp) W0 ifs mt)
    (he:∀(s:Shared)(H:Hp)(C:Addr)(cl:List (Str×Addr))(fp:List Addr),GE (X.blk s H scope (compEnvC scope cl C X.env) fp) W0 elt me)(hc:X.calm=true:=by rfl)(hs:∀x,foldedSetIterable iter X.env x=pure x:=by intro _;rfl):
    GE X W (.ListComp elt [⟨tg,iter,ifs,0⟩] scope pos) (mLc mi g mt me (own.map (·.2))):=PE.imp (pe_lc (tt:=tDT X.K X.mg W0 mt) (te:=tD X.K X.mg W0 me) hc hN hi ok hg ht he hs) fun σ H Q h=>asq htg h
theorem alw{i:Nat}{y:Str}{py spos:Pos}(hN:X.N.Nodup)(hi:GI X W tg iter mi)(ok:BlkOk X.N X.env.scope scope own)(htg:CTg X.K X.mg (own.map (·.2)) t g)
    (hg:∀(s:Shared)(H:Hp)(C:Addr)(cl:List (Str×Addr))(fp:List Addr),PG (X.blk s H scope (compEnvC scope cl C X.env) fp) tg t)(ht:∀(s:Shared)(H:Hp)(C:Addr)(cl:List (Str×Addr))(fp:List Addr),GTs (X.blk s H scope (compEnvC scope cl C X.env) fp) W0 ifs mt)
    (he:∀(s:Shared)(H:Hp)(C:Addr)(cl:List (Str×Addr))(fp:List Addr),GE (X.blk s H scope (compEnvC scope cl C X.env) fp) W0 elt me)(hsw:swapsWith (.ListComp elt [⟨tg,iter,ifs,0⟩] scope pos) (some (.Name y py)) spos.line X.env=pure true)(hc:X.calm=true:=by rfl)(hy:X.N[i]?=some y:=by rfl)(hyl:X.env.scope.names.lookup y=some .local:=by rfl)(hs:∀x,foldedSetIterable iter X.env x=pure x:=by intro _;rfl):
    GS X W (.Assign [.Name y py] (.ListComp elt [⟨tg,iter,ifs,0⟩] scope pos) spos) (d9 (mLc mi g mt me (own.map (·.2))) (gN i)):=PS.imp (ps_setLc (tt:=tDT X.K X.mg W0 mt) (te:=tD X.K X.mg W0 me) hc hN hy hyl hsw hi ok hg ht he hs) fun D σ H h=>by
  have h':=agJ h
  refine asq (W:=W) htg ?_
  obtain⟨ι,ρ,S,Rs,rs,f⟩:=h'
  exact⟨ι,ρ,S,Rs,rs,f.imp fun v H1 ⟨ι1,ρ1,S1,x,R1,r1,rx,f1⟩=>Fin.ret R1 f1 (r1.set i rx)⟩
end
def iG(n:Nat)(cs:List CV):Rho:=cs.map some++bN (n-cs.length) none
def nR(n:Nat)(m:Rho->M CF)(cs:List CV):M CV:=fun S=>match m (iG n cs) S with
 |.ok (.nx _) S'=>.ok .non S'
 |.ok (.rt c) S'=>.ok c S'
 |.ok (.xc c fs _) S'=>.exc c fs S'
 |_=>.bad
section
variable {P:Program}{w:World}{K:ae}{mg:Str->Option Value}{base:Heap}
theorem aQ.start{ι:List Addr}{H:Hp}{cs:List CV}{vs:List V}{N:List Str}(r:aQ K mg ι H cs vs):d8 K mg ι H (iG N.length cs) (hY N vs):=by
 have hl:=r.length
 refine⟨by simp[iG,hY,hl],fun i c e=>?_⟩
 unfold iG at e
 unfold hY
 by_cases hi:i<cs.length
 ·rw[az (by simpa using hi),bu]at e
  rw[az (by rw[ar, <-hl];exact hi),bu]
  cases q:cs[i]? with
  |none=>rw[q]at e;cases e
  |some c'=>
   rw[q]at e
   cases e
   obtain⟨v,hv,rv⟩:=r.get q
   exact⟨v,by rw[hv];rfl,rv⟩
 ·rw[aL (by simpa using hi),fA]at e
  split at e<;>cases e
/-- the wish of a def's body -/
abbrev WE'(E:XK):WX:=fun cls d _ H=>E cls d H
theorem axU{x qual:Str}{st:Stmt}{f:Addr}{fd:FuncData}{N ps:List Str}{k:Nat}{m:Rho->M CF}(F:Fun K x qual st f fd)(Sc:FnScope N ps (defScope st))
    (hbody:∀(cdv:Value)(A:Around)(outer:List Env)(s:Shared)(H:Hp)(E:XK),RmG k (A.deeper (envOfC qual (defScope st) s.heap.objs.size f cdv))->
      Takes (cxOf (fo P w) P w K mg base N qual (defScope st) f cdv A outer s H E) (WE' E)->PassesOwn (model P w) (A.deeper (envOfC qual (defScope st) s.heap.objs.size f cdv)) (envOfC qual (defScope st) s.heap.objs.size f cdv) (cxOf (fo P w) P w K mg base N qual (defScope st) f cdv A outer s H E).xe->
      GSs (cxOf (fo P w) P w K mg base N qual (defScope st) f cdv A outer s H E) (WE' E) (defBody st) m):FnD P w K mg base (k+1) f fd ps (nR N.length m):=by
  obtain⟨o1,o2,d1,d2,d3,d4,cdv,d5,d6,efd,atf,code⟩:=F.ex
  subst efd
  constructor
  intro A outer s H args us vs Q E room env0 bound rel prom
  have inK:K.In s.heap:=env0.mod.kin.keeps fun b o e=>(env0.bs b o e).1
  have afI:s.heap.NoLimit:=env0.mod.nolimit.keeps fun b o e=>(env0.bs b o e).1
  refine codeAny_call_function room.rm.depth (inK _ _ atf) rfl Sc.co Sc.gen rfl (kC inK code) (bound _ _ _ _ (wpAny_newFunctionEnv_cells Sc.kind ?kinds fun env au2 s1 entered=>?body))
  case kinds=>
    rintro ⟨y,v⟩ hy
    refine(Sc.par y (List.of_mem_zip hy).1).imp id fun hc=>⟨hc,?_⟩
    exact ka _ _ _ (.inl hc)
  case body=>
    subst au2
    refine⟨afI.keeps entered.toInCall.keep,codeAny_func ?_⟩
    have inv:Inv (cxOf (fo P w) P w K mg base N qual (defScope st) f cdv A outer s H E) [] (hY N vs) H s1:=inv_start Sc room.rm.hd env0 prom.1 rel entered
    obtain⟨_,ι,S,cs,Rs,rc,fi⟩:=prom
    have goal:tS K mg (WE' E) m {nx:=fun _ H'=>Q .non H',rt:=Q} (hY N vs) H:=by
      refine⟨ι,iG N.length cs,S,Rs,rc.start,?_⟩
      unfold nR at fi
      cases r:m (iG N.length cs) S with
      |bad=>rw[r]at fi;exact fi
      |exc _ _ _=>rw[r]at fi;exact fi.elim
      |ok fl S'=>
       rw[r]at fi
       cases fl with
       |nx ρ=>exact fun σ' ι' H' n _=>fi .non ι' H' n .non
       |rt c=>exact fi
       |bk ρ=>exact fi.elim
       |ct ρ=>exact fi.elim
       |xc c fs ρ=>exact fun C d gs σ' ι' H' e n _ hd hf=>fi C d gs ι' H' e n hd hf
    have walked:=(hbody cdv A outer s H E (room.deeper _) (takes_of rfl rfl rfl rfl) (passes_of rfl)).run [] s1 (hY N vs) H _ inv goal
    refine wpAny_mono walked (fun fl s' told=>?_) fun _ _ z=>z
    cases fl with
    |ret u=>
     obtain⟨v,σ',H',J,rv,q⟩:=told
     exact⟨v,H',J.os,J.bare,J.base,J.hok,rv,q⟩
    |next=>
     obtain⟨σ',H',J,q⟩:=told
     exact⟨V.non,H',J.os,J.bare,J.base,J.hok,rfl,q⟩
    |brk=>
     obtain⟨_,_,_,q⟩:=told
     exact q.elim
    |cont=>
     obtain⟨_,_,_,q⟩:=told
     exact q.elim
end
section
variable {K:ae}{mg:Str->Option Value}{ι:List Addr}{H:Hp}{S:Sto}
theorem RS.side(Rs:RS K mg ι S H){p:Addr}{u:HO}(hp:H p=none):Nx K mg ι H S ι (upd H p u):=by
 have keep:∀b o,H b=some o->upd H p u b=some o:=fun b o e=>by rw[upd_ne (ne_of_none e hp)];exact e
 have fr:Frm ι H (upd H p u):=fun b o _ _ e=>keep b o e
 have tk:=Rs.tk fr
 refine⟨⟨Rs.len,Rs.nd,fun n a o e1 e2=>?_⟩,⟨[],by simp,fun _ h=>nomatch h⟩,fr⟩
 have ho:=Rs.obj n a o e1 e2
 obtain⟨u',hu,_⟩:=ho.plain
 have:=ho.mono tk [] (by rw[upd_ne (ne_of_none hu hp)])
 rw[aT]at this
 exact this
def JD(f:Str)(c:CV):List (Str×CV)->List (Str×CV)
 | []=>[(f,c)]
 |(g,d)::r=>if g=f then (g,c)::r else (g,d)::JD f c r
theorem fL.put{f:Str}{c:CV}{v:V}(r:bx K mg ι H c v):∀{fs:List (Str×CV)}{gs:List (Str×V)},fL K mg ι H fs gs->fL K mg ι H (JD f c fs) (putF f v gs)
 |_,_,.nil=>.cons r .nil
 |_,_,.cons (f:=g) q t=>by
  unfold JD putF
  by_cases h:g=f
  ·subst h;rw[if_pos rfl,if_pos rfl];exact .cons r t
  ·rw[if_neg h,if_neg h];exact .cons q (fL.put r t)
theorem fL.look{f:Str}:∀{fs:List (Str×CV)}{gs:List (Str×V)},fL K mg ι H fs gs->match fs.lookup f with
    |some c=>∃v,gs.lookup f=some v/\bx K mg ι H c v
    |none=>gs.lookup f=none
  |_,_,.nil=>rfl
  |_,_,.cons (f:=g) (c:=c) (v:=v) q t=>by
   by_cases h:f=g
   · subst h
     simp only[dS,beq_self_eq_true]
     exact⟨v,rfl,q⟩
   · have h':(f==g)=false:=by simpa using h
     simp only[dS,h']
     exact fL.look t
theorem fL.look_some{f:Str}{c:CV}{fs:List (Str×CV)}{gs:List (Str×V)}(r:fL K mg ι H fs gs)(h:fs.lookup f=some c):∃v,gs.lookup f=some v/\bx K mg ι H c v:=by
 have:=r.look (f:=f)
 rw[h]at this
 exact this
theorem fL.look_none{f:Str}{fs:List (Str×CV)}{gs:List (Str×V)}(r:fL K mg ι H fs gs)(h:fs.lookup f=none):gs.lookup f=none:=by
 have:=r.look (f:=f)
 rw[h]at this
 exact this
theorem fL.length:∀{fs:List (Str×CV)}{gs:List (Str×V)},fL K mg ι H fs gs->fs.length=gs.length
 |_,_,.nil=>rfl
 |_,_,.cons _ t=>by simp[fL.length t]
end
/-- a def that may be called: at most level k, n parameters, no defaults -/
structure Callee(P:Program)(w:World)(K:ae)(mg:Str->Option Value)(base:Heap)(k:Nat)(f:Addr)(n:Nat)(m:List CV->M CV):Prop where
 ex:∃fd ps,ps.length=n/\FnD P w K mg base k f fd ps m/\Binds K fd ps []
 kp:ik K (.ref f)=true
def app(n:Nat)(m:List CV->M CV)(cs:List CV):M CV:=if cs.length=n then m cs else bad
def yQ(c:Str)(n:Nat)(m:List CV->M CV):List CV->M CV:=fun cs S=>(app n m (.ref S.length::cs) (S++[.ins c []])).bnd fun r S'=>match r with
 |.non=>.ok (.ref S.length) S'
 |_=>.bad
section
variable {X:Cx}{W:WX}{a b c e o value:Expr}{es:List Expr}{ma mb mc me mv:Rho->M CV}{ms:Rho->M (List CV)}{pos pos' p:Pos}{k n:Nat}{f C:Addr}{m:List CV->M CV}{x:Str}
theorem afU{pins:List (Addr×Obj)}{σ:cz}{H:Hp}{s:Shared}{Q:VK}{us:List Value}{vs:List V}{cs:List CV}{ι:List Addr}{S:Sto}(F:Callee X.prog X.w X.K X.mg X.base k f n m)(hr:RmG k X.A)(tk:Takes X W)
    (I:Inv X pins σ H s)(r:Vals vs us)(Rs:RS X.K X.mg ι S H)(rc:aQ X.K X.mg ι H cs vs)(h:Fin X.K X.mg ι H (bx X.K X.mg) (app n m cs S) Q (fun c d H'=>W c d σ H')):
    wpAny (model X.prog X.w) X.A (call (.ref f) us) (EP X pins σ Q) X.xe s:=by
  obtain⟨fd,ps,hl,F',hb⟩:=F.ex
  subst hl
  exact arb (dvs:=[]) (dcs:=[]) F' hr hb .nil (fun _ _=>.nil) tk I r Rs rc (by simpa[app]using h)
theorem cI(F:Callee X.prog X.w X.K X.mg X.base k f n m)(hr:RmG k X.A)(hm:X.mg x=some (.ref f))(tk:Takes X W)(ha:GA X W (e::es) ms)(hg:Gl X x:=by rfl)(hdb:(x==("__debug__":Str))=false:=by decide)
    (he:starEach (e::es) X.env=(false,eval e X.env)::starEach es X.env:=by rfl)(hpl:(backTo pos (starEach es X.env)).any (·.1)=false:=by rfl):GE X W (.Call (.Name x p) (e::es) [] pos) (fun ρ=>bnd (ms ρ) (app n m)):=by
  refine⟨fun pins s σ H Q I ⟨ι,ρ,S,Rs,rs,fi⟩=>?_⟩
  refine wpAny_Call_Name_kw (ld_glob I hg hm ?_ hdb)
  refine iE (h₀:=X.base) I.ok.mod.kin F.kp (thn (ha.run pos pins s σ H _ I ⟨ι,ρ,S,Rs,rs,Fin.bnd (R:=aQ X.K X.mg) fi⟩) fun us s1 ⟨vs,H1,I1,r,ι1,S1,xs,n1,rx,f1⟩=>⟨I1.kIn,?_⟩) he hpl
  exact afU F hr tk I1 r n1.rs rx f1
/-- what a class must say to be made -/
structure MkC(K:ae)(mg:Str->Option Value)(c:Str)(C f:Addr):Prop where
 made:Mk K C f
 gl:mg c=some (.ref C)
/-- a new instance without fields -/
theorem ahP{K:ae}{mg:Str->Option Value}{ι:List Addr}{H:Hp}{S:Sto}{c:Str}{x dx:Addr}(Rs:RS K mg ι S H)(hg:mg c=some (.ref C))(hx:H x=none)(hdx:H dx=none)(ne:dx≠x):
    Nx K mg ι H (S++[.ins c []]) (ι++[x]) (upd (upd H dx (.own x)) x (.ins C dx []))/\(ι++[x])[S.length]?=some x:=by
  have n1:=Rs.side (u:=.own x) hdx
  have hx':upd H dx (.own x) x=none:=by rw[upd_ne (eW ne)];exact hx
  have n2:Nx K mg ι (upd H dx (.own x)) (S++[.ins c []]) (ι++[x]) (upd (upd H dx (.own x)) x (.ins C dx [])):=n1.rs.new hx' ⟨C,dx,[],hg,upd_same,.nil⟩
  exact⟨n1.trans n2,by rw[<-Rs.len,aL (ba _),fv];rfl⟩
theorem run_makeD{c:Str}{pins:List (Addr×Obj)}{σ:cz}{H:Hp}{s:Shared}{Q:VK}{us:List Value}{vs:List V}{cs:List CV}{ι:List Addr}{S:Sto}(Mc:MkC X.K X.mg c C f)(F:Callee X.prog X.w X.K X.mg X.base k f n m)(hr:RmG (k+1) X.A)(tk:Takes X W)
    (I:Inv X pins σ H s)(r:Vals vs us)(Rs:RS X.K X.mg ι S H)(rc:aQ X.K X.mg ι H cs vs)(h:Fin X.K X.mg ι H (bx X.K X.mg) (yQ c n m cs S) Q (fun c d H'=>W c d σ H')):
    wpAny (model X.prog X.w) X.A (call (.ref C) us) (EP X pins σ Q) X.xe s:=by
  obtain⟨fd,ps,hl,F',hb⟩:=F.ex
  subst hl
  have I2:=Inv.made (C:=C) I
  obtain⟨nx,hat⟩:=ahP (c:=c) Rs Mc.gl (I.hok.fresh (gI s.heap.objs.size)) (I.hok.fresh (ba _)) (eA (jv _))
  have rcs:aQ X.K X.mg (ι++[s.heap.objs.size+1]) _ (.ref S.length::cs) (V.ref (s.heap.objs.size+1)::vs):=.cons (.ref hat) (nx.reps Rs rc)
  have h':Fin X.K X.mg (ι++[s.heap.objs.size+1]) _ (bx X.K X.mg) ((app ps.length m (.ref S.length::cs) (S++[.ins c []])).bnd fun r S'=>match r with
    |.non=>.ok (.ref S.length) S'
    |_=>.bad) Q (fun c d H'=>W c d σ H'):=Fin.after nx h
  have f2:Fin X.K X.mg (ι++[s.heap.objs.size+1]) _ (bx X.K X.mg) (app ps.length m (.ref S.length::cs) (S++[.ins c []])) (fun v H2=>v=.non/\Q (.ref (s.heap.objs.size+1)) H2) (fun c d H'=>W c d σ H'):=(Fin.bnd (R:=bx X.K X.mg) h').imp fun v H2 ⟨ι2,S2,d,n2,rd,f3⟩=>by
    cases rd with
    |non=>
     refine⟨rfl,Fin.ret n2.rs f3 (.ref ?_)⟩
     obtain⟨mm,e,_⟩:=n2.ext
     rw[e,az (aa.mp hat).1];exact hat
    |_=>exact f3.elim
  have r2:Vals (V.ref (s.heap.objs.size+1)::vs) (Value.ref (s.heap.objs.size+1)::us):=.cons rfl r
  have run:=Ij (pins:=pins) (args:=⟨Value.ref (s.heap.objs.size+1)::us,[]⟩) F' (hr.make C us []) (I2.env0.make C us []) (fun hl=>by
    have hbb:=hb _ (Value.ref (s.heap.objs.size+1)::us) I2.kIn (by rw[aT];exact hl)
    rw[aT]at hbb
    exact hbb) tk I2 r2 nx.rs rcs f2
  refine wpAny_call (make_map (f:=f) I.kIn Mc.made.makes Mc.made.init (beq_iff_eq.mp Mc.made.fn) (codeAny_mono run fun r s' hq'=>?_))
  cases r with
  |error e=>exact hq'
  |ok fl=>
   cases fl with
   |ret u=>
    obtain⟨v,H',I3,rv,ev,q3⟩:=hq'
    subst ev
    exact⟨rv,⟨V.ref (s.heap.objs.size+1),H',I3,rfl,q3⟩⟩
   |next=>exact cm hq'
   |brk=>exact cm hq'
   |cont=>exact cm hq'
theorem lH{c:Str}(Mc:MkC X.K X.mg c C f)(F:Callee X.prog X.w X.K X.mg X.base k f n m)(hr:RmG (k+1) X.A)(tk:Takes X W)(ha:GA X W (e::es) ms)(hg:Gl X c:=by rfl)(hdb:(c==("__debug__":Str))=false:=by decide)
    (he:starEach (e::es) X.env=(false,eval e X.env)::starEach es X.env:=by rfl)(hpl:(backTo pos (starEach es X.env)).any (·.1)=false:=by rfl):GE X W (.Call (.Name c p) (e::es) [] pos) (fun ρ=>bnd (ms ρ) (yQ c n m)):=by
  refine⟨fun pins s σ H Q I ⟨ι,ρ,S,Rs,rs,fi⟩=>?_⟩
  refine wpAny_Call_Name_kw (ld_glob I hg Mc.gl ?_ hdb)
  refine iE (h₀:=X.base) I.ok.mod.kin Mc.made.kp (thn (ha.run pos pins s σ H _ I ⟨ι,ρ,S,Rs,rs,Fin.bnd (R:=aQ X.K X.mg) fi⟩) fun us s1 ⟨vs,H1,I1,r,ι1,S1,xs,n1,rx,f1⟩=>⟨I1.kIn,?_⟩) he hpl
  exact run_makeD Mc F hr tk I1 r n1.rs rx f1
/-- the classes whose instances have the attribute f as a field of their own -/
def VJ(K:ae)(mg:Str->Option Value)(c f:Str):Prop:=∃C,mg c=some (.ref C)/\Cls K C/\NoAttr K C f
def akx(f:Str)(tbl:List Str):CV->CV->M Unit:=fun x v S=>match x with
 |.ref n=>match S[n]? with
  |some (.ins c fs)=>if c∈tbl/\fs.length<1000 then .ok () (S.set n (.ins c (JD f v fs))) else .bad
  |_=>.bad
 |_=>.bad
def Qi(f:Str)(tbl:List Str)(mo mv:Rho->M CV):Rho->M CF:=fun ρ S=>lft ρ (mv ρ S) fun y S1=>lft ρ (mo ρ S1) fun x S2=>lft ρ (akx f tbl x y S2) fun _=>ret (.nx ρ)
theorem Ua{f:Str}{tbl:List Str}(ht:∀c∈tbl,VJ X.K X.mg c f)(ho:GE X W o ma)(hv:GE X W value mv)(hs:swapsWith value (some (.Attribute o f pos')) pos.line X.env=pure false:=by rfl):GS X W (.Assign [.Attribute o f pos'] value pos) (Qi f tbl ma mv):=
 PS.imp (ps_fld ho hv hs) fun D σ H ⟨ι,ρ,S,Rs,rs,fi⟩=>by
  refine⟨ι,ρ,S,Rs,rs,(zu.lft (R:=bx X.K X.mg) Rs rs fi).imp fun y H1 ⟨ι1,S1,cy,n1,ry,f1⟩=>?_⟩
  have rs1:=n1.cY Rs rs
  refine⟨ι1,ρ,S1,n1.rs,rs1,(zu.lft (R:=bx X.K X.mg) n1.rs rs1 f1).imp fun x H2 ⟨ι2,S2,cx,n2,rx,f2⟩=>?_⟩
  have rs2:=n2.cY n1.rs rs1
  have ry2:=n2.rep n1.rs ry
  unfold akx at f2
  cases rx with
  |ref hq=>
   dsimp only at f2
   split at f2
   ·rename_i c fs ec
    split at f2
    ·rename_i hc
     obtain⟨C,dx,gs,hm,e1,rf⟩:=n2.rs.obj _ _ _ hq ec
     obtain⟨C',hm',cl,na⟩:=ht _ hc.1
     rw[hm]at hm';cases hm'
     have n3:Nx X.K X.mg ι2 H2 (S2.set _ (.ins c (JD f cy fs))) ι2 (upd H2 _ (.ins C dx (putF f y gs))):=n2.rs.put hq (fun _ tk'=>⟨C,dx,_,hm,upd_same,by
      have q:=(rf.put (f:=f) ry2).mono (H':=upd H2 _ (.ins C dx (putF f y gs))) tk' []
      rw[aT]at q
      exact q⟩) (fun gs z=>nomatch z) e1 (fun z=>z)
     exact⟨_,C,dx,gs,rfl,e1,cl,na,by rw[<-rf.length];exact hc.2,f2 σ ι2 _ n3 (n3.cY n2.rs rs2)⟩
    ·exact f2.elim
   ·exact f2.elim
  |_=>exact f2.elim
def arX(X:Cx)(W:WX)(f:Str)(g:CV->M CV):Prop:=
 ∀(pins:List (Addr×Obj))(s:Shared)(σ:cz)(H:Hp)(ι:List Addr)(S:Sto)(x:CV)(v:V)(a:Value)(Q:VK),Inv X pins σ H s->RelV v a->RS X.K X.mg ι S H->bx X.K X.mg ι H x v->
  Fin X.K X.mg ι H (bx X.K X.mg) (g x S) Q (fun c d H'=>W c d σ H')->wpAny (model X.prog X.w) X.A (getAttr a f true) (EP X pins σ Q) X.xe s
theorem nA{f:Str}{g:CV->M CV}(hg:arX X W f g)(he:GE X W e me)(hb:attributeBase e f X.env (eval e X.env)=eval e X.env:=by rfl):GE X W (.Attribute e f pos) (mUn g me):=
 ⟨fun pins s σ H Q I ⟨ι,ρ,S,Rs,rs,fi⟩=>attr_of hb (thn (he.run pins s σ H _ I ⟨ι,ρ,S,Rs,rs,Fin.bnd (R:=bx X.K X.mg) fi⟩) fun v' s1 ⟨v,H1,I1,r1,ι1,S1,x,n1,rx,f1⟩=>hg pins s1 σ H1 ι1 S1 x v v' Q I1 r1 n1.rs rx f1)⟩
/-- what an attribute of a class's instances is -/
inductive AK where
 |fld|prop (m:List CV->M CV)|con (c:CV)
/-- no exception leaves -/
def V3{α:Type}(r:Res α):Res α:=match r with
 |.ok a S=>.ok a S
 |_=>.bad
def uo(f:Str)(tbl:List (Str×AK)):CV->M CV:=fun x S=>match x with
 |.ref n=>match S[n]? with
  |some (.ins c fs)=>match tbl.lookup c with
   |some .fld=>match fs.lookup f with
    |some v=>.ok v S
    |none=>.bad
   |some (.prop m)=>V3 (m [x] S)
   |some (.con v)=>match fs.lookup f with
    |none=>.ok v S
    |some _=>.bad
   |none=>.bad
  |_=>.bad
 |.cls c=>match tbl.lookup c with
  |some (.con v)=>.ok v S
  |_=>.bad
 |_=>.bad
inductive abK(P:Program)(w:World)(K:ae)(mg:Str->Option Value)(base:Heap)(k:Nat)(c f:Str):AK->Prop where
 |fld (h:VJ K mg c f):abK P w K mg base k c f .fld
 |prop {C p g:Addr} {j:Nat} {m:List CV->M CV} (hm:mg c=some (.ref C)) (cl:Cls K C) (hp:PropOf K C f p g) (F:Callee P w K mg base j g 1 m) (hj:j+1<=k):abK P w K mg base k c f (.prop m)
 |con {C:Addr} {v:V} {u:Value} {cv:CV} (hm:mg c=some (.ref C)) (cl:Cls K C) (h:Con K C f v u) (hc:∃mc u',ClX.CRead K C mc/\ClX.CVal K C mc f v u') (r:∀ι H,bx K mg ι H cv v):abK P w K mg base k c f (.con cv)
theorem j6{α:Type}{c:Str}{v:α}:∀{tbl:List (Str×α)},tbl.lookup c=some v->(c,v)∈tbl
 | [],h=>nomatch h
 |(d,u)::r,h=>by
  unfold dS at h
  split at h
  ·rename_i hc
   cases h
   rw[eq_of_beq hc]
   exact af
  ·exact ag _ (j6 h)
theorem uE{f:Str}{tbl:List (Str×AK)}(ht:∀p∈tbl,abK X.prog X.w X.K X.mg X.base k p.1 f p.2)(hr:RmG k X.A):arX X W f (uo f tbl):=by
 intro pins s σ H ι S x v a Q I rv Rs rx fi
 unfold uo at fi
 cases rx with
 | @ref nq aq hq=>
  cases rv
  dsimp only at fi
  split at fi
  ·rename_i c fs ec
   obtain⟨C,dx,gs,hm,e1,rf⟩:=Rs.obj _ _ _ hq ec
   split at fi
   ·rename_i hl
    cases ht _ (j6 hl) with
    |fld h=>
     obtain⟨C',hm',cl,na⟩:=h
     rw[hm]at hm';cases hm'
     split at fi
     ·rename_i cv hf
      obtain⟨u,hu,ru⟩:=rf.look_some hf
      exact getattr_ok I e1 cl na hu fun u' s2 I2 ru'=>⟨u,H,I2,ru',Fin.ret Rs fi ru⟩
     ·exact fi.elim
   ·rename_i mm hl
    cases ht _ (j6 hl) with
    |prop hm' cl hp F hj=>
     rw[hm]at hm';cases hm'
     obtain⟨fd,ps,hl,F',hb⟩:=F.ex
     obtain⟨mA,O,_,_,_,_⟩:=ins_get I.hok e1
     obtain⟨od,J,_⟩:=O.look
     obtain⟨rest,hrec⟩:=hp.rec_
     have hcls:(fq X.K C).isSome=true:=by
      obtain⟨cd,hcd,_⟩:=iX cl.hd
      rw[hcd];rfl
     have pg:=PySem.W.plainGet_of (cl.get f)
     have I1:=I.tok (s.toks+1)
     refine PySem.W.get_bind I.kIn J pg.1 (kq hcls hp.at_ hp.get hp.tak) pg.2 (wpAny_call (PySem.W.prop_get (s:={s with toks:=s.toks+1}) I.kIn hrec ?_))
     have fi':Fin X.K X.mg ι H (bx X.K X.mg) ((if [CV.ref nq].length=ps.length then mm [CV.ref nq] else bad) S) Q (fun c d H'=>(fun _ _ _ _=>False:WX) c d σ H'):=by
      rw[if_pos (show[CV.ref nq].length=ps.length from hl.symm)]
      unfold V3 at fi
      cases r:mm [CV.ref nq] S with
      |ok d S'=>rw[r]at fi;exact fi
      |exc _ _ _=>rw[r]at fi;exact fi.elim
      |bad=>rw[r]at fi;exact fi.elim
     have run:=Ij (X:=X.nox) (W:=fun _ _ _ _=>False) (pins:=pins) (σ:=σ) (args:=⟨[.ref aq],[]⟩) (us:=[.ref aq]) (vs:=[.ref aq]) F' (hr.mono hj).in1 (I1.wish _).env0.in1 (fun hl'=>by
      have hbb:=hb {s with toks:=s.toks+1} [.ref aq] I.kIn (by rw[aT];exact hl')
      rw[aT]at hbb
      exact hbb) (fun u s' z=>by
       obtain⟨_,_,_,_,_,_,_,_,_,_,_,_,_,_,_,_,z⟩:=z
       exact z) (I1.wish _) (.cons rfl .nil) Rs (.cons (.ref hq) .nil) fi'
     refine codeAny_mono run fun r s' hb'=>?_
     cases r with
     |error er=>exact hb'.elim
     |ok fl=>
      cases fl with
      |ret u=>
       obtain⟨v,H',I3,rv,q3⟩:=hb'
       show wpAny _ _ (handedOut u) _ _ _
       rw[kn (handed_of rv)]
       exact wpAny_pure ⟨v,H',I3.unwish,rv,q3⟩
      |next=>exact hb'.elim
      |brk=>exact hb'.elim
      |cont=>exact hb'.elim
   ·rename_i cv hl
    cases ht _ (j6 hl) with
    |con hm' cl h _ r=>
     rw[hm]at hm';cases hm'
     split at fi
     ·rename_i hf
      exact getcon_ok I e1 cl h (rf.look_none hf) fun s2 I2=>⟨_,H,I2,h.rel,Fin.ret Rs fi (r _ _)⟩
     ·exact fi.elim
   ·exact fi.elim
  ·exact fi.elim
 |cls hm=>
  cases rv
  dsimp only at fi
  split at fi
  ·rename_i cv hl
   cases ht _ (j6 hl) with
   |con hm' cl h hc r=>
    rw[hm]at hm';cases hm'
    obtain⟨mc,u',h1,h2⟩:=hc
    exact ClX.getcval_ok I h1 h2 fun s2 I2=>⟨_,H,I2,h2.rel,Fin.ret Rs fi (r _ _)⟩
  ·exact fi.elim
 |_=>exact fi.elim
end
open ClX
/-- what a name is, called on an instance of a class, or on the class itself -/
inductive MK where
 |meth (n:Nat) (m:List CV->M CV)|ar9 (n:Nat) (m:List CV->M CV)|asV (n:Nat) (m:List CV->M CV)
def au6(name:Str)(tbl:List (Str×MK))(x:CV)(S:Sto):Option (List CV->M CV):=match x with
 |.ref i=>match S[i]? with
  |some (.ins c fs)=>if (fs.lookup name).isNone then (match tbl.lookup c with
   |some (.meth n m)=>some fun xs=>app n m (x::xs)
   |_=>none) else none
  |_=>none
 |.cls c=>match tbl.lookup c with
  |some (.ar9 n m)=>some fun xs=>app n m (.cls c::xs)
  |some (.asV n m)=>some fun xs=>app n m xs
  |_=>none
 |_=>none
def axZ(name:Str)(tbl:List (Str×MK))(mo:Rho->M CV)(ms:Rho->M (List CV)):Rho->M CV:=fun ρ=>bnd (mo ρ) fun x S=>match au6 name tbl x S with
 |some g=>bnd (ms ρ) g S
 |none=>.bad
section
variable {X:Cx}{W:WX}{a b c e o:Expr}{es:List Expr}{ma mb me mo:Rho->M CV}{ms:Rho->M (List CV)}{pos apos p:Pos}
theorem Gx{f:Value->Value->Sem Value}{r:R2}{g:CV->CV->M CV}(h:OpR X f r)(hg:∀(ι:List Addr)(S:Sto)(H:Hp)(x y:CV)(v u:V)(Q:VK)(B:XK),RS X.K X.mg ι S H->bx X.K X.mg ι H x v->bx X.K X.mg ι H y u->Fin X.K X.mg ι H (bx X.K X.mg) (g x y S) Q B->r v u H Q):OpG X W f g:=
 fun pins s σ H ι S x y v u a b Q I rv ru Rs rx ry fi=>h pins s σ H v u a b Q I rv ru (hg ι S H x y v u Q _ Rs rx ry fi)
theorem auE{f:Value->Sem Value}{r:V->Hp->VK->Prop}{g:CV->M CV}(h:UnR X f r)(hg:∀(ι:List Addr)(S:Sto)(H:Hp)(x:CV)(v:V)(Q:VK)(B:XK),RS X.K X.mg ι S H->bx X.K X.mg ι H x v->Fin X.K X.mg ι H (bx X.K X.mg) (g x S) Q B->r v H Q):UnG X W f g:=
 fun pins s σ H ι S x v a Q I rv Rs rx fi=>h pins s σ H v a Q I rv (hg ι S H x v Q _ Rs rx fi)
theorem oW{f:Value}{r:List V->Hp->VK->Prop}{g:List CV->M CV}(h:CallR X f r)(hg:∀(ι:List Addr)(S:Sto)(H:Hp)(xs:List CV)(vs:List V)(Q:VK)(B:XK),RS X.K X.mg ι S H->aQ X.K X.mg ι H xs vs->Fin X.K X.mg ι H (bx X.K X.mg) (g xs S) Q B->r vs H Q):oH X W f g:=
 fun pins s σ H ι S xs vs us Q I rv Rs rx fi=>h pins s σ H vs us Q I rv (hg ι S H xs vs Q _ Rs rx fi)
/-- ints in, an int out, under C -/
def intOp(C:Int->Int->Bool)(g:Int->Int->CV):CV->CV->M CV:=fun x y S=>match x,y with
 |.int i,.int j=>if C i j then .ok (g i j) S else .bad
 |_,_=>.bad
/-- a + b -/
def sV:CV->CV->M CV:=fun x y S=>match x,y with
 |.int i,.int j=>.ok (.int (i+j)) S
 |.str a,.str b=>if a.length+b.length<=sizeLine then .ok (.str (a++b)) S else .bad
 |.ref n,.ref k=>match S[n]?,S[k]? with
  |some (.lst xs),some (.lst ys)=>if xs.length+ys.length<=sizeLine then .ok (.ref S.length) (S++[.lst (xs++ys)]) else .bad
  |_,_=>.bad
 |.tup xs,.tup ys=>if xs.isEmpty=false/\xs.length+ys.length<=sizeLine then .ok (.tup (xs++ys)) S else .bad
 |_,_=>.bad
theorem gq:OpG X W (binaryOp .Add) sV:=Gx (OpR.or (OpR.or op_add op_add_str) (OpR.or op_cat op_catT)) fun ι S H x y v u Q B Rs rx ry fi=>by
 unfold sV at fi
 cases rx with
 |int i=>cases ry with
  |int j=>exact .inl (.inl ⟨i,j,rfl,rfl,Fin.ret Rs fi (.int _)⟩)
  |_=>exact fi.elim
 |str a=>cases ry with
  |str b=>
   dsimp only at fi
   split at fi
   ·rename_i h;exact .inl (.inr ⟨a,b,rfl,rfl,h,Fin.ret Rs fi (.str _)⟩)
   ·exact fi.elim
  |_=>exact fi.elim
 |ref hq=>cases ry with
  |ref hk=>
   dsimp only at fi
   split at fi
   ·rename_i xs ys e1 e2
    obtain⟨vs,h1,r1⟩:=Rs.obj _ _ _ hq e1
    obtain⟨us,h2,r2⟩:=Rs.obj _ _ _ hk e2
    split at fi
    ·rename_i hl
     refine .inr (.inl ⟨_,_,vs,us,rfl,rfl,h1,h2,by rw[<-r1.length, <-r2.length];exact hl,fun p hp=>?_⟩)
     obtain⟨n2,r3⟩:=lJ Rs (r1.append r2) hp
     exact fi _ _ _ n2 r3
    ·exact fi.elim
   ·exact fi.elim
  |_=>exact fi.elim
 |tup hq rr=>cases ry with
  |tup hk ss=>
   dsimp only at fi
   split at fi
   ·rename_i h
    have ne:∀{cs:List CV}{vs:List V},aQ X.K X.mg ι H cs vs->cs.isEmpty=false->vs≠[]:=fun r h0 e=>by
     subst e
     cases r
     cases h0
    refine .inr (.inr ⟨_,_,_,_,rfl,rfl,hq,hk,ne rr h.1,by rw[<-rr.length, <-ss.length];exact h.2,fun e=>?_,fun e p hp=>?_⟩)
    ·subst e
     cases ss
     refine Fin.ret Rs fi ?_
     rw[aT]
     exact .tup hq rr
    ·obtain⟨n2,r3⟩:=QX Rs (rr.append ss) hp
     exact fi _ _ _ n2 r3
   ·exact fi.elim
  |_=>exact fi.elim
 |_=>exact fi.elim
theorem ab5{op:Operator}{C:Int->Int->Prop}{C':Int->Int->Bool}{g:Int->Int->V}{g':Int->Int->CV}(h:OpR X (binaryOp op) (rI C g))(hc:∀i j,C' i j=true->C i j)(hg:∀ι H i j,bx X.K X.mg ι H (g' i j) (g i j)):OpG X W (binaryOp op) (intOp C' g'):=Gx h fun ι S H x y v u Q B Rs rx ry fi=>by
 unfold intOp at fi
 cases rx with
 |int i=>cases ry with
  |int j=>
   dsimp only at fi
   split at fi
   ·rename_i h';exact⟨i,j,rfl,rfl,hc i j h',Fin.ret Rs fi (hg _ _ i j)⟩
   ·exact fi.elim
  |_=>exact fi.elim
 |_=>exact fi.elim
theorem aqI{f:Value->Value->Sem Value}{g:Int->Int->V}{g':Int->Int->CV}(h:OpR X f (rI0 g))(hg:∀ι H i j,bx X.K X.mg ι H (g' i j) (g i j)):OpG X W f (intOp (fun _ _=>true) g'):=Gx h fun ι S H x y v u Q B Rs rx ry fi=>by
 unfold intOp at fi
 cases rx with
 |int i=>cases ry with
  |int j=>exact⟨i,j,rfl,rfl,Fin.ret Rs fi (hg _ _ i j)⟩
  |_=>exact fi.elim
 |_=>exact fi.elim
def avd:CV->CV->M CV:=intOp (fun _ _=>true) fun i j=>.int (i-j)
theorem aqM:OpG X W (binaryOp .Sub) avd:=aqI op_sub fun _ _ _ _=>.int _
/-- a * b: ints, one of them within 2 ^ 64 -/
def mulC:CV->CV->M CV:=fun x y S=>match x,y with
 |.int i,.int j=>if (-(2 ^ 64)<i/\i<2 ^ 64)\/(-(2 ^ 64)<j/\j<2 ^ 64) then .ok (.int (i*j)) S else .bad
 |.ref n,.int k=>match S[n]? with
  |some (.lst xs)=>if -(2 ^ 63)<=k/\k<2 ^ 63/\xs.length*k.toNat<=sizeLine then .ok (.ref S.length) (S++[.lst (bN k.toNat xs).flatten]) else .bad
  |_=>.bad
 |.str a,.int k=>if 0<=k/\k<=1000/\a.length<=1000 then .ok (.str (Txt.mul a k)) S else .bad
 |_,_=>.bad
theorem aqL:OpR X (binaryOp .Mult) (fun x y H Q=>∃a n,x=.str a/\y=.int n/\(0<=n/\n<=1000/\a.length<=1000)/\Q (.str (Txt.mul a n)) H):=by
 intro pins s σ H x y v u Q I rx ry h
 obtain⟨a,n,rfl,rfl,⟨h0,h1,h2⟩,q⟩:=h
 obtain⟨t,rfl⟩:=rx
 obtain⟨t',rfl⟩:=ry
 have ok:MulOk a n:=by
  refine⟨?_,fun hn _=>?_,fun hn _=>?_⟩
  ·rw[decide_eq_false (by omega),decide_eq_false (by omega)];rfl
  ·have h3:(1000:Int)<=(2 ^ 63-1) / n:=Int.le_ediv_of_mul_le (by omega) (by omega)
   omega
  ·have h3:a.length*n.toNat<=1000*1000:=Nat.mul_le_mul h2 (by omega)
   show decide _=false
   refine decide_eq_false ?_
   have:sizeLine=16777216:=by decide
   omega
 exact SB.mul ok fun t2 k=>⟨.str _,H,I.tok _,⟨_,rfl⟩,q⟩
theorem aQ.rep{K:ae}{mg:Str->Option Value}{ι:List Addr}{H:Hp}{cs:List CV}{vs:List V}(r:aQ K mg ι H cs vs):∀n:Nat,aQ K mg ι H (bN n cs).flatten (bN n vs).flatten
 |0=>.nil
 |n+1=>by
  rw[bP,bP,gb,gb]
  exact r.append (aQ.rep r n)
theorem Ae:OpG X W (binaryOp .Mult) mulC:=Gx (OpR.or (OpR.or op_mul aqL) op_rep) fun ι S H x y v u Q B Rs rx ry fi=>by
 unfold mulC at fi
 cases rx with
 |int i=>cases ry with
  |int j=>
   dsimp only at fi
   split at fi
   ·rename_i h';exact .inl (.inl ⟨i,j,rfl,rfl,h',Fin.ret Rs fi (.int _)⟩)
   ·exact fi.elim
  |_=>exact fi.elim
 |str a=>cases ry with
  |int j=>
   dsimp only at fi
   split at fi
   ·rename_i h';exact .inl (.inr ⟨a,j,rfl,rfl,h',Fin.ret Rs fi (.str _)⟩)
   ·exact fi.elim
  |_=>exact fi.elim
 |ref hq=>cases ry with
  |int k=>
   dsimp only at fi
   split at fi
   ·rename_i xs e1
    obtain⟨vs,h1,r1⟩:=Rs.obj _ _ _ hq e1
    split at fi
    ·rename_i hl
     refine .inr ⟨_,_,vs,rfl,rfl,h1,hl.1,hl.2.1,by rw[<-r1.length];exact hl.2.2,fun p hp=>?_⟩
     obtain⟨n2,r3⟩:=lJ Rs (r1.rep k.toNat) hp
     exact fi _ _ _ n2 r3
    ·exact fi.elim
   ·exact fi.elim
  |_=>exact fi.elim
 |_=>exact fi.elim
def afF:CV->CV->M CV:=intOp (fun _ j=>decide (j≠0)) fun i j=>.int (i.fmod j)
theorem FJ:OpG X W (binaryOp .Mod) afF:=ab5 (C:=fun _ j=>j≠0) op_modN (fun i j h=>of_decide_eq_true h) fun _ _ _ _=>.int _
def afl:CV->CV->M CV:=intOp (fun _ j=>decide (j≠0/\j.natAbs<1606938044258990275541962092341162602522202993782792835301376)) fun i j=>.int (i.fdiv j)
theorem al5:OpR X (binaryOp .FloorDiv) (rI (fun _ j:Int=>j≠0/\j.natAbs<1606938044258990275541962092341162602522202993782792835301376) fun i j=>.int (i.fdiv j)):=opI fun _ _ _ _ _ _ _ hc q=>floordiv_int hc.1 q (.inl (PyProof.noPylong_of_log2 (Nat.lt_trans (PySem.Flt.log2_lt_of (k:=200) (by decide) (cL hc.2 (by decide))) (by decide:200<9000))))
theorem Xm:OpG X W (binaryOp .FloorDiv) afl:=ab5 (C:=fun _ j:Int=>j≠0/\j.natAbs<1606938044258990275541962092341162602522202993782792835301376) al5 (fun i j h=>of_decide_eq_true (p:=j≠0/\j.natAbs<1606938044258990275541962092341162602522202993782792835301376) h) fun _ _ _ _=>.int _
def powC:CV->CV->M CV:=intOp (fun i j=>decide (0<=j/\j<=1000000/\i.natAbs<2 ^ 64)) fun i j=>.int (i ^ j.toNat)
theorem Wy:OpG X W (binaryOp .Pow) powC:=ab5 (C:=CPow) op_pow (fun i j h=>of_decide_eq_true (p:=0<=j/\j<=1000000/\i.natAbs<2 ^ 64) h) fun _ _ _ _=>.int _
def negC:CV->M CV:=fun x S=>match x with
 |.int i=>.ok (.int (-i)) S
 |_=>.bad
theorem aio:UnG X W (unaryOp .USub) negC:=auE un_neg fun ι S H x v Q B Rs rx fi=>by
 cases rx with
 |int i=>exact⟨i,rfl,Fin.ret Rs fi (.int _)⟩
 |_=>exact fi.elim
def akr(p:Int->Int->Bool)(q:List Nat->List Nat->Bool):CV->CV->M CV:=fun x y S=>match x,y with
 |.int i,.int j=>.ok (.bl (p i j)) S
 |.str a,.str b=>.ok (.bl (q a.cps.toList b.cps.toList)) S
 |_,_=>.bad
theorem Wx{f:Value->Value->Sem Value}{p:Int->Int->Bool}{q:List Nat->List Nat->Bool}(h1:OpR X f (rI0 fun i j=>.bl (p i j)))(h2:OpR X f (fun x y H Q=>∃i j,x=.str i/\y=.str j/\Q (.bl (q i.cps.toList j.cps.toList)) H)):OpG X W f (akr p q):=Gx (OpR.or h1 h2) fun ι S H x y v u Q B Rs rx ry fi=>by
 unfold akr at fi
 cases rx with
 |int i=>cases ry with
  |int j=>exact .inl ⟨i,j,rfl,rfl,Fin.ret Rs fi (.bl _)⟩
  |_=>exact fi.elim
 |str i=>cases ry with
  |str j=>exact .inr ⟨i,j,rfl,rfl,Fin.ret Rs fi (.bl _)⟩
  |_=>exact fi.elim
 |_=>exact fi.elim
def eqP:CV->CV->Bool
 |.int i,.int j=>i==j
 |.str a,.str b=>a==b
 |_,_=>false
def ltP:CV->CV->Bool
 |.int i,.int j=>decide (i<j)
 |.str a,.str b=>decide (a.cps.toList<b.cps.toList)
 |_,_=>false
def asT:CV->CV->Bool
 |.int _,.int _=>true
 |.str _,.str _=>true
 |_,_=>false
/-- the order of two tuples -/
def axY(xs ys:List CV):Bool:=Ob.lexAt (fun j=>eqP (xs.getD j .non) (ys.getD j .non)) (fun j=>ltP (xs.getD j .non) (ys.getD j .non)) (decide (xs.length<ys.length)) 0 (min xs.length ys.length)
def sameAll:List CV->List CV->Bool
 |x::xs,y::ys=>asT x y&&sameAll xs ys
 |_,_=>true
theorem WY:∀{xs ys:List CV}{j:Nat}{x y:CV},sameAll xs ys=true->xs[j]?=some x->ys[j]?=some y->asT x y=true
 | [],_,_,_,_,_,h,_=>by simp at h
 |_::_,[],_,_,_,_,_,h=>by simp at h
 |a::xs,b::ys,0,x,y,hs,h1,h2=>by
  simp at h1 h2
  subst h1;subst h2
  exact(cu.mp hs).1
 |a::xs,b::ys,j+1,x,y,hs,h1,h2=>WY (cu.mp hs).2 (by simpa using h1) (by simpa using h2)
theorem aqK{ι:List Addr}{H:Hp}{pins:List (Addr×Obj)}{s:Shared}{σ:cz}{xs ys:List CV}{vs us:List V}{a b:Addr}{Q:VK}(hu:X.A.units<cLine)(I:Inv X pins σ H s)(ha:SqT X.K H a vs)(hb:SqT X.K H b us)(rx:aQ X.K X.mg ι H xs vs)(ry:aQ X.K X.mg ι H ys us)(hs:sameAll xs ys=true)
    (q:Q (.bl (axY xs ys)) H):wpAny (model X.prog X.w) X.A (compareOp .Lt (.ref a) (.ref b)) (EP X pins σ Q) X.xe s:=by
  obtain⟨its,r1,p1,_⟩:=I.tuple ha
  obtain⟨its2,r2,p2,_⟩:=I.tuple hb
  have e1:its.toArray.size=xs.length:=by rw[dj,rx.length];exact r1.length.symm
  have e2:its2.toArray.size=ys.length:=by rw[dj,ry.length];exact r2.length.symm
  have key:∀j (h1:j<its.toArray.size)(h2:j<its2.toArray.size),(∃i k t t',xs.getD j .non=.int i/\ys.getD j .non=.int k/\its.toArray[j]=.int i t/\its2.toArray[j]=.int k t')\/(∃i k t t',xs.getD j .non=.str i/\ys.getD j .non=.str k/\its.toArray[j]=.str i t/\its2.toArray[j]=.str k t'):=fun j h1 h2=>by
    have k1:j<xs.length:=e1▸h1
    have k2:j<ys.length:=e2▸h2
    have g1:xs[j]?=some xs[j]:=ay k1
    have g2:ys[j]?=some ys[j]:=ay k2
    obtain⟨v,hv,rv⟩:=rx.get g1
    obtain⟨u,hu',ru⟩:=ry.get g2
    obtain⟨w1,hw1,rw1⟩:=r1.get hv
    obtain⟨w2,hw2,rw2⟩:=r2.get hu'
    have f1:its.toArray[j]=w1:=by
      have:=(aa.mp hw1).2
      simpa using this
    have f2:its2.toArray[j]=w2:=by
      have:=(aa.mp hw2).2
      simpa using this
    have d1:xs.getD j .non=xs[j]:=by rw[j4,g1];rfl
    have d2:ys.getD j .non=ys[j]:=by rw[j4,g2];rfl
    have sm:=WY hs g1 g2
    rw[d1,d2,f1,f2]
    generalize xs[j]=cx at rv sm
    generalize ys[j]=cy at ru sm
    cases rv with
    |int i=>cases ru with
     |int k=>obtain⟨t,rfl⟩:=rw1;obtain⟨t',rfl⟩:=rw2;exact .inl ⟨i,k,t,t',rfl,rfl,rfl,rfl⟩
     |_=>cases sm
    |str i=>cases ru with
     |str k=>obtain⟨t,rfl⟩:=rw1;obtain⟨t',rfl⟩:=rw2;exact .inr ⟨i,k,t,t',rfl,rfl,rfl,rfl⟩
     |_=>cases sm
    |_=>cases sm
  have R:=Ob.RcOp.tuples_lt (A:=X.A) (s:=s) (e:=fun j=>eqP (xs.getD j .non) (ys.getD j .non)) (r:=fun j=>ltP (xs.getD j .non) (ys.getD j .non)) p1 p2 hu (fun j h1 h2=>by
    rcases key j h1 h2 with⟨i,k,t,t',z1,z2,z3,z4⟩|⟨i,k,t,t',z1,z2,z3,z4⟩
    · rw[z3,z4,z1,z2];exact SeqAt.EqAt.int_int _ _ _ _
    · rw[z3,z4,z1,z2];exact SeqAt.EqAt.str_str _ _ _ _) (fun j h1 h2 _=>by
    rcases key j h1 h2 with⟨i,k,t,t',z1,z2,z3,z4⟩|⟨i,k,t,t',z1,z2,z3,z4⟩
    · rw[z3,z4,z1,z2];exact Ob.RcOp.lt_int _ _ _ _
    · rw[z3,z4,z1,z2];exact fun _ _ _ _ h=>PyProof.Rows.lt_str h)
  rw[e1,e2]at R
  exact R X.prog X.w X.xe (EP X pins σ Q) ⟨.bl _,H,I,rfl,q⟩
def ltC:CV->CV->M CV:=fun x y S=>match x,y with
 |.tup xs,.tup ys=>if sameAll xs ys then .ok (.bl (axY xs ys)) S else .bad
 |_,_=>akr (fun i j=>decide (i<j)) (fun a b=>decide (a<b)) x y S
def leC:CV->CV->M CV:=akr (fun i j=>decide (i<=j)) fun a b=>!decide (b<a)
def gtC:CV->CV->M CV:=akr (fun i j=>decide (j<i)) fun a b=>decide (b<a)
def geC:CV->CV->M CV:=akr (fun i j=>decide (j<=i)) fun a b=>!decide (a<b)
theorem anU(hu:X.A.units+64<cLine):OpG X W (compareOp .Lt) ltC:=by
 intro pins s σ H ι S x y v u a b Q I rv ru Rs rx ry fi
 unfold ltC at fi
 split at fi
 ·cases rx with
  |tup hq rr=>cases ry with
   |tup hq' rr'=>
    split at fi
    ·rename_i hs
     cases rv
     cases ru
     exact aqK (by omega) I hq hq' rr rr' hs (Fin.ret Rs fi (.bl _))
    ·exact fi.elim
 ·exact Wx op_lt op_lt_str pins s σ H ι S x y v u a b Q I rv ru Rs rx ry fi
theorem Ph:OpG X W (compareOp .LtE) leC:=Wx op_le op_le_str
theorem acX:OpG X W (compareOp .Gt) gtC:=Wx op_gt op_gt_str
theorem at6:OpG X W (compareOp .GtE) geC:=Wx op_ge op_ge_str
def toD(S:Sto):Nat->CV->Option PyData
 |0,_=>none
 |n+1,x=>match x with
  |.non=>some .none
  |.bl b=>some (.bool b)
  |.int i=>some (.int i)
  |.str y=>some (.str y)
  |.tup xs=>(xs.mapM (toD S n)).map .tuple
  |.ref k=>match S[k]? with
   |some (.lst xs)=>(xs.mapM (toD S n)).map .list
   |_=>none
  |_=>none
theorem Xb{K:ae}{mg:Str->Option Value}{ι:List Addr}{H:Hp}{f:CV->Option PyData}(hf:∀x v d,bx K mg ι H x v->f x=some d->Dp K H v d):∀{xs:List CV}{vs:List V}{ds:List PyData},aQ K mg ι H xs vs->xs.mapM f=some ds->DpAll K H vs ds
 |_,_,_,.nil,h=>by
  simp at h;subst h;exact .nil
 |_,_,_,.cons (c:=c) (cs:=cs) r rs,h=>by
  rw[bb]at h
  cases e:f c with
  |none=>rw[e]at h;cases h
  |some d=>
   rw[e]at h
   cases e2:cs.mapM f with
   |none=>rw[e2]at h;cases h
   |some ds'=>
    rw[e2]at h
    cases h
    exact .cons (hf _ _ _ r e) (Xb hf rs e2)
theorem acD{K:ae}{mg:Str->Option Value}{ι:List Addr}{H:Hp}{S:Sto}(Rs:RS K mg ι S H):∀(n:Nat)(x:CV)(v:V)(d:PyData),bx K mg ι H x v->toD S n x=some d->Dp K H v d
 |0,_,_,_,_,h=>by cases h
 |n+1,x,v,d,r,h=>by
  unfold toD at h
  cases r with
  |non=>cases h;exact .non
  |bl b=>cases h;exact .bl b
  |int b=>cases h;exact .int b
  |str b=>cases h;exact .str b
  |tup hq rr=>
   dsimp only at h
   cases e:ip (toD S n) _ with
   |none=>rw[e]at h;cases h
   |some ds=>rw[e]at h;cases h;exact .tup hq (Xb (acD Rs n) rr e)
  |ref hq=>
   dsimp only at h
   split at h
   ·rename_i xs ex
    obtain⟨vs,h1,r1⟩:=Rs.obj _ _ _ hq ex
    cases e:ip (toD S n) xs with
    |none=>rw[e]at h;cases h
    |some ds=>rw[e]at h;cases h;exact .lst (SqL.of h1) (Xb (acD Rs n) r1 e)
   ·cases h
  |_=>cases h
def eqD(S:Sto)(x y:CV):Option Bool:=match toD S 40 x,toD S 40 y with
 |some d,some e=>if SeqAt.shaped d&&SeqAt.shaped e then some (PyData.eqv d e) else none
 |_,_=>none
def eqC:CV->CV->M CV:=fun x y S=>match x,y with
 |.str a,.str b=>.ok (.bl (a==b)) S
 |_,_=>match eqD S x y with
  |some b=>.ok (.bl b) S
  |none=>.bad
def neC:CV->CV->M CV:=fun x y S=>match x,y with
 |.str a,.str b=>.ok (.bl (!(a==b))) S
 |_,_=>match eqD S x y with
  |some b=>.ok (.bl (!b)) S
  |none=>.bad
theorem kJ(hu:X.A.units+64<cLine):OpG X W (compareOp .Eq) eqC:=Gx (OpR.or op_eq (op_eqD hu)) fun ι S H x y v u Q B Rs rx ry fi=>by
 unfold eqC at fi
 split at fi
 ·cases rx
  cases ry
  exact .inl ⟨rfl,by rw[dec_str];exact Fin.ret Rs fi (.bl _)⟩
 ·refine .inr ?_
  unfold eqD at fi
  split at fi
  ·rename_i b hb
   split at hb
   ·rename_i d e h1 h2
    split at hb
    ·rename_i hs
     cases hb
     obtain⟨s1,s2⟩:=cu.mp hs
     exact⟨d,e,acD Rs 40 _ _ _ rx h1,acD Rs 40 _ _ _ ry h2,s1,s2,Fin.ret Rs fi (.bl _)⟩
    ·cases hb
   ·cases hb
  ·exact fi.elim
theorem oU(hu:X.A.units+64<cLine):OpG X W (compareOp .NotEq) neC:=Gx (OpR.or op_ne (op_neD hu)) fun ι S H x y v u Q B Rs rx ry fi=>by
 unfold neC at fi
 split at fi
 ·cases rx
  cases ry
  exact .inl ⟨rfl,by rw[dec_str];exact Fin.ret Rs fi (.bl _)⟩
 ·refine .inr ?_
  unfold eqD at fi
  split at fi
  ·rename_i b hb
   split at hb
   ·rename_i d e h1 h2
    split at hb
    ·rename_i hs
     cases hb
     obtain⟨s1,s2⟩:=cu.mp hs
     exact⟨d,e,acD Rs 40 _ _ _ rx h1,acD Rs 40 _ _ _ ry h2,s1,s2,Fin.ret Rs fi (.bl _)⟩
    ·cases hb
   ·cases hb
  ·exact fi.elim
def tE:CV->Bool
 |.non=>true
 |_=>false
def ap7:CV->CV->M CV:=fun x y S=>match y with
 |.non=>.ok (.bl (tE x)) S
 |_=>.bad
def Kl:CV->CV->M CV:=fun x y S=>match y with
 |.non=>.ok (.bl (!tE x)) S
 |_=>.bad
theorem bx.isNon{K:ae}{mg:Str->Option Value}{ι:List Addr}{H:Hp}{x:CV}{v:V}(r:bx K mg ι H x v):tE x=decide (v=.non):=by cases r<;>rfl
theorem aqJ:OpG X W (compareOp .Is) ap7:=Gx op_isN fun ι S H x y v u Q B Rs rx ry fi=>by
 unfold ap7 at fi
 cases ry with
 |non=>exact⟨rfl,by rw[<-rx.isNon];exact Fin.ret Rs fi (.bl _)⟩
 |_=>exact fi.elim
theorem Wv:OpG X W (compareOp .IsNot) Kl:=Gx op_notN fun ι S H x y v u Q B Rs rx ry fi=>by
 unfold Kl at fi
 cases ry with
 |non=>exact⟨rfl,by rw[<-rx.isNon];exact Fin.ret Rs fi (.bl _)⟩
 |_=>exact fi.elim
end
open PySem.SeqAt
open AutoSeq1 (wpAny_loadPart')
open MeetsSeq MeetsSeq2 MeetsSeq3 SeqRoads2
theorem ad1(b:Str)(u:Tok)(l:Addr)(o:Obj){es:Array DictEntry}{n:Nat}(hd:o.data=.dict es n)(hc:o.cls=.type "dict"):
    Meets (Builtin.«str.__eq__» ⟨[.str b u,.ref l],[]⟩) (fun _ R s=>s.heap.get? l=some o/\R (.ok (.ret .notImplemented)) s):=
  .of_wp fun prog w A R s h=>by
    obtain⟨c,dd,dt,sl⟩:=o
    simp only at hd hc
    subst hd hc
    obtain⟨hp,g,d,tk,os⟩:=s;obtain⟨hl,h⟩:=h;wp_walk using wpAny_loadPart' hl,wpAny_load hl;exact⟨_,rfl,h⟩
theorem adE(b:Str)(u:Tok)(l:Addr)(o:Obj){es:Array DictEntry}{n:Nat}(hd:o.data=.dict es n)(hc:o.cls=.type "dict"):
    Meets (Builtin.«dict.__eq__» ⟨[.ref l,.str b u],[]⟩) (fun _ R s=>s.heap.get? l=some o/\R (.ok (.ret .notImplemented)) s):=
  .of_wp fun prog w A R s h=>by
    obtain⟨c,dd,dt,sl⟩:=o
    simp only at hd hc
    subst hd hc
    obtain⟨hp,g,d,tk,os⟩:=s;obtain⟨hl,h⟩:=h
    have f1:=F.sub_str_dict
    wp_walk using wpAny_loadPart' hl,wpAny_load hl
    exact⟨_,rfl,h⟩
section
variable {A:Around}{s:Shared}
theorem RcAt.str_dict{l:Addr}{o:Obj}{es:Array DictEntry}{n:Nat}(b:Str)(u:Tok)(ho:s.heap.get? l=some o)(hc:o.cls=.type "dict")(hd:o.data=.dict es n)(hu:A.units<cLine):RcAt A s (.str b u) (.ref l) false:=fun prog w E Q h=>by
 exact rc_eq_decline_or (k:=false) (typeIs_str s b u) ⟨_,ho,hc⟩ (by decide) F.sub_dict_str F.slot_str_eq F.slot_dict_eq_refl
  (fun _ hq=>call_meets F.slot_str_eq (typeIs_str s b u) F.entry_str_eq (F.args_str_eq_2 _ _) (ad1 b u l o hd hc) ⟨ho,hq⟩)
  (fun _ hq=>call_meets F.slot_dict_eq_refl ⟨_,ho,hc⟩ F.entry_dict_eq (F.args_dict_eq_2 _ _) (adE b u l o hd hc) ⟨ho,hq⟩)
  (fun _ hq=>wpAny_of_eq (rfl:isSame (.str b u) (.ref l)=pure false) hq) (.inr hu) h
theorem EqAt.str_dict{l:Addr}{o:Obj}{es:Array DictEntry}{n:Nat}(b:Str)(u:Tok)(ho:s.heap.get? l=some o)(hc:o.cls=.type "dict")(hd:o.data=.dict es n)(hu:A.units<cLine):EqAt A s (.str b u) (.ref l) false:=fun prog w E Q h=>by
 unfold eqBool
 refine wpAny_holding ?_
 refine wpAny_ite_split (fun hab=>absurd (eq_of_beq hab) nofun) (fun _=>?_)
 exact wpAny_bind (RcAt.str_dict b u ho hc hd hu prog w E _ (wpAny_truthy_bool h))
end
section
variable {X:Cx}{W:WX}{a b c e o:Expr}{es:List Expr}{ma mb me mo mv mi:Rho->M CV}{ms:Rho->M (List CV)}{pos apos p p2 pos':Pos}
def Sv:CV->Bool
 |.non|.bl _|.int _|.str _=>true
 |_=>false
def eqF:CV->CV->Bool
 |.non,.non=>true
 |.bl a,.bl b=>a==b
 |.bl a,.int b=>(if a then 1 else 0)==b
 |.int a,.bl b=>a==(if b then 1 else 0)
 |.int a,.int b=>a==b
 |.str a,.str b=>a==b
 |_,_=>false
def agS:CV->Bool
 |.str _=>true
 |_=>false
/-- whether x is no text, told by its kind alone -/
def Ub(S:Sto):CV->Bool
 |.tup _=>true
 |.ref n=>match S[n]? with
  |some (.lst _)=>true
  |some (.dic _)=>true
  |some (.frz (.dic _))=>true
  |_=>false
 |_=>false
def S8(S:Sto)(x:CV)(ys:List CV):Option Bool:=if Sv x&&ys.all Sv then some (ys.any fun y=>eqF y x) else if Ub S x&&ys.all agS then some false else none
def acI(i j:Str):Bool:=!(Builtin.Str.occurrences j i 0 j.length 1).isEmpty
def inC(neg:Bool):CV->CV->M CV:=fun x y S=>match y with
 |.tup ys=>match S8 S x ys with
  |some r=>.ok (.bl (if neg then !r else r)) S
  |none=>.bad
 |.ref n=>match S[n]? with
  |some (.lst ys)=>match S8 S x ys with
   |some r=>.ok (.bl (if neg then !r else r)) S
   |none=>.bad
  |_=>.bad
 |.str j=>match x with
  |.str i=>.ok (.bl (if neg then !acI i j else acI i j)) S
  |_=>.bad
 |_=>.bad
variable {K:ae}{mg:Str->Option Value}{ι:List Addr}{H:Hp}{S:Sto}
theorem bx.flat{x:CV}{v:V}(r:bx K mg ι H x v)(h:Sv x=true):flatV v=true:=by cases r<;>first|rfl|cases h
theorem aQ.flat:∀{xs:List CV}{vs:List V},aQ K mg ι H xs vs->xs.all Sv=true->vs.all flatV=true
 |_,_,.nil,_=>rfl
 |_,_,.cons r rs,h=>by
  rw[cE,aB]at h
  rw[cE,r.flat h.1,aQ.flat rs h.2];rfl
theorem bx.eqF{x y:CV}{v u:V}(r:bx K mg ι H x v)(q:bx K mg ι H y u)(h:Sv x=true)(h':Sv y=true):MW.eqF x y=eqV v u:=by
 cases r with
 |non=>cases q<;>first|rfl|cases h'
 |bl b=>cases q<;>first|rfl|cases h'
 |int b=>cases q<;>first|rfl|cases h'
 |str b=>cases q<;>first|rfl|cases h'
 |_=>cases h
theorem aQ.anyF{x:CV}{v:V}(r:bx K mg ι H x v)(hx:Sv x=true):∀{ys:List CV}{us:List V},aQ K mg ι H ys us->ys.all Sv=true->(ys.any fun y=>MW.eqF y x)=inV v us
 |_,_,.nil,_=>rfl
 |_,_,.cons q rs,h=>by
  rw[cE,aB]at h
  unfold inV
  rw[dz,dz]
  have e1:=q.eqF r h.1 hx
  have e2:=aQ.anyF r hx rs h.2
  unfold inV at e2
  rw[e1,e2]
theorem aQ.aif:∀{ys:List CV}{us:List V},aQ K mg ι H ys us->ys.all agS=true->∀u∈us,∃z,u=V.str z
 |_,_,.nil,_=>fun u hu=>nomatch hu
 |_,_,.cons q rs,h=>fun u hu=>by
  rw[cE,aB]at h
  rcases av.mp hu with rfl|hu
  ·cases q<;>first|exact⟨_,rfl⟩|cases h.1
  ·exact aQ.aif rs h.2 u hu
/-- a text is never such a thing -/
theorem auy{pins:List (Addr×Obj)}{σ:cz}{s:Shared}{A:Around}{x:CV}{v:V}{w:Value}(I:Inv X pins σ H s)(Rs:RS X.K X.mg ι S H)(rx:bx X.K X.mg ι H x v)(rv:RelV v w)(h:Ub S x=true)(hu:A.units<cLine)(z:Str)(t:Tok):SeqAt.EqAt A s (.str z t) w false:=by
 unfold Ub at h
 cases rx with
 |tup hq rr=>
  cases rv
  obtain⟨its,r,pl,hz⟩:=I.tuple hq
  exact SeqAt.EqAt.str_tuple z t pl hu
 |ref hq=>
  cases rv
  dsimp only at h
  split at h
  ·rename_i xs ex
   obtain⟨vs,h1,r1⟩:=Rs.obj _ _ _ hq ex
   obtain⟨its,r,pl,hz⟩:=I.list (SqL.of h1)
   exact SeqAt.EqAt.str_list z t pl.isList hu
  ·rename_i kvs ex
   rcases Rs.obj _ _ _ hq ex with⟨ps,h1,_⟩|⟨_,ps,h1,_⟩
   ·obtain⟨_,_,vs,_,ob,es,ep,ho,hx,hd,_⟩:=I.hok _ _ h1
    exact EqAt.str_dict z t ho hx.1 hd hu
   ·obtain⟨_,_,vs,_,ob,es,ep,ho,hx,hd,_⟩:=I.hok _ _ h1
    exact EqAt.str_dict z t ho hx.1 hd hu
  ·rename_i kvs ex
   obtain⟨_,ps,h1,_⟩:=Rs.obj _ _ _ hq ex
   obtain⟨_,_,_,vs,_,ob,es,ep,ho,hx,hd,_⟩:=I.hok _ _ h1
   exact EqAt.str_dict z t ho hx.1 hd hu
  ·cases h
 |_=>cases h
theorem amE{us:List V}{its:List Value}(r:Vals us its)(h:∀u∈us,∃z,u=V.str z):∀w∈its,∃z t,w=Value.str z t:=by
 induction r with
 |nil=>exact fun w hw=>nomatch hw
 |cons r rs ih=>
  intro w hw
  rcases av.mp hw with rfl|hw
  ·obtain⟨z,rfl⟩:=h _ af
   obtain⟨t,e⟩:=r
   exact⟨z,t,e⟩
  ·exact ih (fun u hu=>h u (ag _ hu)) w hw
theorem Gy(neg:Bool){op:CmpOp}(hu:X.A.units+64<cLine)(hop:op=if neg then .NotIn else .In):OpG X W (compareOp op) (inC neg):=by
 intro pins s σ H ι S x y v u a b Q I rv ru Rs rx ry fi
 have hu1:X.A.in1.units<cLine:=by show X.A.units+1<cLine;omega
 have ax9:∀{ys:List CV}{us:List V}{p:Addr}{r:Bool},u=.ref p->(SqL X.K H p us\/SqT X.K H p us)->aQ X.K X.mg ι H ys us->S8 S x ys=some r->Q (.bl (if neg then !r else r)) H->wpAny (model X.prog X.w) X.A (compareOp op a b) (EP X pins σ Q) X.xe s:=fun {ys us p r} eu hq rr hr q=>by
  subst eu
  unfold S8 at hr
  split at hr
  ·rename_i hf
   obtain⟨hf1,hf2⟩:=cu.mp hf
   cases hr
   rw[rr.anyF rx hf1 hf2]at q
   cases neg with
   |false=>subst hop;exact op_in_seq pins s σ H v _ a b Q I rv ru ⟨p,us,rfl,hq,rx.flat hf1,rr.flat hf2,q⟩
   |true=>subst hop;exact op_notIn_seq pins s σ H v _ a b Q I rv ru ⟨p,us,rfl,hq,rx.flat hf1,rr.flat hf2,q⟩
  ·split at hr
   ·rename_i hf
    obtain⟨hf1,hf2⟩:=cu.mp hf
    cases hr
    cases ru
    have key:∀{its:List Value},Vals us its->∀w∈its,SeqAt.EqAt X.A.in1 s w a false:=fun {its} r w hw=>by
     obtain⟨z,t,rfl⟩:=amE r (rr.aif hf2) w hw
     exact auy I Rs rx rv hf1 hu1 z t
    rcases hq with hq|hq
    ·obtain⟨its,r,pl,hz⟩:=I.list hq
     cases neg with
     |false=>subst hop;exact SeqAt.in_listAt (fun _=>false) pl.isList (fun w hw=>key r w (by simpa using hw)) ⟨.bl false,H,I,by simp[la],q⟩
     |true=>subst hop;exact SeqAt.notIn_listAt (fun _=>false) pl.isList (fun w hw=>key r w (by simpa using hw)) ⟨.bl true,H,I,by simp[la],q⟩
    ·obtain⟨its,r,pl,hz⟩:=I.tuple hq
     cases neg with
     |false=>subst hop;exact SeqAt.in_tupleAt (fun _=>false) pl (fun w hw=>key r w (by simpa using hw)) ⟨.bl false,H,I,by simp[la],q⟩
     |true=>subst hop;exact SeqAt.notIn_tupleAt (fun _=>false) pl (fun w hw=>key r w (by simpa using hw)) ⟨.bl true,H,I,by simp[la],q⟩
   ·cases hr
 unfold inC at fi
 cases ry with
 |tup hq rr=>
  dsimp only at fi
  split at fi
  ·rename_i r hr;exact ax9 rfl (.inr hq) rr hr (Fin.ret Rs fi (.bl _))
  ·exact fi.elim
 |ref hq=>
  dsimp only at fi
  split at fi
  ·rename_i ys ey
   obtain⟨us,h1,r1⟩:=Rs.obj _ _ _ hq ey
   split at fi
   ·rename_i r hr;exact ax9 rfl (.inl (SqL.of h1)) r1 hr (Fin.ret Rs fi (.bl _))
   ·exact fi.elim
  ·exact fi.elim
 |str j=>
  dsimp only at fi
  cases rx with
  |str i=>
   have q:=Fin.ret Rs fi (.bl _)
   cases neg with
   |false=>subst hop;exact op_in_str pins s σ H _ _ a b Q I rv ru ⟨i,j,rfl,rfl,q⟩
   |true=>subst hop;exact op_notIn_str pins s σ H _ _ a b Q I rv ru ⟨i,j,rfl,rfl,q⟩
  |_=>exact fi.elim
 |_=>exact fi.elim
def ixC:CV->CV->M CV:=fun x y S=>match x,y with
  |.tup xs,.int i=>match atI xs i with
   |some v=>.ok v S
   |none=>.bad
  |.ref n,.int i=>match S[n]? with
   |some (.lst xs)=>match atI xs i with
    |some v=>.ok v S
    |none=>.bad
   |_=>.bad
  |.str z,.int i=>if z.length<=sizeLine then (match atI z.cps.toList i with
      |some c=>.ok (.str ⟨#[c]⟩) S
      |none=>.bad) else .bad
  |_,_=>.bad
theorem aQ.atI{xs:List CV}{vs:List V}{i:Int}{c:CV}(r:aQ K mg ι H xs vs)(h:L2.atI xs i=some c):∃v,L2.atI vs i=some v/\bx K mg ι H c v:=by
 unfold L2.atI at h ⊢
 rw[<-r.length]
 cases e:ixN xs.length i with
 |none=>rw[e]at h;cases h
 |some j=>rw[e]at h;exact r.get h
def IxG(X:Cx)(W:WX)(g:CV->CV->M CV):Prop:=
 ∀(value slice:Expr)(pins:List (Addr×Obj))(s:Shared)(σ:cz)(H:Hp)(ι:List Addr)(S:Sto)(x y:CV)(v u:V)(a b:Value)(Q:VK),Inv X pins σ H s->RelV v a->RelV u b->RS X.K X.mg ι S H->bx X.K X.mg ι H x v->bx X.K X.mg ι H y u->
  Fin X.K X.mg ι H (bx X.K X.mg) (g x y S) Q (fun c d H'=>W c d σ H')->subscripted slice false a b=operate [a,b] (getItem a b)->wpAny (model X.prog X.w) X.A (subscriptTail value slice a b) (EP X pins σ Q) X.xe s
theorem jZ{g:CV->CV->M CV}(hg:IxG X W g)(ha:GE X W a ma)(hb:GE X W b mb)(hs:PlainIx b:=by intro _ _;rfl):GE X W (.Subscript a b pos) (mOp g ma mb):=
 ⟨fun pins s σ H Q I h=>Subscript_ (two ha hb I h fun v' u' s2 v u H2 ι S x y I2 r1 r2 R rx ry f=>hg a b pins s2 σ H2 ι S x y v u v' u' Q I2 r1 r2 R rx ry f (hs _ _))⟩
theorem rH:IxG X W ixC:=by
 intro value slice pins s σ H ι S x y v u a b Q I rv ru Rs rx ry fi hs
 unfold ixC at fi
 cases rx with
 |tup hq rr=>cases ry with
  |int i=>
   dsimp only at fi
   split at fi
   ·rename_i cv hv
    obtain⟨w,hw,rw'⟩:=rr.atI hv
    exact ix_tup value slice pins s σ H _ _ a b Q I rv ru ⟨_,_,i,w,rfl,rfl,hq,hw,Fin.ret Rs fi rw'⟩ hs
   ·exact fi.elim
  |_=>exact fi.elim
 |ref hq=>cases ry with
  |int i=>
   dsimp only at fi
   split at fi
   ·rename_i xs ex
    obtain⟨vs,h1,r1⟩:=Rs.obj _ _ _ hq ex
    split at fi
    ·rename_i cv hv
     obtain⟨w,hw,rw'⟩:=r1.atI hv
     exact ix_list value slice pins s σ H _ _ a b Q I rv ru ⟨_,vs,i,w,rfl,rfl,SqL.of h1,hw,Fin.ret Rs fi rw'⟩ hs
    ·exact fi.elim
   ·exact fi.elim
  |_=>exact fi.elim
 |str z=>cases ry with
  |int i=>
   dsimp only at fi
   split at fi
   ·rename_i hz
    split at fi
    ·rename_i c hc
     exact ix_str value slice pins s σ H _ _ a b Q I rv ru ⟨z,i,c,rfl,rfl,hz,hc,Fin.ret Rs fi (.str _)⟩ hs
    ·exact fi.elim
   ·exact fi.elim
  |_=>exact fi.elim
 |_=>exact fi.elim
/-- the parts of a slice -/
def Nu(me:Rho->M CV):Rho->M (Option Int):=fun ρ=>bnd (me ρ) fun x S=>match x with
 |.int i=>.ok (some i) S
 |_=>.bad
def vW:Rho->M (Option Int):=fun _=>ret none
def tP(K:ae)(mg:Str->Option Value)(W:WX)(m:Rho->M (Option Int)):TO:=fun σ H Q=>∃ι ρ S,RS K mg ι S H/\d8 K mg ι H ρ σ/\Fin K mg ι H (fun _ _ a b=>a=b) (m ρ S) Q (fun c d H'=>W c d σ H')
abbrev GP(X:Cx)(W:WX)(e:Option Expr)(m:Rho->M (Option Int)):Prop:=PO X e (tP X.K X.mg W m)
theorem PO.imp{e:Option Expr}{t t':TO}(h:PO X e t)(k:∀σ H Q,t' σ H Q->t σ H Q):PO X e t':=⟨fun pins s σ H Q I q=>h.run pins s σ H Q I (k σ H Q q)⟩
theorem Ft:GP X W none vW:=PO.imp po_none fun σ H Q ⟨ι,ρ,S,Rs,rs,fi⟩=>Fin.ret Rs fi rfl
theorem Fv(h:GE X W e me):GP X W (some e) (Nu me):=PO.imp (po_some h) fun σ H Q ⟨ι,ρ,S,Rs,rs,fi⟩=>
 ⟨ι,ρ,S,Rs,rs,(Fin.bnd (R:=bx X.K X.mg) fi).imp fun v H1 ⟨ι1,S1,x,n1,rx,f1⟩=>by
  cases rx with
  |int i=>exact⟨i,rfl,Fin.ret n1.rs f1 rfl⟩
  |_=>exact f1.elim⟩
def yE{α:Type}(xs:List α)(lo hi:Option Int):List α:=(xs.drop (jz xs.length 0 lo)).take (jz xs.length xs.length hi-jz xs.length 0 lo)
def slC:CV->Option Int->Option Int->M CV:=fun x lo hi S=>match x with
 |.str z=>if z.length<=sizeLine then .ok (.str (cutS z lo hi)) S else .bad
 |.ref n=>match S[n]? with
  |some (.lst xs)=>.ok (.ref S.length) (S++[.lst (yE xs lo hi)])
  |_=>.bad
 |.scr ns=>.ok (.ref S.length) (S++[.lst (yE (ns.map CV.int) lo hi)])
 |.tup xs=>if jz xs.length 0 lo=0/\jz xs.length xs.length hi=xs.length then .bad else .ok (.tup (yE xs lo hi)) S
 |_=>.bad
theorem aQ.cut{xs:List CV}{vs:List V}(r:aQ K mg ι H xs vs)(lo hi:Option Int):aQ K mg ι H (yE xs lo hi) (cutV vs lo hi):=by
 unfold yE cutV
 rw[r.length]
 exact(r.drop _).take _
def mSl(me:Rho->M CV)(ml mh:Rho->M (Option Int)):Rho->M CV:=fun ρ=>bnd (me ρ) fun x=>bnd (ml ρ) fun l=>bnd (mh ρ) fun h=>slC x l h
variable {lo hi:Option Expr}{ml mh:Rho->M (Option Int)}
theorem yw(he:GE X W e me)(hl:GP X W lo ml)(hh:GP X W hi mh):GE X W (.Subscript e (.Slice lo hi none p2) pos) (mSl me ml mh):=
 PE.imp (pe_slice (SlR.or (SlR.or sl_str sl_list) sl_tup) he hl hh) fun σ H Q ⟨ι,ρ,S,Rs,rs,fi⟩=>by
  refine⟨ι,ρ,S,Rs,rs,(Fin.bnd (R:=bx X.K X.mg) fi).imp fun v H1 ⟨ι1,S1,x,n1,rx,f1⟩=>?_⟩
  have rs1:=n1.cY Rs rs
  refine⟨ι1,ρ,S1,n1.rs,rs1,(Fin.bnd (R:=fun _ _ a b=>a=b) f1).imp fun l H2 ⟨ι2,S2,l',n2,el,f2⟩=>?_⟩
  subst el
  have rs2:=n2.cY n1.rs rs1
  refine⟨ι2,ρ,S2,n2.rs,rs2,(Fin.bnd (R:=fun _ _ a b=>a=b) f2).imp fun h H3 ⟨ι3,S3,h',n3,eh,f3⟩=>?_⟩
  subst eh
  have rx3:=n3.rep n2.rs (n2.rep n1.rs rx)
  unfold slC at f3
  cases rx3 with
  |str z=>
   dsimp only at f3
   split at f3
   ·rename_i hz;exact .inl (.inl ⟨z,rfl,hz,Fin.ret n3.rs f3 (.str _)⟩)
   ·exact f3.elim
  |ref hq=>
   dsimp only at f3
   split at f3
   ·rename_i xs ex
    obtain⟨vs,h1,r1⟩:=n3.rs.obj _ _ _ hq ex
    refine .inl (.inr ⟨_,vs,rfl,SqL.of h1,fun p hp=>?_⟩)
    obtain⟨n4,r4⟩:=lJ n3.rs (r1.cut l' h') hp
    exact f3 _ _ _ n4 r4
   ·exact f3.elim
  |scr hq=>
   dsimp only at f3
   have sq:SqL X.K H3 _ _:=hq.elim (fun⟨o,h⟩=>.inl (.inr ⟨o,h⟩)) fun h=>h H3
   refine .inl (.inr ⟨_,_,rfl,sq,fun p hp=>?_⟩)
   obtain⟨n4,r4⟩:=lJ n3.rs ((aQ.ints _).cut l' h') hp
   exact f3 _ _ _ n4 r4
  |tup hq rr=>
   dsimp only at f3
   split at f3
   ·exact f3.elim
   ·rename_i hw
    refine .inr ⟨_,_,rfl,hq,by rw[<-rr.length];exact hw,fun p hp=>?_⟩
    obtain⟨n4,r4⟩:=QX n3.rs (rr.cut l' h') hp
    exact f3 _ _ _ n4 r4
  |_=>exact f3.elim
def Uh:CV->CV->CV->M Unit:=fun x i v S=>match x,i with
 |.ref n,.int k=>match S[n]? with
  |some (.lst xs)=>match ixN xs.length k with
   |some j=>.ok () (S.set n (.lst (xs.set j v)))
   |none=>.bad
  |_=>.bad
 |_,_=>.bad
def gIx(mo mi:Rho->M CV):CV->Rho->M Rho:=fun v ρ=>bnd (mo ρ) fun x=>bnd (mi ρ) fun i=>bnd (Uh x i v) fun _=>ret ρ
theorem aoq{i:Expr}(ho:GE X W o mo)(hi:GE X W i mi)(ha:∀v,assign (.Subscript o i pos) X.env v=(do
      let ov<-holding [v] (eval o X.env)
      let iv<-holding [v,ov] (eval i X.env)
      standAt pos
      holding [v,ov,iv] (setItem ov iv v)
      release [v,ov,iv] []):=by intro _;rfl):GG X W (.Subscript o i pos) (gIx mo mi):=PG.imp (pg_sub ho hi set_list ha) fun v σ H Q ⟨ι,ρ,S,cv,Rs,rs,rv,fi⟩=>by
  refine⟨ι,ρ,S,Rs,rs,(Fin.bnd (R:=bx X.K X.mg) fi).imp fun x H1 ⟨ι1,S1,cx,n1,rx,f1⟩=>?_⟩
  have rs1:=n1.cY Rs rs
  refine⟨ι1,ρ,S1,n1.rs,rs1,(Fin.bnd (R:=bx X.K X.mg) f1).imp fun i H2 ⟨ι2,S2,ci,n2,ri,f2⟩=>?_⟩
  have rs2:=n2.cY n1.rs rs1
  have rx2:=n2.rep n1.rs rx
  have rv2:=n2.rep n1.rs (n1.rep Rs rv)
  have f2:Fin X.K X.mg ι2 H2 (d8 X.K X.mg) ((Uh cx ci cv S2).bnd fun _=>ret ρ) Q (fun c d H'=>W c d σ H'):=f2
  unfold Uh at f2
  cases rx2 with
  |ref hq=>cases ri with
   |int k=>
    dsimp only at f2
    split at f2
    · rename_i xs ex
      obtain⟨vs,h1,r1⟩:=n2.rs.obj _ _ _ hq ex
      split at f2
      · rename_i j hj
        rw[r1.length]at hj
        refine⟨_,vs,k,j,rfl,rfl,h1,hj,?_⟩
        have n3:Nx X.K X.mg ι2 H2 (S2.set _ (.lst (xs.set j cv))) ι2 (upd H2 _ (.lst (vs.set j v))):=n2.rs.put hq (fun _ tk'=>⟨_,upd_same,by
            have q:=(aQ.set rv2 j r1).mono (H':=upd H2 _ (.lst (vs.set j v))) tk' []
            rw[aT]at q
            exact q⟩) (fun gs z=>nomatch z) h1 (fun z=>z)
        exact f2 σ ι2 _ n3 (n3.cY n2.rs rs2)
      · exact f2.elim
    · exact f2.elim
   |_=>exact f2.elim
  |_=>exact f2.elim
end
section
variable {X:Cx}{W:WX}{a b c e o:Expr}{es:List Expr}{ma mb me mo:Rho->M CV}{ms:Rho->M (List CV)}{pos apos p cpos:Pos}{x:Str}{id T:String}{g:List CV->M CV}
def mFn(g:List CV->M CV)(ms:Rho->M (List CV)):Rho->M CV:=fun ρ=>bnd (ms ρ) g
theorem bM(hc:oH X W (.builtin id) g)(hm:X.mg x=none)(hv:bootBuiltins x=some (.builtin id))(ha:GA X W (e::es) ms)(hg:Gl X x:=by rfl)(hn:x≠"__name__":=by decide)(hdb:(x==("__debug__":Str))=false:=by decide)
    (he:starEach (e::es) X.env=(false,eval e X.env)::starEach es X.env:=by rfl)(hpl:(backTo pos (starEach es X.env)).any (·.1)=false:=by rfl):GE X W (.Call (.Name x p) (e::es) [] pos) (mFn g ms):=by
  refine⟨fun pins s σ H Q I ⟨ι,ρ,S,Rs,rs,fi⟩=>?_⟩
  refine wpAny_Call_Name_kw (ld_blt I hg hm hv ?_ hn hdb)
  exact iq (thn (ha.run pos pins s σ H _ I ⟨ι,ρ,S,Rs,rs,Fin.bnd (R:=aQ X.K X.mg) fi⟩) fun us s1 ⟨vs,H1,I1,r1,ι1,S1,xs,n1,rx,f1⟩=>hc pins s1 σ H1 ι1 S1 xs vs us Q I1 r1 n1.rs rx f1) he hpl
theorem bB(hc:oH X W (.type T) g)(hm:X.mg x=none)(hv:bootBuiltins x=some (.type T))(ha:GA X W (e::es) ms)(hg:Gl X x:=by rfl)(hn:x≠"__name__":=by decide)(hdb:(x==("__debug__":Str))=false:=by decide)
    (he:starEach (e::es) X.env=(false,eval e X.env)::starEach es X.env:=by rfl)(hpl:(backTo pos (starEach es X.env)).any (·.1)=false:=by rfl):GE X W (.Call (.Name x p) (e::es) [] pos) (mFn g ms):=by
  refine⟨fun pins s σ H Q I ⟨ι,ρ,S,Rs,rs,fi⟩=>?_⟩
  refine wpAny_Call_Name_kw (ld_blt I hg hm hv ?_ hn hdb)
  exact iL (thn (ha.run pos pins s σ H _ I ⟨ι,ρ,S,Rs,rs,Fin.bnd (R:=aQ X.K X.mg) fi⟩) fun us s1 ⟨vs,H1,I1,r1,ι1,S1,xs,n1,rx,f1⟩=>hc pins s1 σ H1 ι1 S1 xs vs us Q I1 r1 n1.rs rx f1) he hpl
def DQ:List CV->M CV:=fun xs S=>match xs with
 | [.str y]=>if y.length<=sizeLine then .ok (.int y.length) S else .bad
 | [.tup ys]=>.ok (.int ys.length) S
 | [.ref n]=>match S[n]? with
  |some (.lst ys)=>.ok (.int ys.length) S
  |_=>.bad
 |_=>.bad
theorem one_of{K:ae}{mg:Str->Option Value}{ι:List Addr}{H:Hp}{x:CV}{vs:List V}(r:aQ K mg ι H [x] vs):∃v,vs=[v]/\bx K mg ι H x v:=by
 cases r with
 |cons r rs=>cases rs;exact⟨_,rfl,r⟩
theorem Pu{K:ae}{mg:Str->Option Value}{ι:List Addr}{H:Hp}{x y:CV}{vs:List V}(r:aQ K mg ι H [x,y] vs):∃v u,vs=[v,u]/\bx K mg ι H x v/\bx K mg ι H y u:=by
 cases r with
 |cons r rs=>cases rs with
  |cons r2 rs2=>cases rs2;exact⟨_,_,rfl,r,r2⟩
theorem fW:oH X W (.builtin "len") DQ:=oW call_len fun ι S H xs vs Q B Rs rx fi=>by
 unfold DQ at fi
 split at fi
 ·obtain⟨v,rfl,r⟩:=one_of rx
  cases r
  split at fi
  ·rename_i h;exact⟨_,_,rfl,⟨h,rfl⟩,Fin.ret Rs fi (.int _)⟩
  ·exact fi.elim
 ·obtain⟨v,rfl,r⟩:=one_of rx
  cases r with
  |tup hq rr=>exact⟨_,_,rfl,.inr ⟨_,hq,rfl⟩,by rw[<-rr.length];exact Fin.ret Rs fi (.int _)⟩
 ·obtain⟨v,rfl,r⟩:=one_of rx
  cases r with
  |ref hq=>
   split at fi
   ·rename_i ys ey
    obtain⟨us,h1,r1⟩:=Rs.obj _ _ _ hq ey
    exact⟨_,_,rfl,.inl ⟨_,SqL.of h1,rfl⟩,by rw[<-r1.length];exact Fin.ret Rs fi (.int _)⟩
   ·exact fi.elim
 ·exact fi.elim
def apl:List CV->M CV:=fun xs S=>match xs with
 | [.int i]=>.ok (.int (if i<0 then -i else i)) S
 |_=>.bad
theorem ZR:oH X W (.builtin "abs") apl:=oW call_abs fun ι S H xs vs Q B Rs rx fi=>by
 unfold apl at fi
 split at fi
 ·obtain⟨v,rfl,r⟩:=one_of rx
  cases r
  exact⟨_,rfl,Fin.ret Rs fi (.int _)⟩
 ·exact fi.elim
def Hg:List CV->M CV:=fun xs S=>match xs with
 | [.int i]=>.ok (.int i) S
 | [.bl k]=>.ok (.int (if k then 1 else 0)) S
 | [.str a]=>match iB a with
  |some n=>if a.length<=640 then .ok (.int n) S else .bad
  |none=>.bad
 |_=>.bad
theorem CallR.or{f:Value}{r r':List V->Hp->VK->Prop}(h:CallR X f r)(h':CallR X f r'):CallR X f (fun xs H Q=>r xs H Q\/r' xs H Q):=fun pins s σ H xs us Q I rv q=>q.elim (fun q=>h pins s σ H xs us Q I rv q) fun q=>h' pins s σ H xs us Q I rv q
theorem fV:oH X W (.type "int") Hg:=oW (CallR.or call_int1 call_int_str) fun ι S H xs vs Q B Rs rx fi=>by
 unfold Hg at fi
 split at fi
 ·obtain⟨v,rfl,r⟩:=one_of rx
  cases r
  exact .inl (.inl ⟨_,rfl,Fin.ret Rs fi (.int _)⟩)
 ·obtain⟨v,rfl,r⟩:=one_of rx
  cases r
  exact .inl (.inr ⟨_,rfl,Fin.ret Rs fi (.int _)⟩)
 ·obtain⟨v,rfl,r⟩:=one_of rx
  cases r
  split at fi
  ·rename_i n hn
   split at fi
   ·rename_i hl;exact .inr ⟨_,n,rfl,hn,hl,Fin.ret Rs fi (.int _)⟩
   ·exact fi.elim
  ·exact fi.elim
 ·exact fi.elim
def Rb:List CV->M CV:=fun xs S=>match xs with
 | [.int i]=>if i.natAbs.log2<1920 then .ok (.str (toString i)) S else .bad
 |_=>.bad
theorem aaF:oH X W (.type "str") Rb:=oW call_str_int fun ι S H xs vs Q B Rs rx fi=>by
 unfold Rb at fi
 split at fi
 ·obtain⟨v,rfl,r⟩:=one_of rx
  cases r
  split at fi
  ·rename_i h;exact⟨_,rfl,h,Fin.ret Rs fi (.str _)⟩
  ·exact fi.elim
 ·exact fi.elim
def PN:List CV->M CV:=fun xs S=>match xs with
 | [.tup ys]=>.ok (.ref S.length) (S++[.lst ys])
 | [.ref n]=>match S[n]? with
  |some (.lst ys)=>.ok (.ref S.length) (S++[.lst ys])
  |_=>.bad
 |_=>.bad
theorem Nk:oH X W (.type "list") PN:=oW call_list_of fun ι S H xs vs Q B Rs rx fi=>by
 unfold PN at fi
 split at fi
 ·obtain⟨v,rfl,r⟩:=one_of rx
  cases r with
  |tup hq rr=>
   refine⟨_,_,rfl,.inr hq,fun l hl=>?_⟩
   obtain⟨n2,r2⟩:=lJ Rs rr hl
   exact fi _ _ _ n2 r2
 ·obtain⟨v,rfl,r⟩:=one_of rx
  cases r with
  |ref hq=>
   split at fi
   ·rename_i ys ey
    obtain⟨us,h1,r1⟩:=Rs.obj _ _ _ hq ey
    refine⟨_,_,rfl,.inl (SqL.of h1),fun l hl=>?_⟩
    obtain⟨n2,r2⟩:=lJ Rs r1 hl
    exact fi _ _ _ n2 r2
   ·exact fi.elim
 ·exact fi.elim
def Cg:List CV->M CV:=fun xs S=>match xs with
 | [.tup ys]=>.ok (.tup ys) S
 | [.ref n]=>match S[n]? with
  |some (.lst ys)=>.ok (.tup ys) S
  |_=>.bad
 |_=>.bad
theorem qU:oH X W (.type "tuple") Cg:=oW call_tuple_of fun ι S H xs vs Q B Rs rx fi=>by
 unfold Cg at fi
 split at fi
 ·obtain⟨v,rfl,r⟩:=one_of rx
  cases r with
  |tup hq rr=>exact⟨_,_,rfl,.inr ⟨hq,Fin.ret Rs fi (.tup hq rr)⟩⟩
 ·obtain⟨v,rfl,r⟩:=one_of rx
  cases r with
  |ref hq=>
   split at fi
   ·rename_i ys ey
    obtain⟨us,h1,r1⟩:=Rs.obj _ _ _ hq ey
    refine⟨_,_,rfl,.inl ⟨SqL.of h1,fun l hl=>?_⟩⟩
    obtain⟨n2,r2⟩:=QX Rs r1 hl
    exact fi _ _ _ n2 r2
   ·exact fi.elim
 ·exact fi.elim
def kindB(S:Sto):CV->Option String
 |.non=>some "NoneType"
 |.bl _=>some "bool"
 |.int _=>some "int"
 |.str _=>some "str"
 |.tup _=>some "tuple"
 |.ref n=>match S[n]? with
  |some (.lst _)=>some "list"
  |some (.dic _)=>some "dict"
  |some (.frz (.dic _))=>some "dict"
  |_=>none
 |_=>none
def nj(t T:String):Bool:=t==T||(t== "bool"&&T== "int")
def mH:List String:=["NoneType","bool","int","str","tuple","list","dict"]
/-- the class of an instance -/
def lg(S:Sto):CV->Option Str
 |.ref n=>match S[n]? with
  |some (.ins c _)=>some c
  |_=>none
 |_=>none
/-- isinstance: tO: which own class's instances are of which own class; tB: of which built-in one -/
def Hh(tN:List Str)(tO:List ((Str×Str)×Bool))(tB:List ((Str×String)×Bool)):List CV->M CV:=fun xs S=>match xs with
 | [x,.ty T]=>match kindB S x with
  |some t=>if T∈mH then .ok (.bl (nj t T)) S else .bad
  |none=>match lg S x with
   |some c=>match tB.lookup (c,T) with
    |some r=>.ok (.bl r) S
    |none=>.bad
   |none=>.bad
 | [x,.cls d]=>match kindB S x with
  |some _=>if d∈tN then .ok (.bl false) S else .bad
  |none=>match lg S x with
   |some c=>match tO.lookup (c,d) with
    |some r=>.ok (.bl r) S
    |none=>.bad
   |none=>.bad
 |_=>.bad
/-- what isinstance asks of an own class -/
structure IsC(K:ae)(mg:Str->Option Value)(c:Str)(C:Addr):Prop where
 gl:mg c=some (.ref C)
 cl:Cls K C
 ha:bE K (.ref C) "__class__"=some (some (.builtin "object.__class__"))
 hn:kF K (.builtin "object.__class__") "__get__"=some (some (.builtin "getset_descriptor.__get__"))
 htk:kN K (.builtin "object.__class__")=some true
 hm:g9 K C (.type "object")=some true
/-- no built-in thing is an instance of it -/
def NoB(K:ae)(C:Addr):Prop:=∀t∈mH,aS K (.type t) (.ref C)=some false
theorem aeo(K:ae){t T:String}(ht:t∈mH)(hT:T∈mH):aS K (.type t) (.type T)=some (nj t T):=by
 simp only[mH,av,List.mem_nil_iff,or_false]at ht hT
 rcases ht with rfl|rfl|rfl|rfl|rfl|rfl|rfl<;>rcases hT with rfl|rfl|rfl|rfl|rfl|rfl|rfl<;>rfl
theorem Xj{K:ae}{mg:Str->Option Value}{ι:List Addr}{H:Hp}{S:Sto}{x:CV}{v:V}{t:String}(Rs:RS K mg ι S H)(r:bx K mg ι H x v)(h:kindB S x=some t):TyX K H v (.type t)/\t∈mH:=by
 unfold kindB at h
 cases r with
 |non=>cases h;exact⟨.base .non,by decide⟩
 |bl b=>cases h;exact⟨.base (.bl b),by decide⟩
 |int b=>cases h;exact⟨.base (.int b),by decide⟩
 |str b=>cases h;exact⟨.base (.str b),by decide⟩
 |tup hq rr=>
  cases h
  refine⟨?_,by decide⟩
  rcases hq with(hq|⟨o,hq⟩)|⟨o,its,n,hk,hc,_⟩
  ·exact .base (.tup hq)
  ·exact .fTuple hq
  ·exact .kTuple hk hc
 |ref hq=>
  dsimp only at h
  split at h
  ·rename_i xs ex
   cases h
   obtain⟨vs,h1,_⟩:=Rs.obj _ _ _ hq ex
   exact⟨.base (.lst h1),by decide⟩
  ·rename_i kvs ex
   cases h
   rcases Rs.obj _ _ _ hq ex with⟨ps,h1,_⟩|⟨_,ps,h1,_⟩
   ·exact⟨.base (.dK h1),by decide⟩
   ·exact⟨.base (.dT h1),by decide⟩
  ·rename_i kvs ex
   cases h
   obtain⟨_,ps,h1,_⟩:=Rs.obj _ _ _ hq ex
   exact⟨.fDict h1,by decide⟩
  ·cases h
 |_=>cases h
theorem aen{K:ae}{mg:Str->Option Value}{ι:List Addr}{H:Hp}{S:Sto}{x:CV}{v:V}{c:Str}{C:Addr}(Rs:RS K mg ι S H)(r:bx K mg ι H x v)(h:lg S x=some c)(hc:IsC K mg c C):TyX K H v (.ref C):=by
 unfold lg at h
 cases r with
 |ref hq=>
  dsimp only at h
  split at h
  ·rename_i fs ex
   cases h
   obtain⟨C',dx,gs,hm,e1,_⟩:=Rs.obj _ _ _ hq ex
   rw[hc.gl]at hm;cases hm
   exact .base (.ins e1 hc.cl hc.ha hc.hn hc.htk hc.hm)
  ·cases h
 |_=>cases h
theorem P0{α:Type}[BEq α][LawfulBEq α]{β:Type}{k:α}{v:β}:∀{l:List (α×β)},l.lookup k=some v->(k,v)∈l
 | [],h=>nomatch h
 |(d,u)::r,h=>by
  unfold dS at h
  split at h
  ·rename_i hc
   cases h
   rw[eq_of_beq hc]
   exact af
  ·exact ag _ (P0 h)
theorem oZ{tN:List Str}{tO:List ((Str×Str)×Bool)}{tB:List ((Str×String)×Bool)}(hO:∀q∈tO,∃C D,IsC X.K X.mg q.1.1 C/\X.mg q.1.2=some (.ref D)/\aS X.K (.ref C) (.ref D)=some q.2)(hB:∀q∈tB,∃C,IsC X.K X.mg q.1.1 C/\aS X.K (.ref C) (.type q.1.2)=some q.2)
    (hN:∀d∈tN,∃D,X.mg d=some (.ref D)/\NoB X.K D):oH X W (.builtin "isinstance") (Hh tN tO tB):=oW call_isi fun ι S H xs vs Q B Rs rx fi=>by
  unfold Hh at fi
  split at fi
  · rename_i x T
    obtain⟨v,u,rfl,rv,ru⟩:=Pu rx
    cases ru
    split at fi
    · rename_i t ht
      split at fi
      · rename_i hT
        obtain⟨ty,tm⟩:=Xj Rs rv ht
        exact⟨_,_,_,_,_,rfl,.ty T,ty,aeo _ tm hT,Fin.ret Rs fi (.bl _)⟩
      · exact fi.elim
    · split at fi
      · rename_i c hc
        split at fi
        · rename_i r hr
          obtain⟨C,ic,hk⟩:=hB _ (P0 hr)
          exact⟨_,_,_,_,_,rfl,.ty T,aen Rs rv hc ic,hk,Fin.ret Rs fi (.bl _)⟩
        · exact fi.elim
      · exact fi.elim
  · rename_i x d
    obtain⟨v,u,rfl,rv,ru⟩:=Pu rx
    cases ru with
    |cls hd=>
     split at fi
     · rename_i t ht
       split at fi
       · rename_i hdN
         obtain⟨ty,tm⟩:=Xj Rs rv ht
         obtain⟨D,hD,nb⟩:=hN _ hdN
         rw[hd]at hD;cases hD
         exact⟨_,_,_,_,_,rfl,.own _,ty,nb _ tm,Fin.ret Rs fi (.bl _)⟩
       · exact fi.elim
     · split at fi
       · rename_i c hc
         split at fi
         · rename_i r hr
           obtain⟨C,D,ic,hD,hk⟩:=hO _ (P0 hr)
           rw[hd]at hD;cases hD
           exact⟨_,_,_,_,_,rfl,.own _,aen Rs rv hc ic,hk,Fin.ret Rs fi (.bl _)⟩
         · exact fi.elim
       · exact fi.elim
  · exact fi.elim
end
section
open PySem.W PySem.Calls Builtin
variable {prog:Program}{w:World}{A:Around}{E:Value->Shared->Prop}{s:Shared}{K:Frag}{x C f:Addr}{ox:Obj}{od:Option Obj}{b tb:Value}
/-- a builtin slot of an own class's instance is called -/
theorem aiO{M:Model}{name:Str}{id:String}{args:List Value}{Q:Option Value->Shared->Prop}(X:K.In s.heap)(I:InstAt s.heap x ox C od)(hs:findIn K (.ref C) name=some (some (.builtin id)))(hbd:bindSpecial (.builtin id) (.ref x)=pure (.builtin id,[.ref x]))
    (h:wpAny M A (call (.builtin id) (.ref x::args)) (fun v=>Q (some v)) E s):wpAny M A (callSpecialIfBound? (.ref x) name args) Q E s:=by
  have last:wpAny M A (call (.builtin id) ([.ref x]++args)>>=fun v=>pure (some v)) Q E s:=wpAny_bind (wpAny_mono h (fun _ _ z=>wpAny_pure z) fun _ _ z=>z)
  simp only[callSpecialIfBound?,bindSpecialIfBound?,hbd]
  refine wpAny_holding (wpAny_bind (wpAny_bind (wpAny_bind (I.type.here ((looks_findIn X hs).here ?_)))))
  refine wpAny_bind (wpAny_askSetting (wpAny_ite ?_))
  split
  · exact wpAny_bind (wpAny_of_eq hbd (wpAny_pure last))
  · exact wpAny_tryCatch (wpAny_bind (wpAny_of_eq hbd (wpAny_pure last)))
/-- a rich comparison by the left one's first try -/
theorem aq9{op:CmpOp}{Q:Value->Shared->Prop}(hu:A.units<cLine)(X:K.In s.heap)(I:InstAt s.heap x ox C od)(hb:Looks (model prog w) s.heap (typeOf b) tb)(hn:notFirst K C tb=true)
    (h:wpAny (model prog w) A (tryCompare (.ref x) (cmpInfo op).2.1 b) (fun r s'=>∃v,r=some v/\Q v s') E s):wpAny (model prog w) A (richCompare op (.ref x) b) Q E s:=by
  unfold richCompare
  simp only[oneThing_ref]
  refine wpAny_holding (wpAny_bind (wpAny_cRoomFor hu (wpAny_bind (I.type.here (wpAny_bind (hb.here ?_))))))
  by_cases q:tb=.ref C
  · rw[if_neg (by simp[q])]
    refine wpAny_bind (wpAny_pure ?_)
    simp only[bI,if_false]
    exact wpAny_bind (wpAny_mono h (fun r s' ⟨v,e,hq⟩=>by subst e;exact wpAny_pure hq) fun _ _ z=>z)
  · have e:subIn K tb (.ref C)=some false:=by
      rcases Bool.or_eq_true_iff.mp hn with e|e
      · exact absurd (beq_iff_eq.mp e) q
      · exact beq_iff_eq.mp e
    rw[if_pos (by simpa using fun z=>q (Eq.symm z))]
    refine wpAny_bind ((looks_subIn X e).here ?_)
    simp only[bI,if_false]
    exact wpAny_bind (wpAny_mono h (fun r s' ⟨v,e,hq⟩=>by subst e;exact wpAny_pure hq) fun _ _ z=>z)
theorem atV{Q:Value->Shared->Prop}(hu:A.units+1<cLine)(X:K.In s.heap)(I:InstAt s.heap x ox C od)(hb:Looks (model prog w) s.heap (typeOf b) tb)(hn:notFirst K C tb=true)
    (hne:findIn K (.ref C) "__ne__"=some (some (.builtin "object.__ne__")))(hs:findIn K (.ref C) "__eq__"=some (some (.ref f)))(hf:isFn K (.ref f)=true)(hmro:mroIn K C (.type "object")=some true)
    (h:wpAny (model prog w) A.in1 (call (.ref f) [.ref x,b]) (fun v s'=>∃k,v=.bool k/\Q (.bool (!k)) s') E s):wpAny (model prog w) A (richCompare .NotEq (.ref x) b) Q E s:=by
  have hI:Looks (model prog w) s.heap (isInstance (.ref x) (.type "object")) true:=I.type.andThen (looks_mroIn X hmro)
  have body:wpAny (model prog w) A.in1 (Builtin.«object.__ne__» ⟨[.ref x,b],[]⟩) (fun fin s'=>∃k,fin=.done (.ret (.bool k))/\Q (.bool k) s') E s:=by
    unfold Builtin.«object.__ne__»
    repeat (first
      |with_reducible refine wpAny_cRoomFor hu ?_
      |(refine wpAny_bind (m:=callSpecialIfBound? (.ref x) (Str.ofString "__eq__") [b]) (ifBound_K X I hs hf (wpAny_mono h (fun r s' hr=>by
          obtain⟨k,rfl,hq⟩:=hr
          repeat (first|exact⟨_,rfl,hq⟩|exact wpAny_pure ⟨_,rfl,hq⟩|exact wpAny_truthy_bool ⟨_,rfl,hq⟩|(refine wpAny_bind (m:=truthy (.bool _)) (wpAny_truthy_bool ?_))|wp_step)) fun _ _ e=>e)))
      |wp_step)
  have hcall:wpAny (model prog w) A (call (.builtin "object.__ne__") [.ref x,b]) (fun v s'=>∃k,v=.bool k/\Q (.bool k) s') E s:=by
    refine wpAny_call (codeAny_call_builtin kd.plain PySem.F.cmpEntry_ne (check_slot PySem.F.cmpKind_ne PySem.F.cmpSplit_ne hI (PySem.F.cmpArgs_ne _ _) (wpAny_mono body (fun fin s' hfin=>?_) fun _ _ e=>e)))
    obtain⟨k,rfl,hq⟩:=hfin
    exact⟨k,rfl,hq⟩
  refine aq9 (Nat.lt_of_succ_lt hu) X I hb hn ?_
  unfold tryCompare
  refine wpAny_bind (aiO X I hne (kd.bind _) (wpAny_mono hcall (fun v s' hv=>?_) fun _ _ e=>e))
  obtain⟨k,rfl,hq⟩:=hv
  exact wpAny_pure ⟨_,rfl,hq⟩
end
/-- the own def of a class's slot -/
structure Own(P:Program)(w:World)(K:ae)(mg:Str->Option Value)(base:Heap)(k:Nat)(c name:Str)(n:Nat)(m:List CV->M CV):Prop where
 ex:∃C f j,mg c=some (.ref C)/\bE K (.ref C) name=some (some (.ref f))/\f6 K (.ref f)=true/\Callee P w K mg base j f n m/\j+2<=k
/-- the table's def at x's class -/
def ownAt(tbl:List (Str×(List CV->M CV)))(x:CV)(S:Sto):Option (List CV->M CV):=match x with
 |.ref i=>match S[i]? with
  |some (.ins c _)=>tbl.lookup c
  |_=>none
 |_=>none
section
variable {X:Cx}{W:WX}{k:Nat}{tbl:List (Str×(List CV->M CV))}
/-- what is at an instance's slot -/
theorem Ud{name:Str}{n:Nat}{ι:List Addr}{S:Sto}{H:Hp}{pins:List (Addr×Obj)}{σ:cz}{s:Shared}{x:CV}{v:V}{a:Value}{m:List CV->M CV}(ht:∀p∈tbl,Own X.prog X.w X.K X.mg X.base k p.1 name n p.2)(I:Inv X pins σ H s)(rv:RelV v a)(Rs:RS X.K X.mg ι S H)(rx:bx X.K X.mg ι H x v)(h:ownAt tbl x S=some m):
    ∃(p C f:Addr) (ox od:Obj) (j:Nat) (c:Str),v=.ref p/\a=.ref p/\gF s.heap p ox C (some od)/\X.mg c=some (.ref C)/\bE X.K (.ref C) name=some (some (.ref f))/\f6 X.K (.ref f)=true/\Callee X.prog X.w X.K X.mg X.base j f n m/\j+2<=k/\lg S x=some c:=by
  unfold ownAt at h
  cases rx with
  |ref hq=>
   cases rv
   dsimp only at h
   split at h
   · rename_i c fs ec
     obtain⟨C,dx,gs,hm,e1,rf⟩:=Rs.obj _ _ _ hq ec
     obtain⟨C',f,j,hm',hs,hf,F,hj⟩:=(ht _ (j6 h)).ex
     rw[hm]at hm';cases hm'
     obtain⟨mA,O,_⟩:=ins_get I.hok e1
     obtain⟨od,J,_⟩:=O.look
     refine⟨_,C,f,_,od,j,c,rfl,rfl,J,hm,hs,hf,F,hj,?_⟩
     unfold lg
     dsimp only
     rw[ec]
   · cases h
  |_=>cases h
/-- the def runs under A' -/
theorem KH{A':Around}{n:Nat}{j:Nat}{f:Addr}{m:List CV->M CV}{pins:List (Addr×Obj)}{σ:cz}{H:Hp}{s:Shared}{Q:VK}{us:List Value}{vs:List V}{cs:List CV}{ι:List Addr}{S:Sto}(F:Callee X.prog X.w X.K X.mg X.base j f n m)(hr:RmG j A')(hfr:A'.frames=X.A.frames)(tk:Takes X W)
    (I:Inv X pins σ H s)(r:Vals vs us)(Rs:RS X.K X.mg ι S H)(rc:aQ X.K X.mg ι H cs vs)(h:Fin X.K X.mg ι H (bx X.K X.mg) (app n m cs S) Q (fun c d H'=>W c d σ H')):
    wpAny (model X.prog X.w) A' (call (.ref f) us) (EP X pins σ Q) X.xe s:=by
  obtain⟨fd,ps,hl,F',hb⟩:=F.ex
  subst hl
  have e:=I.env0
  have e0:Env0 X.prog X.w X.K X.mg X.base A' X.stack s H:=⟨hfr.trans e.frames,e.mod,e.bs,e.bsz,e.funs,e.frf,e.hok,e.bare⟩
  exact aiq (Ij (args:=⟨us,[]⟩) F' hr e0 (fun hl'=>by
    have hbb:=hb s us I.kIn (by rw[aT];exact hl')
    rw[aT]at hbb
    exact hbb) tk I r Rs rc h)
/-- x in y, y an instance -/
def ajI(tbl:List (Str×(List CV->M CV)))(neg:Bool):CV->CV->M CV:=fun x y S=>match ownAt tbl y S with
 |some m=>(app 2 m [y,x] S).bnd fun r S'=>match r with
  |.bl b=>.ok (.bl (if neg then !b else b)) S'
  |_=>.bad
 |none=>inC neg x y S
end
section
variable {X:Cx}{W:WX}{k:Nat}{tbl:List (Str×(List CV->M CV))}
/-- the type of a built-in thing -/
theorem aqu{M:Model}{ι:List Addr}{S:Sto}{H:Hp}{pins:List (Addr×Obj)}{σ:cz}{s:Shared}{x:CV}{v:V}{a:Value}{t:String}(I:Inv X pins σ H s)(Rs:RS X.K X.mg ι S H)(rx:bx X.K X.mg ι H x v)(rv:RelV v a)(h:kindB S x=some t):gm M s.heap (typeOf a) (.type t):=by
 have afb:∀{p:Addr}{o:Obj}{T:String},s.heap.get? p=some o->o.cls=.type T->gm M s.heap (typeOf (.ref p)) (.type T):=fun {p o T} e c A Q E s' kk q=>wpAny_typeOf_ref (kk _ _ e) (by rw[c];exact q)
 unfold kindB at h
 cases rx with
 |non=>cases h;cases rv;exact .now
 |bl b=>cases h;cases rv;exact .now
 |int i=>cases h;obtain⟨t,rfl⟩:=rv;exact .now
 |str i=>cases h;obtain⟨t,rfl⟩:=rv;exact .now
 |tup hq rr=>
  cases h;cases rv
  obtain⟨its,r,⟨o,ho,hc,_⟩,hz⟩:=I.tuple hq
  exact afb ho hc
 |ref hq=>
  cases rv
  dsimp only at h
  split at h
  ·rename_i xs ex
   cases h
   obtain⟨vs,h1,_⟩:=Rs.obj _ _ _ hq ex
   obtain⟨_,_,n,_,e⟩:=I.hok _ _ h1
   exact afb e rfl
  ·rename_i kvs ex
   cases h
   rcases Rs.obj _ _ _ hq ex with⟨ps,h1,_⟩|⟨_,ps,h1,_⟩
   ·obtain⟨_,_,_,_,ob,_,_,ho,hx,_⟩:=I.hok _ _ h1
    exact afb ho hx.1
   ·obtain⟨_,_,_,_,ob,_,_,ho,hx,_⟩:=I.hok _ _ h1
    exact afb ho hx.1
  ·rename_i kvs ex
   cases h
   obtain⟨_,ps,h1,_⟩:=Rs.obj _ _ _ hq ex
   obtain⟨_,_,_,_,_,ob,_,_,ho,hx,_⟩:=I.hok _ _ h1
   exact afb ho hx.1
  ·cases h
 |_=>cases h
theorem aqv{M:Model}{ι:List Addr}{S:Sto}{H:Hp}{pins:List (Addr×Obj)}{σ:cz}{s:Shared}{x:CV}{v:V}{a:Value}{c:Str}{C:Addr}(I:Inv X pins σ H s)(Rs:RS X.K X.mg ι S H)(rx:bx X.K X.mg ι H x v)(rv:RelV v a)(h:lg S x=some c)(hC:X.mg c=some (.ref C)):gm M s.heap (typeOf a) (.ref C):=by
 unfold lg at h
 cases rx with
 |ref hq=>
  cases rv
  dsimp only at h
  split at h
  ·rename_i fs ex
   cases h
   obtain⟨C',dx,gs,hm,e1,_⟩:=Rs.obj _ _ _ hq ex
   rw[hC]at hm;cases hm
   obtain⟨mA,O,_⟩:=ins_get I.hok e1
   obtain⟨od,J,_⟩:=O.look
   exact J.type
  ·cases h
 |_=>cases h
/-- of which classes the right one may be: no class below the left one's -/
def Px(K:ae)(mg:Str->Option Value)(cs:List (Str×Str))(bs:List Str):Prop:=
 (∀p∈cs,∃C D,mg p.1=some (.ref C)/\mg p.2=some (.ref D)/\bX K C (.ref D)=true)/\∀c∈bs,∃C,mg c=some (.ref C)/\∀t∈mH,bX K C (.type t)=true
def anJ(cs:List (Str×Str))(bs:List Str)(c:Str)(S:Sto)(y:CV):Bool:=match kindB S y,lg S y with
 |some _,_=>decide (c∈bs)
 |none,some d=>decide ((c,d)∈cs)
 |none,none=>false
/-- x op y by x's own slot -/
def cP(tbl:List (Str×(List CV->M CV)))(cs:List (Str×Str))(bs:List Str)(fin:Bool->Bool)(other:CV->CV->M CV):CV->CV->M CV:=fun x y S=>match ownAt tbl x S,lg S x with
 |some m,some c=>if anJ cs bs c S y=true then (app 2 m [x,y] S).bnd fun r S'=>match r with
  |.bl b=>.ok (.bl (fin b)) S'
  |_=>.bad
  else .bad
 |_,_=>other x y S
theorem ZW{ι:List Addr}{S:Sto}{H:Hp}{pins:List (Addr×Obj)}{σ:cz}{s:Shared}{y:CV}{u:V}{b:Value}{c:Str}{C:Addr}{cs:List (Str×Str)}{bs:List Str}(hn:Px X.K X.mg cs bs)(hC:X.mg c=some (.ref C))(I:Inv X pins σ H s)(Rs:RS X.K X.mg ι S H)(ry:bx X.K X.mg ι H y u)(ru:RelV u b)
    (h:anJ cs bs c S y=true):∃tb,(∀M,gm M s.heap (typeOf b) tb)/\bX X.K C tb=true:=by
  unfold anJ at h
  split at h
  · rename_i t hk
    obtain⟨C',hC',hb⟩:=hn.2 c (of_decide_eq_true h)
    rw[hC]at hC';cases hC'
    exact⟨.type t,fun M=>aqu I Rs ry ru hk,hb t (Xj Rs ry hk).2⟩
  · rename_i d _ hk
    obtain⟨C',D,hC',hD,hb⟩:=hn.1 _ (of_decide_eq_true h)
    rw[hC]at hC';cases hC'
    exact⟨.ref D,fun M=>aqv I Rs ry ru hk hD,hb⟩
  · cases h
theorem lW{op:CmpOp}{name:Str}{cs:List (Str×Str)}{bs:List Str}{other:CV->CV->M CV}(hname:(cmpInfo op).2.1=name)(hop:∀a b,compareOp op a b=richCompare op a b:=by intro _ _;rfl)(ht:∀p∈tbl,Own X.prog X.w X.K X.mg X.base k p.1 name 2 p.2)(hn:Px X.K X.mg cs bs)(hr:RmG k X.A)(tk:Takes X W)(ho:OpG X W (compareOp op) other):
    OpG X W (compareOp op) (cP tbl cs bs id other):=by
  intro pins s σ H ι S x y v u a b Q I rv ru Rs rx ry fi
  unfold cP at fi
  split at fi
  · rename_i m c hm hc
    split at fi
    · rename_i hk
      obtain⟨p,C,f,ox,od,j,c',rfl,rfl,J,hg,hs,hf,F,hj,hc'⟩:=Ud ht I rv Rs rx hm
      rw[hc]at hc';cases hc'
      obtain⟨tb,hl,hnf⟩:=ZW hn hg I Rs ry ru hk
      obtain⟨mm,hF⟩:=I.fr
      have run:=KH (us:=[.ref p,b]) (vs:=[.ref p,u]) F (hr.mono (by omega:j<=k)) rfl tk I (.cons rfl (.cons ru .nil)) Rs (.cons rx (.cons ry .nil)) (Fin.bnd (R:=bx X.K X.mg) fi)
      rw[hop]
      refine PySem.W.cmp_K hr.rm.units0 hF I.ok.mod.kin J (hl _) hnf (by rw[hname];exact hs) hf (thn run fun w' s1 ⟨z,H1,I1,rz,ι1,S1,d,n1,rd,f1⟩=>?_)
      cases rd with
      |bl k=>cases rz;exact⟨.bl k,H1,I1,rfl,Fin.ret n1.rs f1 (.bl _)⟩
      |_=>exact f1.elim
    · exact fi.elim
  · exact ho pins s σ H ι S x y v u a b Q I rv ru Rs rx ry fi
/-- != by an own __eq__ alone -/
theorem iU{cs:List (Str×Str)}{bs:List Str}{other:CV->CV->M CV}(ht:∀p∈tbl,Own X.prog X.w X.K X.mg X.base k p.1 "__eq__" 2 p.2)
    (hne:∀p∈tbl,∃C,X.mg p.1=some (.ref C)/\bE X.K (.ref C) "__ne__"=some (some (.builtin "object.__ne__"))/\g9 X.K C (.type "object")=some true)(hn:Px X.K X.mg cs bs)(hr:RmG k X.A)(tk:Takes X W)(ho:OpG X W (compareOp .NotEq) other):
    OpG X W (compareOp .NotEq) (cP tbl cs bs (fun b=>!b) other):=by
  intro pins s σ H ι S x y v u a b Q I rv ru Rs rx ry fi
  unfold cP at fi
  split at fi
  · rename_i m c hm hc
    split at fi
    · rename_i hk
      obtain⟨p,C,f,ox,od,j,c',rfl,rfl,J,hg,hs,hf,F,hj,hc'⟩:=Ud ht I rv Rs rx hm
      rw[hc]at hc';cases hc'
      have hml:(c,m)∈tbl:=by
        unfold ownAt lg at *
        cases x with
        |ref i=>
         dsimp only at hm hc
         split at hm
         · rename_i c2 fs e2
           rw[e2]at hc
           cases hc
           exact j6 hm
         · cases hm
        |_=>cases hm
      obtain⟨C2,hg2,ayq,hmro⟩:=hne _ hml
      rw[hg]at hg2;cases hg2
      obtain⟨tb,hl,hnf⟩:=ZW hn hg I Rs ry ru hk
      have run:=KH (A':=X.A.in1) (us:=[.ref p,b]) (vs:=[.ref p,u]) F (hr.mono (by omega:j+1<=k)).in1 rfl tk I (.cons rfl (.cons ru .nil)) Rs (.cons rx (.cons ry .nil)) (Fin.bnd (R:=bx X.K X.mg) fi)
      have hu:X.A.units+1<cLine:=by have:=hr.rm.units;omega
      show wpAny _ _ (richCompare .NotEq (.ref p) b) _ _ _
      refine atV hu I.kIn J (hl _) hnf ayq hs hf hmro (thn run fun w' s1 ⟨z,H1,I1,rz,ι1,S1,d,n1,rd,f1⟩=>?_)
      cases rd with
      |bl k=>cases rz;exact⟨k,rfl,.bl (!k),H1,I1,rfl,Fin.ret n1.rs f1 (.bl _)⟩
      |_=>exact f1.elim
    · exact fi.elim
  · exact ho pins s σ H ι S x y v u a b Q I rv ru Rs rx ry fi
def Jm(tbl:List (Str×(List CV->M CV))):List CV->M CV:=fun xs S=>match xs with
 | [x]=>match ownAt tbl x S with
  |some m=>(app 1 m [x] S).bnd fun r S'=>match r with
   |.str y=>.ok (.str y) S'
   |_=>.bad
  |none=>match x with
   |.str y=>.ok (.str y) S
   |_=>Rb [x] S
 |_=>.bad
theorem o8(ht:∀p∈tbl,Own X.prog X.w X.K X.mg X.base k p.1 "__str__" 1 p.2)(hr:RmG k X.A)(tk:Takes X W):oH X W (.type "str") (Jm tbl):=by
 intro pins s σ H ι S xs vs us Q I rv Rs rx fi
 unfold Jm at fi
 split at fi
 ·rename_i x
  split at fi
  ·rename_i m hm
   obtain⟨v,rfl,r⟩:=one_of rx
   cases rv with
   |cons r1 r2=>
    cases r2
    obtain⟨p,C,f,ox,od,j,c',rfl,rfl,J,hg,hs,hf,F,hj,_⟩:=Ud ht I r1 Rs r hm
    have run:=KH (A':=X.A.in1.in1) (us:=[.ref p]) (vs:=[.ref p]) F (hr.mono (by omega:j+1+1<=k)).in1.in1 rfl tk I (.cons rfl .nil) Rs (.cons r .nil) (Fin.bnd (R:=bx X.K X.mg) fi)
    have hu:X.A.in1.in1.units<cLine:=by have:=hr.rm.units;show X.A.units+1+1<cLine;omega
    refine PySem.W.kso_call hu I.kIn J hs hf (thn run fun w' s1 ⟨z,H1,I1,rz,ι1,S1,d,n1,rd,f1⟩=>?_)
    cases rd with
    |str y=>obtain⟨t,rfl⟩:=rz;exact⟨.str y,H1,I1,⟨t,rfl⟩,Fin.ret n1.rs f1 (.str _)⟩
    |_=>exact f1.elim
  ·split at fi
   ·rename_i y _
    obtain⟨v,rfl,r⟩:=one_of rx
    cases r
    exact SkE.call_str_str pins s σ H _ us Q I rv ⟨y,rfl,Fin.ret Rs fi (.str _)⟩
   ·exact aaF pins s σ H ι S _ vs us Q I rv Rs rx fi
 ·exact fi.elim
end
mutual
inductive RdS(h:Heap):Value->PyData->Prop
  |non:RdS h .none .none
  |bl (b:Bool):RdS h (.bool b) (.bool b)
  |int (i:Int) (t:Tok):RdS h (.int i t) (.int i)
  |str (x:Str) (t:Tok):RdS h (.str x t) (.str x)
  |lst {a:Addr} {o:Obj} {us:Array Value} {n:Nat} {ds:List PyData} (e:h.get? a=some o) (c:o.cls=.type "list") (q:o.data=.seq us n) (r:wA h us.toList ds):RdS h (.ref a) (.list ds)
  |tup {a:Addr} {o:Obj} {us:Array Value} {n:Nat} {ds:List PyData} (e:h.get? a=some o) (c:o.cls=.type "tuple") (q:o.data=.seq us n) (r:wA h us.toList ds):RdS h (.ref a) (.tuple ds)
  |dic {a:Addr} {o:Obj} {es:Array DictEntry} {n:Nat} {ks:List (PyData×PyData)} (e:h.get? a=some o) (c:o.cls=.type "dict") (q:o.data=.dict es n) (m:(a==sysModules)=false)
      (rk:wA h (es.toList.map (·.key)) (ks.map (·.1))) (rv:wA h (es.toList.map (·.val)) (ks.map (·.2))):RdS h (.ref a) (.dict ks)
inductive wA(h:Heap):List Value->List PyData->Prop
 |nil:wA h [] []
 |cons {u:Value} {us:List Value} {d:PyData} {ds:List PyData} (r:RdS h u d) (rs:wA h us ds):wA h (u::us) (d::ds)
end
mutual
theorem RdS.reads{h:Heap}:∀{u:Value}{d:PyData},RdS h u d->∃as,Reads h u d as
 |_,_,.non=>⟨_,.none⟩
 |_,_,.bl b=>⟨_,.bool b⟩
 |_,_,.int i t=>⟨_,.int i t⟩
 |_,_,.str x t=>⟨_,.str x t⟩
 |_,_,.lst e c q r=>let ⟨_,z⟩:=wA.reads r;⟨_,.list e c q z⟩
 |_,_,.tup e c q r=>let ⟨_,z⟩:=wA.reads r;⟨_,.tuple e c q z⟩
 |_,_,.dic e c q _ rk rv=>let ⟨_,z1⟩:=wA.reads rk;let ⟨_,z2⟩:=wA.reads rv;⟨_,.dict e c q z1 z2⟩
theorem wA.reads{h:Heap}:∀{us:List Value}{ds:List PyData},wA h us ds->∃as,ReadsAll h us ds as
 |_,_,.nil=>⟨_,.nil⟩
 |_,_,.cons r rs=>let ⟨_,z1⟩:=RdS.reads r;let ⟨_,z2⟩:=wA.reads rs;⟨_,.cons z1 z2⟩
end
section
variable {P:Program}{w:World}{h:Heap}
mutual
theorem RdS.shows:∀{u:Value}{d:PyData},RdS h u d->d.showable=true->d.shown.length<=sizeLine->∃as,ReadAtMost h d.depth as/\ReprK P w as h d.depth u d.shown
 |_,_,.non,_,_=>⟨[],(fun _ z=>nomatch z),by simp only[PyData.shown];exact ReprK.of_is ReprIs.none _ _ _⟩
 |_,_,.bl b,_,_=>⟨[],(fun _ z=>nomatch z),by simp only[PyData.shown];exact ReprK.of_is (ReprIs.bool b) _ _ _⟩
 |_,_,.int i t,sh,_=>⟨[],(fun _ z=>nomatch z),by simp only[PyData.shown];exact ReprK.of_is (ReprIs.int t (by simpa[PyData.showable]using sh)) _ _ _⟩
 |_,_,.str x t,_,ln=>⟨[],(fun _ z=>nomatch z),by simp only[PyData.shown];exact ReprK.of_is (ReprIs.str x t (by simpa only[PyData.shown]using ln)) _ _ _⟩
 |_,_,.lst (a:=a) (us:=us) (ds:=ds) e c q r,sh,ln=>by
  simp only[PyData.shown]at ln
  obtain⟨bs,at1,rp⟩:=wA.shows r (by simpa[PyData.showable]using sh) fun t ht=>a9 (listText_mem_le ht) ln
  obtain⟨_,rd⟩:=RdS.reads (.lst e c q r)
  have no:a∉bs:=not_mem_of_deeper rd (by simp only[PyData.depth];omega) at1
  refine⟨a::bs,ReadAtMost.cons rd (by simp only[PyData.depth];omega) at1,?_⟩
  simp only[PyData.depth,PyData.shown]
  obtain⟨l⟩:=us
  match l,r,rp,q with
  | [],r,rp,q=>cases r;simp only[PyData.shownAll,listText_nil];exact ReprK.listEmpty e c q
  |x::l,r,rp,q=>exact ReprK.list e c q no (by simpa using rp.length_eq) fun i y z=>rp.item i y (by simpa using z)
 |_,_,.tup (a:=a) (ds:=ds) e c q r,sh,ln=>by
  simp only[PyData.shown]at ln
  obtain⟨bs,at1,rp⟩:=wA.shows r (by simpa[PyData.showable]using sh) fun t ht=>a9 (tupleText_mem_le ht) ln
  obtain⟨_,rd⟩:=RdS.reads (.tup e c q r)
  have no:a∉bs:=not_mem_of_deeper rd (by simp only[PyData.depth];omega) at1
  refine⟨a::bs,ReadAtMost.cons rd (by simp only[PyData.depth];omega) at1,?_⟩
  simp only[PyData.depth,PyData.shown]
  exact ReprK.tuple e c q no rp
 |_,_,.dic (a:=a) (es:=es) (ks:=ks) e c q m rk rv,sh,ln=>by
  simp only[PyData.shown]at ln
  obtain⟨s1,s2⟩:=PyData.showableKv_split ks (by simpa[PyData.showable]using sh)
  obtain⟨bs,at1,rp1⟩:=wA.shows rk s1 fun t ht=>by
   obtain⟨p,hp,z⟩:=PyData.shownKv_key_le ks t ht
   exact a9 z (a9 (dictText_mem_le hp) ln)
  obtain⟨cs,at2,rp2⟩:=wA.shows rv s2 fun t ht=>by
   obtain⟨p,hp,z⟩:=PyData.shownKv_val_le ks t ht
   exact a9 z (a9 (dictText_mem_le hp) ln)
  have both:=(at1.mono (PyData.depthAll_keys_le ks)).append (at2.mono (PyData.depthAll_vals_le ks))
  obtain⟨_,rd⟩:=RdS.reads (.dic e c q m rk rv)
  have no:a∉bs++cs:=not_mem_of_deeper rd (by simp only[PyData.depth];omega) both
  refine⟨a::(bs++cs),ReadAtMost.cons rd (by simp only[PyData.depth];omega) both,?_⟩
  simp only[PyData.depth,PyData.shown,PyData.shownKv_eq]
  have t1:=rp1.more_le (as':=bs++cs) (fun b z=>eQ _ z) (PyData.depthAll_keys_le ks)
  have t2:=rp2.more_le (as':=bs++cs) (fun b z=>gh _ z) (PyData.depthAll_vals_le ks)
  exact ReprK.dict e c q m no (.of_two es.toList _ _ t1 t2)
theorem wA.shows:∀{us:List Value}{ds:List PyData},wA h us ds->PyData.showableAll ds=true->(∀t∈PyData.shownAll ds,t.length<=sizeLine)->∃as,ReadAtMost h (PyData.depthAll ds) as/\ReprAllK P w as h (PyData.depthAll ds) us (PyData.shownAll ds)
 |_,_,.nil,_,_=>⟨[],(fun _ z=>nomatch z),by simp only[PyData.shownAll];exact ReprAllK.nil⟩
 |_,_,.cons (d:=d) (ds:=ds) r rs,sh,ln=>by
  simp only[PyData.showableAll,aB]at sh
  simp only[PyData.shownAll]at ln
  obtain⟨bs,at1,rp1⟩:=RdS.shows r sh.1 (ln _ af)
  obtain⟨cs,at2,rp2⟩:=wA.shows rs sh.2 fun t ht=>ln t (ag _ ht)
  have l1:d.depth<=max d.depth (PyData.depthAll ds):=iu _ _
  have l2:PyData.depthAll ds<=max d.depth (PyData.depthAll ds):=fk _ _
  simp only[PyData.depthAll,PyData.shownAll]
  refine⟨bs++cs,(at1.mono l1).append (at2.mono l2),ReprAllK.cons ?_ (rp2.more_le (fun b z=>gh _ z) l2)⟩
  exact(rp1.more fun b z=>eQ _ z).level_le l1
end
theorem RdS.by{a:Addr}{d:PyData}(r:RdS h (.ref a) d)(sh:d.showable=true)(ln:d.shown.length<=sizeLine):∃T i,ShowsBy P w h a d T i:=by
 have rr:=r
 cases r with
 | @lst _ o us n ds e c q r=>
  simp only[PyData.shown]at ln
  obtain⟨bs,at1,rp⟩:=wA.shows (P:=P) (w:=w) r (by simpa[PyData.showable]using sh) fun t ht=>a9 (listText_mem_le ht) ln
  obtain⟨_,rd⟩:=rr.reads
  have no:a∉bs:=not_mem_of_deeper rd (by simp only[PyData.depth];omega) at1
  refine⟨"list","list.__repr__",F.slot_list_repr.toG,F.slot_list_str,F.slot_list_format,fun s kp=>⟨o,kp _ _ e,c⟩,fun A E s Q gd un kp fin=>?_⟩
  simp only[PyData.depth]at un
  simp only[PyData.shown]at fin
  obtain⟨l⟩:=us
  match l,r,rp,q with
  | [],r,rp,q=>
   cases r
   simp only[PyData.shownAll,listText_nil]at fin
   exact call_list_repr_empty ⟨o,kp _ _ e,c⟩ (kp _ _ e) q (fin s.heap _ _ fun _ _ z=>z)
  |x::l,r,rp,q=>exact call_list_reprK e c q no (by simpa using rp.length_eq) (fun i y z=>rp.item i y (by simpa using z)) gd (fun b _=>Clear.nil b) un kp fin ln
 | @tup _ o us n ds e c q r=>
  simp only[PyData.shown]at ln
  obtain⟨bs,at1,rp⟩:=wA.shows (P:=P) (w:=w) r (by simpa[PyData.showable]using sh) fun t ht=>a9 (tupleText_mem_le ht) ln
  obtain⟨_,rd⟩:=rr.reads
  have no:a∉bs:=not_mem_of_deeper rd (by simp only[PyData.depth];omega) at1
  refine⟨"tuple","tuple.__repr__",F.slot_tuple_repr,F.slot_tuple_str,F.slot_tuple_format,fun s kp=>⟨o,kp _ _ e,c⟩,fun A E s Q gd un kp fin=>?_⟩
  simp only[PyData.depth]at un
  simp only[PyData.shown]at fin
  exact call_tuple_reprK e c q no rp gd (fun b _=>Clear.nil b) un kp fin ln
 | @dic _ o es n ks e c q m rk rv=>
  simp only[PyData.shown]at ln
  obtain⟨s1,s2⟩:=PyData.showableKv_split ks (by simpa[PyData.showable]using sh)
  obtain⟨bs,at1,rp1⟩:=wA.shows (P:=P) (w:=w) rk s1 fun t ht=>by
   obtain⟨p,hp,z⟩:=PyData.shownKv_key_le ks t ht
   exact a9 z (a9 (dictText_mem_le hp) ln)
  obtain⟨cs,at2,rp2⟩:=wA.shows (P:=P) (w:=w) rv s2 fun t ht=>by
   obtain⟨p,hp,z⟩:=PyData.shownKv_val_le ks t ht
   exact a9 z (a9 (dictText_mem_le hp) ln)
  have both:=(at1.mono (PyData.depthAll_keys_le ks)).append (at2.mono (PyData.depthAll_vals_le ks))
  obtain⟨_,rd⟩:=rr.reads
  have no:a∉bs++cs:=not_mem_of_deeper rd (by simp only[PyData.depth];omega) both
  refine⟨"dict","dict.__repr__",F.slot_dict_repr,F.slot_dict_str,F.slot_dict_format,fun s kp=>⟨o,kp _ _ e,c⟩,fun A E s Q gd un kp fin=>?_⟩
  simp only[PyData.depth]at un
  simp only[PyData.shown,PyData.shownKv_eq]at fin
  have t1:=rp1.more_le (as':=bs++cs) (fun b z=>eQ _ z) (PyData.depthAll_keys_le ks)
  have t2:=rp2.more_le (as':=bs++cs) (fun b z=>gh _ z) (PyData.depthAll_vals_le ks)
  exact call_dict_reprK e c q m no (.of_two es.toList _ _ t1 t2) gd (fun b _=>Clear.nil b) un kp fin (by rw[<-PyData.shownKv_eq];exact ln)
theorem RdS.repr{a:Addr}{d:PyData}{A:Around}{E:Value->Shared->Prop}{s:Shared}{Q:Value->Shared->Prop}(r:RdS s.heap (.ref a) d)(sh:d.showable=true)(ln:d.shown.length<=sizeLine)(gd:A.guards=some [])(un:A.units+(d.depth+1)<cLine)
    (fin:∀h' u tk,(∀b o,s.heap.get? b=some o->h'.get? b=some o)->Q (.str d.shown u) {s with heap:=h',toks:=tk}):wpAny (model P w) A (call (.builtin "repr") [.ref a]) Q E s:=by
  obtain⟨T,i,B⟩:=RdS.by (P:=P) (w:=w) r sh ln
  refine call_repr_slot (by omega) (B.typeIs s fun _ _ e=>e) B.slotRepr (B.call A.in1 E s _ gd ?_ (fun _ _ e=>e) fun h' u tk kp=>⟨_,_,rfl,fin h' u tk kp⟩)
  show A.units+1+d.depth<cLine
  omega
end
def aob:CV->Option PyData
 |.int i=>some (.int i)
 |.str x=>some (.str x)
 |_=>none
def toK:CV->Option PyData
 |.int i=>some (.int i)
 |.str x=>some (.str x)
 |.tup cs=>(cs.mapM aob).map .tuple
 |_=>none
def Az(f:CV->Option PyData)(p:CV×CV):Option (PyData×PyData):=match toK p.1,f p.2 with
 |some k,some d=>some (k,d)
 |_,_=>none
def toR(S:Sto):Nat->CV->Option PyData
 |0,_=>none
 |n+1,x=>match x with
  |.non=>some .none
  |.bl b=>some (.bool b)
  |.int i=>some (.int i)
  |.str y=>some (.str y)
  |.tup xs=>(xs.mapM (toR S n)).map .tuple
  |.ref k=>match S[k]? with
   |some (.lst xs)=>(xs.mapM (toR S n)).map .list
   |some (.dic kvs)=>(kvs.mapM (Az (toR S n))).map .dict
   |some (.frz (.dic kvs))=>(kvs.mapM (Az (toR S n))).map .dict
   |_=>none
  |_=>none
section
variable {X:Cx}{pins:List (Addr×Obj)}{σ:cz}{H:Hp}{s:Shared}{ι:List Addr}{S:Sto}
theorem Rz{f:CV->Option PyData}(hf:∀x v d u,bx X.K X.mg ι H x v->f x=some d->RelV v u->RdS s.heap u d):∀{xs:List CV}{vs:List V}{ds:List PyData}{us:List Value},aQ X.K X.mg ι H xs vs->xs.mapM f=some ds->Vals vs us->wA s.heap us ds
 |_,_,_,_,.nil,h,rv=>by cases rv;simp at h;subst h;exact .nil
 |_,_,_,_,.cons (c:=c) (cs:=cs) r rs,h,rv=>by
  cases rv with
  |cons r1 r2=>
   rw[bb]at h
   cases e:f c with
   |none=>rw[e]at h;cases h
   |some d=>
    rw[e]at h
    cases e2:cs.mapM f with
    |none=>rw[e2]at h;cases h
    |some ds=>rw[e2]at h;cases h;exact .cons (hf _ _ _ _ r e r1) (Rz hf rs e2 r2)
theorem aue{k:CV}{k':Key}{d:PyData}{u:Value}(hk:ckey k=some k')(hd:toK k=some d)(hu:keyIs k' u=true):RdS s.heap u d:=by
 rcases keyIs_shape hu with⟨i,t,rfl,rfl⟩|⟨x,t,rfl,rfl⟩
 ·cases k with
  |int j=>cases hk;cases hd;exact .int _ _
  |str j=>cases hk
  |_=>cases hk
 ·cases k with
  |str j=>cases hk;cases hd;exact .str _ _
  |int j=>cases hk
  |_=>cases hk
theorem aoz{P:Program}{w:World}{f:CV->Option PyData}(hf:∀x v d u,bx X.K X.mg ι H x v->f x=some d->RelV v u->RdS s.heap u d):∀{kvs:List (CV×CV)}{ps:List (Key×V)}{vs:List (Key×Value)}{es:List DictEntry}{ds:List (PyData×PyData)},
    dB X.K X.mg ι H kvs ps->KV ps vs->Pairs (mixKind P w) es vs->kvs.mapM (Az f)=some ds->wA s.heap (es.map (·.key)) (ds.map (·.1))/\wA s.heap (es.map (·.val)) (ds.map (·.2))
  |_,_,_,_,_,.nil,kv,pr,h=>by
   cases kv;cases pr
   simp at h;subst h
   exact⟨.nil,.nil⟩
  |_,_,_,_,_,.cons (k:=k) (c:=c) (cs:=cs) hk r rs,kv,pr,h=>by
   cases kv with
   |cons q kv=>
    cases pr with
    |cons q1 q2 pr=>
     rw[bb]at h
     cases e:Az f (k,c) with
     |none=>rw[e]at h;cases h
     |some d=>
      rw[e]at h
      cases e2:cs.mapM (Az f) with
      |none=>rw[e2]at h;cases h
      |some ds=>
       rw[e2]at h;cases h
       obtain⟨z1,z2⟩:=aoz hf rs kv pr e2
       unfold Az at e
       split at e
       · rename_i d1 d2 h1 h2
         cases e
         obtain⟨qa,qb⟩:=q
         rw[<-qa]at q1
         refine⟨.cons (aue hk h1 q1) z1,.cons ?_ z2⟩
         exact hf _ _ _ _ r h2 (by dsimp only;rw[q2];exact qb)
       · cases e
theorem aq3{ks:List CV}{ks':List Key}{ds:List PyData}{us:List Value}(hk:ks.mapM ckey=some ks')(hd:ks.mapM aob=some ds)(hu:Vals (ks'.map kV) us):wA s.heap us ds:=by
 induction ks generalizing ks' ds us with
 |nil=>
  simp at hk hd;subst hk;subst hd
  cases hu;exact .nil
 |cons k ks ih=>
  rw[bb]at hk hd
  cases e:ckey k with
  |none=>rw[e]at hk;cases hk
  |some k'=>
   rw[e]at hk
   cases e2:ks.mapM ckey with
   |none=>rw[e2]at hk;cases hk
   |some ks2=>
    rw[e2]at hk;cases hk
    cases e3:aob k with
    |none=>rw[e3]at hd;cases hd
    |some d=>
     rw[e3]at hd
     cases e4:ks.mapM aob with
     |none=>rw[e4]at hd;cases hd
     |some ds2=>
      rw[e4]at hd;cases hd
      cases hu with
      |cons h1 h2=>
       refine .cons ?_ (ih e2 e4 h2)
       cases k with
       |int i=>cases e;cases e3;obtain⟨t,rfl⟩:=h1;exact .int _ _
       |str i=>cases e;cases e3;obtain⟨t,rfl⟩:=h1;exact .str _ _
       |_=>cases e
theorem asN{f:CV->Option PyData}(I:Inv X pins σ H s){g:List Key->Int}(hf:∀x v d u,bx X.K X.mg ι H x v->f x=some d->RelV v u->RdS s.heap u d):∀{kvs:List (CV×CV)}{ps:List (List Key×V)}{xs:List (List Key×Addr×Value)}{ds:List (PyData×PyData)},
    Py X.K X.mg ι H kvs ps->Paired (fun(p:List Key×V) (q:List Key×Addr×Value)=>p.1=q.1/\H q.2.1=some (.tup (p.1.map kV))/\RelV p.2 q.2.2) ps xs->kvs.mapM (Az f)=some ds->wA s.heap (xs.map fun x=>Value.ref x.2.1) (ds.map (·.1))/\wA s.heap (xs.map fun x=>x.2.2) (ds.map (·.2))
  |_,_,_,_,.nil,kv,h=>by
   cases kv
   simp at h;subst h
   exact⟨.nil,.nil⟩
  |_,_,_,_,.cons (k:=k) (c:=c) (cs:=cs) hk r rs,kv,h=>by
   cases kv with
   |cons q kv=>
    rw[bb]at h
    cases e:Az f (k,c) with
    |none=>rw[e]at h;cases h
    |some d=>
     rw[e]at h
     cases e2:cs.mapM (Az f) with
     |none=>rw[e2]at h;cases h
     |some ds=>
      rw[e2]at h;cases h
      obtain⟨z1,z2⟩:=asN I (g:=g) hf rs kv e2
      unfold Az at e
      split at e
      · rename_i d1 d2 h1 h2
        cases e
        obtain⟨qa,qt,qb⟩:=q
        refine⟨.cons ?_ z1,.cons (hf _ _ _ _ r h2 qb) z2⟩
        cases k with
        |tup ks=>
         have hk:ks.mapM ckey=some _:=hk
         cases e5:ks.mapM aob with
         |none=>simp only[toK,e5]at h1;cases h1
         |some d5=>
          simp only[toK,e5]at h1;cases h1
          obtain⟨its,rv,⟨o,ho,hc,n,hd⟩,_⟩:=I.tuple (SqT.of qt)
          exact .tup ho hc hd (aq3 hk e5 (by simpa using rv))
        |_=>cases hk
      · cases e
theorem Ug(I:Inv X pins σ H s)(Rs:RS X.K X.mg ι S H):∀(n:Nat)(x:CV)(v:V)(d:PyData)(u:Value),bx X.K X.mg ι H x v->toR S n x=some d->RelV v u->RdS s.heap u d
 |0,_,_,_,_,_,h,_=>by cases h
 |n+1,x,v,d,u,r,h,rl=>by
  unfold toR at h
  cases r with
  |non=>cases h;cases rl;exact .non
  |bl b=>cases h;cases rl;exact .bl b
  |int b=>cases h;obtain⟨t,rfl⟩:=rl;exact .int b t
  |str b=>cases h;obtain⟨t,rfl⟩:=rl;exact .str b t
  |tup hq rr=>
   dsimp only at h
   cases rl
   cases e:ip (toR S n) _ with
   |none=>rw[e]at h;cases h
   |some ds=>
    rw[e]at h;cases h
    obtain⟨its,rv,⟨o,ho,hc,n',hd⟩,_⟩:=I.tuple hq
    exact .tup ho hc hd (Rz (Ug I Rs n) rr e (by simpa using rv))
  |ref hq=>
   dsimp only at h
   cases rl
   split at h
   ·rename_i xs ex
    obtain⟨vs,h1,r1⟩:=Rs.obj _ _ _ hq ex
    cases e:ip (toR S n) xs with
    |none=>rw[e]at h;cases h
    |some ds=>
     rw[e]at h;cases h
     obtain⟨its,rv,⟨o,n',ho,hc,_,hd⟩,_⟩:=I.list (SqL.of h1)
     exact .lst ho hc hd (Rz (Ug I Rs n) r1 e (by simpa using rv))
   ·rename_i kvs ex
    cases e:ip (Az (toR S n)) kvs with
    |none=>rw[e]at h;cases h
    |some ds=>
     rw[e]at h;cases h
     rcases Rs.obj _ _ _ hq ex with⟨ps,h1,r1⟩|⟨_,ps,h1,r1⟩
     ·obtain⟨z,sm,vs,kv,o,es,ep,hg,hx,hd,_,pr,_⟩:=I.hok _ _ h1
      obtain⟨k1,k2⟩:=aoz (Ug I Rs n) r1 kv pr e
      exact .dic hg hx.1 hd sm k1 k2
     ·obtain⟨z,sm,xs,kv,o,es,ep,hg,hx,hd,ee,_⟩:=I.hok _ _ h1
      obtain⟨k1,k2⟩:=asN I (g:=fun _=>0) (Ug I Rs n) r1 kv e
      refine .dic hg hx.1 hd sm ?_ ?_
      ·rw[ee,bp];exact k1
      ·rw[ee,bp];exact k2
   ·rename_i kvs ex
    cases e:ip (Az (toR S n)) kvs with
    |none=>rw[e]at h;cases h
    |some ds=>
     rw[e]at h;cases h
     obtain⟨_,ps,h1,r1⟩:=Rs.obj _ _ _ hq ex
     obtain⟨_,z,sm,vs,kv,o,es,ep,hg,hx,hd,_,pr,_⟩:=I.hok _ _ h1
     obtain⟨k1,k2⟩:=aoz (Ug I Rs n) r1 kv pr e
     exact .dic hg hx.1 hd sm k1 k2
   ·cases h
  |_=>cases h
end
section
variable {X:Cx}{W:WX}{a b c e o:Expr}{es:List Expr}{ma mb me mo:Rho->M CV}{ms:Rho->M (List CV)}{pos apos p cpos:Pos}{k:Nat}
def WT:List CV->M CV:=fun xs S=>match xs with
 | [.tup ys]=>(match toR S 40 (.tup ys) with
  |some d=>if d.showable&&decide (d.depth<=60)&&decide (d.shown.length<=sizeLine) then .ok (.str d.shown) S else .bad
  |none=>.bad)
 | [.ref n]=>(match toR S 40 (.ref n) with
  |some d=>if d.showable&&decide (d.depth<=60)&&decide (d.shown.length<=sizeLine) then .ok (.str d.shown) S else .bad
  |none=>.bad)
 |_=>.bad
theorem DG(hr:RmG k X.A):oH X W (.builtin "repr") WT:=by
 intro pins s σ H ι S xs vs us Q I rv Rs rx fi
 have go:∀{x:CV}{v:V}{p:Addr},bx X.K X.mg ι H x v->v=.ref p->Fin X.K X.mg ι H (bx X.K X.mg) (match toR S 40 x with
  |some d=>if d.showable&&decide (d.depth<=60)&&decide (d.shown.length<=sizeLine) then .ok (.str d.shown) S else .bad
  |none=>.bad) Q (fun c d H'=>W c d σ H')->wpAny (model X.prog X.w) X.A (call (.builtin "repr") [.ref p]) (EP X pins σ Q) X.xe s:=fun {x v p} r ev f=>by
  subst ev
  split at f
  ·rename_i d hd
   split at f
   ·rename_i hc
    simp only[aB,decide_eq_true_eq]at hc
    have rd:=Ug I Rs 40 _ _ _ _ r hd (show la (.ref p) (.ref p) from rfl)
    have hu:X.A.units+(d.depth+1)<cLine:=by have:=hr.rm.units;omega
    refine rd.repr hc.1.1 hc.2 hr.gd hu fun h' u tk hk=>?_
    exact⟨.str d.shown,H,I.kept (h':=h') (t':=tk) hk,⟨u,rfl⟩,Fin.ret Rs f (.str _)⟩
   ·exact f.elim
  ·exact f.elim
 unfold WT at fi
 split at fi
 ·obtain⟨v,rfl,r⟩:=one_of rx
  cases rv with
  |cons r1 r2=>
   cases r2
   cases r with
   |tup hq rr=>cases r1;exact go (.tup hq rr) rfl fi
 ·obtain⟨v,rfl,r⟩:=one_of rx
  cases rv with
  |cons r1 r2=>
   cases r2
   cases r with
   |ref hq=>cases r1;exact go (.ref hq) rfl fi
 ·exact fi.elim
def aee:CV->M CV:=fun x S=>match x with
 |.str y=>if y.length<=sizeLine then .ok (.str y) S else .bad
 |.int i=>if i.natAbs.log2<1920 then .ok (.str (toString i)) S else .bad
 |_=>.bad
theorem T7(he:GE X W e me):GE X W (.FormattedValue e (-1) none pos) (mUn aee me):=PE.imp (pe_fmt he) fun σ H Q ⟨ι,ρ,S,Rs,rs,fi⟩=>
 ⟨ι,ρ,S,Rs,rs,(Fin.bnd (R:=bx X.K X.mg) fi).imp fun v H1 ⟨ι1,S1,x,n1,rx,f1⟩=>by
  unfold aee at f1
  cases rx with
  |str y=>
   dsimp only at f1
   split at f1
   ·rename_i h;exact .inl ⟨y,rfl,h,Fin.ret n1.rs f1 (.str _)⟩
   ·exact f1.elim
  |int i=>
   dsimp only at f1
   split at f1
   ·rename_i h;exact .inr ⟨i,rfl,h,Fin.ret n1.rs f1 (.str _)⟩
   ·exact f1.elim
  |_=>exact f1.elim⟩
/-- the parts, one behind the other -/
inductive GJ(X:Cx)(W:WX):List Expr->List (Rho->M CV)->Prop where
 |nil:GJ X W [] []
 |cons {e:Expr} {m:Rho->M CV} {es:List Expr} {msl:List (Rho->M CV)} (h:GE X W e m) (r:GJ X W es msl):GJ X W (e::es) (m::msl)
def mJs:List (Rho->M CV)->Str->Rho->M Str
 | [],acc,_=>ret acc
 |m::msl,acc,ρ=>bnd (m ρ) fun x=>match x with
  |.str y=>if (acc++y).length<=sizeLine then mJs msl (acc++y) ρ else bad
  |_=>bad
def Kr(msl:List (Rho->M CV)):Rho->M CV:=fun ρ=>bnd (mJs msl Str.empty ρ) fun y=>ret (.str y)
theorem GJ.pj{es:List Expr}{msl:List (Rho->M CV)}(h:GJ X W es msl):∃ts,PJ X es ts/\∀acc σ H Q,(∃ι ρ S,RS X.K X.mg ι S H/\d8 X.K X.mg ι H ρ σ/\Fin X.K X.mg ι H (fun _ _ a b=>a=b) (mJs msl acc ρ S) Q (fun c d H'=>W c d σ H'))->tJs ts acc σ H Q:=by
 induction h with
 |nil=>exact⟨[],.nil,fun acc σ H Q ⟨ι,ρ,S,Rs,rs,fi⟩=>Fin.ret Rs fi rfl⟩
 |cons h r ih=>
  obtain⟨ts,hp,k⟩:=ih
  refine⟨_,.cons h hp,fun acc σ H Q ⟨ι,ρ,S,Rs,rs,fi⟩=>?_⟩
  refine⟨ι,ρ,S,Rs,rs,(Fin.bnd (R:=bx X.K X.mg) fi).imp fun v H1 ⟨ι1,S1,x,n1,rx,f1⟩=>?_⟩
  cases rx with
  |str y=>
   dsimp only at f1
   split at f1
   ·rename_i hl
    exact⟨y,rfl,hl,k _ σ H1 Q ⟨ι1,ρ,S1,n1.rs,n1.cY Rs rs,f1⟩⟩
   ·exact f1.elim
  |_=>exact f1.elim
theorem Ro{v1 v2:Expr}{rest:List Expr}{msl:List (Rho->M CV)}(h:GJ X W (v1::v2::rest) msl):GE X W (.JoinedStr (v1::v2::rest) pos) (Kr msl):=by
 obtain⟨ts,hp,k⟩:=h.pj
 exact PE.imp (pe_joined hp) fun σ H Q ⟨ι,ρ,S,Rs,rs,fi⟩=>k _ σ H _ ⟨ι,ρ,S,Rs,rs,(Fin.bnd (R:=fun _ _ a b=>a=b) fi).imp fun y H1 ⟨ι1,S1,y',n1,ey,f1⟩=>by
  subst ey
  exact Fin.ret n1.rs f1 (.str _)⟩
theorem afs(h:GE X W e me):GE X W (.JoinedStr [e] pos) me:=pe_joined1 h
def tyB(S:Sto):CV->Option String
 |.str _=>some "str"
 |.ref n=>match S[n]? with
  |some (.lst _)=>some "list"
  |some (.dic _)=>some "dict"
  |_=>none
 |_=>none
theorem auD{K:ae}{mg:Str->Option Value}{ι:List Addr}{H:Hp}{S:Sto}{x:CV}{v:V}{T:String}(Rs:RS K mg ι S H)(r:bx K mg ι H x v)(h:tyB S x=some T):tyV K T v H:=by
 unfold tyB at h
 cases r with
 |str y=>cases h;exact rfl
 |ref hq=>
  dsimp only at h
  split at h
  ·rename_i xs ex
   cases h
   obtain⟨vs,h1,_⟩:=Rs.obj _ _ _ hq ex
   exact .inl ⟨rfl,vs,SqL.of h1⟩
  ·rename_i kvs ex
   cases h
   rcases Rs.obj _ _ _ hq ex with⟨ps,h1,_⟩|⟨_,ps,h1,_⟩
   ·exact .inr (.inr (.inl ⟨rfl,.inl ⟨_,h1⟩⟩))
   ·exact .inr (.inr (.inl ⟨rfl,.inr ⟨_,h1⟩⟩))
  ·cases h
 |_=>cases h
def MtG(X:Cx)(W:WX)(id:String)(g:CV->List CV->M CV):Prop:=
 ∀(pins:List (Addr×Obj))(s:Shared)(σ:cz)(H:Hp)(ι:List Addr)(S:Sto)(x:CV)(xs:List CV)(v:V)(vs:List V)(a:Value)(us:List Value)(Q:VK),Inv X pins σ H s->RelV v a->Vals vs us->RS X.K X.mg ι S H->bx X.K X.mg ι H x v->aQ X.K X.mg ι H xs vs->
  Fin X.K X.mg ι H (bx X.K X.mg) (g x xs S) Q (fun c d H'=>W c d σ H')->wpAny (model X.prog X.w) X.A (call (.builtin id) (a::us)) (EP X pins σ Q) X.xe s
theorem agW{id:String}{r:V->List V->Hp->VK->Prop}{g:CV->List CV->M CV}(h:MtR X id r)(hg:∀(ι:List Addr)(S:Sto)(H:Hp)(x:CV)(xs:List CV)(v:V)(vs:List V)(Q:VK)(B:XK),RS X.K X.mg ι S H->bx X.K X.mg ι H x v->aQ X.K X.mg ι H xs vs->Fin X.K X.mg ι H (bx X.K X.mg) (g x xs S) Q B->r v vs H Q):MtG X W id g:=
 fun pins s σ H ι S x xs v vs a us Q I rv rvs Rs rx rxs fi=>h pins s σ H v vs a us Q I rv rvs (hg ι S H x xs v vs Q _ Rs rx rxs fi)
def mBM(T:String)(g:CV->List CV->M CV)(mo:Rho->M CV)(ms:Rho->M (List CV)):Rho->M CV:=fun ρ=>bnd (mo ρ) fun x S=>if tyB S x=some T then bnd (ms ρ) (g x) S else .bad
theorem Am{T id:String}{name:Str}{g:CV->List CV->M CV}(pa:PlainAttrs T)(slot:Slot T name id)(hty:typeOf (.builtin id)=pure (.type "method_descriptor"))(hm:MtG X W id g)(ho:GE X W o mo)(ha:GA X W (e::es) ms)
    (hbase:attributeBase o name X.env (eval o X.env)=eval o X.env:=by rfl)
    (hfew:((backTo cpos (starEach (e::es) X.env)).all (fun x=>!x.1)&&(backToKw cpos (keywordEach [] X.env)).all (fun x=>x.1.isSome)&&decide ((e::es).length+([]:List Keyword).length+(if ([]:List Keyword).isEmpty then 0 else 1)<30))=true:=by rfl)
    (hline:(apos.endLine==cpos.line)=true:=by rfl)(hs:starEach (e::es) X.env=(false,eval e X.env)::starEach es X.env:=by rfl)(hplain:(backTo cpos (starEach es X.env)).any (·.1)=false:=by rfl):
    GE X W (.Call (.Attribute o name apos) (e::es) [] cpos) (mBM T g mo ms):=by
  refine⟨fun pins s σ H Q I ⟨ι,ρ,S,Rs,rs,fi⟩=>?_⟩
  refine wpAny_Call_method_late hbase hfew hline rfl (thn (ho.run pins s σ H _ I ⟨ι,ρ,S,Rs,rs,Fin.bnd (R:=bx X.K X.mg) fi⟩) fun v' s1 ⟨v,H1,I1,r1,ι1,S1,x,n1,rx,f1⟩=>?_)
  split at f1
  · rename_i hT
    obtain⟨h1,h2⟩:=tyV_is I1 r1 (auD n1.rs rx hT)
    refine⟨T,id,pa,slot,hty,h1,h2,?_⟩
    have hA:=ha.run cpos pins s1 σ H1 _ I1 ⟨ι1,ρ,S1,n1.rs,n1.cY Rs rs,Fin.bnd (R:=aQ X.K X.mg) f1⟩
    rw[hs]at hA ⊢
    refine Calls.callWith_builtin (by show(false||(backTo cpos (starEach es X.env)).any (·.1))=false;rw[hplain]<;>rfl) (Calls.evalArgs_plain ?_)
    exact thn hA fun us s2 ⟨vs,H2,I2,r2,ι2,S2,xs,n2,rxs,f2⟩=>hm pins s2 σ H2 ι2 S2 x xs v vs v' us Q I2 r1 r2 n2.rs (n2.rep n1.rs rx) rxs f2
  · exact f1.elim
def rB:CV->List CV->M CV:=fun x xs S=>match x,xs with
 |.ref n,[y]=>match S[n]? with
  |some (.lst ys)=>if ys.length<sizeLine then .ok .non (S.set n (.lst (ys++[y]))) else .bad
  |_=>.bad
 |_,_=>.bad
theorem yh:MtG X W "list.append" rB:=agW mt_append fun ι S H x xs v vs Q B Rs rx rxs fi=>by
 unfold rB at fi
 split at fi
 ·rename_i n y
  obtain⟨u,rfl,ru⟩:=one_of rxs
  cases rx with
  |ref hq=>
   split at fi
   ·rename_i ys ey
    obtain⟨us,h1,r1⟩:=Rs.obj _ _ _ hq ey
    split at fi
    ·rename_i hl
     refine⟨_,us,u,rfl,rfl,h1,by rw[<-r1.length];exact hl,?_⟩
     have n3:Nx X.K X.mg ι H (S.set n (.lst (ys++[y]))) ι (upd H _ (.lst (us++[u]))):=Rs.put hq (fun _ tk'=>⟨_,upd_same,by
      have q:=(r1.append (.cons ru .nil)).mono (H':=upd H _ (.lst (us++[u]))) tk' []
      rw[aT]at q
      exact q⟩) (fun gs z=>nomatch z) h1 (fun z=>z)
     exact fi _ _ _ n3 .non
    ·exact fi.elim
   ·exact fi.elim
 ·exact fi.elim
def zP:CV->List CV->M CV:=fun x xs S=>match x,xs with
 |.str a,[.str b]=>if (b.length==0)=false/\a.length+2<=sizeLine then .ok (.ref S.length) (S++[.lst ((Txt.split a b).map CV.str)]) else .bad
 |_,_=>.bad
theorem Jx:MtG X W "str.split" zP:=agW mt_split fun ι S H x xs v vs Q B Rs rx rxs fi=>by
 unfold zP at fi
 split at fi
 ·obtain⟨u,rfl,ru⟩:=one_of rxs
  cases rx
  cases ru
  split at fi
  ·rename_i h
   refine⟨_,_,rfl,rfl,h.1,h.2,fun p hp=>?_⟩
   obtain⟨n2,r2⟩:=lJ Rs (aQ.strs _) hp
   exact fi _ _ _ n2 r2
  ·exact fi.elim
 ·exact fi.elim
/-- the texts of a list of texts -/
def strsOf:List CV->Option (List Str)
 | []=>some []
 |.str y::r=>(strsOf r).map (y:: ·)
 |_::_=>none
theorem Bu:∀{xs:List CV}{ys:List Str},strsOf xs=some ys->xs=ys.map CV.str
 | [],ys,h=>by cases h;rfl
 |x::r,ys,h=>by
  cases x with
  |str y=>
   unfold strsOf at h
   cases e:strsOf r with
   |none=>rw[e]at h;cases h
   |some zs=>
    rw[e]at h
    cases h
    rw[Bu e];rfl
  |_=>cases h
theorem aQ.Xu{K:ae}{mg:Str->Option Value}{ι:List Addr}{H:Hp}:∀{ys:List Str}{vs:List V},aQ K mg ι H (ys.map CV.str) vs->vs=ys.map V.str
 | [],_,h=>by cases h;rfl
 |y::ys,_,h=>by
  cases h with
  |cons r rs=>cases r;rw[aQ.Xu rs];rfl
def afA:CV->List CV->M CV:=fun x xs S=>match x,xs with
 |.str a,[.ref n]=>match S[n]? with
  |some (.lst zs)=>match strsOf zs with
   |some ys=>if (ys.map (·.length)).sum+ys.length*a.length<=16777216 then .ok (.str (Txt.join a ys)) S else .bad
   |none=>.bad
  |_=>.bad
 |_,_=>.bad
def zH:Rho->M CV:=fun _ S=>.ok (.ref S.length) (S++[.dic []])
theorem BJ:GE X W (.Dict [] [] pos) zH:=PE.imp pe_dnewK fun σ H Q ⟨ι,ρ,S,Rs,rs,fi⟩=>fun p hp=>by
 have n:Nx X.K X.mg ι H (S++[.dic []]) (ι++[p]) (upd H p (.dK [])):=Rs.new hp (.inl ⟨[],upd_same,.nil⟩)
 exact fi _ _ _ n (.ref (by rw[<-Rs.len,aL (ba _),fv];rfl))
end
def sel{α:Type}(ix:List Nat)(l:List α):List α:=ix.filterMap fun i=>l[i]?
theorem Vals.sel{vs:List V}{us:List Value}(r:Vals vs us):∀ix:List Nat,Vals (MW.sel ix vs) (MW.sel ix us)
 | []=>.nil
 |i::ix=>by
  unfold MW.sel
  rw[bc,bc]
  cases e:vs[i]? with
  |none=>
   rw[r.none_of e]
   exact Vals.sel r ix
  |some v=>
   obtain⟨u,hu,rv⟩:=r.get e
   rw[hu]
   exact .cons rv (Vals.sel r ix)
theorem aQ.none_of{K:ae}{mg:Str->Option Value}{ι:List Addr}{H:Hp}{cs:List CV}{vs:List V}{i:Nat}(r:aQ K mg ι H cs vs)(e:cs[i]?=none):vs[i]?=none:=by
 rw[gZ]at e ⊢
 rw[<-r.length];exact e
theorem aQ.sel{K:ae}{mg:Str->Option Value}{ι:List Addr}{H:Hp}{cs:List CV}{vs:List V}(r:aQ K mg ι H cs vs):∀ix:List Nat,aQ K mg ι H (MW.sel ix cs) (MW.sel ix vs)
 | []=>.nil
 |i::ix=>by
  unfold MW.sel
  rw[bc,bc]
  cases e:cs[i]? with
  |none=>
   rw[r.none_of e]
   exact aQ.sel r ix
  |some v=>
   obtain⟨u,hu,rv⟩:=r.get e
   rw[hu]
   exact .cons rv (aQ.sel r ix)
structure JR(P:Program)(w:World)(K:ae)(mg:Str->Option Value)(base:Heap)(k:Nat)(f:Addr)(n n0:Nat)(ks:List Str)(ix:List Nat)(m:List CV->M CV):Prop where
 ex:∃fd ps,ps.length=n/\FnD P w K mg base k f fd ps m/\∀(s:Shared)(us ws:List Value),us.length=n0->ws.length=ks.length->BindsTo s fd ⟨us,ks.zip ws⟩ (ps.zip (sel ix (us++ws)))
 kp:ik K (.ref f)=true
def abO(n n0 nk:Nat)(ix:List Nat)(m:List CV->M CV)(cs ds:List CV):M CV:=if cs.length=n0/\ds.length=nk then app n m (sel ix (cs++ds)) else bad
abbrev GKw(X:Cx)(W:WX)(kws:List Keyword)(m:Rho->M (List CV)):Prop:=PK X kws (tDA X.K X.mg W m)
section
variable {X:Cx}{W:WX}{e o:Expr}{es:List Expr}{kws:List Keyword}{ma mo me:Rho->M CV}{ms mk:Rho->M (List CV)}{pos apos p kpos:Pos}{k n n0:Nat}{f C:Addr}{m:List CV->M CV}{x:Str}{ks:List Str}{ix:List Nat}{nm:Option Str}
theorem PK.imp{t t':TA}(h:PK X kws t)(k:∀σ H Q,t' σ H Q->t σ H Q):PK X kws t':=⟨fun pos pins s σ H Q I q=>h.run pos pins s σ H Q I (k σ H Q q)⟩
theorem anu:GKw X W [] aN:=PK.imp pk_nil fun σ H Q ⟨ι,ρ,S,Rs,rs,fi⟩=>Fin.ret Rs fi .nil
theorem Wf(ha:GE X W e me)(hr:GKw X W kws ms):GKw X W (⟨nm,e,kpos⟩::kws) (au me ms):=PK.imp (pk_cons ha hr) fun σ H Q ⟨ι,ρ,S,Rs,rs,fi⟩=>by
 refine⟨ι,ρ,S,Rs,rs,(Fin.bnd (R:=bx X.K X.mg) fi).imp fun v H1 ⟨ι1,S1,x,n1,rx,f1⟩=>?_⟩
 refine⟨ι1,ρ,S1,n1.rs,n1.cY Rs rs,(Fin.bnd (R:=aQ X.K X.mg) f1).imp fun vs H2 ⟨ι2,S2,xs,n2,rxs,f2⟩=>?_⟩
 exact Fin.ret n2.rs f2 (.cons (n2.rep n1.rs rx) rxs)
/-- the call itself, under A' -/
theorem ahm{A':Around}{pins:List (Addr×Obj)}{σ:cz}{H:Hp}{s:Shared}{Q:VK}{us ws:List Value}{vs zs:List V}{cs ds:List CV}{ι:List Addr}{S:Sto}(F:JR X.prog X.w X.K X.mg X.base k f n n0 ks ix m)(hr:RmG k A')(hfr:Env0 X.prog X.w X.K X.mg X.base A' X.stack s H)(tk:Takes X W)
    (I:Inv X pins σ H s)(r:Vals vs us)(rz:Vals zs ws)(Rs:RS X.K X.mg ι S H)(rc:aQ X.K X.mg ι H cs vs)(rd:aQ X.K X.mg ι H ds zs)(h:Fin X.K X.mg ι H (bx X.K X.mg) (abO n n0 ks.length ix m cs ds S) Q (fun c d H'=>W c d σ H')):
    codeAny (model X.prog X.w) A' (.call (.ref f) ⟨us,ks.zip ws⟩) (Back X pins σ Q) s:=by
  obtain⟨fd,ps,hl,F',hb⟩:=F.ex
  subst hl
  unfold abO at h
  split at h
  · rename_i hc
    exact Ij F' hr hfr (fun _=>hb s us ws (by rw[<-r.length, <-rc.length];exact hc.1) (by rw[<-rz.length, <-rd.length];exact hc.2)) tk I (Vals.sel (r.append rz) ix) Rs (aQ.sel (rc.append rd) ix) h
  · exact h.elim
theorem amG{A':Around}{pins:List (Addr×Obj)}{σ:cz}{s:Shared}{Q:VK}{g:Value}{us:List Value}{kw:List (Str×Value)}(h:codeAny (model X.prog X.w) A' (.call g ⟨us,kw⟩) (Back X pins σ Q) s):wpAny (model X.prog X.w) A' (call g us kw) (EP X pins σ Q) X.xe s:=
 wpAny_call (codeAny_mono h fun r s' hq=>by
  cases r with
  |error e=>exact hq
  |ok fl=>cases fl<;>exact hq)
def Pb(c:Str)(n nk:Nat)(ix:List Nat)(m:List CV->M CV):List CV->M CV:=fun ds S=>(abO n 1 nk ix m [.ref S.length] ds (S++[.ins c []])).bnd fun r S'=>match r with
 |.non=>.ok (.ref S.length) S'
 |_=>.bad
/-- C(k = v, ..) -/
theorem aft{c:Str}(Mc:MkC X.K X.mg c C f)(F:JR X.prog X.w X.K X.mg X.base k f n 1 ks ix m)(hr:RmG (k+1) X.A)(tk:Takes X W)(hkw:GKw X W kws mk)(hall:(backToKw pos (keywordEach kws X.env)).all (·.1.isSome)=true:=by rfl)(hks:(backToKw pos (keywordEach kws X.env)).filterMap (·.1)=ks:=by rfl)
    (hpl:((backTo pos (starEach [] X.env)).any (·.1)||(backToKw pos (keywordEach kws X.env)).any (·.1.isNone))=false:=by rfl)(hg:Gl X c:=by rfl)(hdb:(c==("__debug__":Str))=false:=by decide):GE X W (.Call (.Name c p) [] kws pos) (fun ρ=>bnd (mk ρ) (Pb c n ks.length ix m)):=by
  refine⟨fun pins s σ H Q I ⟨ι,ρ,S,Rs,rs,fi⟩=>?_⟩
  refine wpAny_Call_Name_kw (ld_glob I hg Mc.gl ?_ hdb)
  refine kr (h₀:=X.base) I.ok.mod.kin Mc.made.kp hall (thn (hkw.run pos pins s σ H _ I ⟨ι,ρ,S,Rs,rs,Fin.bnd (R:=aQ X.K X.mg) fi⟩) fun ws s1 ⟨zs,H1,I1,rz,ι1,S1,ds,n1,rd,f1⟩=>⟨I1.kIn,?_⟩) hpl
  rw[hks]
  have I2:=Inv.made (C:=C) I1
  obtain⟨nx,hat⟩:=ahP (c:=c) n1.rs Mc.gl (I1.hok.fresh (gI s1.heap.objs.size)) (I1.hok.fresh (ba _)) (eA (jv _))
  have f2:Fin X.K X.mg (ι1++[s1.heap.objs.size+1]) _ (bx X.K X.mg) (abO n 1 ks.length ix m [.ref S1.length] ds (S1++[.ins c []])) (fun v H2=>v=.non/\Q (.ref (s1.heap.objs.size+1)) H2) (fun c d H'=>W c d σ H'):=(Fin.bnd (R:=bx X.K X.mg) (Fin.after nx f1)).imp fun v H2 ⟨ι2,S2,d,n2,rd',f3⟩=>by
    cases rd' with
    |non=>
     refine⟨rfl,Fin.ret n2.rs f3 (.ref ?_)⟩
     obtain⟨mm,e,_⟩:=n2.ext
     rw[e,az (aa.mp hat).1];exact hat
    |_=>exact f3.elim
  have run:=ahm (pins:=pins) (us:=[.ref (s1.heap.objs.size+1)]) (vs:=[.ref (s1.heap.objs.size+1)]) F (hr.make C [] (ks.zip ws)) (I2.env0.make C [] (ks.zip ws)) tk I2 (.cons rfl .nil) rz nx.rs (.cons (.ref hat) .nil) (nx.reps n1.rs rd) f2
  refine wpAny_call (make_map (f:=f) I1.kIn Mc.made.makes Mc.made.init (beq_iff_eq.mp Mc.made.fn) (codeAny_mono run fun r s' hq'=>?_))
  cases r with
  |error e=>exact hq'
  |ok fl=>
   cases fl with
   |ret u=>
    obtain⟨v,H',I3,rv,ev,q3⟩:=hq'
    subst ev
    exact⟨rv,⟨V.ref (s1.heap.objs.size+1),H',I3,rfl,q3⟩⟩
   |next=>exact cm hq'
   |brk=>exact cm hq'
   |cont=>exact cm hq'
/-- C.m(k = v, ..), m a classmethod or a static method of the class c -/
def aqw(c:Str)(g:List CV->M CV)(mo:Rho->M CV)(mk:Rho->M (List CV)):Rho->M CV:=fun ρ=>bnd (mo ρ) fun x S=>match x with
 |.cls d=>if d=c then bnd (mk ρ) g S else .bad
 |_=>.bad
theorem alu{pl:Sem Bool}{c name:Str}{mc:Value}{pp:Addr}(hC:X.mg c=some (.ref C))(r:CRead X.K C mc)(h:gn X.K (.ref C) mc name=some (.get (.builtin "staticmethod.__get__") (.ref pp) .none (.ref C)))(hp:∃rest,gk X.K pp "staticmethod"=some (.ref f::rest))(F:JR X.prog X.w X.K X.mg X.base k f n 0 ks ix m)(hr:RmG k X.A)(tk:Takes X W)(ho:GE X W o mo)(hkw:GKw X W kws mk)(hall:(backToKw pos (keywordEach kws X.env)).all (·.1.isSome)=true:=by rfl)
    (hks:(backToKw pos (keywordEach kws X.env)).filterMap (·.1)=ks:=by rfl)(hpl:((backTo pos (starEach [] X.env)).any (·.1)||(backToKw pos (keywordEach kws X.env)).any (·.1.isNone))=false:=by rfl)
    (hev:eval (.Call (.Attribute o name apos) [] kws pos) X.env=(do
      let ov<-eval o X.env
      standAt apos.atName
      let (f,first)<-holding [ov] (getMethod ov name pl)
      callWith pos f first (backTo pos (starEach [] X.env)) (backToKw pos (keywordEach kws X.env))):=by rfl):GE X W (.Call (.Attribute o name apos) [] kws pos) (aqw c (abO n 0 ks.length ix m []) mo mk):=by
  refine⟨fun pins s σ H Q I ⟨ι,ρ,S,Rs,rs,fi⟩=>?_⟩
  refine PySem.W.methodCall_KW (pl:=pl) (thn (ho.run pins s σ H _ I ⟨ι,ρ,S,Rs,rs,Fin.bnd (R:=bx X.K X.mg) fi⟩) fun u s1 ⟨v,H1,I1,rv,ι1,S1,x,n1,rx,f1⟩=>?_) hev
  cases rx with
  | @cls d D hD=>
    cases rv
    dsimp only at f1
    split at f1
    · rename_i hdc
      subst hdc
      have f1':=Fin.bnd (R:=aQ X.K X.mg) f1
      rw[hC]at hD;cases hD
      obtain⟨rest,hp⟩:=hp
      refine PySem.W.method_cls I1.kIn r.ga (PySem.W.cls_bind I1.kIn r.rd h (wpAny_call (PySem.W.sm_get (s:={s1 with toks:=s1.toks+1}) I1.kIn hp (PySem.W.handed_on rfl ?_))))
      have I2:=I1.tok (s1.toks+1)
      refine kr (first:=[]) (h₀:=X.base) I.ok.mod.kin F.kp hall (thn (hkw.run pos pins _ σ H1 _ I2 ⟨ι1,ρ,S1,n1.rs,n1.cY Rs rs,f1'⟩) fun ws s3 ⟨zs,H3,I3,rz,ι3,S3,ds,n3,rd,f3⟩=>⟨I3.kIn,?_⟩) hpl
      rw[hks]
      exact amG (ahm (us:=[]) (vs:=[]) F hr I3.env0 tk I3 .nil rz n3.rs .nil rd f3)
    · exact f1.elim
  |_=>exact f1.elim
/-- the classes that may be made: their __init__ and its number of parameters -/
def au7(tbl:List (Str×Nat×(List CV->M CV))):CV->Option (List CV->M CV)
 |.cls c=>(tbl.lookup c).map fun q=>yQ c q.1 q.2
 |_=>none
def anH(i:Nat)(tbl:List (Str×Nat×(List CV->M CV)))(ms:Rho->M (List CV)):Rho->M CV:=fun ρ=>bnd (aK i ρ) fun x S=>match au7 tbl x with
 |some g=>bnd (ms ρ) g S
 |none=>.bad
structure auX(P:Program)(w:World)(K:ae)(mg:Str->Option Value)(base:Heap)(k:Nat)(c:Str)(n:Nat)(m:List CV->M CV):Prop where
 ex:∃C f j,MkC K mg c C f/\Callee P w K mg base j f n m/\j+1<=k
end
/-- what is said of the defs that make lambdas: name, code object, table -/
abbrev Tbs:=List (Str×Addr×Addr)
def Tbs.sto(ts:Tbs):Sto:=ts.map fun p=>.tab p.1
structure aok(K:ae)(mg:Str->Option Value)(ts:Tbs):Prop where
 nd:(ts.map (·.2.2)).Nodup
 no:∀p∈ts,K.lookup p.2.2=none
 tn:∀p∈ts,TabN K mg p.1 p.2.2
 hd:∀p∈ts,c6 K p.2.1 p.2.2=true
theorem aqs{P:Program}{w:World}{K:ae}{mg mb:Str->Option Value}{k:Nat}{fa a:Addr}{fd:FuncData}{x:Str}{m:List CV->M CV}{s:Shared}{vs:List Value}{ns:List Int}{ts:Tbs}
    (inK:K.In s.heap)(glob:s.heap.Ns mainGlobals mg)(blt:s.heap.Ns builtinsNs mb)(ayk:∀x:Str,x≠"__name__"->mb x=bootBuiltins x)(afI:s.heap.NoLimit)(noGen:s.gens=#[])
    (bmod:∃(bm:Addr) (ob:Obj),mg "__builtins__"=some (.ref bm)/\bm≠builtinsNs/\s.heap.get? bm=some ob/\ob.cls=.type "module"/\ob.dict=some builtinsNs/\ob.data=.plain)
    (tbs:aok K mg ts)(empty:∀p∈ts,s.heap.get? p.2.2=some {cls:=.none,data:=.fields #[]})
    (script:s.heap.get? a=some {cls:=.type "list",data:=.seq vs.toArray})(hints:IntsAre vs ns)(few:ns.length<=sizeLine)(room:Room k callerA)
    (F:∀base:Heap,K.In base->base.Ns mainGlobals mg->(∀p∈ts,fc base mg p.2.1 p.2.2)->FnD P w K mg base k fa fd [x] m)(bind:∀(s:Shared)(u:Value),BindsTo s fd ⟨[u],[]⟩ [(x,u)])
    (good:∃S',m [.scr ns] ts.sto=.ok (.bl true) S'):
    codeAny (model P w) callerA (.call (.ref fa) ⟨[.ref a],[]⟩) (fun r s'=>r=.ok (.ret (.bool true))/\OldK s.heap s'.heap/\s'.os=s.os/\AllBare s'.gens) s:=by
  -- the abstract heap: the script, unless the text itself holds it, and the tables
  let sc:HO:=.frz {cls:=.type "list",data:=.seq vs.toArray} (.lst (ns.map V.int))
  let H:Hp:=fun b=>if b=a/\K.lookup a=none then some sc else if b∈ts.map (·.2.2) then some (.tbl #[]) else none
  have tabAt:∀{b:Addr},b∈ts.map (·.2.2)->s.heap.get? b=some {cls:=.none,data:=.fields #[]}:=fun {b} hb=>by
    obtain⟨p,hp,e⟩:=aw.mp hb
    rw[<-e];exact empty p hp
  have aNo:a∉ts.map (·.2.2):=fun z=>by
    have q:=tabAt z
    rw[script]at q
    have:=congrArg Obj.data (gc q)
    cases this
  have au0:∀{b:Addr}{u:HO},H b=some u->(b=a/\K.lookup a=none/\u=sc)\/(b∈ts.map (·.2.2)/\u=.tbl #[]):=fun {b u} e=>by
    have e:(if b=a/\K.lookup a=none then some sc else if b∈ts.map (·.2.2) then some (HO.tbl #[]) else none)=some u:=e
    split at e
    · rename_i h;cases e;exact .inl ⟨h.1,h.2,rfl⟩
    · split at e
      · rename_i h;cases e;exact .inr ⟨h,rfl⟩
      · cases e
  have asW:∀{b:Addr},b∈ts.map (·.2.2)->H b=some (.tbl #[]):=fun {b} hb=>by
    show(if b=a/\K.lookup a=none then some sc else if b∈ts.map (·.2.2) then some (HO.tbl #[]) else none)=_
    rw[if_neg (show ¬(b=a/\K.lookup a=none) from fun z=>aNo (z.1▸hb)),if_pos hb]
  have hok:HOk P w H s.heap:=fun b u e=>by
    rcases au0 e with⟨rfl,_,rfl⟩|⟨hb,rfl⟩
    · exact⟨script,by rw[ar];exact few,vs,_,vals_ints hints,script⟩
    · exact tabAt hb
  have free:∀{b:Addr}{o:Obj},s.heap.get? b=some o->((∀l n,o.data≠ .seq l n)/\o.data≠ .fields #[])\/K.lookup b≠none->H b=none:=fun {b o} e h=>by
    cases q:H b with
    |none=>rfl
    |some u=>
     rcases au0 q with⟨rfl,hk,_⟩|⟨hb,_⟩
     · rcases h with h|h
       · rw[script]at e;cases e;exact absurd rfl (h.1 _ _)
       · exact absurd hk h
     · rcases h with h|h
       · rw[tabAt hb]at e;cases e;exact absurd rfl h.2
       · obtain⟨p,hp,ep⟩:=aw.mp hb
         rw[<-ep]at h
         exact absurd (tbs.no p hp) h
  let base:=hidT s.heap H
  have toBase:∀{b:Addr}{o:Obj},s.heap.get? b=some o->H b=none->base.get? b=some o:=fun e n=>hidT_get e n
  have nsB:∀{b:Addr}{m:Str->Option Value},s.heap.Ns b m->base.Ns b m:=fun {b m} ⟨o,es,ep,e,hd,r⟩=>⟨o,es,ep,toBase e (free e (.inl ⟨(fun l n z=>by rw[hd]at z;cases z),(fun z=>by rw[hd]at z;cases z)⟩)),hd,r⟩
  have inB:K.In base:=fun b o e=>toBase (inK b o e) (free (inK b o e) (.inr (by rw[e];exact fun z=>nomatch z)))
  have ayv:Mod K mg base:=⟨inB,nsB glob,⟨mb,nsB blt,ayk⟩,let ⟨mc,h1,h2⟩:=afI;⟨mc,nsB h1,h2⟩⟩
  have ay5:∀p∈ts,fc base mg p.2.1 p.2.2:=fun p hp=>by
    refine⟨kz inB (tbs.hd p hp),?_,fun z=>?_⟩
    · obtain⟨bm,ob,b1,b2,b3,b4,b5,b6⟩:=bmod
      refine⟨bm,ob,b1,b2,fun q=>?_,fun q=>?_,toBase b3 (free b3 (.inl ⟨(fun l n z=>by rw[b6]at z;cases z),(fun z=>by rw[b6]at z;cases z)⟩)),b4,b5,b6⟩
      · obtain⟨o,es,ep,e,hd,_⟩:=glob
        rw[q,e]at b3;cases b3
        rw[hd]at b6;cases b6
      · rw[q,empty p hp]at b3;cases b3;cases b6
    · obtain⟨o,es,ep,e,hd,_⟩:=glob
      rw[z,empty p hp]at e;cases e;cases hd
  have env0:Env0 P w K mg base callerA [] s H:=⟨rfl,ayv,fun b o e=>of_hidT e,Nat.le_of_eq (hidT_size _ _),trivial,(fun b hb=>nomatch hb),hok,.of_eq noGen⟩
  have rs:RS K mg (ts.map (·.2.2)) ts.sto H:=by
    refine⟨by unfold Tbs.sto;rw[ar,ar],tbs.nd,fun n b o e1 e2=>?_⟩
    unfold Tbs.sto at e2
    rw[bu]at e1 e2
    cases q:ts[n]? with
    |none=>rw[q]at e1;cases e1
    |some p=>
     rw[q]at e1 e2
     cases e1;cases e2
     have hp:=bw q
     exact⟨tbs.tn p hp,LamX.TabS.nil (asW (aw.mpr ⟨p,hp,rfl⟩))⟩
  have rep:bx K mg (ts.map (·.2.2)) H (.scr ns) (.ref a):=by
    refine .scr ?_
    cases hk:K.lookup a with
    |none=>exact .inl ⟨_,if_pos ⟨rfl,hk⟩⟩
    |some o=>
     have e:=inK a o hk
     rw[script]at e
     cases e
     exact .inr fun H'=>.inr ⟨_,vs.toArray,_,hk,rfl,rfl,rfl,by rw[dj,hints.length];exact few,by simpa using vals_ints hints⟩
  obtain⟨S',hgood⟩:=good
  have prom:spD K mg [x].length m [.ref a] H (fun v H'=>v=.bl true) (fun _ _ _=>False):=by
    refine⟨rfl,ts.map (·.2.2),ts.sto,[.scr ns],rs,.cons rep .nil,?_⟩
    rw[hgood]
    intro v ι' H' n r
    cases r
    rfl
  refine codeAny_mono ((F base inB (nsB glob) ay5).run callerA [] s H ⟨[.ref a],[]⟩ [.ref a] [.ref a] _ _ ⟨room,rfl⟩ env0 (bind s (.ref a)) (.cons rfl .nil) prom) fun r s' h=>?_
  cases r with
  |error e=>
   obtain⟨_,_,_,_,_,_,_,_,_,_,_,_,z⟩:=h
   exact z.elim
  |ok fl=>
   cases fl with
   |next=>exact cm h
   |brk=>exact cm h
   |cont=>exact cm h
   |ret u=>
    obtain⟨v,H',os,bare,un,hok',rv,ev⟩:=h
    subst ev
    obtain rfl:u=Value.bool true:=rv
    have same:∀b o,b∉ts.map (·.2.2)->s.heap.get? b=some o->s'.heap.get? b=some o:=fun b o nb e=>by
        cases q:H b with
        |none=>exact un.keep b o e q (fun z=>nomatch z) (fun z=>nomatch z)
        |some u=>
         rcases au0 q with⟨_,_,rfl⟩|⟨hb,_⟩
         · have q':=un.frzs b _ _ q
           obtain⟨e1,_⟩:=hok b _ q
           obtain⟨e2,_⟩:=hok' b _ q'
           rw[e]at e1
           cases e1
           exact e2
         · exact absurd hb nb
    have more:∀p∈ts,∃l:Array Value,s'.heap.get? p.2.2=some {cls:=.none,data:=.fields l}:=fun p hp=>by
        obtain⟨l,z⟩:=un.tbls p.2.2 #[] (asW (aw.mpr ⟨p,hp,rfl⟩))
        exact⟨_,hok' p.2.2 _ z⟩
    refine⟨rfl,⟨fun b o e=>?_,fun b o e=>?_⟩,os,bare⟩
    · by_cases hb:b∈ts.map (·.2.2)
      · obtain⟨p,hp,ep⟩:=aw.mp hb
        obtain⟨l,hl⟩:=more p hp
        rw[<-ep]at e ⊢
        rw[empty p hp]at e
        cases e
        exact .inr (.inl ⟨((kz inK (tbs.hd p hp)).tab (empty p hp)).isCodeTable,rfl,#[],l,rfl,by rw[kL];exact hl⟩)
      · exact .inl (same b o hb e)
    · by_cases hb:b∈ts.map (·.2.2)
      · obtain⟨p,hp,ep⟩:=aw.mp hb
        obtain⟨l,hl⟩:=more p hp
        rw[<-ep]
        exact⟨_,hl⟩
      · exact⟨o,same b o hb e⟩
def mAp(n:Nat)(m:List CV->M CV)(ms:Rho->M (List CV)):Rho->M CV:=fun ρ=>bnd (ms ρ) (app n m)
def mMk(c:Str)(n:Nat)(m:List CV->M CV)(ms:Rho->M (List CV)):Rho->M CV:=fun ρ=>bnd (ms ρ) (yQ c n m)
def au4(c:Str)(n nk:Nat)(ix:List Nat)(m:List CV->M CV)(mk:Rho->M (List CV)):Rho->M CV:=fun ρ=>bnd (mk ρ) (Pb c n nk ix m)
theorem xH:bootBuiltins "str"=some (.type "str"):=by decide+kernel
theorem pW:bootBuiltins "int"=some (.type "int"):=by decide+kernel
theorem apr:bootBuiltins "bool"=some (.type "bool"):=by decide+kernel
theorem abS:bootBuiltins "list"=some (.type "list"):=by decide+kernel
theorem Bv:bootBuiltins "tuple"=some (.type "tuple"):=by decide+kernel
theorem Fp:bootBuiltins "dict"=some (.type "dict"):=by decide+kernel
theorem qT:bootBuiltins "len"=some (.builtin "len"):=by decide+kernel
theorem ane:bootBuiltins "abs"=some (.builtin "abs"):=by decide+kernel
theorem V2:bootBuiltins "repr"=some (.builtin "repr"):=by decide+kernel
theorem gG:bootBuiltins "isinstance"=some (.builtin "isinstance"):=by decide+kernel
theorem X4:bootBuiltins "all"=some (.builtin "all"):=by decide+kernel
theorem ZP:bootBuiltins "sorted"=some (.builtin "sorted"):=by decide+kernel
/-- a def of the text stands at f -/
structure jH(K:ae)(x qual:Str)(st:Stmt)(f:Addr):Prop where
 ex:∃fd,Fun K x qual st f fd
section
variable {P:Program}{w:World}{K:ae}{mg:Str->Option Value}{base:Heap}{x qual:Str}{st:Stmt}{f:Addr}
theorem jD{oc:Value}{od an:Option Addr}{osl:Array (Option Value)}{kV doc pm cdv ct:Value}(l:K.lookup f=some ⟨oc,od,.func (c7 x qual (defArgs st) (defBody st) (defScope st) .none kV doc pm an cdv ct),osl⟩)
    (c:gE K cdv qual=true)(k:ik K (.ref f)=true):jH K x qual st f:=⟨_,fun_mk l c k⟩
theorem Callee.kw{n n0 k:Nat}{ps ks:List Str}{ix:List Nat}{m:List CV->M CV}(D:jH K x qual st f)(C:∀fd,Fun K x qual st f fd->FnD P w K mg base k f fd ps m)(hn:ps.length=n)
    (hb:∀(kV doc pm:Value)(an:Option Addr)(cdv ct:Value)(us ws:List Value),us.length=n0->ws.length=ks.length->bindArgs (c7 x qual (defArgs st) (defBody st) (defScope st) .none kV doc pm an cdv ct) ⟨us,ks.zip ws⟩=pure (ps.zip (sel ix (us++ws)))):JR P w K mg base k f n n0 ks ix m:=by
  obtain⟨fd,F⟩:=D.ex
  refine⟨⟨fd,ps,hn,C fd F,fun s us ws h1 h2=>?_⟩,F.kp⟩
  obtain⟨oc,od,kV,doc,pm,an,cdv,ct,osl,rfl,_,_⟩:=F.ex
  exact .of_eq (hb kV doc pm an cdv ct us ws h1 h2)
/-- the law's own def -/
theorem jH.law{ts:Tbs}{N:List Str}{p:Str}{k:Nat}{m:Rho->M CF}(D:jH K x qual st f)(Sc:FnScope N [p] (defScope st))
    (hb:∀(kV doc pm:Value)(an:Option Addr)(cdv ct:Value)(u:Value),bindArgs (c7 x qual (defArgs st) (defBody st) (defScope st) .none kV doc pm an cdv ct) ⟨[u],[]⟩=pure [(p,u)])
    (hbody:∀(base:Heap),(∀p∈ts,fc base mg p.2.1 p.2.2)->∀(cdv:Value)(A:Around)(outer:List Env)(s:Shared)(H:Hp)(E:XK),RmG k (A.deeper (envOfC qual (defScope st) s.heap.objs.size f cdv))->
      Takes (cxOf (fo P w) P w K mg base N qual (defScope st) f cdv A outer s H E) (WE' E)->PassesOwn (model P w) (A.deeper (envOfC qual (defScope st) s.heap.objs.size f cdv)) (envOfC qual (defScope st) s.heap.objs.size f cdv) (cxOf (fo P w) P w K mg base N qual (defScope st) f cdv A outer s H E).xe->
      GSs (cxOf (fo P w) P w K mg base N qual (defScope st) f cdv A outer s H E) (WE' E) (defBody st) m):
    ∃fd:FuncData,(∀(s:Shared)(u:Value),BindsTo s fd ⟨[u],[]⟩ [(p,u)])/\∀base:Heap,K.In base->base.Ns mainGlobals mg->(∀p∈ts,fc base mg p.2.1 p.2.2)->FnD P w K mg base (k+1) f fd [p] (nR N.length m):=by
  obtain⟨fd,F⟩:=D.ex
  refine⟨fd,fun s u=>?_,fun base _ _ tb=>axU F Sc (hbody base tb)⟩
  obtain⟨oc,od,kV,doc,pm,an,cdv,ct,osl,rfl,_,_⟩:=F.ex
  exact .of_eq (hb kV doc pm an cdv ct u)
end
theorem qP{P:Program}{w:World}{K:ae}{mg:Str->Option Value}{base:Heap}{x qual:Str}{st:Stmt}{f:Addr}{fd:FuncData}{N ps:List Str}{k n:Nat}{m:Rho->M CF}(F:Fun K x qual st f fd)(Sc:FnScope N ps (defScope st))(hn:N.length=n)
    (hbody:∀(cdv:Value)(A:Around)(outer:List Env)(s:Shared)(H:Hp)(E:XK),RmG k (A.deeper (envOfC qual (defScope st) s.heap.objs.size f cdv))->
      Takes (cxOf (fo P w) P w K mg base N qual (defScope st) f cdv A outer s H E) (WE' E)->PassesOwn (model P w) (A.deeper (envOfC qual (defScope st) s.heap.objs.size f cdv)) (envOfC qual (defScope st) s.heap.objs.size f cdv) (cxOf (fo P w) P w K mg base N qual (defScope st) f cdv A outer s H E).xe->
      GSs (cxOf (fo P w) P w K mg base N qual (defScope st) f cdv A outer s H E) (WE' E) (defBody st) m):FnD P w K mg base (k+1) f fd ps (nR n m):=hn▸axU F Sc hbody
theorem atY{K:ae}{C:Addr}(h1:aS K (.type "NoneType") (.ref C)=some false)(h2:aS K (.type "bool") (.ref C)=some false)(h3:aS K (.type "int") (.ref C)=some false)(h4:aS K (.type "str") (.ref C)=some false)
    (h5:aS K (.type "tuple") (.ref C)=some false)(h6:aS K (.type "list") (.ref C)=some false)(h7:aS K (.type "dict") (.ref C)=some false):NoB K C:=by
  intro t ht
  simp only[mH,av,bj,or_false]at ht
  rcases ht with rfl|rfl|rfl|rfl|rfl|rfl|rfl<;>assumption
theorem atX{K:ae}{C:Addr}(h1:bX K C (.type "NoneType")=true)(h2:bX K C (.type "bool")=true)(h3:bX K C (.type "int")=true)(h4:bX K C (.type "str")=true)
    (h5:bX K C (.type "tuple")=true)(h6:bX K C (.type "list")=true)(h7:bX K C (.type "dict")=true):∀t∈mH,bX K C (.type t)=true:=by
  intro t ht
  simp only[mH,av,bj,or_false]at ht
  rcases ht with rfl|rfl|rfl|rfl|rfl|rfl|rfl<;>assumption
def Wp{α:Type}(r:Res α)(Q:α->Sto->Prop)(E:Str->List (Str×CV)->Sto->Prop):Prop:=match r with
 |.ok a S=>Q a S
 |.exc c fs S=>E c fs S
 |.bad=>False
abbrev NoE:Str->List (Str×CV)->Sto->Prop:=fun _ _ _=>False
section
variable {α β:Type}{r r':Res α}{Q Q':α->Sto->Prop}{E E':Str->List (Str×CV)->Sto->Prop}{S S':Sto}{ρ:Rho}
theorem Wp.ex(h:Wp r Q NoE):∃a S,r=.ok a S/\Q a S:=by
 cases r with
 |ok a S=>exact⟨a,S,rfl,h⟩
 |exc c fs S=>exact h.elim
 |bad=>exact h.elim
theorem Wp.imp(h:Wp r Q E)(k:∀a S,Q a S->Q' a S)(k':∀c fs S,E c fs S->E' c fs S):Wp r Q' E':=by
 cases r with
 |ok a S=>exact k _ _ h
 |exc c fs S=>exact k' _ _ _ h
 |bad=>exact h
theorem Wp.mono(h:Wp r Q NoE)(k:∀a S,Q a S->Q' a S):Wp r Q' E:=h.imp k fun _ _ _ z=>z.elim
theorem T5{a:α}:Wp (.ok a S) Q E=Q a S:=rfl
theorem auL{c:Str}{fs:List (Str×CV)}:Wp (.exc c fs S:Res α) Q E=E c fs S:=rfl
theorem UJ{a:α}:Wp (ret a S) Q E=Q a S:=rfl
theorem bW{m:M β}{k:β->M α}:Wp (bnd m k S) Q E=Wp (m S) (fun a S1=>Wp (k a S1) Q E) E:=by
 unfold bnd
 cases m S<;>rfl
theorem jX{r:Res β}{k:β->M α}:Wp (r.bnd k) Q E=Wp r (fun a S1=>Wp (k a S1) Q E) E:=by cases r<;>rfl
theorem Ai:Wp (V3 r) Q E=Wp r Q NoE:=by cases r<;>rfl
theorem aof{a b:M α}:Wp ((if true=true then a else b) S) Q E=Wp (a S) Q E:=by rw[if_pos rfl]
theorem aoe{a b:M α}:Wp ((if false=true then a else b) S) Q E=Wp (b S) Q E:=by rw[if_neg (by decide)]
end
section
variable {Q:CV->Sto->Prop}{QB:Bool->Sto->Prop}{QL:List CV->Sto->Prop}{QF:CF->Sto->Prop}{QS:Src->Sto->Prop}{QO:Option Int->Sto->Prop}{QR:Rho->Sto->Prop}{E:Str->List (Str×CV)->Sto->Prop}{S S':Sto}{ρ:Rho}{ma mb mc me mo mi mv:Rho->M CV}{mt mu:Rho->M Bool}{ms mk:Rho->M (List CV)}{m1 m2:Rho->M CF}{m:List CV->M CV}{n:Nat}{x y:CV}{xs:List CV}
theorem xU{i:Nat}:Wp (aK i ρ S) Q E=(match ρ[i]? with|some (some c)=>Q c S|_=>False):=by
 unfold aK
 cases e:ρ[i]? with
 |none=>rfl
 |some o=>cases o<;>rfl
theorem aky{c:CV}:Wp (mC c ρ S) Q E=Q c S:=rfl
theorem adh{g:CV->CV->M CV}:Wp (mOp g ma mb ρ S) Q E=Wp (ma ρ S) (fun x S1=>Wp (mb ρ S1) (fun y S2=>Wp (g x y S2) Q E) E) E:=by
 unfold mOp;rw[bW];congr;funext x S1;rw[bW]
theorem adk{g:CV->M CV}:Wp (mUn g ma ρ S) Q E=Wp (ma ρ S) (fun x S1=>Wp (g x S1) Q E) E:=bW
theorem adb{g:List CV->M CV}:Wp (mFn g ms ρ S) Q E=Wp (ms ρ S) (fun x S1=>Wp (g x S1) Q E) E:=bW
theorem Ck:Wp (app n m xs S) Q E=(if xs.length=n then Wp (m xs S) Q E else False):=by unfold app;split<;>rfl
theorem ZC:Wp (mAp n m ms ρ S) Q E=Wp (ms ρ S) (fun xs S1=>Wp (app n m xs S1) Q E) E:=bW
theorem G7:Wp (aN ρ S) QL E=QL [] S:=rfl
theorem yu:Wp (au ma ms ρ S) QL E=Wp (ma ρ S) (fun x S1=>Wp (ms ρ S1) (fun xs S2=>QL (x::xs) S2) E) E:=by
 unfold au;rw[bW];congr;funext x S1;rw[bW];rfl
theorem CK:Wp (Qe xs S) Q E=(if xs.length<=sizeLine then Q (.tup xs) S else False):=by unfold Qe;split<;>rfl
theorem CJ:Wp (Zq xs S) Q E=(if xs.length<=sizeLine then Q (.ref S.length) (S++[.lst xs]) else False):=by unfold Zq;split<;>rfl
theorem U3:Wp (pD ms ρ S) Q E=Wp (ms ρ S) (fun xs S1=>Wp (Qe xs S1) Q E) E:=bW
theorem Ux:Wp (vC ms ρ S) Q E=Wp (ms ρ S) (fun xs S1=>Wp (Zq xs S1) Q E) E:=bW
theorem Ur{b:Bool}:Wp (asB (.bl b) S) QB E=QB b S:=rfl
theorem Mw:Wp (eO ma ρ S) QB E=Wp (ma ρ S) (fun x S1=>Wp (asB x S1) QB E) E:=bW
theorem U0{g:CV->M Bool}:Wp (Iv g ma ρ S) QB E=Wp (ma ρ S) (fun x S1=>Wp (g x S1) QB E) E:=bW
theorem Uq:Wp (afC mt mu ρ S) QB E=Wp (mt ρ S) (fun c S1=>Wp ((if c then mu ρ else ret false) S1) QB E) E:=bW
theorem adi:Wp (mOr mt mu ρ S) QB E=Wp (mt ρ S) (fun c S1=>Wp ((if c then ret true else mu ρ) S1) QB E) E:=bW
theorem Uy:Wp (RW mt ρ S) QB E=Wp (mt ρ S) (fun c S1=>QB (!c) S1) E:=bW
theorem adf:Wp (mIf mt ma mb ρ S) Q E=Wp (mt ρ S) (fun c S1=>Wp ((if c then ma ρ else mb ρ) S1) Q E) E:=bW
theorem Lk{g:CV->M Bool}:Wp (uO g ma mb ρ S) Q E=Wp (ma ρ S) (fun x S1=>Wp (g x S1) (fun c S2=>Wp ((if c then mb ρ else ret x) S2) Q E) E) E:=by
 unfold uO;rw[bW];congr;funext x S1;rw[bW]
theorem Uz{g:CV->M Bool}:Wp (anI g ma mb ρ S) Q E=Wp (ma ρ S) (fun x S1=>Wp (g x S1) (fun c S2=>Wp ((if c then ret x else mb ρ) S2) Q E) E) E:=by
 unfold anI;rw[bW];congr;funext x S1;rw[bW]
theorem Mp{g:CV->M Bool}:Wp (acP g ma ρ S) Q E=Wp (ma ρ S) (fun x S1=>Wp (g x S1) (fun c S2=>Q (.bl (!c)) S2) E) E:=by
 unfold acP;rw[bW];congr;funext x S1;rw[bW];rfl
theorem U4:Wp (wV ρ S) QB E=QB true S:=rfl
def an3(m2:Rho->M CF)(Q:CF->Sto->Prop)(E:Str->List (Str×CV)->Sto->Prop):CF->Sto->Prop
 |.nx ρ,S=>Wp (m2 ρ S) Q E
 |c,S=>Q c S
theorem FW{ρ:Rho}:an3 m2 QF E (.nx ρ) S=Wp (m2 ρ S) QF E:=rfl
theorem La{c:CV}:an3 m2 QF E (.rt c) S=QF (.rt c) S:=rfl
theorem K8{ρ:Rho}:an3 m2 QF E (.bk ρ) S=QF (.bk ρ) S:=rfl
theorem K9{ρ:Rho}:an3 m2 QF E (.ct ρ) S=QF (.ct ρ) S:=rfl
theorem Ld{c:Str}{fs:List (Str×CV)}{ρ:Rho}:an3 m2 QF E (.xc c fs ρ) S=QF (.xc c fs ρ) S:=rfl
theorem wp_seq:Wp (cJ m1 m2 ρ S) QF E=Wp (m1 ρ S) (an3 m2 QF E) E:=by
 unfold cJ
 cases m1 ρ S with
 |ok c S1=>cases c<;>rfl
 |exc c fs S1=>rfl
 |bad=>rfl
theorem jL{α:Type}{r:Res α}{k:α->M CF}:Wp (lft ρ r k) QF E=Wp r (fun a S1=>Wp (k a S1) QF E) (fun c fs S1=>QF (.xc c fs ρ) S1):=by cases r<;>rfl
theorem Ml:Wp (gY ρ S) QF E=QF (.nx ρ) S:=rfl
theorem Us:Wp (auk ρ S) QF E=QF (.bk ρ) S:=rfl
theorem Lp:Wp (aw9 ρ S) QF E=QF (.ct ρ) S:=rfl
theorem Ms:Wp (ax8 ρ S) QF E=False:=rfl
theorem Aj:Wp (Ny me ρ S) QF E=Wp (me ρ S) (fun _ S1=>QF (.nx ρ) S1) (fun c fs S1=>QF (.xc c fs ρ) S1):=jL
theorem Mv:Wp (jF me ρ S) QF E=Wp (me ρ S) (fun v S1=>QF (.rt v) S1) (fun c fs S1=>QF (.xc c fs ρ) S1):=jL
theorem CZ:Wp (asS ρ S) QF E=QF (.rt .non) S:=rfl
theorem UL:Wp (sIf mt m1 m2 ρ S) QF E=Wp (mt ρ S) (fun c S1=>Wp ((if c then m1 ρ else m2 ρ) S1) QF E) (fun c fs S1=>QF (.xc c fs ρ) S1):=jL
theorem Ln{g:CV->Rho->M Rho}:Wp (d9 me g ρ S) QF E=Wp (me ρ S) (fun x S1=>Wp (g x ρ S1) (fun ρ' S2=>QF (.nx ρ') S2) (fun c fs S2=>QF (.xc c fs ρ) S2)) (fun c fs S1=>QF (.xc c fs ρ) S1):=by
 unfold d9;rw[jL];congr;funext x S1;rw[jL];rfl
theorem ZD{i:Nat}:Wp (gN i x ρ S) QR E=QR (ρ.set i (some x)) S:=rfl
theorem ade{is:List Nat}:Wp (gT is (.tup xs) ρ S) QR E=(match gNs is xs ρ with|some ρ'=>QR ρ' S|none=>False):=by
 unfold gT
 dsimp only
 cases gNs is xs ρ<;>rfl
theorem UG{i j:Nat}:Wp (aar i j ms ρ S) QF E=Wp (ms ρ S) (fun xs S1=>match xs with| [x,y]=>QF (.nx ((ρ.set i (some x)).set j (some y))) S1|_=>False) (fun c fs S1=>QF (.xc c fs ρ) S1):=by
 unfold aar;rw[jL];congr;funext xs S1
 match xs with
 | []=>rfl
 | [_]=>rfl
 | [_,_]=>rfl
 |_::_::_::_=>rfl
theorem Uv:Wp (gIx mo mi x ρ S) QR E=Wp (mo ρ S) (fun o S1=>Wp (mi ρ S1) (fun i S2=>Wp (Uh o i x S2) (fun _ S3=>QR ρ S3) E) E) E:=by
 unfold gIx;rw[bW];congr;funext o S1;rw[bW];congr;funext i S2;rw[bW];rfl
theorem Ut{f:Str}{tbl:List Str}:Wp (Qi f tbl mo mv ρ S) QF E=Wp (mv ρ S) (fun y S1=>Wp (mo ρ S1) (fun x S2=>Wp (akx f tbl x y S2) (fun _ S3=>QF (.nx ρ) S3) (fun c fs S3=>QF (.xc c fs ρ) S3)) (fun c fs S2=>QF (.xc c fs ρ) S2)) (fun c fs S1=>QF (.xc c fs ρ) S1):=by
 unfold Qi;rw[jL];congr;funext y S1;rw[jL];congr;funext x S2;rw[jL];rfl
def ash(Q:CV->Sto->Prop)(E:Str->List (Str×CV)->Sto->Prop):CF->Sto->Prop
 |.nx _,S=>Q .non S
 |.rt c,S=>Q c S
 |.xc c fs _,S=>E c fs S
 |_,_=>False
theorem JW{ρ:Rho}:ash Q E (.nx ρ) S=Q .non S:=rfl
theorem JX{c:CV}:ash Q E (.rt c) S=Q c S:=rfl
theorem JZ{c:Str}{fs:List (Str×CV)}{ρ:Rho}:ash Q E (.xc c fs ρ) S=E c fs S:=rfl
theorem wp_run{cs:List CV}{mb:Rho->M CF}:Wp (nR n mb cs S) Q E=Wp (mb (iG n cs) S) (ash Q E) NoE:=by
 unfold nR
 cases mb (iG n cs) S with
 |ok c S1=>cases c<;>rfl
 |exc c fs S1=>rfl
 |bad=>rfl
theorem amV{c:Str}{cs:List CV}:Wp (yQ c n m cs S) Q E=Wp (app n m (.ref S.length::cs) (S++[.ins c []])) (fun r S'=>match r with|.non=>Q (.ref S.length) S'|_=>False) E:=by
 unfold yQ;rw[jX];congr;funext r S1;cases r<;>rfl
theorem adg{c:Str}:Wp (mMk c n m ms ρ S) Q E=Wp (ms ρ S) (fun xs S1=>Wp (yQ c n m xs S1) Q E) E:=bW
theorem Mu:Wp (aeS (.tup xs) S) QS E=QS ⟨xs,[]⟩ S:=rfl
theorem UW:Wp (Yx me ρ S) QS E=Wp (me ρ S) (fun x S1=>Wp (aeS x S1) QS E) E:=bW
theorem Mq:Wp (Av ms ρ S) QS E=Wp (ms ρ S) (fun x S1=>Wp (asR x S1) QS E) E:=bW
theorem Mr:Wp (awa ms ρ S) QS E=Wp (ms ρ S) (fun x S1=>Wp (ax7 x S1) QS E) E:=bW
theorem Uu{g:CV->Rho->M Rho}{mb:Rho->M CF}{mi:Rho->M Src}:Wp (aeM mi g mb ρ S) QF E=Wp (mi ρ S) (fun src S1=>Wp (xY src.chk g mb src.items ρ S1) QF E) (fun c fs S1=>QF (.xc c fs ρ) S1):=jL
def apI(next:Rho->Sto->Prop)(Q:CF->Sto->Prop):CF->Sto->Prop
 |.nx ρ,S=>next ρ S
 |.ct ρ,S=>next ρ S
 |.bk ρ,S=>Q (.nx ρ) S
 |c,S=>Q c S
theorem Ka{next:Rho->Sto->Prop}{ρ:Rho}:apI next QF (.nx ρ) S=next ρ S:=rfl
theorem J9{next:Rho->Sto->Prop}{ρ:Rho}:apI next QF (.ct ρ) S=next ρ S:=rfl
theorem J8{next:Rho->Sto->Prop}{ρ:Rho}:apI next QF (.bk ρ) S=QF (.nx ρ) S:=rfl
theorem Kc{next:Rho->Sto->Prop}{c:CV}:apI next QF (.rt c) S=QF (.rt c) S:=rfl
theorem arN{chk:Sto->Bool}{g:CV->Rho->M Rho}{mb:Rho->M CF}:Wp (xY chk g mb [] ρ S) QF E=(if chk S=true then QF (.nx ρ) S else False):=by
 unfold xY;split<;>rfl
theorem arO{chk:Sto->Bool}{g:CV->Rho->M Rho}{mb:Rho->M CF}:Wp (xY chk g mb (x::xs) ρ S) QF E=(if chk S=true then Wp (g x ρ S) (fun ρ1 S1=>Wp (mb ρ1 S1) (apI (fun ρ2 S2=>Wp (xY chk g mb xs ρ2 S2) QF E) QF) E) (fun c fs S1=>QF (.xc c fs ρ) S1) else False):=by
 rw[xY]
 split
 ·rw[jL];congr;funext ρ1 S1
  cases mb ρ1 S1 with
  |ok c S2=>cases c<;>rfl
  |exc c fs S2=>rfl
  |bad=>rfl
 ·rfl
end
theorem Qc{S l:Sto}{k:Nat}:(S++l)[S.length+k]?=l[k]?:=by
 rw[aL (by omega)];congr 1;omega
theorem pq{S l:Sto}:(S++l)[S.length]?=l[0]?:=Qc (k:=0)
theorem iK{S l:Sto}{n:Nat}{o:CO}(h:S[n]?=some o):(S++l)[n]?=some o:=by
 rw[az (aa.mp h).1];exact h
theorem ah2{S l:Sto}{k:Nat}{o:CO}:(S++l).set (S.length+k) o=S++l.set k o:=by
 have h:∀(S l:List CO)(k:Nat),(S++l).set (S.length+k) o=S++l.set k o:=by
  intro S
  induction S with
  |nil=>intro l k;simp
  |cons a S ih=>intro l k;rw[ai,Nat.add_right_comm,c9,dc,ih];rfl
 exact h S l k
theorem ami{S l:Sto}{o:CO}:(S++l).set S.length o=S++l.set 0 o:=ah2 (k:=0)
set_option maxHeartbeats 400000
section
variable {Q:CV->Sto->Prop}{QB:Bool->Sto->Prop}{QU:Unit->Sto->Prop}{QS:Src->Sto->Prop}{E:Str->List (Str×CV)->Sto->Prop}{S S':Sto}{i j:Int}{a b:Str}{x y:CV}{xs ys:List CV}{n k:Nat}
theorem acq{α:Type}{u:α}{l:List α}:atI (u::l) 0=some u:=by
 unfold atI ixN
 rw[if_pos (by decide),if_pos (by simp only[ai];omega)];rfl
theorem acr{α:Type}{u v:α}{l:List α}:atI (u::v::l) 1=some v:=by
 unfold atI ixN
 rw[if_pos (by decide),if_pos (by simp only[ai];omega)];rfl
theorem acs{α:Type}{u v w:α}{l:List α}:atI (u::v::w::l) 2=some w:=by
 unfold atI ixN
 rw[if_pos (by decide),if_pos (by simp only[ai];omega)];rfl
theorem acu{α:Type}{u v w z:α}{l:List α}:atI (u::v::w::z::l) 3=some z:=by
 unfold atI ixN
 rw[if_pos (by decide),if_pos (by simp only[ai];omega)];rfl
theorem atI_nat{α:Type}{l:List α}{i:Int}(h0:0<=i)(h:i<l.length):atI l i=l[i.toNat]?:=by
 unfold atI ixN
 rw[if_pos h0,if_pos h];rfl
theorem Ci:Wp (sV (.int i) (.int j) S) Q E=Q (.int (i+j)) S:=rfl
theorem Cj:Wp (sV (.str a) (.str b) S) Q E=(if a.length+b.length<=sizeLine then Q (.str (a++b)) S else False):=by
 show Wp (if _ then _ else _) Q E=_
 split<;>rfl
theorem Dc:Wp (avd (.int i) (.int j) S) Q E=Q (.int (i-j)) S:=rfl
theorem CP:Wp (mulC (.int i) (.int j) S) Q E=(if (-(2 ^ 64)<i/\i<2 ^ 64)\/(-(2 ^ 64)<j/\j<2 ^ 64) then Q (.int (i*j)) S else False):=by
 show Wp (if _ then _ else _) Q E=_
 split<;>rfl
theorem CN:Wp (afF (.int i) (.int j) S) Q E=(if j≠0 then Q (.int (i.fmod j)) S else False):=by
 show Wp (if decide _=true then _ else _) Q E=_
 by_cases h:j≠0
 ·rw[if_pos (decide_eq_true h),if_pos h];rfl
 ·rw[if_neg (by simpa using h),if_neg h];rfl
theorem xT:Wp (afl (.int i) (.int j) S) Q E=(if j≠0/\j.natAbs<1606938044258990275541962092341162602522202993782792835301376 then Q (.int (i.fdiv j)) S else False):=by
 show Wp (if decide _=true then _ else _) Q E=_
 by_cases h:j≠0/\j.natAbs<1606938044258990275541962092341162602522202993782792835301376
 ·rw[if_pos (decide_eq_true h),if_pos h];rfl
 ·rw[if_neg (by simpa using h),if_neg h];rfl
theorem CQ:Wp (powC (.int i) (.int j) S) Q E=(if 0<=j/\j<=1000000/\i.natAbs<2 ^ 64 then Q (.int (i ^ j.toNat)) S else False):=by
 show Wp (if decide _=true then _ else _) Q E=_
 by_cases h:0<=j/\j<=1000000/\i.natAbs<2 ^ 64
 ·rw[if_pos (decide_eq_true h),if_pos h];rfl
 ·rw[if_neg (by simpa using h),if_neg h];rfl
theorem Mf:Wp (ltC (.int i) (.int j) S) Q E=Q (.bl (decide (i<j))) S:=rfl
theorem LR:Wp (leC (.int i) (.int j) S) Q E=Q (.bl (decide (i<=j))) S:=rfl
theorem Lz:Wp (gtC (.int i) (.int j) S) Q E=Q (.bl (decide (j<i))) S:=rfl
theorem Ly:Wp (geC (.int i) (.int j) S) Q E=Q (.bl (decide (j<=i))) S:=rfl
theorem Mg:Wp (ltC (.str a) (.str b) S) Q E=Q (.bl (decide (a.cps.toList<b.cps.toList))) S:=rfl
theorem Ma:Wp (leC (.str a) (.str b) S) Q E=Q (.bl (!decide (b.cps.toList<a.cps.toList))) S:=rfl
theorem Lq:Wp (eqC (.int i) (.int j) S) Q E=Q (.bl (i==j)) S:=rfl
theorem Mh:Wp (neC (.int i) (.int j) S) Q E=Q (.bl (!(i==j))) S:=rfl
theorem Ls:Wp (eqC (.str a) (.str b) S) Q E=Q (.bl (a==b)) S:=rfl
theorem Mi:Wp (neC (.str a) (.str b) S) Q E=Q (.bl (!(a==b))) S:=rfl
theorem LQ:Wp (ixC (.tup xs) (.int i) S) Q E=(match atI xs i with|some v=>Q v S|none=>False):=by
 show Wp (match atI xs i with|some v=>_|none=>_) Q E=_
 cases atI xs i<;>rfl
theorem LC:Wp (ixC (.ref n) (.int i) S) Q E=(match S[n]? with|some (.lst xs)=>(match atI xs i with|some v=>Q v S|none=>False)|_=>False):=by
 unfold ixC
 dsimp only
 cases S[n]? with
 |none=>rfl
 |some o=>cases o with
  |lst xs=>dsimp only;cases atI xs i<;>rfl
  |_=>rfl
theorem LK:Wp (ixC (.str a) (.int i) S) Q E=(if a.length<=sizeLine then (match atI a.cps.toList i with|some v=>Q (.str ⟨#[v]⟩) S|none=>False) else False):=by
 unfold ixC
 dsimp only
 split
 ·cases atI a.cps.toList i<;>rfl
 ·rfl
theorem CT:Wp (Uh (.ref n) (.int i) x S) QU E=(match S[n]? with|some (.lst xs)=>(match ixN xs.length i with|some j=>QU () (S.set n (.lst (xs.set j x)))|none=>False)|_=>False):=by
 unfold Uh
 dsimp only
 cases S[n]? with
 |none=>rfl
 |some o=>cases o with
  |lst xs=>dsimp only;cases ixN xs.length i<;>rfl
  |_=>rfl
theorem Cz:Wp (DQ [.str a] S) Q E=(if a.length<=sizeLine then Q (.int a.length) S else False):=by
 show Wp (if _ then _ else _) Q E=_
 split<;>rfl
theorem CG:Wp (DQ [.tup xs] S) Q E=Q (.int xs.length) S:=rfl
theorem Cy:Wp (DQ [.ref n] S) Q E=(match S[n]? with|some (.lst xs)=>Q (.int xs.length) S|_=>False):=by
 unfold DQ
 dsimp only
 cases S[n]? with
 |none=>rfl
 |some o=>cases o<;>rfl
theorem Uo:Wp (apl [.int i] S) Q E=Q (.int (if i<0 then -i else i)) S:=rfl
theorem Uw:Wp (Hg [.int i] S) Q E=Q (.int i) S:=rfl
theorem Cv{b:Bool}:Wp (Hg [.bl b] S) Q E=Q (.int (if b then 1 else 0)) S:=rfl
theorem Dd{b:Bool}:Wp (nJ (.bl b) S) QB E=QB b S:=rfl
theorem Df:Wp (nJ (.int i) S) QB E=QB (i !=0) S:=rfl
theorem u9:Wp (nJ .non S) QB E=QB false S:=rfl
theorem Dg:Wp (nJ (.tup xs) S) QB E=QB (!xs.isEmpty) S:=rfl
theorem CW:Wp (aeS (.ref n) S) QS E=(match S[n]? with|some (.lst xs)=>QS ⟨xs,[(n,.lst xs)]⟩ S|_=>False):=by
 unfold aeS
 dsimp only
 cases S[n]? with
 |none=>rfl
 |some o=>cases o<;>rfl
variable {tbl:List (Str×(List CV->M CV))}{cs:List (Str×Str)}{bs:List Str}{fin:Bool->Bool}{other:CV->CV->M CV}
theorem Cp:Wp (cP tbl cs bs fin other (.int i) y S) Q E=Wp (other (.int i) y S) Q E:=rfl
theorem Cr:Wp (cP tbl cs bs fin other (.str a) y S) Q E=Wp (other (.str a) y S) Q E:=rfl
theorem Cm{b:Bool}:Wp (cP tbl cs bs fin other (.bl b) y S) Q E=Wp (other (.bl b) y S) Q E:=rfl
theorem Cu:Wp (cP tbl cs bs fin other (.tup xs) y S) Q E=Wp (other (.tup xs) y S) Q E:=rfl
theorem u6:Wp (cP tbl cs bs fin other .non y S) Q E=Wp (other .non y S) Q E:=rfl
/-- a list of ints against [] -/
theorem aag{f:CV->Option PyData}(hf:∀i,f (.int i)=some (.int i)):∀l:List Int,(l.map CV.int).mapM f=some (l.map PyData.int)
 | []=>rfl
 |i::l=>by rw[ax,bb,hf,aag hf l];rfl
theorem lay_ints:∀l:List Int,PyData.canLayAll0 (l.map PyData.int)=true
 | []=>by simp[PyData.canLayAll0]
 |i::l=>by simp only[ax,PyData.canLayAll0,lay_ints l];simp[PyData.canLay0]
theorem depth_ints:∀l:List Int,PyData.depthAll (l.map PyData.int)=0
 | []=>by simp[PyData.depthAll]
 |i::l=>by simp only[ax,PyData.depthAll,depth_ints l];simp[PyData.depth]
theorem aaA{l:List Int}(h:S[n]?=some (.lst (l.map CV.int)))(h':S[k]?=some (.lst [])):Wp (neC (.ref n) (.ref k) S) Q E=Q (.bl (!l.isEmpty)) S:=by
 have e1:toD S 40 (.ref n)=some (.list (l.map PyData.int)):=by
  show(match S[n]? with|some (.lst xs)=>(xs.mapM (toD S 39)).map PyData.list|_=>none)=_
  rw[h]
  show((l.map CV.int).mapM (toD S 39)).map PyData.list=_
  rw[aag (fun i=>rfl)];rfl
 have e2:toD S 40 (.ref k)=some (.list []):=by
  show(match S[k]? with|some (.lst xs)=>(xs.mapM (toD S 39)).map PyData.list|_=>none)=_
  rw[h'];rfl
 have e3:eqD S (.ref n) (.ref k)=some l.isEmpty:=by
  unfold eqD
  rw[e1,e2]
  have s1:SeqAt.shaped (.list (l.map PyData.int))=true:=by
   simp only[SeqAt.shaped,PyData.canLay0,lay_ints,PyData.depth,depth_ints];decide
  have s2:SeqAt.shaped (.list [])=true:=by decide
  dsimp only
  rw[s1,s2]
  cases l<;>simp[PyData.eqv,PyData.eqvAll]
 show Wp (match eqD S (.ref n) (.ref k) with|some b=>_|none=>_) Q E=_
 rw[e3];rfl
end
section
variable {Q:CV->Sto->Prop}{E:Str->List (Str×CV)->Sto->Prop}{S S':Sto}{x y:CV}{xs ys:List CV}{n k:Nat}
theorem acL{C X:Prop}[Decidable C]:(if C then X else False)=(C/\X):=by
 by_cases h:C<;>simp[h]
def au9(fin:Bool->Bool)(Q:CV->Sto->Prop):CV->Sto->Prop
 |.bl b,S=>Q (.bl (fin b)) S
 |_,_=>False
theorem Uc{fin:Bool->Bool}{b:Bool}:au9 fin Q (.bl b) S=Q (.bl (fin b)) S:=rfl
theorem Cq{tbl:List (Str×(List CV->M CV))}{cs:List (Str×Str)}{bs:List Str}{fin:Bool->Bool}{other:CV->CV->M CV}:Wp (cP tbl cs bs fin other (.ref n) y S) Q E=(match S[n]? with
    |some (.ins c _)=>(match tbl.lookup c with
     |some m=>if anJ cs bs c S y=true then Wp (app 2 m [.ref n,y] S) (au9 fin Q) E else False
     |none=>Wp (other (.ref n) y S) Q E)
    |_=>Wp (other (.ref n) y S) Q E):=by
  unfold cP ownAt lg
  dsimp only
  cases S[n]? with
  |none=>rfl
  |some o=>cases o with
   |ins c fs=>
    dsimp only
    cases tbl.lookup c with
    |none=>rfl
    |some m=>
     dsimp only
     split
     · rw[jX];congr;funext r S1;cases r<;>rfl
     · rfl
   |_=>rfl
theorem Ak:Wp (neC (.ref n) y S) Q E=(match eqD S (.ref n) y with|some b=>Q (.bl (!b)) S|none=>False):=by
 show Wp (match eqD S _ y with|some b=>_|none=>_) Q E=_;cases eqD S (.ref n) y<;>rfl
theorem Lr:Wp (eqC (.ref n) y S) Q E=(match eqD S (.ref n) y with|some b=>Q (.bl b) S|none=>False):=by
 show Wp (match eqD S _ y with|some b=>_|none=>_) Q E=_;cases eqD S (.ref n) y<;>rfl
theorem Mj:Wp (neC (.tup xs) y S) Q E=(match eqD S (.tup xs) y with|some b=>Q (.bl (!b)) S|none=>False):=by
 show Wp (match eqD S _ y with|some b=>_|none=>_) Q E=_;cases eqD S (.tup xs) y<;>rfl
theorem Lw:Wp (eqC (.tup xs) y S) Q E=(match eqD S (.tup xs) y with|some b=>Q (.bl b) S|none=>False):=by
 show Wp (match eqD S _ y with|some b=>_|none=>_) Q E=_;cases eqD S (.tup xs) y<;>rfl
theorem apz{l:List Int}(h:S[n]?=some (.lst (l.map CV.int)))(h':S[k]?=some (.lst [])):eqD S (.ref n) (.ref k)=some l.isEmpty:=by
 cases e:eqD S (.ref n) (.ref k) with
 |none=>
  have q:=aaA (Q:=fun _ _=>True) (E:=fun _ _ _=>False) h h'
  rw[Ak,e]at q
  exact(false_ne_true q).elim
 |some b=>
  have q:=aaA (Q:=fun v _=>v=.bl (!b)) (E:=fun _ _ _=>False) h h'
  rw[Ak,e]at q
  have q2:CV.bl (!l.isEmpty)=CV.bl (!b):=by rw[<-q]
  injection q2 with q3
  cases l with
  |nil=>cases b<;>simp_all
  |cons z zs=>cases b<;>simp_all
end
def Bd(x:Int)(B:Nat):Prop:=0<=x/\x<=B
theorem Bd.add{x y:Int}{B C:Nat}(h:Bd x B)(h':Bd y C):Bd (x+y) (B+C):=⟨Int.add_nonneg h.1 h'.1,by have:=h.2;have:=h'.2;omega⟩
theorem Bd.mul{x y:Int}{B C:Nat}(h:Bd x B)(h':Bd y C):Bd (x*y) (B*C):=⟨Int.mul_nonneg h.1 h'.1,by
 rw[Int.natCast_mul]
 exact Int.mul_le_mul h.2 h'.2 h'.1 (Int.natCast_nonneg _)⟩
theorem Bd.fmod{x m:Int}(h:0<m):Bd (x.fmod m) m.toNat:=⟨ie x h,by have:=i6 x h;omega⟩
theorem Bd.lit{k:Int}(h:0<=k):Bd k k.toNat:=⟨h,by omega⟩
theorem Bd.nat{x:Int}{B C:Nat}(h:Bd x B)(l:B<C):x.natAbs<C:=by have:=h.1;have:=h.2;omega
structure jY(p c:Nat)(cells:List Int)(T:Int)(S:Sto):Prop where
 ex:∃t r,S[p]?=some (.lst [.ref c,.int t,.int r])/\S[c]?=some (.lst (cells.map .int))/\0<=t/\t<=T/\0<=r/\p≠c/\cells.length<=63
/-- the store grows, and nothing old changes, but p -/
def Ext(p:Nat)(S S':Sto):Prop:=∀n o,n≠p->S[n]?=some o->S'[n]?=some o
theorem Ext.refl{p:Nat}{S:Sto}:Ext p S S:=fun _ _ _ h=>h
theorem Ext.trans{p:Nat}{S S1 S2:Sto}(h:Ext p S S1)(h':Ext p S1 S2):Ext p S S2:=fun n o a b=>h' n o a (h n o a b)
theorem Ext.app{p:Nat}{S l:Sto}:Ext p S (S++l):=fun _ _ _ h=>iK h
theorem Ext.set{p:Nat}{S:Sto}{o:CO}:Ext p S (S.set p o):=fun n o' h e=>by rw[ah (eW h)];exact e
theorem jY.app{p c:Nat}{cells:List Int}{T:Int}{S l:Sto}(h:jY p c cells T S):jY p c cells T (S++l):=by
 obtain⟨t,r,h1,h2,h3⟩:=h
 exact⟨t,r,iK h1,iK h2,h3⟩
section
variable {Q:CV->Sto->Prop}{QB:Bool->Sto->Prop}{QU:Unit->Sto->Prop}{QL:List CV->Sto->Prop}{QO:Option Int->Sto->Prop}{QY:Str->Sto->Prop}{E:Str->List (Str×CV)->Sto->Prop}{S S':Sto}{i j:Int}{a b:Str}{x y:CV}{xs ys:List CV}{n k:Nat}{ρ:Rho}{ma mb me mo:Rho->M CV}{mt:Rho->M Bool}{ms mk:Rho->M (List CV)}{m:List CV->M CV}
variable {tN:List Str}{tO:List ((Str×Str)×Bool)}{tB:List ((Str×String)×Bool)}{T:String}{d:Str}
theorem arS:Wp (Hh tN tO tB [x,.ty T] S) Q E=(match kindB S x with
    |some t=>if T∈mH then Q (.bl (nj t T)) S else False
    |none=>match lg S x with
     |some c=>(match tB.lookup (c,T) with|some r=>Q (.bl r) S|none=>False)
     |none=>False):=by
  show Wp (match kindB S x with|some t=>_|none=>_) Q E=_
  cases kindB S x with
  |some t=>dsimp only;split<;>rfl
  |none=>
   dsimp only
   cases lg S x with
   |none=>rfl
   |some c=>dsimp only;cases tB.lookup (c,T)<;>rfl
theorem arR:Wp (Hh tN tO tB [x,.cls d] S) Q E=(match kindB S x with
    |some _=>if d∈tN then Q (.bl false) S else False
    |none=>match lg S x with
     |some c=>(match tO.lookup (c,d) with|some r=>Q (.bl r) S|none=>False)
     |none=>False):=by
  show Wp (match kindB S x with|some t=>_|none=>_) Q E=_
  cases kindB S x with
  |some t=>dsimp only;split<;>rfl
  |none=>
   dsimp only
   cases lg S x with
   |none=>rfl
   |some c=>dsimp only;cases tO.lookup (c,d)<;>rfl
theorem aiV:kindB S .non=some "NoneType":=rfl
theorem aqh{b:Bool}:kindB S (.bl b)=some "bool":=rfl
theorem aqi:kindB S (.int i)=some "int":=rfl
theorem aqk:kindB S (.str a)=some "str":=rfl
theorem aql:kindB S (.tup xs)=some "tuple":=rfl
theorem aqj:kindB S (.ref n)=(match S[n]? with|some (.lst _)=>some "list"|some (.dic _)=>some "dict"|some (.frz (.dic _))=>some "dict"|_=>none):=rfl
theorem aqo:lg S (.ref n)=(match S[n]? with|some (.ins c _)=>some c|_=>none):=rfl
theorem aiW:lg S .non=none:=rfl
theorem aqm{b:Bool}:lg S (.bl b)=none:=rfl
theorem aqn:lg S (.int i)=none:=rfl
theorem aqp:lg S (.str a)=none:=rfl
theorem aqq:lg S (.tup xs)=none:=rfl
theorem atA:nj "NoneType" "str"=false:=by decide
theorem atv:nj "bool" "str"=false:=by decide
theorem aty:nj "int" "str"=false:=by decide
theorem atD:nj "str" "str"=true:=by decide
theorem atE:nj "tuple" "str"=false:=by decide
theorem atz:nj "list" "str"=false:=by decide
theorem atw:nj "dict" "str"=false:=by decide
theorem aqy:("str"∈mH)=True:=eq_true (by decide)
theorem arQ{neg:Bool}:Wp (inC neg x (.tup ys) S) Q E=(match S8 S x ys with|some r=>Q (.bl (if neg then !r else r)) S|none=>False):=by
 show Wp (match S8 S x ys with|some r=>_|none=>_) Q E=_
 cases S8 S x ys<;>rfl
theorem arP{neg:Bool}:Wp (inC neg (.str a) (.str b) S) Q E=Q (.bl (if neg then !acI a b else acI a b)) S:=rfl
theorem amL{tbl:List (Str×(List CV->M CV))}{neg:Bool}:Wp (ajI tbl neg x (.ref n) S) Q E=(match S[n]? with
    |some (.ins c _)=>(match tbl.lookup c with
     |some m=>Wp (app 2 m [.ref n,x] S) (au9 (fun b=>if neg then !b else b) Q) E
     |none=>Wp (inC neg x (.ref n) S) Q E)
    |_=>Wp (inC neg x (.ref n) S) Q E):=by
  unfold ajI ownAt
  dsimp only
  cases S[n]? with
  |none=>rfl
  |some o=>cases o with
   |ins c fs=>
    dsimp only
    cases tbl.lookup c with
    |none=>rfl
    |some m=>dsimp only;rw[jX];congr;funext r S1;cases r<;>rfl
   |_=>rfl
theorem agm{tbl:List (Str×(List CV->M CV))}{neg:Bool}:Wp (ajI tbl neg x (.tup ys) S) Q E=Wp (inC neg x (.tup ys) S) Q E:=rfl
theorem agl{tbl:List (Str×(List CV->M CV))}{neg:Bool}:Wp (ajI tbl neg x (.str b) S) Q E=Wp (inC neg x (.str b) S) Q E:=rfl
theorem auI{f:Str}{tbl:List (Str×AK)}:Wp (uo f tbl (.ref n) S) Q E=(match S[n]? with
    |some (.ins c fs)=>(match tbl.lookup c with
     |some .fld=>(match fs.lookup f with|some v=>Q v S|none=>False)
     |some (.prop m)=>Wp (m [.ref n] S) Q NoE
     |some (.con v)=>(match fs.lookup f with|none=>Q v S|some _=>False)
     |none=>False)
    |_=>False):=by
  unfold uo
  dsimp only
  cases S[n]? with
  |none=>rfl
  |some o=>cases o with
   |ins c fs=>
    dsimp only
    cases tbl.lookup c with
    |none=>rfl
    |some q=>cases q with
     |fld=>dsimp only;cases fs.lookup f<;>rfl
     |prop m=>exact Ai
     |con v=>dsimp only;cases fs.lookup f<;>rfl
   |_=>rfl
theorem auR{name:Str}{tbl:List (Str×MK)}:Wp (axZ name tbl mo ms ρ S) Q E=Wp (mo ρ S) (fun x S1=>match au6 name tbl x S1 with|some g=>Wp (ms ρ S1) (fun xs S2=>Wp (g xs S2) Q E) E|none=>False) E:=by
 unfold axZ;rw[bW];congr;funext x S1
 cases au6 name tbl x S1 with
 |none=>rfl
 |some g=>exact bW
theorem arV{f:Str}{tbl:List Str}:Wp (akx f tbl (.ref n) x S) QU E=(match S[n]? with
    |some (.ins c fs)=>if c∈tbl/\fs.length<1000 then QU () (S.set n (.ins c (JD f x fs))) else False
    |_=>False):=by
  unfold akx
  dsimp only
  cases S[n]? with
  |none=>rfl
  |some o=>cases o with
   |ins c fs=>dsimp only;split<;>rfl
   |_=>rfl
theorem am2{tbl:List (Str×(List CV->M CV))}:Wp (Jm tbl [.str a] S) Q E=Q (.str a) S:=rfl
theorem amZ{tbl:List (Str×(List CV->M CV))}:Wp (Jm tbl [.int i] S) Q E=Wp (Rb [.int i] S) Q E:=rfl
def ayb(Q:CV->Sto->Prop):CV->Sto->Prop
 |.str y,S=>Q (.str y) S
 |_,_=>False
theorem auw:ayb Q (.str a) S=Q (.str a) S:=rfl
theorem am0{tbl:List (Str×(List CV->M CV))}:Wp (Jm tbl [.ref n] S) Q E=(match S[n]? with
    |some (.ins c _)=>(match tbl.lookup c with
     |some m=>Wp (app 1 m [.ref n] S) (ayb Q) E
     |none=>False)
    |_=>False):=by
  unfold Jm ownAt
  dsimp only
  cases S[n]? with
  |none=>rfl
  |some o=>cases o with
   |ins c fs=>
    dsimp only
    cases tbl.lookup c with
    |none=>rfl
    |some m=>dsimp only;rw[jX];congr;funext r S1;cases r<;>rfl
   |_=>rfl
theorem amK:Wp (aee (.str a) S) Q E=(if a.length<=sizeLine then Q (.str a) S else False):=by
 show Wp (if _ then _ else _) Q E=_
 split<;>rfl
theorem auN{acc:Str}:Wp (mJs [] acc ρ S) QY E=QY acc S:=rfl
theorem auO{m:Rho->M CV}{l:List (Rho->M CV)}{acc:Str}:Wp (mJs (m::l) acc ρ S) QY E=Wp (m ρ S) (fun x S1=>match x with|.str y=>(if (acc++y).length<=sizeLine then Wp (mJs l (acc++y) ρ S1) QY E else False)|_=>False) E:=by
 rw[mJs,bW];congr;funext x S1
 cases x with
 |str y=>dsimp only;split<;>rfl
 |_=>rfl
theorem aji{l:List (Rho->M CV)}:Wp (Kr l ρ S) Q E=Wp (mJs l Str.empty ρ S) (fun y S1=>Q (.str y) S1) E:=bW
theorem amJ:Wp (zH ρ S) Q E=Q (.ref S.length) (S++[.dic []]):=rfl
theorem ajk:Wp (PN [.tup xs] S) Q E=Q (.ref S.length) (S++[.lst xs]):=rfl
theorem ajj:Wp (PN [.ref n] S) Q E=(match S[n]? with|some (.lst xs)=>Q (.ref S.length) (S++[.lst xs])|_=>False):=by
 unfold PN
 dsimp only
 cases S[n]? with
 |none=>rfl
 |some o=>cases o<;>rfl
theorem amF:Wp (sV (.ref n) (.ref k) S) Q E=(match S[n]?,S[k]? with
    |some (.lst xs),some (.lst ys)=>if xs.length+ys.length<=sizeLine then Q (.ref S.length) (S++[.lst (xs++ys)]) else False
    |_,_=>False):=by
  unfold sV
  dsimp only
  cases S[n]? with
  |none=>rfl
  |some o=>cases o with
   |lst xs=>cases S[k]? with
    |none=>rfl
    |some o=>cases o with
     |lst ys=>dsimp only;split<;>rfl
     |_=>rfl
   |_=>rfl
theorem akg{T:String}{g:CV->List CV->M CV}:Wp (mBM T g mo ms ρ S) Q E=Wp (mo ρ S) (fun x S1=>if tyB S1 x=some T then Wp (ms ρ S1) (fun xs S2=>Wp (g x xs S2) Q E) E else False) E:=by
 unfold mBM;rw[bW];congr;funext x S1
 split
 ·exact bW
 ·rfl
theorem axA{mi:Rho->M Src}{g:CV->Rho->Option Rho}{vs:List Nat}:Wp (mLc mi g mt me vs ρ S) Q E=Wp (mi ρ S) (fun src S1=>Wp (Om src.chk S1.length g mt me (pB ρ vs) src.items (S1++[.lst []])) (fun _ S2=>Q (.ref S1.length) S2) E) E:=by
 unfold mLc;rw[bW];congr;funext src S1;rw[jX];rfl
theorem auP{chk:Sto->Bool}{g:CV->Rho->Option Rho}:Wp (Om chk n g mt me ρ [] S) QU E=(if chk S=true then QU () S else False):=by
 unfold Om;split<;>rfl
theorem auQ{chk:Sto->Bool}{g:CV->Rho->Option Rho}:Wp (Om chk n g mt me ρ (x::xs) S) QU E=(if chk S=true then (match g x ρ with
    |some ρ1=>Wp (mt ρ1 S) (fun b S2=>if b=true then Wp (me ρ1 S2) (fun y S3=>match S3[n]? with|some (.lst acc)=>(if acc.length<sizeLine then Wp (Om chk n g mt me ρ xs (S3.set n (.lst (acc++[y])))) QU E else False)|_=>False) NoE else Wp (Om chk n g mt me ρ xs S2) QU E) NoE
    |none=>False) else False):=by
  rw[Om]
  split
  · cases g x ρ with
    |none=>rfl
    |some ρ1=>
     dsimp only
     cases mt ρ1 S with
     |ok b S2=>
      rw[T5]
      dsimp only
      split
      · cases me ρ1 S2 with
        |ok y S3=>
         rw[T5]
         dsimp only
         cases S3[n]? with
         |none=>rfl
         |some o=>cases o with
          |lst acc=>dsimp only;split<;>rfl
          |_=>rfl
        |_=>rfl
      · rfl
     |_=>rfl
  · rfl
theorem amY:Wp (zP (.str a) [.str b] S) Q E=(if (b.length==0)=false/\a.length+2<=sizeLine then Q (.ref S.length) (S++[.lst ((Txt.split a b).map CV.str)]) else False):=by
 show Wp (if _ then _ else _) Q E=_
 split<;>rfl
theorem auS{c:Str}{nk:Nat}{ix:List Nat}:Wp (au4 c n nk ix m ms ρ S) Q E=Wp (ms ρ S) (fun xs S1=>Wp (Pb c n nk ix m xs S1) Q E) E:=bW
theorem arL{n0 nk:Nat}{ix:List Nat}{cs ds:List CV}:Wp (abO n n0 nk ix m cs ds S) Q E=(if cs.length=n0/\ds.length=nk then Wp (app n m (sel ix (cs++ds)) S) Q E else False):=by
 unfold abO;split<;>rfl
theorem aod{c:Str}{g:List CV->M CV}:Wp (aqw c g (mC (.cls c)) ms ρ S) Q E=Wp (ms ρ S) (fun xs S1=>Wp (g xs S1) Q E) E:=by
 unfold aqw;rw[bW,aky];show Wp (if c=c then _ else _) Q E=_;rw[if_pos rfl];exact bW
theorem amH{i:Nat}{tbl:List (Str×Nat×(List CV->M CV))}:Wp (anH i tbl ms ρ S) Q E=Wp (aK i ρ S) (fun x S1=>match au7 tbl x with|some g=>Wp (ms ρ S1) (fun xs S2=>Wp (g xs S2) Q E) E|none=>False) E:=by
 unfold anH;rw[bW];congr;funext x S1
 cases au7 tbl x with
 |none=>rfl
 |some g=>exact bW
end
theorem alp{α:Type}{r:Res α}{a:α}{S1:Sto}(h:Wp r (fun v S'=>v=a/\S'=S1) NoE):r=.ok a S1:=by
 obtain⟨v,S',e,rfl,rfl⟩:=h.ex
 exact e
theorem jY.lt{p c:Nat}{cells:List Int}{T:Int}{S:Sto}(h:jY p c cells T S):p<S.length:=by
 obtain⟨t,r,h1,_⟩:=h
 exact(aa.mp h1).1
section
variable {X:Cx}{W:WX}{a b c e o:Expr}{es:List Expr}{ma mb mc me mo:Rho->M CV}{ms:Rho->M (List CV)}{pos:Pos}
def chK(k:M CV):CV->M CV:=fun z S=>match z with
 |.bl true=>k S
 |.bl false=>.ok (.bl false) S
 |_=>.bad
def O9(g g':CV->CV->M CV)(ma mb mc:Rho->M CV):Rho->M CV:=fun ρ=>bnd (ma ρ) fun x=>bnd (mb ρ) fun y=>bnd (g x y) (chK (bnd (mc ρ) fun w=>g' y w))
theorem aeg{op op':CmpOp}{g g':CV->CV->M CV}(ho:OpG X W (compareOp op) g)(ho':OpG X W (compareOp op') g')(ha:GE X W a ma)(hb:GE X W b mb)(hc:GE X W c mc)
    (hm:lastMarks [op,op'] [b,c]=false:=by with_unfolding_all rfl):GE X W (.Compare a [op,op'] [b,c] pos) (O9 g g' ma mb mc):=by
  refine⟨fun pins s σ H Q I ⟨ι,ρ,S,Rs,rs,fi⟩=>?_⟩
  refine Compare_chain (thn (ha.run pins s σ H _ I ⟨ι,ρ,S,Rs,rs,Fin.bnd (R:=bx X.K X.mg) fi⟩) fun v' s1 ⟨v,H1,I1,r1,ι1,S1,x,n1,rx,f1⟩=>chain_link (thn (hb.run pins s1 σ H1 _ I1 ⟨ι1,ρ,S1,n1.rs,n1.cY Rs rs,Fin.bnd (R:=bx X.K X.mg) f1⟩) fun u' s2 ⟨u,H2,I2,r2,ι2,S2,y,n2,ry,f2⟩=>
    thn (ho pins s2 σ H2 ι2 S2 x y v u v' u' _ I2 r1 r2 n2.rs (n2.rep n1.rs rx) ry (Fin.bnd (R:=bx X.K X.mg) f2)) fun d s3 ⟨z,H3,I3,r3,ι3,S3,zc,n3,rz,f3⟩=>?_)) hm
  cases zc with
  |bl k=>
   cases rz
   cases r3
   refine wpAny_truthy_bool ?_
   cases k with
   |false=>exact ite_ff ⟨.bl false,H3,I3,rfl,Fin.ret n3.rs f3 (.bl _)⟩
   |true=>
    refine ite_tt (chain_last (thn (hc.run pins s3 σ H3 _ I3 ⟨ι3,ρ,S3,n3.rs,n3.cY n2.rs (n2.cY n1.rs (n1.cY Rs rs)),Fin.bnd (R:=bx X.K X.mg) f3⟩) fun w' s4 ⟨wv,H4,I4,r4,ι4,S4,w,n4,rw',f4⟩=>?_))
    exact ho' pins s4 σ H4 ι4 S4 y w u wv u' w' Q I4 r2 r4 n4.rs (n4.rep n3.rs (n3.rep n2.rs ry)) rw' f4
  |_=>exact f3.elim
theorem alx{op op':CmpOp}{g g':CV->CV->M CV}(ho:OpG X W (compareOp op) g)(ho':OpG X W (compareOp op') g')(ha:GE X W a ma)(hb:GE X W b mb)(hc:GE X W c mc)
    (hm:lastMarks [op,op'] [b,c]=false:=by with_unfolding_all rfl):GT X W (.Compare a [op,op'] [b,c] pos) (eO (O9 g g' ma mb mc)):=by
  refine⟨fun pins s σ H Q I ⟨ι,ρ,S,Rs,rs,fi⟩=>?_⟩
  have fi':Fin X.K X.mg ι H (bx X.K X.mg) (O9 g g' ma mb mc ρ S) (fun v H'=>∃k,v=.bl k/\Q k H') (fun c d H'=>W c d σ H'):=(Fin.bnd (R:=bx X.K X.mg) fi).imp fun v H1 ⟨ι1,S1,x,n1,rx,f1⟩=>anb n1.rs rx f1
  refine isTrue_chain (thn (ha.run pins s σ H _ I ⟨ι,ρ,S,Rs,rs,Fin.bnd (R:=bx X.K X.mg) fi'⟩) fun v' s1 ⟨v,H1,I1,r1,ι1,S1,x,n1,rx,f1⟩=>test_link (thn (hb.run pins s1 σ H1 _ I1 ⟨ι1,ρ,S1,n1.rs,n1.cY Rs rs,Fin.bnd (R:=bx X.K X.mg) f1⟩) fun u' s2 ⟨u,H2,I2,r2,ι2,S2,y,n2,ry,f2⟩=>
    thn (ho pins s2 σ H2 ι2 S2 x y v u v' u' _ I2 r1 r2 n2.rs (n2.rep n1.rs rx) ry (Fin.bnd (R:=bx X.K X.mg) f2)) fun d s3 ⟨z,H3,I3,r3,ι3,S3,zc,n3,rz,f3⟩=>?_)) hm
  cases zc with
  |bl k=>
   cases rz
   cases r3
   refine wpAny_truthy_bool ?_
   cases k with
   |false=>
    obtain⟨k',e',q'⟩:=Fin.ret n3.rs f3 (.bl _)
    cases e'
    exact ite_ff ⟨H3,I3,q'⟩
   |true=>
    refine ite_tt (test_last (thn (hc.run pins s3 σ H3 _ I3 ⟨ι3,ρ,S3,n3.rs,n3.cY n2.rs (n2.cY n1.rs (n1.cY Rs rs)),Fin.bnd (R:=bx X.K X.mg) f3⟩) fun w' s4 ⟨wv,H4,I4,r4,ι4,S4,w,n4,rw',f4⟩=>?_))
    refine thn (ho' pins s4 σ H4 ι4 S4 y w u wv u' w' _ I4 r2 r4 n4.rs (n4.rep n3.rs (n3.rep n2.rs ry)) rw' f4) fun d s5 ⟨z,H5,I5,r5,k5,e5,q5⟩=>?_
    subst e5
    cases r5
    exact wpAny_truthy_bool ⟨H5,I5,q5⟩
  |_=>exact f3.elim
def bools:List CV->Option (List Bool)
 | []=>some []
 |.bl b::l=>(bools l).map (b:: ·)
 |_::_=>none
theorem ad9:∀{l:List CV}{bs:List Bool},bools l=some bs->l=bs.map CV.bl
 | [],bs,h=>by cases h;rfl
 |x::l,bs,h=>by
  cases x with
  |bl b=>
   unfold bools at h
   cases e:bools l with
   |none=>rw[e]at h;cases h
   |some cs=>rw[e]at h;cases h;rw[ad9 e];rfl
  |_=>cases h
theorem aQ.bls{K:ae}{mg:Str->Option Value}{ι:List Addr}{H:Hp}:∀{bs:List Bool}{vs:List V},aQ K mg ι H (bs.map CV.bl) vs->vs=bs.map V.bl
 | [],_,.nil=>rfl
 |_::_,_,.cons (.bl _) rs=>by rw[ax,aQ.bls rs]
def ae9:List CV->M CV:=fun xs S=>match xs with
 | [.ref n]=>match S[n]? with
  |some (.lst ys)=>match bools ys with
   |some bs=>.ok (.bl (bs.all id)) S
   |none=>.bad
  |_=>.bad
 |_=>.bad
theorem Bf(hc:X.calm=true:=by rfl):oH X W (.builtin "all") ae9:=oW (cr_all hc) fun ι S H xs vs Q B Rs rx fi=>by
 unfold ae9 at fi
 split at fi
 ·obtain⟨v,rfl,r⟩:=one_of rx
  cases r with
  |ref hq=>
   split at fi
   ·rename_i ys ey
    split at fi
    ·rename_i bs eb
     obtain⟨us,h1,r1⟩:=Rs.obj _ _ _ hq ey
     rw[ad9 eb]at r1
     rw[r1.bls]at h1
     exact⟨_,bs,rfl,SqL.of h1,Fin.ret Rs fi (.bl _)⟩
    ·exact fi.elim
   ·exact fi.elim
 ·exact fi.elim
end
/-- everything of S0 stands in S -/
def ZF(S0 S:Sto):Prop:=∀(m:Nat)(o:CO),S0[m]?=some o->S[m]?=some o
theorem ZF.refl{S:Sto}:ZF S S:=fun _ _ h=>h
theorem ZF.trans{S S1 S2:Sto}(h:ZF S S1)(h':ZF S1 S2):ZF S S2:=fun m o e=>h' m o (h m o e)
theorem ZF.app{S l:Sto}:ZF S (S++l):=fun _ _ h=>iK h
theorem ZF.ext{p:Nat}{S S1:Sto}(h:ZF S S1):Ext p S S1:=fun m o _ e=>h m o e
theorem ZF.len{S S1:Sto}(h:ZF S S1):S.length<=S1.length:=by
 rcases ir S1.length S.length with hl|hl
 ·have e:=h S1.length S[S1.length] (ay hl)
  rw[List.getElem?_eq_none (ba _)]at e
  cases e
 ·exact hl
/-- a result told, sealed (so that Lean does not run what it speaks of) -/
structure Tr{α:Type}(r:Res α)(Q:α->Sto->Prop):Prop where
 wp:Wp r Q NoE
theorem Tr.mono{α:Type}{r:Res α}{Q Q':α->Sto->Prop}{E:Str->List (Str×CV)->Sto->Prop}(h:Tr r Q)(k:∀a S,Q a S->Q' a S):Wp r Q' E:=h.wp.mono k
inductive am3(R:CV->CV->Prop):List CV->List CV->Prop where
 |nil:am3 R [] []
 |cons {x y:CV} {xs ys:List CV} (h:R x y) (t:am3 R xs ys):am3 R (x::xs) (y::ys)
theorem am3.length{R:CV->CV->Prop}:∀{xs ys:List CV},am3 R xs ys->ys.length=xs.length
 |_,_,.nil=>rfl
 |_,_,.cons _ t=>by rw[ai,ai,am3.length t]
abbrev one(x:Nat):Str:=⟨#[x]⟩
/-- what the __init__ of an own exception does that keeps its arguments -/
def spX(K:ae)(fs:List Str):Sp:=fun vs H Q _=>∃(a C:Addr) (ws:List V),vs=.ref a::ws/\ws.length=fs.length/\OexC K C/\(∀f∈fs,bE K (.ref C) f=some none)/\H a=some (exo a C none)/\
 ∀dx,H dx=none->dx≠a->Q .non (upd (upd H dx (exd dx (fs.zip ws).reverse)) a (exo a C (some dx)))
section
variable {P:Program}{w:World}{K:ae}{mg:Str->Option Value}{base:Heap}{x qual:Str}{st:Stmt}{fI:Addr}{fd:FuncData}{f g:Str}{p1 p2 p3 p4 q1 q2 q3 q4:Pos}
theorem aoh(F:Fun K x qual st fI fd)(Sc:FnScope ["self",f] ["self",f] (defScope st))(hb:defBody st=[.Assign [.Attribute (.Name "self" p1) f p2] (.Name f p3) p4])(v0:Vis (defScope st) "self")(v1:Vis (defScope st) f)
    (hd:(f==("__debug__":Str))=false:=by decide)(hcd:(f==("__classdict__":Str))=false:=by decide):FnOk P w K mg base (fo P w) 1 fI fd ["self",f] (spX K [f]):=by
  refine F.okX (k:=0) Sc (fun vs H Q E h=>by obtain⟨a,C,ws,rfl,hl,_⟩:=h;simp[hl]) fun cdv A outer s H vs Q E hr hsp=>?_
  rw[hb]
  obtain⟨a,C,ws,rfl,hl,T,hf,ha,hq⟩:=hsp
  match ws,hl with
  | [y],_=>
    refine⟨_,pss_one (ps_ost (pe_var (i:=0) rfl v0) (pe_var (i:=1) rfl v1 hd hcd)),?_⟩
    exact⟨y,rfl,.ref a,rfl,a,C,rfl,T,hf f af,.inl ⟨ha,fun dx h1 h2=>hq dx h1 h2⟩⟩
end
/-- an own exception class whose __init__ keeps its arguments under the names fs -/
structure ExcAt(K:ae)(mg:Str->Option Value)(c:Str)(fs:List Str)(C fI:Addr):Prop where
 gl:mg c=some (.ref C)
 oex:OexC K C
 ini:bE K (.ref C) "__init__"=some (some (.ref fI))
 ty:fR K (.ref fI)=some (.type "function")
 nf:∀f∈fs,bE K (.ref C) f=some none
structure XMk(P:Program)(w:World)(K:ae)(mg:Str->Option Value)(base:Heap)(c:Str)(fs:List Str):Prop where
 ex:∃C fI fd ps,ExcAt K mg c fs C fI/\FnOk P w K mg base (fo P w) 1 fI fd ps (spX K fs)/\Binds K fd ps []
def BW(c:Str)(fs:List Str)(ms:Rho->M (List CV)):Rho->M CF:=fun ρ S=>lft ρ (ms ρ S) fun xs S1=>if xs.length=fs.length then .ok (.xc c (fs.zip xs).reverse ρ) S1 else .bad
theorem fL.zip{K:ae}{mg:Str->Option Value}{ι:List Addr}{H:Hp}:∀{fs:List Str}{cs:List CV}{vs:List V},aQ K mg ι H cs vs->fL K mg ι H (fs.zip cs) (fs.zip vs)
 | [],_,_,_=>by simpa using fL.nil
 |_::_,_,_,.nil=>by simpa using fL.nil
 |f::fs,_,_,.cons r rs=>by
  rw[iS,iS]
  exact .cons r (fL.zip rs)
theorem fL.append{K:ae}{mg:Str->Option Value}{ι:List Addr}{H:Hp}:∀{cs ds:List (Str×CV)}{vs us:List (Str×V)},fL K mg ι H cs vs->fL K mg ι H ds us->fL K mg ι H (cs++ds) (vs++us)
 |_,_,_,_,.nil,s=>s
 |_,_,_,_,.cons r t,s=>.cons r (fL.append t s)
theorem fL.reverse{K:ae}{mg:Str->Option Value}{ι:List Addr}{H:Hp}:∀{cs:List (Str×CV)}{vs:List (Str×V)},fL K mg ι H cs vs->fL K mg ι H cs.reverse vs.reverse
 |_,_,.nil=>.nil
 |_,_,.cons r t=>by
  rw[cB,cB]
  exact fL.append (fL.reverse t) (.cons r .nil)
section
variable {X:Cx}{W:WX}{e:Expr}{es:List Expr}{ms:Rho->M (List CV)}{p pos pos':Pos}{c:Str}{fs:List Str}
theorem Ir(Ex:XMk X.prog X.w X.K X.mg X.base c fs)(hr:RmG 2 X.A)(tk:Takes X W)(ha:GA X W (e::es) ms)(hc:X.calm=true:=by rfl)(hg:Gl X c:=by rfl)(hl:fs.length<=900:=by decide)(hdb:(c==("__debug__":Str))=false:=by decide)
    (he:starEach (e::es) X.env=(false,eval e X.env)::starEach es X.env:=by rfl)(hpl:(backTo pos (starEach es X.env)).any (·.1)=false:=by rfl):
    GS X W (.Raise (some (.Call (.Name c p) (e::es) [] pos)) none pos') (BW c fs ms):=by
  obtain⟨C,fI,fd,ps,E,F,hb⟩:=Ex.ex
  refine PS.imp (ps_raise hc tk (pmk_oex (CX:=fo X.prog X.w) E.oex E.ini E.ty F hr.rm hb (dvs:=[]) .nil passL hg E.gl ha hdb he hpl)) fun D σ H ⟨ι,ρ,S,Rs,rs,fi⟩=>?_
  refine⟨ι,ρ,S,Rs,rs,(zu.lft (R:=aQ X.K X.mg) Rs rs fi).imp fun vs H1 ⟨ι1,S1,xs,n1,rx,f1⟩=>?_⟩
  split at f1
  · rename_i hx
    have hlv:vs.length=fs.length:=by rw[<-rx.length];exact hx
    refine⟨by omega,fun a hn=>?_⟩
    refine⟨a,C,vs,by rw[aT],hlv,E.oex,E.nf,upd_same,fun dx h1 h2=>?_⟩
    rw[upd_ne h2]at h1
    refine⟨rfl,dx,_,upd_same,by rw[upd_ne h2,upd_same],h1,?_⟩
    have eH:upd (del (upd (upd (upd H1 a (exo a C none)) dx (exd dx (fs.zip vs).reverse)) a (exo a C (some dx))) a) dx (.xd (fs.zip vs).reverse)=upd H1 dx (.xd (fs.zip vs).reverse):=by
      funext b
      by_cases hbd:b=dx
      · subst hbd;rw[upd_same,upd_same]
      · rw[upd_ne hbd,upd_ne hbd]
        by_cases hba:b=a
        · subst hba;rw[del_same,hn]
        · rw[del_ne hba,upd_ne hba,upd_ne hbd,upd_ne hba]
    rw[eH]
    have n2:Nx X.K X.mg ι1 H1 S1 ι1 (upd H1 dx (.xd (fs.zip vs).reverse)):=n1.rs.side h1
    exact f1 C dx _ σ ι1 _ E.gl n2 (n2.cY n1.rs (n1.cY Rs rs)) upd_same (n2.asQ n1.rs (fL.reverse (fL.zip rx)))
  · exact f1.elim
end
section
variable {X:Cx}{pins:List (Addr×Obj)}{σ:cz}{H:Hp}{s:Shared}{a:Addr}
/-- an object of the heap that nothing tells of, and that is new since the entry, is told of from now on -/
theorem Inv.tell{u:HO}{oe:Obj}{vs:Array Value}(I:Inv X pins σ H s)(ha:s.heap.get? a=some oe)(hd:oe.data=.fields vs)(na:H a=none)(n0:X.s_0.heap.get? a=none)(nl:a≠X.env.locals)(np:∀q∈X.pn++pins,q.1≠a)(ok:ObjOk X.prog X.w (upd H a u) s.heap a u):Inv X pins σ (upd H a u) s:=by
 have ne:∀{b:Addr}{o:HO},H b=some o->b≠a:=fun {b o} e=>ne_of_none e na
 have nc:∀z c,X.env.cells.lookup z=some c->c≠a:=fun z c e q=>by
  obtain⟨v,o,ho,hc⟩:=I.cell z c e
  rw[q,ha]at ho
  cases ho
  rw[hd]at hc
  cases hc
 constructor
 ·exact I.ok
 ·exact I.os
 ·exact I.bare
 ·constructor
  ·exact I.base.keep
  ·exact I.base.slot
  ·intro b o e n hx
   rw[upd_ne (fun z=>by rw[z,n0]at e;cases e)]
   exact I.base.free b o e n hx
  ·exact I.base.there
  ·intro b xs e
   have q:=I.base.tups b xs e
   rw[upd_ne (ne q)];exact q
  ·intro b o v e
   have q:=I.base.frzs b o v e
   rw[upd_ne (ne q)];exact q
  ·intro b ps e
   obtain⟨more,q⟩:=I.base.tbls b ps e
   exact⟨more,by rw[upd_ne (ne q)];exact q⟩
 ·exact I.loc
 ·exact I.cell
 ·rw[upd_ne (eW nl)];exact I.free
 ·intro z c e
  rw[upd_ne (nc z c e)];exact I.freeC z c e
 ·intro q hq
  obtain⟨e1,e2,e3⟩:=I.pin q hq
  exact⟨e1,by rw[upd_ne (np q hq)];exact e2,e3⟩
 ·intro b o e
  by_cases hb:b=a
  ·subst hb
   rw[upd_same]at e
   cases e
   exact ok
  ·rw[upd_ne hb]at e
   exact(I.hok b o e).stay (fun _ _ _ q=>q) (fun c q=>by rw[upd_ne (ne q)];exact q) fun c xs q=>by rw[upd_ne (ne q)];exact q
 ·exact I.len
theorem apF{P:Program}{w:World}{h:Heap}{C d:Addr}{o:Obj}{vs:Array Value}(e:h.get? a=some o)(hc:o.cls=.ref C)(hd:o.dict=some d)(hv:o.data=.fields vs):ObjOk P w H h a (aph a C d):=
 ⟨⟨o,vs,e,hc,hd,hv⟩,⟨o,e⟩,fun _ _ ⟨o,v,q,r⟩ k=>⟨o,v,k o q,r⟩⟩
end
/-- what the clause wishes: i the name's slot, j the slot of what keeps it -/
def aoE(K:ae)(c:Value)(i j:Nat)(Wout:WX)(D:lb):WX:=fun cls d σ H=>
 ∃b,eJ K cls c=some b/\(b=true->∃C dd,cls=.ref C/\d=some dd/\∀a,H a=none->D.nx (((σ.set i (some (.ref a))).set j (some (.ref a))).set i none) (upd H a (aph a C dd)))/\(b=false->Wout cls d σ H)
section
variable {X:Cx}{x n y:Str}{c:Value}{i j:Nat}{body:List Stmt}{np pos pos' pa pb pc:Pos}{tb:WX->TS}{Wout:WX}
theorem afR(hs:X.stack=X.env::X.outer)(hf:X.env.frame=some X.env.locals)(hex:X.ex=[])(hN:X.N.Nodup)(hi:X.N[i]?=some n)(hln:X.env.kindOf n=some .local)(hj:X.N[j]?=some y)(hly:X.env.kindOf y=some .local)(hij:i≠j)
    (hc:Names X x c)(tk:Takes X Wout)(hdn:(n==("__debug__":Str))=false)(hcn:(n==("__classdict__":Str))=false)
    (hb:∀(W:WX)(pn:List (Addr×Obj))(xe:Value->Shared->Prop),Takes (X.tr pn xe) W->PassesOwn (model X.prog X.w) X.A X.env xe->PSs (X.tr pn xe) body (tb W)):
    PS X (.Try body [.ExceptHandler (some (.Name x np)) (some n) [.Assign [.Name y pa] (.Name n pb) pc] pos'] [] [] pos) (fun D σ H=>tb (aoE X.K c i j Wout D) D σ H):=by
  constructor
  intro pins s σ H D I hyp
  have okX:=I.ok
  have frm:X.A.frames=some (X.env::X.outer):=okX.frames.trans (congrArg some hs)
  let hdl:List ExceptHandler:=[.ExceptHandler (some (.Name x np)) (some n) [.Assign [.Name y pa] (.Name n pb) pc] pos']
  let air:Value->Shared->Prop:=fun e t=>wpAny (model X.prog X.w) X.A (noteFrame e X.env) (fun _ t2=>wpAny (model X.prog X.w) X.A (setFlight e none) (fun _ t3=>wpAny (model X.prog X.w) X.A (handleBy e X.env hdl) (SP X pins D) X.xe t3) X.xe t2) X.xe t
  have caught:Takes (X.tr (X.pn++pins) air) (aoE X.K c i j Wout D):=by
    rintro u t ⟨a,G,t0,pp,σe,He,cl,dd,rfl,It,grd,ups,sk,fre,osq,bar,k,hk,yes,no⟩
    have J:Inv X pins σe He t0:=It.ofTry okX
    have sk':Sky G (X.env::X.outer) a (Zc cl dd) X.env.locals t.heap:=hs▸sk
    show wpAny (model X.prog X.w) X.A (noteFrame (.ref a) X.env) _ _ t
    refine Sky.land Zc.steady frm hf sk' ?_
    intro h3 ahw up3
    have J3:Inv X pins σe He {t with heap:=h3}:=J.landed grd ahw.1 (ups.trans up3) osq bar
    have offs:∀{h:Heap}{o:Obj}{vs:Array Value},h.FunFrames G (X.env::X.outer)->h.get? a=some o->o.data=.fields vs->a∉frs (X.env::X.outer):=by
      intro h o vs ff e1 e2 hm
      obtain⟨_,o',e3,hnf⟩:=ff.mem hm
      rw[e1]at e3
      cases e3
      exact hnf _ e2
    obtain⟨o3,v3,at3,z3,d3⟩:=ahw.there
    have nfr:=offs ahw.2.2.1 at3 d3
    have nL:a≠X.env.locals:=fun z=>nfr (gO.mpr ⟨X.env,af,by rw[hf,z]⟩)
    have nF:a∉X.fs:=fun hm=>by
      obtain⟨e,he,q⟩:=gO.mp hm
      exact nfr (gO.mpr ⟨e,ag _ he,q⟩)
    have ayx:X.s_0.heap.get? a=none:=by
      cases q:X.s_0.heap.get? a with
      |none=>rfl
      |some o=>
       obtain⟨o',e1⟩:=J.base.there a o q (by rw[hex];exact fun z=>nomatch z)
       have e2:=grd a o' e1 (by rw[hs];exact nfr)
       rw[ahw.2.1]at e2
       cases e2
    have newP:∀q∈X.pn++pins,q.1≠a:=fun q hq z=>by
      obtain⟨e1,e2,e3,e4,_⟩:=J.pin q hq
      have e5:=grd q.1 q.2 e1 (by rw[z,hs];exact nfr)
      rw[z,ahw.2.1]at e5
      cases e5
    have S3:=J3.suite at3 d3 fre nL nF
    refine wpAny_handleBy_cons (codeAny_handlers_test ?_) (by intro q;cases q)
    have aw2:gm (model X.prog X.w) h3 (typeOf (.ref a)) cl:=fun A Q E s k q=>wpAny_typeOf_ref (k _ _ at3) (by rw[z3.1];exact q)
    have matched:=PySem.W.exm_one (M:=model X.prog X.w) J3.kIn aw2 hk
    have named:∀{Q:Value->Shared->Prop}{E:Value->Shared->Prop},Q c {t with heap:=h3}->wpAny (model X.prog X.w) (X.A.mark (some (.ref a))) (eval (.Name x np) X.env) Q E {t with heap:=h3}:=by
      intro Q E q
      obtain⟨hg,hdbg,hm|⟨hm,hv,hnn⟩⟩:=hc
      · exact ld_glob (X:=X.suite a ((a,o3)::(X.pn++pins))) S3 hg hm q hdbg
      · exact ld_blt (X:=X.suite a ((a,o3)::(X.pn++pins))) S3 hg hm hv q hnn hdbg
    refine named (matched.here ?_)
    cases k with
    |false=>
     show wpAny _ X.A (handleBy (.ref a) X.env []) _ _ _
     refine wpAny_handleBy_nil ?_
     obtain⟨k1,k2,k3,oe,vs,T,oT,ts',he,hz,hd,h1,hr⟩:=id ahw
     unfold PySem.passOn
     refine wpAny_bind (wpAny_field he hd h1 ?_)
     rw[if_neg (show ¬((Value.ref T==Value.none)=true) by simp)]
     have onward:wpAny (model X.prog X.w) X.A (setFlight (.ref a) X.env.frame) (fun _ s4=>wpAny (model X.prog X.w) X.A (throw (.ref a):Sem Flow) (SP X pins D) X.xe s4) X.xe {t with heap:=h3}:=by
        rw[hf]
        refine HandSPX.setFlight_upZ ahw ?_
        intro h4 hh4 up4
        exact wpAny_throw (tk _ _ ⟨a,G,t0,pins,σe,He,cl,dd,rfl,J,grd,(ups.trans up3).trans up4,.inr (.inr (by rw[hs];exact hh4)),fre,osq,bar,no rfl⟩)
     first
        |exact wpAny_bind (wpAny_pure (wpAny_bind onward))
        |exact wpAny_bind onward
    |true=>
     obtain⟨C,d1,rfl,rfl,go⟩:=yes rfl
     refine codeAny_handlers_suite_as ?_
     refine HandSPX.lands_againZ ahw ?_
     intro h4 axT up4
     have J4:Inv X pins σe He {t with heap:=h4}:=J.landed grd axT.1 ((ups.trans up3).trans up4) osq bar
     obtain⟨o4,v4,at4,z4,d4⟩:=axT.there
     have S4:=J4.suite at4 d4 fre nL nF
     refine store_ok (X:=X.suite a ((a,o4)::(X.pn++pins))) (v:=.ref a) S4 hN hi (.inl hln) rfl ?_ (.inr hln)
     intro s5 S5
     have atJ:PSs (X.suite a ((a,o4)::(X.pn++pins))) [.Assign [.Name y pa] (.Name n pb) pc] _:=pss_one (ps_set (X:=X.suite a ((a,o4)::(X.pn++pins))) hN hj (.inl hly) (pe_var (X:=X.suite a ((a,o4)::(X.pn++pins))) hi (.inl hln) hdn hcn) rfl (.inr hly))
     have hil:i<σe.length:=by rw[J4.len];exact(aa.mp hi).1
     refine wpAny_mono (atJ.run [] s5 _ He {nx:=fun σ' H'=>σ'=(σe.set i (some (.ref a))).set j (some (.ref a))/\H'=He,rt:=fun _ _=>False} S5 ⟨.ref a,aE hil,rfl,rfl⟩) ?_ (fun _ _ z=>cm z)
     intro f s6 hsp
     cases f with
     |next=>
      obtain⟨σ6,H6,S6,rfl,rfl⟩:=hsp
      refine gone_ok (X:=X.suite a ((a,o4)::(X.pn++pins))) S6 hN hi hln ?_
      intro s7 S7
      obtain⟨at7,axV,_⟩:=S7.pin (a,o4) (eQ _ af)
      exact⟨_,_,Inv.tell (S7.unsuite okX) at7 d4 axV ayx nL newP (apF at7 z4.1 z4.2 d4),go a axV⟩
     |brk=>
      obtain⟨_,_,_,z⟩:=hsp
      exact z.elim
     |cont=>
      obtain⟨_,_,_,z⟩:=hsp
      exact z.elim
     |ret u=>
      obtain⟨_,_,_,_,_,z⟩:=hsp
      exact z.elim
  refine wpAny_Try_except (wpAny_mono ((hb (aoE X.K c i j Wout D) (X.pn++pins) air caught PassesOwn.looking).run [] s σ H D (I.toTry _) hyp) ?_ fun _ _ z=>z)
  intro f s1 hsp
  cases f with
  |next=>
   obtain⟨σ',H',J',q⟩:=hsp
   exact wpAny_execs_nil ⟨σ',H',J'.ofTry okX,q⟩
  |brk=>
   obtain⟨σ',H',J',q⟩:=hsp
   exact⟨σ',H',J'.ofTry okX,q⟩
  |cont=>
   obtain⟨σ',H',J',q⟩:=hsp
   exact⟨σ',H',J'.ofTry okX,q⟩
  |ret u=>
   obtain⟨v,σ',H',J',r,q⟩:=hsp
   exact⟨v,σ',H',J'.ofTry okX,r,q⟩
end
def vZ(tbl:List (Str×Bool))(i j:Nat)(mb:Rho->M CF):Rho->M CF:=fun ρ S=>match mb ρ S with
 |.ok (.xc c fs ρ') S'=>match tbl.lookup c with
  |some true=>.ok (.nx (((ρ'.set i (some (.exn c fs))).set j (some (.exn c fs))).set i none)) S'
  |some false=>.ok (.xc c fs ρ') S'
  |none=>.bad
 |r=>r
section
variable {X:Cx}{W:WX}{x n y:Str}{i j:Nat}{C:Addr}{body:List Stmt}{np pos pos' pa pb pc:Pos}{mb:Rho->M CF}{tbl:List (Str×Bool)}
theorem afw(hN:X.N.Nodup)(tk:Takes X W)(hm:X.mg x=some (.ref C))(ht:∀p∈tbl,∃D,X.mg p.1=some (.ref D)/\eJ X.K (.ref D) (.ref C)=some p.2)
    (hb:∀(W:WX)(pn:List (Addr×Obj))(xe:Value->Shared->Prop),Takes (X.tr pn xe) W->PassesOwn (model X.prog X.w) X.A X.env xe->GSs (X.tr pn xe) W body mb)
    (hs:X.stack=X.env::X.outer:=by rfl)(hf:X.env.frame=some X.env.locals:=by rfl)(hex:X.ex=[]:=by rfl)(hi:X.N[i]?=some n:=by rfl)(hln:X.env.kindOf n=some .local:=by rfl)(hj:X.N[j]?=some y:=by rfl)(hly:X.env.kindOf y=some .local:=by rfl)(hij:i≠j:=by decide)
    (hg:Gl X x:=by rfl)(hdb:(x==("__debug__":Str))=false:=by decide)(hdn:(n==("__debug__":Str))=false:=by decide)(hcn:(n==("__classdict__":Str))=false:=by decide):
    GS X W (.Try body [.ExceptHandler (some (.Name x np)) (some n) [.Assign [.Name y pa] (.Name n pb) pc] pos'] [] [] pos) (vZ tbl i j mb):=by
  refine PS.imp (afR (tb:=fun W=>tS X.K X.mg W mb) hs hf hex hN hi hln hj hly hij ⟨hg,hdb,.inl hm⟩ tk hdn hcn hb) fun D σ H ⟨ι,ρ,S,Rs,rs,fi⟩=>⟨ι,ρ,S,Rs,rs,?_⟩
  unfold vZ at fi
  cases r:mb ρ S with
  |bad=>rw[r]at fi;exact fi
  |exc _ _ _=>rw[r]at fi;exact fi
  |ok f S'=>
   rw[r]at fi
   cases f with
   |nx _=>exact fi
   |rt _=>exact fi
   |bk _=>exact fi
   |ct _=>exact fi
   |xc c fs ρ'=>
    intro C' d gs σ' ι' H' hm' n' rs' hd rf
    dsimp only at fi
    split at fi
    · rename_i hl
      obtain⟨D',hm2,he⟩:=ht _ (j6 hl)
      rw[hm']at hm2;cases hm2
      refine⟨true,he,fun _=>⟨C',d,rfl,rfl,fun a na=>?_⟩,fun z=>nomatch z⟩
      have n2:Nx X.K X.mg ι' H' S' ι' (upd H' a (aph a C' d)):=n'.rs.side na
      have rep:bx X.K X.mg ι' (upd H' a (aph a C' d)) (.exn c fs) (.ref a):=.exn hm' upd_same (by rw[upd_ne (ne_of_none hd na)];exact hd) (n2.asQ n'.rs rf)
      exact fi _ ι' _ (n'.trans n2) ((((n2.cY n'.rs rs').set i rep).set j rep).unset i none)
    · rename_i hl
      obtain⟨D',hm2,he⟩:=ht _ (j6 hl)
      rw[hm']at hm2;cases hm2
      exact⟨false,he,(fun z=>nomatch z),fun _=>fi C' d gs σ' ι' H' hm' n' rs' hd rf⟩
    · exact fi.elim
end
def abQ(f:Str)(tbl:List Str)(g:CV->M CV):CV->M CV:=fun x S=>match x with
 |.exn c fs=>if c∈tbl then (match fs.lookup f with|some v=>.ok v S|none=>.bad) else .bad
 |_=>g x S
theorem ar7{X:Cx}{W:WX}{f:Str}{tbl:List Str}{g:CV->M CV}(ht:∀c∈tbl,∃C,X.mg c=some (.ref C)/\XfC X.K C/\bE X.K (.ref C) f=some none)(hg:arX X W f g):arX X W f (abQ f tbl g):=by
 intro pins s σ H ι S x v a Q I rv Rs rx fi
 cases x with
 |exn c fs=>
  cases rx with
  | @exn a' C d _ _ gs hm ho hd rf=>
   cases rv
   unfold abQ at fi
   dsimp only at fi
   split at fi
   ·rename_i hc
    obtain⟨C',hm',T,hno⟩:=ht c hc
    rw[hm]at hm';cases hm'
    split at fi
    ·rename_i cv hf
     obtain⟨u,hu,ru⟩:=rf.look_some hf
     have ox:ObjOk X.prog X.w H s.heap a' (.ext _):=I.hok a' _ ho
     obtain⟨⟨oe,vs,e1,e2,e3,e4⟩,_⟩:=ox
     have hx:ObjOk X.prog X.w H s.heap d (.xd gs):=I.hok d _ hd
     obtain⟨mA,hns,hr⟩:=hx
     obtain⟨od,hod,hl⟩:=lookIn_ns hns
     obtain⟨u',hu',ru'⟩:=RelO.some_of (v:=u) (o:=mA f) (by rw[<-hu];exact hr f)
     have J:gF s.heap a' oe C (some od):=⟨e1,e2,by unfold k7;rw[e4]<;>rfl,by rw[e3];exact hod⟩
     exact HandSPX.exc_get I.kIn J T.ga T.gg T.exC (PySem.W.findObj_own T.hdC hno rfl (by rw[hl,hu'])) (handed_of ru') ⟨u,H,I.tok _,ru',Fin.ret Rs fi ru⟩
    ·exact fi.elim
   ·exact fi.elim
 |_=>exact hg pins s σ H ι S _ v a Q I rv Rs rx fi
section
variable {K:ae}{x D:Addr}{ox od:Obj}
theorem aiG(Ec:ExcC K D){prog:Program}{w:World}{A:Around}{E:Value->Shared->Prop}{Q:Option Value->Shared->Prop}{s:Shared}(inK:K.In s.heap)(I:gF s.heap x ox D (some od))(h:Q (some (.ref D)) {s with toks:=s.toks+1}):
    wpAny (model prog w) A (getAttr? (.ref x) "__class__") Q E s:=by
  have avw:(fq K D).isSome=true:=by
    obtain⟨cd,hc,_⟩:=iX Ec.hd
    rw[hc];rfl
  have found:PySem.W.findObj K D (some od) "__class__"=some (.bind (.builtin "getset_descriptor.__get__") (.builtin "object.__class__")):=kq avw Ec.ha Ec.hn Ec.ht
  obtain⟨hp,g,d,t,os⟩:=s
  have lT:=I.type (M:=model prog w)
  have lG:=km (M:=model prog w) inK Ec.hg
  have lK:=km (M:=model prog w) inK Ec.hk
  have lF:=PySem.W.looks_find (M:=model prog w) inK I found
  have isB:gm (model prog w) hp (isInstance (.ref x) (.type "BaseException")) true:=lT.andThen (PySem.W.looks_subIn inK Ec.hs)
  unfold getAttr? getAttrBy? getAttrBy
  refine wpAny_bind (wpAny_mkText (wpAny_bind (wpAny_attempt (wpAny_holding (wpAny_bind (lT.at (wpAny_bind (lG.at ?_))))))))
  show wpAny _ _ (if (onTheHeap (Value.ref D)&&
    Value.builtin "BaseException.__getattribute__"==Value.builtin "object.__getattribute__")=true then _ else _) _ _ _
  rw[if_neg (show ¬(onTheHeap (Value.ref D)&&Value.builtin "BaseException.__getattribute__"==Value.builtin "object.__getattribute__")=true by
    have e:(Value.builtin "BaseException.__getattribute__"==Value.builtin "object.__getattribute__")=false:=by decide+kernel
    rw[e,kg];decide)]
  unfold getAttrByItsOwn hookBefore
  refine wpAny_bind ?_
  rw[if_pos (show onTheHeap (Value.ref D)=true from rfl)]
  refine lK.at (wpAny_bind (wpAny_attempt (wpAny_holding ?_)))
  unfold callGetattribute
  rw[if_neg (show ¬(false&&onTheHeap (Value.builtin "BaseException.__getattribute__"))=true by decide)]
  unfold boundAndCalled
  rw[ja.ga.bind (.ref x)]
  refine wpAny_bind (wpAny_pure ?_)
  show wpAny _ _ (call (.builtin "BaseException.__getattribute__") [.ref x,.str "__class__" t]) _ _ _
  refine wpAny_call (codeAny_call_builtin ja.ga.plain PySem.F.entry_bexc_ga (@PySem.W.check_slot (model prog w) _ _ ⟨hp,g,d,t+1,os⟩ "BaseException.__getattribute__" "BaseException" "__getattribute__" (.ref x) [.str "__class__" t] [] _ (by decide+kernel) (by decide+kernel) isB (PySem.F.args_bexc_ga (.ref x) (.str "__class__" t)) ?_))
  unfold Builtin.«object.__getattribute__»
  refine wpAny_bind (wpAny_of_eq (a:=((Value.ref x:Value),[Value.str "__class__" t])) (by first|rfl|(simp only[slotArgs];rfl)) (wpAny_bind (wpAny_pure (wpAny_bind (lT.at (wpAny_bind (lF.at ?_)))))))
  show wpAny _ _ (holding [Value.builtin "object.__class__"] (call (.builtin "getset_descriptor.__get__") [.builtin "object.__class__",.ref x,.ref D])>>=iN) _ _ _
  refine wpAny_bind (wpAny_holding (wpAny_call (PySem.W.class_get (s:=⟨hp,g,d,t+1,os⟩) (ox:=ox) (od:=some od) inK I Ec.hm (wpAny_pure ?_))))
  show wpAny _ _ (handedOut (.ref D)) _ _ _
  rw[kn (v:=.ref D) rfl]
  first
    |exact wpAny_pure (wpAny_pure h)
    |exact wpAny_pure h
    |exact wpAny_pure (wpAny_bind (wpAny_pure (wpAny_pure h)))
theorem apG(Ec:ExcC K D):PySem.W.KitX K (.ref x) (.ref D) (fun h=>gF h x ox D (some od)) where
 ty:=fun _ _ _ I=>I.type
 it:=fun _ _ inK _=>by
  obtain⟨cdD,hcD,_⟩:=iX Ec.hd
  unfold fq at hcD
  split at hcD
  ·rename_i ho
   intro A' Q' E' s' k q
   unfold isType loadHead
   exact wpAny_bind (wpAny_loadPart (k _ _ (inK _ _ ho)) (wpAny_pure q))
  ·cases hcD
 ne:=fun h tp dd its n sl inK htp=>(PySem.W.handS_kitx_exc (x:=x) (ox:=⟨.ref D,none,.fields #[],#[]⟩) Ec.hg Ec.hk Ec.hs Ec.hd Ec.ha Ec.hn Ec.ht Ec.hm).ne h tp dd its n sl inK htp
 ca:=fun inK I k=>aiG Ec inK I k
/-- isinstance(x, c), x an exception: by the tables; else as g says -/
def Aa(tO:List ((Str×Str)×Bool))(tB:List ((Str×String)×Bool))(g:List CV->M CV):List CV->M CV:=fun xs S=>match xs with
 | [.exn c _,.cls d]=>match tO.lookup (c,d) with
  |some b=>.ok (.bl b) S
  |none=>.bad
 | [.exn c _,.ty T]=>match tB.lookup (c,T) with
  |some b=>.ok (.bl b) S
  |none=>.bad
 |_=>g xs S
theorem Dt{α β:Type}[BEq α][LawfulBEq α]{c:α}{v:β}:∀{tbl:List (α×β)},tbl.lookup c=some v->(c,v)∈tbl
 | [],h=>nomatch h
 |(d,u)::r,h=>by
  unfold dS at h
  split at h
  ·rename_i hc
   cases h
   rw[eq_of_beq hc]
   exact af
  ·exact ag _ (Dt h)
theorem o7{X:Cx}{W:WX}{tO:List ((Str×Str)×Bool)}{tB:List ((Str×String)×Bool)}{g:List CV->M CV}(hO:∀q∈tO,∃C D,X.mg q.1.1=some (.ref C)/\ExcC X.K C/\X.mg q.1.2=some (.ref D)/\aS X.K (.ref C) (.ref D)=some q.2)
    (hB:∀q∈tB,∃C,X.mg q.1.1=some (.ref C)/\ExcC X.K C/\aS X.K (.ref C) (.type q.1.2)=some q.2)(hg:oH X W (.builtin "isinstance") g):oH X W (.builtin "isinstance") (Aa tO tB g):=by
  intro pins s σ H ι S xs vs us Q I rv Rs rx fi
  have one:∀{c:Str}{fs:List (Str×CV)}{C:Addr}{k:CV}{v u:V}{b1 b2:Value}{t:Value}{b:Bool},X.mg c=some (.ref C)->ExcC X.K C->bx X.K X.mg ι H (.exn c fs) v->RelV v b1->b2=t->aS X.K (.ref C) t=some b->Q (.bl b) H->
      wpAny (model X.prog X.w) X.A (call (.builtin "isinstance") [b1,b2]) (EP X pins σ Q) X.xe s:=by
    intro c fs C k v u b1 b2 t b hm Ec r rl hb2 hk q
    cases r with
    | @exn a C' d _ _ gs hm' ho hd rf=>
      rw[hm]at hm';cases hm'
      cases rl
      subst hb2
      have ox:ObjOk X.prog X.w H s.heap a (.ext _):=I.hok a _ ho
      obtain⟨⟨oe,ws,e1,e2,e3,e4⟩,_⟩:=ox
      have hx:ObjOk X.prog X.w H s.heap d (.xd gs):=I.hok d _ hd
      obtain⟨mA,hns,_⟩:=hx
      obtain⟨od,hod,_⟩:=lookIn_ns hns
      have J:gF s.heap a oe C (some od):=⟨e1,e2,by unfold k7;rw[e4]<;>rfl,by rw[e3];exact hod⟩
      exact kP (apG Ec) I.kIn J hk (fun z=>nomatch z) fun tk=>⟨.bl b,H,I.tok tk,rfl,q⟩
  unfold Aa at fi
  split at fi
  · obtain⟨v,u,rfl,r1,r2⟩:=Pu rx
    cases rv with
    |cons ra rr=>cases rr with
     |cons rb rr=>
      cases rr
      split at fi
      · rename_i hl
        obtain⟨C,D,hm,Ec,hm2,hk⟩:=hO _ (Dt hl)
        cases r2 with
        |cls hd=>
         rw[hm2]at hd;cases hd
         exact one (k:=.non) (u:=.non) hm Ec r1 ra rb hk (Fin.ret Rs fi (.bl _))
      · exact fi.elim
  · obtain⟨v,u,rfl,r1,r2⟩:=Pu rx
    cases rv with
    |cons ra rr=>cases rr with
     |cons rb rr=>
      cases rr
      split at fi
      · rename_i hl
        obtain⟨C,hm,Ec,hk⟩:=hB _ (Dt hl)
        cases r2 with
        |ty=>exact one (k:=.non) (u:=.non) hm Ec r1 ra rb hk (Fin.ret Rs fi (.bl _))
      · exact fi.elim
  · exact hg pins s σ H ι S xs vs us Q I rv Rs rx fi
end
theorem tX.of{K:ae}{mg:Str->Option Value}{ι:List Addr}{H:Hp}:∀{ρ:Rho}{σ:cz},d8 K mg ι H ρ σ->tX K mg ι H ρ σ
 | [],σ,r=>by
  have:=r.len
  cases σ with
  |nil=>exact .nil
  |cons _ _=>cases this
 |c::ρ,σ,r=>by
  have hl:=r.len
  cases σ with
  |nil=>cases hl
  |cons o σ=>
   have rest:d8 K mg ι H ρ σ:=⟨by simpa using hl,fun i d e=>r.at' (i+1) d (by simpa using e)⟩
   cases c with
   |none=>exact .none (tX.of rest)
   |some c=>
    obtain⟨v,hv,rv⟩:=r.at' 0 c rfl
    have:o=Option.some v:=by simpa using hv
    subst this
    exact .some rv (tX.of rest)
theorem tX.st{K:ae}{mg:Str->Option Value}{ι:List Addr}{H:Hp}:∀{ρ:Rho}{σ:cz},tX K mg ι H ρ σ->d8 K mg ι H ρ σ
 |_,_,.nil=>⟨rfl,fun i d e=>by simp at e⟩
 |_,_,.none rs=>by
  have r:=tX.st rs
  refine⟨by simpa using r.len,fun i d e=>?_⟩
  cases i with
  |zero=>simp at e
  |succ i=>exact r.at' i d (by simpa using e)
 |_,_,.some rv rs=>by
  have r:=tX.st rs
  refine⟨by simpa using r.len,fun i d e=>?_⟩
  cases i with
  |zero=>
   simp at e
   subst e
   exact⟨_,rfl,rv⟩
  |succ i=>exact r.at' i d (by simpa using e)
/-- the closure k in slot i is called: it does th -/
def ahN(i:Nat)(k:CV)(th:M CV):Rho->M CV:=fun ρ S=>if ρ[i]?=some (some k) then th S else .bad
section
variable {X:Cx}{pins:List (Addr×Obj)}{σ:cz}{H:Hp}{s:Shared}
/-- a(), in the def that got the lambda -/
theorem ath{CXg:CXT}{Eg:XK}{Ng:List Str}{qg:Str}{sg:Scope}{g f c':Addr}{cdg pm ctv:Value}{params:Arguments}{body:Expr}{scope:Scope}{k i:Nat}{a:Str}{pn:List (Addr×Obj)}{xe:Value->Shared->Prop}{W:WX}{p1 p2:Pos}{me:Rho->M CV}{ρ:Rho}
    (I:Inv X pins σ H s)(L:LamX.LamS X.env.scope scope)(hf:s.heap.get? f=some (kO "<lambda>" (X.env.qual++"<lambda>") params body scope (cloFrom X.env.cells scope.names []) pm c' ctv))(hfn:H f=none)(hfr:f∉frs X.stack)
    (hbind:bindArgs (k8 "<lambda>" (X.env.qual++"<lambda>") params body scope (cloFrom X.env.cells scope.names []) pm (.ref c') ctv) ⟨[],[]⟩=pure [])
    (tk:Takes ((cxOf CXg X.prog X.w X.K X.mg X.base Ng qg sg g cdg X.A X.stack s H Eg).tr pn xe) W)(hr:RmG (k+1) (X.A.deeper (envOfC qg sg s.heap.objs.size g cdg)))
    (hbody:∀(A:Around)(outer:List Env)(s:Shared)(H:Hp)(E:XK),RmG k (A.deeper (kK X scope s.heap.objs.size f c'))->Takes (iA X A outer s H E scope f c') (WE' E)->GE (iA X A outer s H E scope f c') (WE' E) body me)
    (hN:Ng[i]?=some a)(hv:Vis sg a)(hd:(a==("__debug__":Str))=false:=by decide)(hcd:(a==("__classdict__":Str))=false:=by decide):
    GE ((cxOf CXg X.prog X.w X.K X.mg X.base Ng qg sg g cdg X.A X.stack s H Eg).tr pn xe) W (.Call (.Name a p1) [] [] p2) (ahN i (.clo f c' (X.env.qual++"<lambda>") ρ σ) (me ρ)):=by
  constructor
  rintro pinsZ sZ σZ HZ Q IZ ⟨ι,ρZ,S,Rs,rs,fi⟩
  unfold ahN at fi
  split at fi
  · rename_i hk
    obtain⟨v,hv0,rv⟩:=rs.at' i _ hk
    cases rv with
    |clo hco ros=>
     refine wpAny_Call_Name_kw (thn ((pe_var (pos:=p1) (i:=i) hN hv hd hcd).run pinsZ sZ σZ HZ (fun v H1=>v=.ref f/\H1=HZ) IZ ⟨.ref f,hv0,rfl,rfl⟩) fun u s1 ⟨v,H1,I1,r1,ev,eH⟩=>?_)
     subst ev
     rw[eH]at I1
     obtain rfl:u=Value.ref f:=r1
     have isF:s1.heap.get? f=some (kO "<lambda>" (X.env.qual++"<lambda>") params body scope (cloFrom X.env.cells scope.names []) pm c' ctv):=I1.base.keep f _ hf hfn hfr (fun z=>nomatch (show f∈([]:List Addr) from z))
     refine PySem.W.callWith_F0 ⟨_,_,_,_,isF⟩ ?_
     have since:Un (frs X.stack) [] H HZ s.heap s1.heap:=I1.base
     have oc1:ObjOk X.prog X.w HZ s1.heap c' (.ext _):=I1.hok c' _ hco
     obtain⟨⟨oc,vs,t,hoc,hdc,hvc⟩,_,_⟩:=oc1
     let E:XK:=fun cls d H'=>W cls d σZ H'
     have ran:codeAny (model X.prog X.w) (X.A.deeper (envOfC qg sg s.heap.objs.size g cdg)) (.call (.ref f) ⟨[],[]⟩) (CR (fo X.prog X.w) (envOfC qg sg s.heap.objs.size g cdg::X.stack) X.prog X.w HZ s1 Q E) s1:=by
        refine PySem.W.kla_callFunE hr.rm.depth isF rfl L.co L.gen rfl ⟨c',oc,vs,t,rfl,hoc,hdc,hvc⟩ ?_
        rw[hbind]
        refine wpAny_pure (wpAny_newFunctionEnv (fun y hy=>(L.own y hy).2) (fun y hy=>absurd hy (by simp)) ?_ L.kind)
        intro h₁ hns hsb
        refine⟨I1.nolimit.fresh _ hsb,?_⟩
        show codeAny _ _ (.expr body (kK X scope s1.heap.objs.size f c')) _ _
        have kp:∀b o,s1.heap.get? b=some o->h₁.get? b=some o:=fun b o e=>hsb.extBut b o (eA (Heap.lt_size e)) (Heap.get?_push_of_some _ e)
        have J:Inv (iA X (X.A.deeper (envOfC qg sg s.heap.objs.size g cdg)) (envOfC qg sg s.heap.objs.size g cdg::X.stack) s1 HZ E scope f c') [] σ HZ {s1 with heap:=h₁,toks:=s1.toks+([]:List (Str×Value)).length}:=LamX.lam_start2 I L I1.env0 hr.rm.hd since hns kp
        have tkL:Takes (iA X (X.A.deeper (envOfC qg sg s.heap.objs.size g cdg)) (envOfC qg sg s.heap.objs.size g cdg::X.stack) s1 HZ E scope f c') (WE' E):=takes_of rfl rfl rfl rfl
        refine PySem.W.kla_codeExpr (wpAny_mono ((hbody _ _ s1 HZ E (hr.deeper _) tkL).run [] _ σ HZ Q J ⟨ι,ρ,S,Rs,ros.st,fi⟩) ?_ fun _ _ z=>z)
        rintro v s' ⟨w',H',J',rw',q⟩
        exact⟨w',H',J'.os,J'.bare,J'.base,J'.hok,rw',q⟩
     refine wpAny_call (codeAny_mono ran fun r s' hq=>?_)
     cases r with
     |error e=>exact tk e s' (XE.of_call I1 (W:=W) (fun _ _ _ z=>z) hq)
     |ok fl=>
      cases fl with
      |ret u=>exact I1.after hq
      |next=>exact cm hq
      |brk=>exact cm hq
      |cont=>exact cm hq
  · exact fi.elim
end
/-- all tables that the store tells of -/
def xQ(K:ae)(mg:Str->Option Value):Sto->List Addr->List (Addr×Str)
 |.tab x::S,P::ι=>(P,tq K mg x)::xQ K mg S ι
 |_::S,_::ι=>xQ K mg S ι
 |_,_=>[]
theorem yg{K:ae}{mg:Str->Option Value}:∀{S:Sto}{ι:List Addr}{p:Addr×Str},p∈xQ K mg S ι↔∃(n:Nat) (x:Str),S[n]?=some (CO.tab x)/\ι[n]?=some p.1/\p.2=tq K mg x
 | [],ι,p=>by simp[xQ]
 |o::S,[],p=>by cases o<;>simp[xQ]
 |o::S,P::ι,p=>by
  have ih:=yg (K:=K) (mg:=mg) (S:=S) (ι:=ι) (p:=p)
  have key:(∃(n:Nat) (x:Str),(o::S)[n]?=some (CO.tab x)/\(P::ι)[n]?=some p.1/\p.2=tq K mg x)↔(∃x,o=CO.tab x/\P=p.1/\p.2=tq K mg x)\/p∈xQ K mg S ι:=by
   rw[ih]
   constructor
   ·rintro ⟨n,x,h1,h2,h3⟩
    cases n with
    |zero=>exact .inl ⟨x,by simpa using h1,by simpa using h2,h3⟩
    |succ n=>exact .inr ⟨n,x,by simpa using h1,by simpa using h2,h3⟩
   ·rintro (⟨x,h1,h2,h3⟩|⟨n,x,h1,h2,h3⟩)
    ·exact⟨0,x,by simpa using h1,by simpa using h2,h3⟩
    ·exact⟨n+1,x,by simpa using h1,by simpa using h2,h3⟩
  rw[key]
  cases o with
  |tab x=>
   show p∈(P,tq K mg x)::xQ K mg S ι↔_
   rw[av]
   have e:p=(P,tq K mg x)↔∃y,CO.tab x=CO.tab y/\P=p.1/\p.2=tq K mg y:=by
    constructor
    ·intro h;subst h;exact⟨x,rfl,rfl,rfl⟩
    ·rintro ⟨y,h1,h2,h3⟩
     cases h1
     obtain⟨p1,p2⟩:=p
     cases h2;cases h3;rfl
   rw[e]
  |_=>simp[xQ]
/-- the store behind the making of a lambda -/
theorem RS.lam{K:ae}{mg:Str->Option Value}{ι:List Addr}{S:Sto}{H H1:Hp}(Rs:RS K mg ι S H)(e:LamX.ExtN H H1)(T:LamX.Tabs (xQ K mg S ι) H1):Nx K mg ι H S ι H1:=by
 have ex:∀b o,ajm o->H b=some o->H1 b=some o:=fun b o nt h=>e b o h fun ps z=>by rw[z]at nt;exact nt
 have tk:Tk H H1:=by
  refine⟨fun b xs h=>?_,fun b o xs h=>ex b _ trivial h,fun b φ h=>ex b _ trivial h,fun b gs h=>ex b _ trivial h⟩
  rcases h with h|⟨o,h⟩
  ·exact .inl (ex b _ trivial h)
  ·exact .inr ⟨o,ex b _ trivial h⟩
 have tb:∀(n:Nat)(x:Str)(P:Addr),S[n]?=some (CO.tab x)->ι[n]?=some P->LamX.TabS H1 P (tq K mg x):=fun n x P h1 h2=>T (P,tq K mg x) (yg.mpr ⟨n,x,h1,h2,rfl⟩)
 refine⟨⟨Rs.len,Rs.nd,fun n a o e1 e2=>?_⟩,⟨[],by simp,fun _ h=>nomatch h⟩,fun b o _ nt h=>ex b o nt h⟩
 ·have ho:=Rs.obj n a o e1 e2
  have go:∀{u:HO},H a=some u->ajm u->VN K mg ι H1 a o:=fun {u} hu nt=>by
   have:=ho.mono tk [] (by rw[ex a u nt hu,hu])
   rwa[aT]at this
  cases o with
  |tab x=>exact⟨ho.1,tb n x a e2 e1⟩
  |lst cs=>obtain⟨vs,q,_⟩:=id ho;exact go q trivial
  |dic kvs=>
   rcases id ho with⟨ps,q,_⟩|⟨_,ps,q,_⟩
   ·exact go q trivial
   ·exact go q trivial
  |ins c fs=>obtain⟨C,dx,gs,_,q,_⟩:=id ho;exact go q trivial
  |frz o=>
   cases o with
   |dic kvs=>
    obtain⟨o,ps,q,_⟩:=id ho
    exact go q trivial
   |_=>exact ho.elim
  |mdc kvs=>obtain⟨ps,q,_⟩:=id ho;exact go q trivial
  |dct kvs=>obtain⟨ps,q,_⟩:=id ho;exact go q trivial
  |odd ks=>obtain⟨o,es,ep,vs,q,_⟩:=id ho;exact go q trivial
section
variable {P:Program}{w:World}{K:ae}{mg:Str->Option Value}{base:Heap}
/-- a def runs, at this very state -/
theorem run_at{x qual:Str}{st:Stmt}{f:Addr}{fd:FuncData}{N ps:List Str}{k:Nat}{m:Rho->M CF}(F:Fun K x qual st f fd)(Sc:FnScope N ps (defScope st)){A:Around}{outer:List Env}{s:Shared}{H:Hp}{args:Args}{us:List Value}{vs:List V}{Q:VK}{E:XK}
    (room:RmG (k+1) A)(env0:Env0 P w K mg base A outer s H)(bound:BindsTo s fd args (ps.zip us))(rel:Vals vs us)(prom:spD K mg ps.length (nR N.length m) vs H Q E)
    (hbody:∀cdv:Value,fd.code=cdv->RmG k (A.deeper (envOfC qual (defScope st) s.heap.objs.size f cdv))->
      Takes (cxOf (fo P w) P w K mg base N qual (defScope st) f cdv A outer s H E) (WE' E)->PassesOwn (model P w) (A.deeper (envOfC qual (defScope st) s.heap.objs.size f cdv)) (envOfC qual (defScope st) s.heap.objs.size f cdv) (cxOf (fo P w) P w K mg base N qual (defScope st) f cdv A outer s H E).xe->
      GSs (cxOf (fo P w) P w K mg base N qual (defScope st) f cdv A outer s H E) (WE' E) (defBody st) m):codeAny (model P w) A (.call (.ref f) args) (CR (fo P w) outer P w H s Q E) s:=by
  obtain⟨o1,o2,d1,d2,d3,d4,cdv,d5,d6,efd,atf,code⟩:=F.ex
  subst efd
  have inK:K.In s.heap:=env0.mod.kin.keeps fun b o e=>(env0.bs b o e).1
  have afI:s.heap.NoLimit:=env0.mod.nolimit.keeps fun b o e=>(env0.bs b o e).1
  refine codeAny_call_function room.rm.depth (inK _ _ atf) rfl Sc.co Sc.gen rfl (kC inK code) (bound _ _ _ _ (wpAny_newFunctionEnv_cells Sc.kind ?kinds fun env au2 s1 entered=>?body))
  case kinds=>
    rintro ⟨y,v⟩ hy
    refine(Sc.par y (List.of_mem_zip hy).1).imp id fun hc=>⟨hc,?_⟩
    exact ka _ _ _ (.inl hc)
  case body=>
    subst au2
    refine⟨afI.keeps entered.toInCall.keep,codeAny_func ?_⟩
    have inv:Inv (cxOf (fo P w) P w K mg base N qual (defScope st) f cdv A outer s H E) [] (hY N vs) H s1:=inv_start Sc room.rm.hd env0 prom.1 rel entered
    obtain⟨_,ι,S,cs,Rs,rc,fi⟩:=prom
    have goal:tS K mg (WE' E) m {nx:=fun _ H'=>Q .non H',rt:=Q} (hY N vs) H:=by
      refine⟨ι,iG N.length cs,S,Rs,rc.start,?_⟩
      unfold nR at fi
      cases r:m (iG N.length cs) S with
      |bad=>rw[r]at fi;exact fi
      |exc _ _ _=>rw[r]at fi;exact fi.elim
      |ok fl S'=>
       rw[r]at fi
       cases fl with
       |nx ρ=>exact fun σ' ι' H' n _=>fi .non ι' H' n .non
       |rt c=>exact fi
       |bk ρ=>exact fi.elim
       |ct ρ=>exact fi.elim
       |xc c fs ρ=>exact fun C d gs σ' ι' H' e n _ hd hf=>fi C d gs ι' H' e n hd hf
    have walked:=(hbody cdv rfl (room.deeper _) (takes_of rfl rfl rfl rfl) (passes_of rfl)).run [] s1 (hY N vs) H _ inv goal
    refine wpAny_mono walked (fun fl s' told=>?_) fun _ _ z=>z
    cases fl with
    |ret u=>
     obtain⟨v,σ',H',J,rv,q⟩:=told
     exact⟨v,H',J.os,J.bare,J.base,J.hok,rv,q⟩
    |next=>
     obtain⟨σ',H',J,q⟩:=told
     exact⟨V.non,H',J.os,J.bare,J.base,J.hok,rfl,q⟩
    |brk=>
     obtain⟨_,_,_,q⟩:=told
     exact q.elim
    |cont=>
     obtain⟨_,_,_,q⟩:=told
     exact q.elim
end
/-- the def x at g takes one thing (a) and calls it: with the closure k that does th it does mG k th -/
structure am5(P:Program)(w:World)(K:ae)(mg:Str->Option Value)(base:Heap)(kk:Nat)(x a:Str)(g:Addr)(n:Nat)(mG:CV->M CV->Rho->M CF):Prop where
 ex:∃st fd N,Fun K x x st g fd/\FnScope N [a] (defScope st)/\N.length=n/\N[0]?=some a/\Vis (defScope st) a/\(∀(s:Shared)(u:Value),BindsTo s fd ⟨[u],[]⟩ ([a].zip [u]))/\
  ∀(k:CV)(th:M CV)(cdv:Value)(A:Around)(outer:List Env)(s:Shared)(H:Hp)(E:XK),RmG kk (A.deeper (envOfC x (defScope st) s.heap.objs.size g cdv))->
   Takes (cxOf (fo P w) P w K mg base N x (defScope st) g cdv A outer s H E) (WE' E)->PassesOwn (model P w) (A.deeper (envOfC x (defScope st) s.heap.objs.size g cdv)) (envOfC x (defScope st) s.heap.objs.size g cdv) (cxOf (fo P w) P w K mg base N x (defScope st) g cdv A outer s H E).xe->
   (∀(W:WX)(pn:List (Addr×Obj))(xe:Value->Shared->Prop)(p1 p2:Pos),Takes ((cxOf (fo P w) P w K mg base N x (defScope st) g cdv A outer s H E).tr pn xe) W->GE ((cxOf (fo P w) P w K mg base N x (defScope st) g cdv A outer s H E).tr pn xe) W (.Call (.Name a p1) [] [] p2) (ahN 0 k th))->
   GSs (cxOf (fo P w) P w K mg base N x (defScope st) g cdv A outer s H E) (WE' E) (defBody st) (mG k th)
/-- xd: the def that stands around the lambda, its table at index i of the store -/
def Ar(i:Nat)(xd:Str)(mI:M CV->M CV)(me:Rho->M CV):Rho->M CV:=fun ρ S=>if S[i]?=some (.tab xd) then mI (me ρ) S else .bad
section
variable {X:Cx}{W:WX}
theorem Kd{x a xd:Str}{g c Pt:Addr}{n kk i:Nat}{mG:CV->M CV->Rho->M CF}{mI:M CV->M CV}{params:Arguments}{body:Expr}{scope:Scope}{me:Rho->M CV}{p lpos pos:Pos}(G:am5 X.prog X.w X.K X.mg X.base (kk+1) x a g n mG)
    (hI:∀k th S,nR n (mG k th) [k] S=mI th S)(hg:Gl X x)(hm:X.mg x=some (.ref g))(TB:fc X.base X.mg c Pt)(hcode:X.env.code=.ref c)(hq:tq X.K X.mg xd=X.env.qual++"<lambda>")(hP:∀Q,TabN X.K X.mg xd Q->Q=Pt)
    (hr:RmG (kk+2) X.A)(tk:Takes X W)(L:LamX.LamS X.env.scope scope)(hdef:defaultsOf params X.env=([],[]))
    (hbind:∀(q:Str)(cl:List (Str×Addr))(pm cv ctv:Value),bindArgs (k8 "<lambda>" q params body scope cl pm cv ctv) ⟨[],[]⟩=pure [])
    (hbody:∀(f c':Addr)(A:Around)(outer:List Env)(s:Shared)(H:Hp)(E:XK),RmG kk (A.deeper (kK X scope s.heap.objs.size f c'))->Takes (iA X A outer s H E scope f c') (WE' E)->GE (iA X A outer s H E scope f c') (WE' E) body me)
    (hdb:(x==("__debug__":Str))=false:=by decide)(hd:(a==("__debug__":Str))=false:=by decide)(hcd:(a==("__classdict__":Str))=false:=by decide):
    GE X W (.Call (.Name x p) [.Lambda params body scope lpos] [] pos) (Ar i xd mI me):=by
  obtain⟨st,fd,N,F,Sc,hn,hN0,hva,hbn,run⟩:=G.ex
  constructor
  rintro pins s σ H Q I ⟨ι,ρ,S,Rs,rs,fi⟩
  unfold Ar at fi
  split at fi
  · rename_i hi
    obtain⟨P',hPi,ht⟩:=Rs.at hi
    have ePt:P'=Pt:=hP P' ht.1
    subst ePt
    refine wpAny_Call_Name_kw (ld_glob I hg hm ?_ hdb)
    refine iE (h₀:=X.base) I.ok.mod.kin F.kp ?_ (by rfl) (by rfl)
    show wpAny _ _ (spliced ((false,eval (.Lambda params body scope lpos) X.env)::backTo pos (starEach [] X.env))) _ _ s
    have inT:(P',X.env.qual++"<lambda>")∈xQ X.K X.mg S ι:=yg.mpr ⟨i,xd,hi,hPi,hq.symm⟩
    have uniq:∀q∈xQ X.K X.mg S ι,q.1=P'->q.2=X.env.qual++"<lambda>":=fun q hq' e=>by
      obtain⟨j,y,h1,h2,h3⟩:=yg.mp hq'
      rw[e]at h2
      have:i=j:=(i7 (aa.mp hPi).1 Rs.nd).mp (hPi.trans h2.symm)
      subst this
      rw[hi]at h1;cases h1
      rw[h3,hq]
    have ayg:LamX.Tabs (xQ X.K X.mg S ι) H:=fun q hq'=>by
      obtain⟨j,y,h1,h2,h3⟩:=yg.mp hq'
      rw[h3]
      exact(Rs.obj j q.1 _ h2 h1).2
    refine Calls.spliced_cons (LamX.lam_make2 I TB hcode inT uniq ayg hdef (L.has I.ok) fun f c' pm' ctv H1 s' I1 eN T1 hf hfn hfr hco=>Calls.spliced_nil ⟨I1.kIn,?_⟩)
    have n1:Nx X.K X.mg ι H S ι H1:=Rs.lam eN T1
    let k:CV:=.clo f c' (X.env.qual++"<lambda>") ρ σ
    have rk:bx X.K X.mg ι H1 k (.ref f):=.clo hco (tX.of (n1.cY Rs rs))
    have prom:spD X.K X.mg [a].length (nR N.length (mG k (me ρ))) [.ref f] H1 Q (fun cl d H'=>W cl d σ H'):=by
      refine⟨rfl,ι,S,[k],n1.rs,.cons rk .nil,?_⟩
      rw[hn,hI]
      exact Fin.after n1 fi
    refine wpAny_call (codeAny_mono (run_at (k:=kk+1) (us:=[.ref f]) (vs:=[.ref f]) F Sc hr I1.env0 (hbn s' (.ref f)) (.cons rfl .nil) prom fun cdv _ hr' tk' po'=>run k (me ρ) cdv X.A X.stack s' H1 _ hr' tk' po' fun W' pn xe p1 p2 tkZ=>ath (k:=kk) I1 L hf hfn hfr (hbind _ _ _ _ _) tkZ hr' (hbody f c') hN0 hva hd hcd) fun r s2 hq'=>?_)
    cases r with
    |error e=>exact tk e s2 (XE.of_call I1 (W:=W) (fun _ _ _ z=>z) hq')
    |ok fl=>
     cases fl with
     |ret u=>exact I1.after hq'
     |next=>exact cm hq'
     |brk=>exact cm hq'
     |cont=>exact cm hq'
  · exact fi.elim
end
/-- as qP, with the code object known -/
theorem avs{P:Program}{w:World}{K:ae}{mg:Str->Option Value}{base:Heap}{x qual:Str}{st:Stmt}{f:Addr}{fd:FuncData}{N ps:List Str}{k n:Nat}{m:Rho->M CF}(F:Fun K x qual st f fd)(Sc:FnScope N ps (defScope st))(hn:N.length=n)
    (hbody:∀(cdv:Value),fd.code=cdv->∀(A:Around)(outer:List Env)(s:Shared)(H:Hp)(E:XK),RmG k (A.deeper (envOfC qual (defScope st) s.heap.objs.size f cdv))->
      Takes (cxOf (fo P w) P w K mg base N qual (defScope st) f cdv A outer s H E) (WE' E)->PassesOwn (model P w) (A.deeper (envOfC qual (defScope st) s.heap.objs.size f cdv)) (envOfC qual (defScope st) s.heap.objs.size f cdv) (cxOf (fo P w) P w K mg base N qual (defScope st) f cdv A outer s H E).xe->
      GSs (cxOf (fo P w) P w K mg base N qual (defScope st) f cdv A outer s H E) (WE' E) (defBody st) m):FnD P w K mg base (k+1) f fd ps (nR n m):=by
  subst hn
  exact⟨fun A outer s H args us vs Q E room env0 bound rel prom=>run_at F Sc room env0 bound rel prom fun cdv hc=>hbody cdv hc A outer s H E⟩
theorem TabN.uniq{K:ae}{mg:Str->Option Value}{x:Str}{f c P Q:Addr}{fd:FuncData}{oc:Value}{od:Option Addr}{osl:Array (Option Value)}(hm:mg x=some (.ref f))(lk:K.lookup f=some ⟨oc,od,.func fd,osl⟩)(hc:fd.code=.ref c)(hh:c6 K c P=true)(h:TabN K mg x Q):Q=P:=by
 obtain⟨f',c',fd',oc',od',azj,h1,h2,h3,o,us,h4,h5,h6⟩:=h
 rw[hm]at h1;cases h1
 rw[lk]at h2;cases h2
 rw[hc]at h3;cases h3
 unfold c6 at hh
 rw[h4]at hh
 obtain⟨oc2,od2,azi,osl2⟩:=o
 dsimp only at h5
 subst h5
 split at hh
 ·rename_i vs _ e
  cases e
  rw[h6]at hh
  simp only[aB,beq_iff_eq]at hh
  exact hh.1.1.1.1.1
 ·cases hh
theorem axe{K:ae}{mg:Str->Option Value}{x:Str}{f:Addr}{fd:FuncData}{oc:Value}{od:Option Addr}{osl:Array (Option Value)}(hm:mg x=some (.ref f))(lk:K.lookup f=some ⟨oc,od,.func fd,osl⟩):tq K mg x=(fd.qualname++".<locals>.")++tqn x:=by
 unfold tq
 rw[hm]
 dsimp only
 rw[lk]
section
variable {Q:CV->Sto->Prop}{QF:CF->Sto->Prop}{E:Str->List (Str×CV)->Sto->Prop}{S:Sto}{ρ:Rho}
theorem wp_raise{c:Str}{fs:List Str}{ms:Rho->M (List CV)}:Wp (BW c fs ms ρ S) QF E=Wp (ms ρ S) (fun xs S1=>if xs.length=fs.length then QF (.xc c (fs.zip xs).reverse ρ) S1 else False) (fun c fs S1=>QF (.xc c fs ρ) S1):=by
 unfold BW;rw[jL];congr;funext xs S1
 split<;>rfl
def arG(tbl:List (Str×Bool))(i j:Nat)(Q:CF->Sto->Prop):CF->Sto->Prop
 |.xc c fs ρ,S=>match tbl.lookup c with
  |some true=>Q (.nx (((ρ.set i (some (.exn c fs))).set j (some (.exn c fs))).set i none)) S
  |some false=>Q (.xc c fs ρ) S
  |none=>False
 |f,S=>Q f S
theorem W9{tbl:List (Str×Bool)}{i j:Nat}{mb:Rho->M CF}:Wp (vZ tbl i j mb ρ S) QF E=Wp (mb ρ S) (arG tbl i j QF) E:=by
 unfold vZ
 cases mb ρ S with
 |ok f S1=>
  cases f with
  |xc c fs ρ1=>
   show Wp (match tbl.lookup c with|some true=>_|some false=>_|none=>_) QF E=(match tbl.lookup c with|some true=>_|some false=>_|none=>_)
   cases tbl.lookup c with
   |none=>rfl
   |some b=>cases b<;>rfl
  |_=>rfl
 |exc c fs S1=>rfl
 |bad=>rfl
theorem arJ{tbl:List (Str×Bool)}{i j:Nat}{c:Str}{fs:List (Str×CV)}:arG tbl i j QF (.xc c fs ρ) S=(match tbl.lookup c with
    |some true=>QF (.nx (((ρ.set i (some (.exn c fs))).set j (some (.exn c fs))).set i none)) S
    |some false=>QF (.xc c fs ρ) S
    |none=>False):=rfl
theorem arH{tbl:List (Str×Bool)}{i j:Nat}:arG tbl i j QF (.nx ρ) S=QF (.nx ρ) S:=rfl
theorem arI{tbl:List (Str×Bool)}{i j:Nat}{c:CV}:arG tbl i j QF (.rt c) S=QF (.rt c) S:=rfl
theorem arM{f:Str}{tbl:List Str}{g:CV->M CV}{c:Str}{fs:List (Str×CV)}:Wp (abQ f tbl g (.exn c fs) S) Q E=(if c∈tbl then (match fs.lookup f with|some v=>Q v S|none=>False) else False):=by
 unfold abQ
 dsimp only
 split
 ·cases fs.lookup f<;>rfl
 ·rfl
theorem ajh{f:Str}{tbl:List Str}{g:CV->M CV}{n:Nat}:Wp (abQ f tbl g (.ref n) S) Q E=Wp (g (.ref n) S) Q E:=rfl
theorem amO{tO:List ((Str×Str)×Bool)}{tB:List ((Str×String)×Bool)}{g:List CV->M CV}{c d:Str}{fs:List (Str×CV)}:Wp (Aa tO tB g [.exn c fs,.cls d] S) Q E=(match tO.lookup (c,d) with|some b=>Q (.bl b) S|none=>False):=by
 show Wp (match tO.lookup (c,d) with|some b=>_|none=>_) Q E=_
 cases tO.lookup (c,d)<;>rfl
theorem amT{tO:List ((Str×Str)×Bool)}{tB:List ((Str×String)×Bool)}{g:List CV->M CV}{c:Str}{T:String}{fs:List (Str×CV)}:Wp (Aa tO tB g [.exn c fs,.ty T] S) Q E=(match tB.lookup (c,T) with|some b=>Q (.bl b) S|none=>False):=by
 show Wp (match tB.lookup (c,T) with|some b=>_|none=>_) Q E=_
 cases tB.lookup (c,T)<;>rfl
theorem auH{i:Nat}{k:CV}{th:M CV}(h:ρ[i]?=some (some k)):Wp (ahN i k th ρ S) Q E=Wp (th S) Q E:=by
 unfold ahN;rw[if_pos h]
theorem arT{i:Nat}{xd:Str}{mI:M CV->M CV}{me:Rho->M CV}(h:S[i]?=some (.tab xd)):Wp (Ar i xd mI me ρ S) Q E=Wp (mI (me ρ) S) Q E:=by
 unfold Ar;rw[if_pos h]
end
def jy{α:Type}(m:CV->Rho->M α):Prop:=∀(k k':CV)(ρ:Rho)(S:Sto),m k (some k::ρ) S=m k' (some k'::ρ) S
inductive CFR(k k':CV):CF->CF->Prop where
 |nx (ρ:Rho):CFR k k' (.nx (some k::ρ)) (.nx (some k'::ρ))
 |bk (ρ:Rho):CFR k k' (.bk (some k::ρ)) (.bk (some k'::ρ))
 |ct (ρ:Rho):CFR k k' (.ct (some k::ρ)) (.ct (some k'::ρ))
 |xc (c:Str) (fs:List (Str×CV)) (ρ:Rho):CFR k k' (.xc c fs (some k::ρ)) (.xc c fs (some k'::ρ))
 |rt (c:CV):CFR k k' (.rt c) (.rt c)
inductive RR(k k':CV):Res CF->Res CF->Prop where
 |ok {f f':CF} (S:Sto) (h:CFR k k' f f'):RR k k' (.ok f S) (.ok f' S)
 |exc (c:Str) (fs:List (Str×CV)) (S:Sto):RR k k' (.exc c fs S) (.exc c fs S)
 |bad:RR k k' .bad .bad
def Od(m:CV->Rho->M CF):Prop:=∀(k k':CV)(ρ:Rho)(S:Sto),RR k k' (m k (some k::ρ) S) (m k' (some k'::ρ) S)
section
variable {α β:Type}{ma mb me mo:CV->Rho->M CV}{mt mu:CV->Rho->M Bool}{ms:CV->Rho->M (List CV)}{m1 m2:CV->Rho->M CF}
theorem jt{m:CV->Rho->M α}{f:CV->α->Rho->M β}(h:jy m)(hf:∀x,jy fun k=>f k x):jy fun k ρ=>bnd (m k ρ) fun x=>f k x ρ:=fun k k' ρ S=>by
 show(m k (some k::ρ) S).bnd _=(m k' (some k'::ρ) S).bnd _
 rw[h k k' ρ S]
 cases m k' (some k'::ρ) S with
 |ok a S1=>exact hf a k k' ρ S1
 |exc c fs S1=>rfl
 |bad=>rfl
theorem yc{m:M α}:jy fun _ _=>m:=fun _ _ _ _=>rfl
theorem ap6{i:Nat}:jy fun _=>aK (i+1):=fun _ _ _ _=>rfl
theorem avv{c:CV}:jy fun _=>mC c:=fun _ _ _ _=>rfl
theorem apY:jy fun _=>aN:=fun _ _ _ _=>rfl
theorem apU{th:M CV}:jy fun k=>ahN 0 k th:=fun k k' ρ S=>by
 show(if (some k::ρ)[0]?=some (some k) then th S else Res.bad)=(if (some k'::ρ)[0]?=some (some k') then th S else Res.bad)
 rw[cj,cj,if_pos rfl,if_pos rfl]
theorem atp{g:CV->CV->M CV}(ha:jy ma)(hb:jy mb):jy fun k=>mOp g (ma k) (mb k):=jt ha fun x=>jt (f:=fun _ y _=>g x y) hb fun _=>yc
theorem atr{g:CV->M CV}(ha:jy ma):jy fun k=>mUn g (ma k):=jt (f:=fun _ y _=>g y) ha fun _=>yc
theorem atn{g:List CV->M CV}(ha:jy ms):jy fun k=>mFn g (ms k):=jt (f:=fun _ y _=>g y) ha fun _=>yc
theorem alD(ha:jy ma)(hs:jy ms):jy fun k=>au (ma k) (ms k):=jt ha fun x=>jt (f:=fun _ xs _=>ret (x::xs)) hs fun _=>yc
theorem ap5(hs:jy ms):jy fun k=>pD (ms k):=jt (f:=fun _ xs _=>Qe xs) hs fun _=>yc
theorem apW(hs:jy ms):jy fun k=>vC (ms k):=jt (f:=fun _ xs _=>Zq xs) hs fun _=>yc
theorem alK(ha:jy ma):jy fun k=>eO (ma k):=jt (f:=fun _ x _=>asB x) ha fun _=>yc
theorem ap3{g:CV->M Bool}(ha:jy ma):jy fun k=>Iv g (ma k):=jt (f:=fun _ x _=>g x) ha fun _=>yc
theorem QG{ta tb:CV->Rho->M α}(ha:jy ta)(hb:jy tb)(c:Bool):jy fun k ρ=>if c then ta k ρ else tb k ρ:=by
 cases c with
 |true=>exact ha
 |false=>exact hb
theorem apV(ha:jy mt)(hb:jy mu):jy fun k=>afC (mt k) (mu k):=jt (α:=Bool) (β:=Bool) (f:=fun k c ρ=>if c then mu k ρ else ret false) ha fun c=>QG hb yc c
theorem atq(ha:jy mt)(hb:jy mu):jy fun k=>mOr (mt k) (mu k):=jt (α:=Bool) (β:=Bool) (f:=fun k c ρ=>if c then ret true else mu k ρ) ha fun c=>QG yc hb c
theorem ind_not(ha:jy mt):jy fun k=>RW (mt k):=jt (f:=fun _ c _=>ret (!c)) ha fun _=>yc
theorem ato(ht:jy mt)(ha:jy ma)(hb:jy mb):jy fun k=>mIf (mt k) (ma k) (mb k):=jt (α:=Bool) (β:=CV) (f:=fun k c ρ=>if c then ma k ρ else mb k ρ) ht fun c=>QG ha hb c
theorem alB{g:CV->M Bool}(ha:jy ma)(hb:jy mb):jy fun k=>uO g (ma k) (mb k):=jt (α:=CV) (β:=CV) (f:=fun k x ρ=>bnd (g x) fun c=>if c then mb k ρ else ret x) ha fun x=>jt (α:=Bool) (β:=CV) (f:=fun k c ρ=>if c then mb k ρ else ret x) (m:=fun _ _=>g x) yc fun c=>QG hb yc c
theorem apZ{g:CV->M Bool}(ha:jy ma)(hb:jy mb):jy fun k=>anI g (ma k) (mb k):=jt (α:=CV) (β:=CV) (f:=fun k x ρ=>bnd (g x) fun c=>if c then ret x else mb k ρ) ha fun x=>jt (α:=Bool) (β:=CV) (f:=fun k c ρ=>if c then ret x else mb k ρ) (m:=fun _ _=>g x) yc fun c=>QG yc hb c
theorem alG{g:CV->M Bool}(ha:jy ma):jy fun k=>acP g (ma k):=jt (α:=CV) (β:=CV) (f:=fun _ x _=>bnd (g x) fun c=>ret (CV.bl (!c))) ha fun x=>yc
theorem atm{T:String}{g:CV->List CV->M CV}(ho:jy mo)(hs:jy ms):jy fun k=>mBM T g (mo k) (ms k):=fun k k' ρ S=>by
 unfold mBM
 show(mo k (some k::ρ) S).bnd _=(mo k' (some k'::ρ) S).bnd _
 rw[ho k k' ρ S]
 cases mo k' (some k'::ρ) S with
 |ok x S1=>
  show(if tyB S1 x=some T then _ else _)=(if tyB S1 x=some T then _ else _)
  split
  ·show(ms k (some k::ρ) S1).bnd _=(ms k' (some k'::ρ) S1).bnd _
   rw[hs k k' ρ S1]
  ·rfl
 |exc c fs S1=>rfl
 |bad=>rfl
theorem atl{n:Nat}{m:List CV->M CV}(ha:jy ms):jy fun k=>mAp n m (ms k):=jt (f:=fun _ xs _=>app n m xs) ha fun _=>yc
theorem alF:Od fun _=>gY:=fun _ _ ρ S=>.ok S (.nx ρ)
theorem alH:Od fun _=>asS:=fun _ _ ρ S=>.ok S (.rt _)
theorem alI:Od fun _=>ax8:=fun _ _ ρ S=>.bad
theorem RR.lft{k k':CV}{ρ:Rho}{r:Res α}{f g:α->M CF}(h:∀a S,RR k k' (f a S) (g a S)):RR k k' (MW.lft (some k::ρ) r f) (MW.lft (some k'::ρ) r g):=by
 cases r with
 |ok a S=>exact h a S
 |exc c fs S=>exact .ok S (.xc c fs ρ)
 |bad=>exact .bad
theorem ap1(h1:Od m1)(h2:Od m2):Od fun k=>cJ (m1 k) (m2 k):=fun k k' ρ S=>by
 have h:=h1 k k' ρ S
 show RR k k' (match m1 k (some k::ρ) S with|.ok (.nx ρ') S'=>m2 k ρ' S'|r=>r) (match m1 k' (some k'::ρ) S with|.ok (.nx ρ') S'=>m2 k' ρ' S'|r=>r)
 generalize m1 k (some k::ρ) S=r at h
 generalize m1 k' (some k'::ρ) S=r' at h
 cases h with
 |ok S1 hf=>
  cases hf with
  |nx ρ1=>exact h2 k k' ρ1 S1
  |bk ρ1=>exact .ok S1 (.bk ρ1)
  |ct ρ1=>exact .ok S1 (.ct ρ1)
  |xc c fs ρ1=>exact .ok S1 (.xc c fs ρ1)
  |rt c=>exact .ok S1 (.rt c)
 |exc c fs S1=>exact .exc c fs S1
 |bad=>exact .bad
theorem alE(h:jy me):Od fun k=>Ny (me k):=fun k k' ρ S=>by
 show RR k k' (MW.lft _ (me k (some k::ρ) S) _) (MW.lft _ (me k' (some k'::ρ) S) _)
 rw[h k k' ρ S]
 exact RR.lft fun a S=>.ok S (.nx ρ)
theorem alJ(h:jy me):Od fun k=>jF (me k):=fun k k' ρ S=>by
 show RR k k' (MW.lft _ (me k (some k::ρ) S) _) (MW.lft _ (me k' (some k'::ρ) S) _)
 rw[h k k' ρ S]
 exact RR.lft fun a S=>.ok S (.rt a)
theorem ap2(h:jy mt)(h1:Od m1)(h2:Od m2):Od fun k=>sIf (mt k) (m1 k) (m2 k):=fun k k' ρ S=>by
 show RR k k' (MW.lft _ (mt k (some k::ρ) S) _) (MW.lft _ (mt k' (some k'::ρ) S) _)
 rw[h k k' ρ S]
 refine RR.lft fun a S=>?_
 cases a with
 |true=>exact h1 k k' ρ S
 |false=>exact h2 k k' ρ S
theorem alC{i:Nat}(h:jy me):Od fun k=>d9 (me k) (gN (i+1)):=fun k k' ρ S=>by
 show RR k k' (MW.lft _ (me k (some k::ρ) S) _) (MW.lft _ (me k' (some k'::ρ) S) _)
 rw[h k k' ρ S]
 exact RR.lft fun a S=>.ok S (.nx _)
theorem aiP{i j:Nat}(h:jy me):Od fun k=>d9 (me k) (gT [i+1,j+1]):=fun k k' ρ S=>by
 show RR k k' (MW.lft _ (me k (some k::ρ) S) _) (MW.lft _ (me k' (some k'::ρ) S) _)
 rw[h k k' ρ S]
 refine RR.lft fun a S=>?_
 match a with
 |.tup [x,y]=>exact .ok S (.nx _)
 |.tup []=>exact .bad
 |.tup [_]=>exact .bad
 |.tup (_::_::_::_)=>exact .bad
 |.non|.bl _|.int _|.str _|.ref _|.cls _|.ty _|.scr _|.exn _ _|.clo _ _ _ _ _=>exact .bad
theorem ap0{i j:Nat}(h:jy ms):Od fun k=>aar (i+1) (j+1) (ms k):=fun k k' ρ S=>by
 show RR k k' (MW.lft _ (ms k (some k::ρ) S) _) (MW.lft _ (ms k' (some k'::ρ) S) _)
 rw[h k k' ρ S]
 refine RR.lft fun a S=>?_
 match a with
 | [x,y]=>exact .ok S (.nx _)
 | []=>exact .bad
 | [_]=>exact .bad
 |_::_::_::_=>exact .bad
theorem aiQ{c:Str}{fs:List Str}(h:jy ms):Od fun k=>BW c fs (ms k):=fun k k' ρ S=>by
 show RR k k' (MW.lft _ (ms k (some k::ρ) S) _) (MW.lft _ (ms k' (some k'::ρ) S) _)
 rw[h k k' ρ S]
 refine RR.lft fun a S=>?_
 split
 ·exact .ok S (.xc _ _ _)
 ·exact .bad
theorem ap4{tbl:List (Str×Bool)}{i j:Nat}(h:Od m1):Od fun k=>vZ tbl (i+1) (j+1) (m1 k):=fun k k' ρ S=>by
 have h':=h k k' ρ S
 dsimp only[vZ]
 generalize m1 k (some k::ρ) S=r at h'
 generalize m1 k' (some k'::ρ) S=r' at h'
 cases h' with
 |ok S1 hf=>
  cases hf with
  |nx ρ1=>exact .ok S1 (.nx ρ1)
  |bk ρ1=>exact .ok S1 (.bk ρ1)
  |ct ρ1=>exact .ok S1 (.ct ρ1)
  |rt c=>exact .ok S1 (.rt c)
  |xc c fs ρ1=>
   dsimp only
   cases tbl.lookup c with
   |none=>exact .bad
   |some b=>
    cases b with
    |true=>exact .ok S1 (.nx _)
    |false=>exact .ok S1 (.xc c fs ρ1)
 |exc c fs S1=>exact .exc c fs S1
 |bad=>exact .bad
theorem amd{n:Nat}{m:CV->M CV->Rho->M CF}(h:∀th,Od fun k=>m k th):∀k th S,nR (n+1) (m k th) [k] S=nR (n+1) (m .non th) [.non] S:=fun k th S=>by
 have h':=h th k .non (bN n none) S
 have e:∀{r r':Res CF},RR k .non r r'->∀{x y:Res CF},x=r->y=r'->(match x with|.ok (.nx _) S'=>Res.ok CV.non S'|.ok (.rt c) S'=>.ok c S'|.ok (.xc c fs _) S'=>.exc c fs S'|_=>.bad)=(match y with|.ok (.nx _) S'=>Res.ok CV.non S'|.ok (.rt c) S'=>.ok c S'|.ok (.xc c fs _) S'=>.exc c fs S'|_=>.bad):=fun h x y ex ey=>by
  subst ex;subst ey
  cases h with
  |ok S1 hf=>cases hf<;>rfl
  |exc c fs S1=>rfl
  |bad=>rfl
 exact e h' rfl rfl
end
section
variable {X:Cx}{W:WX}{e:Expr}{me:Rho->M CV}
theorem aq8(z:Str):(⟨((Builtin.Str.strSliceIndices none none (-1) z.length).filterMap (z.cps[·]?)).toArray⟩:Str)=⟨z.cps.toList.reverse.toArray⟩:=by
 show(⟨((sliceRange ((z.length:Int)-1) (-1) (-1)).filterMap (z.cps[·]?)).toArray⟩:Str)=_
 rw[PySem.W.krv_sliceRange]
 show(⟨((((cq z.cps.size).map fun k=>z.cps.size-1-k)).filterMap (z.cps[·]?)).toArray⟩:Str)=_
 rw[PySem.W.krv_range,List.filterMap_reverse,PySem.W.krv_all]
theorem aQ.rev{K:ae}{mg:Str->Option Value}{ι:List Addr}{H:Hp}:∀{cs:List CV}{vs:List V},aQ K mg ι H cs vs->aQ K mg ι H cs.reverse vs.reverse
 |_,_,.nil=>.nil
 |_,_,.cons r t=>by
  rw[cB,cB]
  exact aQ.append (aQ.rev t) (.cons r .nil)
def akv:CV->M CV:=fun x S=>match x with
 |.str z=>if z.length<=sizeLine then .ok (.str ⟨z.cps.toList.reverse.toArray⟩) S else .bad
 |.ref n=>match S[n]? with
  |some (.lst xs)=>.ok (.ref S.length) (S++[.lst xs.reverse])
  |_=>.bad
 |_=>.bad
theorem atj{k}{p1 p2 p3 pos:Pos}(he:GE X W e me):GE X W (.Subscript e (.Slice none none (some (.UnaryOp .USub (.Constant (.int 1) k p1) p2)) p3) pos) (mUn akv me):=by
 refine⟨fun pins s σ H Q I ⟨ι,ρ,S,Rs,rs,fi⟩=>Subscript_ (thn (he.run pins s σ H _ I ⟨ι,ρ,S,Rs,rs,Fin.bnd (R:=bx X.K X.mg) fi⟩) fun v s1 ⟨x,H1,I1,r1,ι1,S1,c,n1,rc,f1⟩=>?_)⟩
 have hm1:PO X (some (.UnaryOp .USub (.Constant (.int 1) k p1) p2)) (tPart (tUn (rU fun i=>.int (-i)) (tC (.int 1)))):=
  po_some (pe_un un_neg pe_int)
 refine wpAny_Slice (thn (po_none.run pins s1 σ H1 (fun o G=>o=none/\G=H1) I1 ⟨rfl,rfl⟩) fun v1 s2 ⟨o1,G1,J1,q1,z1,y1⟩=>?_)
 cases z1;cases y1
 refine thn (po_none.run pins s2 σ H1 (fun o G=>o=none/\G=H1) J1 ⟨rfl,rfl⟩) fun v2 s3 ⟨o2,G2,J2,q2,z2,y2⟩=>?_
 cases z2;cases y2
 refine thn (hm1.run pins s3 σ H1 (fun o G=>o=some (-1)/\G=H1) J2 ⟨1,rfl,-1,rfl,rfl,rfl⟩) fun v3 s4 ⟨o3,G3,J3,q3,z3,y3⟩=>?_
 cases z3;cases y3
 have J4:Inv X pins σ H1 {s4 with heap:=s4.heap.push {cls:=.type "slice",data:=.fields #[v1,v2,v3]}}:=
  J3.kept (t':=s4.toks) fun b ob z=>Heap.get?_push_of_some _ z
 unfold akv at f1
 cases rc with
 |str z=>
  dsimp only at f1
  split at f1
  ·rename_i hz
   obtain⟨t,rfl⟩:=r1
   obtain⟨l1,e1,e1'⟩:=IsPart.raw q1
   obtain⟨l2,e2,e2'⟩:=IsPart.raw q2
   obtain⟨l3,e3,e3'⟩:=IsPart.raw q3
   cases l1 with
   |some _=>cases e1'
   |none=>
   cases l2 with
   |some _=>cases e2'
   |none=>
   cases l3 with
   |none=>cases e3'
   |some l3=>
   obtain⟨n3,t3⟩:=l3
   cases e3'
   show wpAny (model X.prog X.w) X.A (subscriptTail e (.Slice none none (some (.UnaryOp .USub (.Constant (.int 1) k p1) p2)) p3) (.str z t) (.ref s4.heap.objs.size)) (EP X pins σ Q) X.xe _
   refine tail_any (ops:=[.str z t,.ref s4.heap.objs.size]) (typeIs_str _ _ _) F.slot_str_getitem.lookup ?_ (by with_unfolding_all rfl)
   refine wpAny_getItem_str_slice (l:=none) (u:=none) (st:=some (-1,t3)) ⟨_,Heap.get?_push_size _ rfl,rfl,by subst e1 e2 e3;rfl⟩ rfl ?_
   have hl:(⟨z.cps.toList.reverse.toArray⟩:Str).length<=sizeLine:=by
    show z.cps.toList.reverse.toArray.size<=sizeLine
    rw[dj,fm,bq];exact hz
   show Made.post (if ((-1:Int)==1&&(Builtin.Str.strSliceIndices none none (-1) z.length).length==z.length)=true then Made.val (.str z t)
    else Made.str ⟨((Builtin.Str.strSliceIndices none none (-1) z.length).filterMap (z.cps[·]?)).toArray⟩) (EP X pins σ Q) _
   rw[if_neg (by simp),aq8]
   exact⟨hl,.str _,H1,J4.tok _,⟨_,rfl⟩,Fin.ret n1.rs f1 (.str _)⟩
  ·exact f1.elim
 |ref hq=>
  dsimp only at f1
  split at f1
  ·rename_i xs ex
   obtain⟨vs,h1,rr⟩:=n1.rs.obj _ _ _ hq ex
   cases r1
   obtain⟨its,rv,ht,hz⟩:=J4.list (SqL.of h1)
   have hlen:=rv.length
   show wpAny (model X.prog X.w) X.A (subscriptTail e (.Slice none none (some (.UnaryOp .USub (.Constant (.int 1) k p1) p2)) p3) (.ref _) (.ref s4.heap.objs.size)) (EP X pins σ Q) X.xe _
   refine tail_any (ops:=[.ref _,.ref s4.heap.objs.size]) ht.isList.typeIs PySem.slot_list_getitem.lookup ?_ (by with_unfolding_all rfl)
   refine wpAny_getItem_list_slice ht.isList (Heap.IsSliceOf.new _ v1 v2 v3) q1 q2 q3 (by decide) ?_ (by rw[dj];omega)
   rw[PySem.W.krv_pick]
   have J5:=J4.laid (t':=s4.toks) (o:=.lst vs.reverse) (a:=(s4.heap.push {cls:=.type "slice",data:=.fields #[v1,v2,v3]}).objs.size) (fun b ob z=>Heap.get?_push_of_some _ z) (ba _)
    ⟨by rw[fm];exact hz,_,0,rv.reverse,Heap.get?_push_size _ rfl⟩
   obtain⟨n4,r4⟩:=lJ n1.rs (aQ.rev rr) (J4.hok.fresh (ba _))
   exact⟨.ref _,_,J5,rfl,f1 _ _ _ n4 r4⟩
  ·exact f1.elim
 |_=>exact f1.elim
end
/-- a def of the text that makes lambdas: its code object, its table -/
structure Oa(K:ae)(x qual:Str)(st:Stmt)(f c Pt:Addr):Prop where
 ex:∃fd,Fun K x qual st f fd/\fd.code=.ref c
 hd:c6 K c Pt=true
section
variable {P:Program}{w:World}{K:ae}{mg:Str->Option Value}{base:Heap}{x qual:Str}{st:Stmt}{f c Pt:Addr}
theorem Fq{oc:Value}{od an:Option Addr}{osl:Array (Option Value)}{kV doc pm ct:Value}(l:K.lookup f=some ⟨oc,od,.func (c7 x qual (defArgs st) (defBody st) (defScope st) .none kV doc pm an (.ref c) ct),osl⟩)
    (hc:gE K (.ref c) qual=true)(k:ik K (.ref f)=true)(hh:c6 K c Pt=true):Oa K x qual st f c Pt:=⟨⟨_,fun_mk l hc k,rfl⟩,hh⟩
theorem Oa.at(D:Oa K x qual st f c Pt):jH K x qual st f:=let ⟨fd,F,_⟩:=D.ex;⟨fd,F⟩
theorem Oa.tq{n:Str}(D:Oa K x qual st f c Pt)(hm:mg x=some (.ref f))(hn:tqn x=n:=by decide+kernel):tq K mg x=(qual++".<locals>.")++n:=by
 obtain⟨fd,F,hc⟩:=D.ex
 obtain⟨oc,od,kV,doc,pm,an,cdv,ct,osl,rfl,lk,_⟩:=F.ex
 rw[axe hm lk,hn]
theorem Oa.uniq(D:Oa K x qual st f c Pt)(hm:mg x=some (.ref f)):∀Q,TabN K mg x Q->Q=Pt:=fun Q h=>by
 obtain⟨fd,F,hc⟩:=D.ex
 obtain⟨oc,od,kV,doc,pm,an,cdv,ct,osl,rfl,lk,_⟩:=F.ex
 exact TabN.uniq hm lk hc D.hd h
theorem Oa.ave(D:Oa K x qual st f c Pt)(hm:mg x=some (.ref f)):TabN K mg x Pt:=by
 obtain⟨fd,F,hc⟩:=D.ex
 obtain⟨oc,od,kV,doc,pm,an,cdv,ct,osl,efd,lk,_⟩:=F.ex
 refine⟨f,c,fd,oc,od,osl,hm,lk,hc,?_⟩
 have hh:=D.hd
 unfold c6 at hh
 split at hh
 ·rename_i vs _ hk
  simp only[aB]at hh
  have h1:=hh.1.1.1.1.1
  split at h1
  ·rename_i P' e
   rw[beq_iff_eq]at h1
   subst h1
   exact⟨_,vs,hk,rfl,e⟩
  ·cases h1
 ·cases hh
def chB(vs:Array Value)(c P:Addr):Bool:=(match (vs[11]?:Option Value) with|some (.ref P')=>P'==P|_=>false)&&(match vs.getD 18 .none with|.str _ _=>true|_=>false)&&(match vs.getD 7 .none with|.int _ _=>true|_=>false)&&(match vs.getD 9 .none with|.bool _=>true|_=>false)&&(match vs.getD 10 .none with|.int _ _=>true|_=>false)&&c !=P
theorem Bw{od:Option Addr}{vs:Array Value}{sl:Array (Option Value)}{c P:Addr}(h:K.lookup c=some ⟨.type "code",od,.fields vs,sl⟩)(h2:chB vs c P=true):c6 K c P=true:=by
 unfold c6
 rw[h]
 exact h2
theorem aoo{fd:FuncData}{N ps:List Str}{k n:Nat}{m:Rho->M CF}(F:Fun K x qual st f fd)(hc:fd.code=.ref c)(Sc:FnScope N ps (defScope st))(hn:N.length=n)
    (hbody:∀(A:Around)(outer:List Env)(s:Shared)(H:Hp)(E:XK),RmG k (A.deeper (envOfC qual (defScope st) s.heap.objs.size f (.ref c)))->
      Takes (cxOf (fo P w) P w K mg base N qual (defScope st) f (.ref c) A outer s H E) (WE' E)->PassesOwn (model P w) (A.deeper (envOfC qual (defScope st) s.heap.objs.size f (.ref c))) (envOfC qual (defScope st) s.heap.objs.size f (.ref c)) (cxOf (fo P w) P w K mg base N qual (defScope st) f (.ref c) A outer s H E).xe->
      GSs (cxOf (fo P w) P w K mg base N qual (defScope st) f (.ref c) A outer s H E) (WE' E) (defBody st) m):FnD P w K mg base (k+1) f fd ps (nR n m):=
  avs F Sc hn fun cdv e=>by
    rw[hc]at e
    subst e
    exact hbody
theorem Oa.law{ts:Tbs}{N:List Str}{p:Str}{k:Nat}{m:Rho->M CF}(D:Oa K x qual st f c Pt)(Sc:FnScope N [p] (defScope st))
    (hb:∀(kV doc pm:Value)(an:Option Addr)(cdv ct:Value)(u:Value),bindArgs (c7 x qual (defArgs st) (defBody st) (defScope st) .none kV doc pm an cdv ct) ⟨[u],[]⟩=pure [(p,u)])
    (hbody:∀(base:Heap),(∀p∈ts,fc base mg p.2.1 p.2.2)->∀(A:Around)(outer:List Env)(s:Shared)(H:Hp)(E:XK),RmG k (A.deeper (envOfC qual (defScope st) s.heap.objs.size f (.ref c)))->
      Takes (cxOf (fo P w) P w K mg base N qual (defScope st) f (.ref c) A outer s H E) (WE' E)->PassesOwn (model P w) (A.deeper (envOfC qual (defScope st) s.heap.objs.size f (.ref c))) (envOfC qual (defScope st) s.heap.objs.size f (.ref c)) (cxOf (fo P w) P w K mg base N qual (defScope st) f (.ref c) A outer s H E).xe->
      GSs (cxOf (fo P w) P w K mg base N qual (defScope st) f (.ref c) A outer s H E) (WE' E) (defBody st) m):
    ∃fd:FuncData,(∀(s:Shared)(u:Value),BindsTo s fd ⟨[u],[]⟩ [(p,u)])/\∀base:Heap,K.In base->base.Ns mainGlobals mg->(∀p∈ts,fc base mg p.2.1 p.2.2)->FnD P w K mg base (k+1) f fd [p] (nR N.length m):=by
  obtain⟨fd,F,hc⟩:=D.ex
  refine⟨fd,fun s u=>?_,fun base _ _ tb=>aoo F hc Sc rfl (hbody base tb)⟩
  obtain⟨oc,od,kV,doc,pm,an,cdv,ct,osl,rfl,_,_⟩:=F.ex
  exact .of_eq (hb kV doc pm an cdv ct u)
end
/-- what «except C» takes -/
theorem anp{K:ae}{D C:Addr}{b:Bool}(h1:gi K (.ref C) (.type "BaseException")=some true)(h2:kQ K C=true)(h3:fR K (.ref C)=some (.type "type"))(h4:gi K (.ref D) (.ref C)=some b):
    eJ K (.ref D) (.ref C)=some b:=by
  have e1:(gi K (.ref C) (.type "BaseException")==some true)=true:=by rw[h1];rfl
  have e2:((fq K C).isSome&&fR K (.ref C)==some (.type "type"))=true:=by
    rw[show(fq K C).isSome=true from h2,h3];rfl
  unfold eJ
  rw[if_pos e1]
  show(if ((fq K C).isSome&&fR K (.ref C)==some (.type "type"))=true then gi K (.ref D) (.ref C) else none)=some b
  rw[if_pos e2,h4]
section
variable {α:Type}{r:Res α}{Qa:α->Sto->Prop}{Q:CV->Sto->Prop}{QB:Bool->Sto->Prop}{QF:CF->Sto->Prop}{E:Str->List (Str×CV)->Sto->Prop}{S S1:Sto}{ρ:Rho}{c d:Str}{fs:List (Str×CV)}
variable {tO:List ((Str×Str)×Bool)}{tB:List ((Str×String)×Bool)}{g:List CV->M CV}{y:CV}
theorem amS{z:Str}:Wp (Aa tO tB g [.str z,y] S) Q E=Wp (g [.str z,y] S) Q E:=rfl
theorem amP{z:Int}:Wp (Aa tO tB g [.int z,y] S) Q E=Wp (g [.int z,y] S) Q E:=rfl
theorem amN{z:Bool}:Wp (Aa tO tB g [.bl z,y] S) Q E=Wp (g [.bl z,y] S) Q E:=rfl
theorem amQ:Wp (Aa tO tB g [.non,y] S) Q E=Wp (g [.non,y] S) Q E:=rfl
theorem amU{z:List CV}:Wp (Aa tO tB g [.tup z,y] S) Q E=Wp (g [.tup z,y] S) Q E:=rfl
theorem amR{z:Nat}:Wp (Aa tO tB g [.ref z,y] S) Q E=Wp (g [.ref z,y] S) Q E:=rfl
theorem amX{z:Str}:Wp (akv (.str z) S) Q E=(if z.length<=16777216 then Q (.str ⟨z.cps.toList.reverse.toArray⟩) S else False):=by
 show Wp (if z.length<=16777216 then _ else _) Q E=_
 split<;>rfl
theorem arW{z:Str}{lo hi:Option Int}:Wp (slC (.str z) lo hi S) Q E=(if z.length<=16777216 then Q (.str (cutS z lo hi)) S else False):=by
 show Wp (if z.length<=16777216 then _ else _) Q E=_
 split<;>rfl
theorem as3{me:Rho->M CV}{ml mh:Rho->M (Option Int)}:Wp (mSl me ml mh ρ S) Q E=Wp (me ρ S) (fun x S1=>Wp (ml ρ S1) (fun l S2=>Wp (mh ρ S2) (fun h S3=>Wp (slC x l h S3) Q E) E) E) E:=by
 unfold mSl;rw[bW];congr;funext x S1;rw[bW];congr;funext l S2;rw[bW]
theorem ajl{QO:Option Int->Sto->Prop}:Wp (vW ρ S) QO E=QO none S:=rfl
theorem arU{me:Rho->M CV}{QO:Option Int->Sto->Prop}:Wp (Nu me ρ S) QO E=Wp (me ρ S) (fun x S1=>match x with|.int i=>QO (some i) S1|_=>False) E:=by
 unfold Nu;rw[bW];congr;funext x S1
 cases x<;>rfl
theorem amW{i:Int}:Wp (negC (.int i) S) Q E=Q (.int (-i)) S:=rfl
theorem auM{x:CV}:Wp (ap7 x .non S) Q E=Q (.bl (tE x)) S:=rfl
theorem amM{x:CV}:Wp (Kl x .non S) Q E=Q (.bl (!tE x)) S:=rfl
theorem aqa:tE .non=true:=rfl
theorem ap8{c:Str}{fs:List (Str×CV)}:tE (.exn c fs)=false:=rfl
theorem aqb{n:Nat}:tE (.ref n)=false:=rfl
theorem aqc{n:Str}:tE (.str n)=false:=rfl
theorem ap9{n:Int}:tE (.int n)=false:=rfl
theorem aqd{n:List CV}:tE (.tup n)=false:=rfl
theorem atu{n:Bool}:tE (.bl n)=false:=rfl
theorem axx{n:Nat}:tyB S (.ref n)=(match S[n]? with|some (.lst _)=>some "list"|some (.dic _)=>some "dict"|_=>none):=rfl
theorem ajg{n:Nat}{x:CV}:Wp (rB (.ref n) [x] S) Q E=(match S[n]? with|some (.lst xs)=>(if xs.length<16777216 then Q .non (S.set n (.lst (xs++[x]))) else False)|_=>False):=by
 unfold rB
 dsimp only
 cases S[n]? with
 |none=>rfl
 |some o=>
  cases o with
  |lst xs=>
   show Wp (if xs.length<16777216 then _ else _) Q E=_
   dsimp only
   split<;>rfl
  |_=>rfl
theorem alU:("bool"∈mH)=True:=eq_true (by decide)
theorem avT:nj "NoneType" "bool"=false:=by decide
theorem avz:nj "bool" "bool"=true:=by decide
theorem avJ:nj "int" "bool"=false:=by decide
theorem avY:nj "str" "bool"=false:=by decide
theorem av3:nj "tuple" "bool"=false:=by decide
theorem avO:nj "list" "bool"=false:=by decide
theorem avE:nj "dict" "bool"=false:=by decide
theorem aqx:("int"∈mH)=True:=eq_true (by decide)
theorem avV:nj "NoneType" "int"=false:=by decide
theorem avB:nj "bool" "int"=true:=by decide
theorem avL:nj "int" "int"=true:=by decide
theorem av0:nj "str" "int"=false:=by decide
theorem av5:nj "tuple" "int"=false:=by decide
theorem avQ:nj "list" "int"=false:=by decide
theorem avG:nj "dict" "int"=false:=by decide
theorem ai2:("tuple"∈mH)=True:=eq_true (by decide)
theorem avX:nj "NoneType" "tuple"=false:=by decide
theorem avD:nj "bool" "tuple"=false:=by decide
theorem avN:nj "int" "tuple"=false:=by decide
theorem av2:nj "str" "tuple"=false:=by decide
theorem av7:nj "tuple" "tuple"=true:=by decide
theorem avS:nj "list" "tuple"=false:=by decide
theorem avI:nj "dict" "tuple"=false:=by decide
theorem alW:("list"∈mH)=True:=eq_true (by decide)
theorem avW:nj "NoneType" "list"=false:=by decide
theorem avC:nj "bool" "list"=false:=by decide
theorem avM:nj "int" "list"=false:=by decide
theorem av1:nj "str" "list"=false:=by decide
theorem av6:nj "tuple" "list"=false:=by decide
theorem avR:nj "list" "list"=true:=by decide
theorem avH:nj "dict" "list"=false:=by decide
theorem alV:("dict"∈mH)=True:=eq_true (by decide)
theorem avU:nj "NoneType" "dict"=false:=by decide
theorem avA:nj "bool" "dict"=false:=by decide
theorem avK:nj "int" "dict"=false:=by decide
theorem avZ:nj "str" "dict"=false:=by decide
theorem av4:nj "tuple" "dict"=false:=by decide
theorem avP:nj "list" "dict"=false:=by decide
theorem avF:nj "dict" "dict"=true:=by decide
/-- data that stays as long as the pen alone is written -/
def Dat(p:Nat)(S:Sto)(v:CV)(d:PyData):Prop:=∀S',Ext p S S'->∀n,toR S' (n+2) v=some d
theorem Dat.ext{p:Nat}{v:CV}{d:PyData}(h:Dat p S v d)(e:Ext p S S1):Dat p S1 v d:=fun S' e'=>h S' (e.trans e')
end
section
variable {Q:CV->Sto->Prop}{E:Str->List (Str×CV)->Sto->Prop}{S:Sto}{s s':Str}{k j:Nat}
/-- at most k plain signs -/
structure Pn(k:Nat)(s:Str):Prop where
 len:s.length<=k
 chs:∀c∈s.cps.toList,c<128
theorem Pn.mono(h:Pn k s)(l:k<=j):Pn j s:=⟨a9 h.len l,h.chs⟩
theorem Pn.app(h:Pn k s)(h':Pn j s'):Pn (k+j) (s++s'):=by
 refine⟨?_,fun c hc=>?_⟩
 ·show(s.cps++s'.cps).size<=_
  rw[kU]
  exact Nat.add_le_add h.len h'.len
 ·have hc:c∈(s.cps++s'.cps).toList:=hc
  rw[Array.toList_append]at hc
  exact(ck.mp hc).elim (h.chs c) (h'.chs c)
theorem Pn.cut{lo hi:Option Int}(h:Pn k s):Pn k (cutS s lo hi):=by
 refine⟨a9 (cutS_length s lo hi) h.len,fun c hc=>?_⟩
 have hc:c∈((s.cps.toList.drop (jz s.length 0 lo)).take (jz s.length s.length hi-jz s.length 0 lo)).toArray.toList:=hc
 exact h.chs c (List.mem_of_mem_drop (List.mem_of_mem_take (by simpa using hc)))
theorem Pn.rev(h:Pn k s):Pn k ⟨s.cps.toList.reverse.toArray⟩:=by
 refine⟨?_,fun c hc=>h.chs c (by simpa using hc)⟩
 show s.cps.toList.reverse.toArray.size<=k
 rw[dj,fm,bq];exact h.len
end
def leS(a b:Str):Bool:=!ltCps b.cps.toList a.cps.toList
theorem Fx{a b:Str}:leS a b=true↔a.cps.toList<=b.cps.toList:=by
 unfold leS
 rw[ltCps_eq]
 simp
theorem Rr{a b c:Str}(h:leS a b=true)(h':leS b c=true):leS a c=true:=Fx.mpr (List.le_trans (Fx.mp h) (Fx.mp h'))
theorem aaf(a b:Str):leS a b=true\/leS b a=true:=by
 rw[Fx,Fx];exact List.le_total _ _
theorem aer{a b:Str}(h:leS a b=true)(h':leS b a=true):a=b:=by
 have e:=List.le_antisymm (Fx.mp h) (Fx.mp h')
 obtain⟨⟨l⟩⟩:=a
 obtain⟨⟨m⟩⟩:=b
 have e:l=m:=e
 rw[e]
def aac{α:Type}(le:α->α->Bool)(x:α):List α->List α
 | []=>[x]
 |y::l=>if le x y then x::y::l else y::aac le x l
def sJ{α:Type}(le:α->α->Bool)(l:List α):List α:=l.foldr (aac le) []
section
variable {α:Type}{le:α->α->Bool}(tr:∀a b c,le a b=true->le b c=true->le a c=true)(to:∀a b,le a b=true\/le b a=true)
theorem Rp(x:α):∀l,(aac le x l).Perm (x::l)
 | []=>.refl _
 |y::l=>by
  unfold aac
  split
  ·exact .refl _
  ·exact((Rp x l).cons y).trans (.swap x y l)
theorem uY:∀l:List α,(sJ le l).Perm l
 | []=>.refl _
 |x::l=>(Rp x _).trans ((uY l).cons x)
include tr to in
theorem ahC(x:α):∀l:List α,l.Pairwise (fun a b=>le a b=true)->(aac le x l).Pairwise (fun a b=>le a b=true)
 | [],_=>hG _ _
 |y::l,h=>by
  unfold aac
  have hc:=bC.mp h
  split
  ·rename_i hx
   refine bC.mpr ⟨fun z hz=>?_,h⟩
   rcases av.mp hz with rfl|hz
   ·exact hx
   ·exact tr _ _ _ hx (hc.1 z hz)
  ·rename_i hx
   refine bC.mpr ⟨fun z hz=>?_,ahC x l hc.2⟩
   rcases av.mp ((Rp x l).mem_iff.mp hz) with rfl|hz
   ·exact(to z y).resolve_left hx
   ·exact hc.1 z hz
include tr to in
theorem Qn:∀l:List α,(sJ le l).Pairwise (fun a b=>le a b=true)
 | []=>dA
 |x::l=>ahC tr to x _ (Qn l)
include tr to in
theorem W4(an:∀{a b},le a b=true->le b a=true->a=b){l m:List α}(hp:m.Perm l)(hs:m.Pairwise (fun a b=>le a b=true)):m=sJ le l:=
 (hp.trans (uY l).symm).eq_of_pairwise (fun a b _ _ h h'=>an h h') hs (Qn tr to l)
end
theorem aaq:∀{p:Str}{l:List Str},risingS p l=true->(p::l).Pairwise (fun a b=>leS a b=true)
 |p,[],_=>hG _ _
 |p,x::r,h=>by
  have h:(!ltCps x.cps.toList p.cps.toList&&risingS x r)=true:=h
  rw[aB]at h
  have ih:=aaq h.2
  refine bC.mpr ⟨fun z hz=>?_,ih⟩
  rcases av.mp hz with rfl|hz
  ·exact h.1
  ·exact Rr (show leS p x=true from h.1) ((bC.mp ih).1 z hz)
theorem aga{l:List Str}(h:sortedS l=true):l.Pairwise (fun a b=>leS a b=true):=by
 cases l with
 |nil=>exact .nil
 |cons x r=>exact aaq h
def leI(a b:Int):Bool:=decide (a<=b)
def intsOf:List CV->Option (List Int)
 | []=>some []
 |.int i::l=>(intsOf l).map (i:: ·)
 |_=>none
def Q9:List CV->M CV:=fun xs S=>match xs with
 | [.ref n]=>match S[n]? with
  |some (.lst ys)=>match strsOf ys,intsOf ys with
   |some zs,_=>if zs.length<1000000 then .ok (.ref S.length) (S++[.lst ((sJ leS zs).map .str)]) else .bad
   |none,some is=>if is.length<1000000 then .ok (.ref S.length) (S++[.lst ((sJ leI is).map .int)]) else .bad
   |_,_=>.bad
  |_=>.bad
 |_=>.bad
section
variable {K:ae}{mg:Str->Option Value}{ι:List Addr}{H:Hp}
theorem RB:∀{zs:List Str}{vs:List V},aQ K mg ι H (zs.map CV.str) vs->vs=zs.map V.str
 | [],_,.nil=>rfl
 |z::zs,_,.cons r rs=>by
  cases r
  rw[RB rs];rfl
theorem Ib:∀{ys:List CV}{vs:List V}{is:List Int},aQ K mg ι H ys vs->intsOf ys=some is->vs=is.map V.int
 | [],_,_,.nil,h=>by cases h;rfl
 |.int i::l,_,is,.cons r rs,h=>by
  have h:(intsOf l).map (i:: ·)=some is:=h
  cases e:intsOf l with
  |none=>rw[e]at h;cases h
  |some js=>
   rw[e]at h;cases h
   cases r
   rw[Ib rs e];rfl
end
def svV:Value->Str
 |.str y _=>y
 |_=>Str.empty
def akp(v u:Value):Bool:=ltCps (svV v).cps.toList (svV u).cps.toList
theorem arB:SrtO.Swo akp where
 asym:=fun x y h=>by
  unfold akp at h ⊢
  rw[ltCps_eq]at h ⊢
  have h:=of_decide_eq_true h
  exact decide_eq_false fun z=>gX _ (List.lt_trans h z)
 tr:=fun x y z h1 h2=>by
  unfold akp at h1 h2 ⊢
  rw[ltCps_eq]at h1 h2 ⊢
  have h1:=of_decide_eq_false h1
  have h2:=of_decide_eq_false h2
  exact decide_eq_false fun w=>by
   have a:(svV x).cps.toList<=(svV y).cps.toList:=kI.mp h1
   have b:(svV y).cps.toList<=(svV z).cps.toList:=kI.mp h2
   exact kI.mpr (List.le_trans a b) w
theorem JM:∀{vs:List Value}{ss:List Str},StrsAre vs ss->∀v∈vs,∃y t,v=Value.str y t
 |_,_,.cons y t h,v,hv=>by
  rcases av.mp hv with rfl|hv
  ·exact⟨y,t,rfl⟩
  ·exact JM h v hv
theorem aii:∀{vs:List Value}{ss:List Str},StrsAre vs ss->vs.map svV=ss
 |_,_,.nil=>rfl
 |_,_,.cons y t h=>by rw[ax,aii h];rfl
theorem ail:∀{vs:List Value},(∀v∈vs,∃y t,v=Value.str y t)->StrsAre vs (vs.map svV)
 | [],_=>.nil
 |v::vs,h=>by
  obtain⟨y,t,rfl⟩:=h v af
  exact .cons y t (ail fun v hv=>h v (ag _ hv))
theorem arz{prog:Program}{w:World}{A:Around}{s:Shared}{vs:List Value}{ss:List Str}(hI:StrsAre vs ss):SrtO.Cmp prog w A s oneType' (fun p=>p.fst∈vs) (SrtO.lt2 akp):=fun p q hm hm'=>by
 obtain⟨a,t,e⟩:=JM hI p.fst hm
 obtain⟨b,u,e'⟩:=JM hI q.fst hm'
 show wpAny (model prog w) A (keyLt' oneType' p.fst q.fst) (fun r s'=>s'=s/\r=akp p.fst q.fst) _ s
 rw[e,e',keyLt'_oneType]
 exact oneLt_str ⟨rfl,by unfold akp;rw[ltCps_eq];rfl⟩
theorem Y7{prog:Program}{w:World}{A:Around}{s:Shared}{a:Addr}{vs:List Value}{ss:List Str}(hI:StrsAre vs ss)(h2:2<=vs.length):SrtO.SortableO prog w A s a vs akp:=fun h' _=>⟨oneType',fun Q E hq=>by
 match vs,hI,h2 with
 |v1::v2::rest,hI,_=>
  rw[keyKind_strs hI]
  exact wpAny_pure hq,arz hI⟩
def ai5(K:ae):List V->Hp->VK->Prop:=fun vs H Q=>∃(a:Addr) (xs:List Str),vs=[V.ref a]/\SqL K H a (xs.map V.str)/\∀(ys:List Str)(p:Addr),ys.Perm xs->ys.Pairwise (fun a b=>leS a b=true)->H p=none->Q (.ref p) (upd H p (.lst (ys.map V.str)))
theorem adx{X:Cx}:CallR X (.builtin "sorted") (ai5 X.K):=by
 intro pins s σ H vs us Q I r h
 obtain⟨a,xs,rfl,hs,q⟩:=h
 obtain⟨its,rv,hl,hz⟩:=Inv.list I hs
 rw[Vals.ref1 r]
 have hi:=Vals.strs rv
 refine SrtO.sorted_ord arB (PySem.PlainL.isList hl) (by rw[<-Vals.length rv];exact hz) (fun h2 h₁ a' _ _=>Y7 hi h2) fun out h1 h2=>?_
 obtain⟨ep,he'⟩:=sortedAll_at s.heap its out.toArray
 have hout:StrsAre out (out.map svV):=ail fun v hv=>JM hi v (h2.perm.mem_iff.mp hv)
 have hp:(out.map svV).Perm xs:=by rw[<-aii hi];exact h2.perm.map svV
 have hpw:(out.map svV).Pairwise (fun a b=>leS a b=true):=f7.mpr (h1.imp fun {x y} h=>by
  show(!ltCps (svV y).cps.toList (svV x).cps.toList)=true
  have h:ltCps (svV y).cps.toList (svV x).cps.toList=false:=h
  rw[h];rfl)
 have hlen:((out.map svV).map V.str).length<=sizeLine:=by
  rw[ar,hp.length_eq]
  rw[ar]at hz
  exact hz
 exact⟨V.ref (s.heap.objs.size+1),upd H (s.heap.objs.size+1) (.lst ((out.map svV).map V.str)),Inv.laid I (fun b u=>sortedAll_old) (gI _) ⟨hlen,out,ep,vals_of_strs hout,he'⟩,rfl,q _ _ hp hpw (HOk.fresh I.hok (gI _))⟩
theorem aaE{X:Cx}{W:WX}:oH X W (.builtin "sorted") Q9:=oW (CallR.or adx cr_sortedI) fun ι S H xs vs Q B Rs rx fi=>by
 unfold Q9 at fi
 split at fi
 ·rename_i n
  obtain⟨v,rfl,r⟩:=one_of rx
  split at fi
  ·rename_i ys ex
   cases r with
   |ref hq=>
    obtain⟨us,h1,rr⟩:=Rs.obj _ _ _ hq ex
    split at fi
    ·rename_i zs ez
     split at fi
     ·rename_i hl
      rw[Bu ez]at rr
      have eu:=RB rr
      subst eu
      refine .inl ⟨_,zs,rfl,SqL.of h1,fun zs' p hp hs hn=>?_⟩
      have e:=W4 (le:=leS) (fun _ _ _=>Rr) aaf aer hp hs
      subst e
      obtain⟨n2,r2⟩:=lJ Rs (aQ.strs (sJ leS zs)) hn
      exact fi _ _ _ n2 r2
     ·exact fi.elim
    ·rename_i is _ ei
     split at fi
     ·rename_i hl
      have eu:=Ib rr ei
      subst eu
      refine .inr ⟨_,is,rfl,SqL.of h1,fun is' p hp hs hn=>?_⟩
      have e:=W4 (le:=leI) (fun a b c h h'=>by simp[leI]at *;omega) (fun a b=>by simp[leI];omega) (fun {a b} h h'=>by simp[leI]at *;omega) hp (hs.imp fun {a b} h=>by simpa[leI]using h)
      subst e
      obtain⟨n2,r2⟩:=lJ Rs (aQ.ints (sJ leI is)) hn
      exact fi _ _ _ n2 r2
     ·exact fi.elim
    ·exact fi.elim
  ·exact fi.elim
 ·exact fi.elim
def smB(e k:Nat)(d:PyData):Bool:=d.showable&&decide (d.depth<=e)&&decide (d.shown.length<=k)
theorem v9{e k:Nat}{d:PyData}:smB e k d=true↔d.showable=true/\d.depth<=e/\d.shown.length<=k:=by
 unfold smB
 simp only[aB,decide_eq_true_eq,and_assoc]
theorem acg{e k:Nat}:∀{xs:List PyData},(∀x∈xs,smB e k x=true)->PyData.showableAll xs=true/\PyData.depthAll xs<=e/\((PyData.shownAll xs).map (·.length)).sum<=k*xs.length/\(PyData.shownAll xs).length=xs.length
 | [],_=>⟨by simp[PyData.showableAll],by simp[PyData.depthAll],by simp[PyData.shownAll],by simp[PyData.shownAll]⟩
 |x::xs,h=>by
  obtain⟨h1,h2,h3,h4⟩:=acg fun y hy=>h y (ag _ hy)
  obtain⟨k1,k2,k3⟩:=v9.mp (h x af)
  refine⟨by simp only[PyData.showableAll,k1,h1,hH],by simp only[PyData.depthAll];omega,?_,by simp only[PyData.shownAll,ai,h4]⟩
  simp only[PyData.shownAll,ax,ku,ai,j0,Nat.mul_one]
  omega
theorem auq{e k n:Nat}{xs:List PyData}(h:∀x∈xs,smB e k x=true)(hn:xs.length<=n):smB (e+1) (k*n+2*n+3) (.tuple xs)=true:=by
 obtain⟨h1,h2,h3,h4⟩:=acg h
 have h5:=tupleText_len_le (PyData.shownAll xs)
 have h6:k*xs.length<=k*n:=iP k hn
 refine v9.mpr ⟨by simp only[PyData.showable,h1],by simp only[PyData.depth];omega,?_⟩
 simp only[PyData.shown]
 omega
theorem aup{e k n:Nat}{xs:List PyData}(h:∀x∈xs,smB e k x=true)(hn:xs.length<=n):smB (e+1) (k*n+2*n+3) (.list xs)=true:=by
 obtain⟨h1,h2,h3,h4⟩:=acg h
 have h5:=listText_len_le (PyData.shownAll xs)
 have h6:k*xs.length<=k*n:=iP k hn
 refine v9.mpr ⟨by simp only[PyData.showable,h1],by simp only[PyData.depth];omega,?_⟩
 simp only[PyData.shown]
 omega
theorem aib{e k e' k':Nat}{d:PyData}(h:smB e k d=true)(he:e<=e')(hk:k<=k'):smB e' k' d=true:=by
 obtain⟨h1,h2,h3⟩:=v9.mp h
 exact v9.mpr ⟨h1,by omega,by omega⟩
theorem axb{e k:Nat}{d:PyData}(h:smB e k d=true)(he:e<=60)(hk:k<=16777216):(d.showable&&decide (d.depth<=60)&&decide (d.shown.length<=sizeLine))=true:=aib h he hk
set_option maxHeartbeats 4000000
open PySem.W PySem.HandSPX
def pairUp{α:Type}:List α->List (α×α)
 |a::b::r=>(a,b)::pairUp r
 |_=>[]
def acA(kvs:List (CV×CV)):Option (List Key):=kvs.mapM fun p=>ckey p.1
def keysOk(ks:List Key):Bool:=decide ks.Nodup&&decide (ks.length<=15)
def acR(kvs:List (CV×CV)):M CV:=fun S=>match acA kvs with
 |some ks=>if keysOk ks=true then .ok (.ref S.length) (S++[.dic kvs]) else .bad
 |none=>.bad
def Aq(ms:Rho->M (List CV)):Rho->M CV:=fun ρ=>bnd (ms ρ) fun xs=>acR (pairUp xs)
section
variable {K:ae}{mg:Str->Option Value}{ι ι2:List Addr}{H H2:Hp}{S S2:Sto}{p:Addr}
theorem Oq:∀{more acc:List (Key×V)},((acc++more).map (·.1)).Nodup->mergeK acc more=acc++more
 | [],acc,_=>by unfold mergeK;simp
 |kv::more,acc,h=>by
  have hp:putK acc kv.1 kv.2=acc++[kv]:=by
   unfold putK
   rw[if_neg]
   intro z
   obtain⟨q,hq,e⟩:=jq.mp z
   have e:=of_decide_eq_true e
   rw[il,f9]at h
   exact h.2.2 _ (List.mem_map_of_mem hq) _ (by rw[ax];exact af) e
  have:=Oq (more:=more) (acc:=acc++[kv]) (by rw[a7];exact h)
  unfold mergeK at this ⊢
  rw[gC]
  show List.foldl _ (putK acc kv.1 kv.2) more=_
  rw[hp,this,a7];rfl
theorem aed:∀{xs:List CV}{vs:List V}{ks:List Key},aQ K mg ι H xs vs->acA (pairUp xs)=some ks->
    ∃kvs:List (Key×V),pairUp vs=kvs.map (fun kv=>(kV kv.1,kv.2))/\kvs.map (·.1)=ks/\dB K mg ι H (pairUp xs) kvs
  |_,_,ks,.nil,h=>by cases h;exact⟨[],rfl,rfl,.nil⟩
  |_,_,ks,.cons _ .nil,h=>by cases h;exact⟨[],rfl,rfl,.nil⟩
  |_,_,ks,.cons (c:=k) (v:=v0) r1 (.cons (c:=y) (v:=v1) (cs:=cs) r2 rs),h=>by
   unfold acA at h
   unfold pairUp at h
   rw[bb]at h
   cases e1:ckey k with
   |none=>rw[show((k,y):CV×CV).1=k from rfl,e1]at h;cases h
   |some k'=>
    rw[show((k,y):CV×CV).1=k from rfl,e1]at h
    cases e2:(pairUp cs).mapM (fun p:CV×CV=>ckey p.1) with
    |none=>rw[e2]at h;cases h
    |some ks'=>
     rw[e2]at h
     cases h
     obtain⟨kvs,h1,h2,h3⟩:=aed rs e2
     have ek:v0=kV k':=by
          cases r1 with
          |int=>cases e1;rfl
          |str=>cases e1;rfl
          |_=>cases e1
     subst ek
     exact⟨(k',v1)::kvs,by unfold pairUp;rw[h1,ax],by rw[ax,h2],.cons e1 r2 h3⟩
/-- an object that was beside the store comes into it -/
theorem RS.late(R:RS K mg ι S H)(hp:H p=none)(n:Nx K mg ι (upd H p (.dK [])) S2 ι2 H2):
    H2 p=some (.dK [])/\∀(u:HO)(o:CO),(Tk H2 (upd H2 p u)->VN K mg (ι2++[p]) (upd H2 p u) p o)->Nx K mg ι H (S2++[o]) (ι2++[p]) (upd H2 p u):=by
  have hpn:p∉ι:=fun z=>by
    obtain⟨u',e,_⟩:=R.mem z
    rw[hp]at e;cases e
  have e2:H2 p=some (.dK []):=n.fr p _ (.inl hpn) trivial upd_same
  refine⟨e2,fun u o hu=>?_⟩
  obtain⟨m,rfl,f⟩:=n.ext
  have hpm:p∉ι++m:=fun z=>(ck.mp z).elim hpn fun z=>f p z _ upd_same trivial
  have tk:Tk H2 (upd H2 p u):=by
    refine⟨fun b xs h=>?_,fun b o xs h=>?_,fun b φ h=>?_,fun b gs h=>?_⟩
    · have hb:b≠p:=fun z=>by
        subst z
        rcases h with h|⟨o,h⟩<;>rw[e2]at h<;>cases h
      rcases h with h|⟨o,h⟩
      · exact .inl (by rw[upd_ne hb];exact h)
      · exact .inr ⟨o,by rw[upd_ne hb];exact h⟩
    all_goals
      have hb:b≠p:=fun z=>by subst z;rw[e2]at h;cases h
      rw[upd_ne hb];exact h
  have fr:Frm ι H (upd H2 p u):=fun b q hb nt h=>by
    have hbp:b≠p:=fun z=>by rw[z,hp]at h;cases h
    rw[upd_ne hbp]
    exact n.fr b q hb nt (by rw[upd_ne hbp];exact h)
  refine⟨⟨by rw[bg (as:=ι++m),n.rs.len,bg];rfl,?_,fun k a q e1 e3=>?_⟩,⟨m++[p],by rw[a7],fun b hb q e=>?_⟩,fr⟩
  · rw[f9]
    refine⟨n.rs.nd,dm.mpr ⟨by simp,List.nodup_nil⟩,fun x hx y hy=>?_⟩
    rw[cn.mp hy]
    exact fun z=>hpm (by rw[<-z];exact hx)
  · by_cases hn:k<(ι++m).length
    · rw[az hn]at e1
      rw[az (by rw[<-n.rs.len];exact hn)]at e3
      have ho:=n.rs.obj k a q e1 e3
      exact ho.mono tk [p] (by rw[upd_ne (fun z=>hpm (by rw[<-z];exact bw e1))])
    · have hn':(ι++m).length<=k:=gp hn
      rw[aL hn']at e1
      rw[aL (by rw[<-n.rs.len];exact hn')]at e3
      rw[<-n.rs.len]at e3
      cases j:k-(ι++m).length with
      |zero=>
       rw[j]at e1 e3
       simp at e1 e3
       subst e1;subst e3
       exact hu tk
      |succ k'=>rw[j]at e1;simp at e1
  · rcases ck.mp hb with hb|hb
    · have hbp:b≠p:=fun z=>hpm (by rw[<-z];exact gh _ hb)
      exact f b hb q (by rw[upd_ne hbp];exact e)
    · rw[cn.mp hb,hp]at e;cases e
end
section
variable {X:Cx}{W:WX}{pos:Pos}{ks:List (Option Expr)}{vs:List Expr}{k v:Expr}{mk mv:Rho->M CV}{ms:Rho->M (List CV)}
def tDs(K:ae)(mg:Str->Option Value)(W:WX)(ms:Rho->M (List CV))(σ:cz)(H:Hp)(Q:List V->Hp->Prop):Prop:=∃ι ρ S,RS K mg ι S H/\d8 K mg ι H ρ σ/\Fin K mg ι H (aQ K mg) (ms ρ S) Q (fun c d H'=>W c d σ H')
def GPs(X:Cx)(W:WX)(pos:Pos)(ks:List (Option Expr))(vs:List Expr)(ms:Rho->M (List CV)):Prop:=∃trs,PPs X pos ks vs trs/\∀σ H Q,tDs X.K X.mg W ms σ H (fun ws H1=>Q (pairUp ws) H1)->tPairs trs σ H Q
theorem zG:GPs X W pos [] [] aN:=⟨[],pps_nil,fun σ H Q ⟨ι,ρ,S,Rs,rs,fi⟩=>Fin.ret (R:=aQ X.K X.mg) (v:=[]) Rs fi .nil⟩
theorem jQ(hk:GE X W k mk)(hv:GE X W v mv)(hr:GPs X W pos ks vs ms):GPs X W pos (some k::ks) (v::vs) (au mk (au mv ms)):=by
 obtain⟨trs,h1,h2⟩:=hr
 refine⟨_,pps_cons hk hv h1,fun σ H Q ⟨ι,ρ,S,Rs,rs,fi⟩=>?_⟩
 refine⟨ι,ρ,S,Rs,rs,(Fin.bnd (R:=bx X.K X.mg) fi).imp fun x H1 ⟨ι1,S1,c,n1,rx,f1⟩=>?_⟩
 replace f1:=Fin.bnd (R:=aQ X.K X.mg) f1
 refine⟨ι1,ρ,S1,n1.rs,n1.cY Rs rs,(Fin.bnd (R:=bx X.K X.mg) f1).imp fun y H2 ⟨ι2,S2,d,n2,ry,f2⟩=>?_⟩
 replace f2:=Fin.bnd (R:=aQ X.K X.mg) f2
 refine h2 _ _ _ ⟨ι2,ρ,S2,n2.rs,n2.cY n1.rs (n1.cY Rs rs),f2.imp fun zs H3 ⟨ι3,S3,ds,n3,rz,f3⟩=>?_⟩
 obtain⟨ι4,S4,e,n4,re,f4⟩:=Fin.ret (R:=aQ X.K X.mg) (v:=y::zs) n3.rs f3 (.cons (n3.rep n2.rs ry) rz)
 exact Fin.ret (R:=aQ X.K X.mg) (v:=x::y::zs) n4.rs f4 (.cons (n4.rep n1.rs rx) re)
theorem ux(h:GPs X W pos ks vs ms)(hall:ks.all (·.isSome)=true:=by rfl)(hl:ks.length=vs.length:=by rfl)(h0:ks≠[]:=by exact fun h=>nomatch h)(h15:ks.length<=15:=by decide):GE X W (.Dict ks vs pos) (Aq ms):=by
 obtain⟨trs,h1,h2⟩:=h
 refine PE.imp (pe_disp h1 hall hl h0 h15) fun σ H Q ⟨ι,ρ,S,Rs,rs,fi⟩ p hp=>?_
 have n0:Nx X.K X.mg ι H S ι (upd H p (.dK [])):=Rs.side hp
 refine h2 _ _ _ ⟨ι,ρ,S,n0.rs,n0.cY Rs rs,?_⟩
 unfold Aq bnd at fi
 cases er:ms ρ S with
 |bad=>rw[er]at fi;exact fi.elim
 |exc c fs S1=>rw[er]at fi;exact ag8.after (S':=S1) (c:=c) (fs:=fs) (B:=fun c d H'=>W c d σ H') n0 fi
 |ok xs S1=>
  rw[er]at fi
  intro ws ι2 H2 n rx
  have fi':Fin X.K X.mg ι H (bx X.K X.mg) (acR (pairUp xs) S1) Q (fun c d H'=>W c d σ H'):=fi
  unfold acR at fi'
  cases ek:acA (pairUp xs) with
  |none=>rw[ek]at fi';exact fi'.elim
  |some kys=>
   rw[ek]at fi'
   dsimp only at fi'
   split at fi'
   ·rename_i ok
    unfold keysOk at ok
    rw[aB,decide_eq_true_eq,decide_eq_true_eq]at ok
    obtain⟨kvs,g1,g2,g3⟩:=aed rx ek
    obtain⟨e2,lt⟩:=Rs.late hp n
    refine⟨e2,kvs,g1,by have:=ok.2;rw[<-g2,ar]at this;exact this,?_⟩
    have em:mergeK [] kvs=kvs:=Oq (by rw[cc,g2];exact ok.1)
    rw[em]
    refine fi' _ _ _ (lt (.dK kvs) (.dic (pairUp xs)) fun tk=>.inl ⟨kvs,upd_same,g3.mono tk [p]⟩) (.ref ?_)
    rw[<-n.rs.len,aL (ba _),fv];rfl
   ·exact fi'.elim
end
def ay2(c:Str)(r:List (Str×Bool)):List ((Str×Str)×Bool):=r.map fun e=>((c,e.1),e.2)
def aon:List (Str×List (Str×Bool))->List ((Str×Str)×Bool)
 | []=>[]
 |q::r=>ay2 q.1 q.2++aon r
theorem Xa{α:Type}{P:α->Prop}:∀p∈([]:List α),P p:=fun p h=>nomatch h
theorem rA{α:Type}{P:α->Prop}{x:α}{l:List α}(h:P x)(t:∀p∈l,P p):∀p∈x::l,P p:=fun p hp=>by
 rcases av.mp hp with rfl|hp
 ·exact h
 ·exact t p hp
theorem Z5{P:(Str×Str)×Bool->Prop}:∀{tbl:List (Str×List (Str×Bool))},(∀q∈tbl,∀e∈q.2,P ((q.1,e.1),e.2))->∀p∈aon tbl,P p
 | [],_,p,hp=>nomatch hp
 |q::r,h,p,hp=>by
  rcases ck.mp hp with hp|hp
  ·obtain⟨e,he,rfl⟩:=aw.mp hp
   exact h q af e he
  ·exact Z5 (fun q hq=>h q (ag _ hq)) p hp
theorem Bl{K:ae}{t c:Value}:∀{cs:List Value}(j:Nat),fT K t cs=some false->cs[j]?=some c->aS K t c=some false
 | [],_,_,h=>by cases h
 |d::cs,j,h,hj=>by
  unfold fT at h
  cases e:aS K t d with
  |none=>rw[e]at h;cases h
  |some b=>
   rw[e]at h
   cases b with
   |true=>cases h
   |false=>
    cases j with
    |zero=>cases hj;exact e
    |succ j=>exact Bl j h hj
theorem RQ{K:ae}{t:Value}:aS K t t=some true:=by
 unfold aS
 rw[if_pos (by simp)]
/-- statements of a body, where they stand -/
structure PSt(X:Cx)(body st:List Stmt)(t:TS):Prop where
 run:∀(pins:List (Addr×Obj))(s:Shared)(σ:cz)(H:Hp)(D:lb),Inv X pins σ H s->t D σ H->_root_.PySem.wpAt (model X.prog X.w) X.A (.func body X.env) (execs st X.env) (SP X pins D) X.xe s
section
variable {X:Cx}{W:WX}{body sts rest es:List Stmt}{st:Stmt}{m1 m2:Rho->M CF}
theorem PSt.imp{t t':TS}(h:PSt X body sts t)(k:∀D σ H,t' D σ H->t D σ H):PSt X body sts t':=⟨fun pins s σ H D I q=>h.run pins s σ H D I (k D σ H q)⟩
end
def Es(k:Key)(p:CV×CV):Bool:=match ckey p.1 with
 |some j=>decide (j=k)
 |none=>false
def o9(kvs:List (CV×CV))(k:Key):Option CV:=(kvs.find? (Es k)).map (·.2)
def Ba(kvs:List (CV×CV))(kc:CV)(k:Key)(v:CV):List (CV×CV):=if kvs.any (Es k) then kvs.map fun p=>if Es k p then (p.1,v) else p else kvs++[(kc,v)]
def Gp(kvs:List (CV×CV))(k:Key):List (CV×CV):=kvs.filter fun p=>!Es k p
section
variable {K:ae}{mg:Str->Option Value}{ι:List Addr}{H:Hp}{S:Sto}{n:Nat}{a:Addr}{kvs:List (CV×CV)}{ps:List (Key×V)}{k:Key}{c kc:CV}{v:V}
theorem Jc{p:CV×CV}{j:Key}(h:ckey p.1=some j):Es k p=decide (j=k):=by unfold Es;rw[h]
theorem dB.val(r:dB K mg ι H kvs ps):match o9 kvs k with
    |some c=>∃v,valV ps k=some v/\bx K mg ι H c v
    |none=>valV ps k=none:=by
  induction kvs generalizing ps with
  |nil=>cases r;rfl
  |cons p kvs ih=>
   cases r with
   | @cons k0 k' c' v' _ vs hk rv rs=>
     by_cases e:k'=k
     · have e1:o9 ((k0,c')::kvs) k=some c':=by unfold o9;rw[kA (by rw[Jc hk];exact decide_eq_true e)];rfl
       rw[e1,valV_pos e]
       exact⟨_,rfl,rv⟩
     · have e1:o9 ((k0,c')::kvs) k=o9 kvs k:=by unfold o9;rw[kB (by rw[Jc hk,decide_eq_false e];decide)]
       rw[e1,valV_neg e]
       exact ih rs
theorem dB.any(r:dB K mg ι H kvs ps):kvs.any (Es k)=ps.any fun kv=>decide (kv.1=k):=by
 induction kvs generalizing ps with
 |nil=>cases r;rfl
 |cons p kvs ih=>
  cases r with
  |cons hk rv rs=>rw[dz,dz,ih rs,Jc hk]
theorem dB.app{kvs':List (CV×CV)}{ps':List (Key×V)}(r':dB K mg ι H kvs' ps'):∀{kvs:List (CV×CV)}{ps:List (Key×V)},dB K mg ι H kvs ps->dB K mg ι H (kvs++kvs') (ps++ps')
 |_,_,.nil=>r'
 |_,_,.cons hk rv rs=>.cons hk rv (dB.app r' rs)
theorem dB.put(rv:bx K mg ι H c v)(hk:ckey kc=some k)(r:dB K mg ι H kvs ps):dB K mg ι H (Ba kvs kc k c) (putK ps k v):=by
 unfold Ba putK
 rw[r.any]
 split
 ·have:∀{kvs:List (CV×CV)}{ps:List (Key×V)},dB K mg ι H kvs ps->dB K mg ι H (kvs.map fun p=>if Es k p then (p.1,c) else p) (ps.map fun kv=>if kv.1=k then (kv.1,v) else kv):=by
   intro kvs
   induction kvs with
   |nil=>intro ps r;cases r;exact .nil
   |cons p kvs ih=>
    intro ps r
    cases r with
    | @cons k0 k' c' v' _ vs hk0 rv0 rs=>
     rw[ax,ax,Jc hk0]
     by_cases e:k'=k
     ·rw[if_pos (decide_eq_true e),if_pos e];exact .cons hk0 rv (ih rs)
     ·rw[if_neg (by rw[decide_eq_false e];decide),if_neg e];exact .cons hk0 rv0 (ih rs)
  exact this r
 ·exact dB.app (.cons hk rv .nil) r
theorem dB.drop:∀{kvs:List (CV×CV)}{ps:List (Key×V)},dB K mg ι H kvs ps->dB K mg ι H (Gp kvs k) (dropK ps k)
 |_,_,.nil=>.nil
 |_,_,.cons (k:=k0) (k':=k') (c:=c') (v:=v') (cs:=kvs) (vs:=ps) hk rv rs=>by
  unfold Gp dropK
  rw[dC,dC,Jc hk]
  by_cases e:k'=k
  ·rw[if_neg (by rw[decide_eq_true e];decide),if_neg (by simp[e])];exact dB.drop rs
  ·rw[if_pos (by rw[decide_eq_false e];rfl),if_pos (by simp[e])];exact .cons hk rv (dB.drop rs)
theorem dB.len:∀{kvs:List (CV×CV)}{ps:List (Key×V)},dB K mg ι H kvs ps->kvs.length=ps.length
 |_,_,.nil=>rfl
 |_,_,.cons _ _ rs=>by rw[ai,ai,dB.len rs]
/-- the dict has a key of a kind, or none at all: keys are ints and texts -/
def fX(kvs:List (CV×CV)):Bool:=kvs.all fun p=>(ckey p.1).isSome
theorem VN.dk(h:VN K mg ι H a (.dic kvs))(hf:fX kvs=true):∃ps,H a=some (.dK ps)/\dB K mg ι H kvs ps:=by
 rcases h with h|⟨hne,ps,_,r⟩
 ·exact h
 ·cases r with
  |nil=>exact absurd rfl hne
  | @cons k0 _ _ _ _ _ hk rv rs=>
   unfold fX at hf
   rw[cE,aB]at hf
   cases k0<;>first|cases hk|exact absurd hf.1 (show ¬(none:Option Key).isSome=true by decide)
/-- the dict at n, walked or not -/
def xX(S:Sto)(n:Nat):Option (List (CV×CV)):=match S[n]? with
 |some (.dic kvs)=>some kvs
 |some (.frz (.dic kvs))=>some kvs
 |some (.mdc kvs)=>some kvs
 |_=>none
theorem RS.dk(Rs:RS K mg ι S H)(hq:ι[n]?=some a)(h:xX S n=some kvs)(hf:fX kvs=true):∃ps,Rd H a (.dK ps)/\dB K mg ι H kvs ps:=by
 unfold xX at h
 split at h
 ·rename_i ex
  cases h
  obtain⟨ps,h1,r⟩:=(Rs.obj _ _ _ hq ex).dk hf
  exact⟨ps,.inl h1,r⟩
 ·rename_i ex
  cases h
  obtain⟨o,ps,h1,r⟩:=Rs.obj _ _ _ hq ex
  exact⟨ps,.inr ⟨o,h1⟩,r⟩
 ·rename_i ex
  cases h
  obtain⟨ps,h1,r⟩:=Rs.obj _ _ _ hq ex
  exact⟨ps,.inl h1,r⟩
 ·cases h
theorem Fw(h:ckey c=some k)(r:bx K mg ι H c v):v=kV k:=by
 cases r with
 |int=>cases h;rfl
 |str=>cases h;rfl
 |_=>cases h
end
def Bj(g:CV->CV->M CV):CV->CV->M CV:=fun x y S=>match x with
 |.ref n=>match xX S n with
  |some kvs=>match ckey y with
   |some k=>if fX kvs then (match o9 kvs k with
    |some c=>.ok c S
    |none=>.bad) else .bad
   |none=>.bad
  |none=>g x y S
 |_=>g x y S
def afy(neg:Bool)(g:CV->CV->M CV):CV->CV->M CV:=fun x y S=>match y with
 |.ref n=>match xX S n with
  |some kvs=>match ckey x with
   |some k=>if fX kvs then .ok (.bl (neg !=(o9 kvs k).isSome)) S else .bad
   |none=>.bad
  |none=>g x y S
 |_=>g x y S
section
variable {X:Cx}{W:WX}
theorem amB{prog:Program}{w:World}{A:Around}{E:Value->Shared->Prop}{s:Shared}{value slice:Expr}{o i:Value}{Q:Value->Shared->Prop}(hT:s.TypeIs o "dict")(hs:subscripted slice false o i=operate [o,i] (getItem o i))
    (h:wpAny (model prog w) A (getItem o i) Q E s):wpAny (model prog w) A (subscriptTail value slice o i) Q E s:=by
  unfold subscriptTail
  refine wpAny_bind ?_
  rw[getitemInPython_of_ne hT.not_modules]
  refine wpAny_bind (wpAny_specialOf hT PySem.F.slot_dict_getitem.lookup ?_)
  have fin:wpAny (model prog w) A (subscripted slice false o i) (fun r s₃=>wpAny (model prog w) A (letTemporaryGo value o r>>=fun _=>pure r) Q E s₃) E s:=by
    rw[hs]
    exact wpAny_operating (wpAny_mono h (fun r s₃ h₃=>wpAny_bind (wpAny_letTemporaryGo (wpAny_pure h₃))) fun _ _ x=>x)
  first
    |exact wpAny_pure (wpAny_bind fin)
    |exact wpAny_bind (wpAny_pure (wpAny_bind fin))
    |exact wpAny_bind fin
theorem RP{g:CV->CV->M CV}(hu:X.A.units+1<cLine)(hg:IxG X W g):IxG X W (Bj g):=by
 intro value slice pins s σ H ι S x y v u a b Q I rv ru Rs rx ry fi hs
 unfold Bj at fi
 cases rx with
 | @ref n p hq=>
  dsimp only at fi
  split at fi
  ·rename_i kvs ex
   split at fi
   ·rename_i k hk
    split at fi
    ·rename_i hf
     obtain⟨ps,h1,r1⟩:=Rs.dk hq ex hf
     have hv:=r1.val (k:=k)
     split at fi
     ·rename_i c hc
      rw[hc]at hv
      obtain⟨w,hw,rw'⟩:=hv
      have ek:=Fw hk ry
      subst ek
      obtain rfl:a=Value.ref p:=rv
      have gg:DGet H p (kV k) (some w):=.inl ⟨ps,k,h1,rfl,hw.symm⟩
      exact amB (dict_typeIs I gg) hs (d_getItem hu I gg ru fun w' s' I' r'=>⟨w,H,I',r',Fin.ret Rs fi rw'⟩)
     ·exact fi.elim
    ·exact fi.elim
   ·exact fi.elim
  ·exact hg value slice pins s σ H ι S _ y _ u a b Q I rv ru Rs (.ref hq) ry fi hs
 |_=>exact hg value slice pins s σ H ι S _ y _ u a b Q I rv ru Rs (by first|exact .non|exact .bl _|exact .int _|exact .str _|exact .ty _|(constructor<;>assumption)) ry fi hs
theorem Ww{g:CV->CV->M CV}(hu:X.A.units+1<cLine)(hg:OpG X W (compareOp .NotIn) g):OpG X W (compareOp .NotIn) (afy true g):=by
 intro pins s σ H ι S x y v u a b Q I rv ru Rs rx ry fi
 unfold afy at fi
 cases ry with
 | @ref n p hq=>
  dsimp only at fi
  split at fi
  ·rename_i kvs ex
   split at fi
   ·rename_i k hk
    split at fi
    ·rename_i hf
     obtain⟨ps,h1,r1⟩:=Rs.dk hq ex hf
     have hv:=r1.val (k:=k)
     have ek:=Fw hk rx
     subst ek
     obtain rfl:b=Value.ref p:=ru
     have gg:DGet H p (kV k) (valV ps k):=.inl ⟨ps,k,h1,rfl,rfl⟩
     have es:(valV ps k).isSome=(o9 kvs k).isSome:=by
      cases hl:o9 kvs k with
      |none=>rw[hl]at hv;rw[hv];rfl
      |some c=>rw[hl]at hv;obtain⟨w,hw,_⟩:=hv;rw[hw];rfl
     refine d_notIn hu I gg rv fun s' I'=>⟨.bl (!(valV ps k).isSome),H,I',rfl,?_⟩
     rw[es]
     rw[show(true !=(o9 kvs k).isSome)=!(o9 kvs k).isSome from by cases (o9 kvs k).isSome<;>rfl]at fi
     exact Fin.ret Rs fi (.bl _)
    ·exact fi.elim
   ·exact fi.elim
  ·exact hg pins s σ H ι S x _ v _ a b Q I rv ru Rs rx (.ref hq) fi
 |_=>exact hg pins s σ H ι S x _ v _ a b Q I rv ru Rs rx (by first|exact .non|exact .bl _|exact .int _|exact .str _|exact .ty _|(constructor<;>assumption)) fi
def rM:CV->CV->CV->M Unit:=fun x i v S=>match x with
 |.ref n=>match S[n]? with
  |some (.dic kvs)=>match ckey i with
   |some k=>if fX kvs=true/\kvs.length<sizeLine then .ok () (S.set n (.dic (Ba kvs i k v))) else .bad
   |none=>.bad
  |_=>.bad
 |_=>.bad
variable {o i:Expr}{mo mi:Rho->M CV}{pos:Pos}
def wU(mo mi:Rho->M CV):CV->Rho->M Rho:=fun v ρ=>bnd (mo ρ) fun x=>bnd (mi ρ) fun i=>bnd (rM x i v) fun _=>ret ρ
theorem T8(hu:X.A.units+1<cLine)(ho:GE X W o mo)(hi:GE X W i mi)(ha:∀v,assign (.Subscript o i pos) X.env v=(do
      let ov<-holding [v] (eval o X.env)
      let iv<-holding [v,ov] (eval i X.env)
      standAt pos
      holding [v,ov,iv] (setItem ov iv v)
      release [v,ov,iv] []):=by intro _;rfl):GG X W (.Subscript o i pos) (wU mo mi):=PG.imp (pg_sub ho hi (set_dict hu) ha) fun v σ H Q ⟨ι,ρ,S,cv,Rs,rs,rv,fi⟩=>by
  refine⟨ι,ρ,S,Rs,rs,(Fin.bnd (R:=bx X.K X.mg) fi).imp fun x H1 ⟨ι1,S1,cx,n1,rx,f1⟩=>?_⟩
  have rs1:=n1.cY Rs rs
  refine⟨ι1,ρ,S1,n1.rs,rs1,(Fin.bnd (R:=bx X.K X.mg) f1).imp fun i H2 ⟨ι2,S2,ci,n2,ri,f2⟩=>?_⟩
  have rs2:=n2.cY n1.rs rs1
  have rx2:=n2.rep n1.rs rx
  have rv2:=n2.rep n1.rs (n1.rep Rs rv)
  have f2:Fin X.K X.mg ι2 H2 (d8 X.K X.mg) ((rM cx ci cv S2).bnd fun _=>ret ρ) Q (fun c d H'=>W c d σ H'):=f2
  unfold rM at f2
  cases rx2 with
  | @ref n p hq=>
    dsimp only at f2
    split at f2
    · rename_i kvs ex
      split at f2
      · rename_i k hk
        split at f2
        · rename_i hf
          obtain⟨ps,h1,r1⟩:=(n2.rs.obj _ _ _ hq ex).dk hf.1
          have ek:=Fw hk ri
          subst ek
          refine⟨_,_,rfl,DPut.k h1 (by rw[<-r1.len];exact hf.2),?_⟩
          have n3:Nx X.K X.mg ι2 H2 (S2.set n (.dic (Ba kvs ci k cv))) ι2 (upd H2 p (.dK (putK ps k v))):=n2.rs.put hq (fun _ tk'=>.inl ⟨_,upd_same,by
            have q:=(dB.put rv2 hk r1).mono (H':=upd H2 p (.dK (putK ps k v))) tk' []
            rw[aT]at q
            exact q⟩) (fun gs z=>nomatch z) h1 (fun z=>z)
          exact f2 σ ι2 _ n3 (n3.cY n2.rs rs2)
        · exact f2.elim
      · exact f2.elim
    · exact f2.elim
  |_=>exact f2.elim
end
def azg(n:Nat)(kvs:List (CV×CV)):Res CF->Res CF
 |.ok (.nx ρ) S=>.ok (.nx ρ) (S.set n (.dic kvs))
 |.ok (.rt c) S=>.ok (.rt c) (S.set n (.dic kvs))
 |.ok (.bk ρ) S=>.ok (.bk ρ) (S.set n (.dic kvs))
 |.ok (.ct ρ) S=>.ok (.ct ρ) (S.set n (.dic kvs))
 |_=>.bad
/-- ch tells which dict is walked -/
def ac7(ch:Rho->M CV)(m:Rho->M CF):Rho->M CF:=fun ρ S=>match ch ρ S with
 |.ok (.ref n) _=>match S[n]? with
  |some (.dic kvs)=>if fX kvs then azg n kvs (m ρ (S.set n (.frz (.dic kvs)))) else .bad
  |some (.frz (.dic _))=>m ρ S
  |_=>.bad
 |_=>.bad
def axy(n:Nat)(kvs:List (CV×CV)):Res CV->Res CV
 |.ok c S=>.ok c (S.set n (.dic kvs))
 |_=>.bad
def uP(ch:Rho->M CV)(m:Rho->M CV):Rho->M CV:=fun ρ S=>match ch ρ S with
 |.ok (.ref n) _=>match S[n]? with
  |some (.dic kvs)=>if fX kvs then axy n kvs (m ρ (S.set n (.frz (.dic kvs)))) else .bad
  |some (.frz (.dic _))=>m ρ S
  |_=>.bad
 |_=>.bad
section
variable {K:ae}{mg:Str->Option Value}{ι ι':List Addr}{H H':Hp}{S S':Sto}{n:Nat}{a:Addr}{kvs:List (CV×CV)}{ps:List (Key×V)}{od:Obj}
theorem aot(Rs:RS K mg ι S H)(hq:ι[n]?=some a)(hd:H a=some (.dK ps))(r1:dB K mg ι H kvs ps):Nx K mg ι H (S.set n (.frz (.dic kvs))) ι (upd H a (.frz od (.dK ps))):=
 Rs.put hq (fun _ tk'=>⟨od,ps,upd_same,by
  have q:=dB.mono tk' [] r1
  rw[aT]at q
  exact q⟩) (fun gs z=>nomatch z) hd (fun z=>z)
theorem asr(e:H' a=some (.frz od (.dK ps))):Tk H' (upd H' a (.dK ps)):=by
 have ne:∀b u,H' b=some u->u≠ .frz od (.dK ps)->b≠a:=fun b u h hn z=>by
  subst z;rw[e]at h;cases h;exact hn rfl
 refine⟨fun b xs h=>?_,fun b o xs h=>?_,fun b φ h=>?_,fun b gs h=>?_⟩
 ·rcases h with h|⟨o,h⟩
  ·exact .inl (by rw[upd_ne (ne _ _ h (fun z=>nomatch z))];exact h)
  ·exact .inr ⟨o,by rw[upd_ne (ne _ _ h (fun z=>nomatch z))];exact h⟩
 ·rw[upd_ne (ne _ _ h (fun z=>nomatch z))];exact h
 ·rw[upd_ne (ne _ _ h (fun z=>nomatch z))];exact h
 ·rw[upd_ne (ne _ _ h (fun z=>nomatch z))];exact h
theorem Nr(hd:Nx K mg ι (upd H a (.frz od (.dK ps))) S' ι' H'):H' a=some (.frz od (.dK ps)):=hd.fr a _ (.inr trivial) trivial upd_same
theorem Rg(Rs:RS K mg ι S H)(hq:ι[n]?=some a)(hd:H a=some (.dK ps))(r1:dB K mg ι H kvs ps)(nx:Nx K mg ι (upd H a (.frz od (.dK ps))) S' ι' H'):Nx K mg ι H (S'.set n (.dic kvs)) ι' (upd H' a (.dK ps)):=by
 have n1:=aot (od:=od) Rs hq hd r1
 have e:=Nr nx
 have t1:=n1.tk Rs
 have t2:=nx.tk n1.rs
 have t3:Tk H' (upd H' a (.dK ps)):=asr e
 obtain⟨m,em,hm⟩:=nx.ext
 have hq':ι'[n]?=some a:=by rw[em,az (aa.mp hq).1];exact hq
 have hn:n<ι'.length:=(aa.mp hq').1
 refine⟨⟨by rw[a8];exact nx.rs.len,nx.rs.nd,fun k b q e1 e2=>?_⟩,⟨m,em,fun p hp o ho=>?_⟩,fun b o hb nt h=>?_⟩
 ·rw[br]at e2
  split at e2
  ·rename_i hk
   subst hk
   rw[hq']at e1;cases e1
   split at e2
   ·cases e2
    refine .inl ⟨ps,upd_same,?_⟩
    rw[em]
    exact dB.mono ((t1.trans t2).trans t3) m r1
   ·cases e2
  ·rename_i hk
   have hne:b≠a:=fun z=>by
    subst z
    exact hk ((i7 hn nx.rs.nd).mp (hq'.trans e1.symm))
   have:=(nx.rs.obj k b q e1 e2).mono t3 [] (by rw[upd_ne hne])
   rw[aT]at this
   exact this
 ·by_cases hpa:p=a
  ·subst hpa
   have hnd:=nx.rs.nd
   rw[em]at hnd
   exact absurd hp ((f9.mp hnd).2.2 p (bw hq) p · rfl)
  ·exact hm p hp o (by rw[upd_ne hpa];exact ho)
 ·have hba:b≠a:=fun z=>by
   subst z
   rw[hd]at h;cases h
   exact hb.elim (fun hb=>hb (bw hq)) (fun z=>z)
  rw[upd_ne hba]
  exact nx.fr b o hb nt (by rw[upd_ne hba];exact h)
theorem ag6(e:H' a=some (.frz od (.dK ps))){c:CV}{v:V}(r:bx K mg ι' H' c v):bx K mg ι' (upd H' a (.dK ps)) c v:=by
 have:=bx.mono (asr e) [] r
 rw[aT]at this
 exact this
theorem ach(e:H' a=some (.frz od (.dK ps))){ρ:Rho}{σ:cz}(r:d8 K mg ι' H' ρ σ):d8 K mg ι' (upd H' a (.dK ps)) ρ σ:=
 ⟨r.len,fun i c h=>let ⟨v,h1,h2⟩:=r.at' i c h;⟨v,h1,ag6 e h2⟩⟩
end
theorem PS.or{X:Cx}{e:Stmt}{t t':TS}(h:L2.PS X e t)(h':L2.PS X e t'):L2.PS X e (fun D σ H=>t D σ H\/t' D σ H):=⟨fun pins s σ H D I q=>q.elim (fun q=>h.run pins s σ H D I q) fun q=>h'.run pins s σ H D I q⟩
theorem PE.or'{X:Cx}{e:Expr}{t t':TE}(h:L2.PE X e t)(h':L2.PE X e t'):L2.PE X e (fun σ H Q=>t σ H Q\/t' σ H Q):=⟨fun pins s σ H Q I q=>q.elim (fun q=>h.run pins s σ H Q I q) fun q=>h'.run pins s σ H Q I q⟩
section
variable {X:Cx}{W:WX}{st:Stmt}{e tg:Expr}{ch me:Rho->M CV}{m:Rho->M CF}
theorem apQ(h:GS X W st m):GS X W st (ac7 ch m):=PS.imp (PS.or (ps_lock h) h) fun D σ H ⟨ι,ρ,S,Rs,rs,fi⟩=>by
 unfold ac7 at fi
 split at fi
 ·rename_i n S1 _
  split at fi
  ·rename_i kvs ex
   split at fi
   ·rename_i hf
    obtain⟨a,hq,ro⟩:=Rs.at ex
    obtain⟨ps,hd,r1⟩:=ro.dk hf
    refine .inl ⟨a,.dK ps,hd,trivial,fun od=>?_⟩
    have n1:=aot (od:=od) Rs hq hd r1
    refine⟨ι,ρ,_,n1.rs,n1.cY Rs rs,?_⟩
    cases r:m ρ (S.set n (.frz (.dic kvs))) with
    |bad=>rw[r]at fi;exact fi
    |exc _ _ _=>rw[r]at fi;exact fi
    |ok f S'=>
     rw[r]at fi
     cases f with
     |nx ρ'=>exact fun σ' ι' H' nx rs'=>⟨Nr nx,fi σ' ι' _ (Rg Rs hq hd r1 nx) (ach (Nr nx) rs')⟩
     |bk ρ'=>exact fun σ' ι' H' nx rs'=>⟨Nr nx,fi σ' ι' _ (Rg Rs hq hd r1 nx) (ach (Nr nx) rs')⟩
     |ct ρ'=>exact fun σ' ι' H' nx rs'=>⟨Nr nx,fi σ' ι' _ (Rg Rs hq hd r1 nx) (ach (Nr nx) rs')⟩
     |rt c=>exact fun v ι' H' nx rv=>⟨Nr nx,fi v ι' _ (Rg Rs hq hd r1 nx) (ag6 (Nr nx) rv)⟩
     |xc c fs ρ'=>exact fi.elim
   ·exact fi.elim
  ·exact .inr ⟨ι,ρ,S,Rs,rs,fi⟩
  ·exact fi.elim
 ·exact fi.elim
theorem oJ(h:GE X W e me):GE X W e (uP ch me):=PE.imp (PE.or' (pe_lock h) h) fun σ H Q ⟨ι,ρ,S,Rs,rs,fi⟩=>by
 unfold uP at fi
 split at fi
 ·rename_i n S1 _
  split at fi
  ·rename_i kvs ex
   split at fi
   ·rename_i hf
    obtain⟨a,hq,ro⟩:=Rs.at ex
    obtain⟨ps,hd,r1⟩:=ro.dk hf
    refine .inl ⟨a,.dK ps,hd,trivial,fun od=>?_⟩
    have n1:=aot (od:=od) Rs hq hd r1
    refine⟨ι,ρ,_,n1.rs,n1.cY Rs rs,?_⟩
    cases r:me ρ (S.set n (.frz (.dic kvs))) with
    |bad=>rw[r]at fi;exact fi.elim
    |exc _ _ _=>rw[r]at fi;exact fi.elim
    |ok c S'=>
     rw[r]at fi
     exact fun v ι' H' nx rv=>⟨Nr nx,fi v ι' _ (Rg Rs hq hd r1 nx) (ag6 (Nr nx) rv)⟩
   ·exact fi.elim
  ·exact .inr ⟨ι,ρ,S,Rs,rs,fi⟩
  ·exact fi.elim
 ·exact fi.elim
end
def wkK(kvs:List (CV×CV)):List CV:=kvs.map (·.1)
def wkV(kvs:List (CV×CV)):List CV:=kvs.map (·.2)
def Zz(sel:List (CV×CV)->List CV):CV->M Src:=fun x S=>match x with
 |.ref n=>match S[n]? with
  |some (.frz (.dic kvs))=>.ok ⟨sel kvs,[]⟩ S
  |_=>.bad
 |_=>.bad
def qQ(sel:List (CV×CV)->List CV)(me:Rho->M CV):Rho->M Src:=fun ρ=>bnd (me ρ) (Zz sel)
section
variable {K:ae}{mg:Str->Option Value}{ι:List Addr}{H:Hp}{S:Sto}{n i:Nat}{a:Addr}{kvs:List (CV×CV)}{ps:List (Key×V)}{o:Obj}
theorem dB.get{p:CV×CV}(r:dB K mg ι H kvs ps)(h:kvs[i]?=some p):∃k v,ps[i]?=some (k,v)/\ckey p.1=some k/\bx K mg ι H p.2 v:=by
 induction kvs generalizing ps i with
 |nil=>cases h
 |cons q kvs ih=>
  cases r with
  |cons hk rv rs=>
   cases i with
   |zero=>cases h;exact⟨_,_,rfl,hk,rv⟩
   |succ i=>have:=ih rs (i:=i) h;exact this
theorem ahJ{c:CV}{k:Key}(h:ckey c=some k):bx K mg ι H c (kV k):=by
 cases c<;>first|(cases h;constructor)|cases h
theorem aiR(h:H a=some (.frz o (.dK ps)))(r:dB K mg ι H kvs ps):oK K mg ι H ⟨wkK kvs,[]⟩ (Itk a o ps):=by
 refine⟨fun ι' S' H' i x R ⟨m,em⟩ tk _ hx=>?_,fun ι' S' H' R em tk _=>⟨tk.lk _ _ _ trivial h,by show ps.length<=(wkK kvs).length;unfold wkK;rw[ar,r.len];exact ba _⟩⟩
 have hx:(kvs.map (·.1))[i]?=some x:=hx
 rw[bu]at hx
 cases e:kvs[i]? with
 |none=>rw[e]at hx;cases hx
 |some p=>
  rw[e]at hx;cases hx
  obtain⟨k,v,e1,hk,rv⟩:=r.get e
  refine⟨⟨tk.lk _ _ _ trivial h,(aa.mp e1).1⟩,fun v' H'' ⟨eh,k',u',e2,ev⟩=>?_⟩
  subst eh
  rw[e1]at e2;cases e2
  subst ev
  exact⟨Nx.refl R,ahJ hk⟩
theorem aiS(h:H a=some (.frz o (.dK ps)))(r:dB K mg ι H kvs ps):oK K mg ι H ⟨wkV kvs,[]⟩ (Itd a o ps):=by
 refine⟨fun ι' S' H' i x R ⟨m,em⟩ tk _ hx=>?_,fun ι' S' H' R em tk _=>⟨tk.lk _ _ _ trivial h,by show ps.length<=(wkV kvs).length;unfold wkV;rw[ar,r.len];exact ba _⟩⟩
 have hx:(kvs.map (·.2))[i]?=some x:=hx
 rw[bu]at hx
 cases e:kvs[i]? with
 |none=>rw[e]at hx;cases hx
 |some p=>
  rw[e]at hx;cases hx
  subst em
  obtain⟨k,v,e1,hk,rv⟩:=r.get e
  refine⟨⟨tk.lk _ _ _ trivial h,(aa.mp e1).1⟩,fun v' H'' ⟨eh,k',e2⟩=>?_⟩
  subst eh
  rw[e1]at e2;cases e2
  exact⟨Nx.refl R,rv.mono tk.tk m⟩
end
section
variable {X:Cx}{W:WX}{e tg:Expr}{me:Rho->M CV}{apos cpos:Pos}
theorem aic{sel:List (CV×CV)->List CV}{σ:cz}{H:Hp}{R:It->Hp->Prop}(h:tI X.K X.mg W (qQ sel me) σ H R):tD X.K X.mg W me σ H fun x H1=>∃(ι:List Addr) (S:Sto) (a:Addr) (kvs:List (CV×CV)) (o:Obj) (ps:List (Key×V)),x=.ref a/\RS X.K X.mg ι S H1/\H1 a=some (.frz o (.dK ps))/\dB X.K X.mg ι H1 kvs ps/\∀J,oK X.K X.mg ι H1 ⟨sel kvs,[]⟩ J->R J H1:=by
 obtain⟨ι,ρ,S,Rs,rs,fi⟩:=h
 refine⟨ι,ρ,S,Rs,rs,?_⟩
 have fi:Fin X.K X.mg ι H (oK X.K X.mg) ((me ρ S).bnd (Zz sel)) R (fun c d H'=>W c d σ H'):=fi
 cases r:me ρ S with
 |bad=>rw[r]at fi;exact fi.elim
 |exc c fs S'=>rw[r]at fi;exact fi
 |ok x S'=>
  rw[r]at fi
  intro v ι' H' n rx
  have fi:Fin X.K X.mg ι H (oK X.K X.mg) (Zz sel x S') R (fun c d H'=>W c d σ H'):=fi
  unfold Zz at fi
  split at fi
  ·split at fi
   ·rename_i kvs ex
    cases rx with
    |ref hq=>
     obtain⟨o,ps,h1,r1⟩:=n.rs.obj _ _ _ hq ex
     exact⟨ι',S',_,kvs,o,ps,rfl,n.rs,h1,r1,fun J it=>fi J ι' H' n it⟩
   ·exact fi.elim
  ·exact fi.elim
theorem kZ(he:GE X W e me):GI X W tg e (qQ wkK me):=PI.imp (pi_keys he) fun σ H R h=>by
 obtain⟨ι,ρ,S,Rs,rs,fi⟩:=aic h
 exact⟨ι,ρ,S,Rs,rs,fi.imp fun v H1 ⟨ι2,S2,a,kvs,o,ps,ex,R2,h1,r1,k⟩=>⟨a,o,ex,.inl ⟨ps,h1,k _ (aiR h1 r1)⟩⟩⟩
theorem alv(he:GE X W e me)(hbase:attributeBase e "values" X.env (eval e X.env)=eval e X.env:=by rfl)(hline:(apos.endLine==cpos.line)=true:=by rfl):GI X W tg (.Call (.Attribute e "values" apos) [] [] cpos) (qQ wkV me):=PI.imp (pi_values he hbase hline) fun σ H R h=>by
 obtain⟨ι,ρ,S,Rs,rs,fi⟩:=aic h
 exact⟨ι,ρ,S,Rs,rs,fi.imp fun v H1 ⟨ι2,S2,a,kvs,o,ps,ex,R2,h1,r1,k⟩=>⟨a,o,ps,ex,h1,k _ (aiS h1 r1)⟩⟩
end
theorem RmG.u1{k:Nat}{A:Around}(r:RmG k A):A.units+1<cLine:=by have:=r.rm.un;omega
def putAt(n:Nat)(y z:CV):M Unit:=fun S=>match S[n]? with
 |some (.dic kvs)=>match ckey y with
  |some k=>if fX kvs=true/\kvs.length<sizeLine then .ok () (S.set n (.dic (Ba kvs y k z))) else .bad
  |none=>.bad
 |_=>.bad
def Oj(chk:Sto->Bool)(n:Nat)(g:CV->Rho->Option Rho)(mt:Rho->M Bool)(mk mv:Rho->M CV)(ρ:Rho):List CV->M Unit
  | [],S=>if chk S then .ok () S else .bad
  |x::xs,S=>if chk S then (match g x ρ with
    |some ρ1=>(match mt ρ1 S with
     |.ok b S2=>if b then (match mk ρ1 S2 with
            |.ok y S3=>(match mv ρ1 S3 with
             |.ok z S4=>(match putAt n y z S4 with
              |.ok _ S5=>Oj chk n g mt mk mv ρ xs S5
              |_=>.bad)
             |_=>.bad)
            |_=>.bad) else Oj chk n g mt mk mv ρ xs S2
     |_=>.bad)
    |none=>.bad) else .bad
def mDc(mi:Rho->M Src)(g:CV->Rho->Option Rho)(mt:Rho->M Bool)(mk mv:Rho->M CV)(vs:List Nat):Rho->M CV:=fun ρ=>bnd (mi ρ) fun src S=>(Oj src.chk S.length g mt mk mv (pB ρ vs) src.items (S++[.dic []])).bnd fun _=>ret (.ref S.length)
section
variable {X:Cx}{W:WX}{kx vx tg iter:Expr}{ifs:List Expr}{scope:Scope}{own:List (Str×Nat)}{pos:Pos}{mi:Rho->M Src}{mk mv:Rho->M CV}{mt:Rho->M Bool}{t:TG}{g:CV->Rho->Option Rho}
theorem aqC{K:ae}{mg:Str->Option Value}{ι:List Addr}{S:Sto}{H:Hp}{p:Addr}(Rs:RS K mg ι S H)(hp:H p=none):Nx K mg ι H (S++[.dic []]) (ι++[p]) (upd H p (.dK [])):=
 Rs.new hp (.inl ⟨[],upd_same,.nil⟩)
theorem avr(htg:CTg X.K X.mg (own.map (·.2)) t g){σ:cz}{H:Hp}{Q:VK}(h:tD X.K X.mg W (mDc mi g mt mk mv (own.map (·.2))) σ H Q):
    tDc (tI X.K X.mg W mi) t (tDT X.K X.mg W0 mt) (tD X.K X.mg W0 mk) (tD X.K X.mg W0 mv) (own.map (·.2)) σ H Q:=by
  obtain⟨ι,ρ,S,Rs,rs,fi⟩:=h
  refine⟨ι,ρ,S,Rs,rs,(Fin.bnd (R:=oK X.K X.mg) fi).imp fun J H1 ⟨ι1,S1,src,n1,it,f1⟩=>?_⟩
  intro D hD
  have n2:=aqC n1.rs hD
  have rw1:=(n2.cY n1.rs (n1.cY Rs rs)).wipe (own.map (·.2))
  have f1:Fin X.K X.mg ι1 H1 (bx X.K X.mg) ((Oj src.chk S1.length g mt mk mv (pB ρ (own.map (·.2))) src.items (S1++[.dic []])).bnd fun _=>ret (.ref S1.length)) Q (fun c d H'=>W c d σ H'):=f1
  refine⟨fun i m H2=>m+i=src.items.length/\∃ι2 S2,RS X.K X.mg ι2 S2 H2/\d8 X.K X.mg ι2 H2 (pB ρ (own.map (·.2))) (c5 σ (own.map (·.2)))/\(∃m,ι2=(ι1++[D])++m)/\Tkk H1 H2/\
      Fin X.K X.mg ι2 H2 (bx X.K X.mg) ((Oj src.chk S1.length g mt mk mv (pB ρ (own.map (·.2))) (src.items.drop i) S2).bnd fun _=>ret (.ref S1.length)) Q (fun c d H'=>W c d σ H'),
    ⟨src.items.length,by simp,ι1++[D],S1++[.dic []],n2.rs,rw1,⟨[],by simp⟩,n2.tkk n1.rs,by rw[ke];exact Fin.after n2 f1⟩,?_⟩
  rintro i m H2 ⟨hm,ι2,S2,R2,r2,ext,tk,f2⟩
  obtain⟨me',ext⟩:=ext
  have ext1:∃m,ι2=ι1++m:=⟨[D]++me',by rw[ext,a7]⟩
  have akl:ι2[S1.length]?=some D:=by
    rw[ext,a7, <-n1.rs.len,aL (ba _),fv];rfl
  by_cases hi:i<src.items.length
  · have hd:src.items.drop i=src.items[i]::src.items.drop (i+1):=e9 hi
    rw[hd]at f2
    unfold Oj at f2
    split at f2
    · rename_i hck
      obtain⟨hgo,apS⟩:=it.go ι2 S2 H2 i src.items[i] R2 ext1 tk hck (ay hi)
      refine .inr ⟨hgo,fun H'=>∃ι2 S2,RS X.K X.mg ι2 S2 H'/\d8 X.K X.mg ι2 H' (pB ρ (own.map (·.2))) (c5 σ (own.map (·.2)))/\(∃m,ι2=(ι1++[D])++m)/\Tkk H1 H'/\
        Fin X.K X.mg ι2 H' (bx X.K X.mg) ((Oj src.chk S1.length g mt mk mv (pB ρ (own.map (·.2))) (src.items.drop (i+1)) S2).bnd fun _=>ret (.ref S1.length)) Q (fun c d H'=>W c d σ H'),fun H' hN=>⟨m-1,by omega,by omega,hN⟩,fun v H' hy=>?_⟩
      obtain⟨n3,rv⟩:=apS v H' hy
      have r3:=n3.cY R2 r2
      cases eg:g src.items[i] (pB ρ (own.map (·.2))) with
      |none=>rw[eg]at f2;exact f2.elim
      |some ρ1=>
       rw[eg]at f2
       dsimp only at f2
       obtain⟨σ2,rs2,ew,ht⟩:=htg ι2 H' _ ρ1 _ _ v r3 rv eg
       refine ht _ ⟨by rw[ew,aaz],ι2,ρ1,S2,n3.rs,rs2,?_⟩
       -- what stays for the next turn
       have go:∀{S5:Sto}{ι5:List Addr}{H5:Hp},Nx X.K X.mg ι2 H2 S5 ι5 H5->Fin X.K X.mg ι2 H2 (bx X.K X.mg) ((Oj src.chk S1.length g mt mk mv (pB ρ (own.map (·.2))) (src.items.drop (i+1)) S5).bnd fun _=>ret (.ref S1.length)) Q (fun c d H'=>W c d σ H')->
            ∃ι2 S2,RS X.K X.mg ι2 S2 H5/\d8 X.K X.mg ι2 H5 (pB ρ (own.map (·.2))) (c5 σ (own.map (·.2)))/\(∃m,ι2=(ι1++[D])++m)/\Tkk H1 H5/\
             Fin X.K X.mg ι2 H5 (bx X.K X.mg) ((Oj src.chk S1.length g mt mk mv (pB ρ (own.map (·.2))) (src.items.drop (i+1)) S2).bnd fun _=>ret (.ref S1.length)) Q (fun c d H'=>W c d σ H'):=fun {S5 ι5 H5} n5 f5=>by
          obtain⟨m2',e2,_⟩:=n5.ext
          exact⟨ι5,S5,n5.rs,n5.cY R2 r2,⟨me'++m2',by rw[e2,ext,a7 (ι1++[D])]⟩,tk.trans (n5.tkk R2),Fin.after n5 f5⟩
       cases em:mt ρ1 S2 with
       |bad=>rw[em]at f2;exact f2.elim
       |exc _ _ _=>rw[em]at f2;exact f2.elim
       |ok b S3=>
        rw[em]at f2
        dsimp only at f2
        intro b' ι3 H3 n4 eb
        subst eb
        have n34:=n3.trans n4
        cases b with
        |false=>exact go n34 f2
        |true=>
         rw[if_pos rfl]at f2
         refine⟨ι3,ρ1,S3,n4.rs,n4.cY n3.rs rs2,?_⟩
         cases ey:mk ρ1 S3 with
         |bad=>rw[ey]at f2;exact f2.elim
         |exc _ _ _=>rw[ey]at f2;exact f2.elim
         |ok y S4=>
          rw[ey]at f2
          dsimp only at f2
          intro v4 ι4 H4 n5 ry
          have n35:=n34.trans n5
          refine⟨ι4,ρ1,S4,n5.rs,n5.cY n4.rs (n4.cY n3.rs rs2),?_⟩
          cases ez:mv ρ1 S4 with
          |bad=>rw[ez]at f2;exact f2.elim
          |exc _ _ _=>rw[ez]at f2;exact f2.elim
          |ok z S5=>
           rw[ez]at f2
           dsimp only at f2
           intro v5 ι5 H5 n6 rz
           have n36:=n35.trans n6
           have ry5:=n6.rep n5.rs ry
           have hD5:ι5[S1.length]?=some D:=by
                  obtain⟨m2',e2,_⟩:=n36.ext
                  rw[e2,az (aa.mp akl).1];exact akl
           unfold putAt at f2
           cases eo:S5[S1.length]? with
           |none=>rw[eo]at f2;exact f2.elim
           |some o=>
            rw[eo]at f2
            cases o with
            |dic acc=>
             dsimp only at f2
             cases ek:ckey y with
             |none=>rw[ek]at f2;exact f2.elim
             |some k=>
              rw[ek]at f2
              dsimp only at f2
              by_cases hl:fX acc=true/\acc.length<sizeLine
              · rw[if_pos hl]at f2
                obtain⟨vs,e1,aq1⟩:=(n36.rs.obj _ _ _ hD5 eo).dk hl.1
                refine⟨vs,k,Fw ek ry,e1,by rw[<-aq1.len];exact hl.2,?_⟩
                have n7:Nx X.K X.mg ι5 H5 (S5.set S1.length (.dic (Ba acc y k z))) ι5 (upd H5 D (.dK (putK vs k v5))):=n36.rs.put hD5 (fun _ tk'=>.inl ⟨putK vs k v5,upd_same,by
                          have q:=(dB.put rz ek aq1).mono (H':=upd H5 D (.dK (putK vs k v5))) tk' []
                          rw[aT]at q
                          exact q⟩) (fun gs z=>nomatch z) e1 (fun z=>z)
                exact go (n36.trans n7) f2
              · rw[if_neg hl]at f2;exact f2.elim
            |lst _=>exact f2.elim
            |ins _ _=>exact f2.elim
            |tab _=>exact f2.elim
            |frz _=>exact f2.elim
            |mdc _=>exact f2.elim
            |dct _=>exact f2.elim
            |odd _=>exact f2.elim
    · exact f2.elim
  · have hd:src.items.drop i=[]:=hV (gp hi)
    rw[hd]at f2
    unfold Oj at f2
    split at f2
    · rename_i hck
      have e:i=src.items.length:=by omega
      exact .inl ⟨by rw[e];exact it.stop ι2 S2 H2 R2 ext1 tk hck,Fin.ret R2 f2 (.ref akl)⟩
    · exact f2.elim
theorem ajG(hN:X.N.Nodup)(hi:GI X W tg iter mi)(ok:BlkOk X.N X.env.scope scope own)(htg:CTg X.K X.mg (own.map (·.2)) t g)
    (hg:∀(s:Shared)(H:Hp)(C:Addr)(cl:List (Str×Addr))(fp:List Addr),PG (X.blk s H scope (compEnvC scope cl C X.env) fp) tg t)(ht:∀(s:Shared)(H:Hp)(C:Addr)(cl:List (Str×Addr))(fp:List Addr),GTs (X.blk s H scope (compEnvC scope cl C X.env) fp) W0 ifs mt)
    (hk:∀(s:Shared)(H:Hp)(C:Addr)(cl:List (Str×Addr))(fp:List Addr),GE (X.blk s H scope (compEnvC scope cl C X.env) fp) W0 kx mk)
    (he:∀(s:Shared)(H:Hp)(C:Addr)(cl:List (Str×Addr))(fp:List Addr),GE (X.blk s H scope (compEnvC scope cl C X.env) fp) W0 vx mv)(hc:X.calm=true:=by rfl)(hs:∀x,foldedSetIterable iter X.env x=pure x:=by intro _;rfl):
    GE X W (.DictComp kx vx [⟨tg,iter,ifs,0⟩] scope pos) (mDc mi g mt mk mv (own.map (·.2))):=PE.imp (pe_dc (tt:=tDT X.K X.mg W0 mt) (tk:=tD X.K X.mg W0 mk) (tv:=tD X.K X.mg W0 mv) hc hN hi ok hg ht hk he hs) fun σ H Q h=>avr htg h
end
def axC(K:ae)(mg:Str->Option Value)(x:Str)(xs:List Str):Prop:=∃p,mg x=some (.ref p)/\∃(o:Obj) (its:Array Value) (n:Nat),K.lookup p=some o/\o.cls=.type "tuple"/\o.data=.seq its n/\its.size<=sizeLine/\Vals (xs.map V.str) its.toList/\o.dict=none
def afV(f:Int->Int->Int)(i:Nat)(me:Rho->M CV):Rho->M CF:=fun ρ S=>match ρ[i]? with
 |some (some (.int a))=>lft ρ (me ρ S) fun y S1=>match y with
  |.int b=>.ok (.nx (ρ.set i (some (.int (f a b))))) S1
  |_=>.bad
 |_=>.bad
section
variable {X:Cx}{W:WX}{e:Expr}{es:List Expr}{me:Rho->M CV}{ms:Rho->M (List CV)}{pos:Pos}{op:Operator}{f:Int->Int->Int}
theorem apK{x:Str}{xs:List Str}(hg:Gl X x)(h:axC X.K X.mg x xs)(hd:(x==("__debug__":Str))=false:=by decide):GE X W (.Name x pos) (mC (.tup (xs.map CV.str))):=by
 obtain⟨p,hm,o,its,n,h1,h2,h3,h4,h5,_⟩:=h
 exact xZ (pe_glob (v:=.ref p) hg hm rfl hd) fun _ _=>.tup (vs:=xs.map V.str) (.inr ⟨o,its,n,h1,h2,h3,h4,h5⟩) (aQ.strs xs)
theorem apP{i:Nat}{x:Str}{px:Pos}(ho:PIp X op (ipI f))(hN:X.N.Nodup)(he:GE X W e me)(hi:X.N[i]?=some x:=by rfl)(hx:Loc X.env.scope x:=by first|exact .inl rfl|exact .inr rfl)
    (hf:X.fn x=true\/X.env.scope.names.lookup x=some .local:=by first|exact .inl rfl|exact .inr rfl|assumption):GS X W (.AugAssign (.Name x px) op e pos) (afV f i me):=PS.imp (ps_aug hN hi hx he ho hf) fun D σ H ⟨ι,ρ,S,Rs,rs,fi⟩=>by
  unfold afV at fi
  split at fi
  · rename_i a ea
    obtain⟨v,hv,r⟩:=rs.at' i _ ea
    cases r
    refine⟨_,hv,ι,ρ,S,Rs,rs,(zu.lft (R:=bx X.K X.mg) Rs rs fi).imp fun y H1 ⟨ι1,S1,c,n1,rx,f1⟩=>?_⟩
    split at f1
    · cases rx
      exact⟨_,_,rfl,rfl,f1 _ ι1 H1 (Nx.refl n1.rs) ((n1.cY Rs rs).set i (.int _))⟩
    · exact f1.elim
  · exact fi.elim
end
abbrev Fg:=ae
def gaK(K:Fg)(x:Str):Addr:=match gB K mainGlobals x with
 |some (some (.ref a))=>a
 |_=>0
def maK(K:Fg)(C:Addr)(m:Str):Addr:=match bE K (.ref C) m with
 |some (some (.ref a))=>a
 |_=>0
def rcK(K:Fg)(p:Addr)(t:String):Addr:=match gk K p t with
 |some (.ref f::_)=>f
 |_=>0
def rrK(K:Fg)(p:Addr)(t:String):List Value:=match gk K p t with
 |some (_::r)=>r
 |_=>[]
def tyK(K:Fg)(v:Value):Value:=match fR K v with
 |some u=>u
 |none=>.none
def fcK(K:Fg)(C mc:Value)(m:Str):Addr:=match gn K C mc m with
 |some (.get _ (.ref p) _ _)=>p
 |_=>0
def fgB(K:Fg)(C mc:Value)(m:Str)(g:String)(p:Addr):Bool:=match gn K C mc m with
 |some (.get (.builtin g') (.ref p') .none c')=>decide (g'=g)&&(decide (p'=p)&&decide (c'=C))
 |_=>false
theorem atg{K:Fg}{C mc:Value}{m:Str}{g:String}{p:Addr}(h:fgB K C mc m g p=true):gn K C mc m=some (.get (.builtin g) (.ref p) .none C):=by
 unfold fgB at h
 split at h
 ·rename_i e
  simp only[aB,decide_eq_true_eq]at h
  obtain⟨rfl,rfl,rfl⟩:=h
  exact e
 ·cases h
def tkK(K:Fg)(x:Str):Tok:=match gB K mainGlobals x with
 |some (some (.str _ t))=>t
 |some (some (.int _ t))=>t
 |_=>0
theorem ayh{a b:Bool}(h:(a&&b)=true):a=true:=(cu.mp h).1
theorem ayi{a b:Bool}(h:(a&&b)=true):b=true:=(cu.mp h).2
/-- functions -/
abbrev FnV:Type:=Option (Str×Str×Arguments×FuncBody×Scope×Addr×Addr)
def fnV(K:Fg)(a:Addr):FnV:=match K.lookup a with
 |some ⟨_,_,.func fd,_⟩=>some (fd.name,fd.qualname,fd.params,fd.body,fd.scope,fd.globals,fd.builtins)
 |_=>none
structure FnQ where
 at_:Fg->Addr
 name:Str
 qual:Str
 st:Stmt
def FnQ.val(d:FnQ):FnV:=some (d.name,d.qual,defArgs d.st,.stmts (defBody d.st),defScope d.st,mainGlobals,builtinsNs)
def cdB(K:Fg)(a:Addr)(q:Str):Bool:=match K.lookup a with
 |some ⟨_,_,.func fd,_⟩=>gE K fd.code q&&(decide (fd.closure=[])&&decide (fd.defaults=.none))
 |_=>false
def cdA(K:Fg)(a:Addr):Addr:=match K.lookup a with
 |some ⟨_,_,.func fd,_⟩=>(match fd.code with
  |.ref c=>c
  |_=>0)
 |_=>0
def cdR(K:Fg)(a c:Addr):Bool:=match K.lookup a with
 |some ⟨_,_,.func fd,_⟩=>decide (fd.code=.ref c)
 |_=>false
def tbA(K:Fg)(c:Addr):Addr:=match K.lookup c with
 |some ⟨_,_,.fields vs,_⟩=>(match (vs[11]?:Option Value) with
  |some (.ref P)=>P
  |_=>0)
 |_=>0
def tbB(K:Fg)(c P:Addr):Bool:=match K.lookup c with
 |some ⟨.type t,_,.fields vs,_⟩=>decide (t="code")&&(decide ((vs[11]?:Option Value)=some (.ref P))&&chB vs c P)
 |_=>false
theorem ag4{K:Fg}{c P:Addr}(h:tbB K c P=true):∃cod cus csl,K.lookup c=some ⟨.type "code",cod,.fields cus,csl⟩/\(cus[11]?:Option Value)=some (.ref P)/\chB cus c P=true:=by
 unfold tbB at h
 split at h
 ·rename_i t cod vs sl e
  simp only[aB,decide_eq_true_eq]at h
  obtain⟨rfl,h2,h3⟩:=h
  exact⟨_,_,_,e,h2,h3⟩
 ·cases h
theorem jo{K:Fg}{a:Addr}{x q:Str}{st:Stmt}(e:fnV K a=some (x,q,defArgs st,.stmts (defBody st),defScope st,mainGlobals,builtinsNs))(c:cdB K a q=true):
    ∃oc od osl kV doc pm an cdv ct,K.lookup a=some ⟨oc,od,.func (c7 x q (defArgs st) (defBody st) (defScope st) .none kV doc pm an cdv ct),osl⟩/\gE K cdv q=true:=by
  unfold fnV at e
  unfold cdB at c
  cases z:K.lookup a with
  |none=>rw[z]at c;cases c
  |some o=>
   obtain⟨oc,od,dt,osl⟩:=o
   rw[z]at c e
   cases dt with
   |func fd=>
    obtain⟨n1,n2,n3,n4,n5,n6,n7,n8,n9,n10,n11,n12,n13,n14,n15⟩:=fd
    simp only[Option.some.injEq,Prod.mk.injEq]at e
    obtain⟨h1,h2,h3,h4,h5,h6,h9⟩:=e
    subst h1 h2 h3 h4 h5 h6 h9
    simp only[aB,decide_eq_true_eq]at c
    obtain⟨c,h7,h8⟩:=c
    subst h7 h8
    exact⟨oc,od,osl,n9,n10,n11,n12,n13,n14,rfl,c⟩
   |_=>cases c
theorem agO{K:Fg}{a b:Addr}{x q:Str}{st:Stmt}(e:fnV K a=some (x,q,defArgs st,.stmts (defBody st),defScope st,mainGlobals,builtinsNs))(c:cdB K a q=true)(r:cdR K a b=true):
    ∃oc od osl kV doc pm an ct,K.lookup a=some ⟨oc,od,.func (c7 x q (defArgs st) (defBody st) (defScope st) .none kV doc pm an (.ref b) ct),osl⟩/\gE K (.ref b) q=true:=by
  obtain⟨oc,od,osl,kV,doc,pm,an,cdv,ct,h1,h2⟩:=jo e c
  unfold cdR at r
  rw[h1]at r
  have r':decide (cdv=.ref b)=true:=r
  have:=of_decide_eq_true r'
  subst this
  exact⟨_,_,_,_,_,_,_,_,h1,h2⟩
/-- a class of exceptions -/
def xcB(K:Fg)(C:Addr)(bm:List Value):Bool:=match K.lookup C with
 |some ⟨.type t,_,.cls cd,sl⟩=>decide (t="type")&&(decide (cd.mro=.ref C::bm)&&(cd.hasDict&&(!cd.hasDel&&(match sl.toList with
  | [_,_,_,_,some (.builtin i),_]=>decide (i="ValueError.__new__")
  |_=>false))))
 |_=>false
theorem aog{K:Fg}{C:Addr}{bm:List Value}(h:xcB K C bm=true):∃nm q N bs sn sub ab col dd k0 k1 k2 k3 k5,K.lookup C=some (excClassObj nm q C N bs bm true sn sub ab col dd k0 k1 k2 k3 k5 "ValueError.__new__"):=by
 unfold xcB at h
 split at h
 ·rename_i t dd cd sl e
  obtain⟨m1,m2,m3,m4,m5,m6,m7,m8,m9,m10,m11⟩:=cd
  simp only[aB,decide_eq_true_eq,Bool.not_eq_true']at h
  obtain⟨rfl,rfl,rfl,rfl,h⟩:=h
  split at h
  ·rename_i k0 k1 k2 k3 i k5 es
   have:=of_decide_eq_true h
   subst this
   have es':sl=#[k0,k1,k2,k3,some (.builtin "ValueError.__new__"),k5]:=by
    rw[<-Array.toList_inj,es]
   subst es'
   exact⟨_,_,_,_,_,_,_,_,_,_,_,_,_,_,e⟩
  ·cases h
 ·cases h
structure HkD where
 fb:List (Fg->Bool)
 fn:List FnQ
 tb:Fg->List Addr
def afz:Option Obj->Bool
 |some ⟨.none,none,.fields vs,sl⟩=>vs.isEmpty&&sl.isEmpty
 |_=>false
theorem alN{o:Option Obj}(h:afz o=true):o=some {cls:=.none,data:=.fields #[]}:=by
 unfold afz at h
 split at h
 ·rename_i vs sl
  simp only[aB,Array.isEmpty_iff]at h
  obtain⟨rfl,rfl⟩:=h
  rfl
 ·cases h
/-- what is reached from the names of the module, without empty tables -/
def aw7(g:Addr->Option Obj)(a:Addr):List Addr:=match g a with
 |some o=>(match o.data with
  |.func fd=>He.refV fd.code++(He.refV fd.defaults++fd.closure.map (·.2))
  |.cls cd=>[cd.ns]
  |.dict es _=>es.toList.flatMap fun e=>He.refV e.val
  |.fields vs=>(match o.cls with
   |.type t=>if t="code" then [] else vs.toList.flatMap He.refV
   |_=>[])
  |_=>[])
 |none=>[]
def lvM(g:Addr->Option Obj):Nat->List Addr->List Addr
 |0,l=>l
 |n+1,l=>l++lvM g n (l.flatMap (aw7 g))
def frM(g:Addr->Option Obj)(n:Nat):Fg:=He.frG g ((cStatics::lvM g n [mainGlobals]).filter fun a=>!afz (g a))
def ayy(D:HkD)(g:Addr->Option Obj)(K:Fg):Bool×List FnV:=((D.fb.all fun f=>f K)&&(D.tb K).all fun a=>afz (g a),D.fn.map fun d=>fnV K (d.at_ K))
structure acn(D:HkD)(K:Fg)(h:Heap):Prop where
 fb:(D.fb.all fun f=>f K)=true
 tb:∀a∈D.tb K,h.get? a=some {cls:=.none,data:=.fields #[]}
 fn:D.fn.map (fun d=>fnV K (d.at_ K))=D.fn.map FnQ.val
def aou(n:Nat)(D:HkD)(g:Addr->Option Obj):Bool×List FnV:=ayy D g (frM g n)
def asj(n:Nat)(D:HkD):PySem.W.Hook where
 α:=Bool×List FnV
 obs:=fun s=>aou n D s.heap.get?
 val:=fun _=>(true,D.fn.map FnQ.val)
 says:=fun _ h=>∃K:Fg,K.In h/\acn D K h
 of:=fun _ s e=>by
  refine⟨frM s.heap.get? n,He.frG_in,?_⟩
  have e1:((D.fb.all fun f=>f (frM s.heap.get? n))&&(D.tb (frM s.heap.get? n)).all fun a=>afz (s.heap.get? a))=true:=congrArg (fun z:Bool×List FnV=>z.1) e
  exact⟨ayh e1,fun a ha=>alN (cg.mp (ayi e1) a ha),congrArg (fun z:Bool×List FnV=>z.2) e⟩
 keeps:=fun _ _ _ ⟨K,hK,c⟩ k=>⟨K,PySem.W.Frag.In.keeps hK k,c.fb,fun a ha=>k _ _ (c.tb a ha),c.fn⟩
theorem al2{n:Nat}{D:HkD}{g:Addr->Option Obj}{s:Shared}(h:∀a,g a=s.heap.get? a):aou n D g=(asj n D).obs s:=by
 have e:g=s.heap.get?:=funext h
 rw[e]<;>rfl
theorem acn.fact{D:HkD}{K:Fg}{h:Heap}(c:acn D K h)(i:Nat){f:Fg->Bool}(e:D.fb[i]?=some f:=by rfl):f K=true:=cg.mp c.fb f (bw e)
theorem acn.def_{D:HkD}{K:Fg}{h:Heap}(c:acn D K h)(i:Nat){d:FnQ}(e:D.fn[i]?=some d:=by rfl):fnV K (d.at_ K)=d.val:=by
 have e2:(D.fn.map fun d=>fnV K (d.at_ K))[i]?=(D.fn.map FnQ.val)[i]?:=by rw[c.fn]
 rw[bu,bu,e]at e2
 exact gc e2
theorem alP{l:PySem.W.OpenLaw}{n k:Nat}{q:Program}{loose:List Str}{XP:(Str->Option Value)->Heap->Prop}{YP:World->Heap->Prop}{d:DefRec}{m:List CV->M CV}{x:Str}{S0:Sto}
    (hn:l.most=some n)(hn2:n<=sizeLine)(hdf:d.params.defaults=[])(hr:Room k callerA)
    (F:∀(w:World)(mg:Str->Option Value)(fa:Addr)(h:Heap),YP w h->h.Ns mainGlobals mg->mg d.name=some (.ref fa)->
      ∃(K:Fg) (ts:Tbs),ts.sto=S0/\K.In h/\(∀p∈ts,h.get? p.2.2=some {cls:=.none,data:=.fields #[]})/\aok K mg ts/\∃fd:FuncData,(∀(s:Shared)(u:Value),BindsTo s fd ⟨[u],[]⟩ [(x,u)])/\∀base:Heap,K.In base->base.Ns mainGlobals mg->(∀p∈ts,fc base mg p.2.1 p.2.2)->FnD l.prog w K mg base k fa fd [x] m)
    (good:∀ns:List Int,ns.length<=n->(∀z∈ns,Builtin.Int.intBits z<=1048576)->∃S',m [.scr ns] S0=.ok (.bl true) S'):PySem.W.WalkO q loose XP YP l.row.toRowW d [] (fun f vs=>PySem.call f vs):=by
  refine Att.attach_callB hn hdf fun w s0 s1 mg mb fa o pm cd doc a vs ns G Y ho hd hcd hmg hobj hints hlen hbits hg=>?_
  obtain⟨K,ts,rfl,hK,hE,tbs,fd,hb,hF⟩:=F w mg fa _ Y G.T.g hmg
  exact aqs hK G.T.g G.T.b G.T.builtins G.T.nolimit hg G.T.bmain tbs hE hobj hints (a9 hlen hn2) hr hF hb (good ns hlen hbits)
def ake:List Str->List Value->Bool
 | [],[]=>true
 |x::xs,.str y _::vs=>decide (x=y)&&ake xs vs
 |_,_=>false
theorem aeT:∀{xs:List Str}{vs:List Value},ake xs vs=true->Vals (xs.map V.str) vs
 | [],[],_=>.nil
 |x::xs,v::vs,h=>by
  cases v with
  |str y t=>
   have h:(decide (x=y)&&ake xs vs)=true:=h
   rw[aB,decide_eq_true_eq]at h
   obtain⟨rfl,h2⟩:=h
   exact .cons ⟨t,rfl⟩ (aeT h2)
  |_=>cases h
 | [],_::_,h=>by cases h
 |_::_,[],h=>by cases h
def gtB(K:Fg)(a:Addr)(xs:List Str):Bool:=match K.lookup a with
 |some ⟨.type t,none,.seq its n,_⟩=>decide (t="tuple")&&(decide (its.size<=1000)&&ake xs its.toList)
 |_=>false
theorem atk{K:Fg}{a:Addr}{xs:List Str}(h:gtB K a xs=true):∃(o:Obj) (its:Array Value) (n:Nat),K.lookup a=some o/\o.cls=.type "tuple"/\o.data=.seq its n/\its.size<=sizeLine/\Vals (xs.map V.str) its.toList/\o.dict=none:=by
 unfold gtB at h
 split at h
 ·rename_i t its n sl e
  simp only[aB,decide_eq_true_eq]at h
  obtain⟨rfl,h2,h3⟩:=h
  exact⟨_,its,n,e,rfl,rfl,by rw[sizeLine_eq];omega,aeT h3,rfl⟩
 ·cases h
structure S25(b0 b1 b2 b3 b4 b5 b6 b7 b8 b9 b10 b11 b12 b13 b14 b15 b16 b17 b18 b19 b20 b21 b22 b23 b24:Bool):Prop where
 z0:b0=true
 z1:b1=true
 z2:b2=true
 z3:b3=true
 z4:b4=true
 z5:b5=true
 z6:b6=true
 z7:b7=true
 z8:b8=true
 z9:b9=true
 z10:b10=true
 z11:b11=true
 z12:b12=true
 z13:b13=true
 z14:b14=true
 z15:b15=true
 z16:b16=true
 z17:b17=true
 z18:b18=true
 z19:b19=true
 z20:b20=true
 z21:b21=true
 z22:b22=true
 z23:b23=true
 z24:b24=true
theorem agb{b0 b1 b2 b3 b4 b5 b6 b7 b8 b9 b10 b11 b12 b13 b14 b15 b16 b17 b18 b19 b20 b21 b22 b23 b24:Bool}(h:(b0&&b1&&b2&&b3&&b4&&b5&&b6&&b7&&b8&&b9&&b10&&b11&&b12&&b13&&b14&&b15&&b16&&b17&&b18&&b19&&b20&&b21&&b22&&b23&&b24)=true):S25 b0 b1 b2 b3 b4 b5 b6 b7 b8 b9 b10 b11 b12 b13 b14 b15 b16 b17 b18 b19 b20 b21 b22 b23 b24:=by
 simp only[aB]at h
 obtain⟨⟨⟨⟨⟨⟨⟨⟨⟨⟨⟨⟨⟨⟨⟨⟨⟨⟨⟨⟨⟨⟨⟨⟨h0,h1⟩,h2⟩,h3⟩,h4⟩,h5⟩,h6⟩,h7⟩,h8⟩,h9⟩,h10⟩,h11⟩,h12⟩,h13⟩,h14⟩,h15⟩,h16⟩,h17⟩,h18⟩,h19⟩,h20⟩,h21⟩,h22⟩,h23⟩,h24⟩:=h
 exact⟨h0,h1,h2,h3,h4,h5,h6,h7,h8,h9,h10,h11,h12,h13,h14,h15,h16,h17,h18,h19,h20,h21,h22,h23,h24⟩
theorem od{p:Prop}{i:Decidable p}(h:@decide p i=true):p:=@of_decide_eq_true p i h
section
open PySem.W (kitOne findIn nsIn mroIn typeIn specialIn recIn takesIn subIn keepIn notFirst)
variable (K:Fg)
def zkT(a b:Fg->Addr):Bool:=decide (kitOne K (.ref (a K)) (.ref (b K))=some true)
def zkS(a:Fg->Addr)(s:String):Bool:=decide (kitOne K (.ref (a K)) (.type s)=some false)
def zkY(s:String)(a:Fg->Addr):Bool:=decide (kitOne K (.type s) (.ref (a K))=some false)
def znG(s:Str)(a:Fg->Addr):Bool:=decide (nsIn K mainGlobals s=some (some (.ref (a K))))
def znN(s:Str):Bool:=decide (nsIn K mainGlobals s=some none)
def zfF(a:Fg->Addr)(s:Str)(b:Fg->Addr):Bool:=decide (findIn K (.ref (a K)) s=some (some (.ref (b K))))
def zfB(a:Fg->Addr)(s:Str)(b:String):Bool:=decide (findIn K (.ref (a K)) s=some (some (.builtin b)))
def zfN(a:Fg->Addr)(s:Str):Bool:=decide (findIn K (.ref (a K)) s=some none)
def zmO(a:Fg->Addr)(s:String):Bool:=decide (mroIn K (a K) (.type s)=some true)
def ztS(a:Fg->Addr)(s:String):Bool:=decide (typeIn K (.ref (a K))=some (.type s))
def zsB(a:Fg->Addr)(s:Str)(b:String):Bool:=decide (specialIn K (.ref (a K)) s=some (some (.builtin b)))
def ztK(a:Fg->Addr):Bool:=decide (takesIn K (.ref (a K))=some true)
def zsU(a:Fg->Addr)(s:String):Bool:=decide (subIn K (.ref (a K)) (.type s)=some true)
def zkP(a:Fg->Addr):Bool:=keepIn K (.ref (a K))
def zoF(a b:Fg->Addr):Bool:=notFirst K (a K) (.ref (b K))
def zoS(a:Fg->Addr)(s:String):Bool:=notFirst K (a K) (.type s)
end
end MW
namespace L52
open PySem PySem.Spec PyProof.Rows L2 MW
def top(i:Nat):Stmt:=PySem.Challenge.pw_marklessways_k52_hangs_told_and_refused.main.body.getD i (.Pass ⟨0,0,0,0⟩)
abbrev Ep:Stmt:=top 4
abbrev wN:Stmt:=top 5
abbrev JH:Stmt:=top 6
abbrev JF:Stmt:=top 7
abbrev zj:Stmt:=top 8
abbrev wO:Stmt:=top 16
abbrev JG:Stmt:=top 17
abbrev WW:Stmt:=top 18
abbrev JK:Stmt:=top 19
abbrev nO:Stmt:=top 20
abbrev qp:Stmt:=inClass (top 21) 0
abbrev uV:Stmt:=inClass (top 21) 8
abbrev sH:Stmt:=inClass (top 21) 9
abbrev uW:Stmt:=inClass (top 21) 1
abbrev yX:Stmt:=inClass (top 21) 2
abbrev mj:Stmt:=inClass (top 21) 3
abbrev sG:Stmt:=inClass (top 21) 5
abbrev Eo:Stmt:=top 23
abbrev yZ:Stmt:=top 24
abbrev za:Stmt:=top 25
abbrev zf:Stmt:=top 26
abbrev wM:Stmt:=top 27
abbrev oV:Stmt:=top 28
abbrev mD:Stmt:=top 29
abbrev bZ:Stmt:=top 30
abbrev Zx:Stmt:=top 31
abbrev qD:Stmt:=inClass (top 12) 0
abbrev oX:Stmt:=inClass (top 11) 0
section
variable (K:Fg)
def aZ:=gaK K "Hang"
def bL:=gaK K "BadCount"
def bY:=gaK K "BadHang"
def sS:=gaK K "is_whole"
def XF:=tkK K "WORD_SIZE"
def ado:=tkK K "LETTERS"
def adn:=tkK K "FIGURES"
def XD:=tkK K "MOST_SPOT"
def pU:=gaK K "figure_in"
def vq:=gaK K "is_word"
def VH:=gaK K "LONE"
def vp:=gaK K "is_stop"
def vA:=gaK K "mark_of"
def vm:=gaK K "is_port"
def je:=gaK K "WayError"
def oA:=gaK K "is_between"
def oE:=gaK K "is_outcome"
def iJ:=gaK K "are_marks_right"
def Bb:=gaK K "plain"
def pO:=gaK K "_law_draw"
def pP:=gaK K "_law_pick"
def ou:=gaK K "_law_heard"
def jB:=gaK K "_law_right"
def dF:=gaK K "_law_refused_right"
def sO:=gaK K "_law_pen"
def pQ:=gaK K "_law_told"
def gD:=gaK K "_law_equal_right"
def Fl:=gaK K "law"
def yG:=tyK K (.ref (aZ K))
def eY:=maK K (bY K) "__init__"
def ig:=maK K (aZ K) "__init__"
def jG:=maK K (aZ K) "__eq__"
def eG:=maK K (bL K) "__init__"
def kE:=maK K (aZ K) "told"
def jm:=maK K (aZ K) "__str__"
def jk:=maK K (aZ K) "__len__"
def dR:=maK K (aZ K) "__getitem__"
def mY:=fcK K (.ref (aZ K)) (yG K) "untold"
def pN:=rcK K (kE K) "property"
def Mx:=rrK K (kE K) "property"
def mX:=rcK K (mY K) "staticmethod"
def Ge:=rrK K (mY K) "staticmethod"
def oh:=cdA K (jB K)
def lQ:=tbA K (oh K)
def fH:=cdA K (dF K)
def dX:=tbA K (fH K)
def Qs:=cdA K (Fl K)
def JQ:=tbA K (Qs K)
def axK:=znG K "Hang" aZ&&znG K "BadCount" bL&&znG K "BadHang" bY&&znG K "is_whole" sS&&decide (gB K mainGlobals "WORD_SIZE"=some (some (.int 8 (XF K))))&&decide (gB K mainGlobals "LETTERS"=some (some (.str "abcdefghijklmnopqrstuvwxyz" (ado K))))&&decide (gB K mainGlobals "FIGURES"=some (some (.str "0123456789" (adn K))))&&decide (gB K mainGlobals "MOST_SPOT"=some (some (.int 11 (XD K))))&&znG K "figure_in" pU&&znG K "is_word" vq&&znG K "LONE" VH&&znG K "is_stop" vp&&znG K "mark_of" vA&&znG K "is_port" vm&&znG K "WayError" je&&znG K "is_between" oA&&znG K "is_outcome" oE&&znG K "are_marks_right" iJ&&znG K "plain" Bb&&znG K "_law_draw" pO&&znG K "_law_pick" pP&&znG K "_law_heard" ou&&znG K "_law_right" jB&&znG K "_law_refused_right" dF&&znG K "_law_pen" sO
def axL:=znG K "_law_told" pQ&&znG K "_law_equal_right" gD&&znG K "law" Fl&&decide (fR K (.ref (aZ K))=some (yG K))&&xcB K (bY K) [.ref (je K),.type "ValueError",.type "Exception",.type "BaseException",.type "object"]&&xcB K (bL K) [.ref (je K),.type "ValueError",.type "Exception",.type "BaseException",.type "object"]&&zfB K aZ "__class__" "object.__class__"&&zfB K bL "__class__" "object.__class__"&&zfB K bL "__getattribute__" "BaseException.__getattribute__"&&zfB K bY "__class__" "object.__class__"&&zfB K bY "__getattribute__" "BaseException.__getattribute__"&&zfF K bY "__init__" eY&&zfF K aZ "__init__" ig&&zfF K aZ "__eq__" jG&&zfF K bL "__init__" eG&&zfF K aZ "told" kE&&zfF K aZ "__str__" jm&&zfF K aZ "__len__" jk&&zfF K aZ "__getitem__" dR&&fgB K (.ref (aZ K)) (yG K) "untold" "staticmethod.__get__" (mY K)&&decide (gk K (kE K) "property"=some (.ref (pN K)::(Mx K)))&&decide (gk K (mY K) "staticmethod"=some (.ref (mX K)::(Ge K)))&&cdB K (sS K) "is_whole"&&cdB K (oA K) "is_between"&&cdB K (vq K) "is_word"
def axM:=cdB K (vm K) "is_port"&&cdB K (pU K) "figure_in"&&cdB K (oE K) "is_outcome"&&cdB K (vp K) "is_stop"&&cdB K (Bb K) "plain"&&cdB K (vA K) "mark_of"&&cdB K (iJ K) "are_marks_right"&&cdB K (eY K) "BadHang.__init__"&&cdB K (ig K) "Hang.__init__"&&cdB K (jG K) "Hang.__eq__"&&cdB K (jm K) "Hang.__str__"&&cdB K (mX K) "Hang.untold"&&cdB K (pN K) "Hang.told"&&cdB K (eG K) "BadCount.__init__"&&cdB K (dR K) "Hang.__getitem__"&&cdB K (jk K) "Hang.__len__"&&cdB K (sO K) "_law_pen"&&cdB K (pO K) "_law_draw"&&cdB K (pP K) "_law_pick"&&cdB K (pQ K) "_law_told"&&cdB K (ou K) "_law_heard"&&cdB K (jB K) "_law_right"&&cdR K (jB K) (oh K)&&tbB K (oh K) (lQ K)&&cdB K (gD K) "_law_equal_right"
def axN:=cdB K (dF K) "_law_refused_right"&&cdR K (dF K) (fH K)&&tbB K (fH K) (dX K)&&cdB K (Fl K) "law"&&cdR K (Fl K) (Qs K)&&tbB K (Qs K) (JQ K)&&(K.lookup (lQ K)).isNone&&(K.lookup (dX K)).isNone&&(K.lookup (JQ K)).isNone&&zkT K aZ aZ&&zkS K aZ "str"&&zkS K aZ "int"&&zkS K aZ "bool"&&zkS K aZ "tuple"&&zkS K aZ "list"&&zkS K aZ "dict"&&zkS K aZ "NoneType"&&zkY K "NoneType" aZ&&zkY K "bool" aZ&&zkY K "int" aZ&&zkY K "str" aZ&&zkY K "tuple" aZ&&zkY K "list" aZ&&zkY K "dict" aZ&&decide (fT K (.ref (bL K)) [.ref (bY K),.ref (aZ K)]=some false)
def axO:=decide (fT K (.ref (bY K)) [.ref (bL K),.ref (aZ K)]=some false)&&zkS K bL "int"&&zkS K bL "str"&&zkS K bL "bool"&&zkS K bL "dict"&&zkS K bY "int"&&zkS K bY "str"&&zkS K bY "bool"&&zkS K bY "dict"&&decide (kF K (.builtin "object.__class__") "__get__"=some (some (.builtin "getset_descriptor.__get__")))&&decide (kN K (.builtin "object.__class__")=some true)&&zmO K aZ "object"&&PySem.W.plainGet K (aZ K) Str.empty&&iO K (aZ K)&&PySem.W.plainOver K (aZ K)&&zfB K aZ "__setattr__" "object.__setattr__"&&znN K "int"&&zmO K bL "object"&&zfN K bL "__getattr__"&&zsU K bL "BaseException"&&iO K (bL K)&&zmO K bY "object"&&zfN K bY "__getattr__"&&zsU K bY "BaseException"&&iO K (bY K)
def axP:=znN K "isinstance"&&znN K "bool"&&zkP K sS&&zkP K oA&&znN K "str"&&znN K "len"&&znN K "all"&&zkP K vq&&zkP K vm&&zkP K pU&&gtB K (VH K) ["lost","ever","open"]&&zkP K oE&&zkP K vp&&zkP K Bb&&zkP K vA&&zkP K iJ&&zkP K eY&&zfB K bY "__setattr__" "object.__setattr__"&&ztS K bY "type"&&zkP K bY&&ztS K eY "function"&&zfN K bY "part"&&znN K "dict"&&znN K "sorted"&&zfN K aZ "port"
def axQ:=znN K "tuple"&&zfN K aZ "spots"&&zfN K aZ "outcomes"&&zfN K aZ "bares"&&zfN K aZ "marks"&&zfN K aZ "line"&&zkP K ig&&zkP K jG&&zkP K jm&&PySem.W.makesIn K (aZ K)&&f6 K (.ref (ig K))&&zkP K aZ&&zkP K mX&&f6 K (.ref (jG K))&&zoF K aZ aZ&&zoS K aZ "NoneType"&&zoS K aZ "bool"&&zoS K aZ "int"&&zoS K aZ "str"&&zoS K aZ "tuple"&&zoS K aZ "list"&&zoS K aZ "dict"&&zfB K aZ "__ne__" "object.__ne__"&&zkP K pN&&zkP K eG
def axR:=zfB K bL "__setattr__" "object.__setattr__"&&ztS K bL "type"&&zkP K bL&&ztS K eG "function"&&zfN K bL "value"&&zkP K dR&&zsB K kE "__get__" "property.__get__"&&ztK K kE&&zkP K jk&&znN K "list"&&zkP K sO&&znN K "abs"&&zkP K pO&&zkP K pP&&znN K "range"&&znN K "set"&&znN K "max"&&f6 K (.ref (jm K))&&zkP K pQ&&zsU K je "BaseException"&&kQ K (je K)&&ztS K je "type"&&decide (gi K (.ref (bL K)) (.ref (je K))=some true)&&decide (gi K (.ref (bY K)) (.ref (je K))=some true)&&zkP K ou
def axS:=f6 K (.ref (jk K))&&znN K "repr"&&f6 K (.ref (dR K))&&iR K (dR K)&&zkP K jB&&PySem.W.readsIn K (aZ K) (yG K)&&zsB K aZ "__getattribute__" "type.__getattribute__"&&zkP K gD&&zkP K dF&&zkP K Fl&&decide ([(lQ K),(dX K),(JQ K)].Nodup)&&true&&true&&true&&true&&true&&true&&true&&true&&true&&true&&true&&true&&true&&true
end
def fbs:List (Fg->Bool):=[axK,axL,axM,axN,axO,axP,axQ,axR,axS]
def fns:List FnQ:=[⟨sS,"is_whole","is_whole",Ep⟩,⟨oA,"is_between","is_between",wN⟩,⟨vq,"is_word","is_word",JH⟩,⟨vm,"is_port","is_port",JF⟩,⟨pU,"figure_in","figure_in",zj⟩,⟨oE,"is_outcome","is_outcome",wO⟩,⟨vp,"is_stop","is_stop",JG⟩,⟨Bb,"plain","plain",WW⟩,⟨vA,"mark_of","mark_of",JK⟩,⟨iJ,"are_marks_right","are_marks_right",nO⟩,⟨eY,"__init__","BadHang.__init__",qD⟩,⟨ig,"__init__","Hang.__init__",qp⟩,⟨jG,"__eq__","Hang.__eq__",uV⟩,⟨jm,"__str__","Hang.__str__",sH⟩,⟨mX,"untold","Hang.untold",uW⟩,⟨pN,"told","Hang.told",yX⟩,⟨eG,"__init__","BadCount.__init__",oX⟩,⟨dR,"__getitem__","Hang.__getitem__",mj⟩,⟨jk,"__len__","Hang.__len__",sG⟩,⟨sO,"_law_pen","_law_pen",Eo⟩,⟨pO,"_law_draw","_law_draw",yZ⟩,⟨pP,"_law_pick","_law_pick",za⟩,⟨pQ,"_law_told","_law_told",zf⟩,⟨ou,"_law_heard","_law_heard",wM⟩,⟨jB,"_law_right","_law_right",oV⟩,⟨gD,"_law_equal_right","_law_equal_right",mD⟩,⟨dF,"_law_refused_right","_law_refused_right",bZ⟩,⟨Fl,"law","law",Zx⟩]
def HD:HkD:=⟨fbs,fns,fun K=>[lQ K,dX K,JQ K]⟩
set_option maxHeartbeats 0
abbrev R:PySem.W.OpenRow:=PySem.W.OpenLaw.row PySem.Challenge.rw_marklessways_k52_hangs_told_and_refused
abbrev hk:PySem.W.Hook:=asj 5 HD
def ob(s:kR):Bool×List FnV:=aou 5 HD (HandSHeadRun.getT s)
theorem awe(s:kR):ob s=hk.obs s.abs:=al2 (HandSHeadRun.getT_eq s)
def loose:List PySem.Str:=(["LETTERS","FIGURES","WORD_SIZE","is_whole","is_between","is_word","is_port","figure_in","WayError","BadCount","BadHang","MOST_SPOT","LONE","is_outcome","is_stop","plain","mark_of","are_marks_right","Hang","_law_pen","_law_draw","_law_pick","_law_told","_law_heard","_law_right","_law_equal_right","_law_refused_right"]:List PySem.Str)
theorem run(w:World):HandSHeadRun.RunEq R (PySem.W.view R.prog [31]) hk ob 12000 loose w:=by
 intro os
 kernel_rfl
end L52
set_option maxHeartbeats 4000000
namespace MW
open PySem PySem.Spec PyProof.Rows L2
def aoB(i j l:Nat)(ms:Rho->M (List CV)):Rho->M CF:=fun ρ S=>lft ρ (ms ρ S) fun xs S1=>match xs with
 | [x,y,z]=>.ok (.nx (((ρ.set i (some x)).set j (some y)).set l (some z))) S1
 |_=>.bad
def Pq:List CV->Option (List (CV×CV))
 | []=>some []
 |.tup [k,v]::r=>if (ckey k).isSome then (Pq r).map ((k,v):: ·) else none
 |_=>none
def Pa(acc:List (CV×CV))(ps:List (CV×CV)):List (CV×CV):=ps.foldl (fun acc p=>match ckey p.1 with
 |some k=>Ba acc p.1 k p.2
 |none=>acc) acc
def tY:List CV->M CV:=fun xs S=>match xs with
 | [.ref n]=>match xX S n with
  |some kvs=>if fX kvs then .ok (.ref S.length) (S++[.dic kvs]) else .bad
  |none=>match S[n]? with
   |some (.lst ys)=>match Pq ys with
    |some ps=>.ok (.ref S.length) (S++[.dic (Pa [] ps)])
    |none=>.bad
   |_=>.bad
 |_=>.bad
/-- list(d) -/
def Gv(g:List CV->M CV):List CV->M CV:=fun xs S=>match xs with
 | [.ref n]=>match xX S n with
  |some kvs=>if fX kvs then .ok (.ref S.length) (S++[.lst (wkK kvs)]) else .bad
  |none=>g xs S
 |_=>g xs S
section
variable {X:Cx}{W:WX}{a b c:Expr}{ms:Rho->M (List CV)}{pos:Pos}
variable {K:ae}{mg:Str->Option Value}{ι:List Addr}{H:Hp}
theorem aam:∀{ys:List CV}{vs:List V}{ps:List (CV×CV)},aQ K mg ι H ys vs->Pq ys=some ps->∃(qs:List Addr) (kvs:List (Key×V)),vs=qs.map V.ref/\Paired (fun p kv=>SqT K H p [kV kv.1,kv.2]) qs kvs/\dB K mg ι H ps kvs
 | [],_,_,.nil,h=>by cases h;exact⟨[],[],rfl,.nil,.nil⟩
 |y::ys,_,ps,.cons ry rr,h=>by
  unfold Pq at h
  split at h
  ·rename_i e;cases e
  ·rename_i k v r e
   cases e
   split at h
   ·rename_i hk
    cases e2:Pq ys with
    |none=>rw[e2]at h;cases h
    |some ps'=>
     rw[e2]at h
     cases h
     obtain⟨qs,kvs,e3,hp,rk⟩:=aam rr e2
     obtain⟨k',ek⟩:=jS.mp hk
     cases ry with
     | @tup p _ vs' hq r2=>
      cases r2 with
      |cons rk1 r2=>cases r2 with
       |cons rv1 r2=>
        cases r2
        have:=Fw ek rk1
        subst this
        subst e3
        exact⟨_::qs,(k',_)::kvs,rfl,.cons hq hp,.cons ek rv1 rk⟩
   ·cases h
  ·cases h
theorem aah:∀{ps:List (CV×CV)}{kvs:List (Key×V)}{acc:List (CV×CV)}{axX:List (Key×V)},dB K mg ι H acc axX->dB K mg ι H ps kvs->dB K mg ι H (Pa acc ps) (mergeK axX kvs)
 |_,_,_,_,ra,.nil=>ra
 |_,_,_,_,ra,.cons (k:=k) hk r rs=>by
  show dB K mg ι H (Pa _ _) (mergeK _ _)
  unfold Pa mergeK
  rw[gC,gC]
  dsimp only
  rw[hk]
  exact aah (dB.put r hk ra) rs
theorem aex{S:Sto}{p:Addr}{kvs:List (CV×CV)}{ps:List (Key×V)}(Rs:RS K mg ι S H)(r:dB K mg ι H kvs ps)(hp:H p=none):
    Nx K mg ι H (S++[.dic kvs]) (ι++[p]) (upd H p (.dK ps))/\bx K mg (ι++[p]) (upd H p (.dK ps)) (.ref S.length) (.ref p):=by
  have fr:Frm ι H (upd H p (.dK ps)):=fun b o _ _ e=>by rw[upd_ne (ne_of_none e hp)];exact e
  have tk:=Rs.tk fr
  exact⟨Rs.new hp (.inl ⟨ps,upd_same,r.mono tk [p]⟩),.ref (by rw[<-Rs.len,aL (ba _),fv];rfl)⟩
theorem uG(hc:X.calm=true:=by rfl):oH X W (.type "dict") tY:=oW (CallR.or call_dictD (call_dictP hc)) fun ι S H xs vs Q B Rs rx fi=>by
 unfold tY at fi
 split at fi
 ·obtain⟨v,rfl,r⟩:=one_of rx
  cases r with
  |ref hq=>
   split at fi
   ·rename_i kvs ex
    split at fi
    ·rename_i hf
     obtain⟨ps,h1,r1⟩:=Rs.dk hq ex hf
     refine .inl ⟨_,ps,rfl,h1,fun p hp=>?_⟩
     obtain⟨n2,r2⟩:=aex Rs r1 hp
     exact fi _ _ _ n2 r2
    ·exact fi.elim
   ·split at fi
    ·rename_i ys ey
     split at fi
     ·rename_i ps ep
      obtain⟨us,h1,r1⟩:=Rs.obj _ _ _ hq ey
      obtain⟨qs,kvs,e3,hp,rk⟩:=aam r1 ep
      subst e3
      refine .inr ⟨_,qs,kvs,rfl,SqL.of h1,hp,fun p hp=>?_⟩
      obtain⟨n2,r2⟩:=aex Rs (aah .nil rk) hp
      exact fi _ _ _ n2 r2
     ·exact fi.elim
    ·exact fi.elim
 ·exact fi.elim
theorem Xh:∀{kvs:List (CV×CV)}{ps:List (Key×V)},dB K mg ι H kvs ps->aQ K mg ι H (wkK kvs) (ps.map fun kv=>kV kv.1)
 |_,_,.nil=>.nil
 |_,_,.cons hk _ rs=>.cons (ahJ hk) (Xh rs)
theorem RL{g:List CV->M CV}(hg:oH X W (.type "list") g)(hc:X.calm=true:=by rfl):oH X W (.type "list") (Gv g):=by
 intro pins s σ H ι S xs vs us Q I rv Rs rx fi
 unfold Gv at fi
 split at fi
 ·obtain⟨v,rfl,r⟩:=one_of rx
  split at fi
  ·rename_i kvs ex
   split at fi
   ·rename_i hf
    cases r with
    |ref hq=>
     obtain⟨ps,h1,r1⟩:=Rs.dk hq ex hf
     refine call_listD hc pins s σ H _ us Q I rv ⟨_,ps,rfl,h1,fun p hp=>?_⟩
     obtain⟨n2,r2⟩:=lJ Rs (Xh r1) hp
     exact fi _ _ _ n2 r2
   ·exact fi.elim
  ·exact hg pins s σ H ι S _ _ us Q I rv Rs rx fi
 ·exact hg pins s σ H ι S xs vs us Q I rv Rs rx fi
end
end MW
namespace PySem.W
open PySem PySem.Spec PyProof.Rows
end PySem.W
namespace MW
open PySem PySem.Spec PyProof.Rows L2
def Hj(e:Int×Value):Key:=match e.2 with
 |.int k _=>.inl k
 |.str x _=>.inr x
 |_=>.inl 0
def xV(P:Program)(w:World)(e:Int×Value):Prop:=∃k,RelV (kV k) e.2/\e.1=(mixKind P w).hash k
def Og(P:Program)(w:World)(h:Heap)(a:Addr)(S:Key->Prop)(n:Nat):Prop:=
 ∃o es ep t,h.get? a=some o/\o.ExactSet/\o.data=.set es ep t/\(∀e∈es.toList,xV P w e)/\(es.toList.map Hj).Nodup/\(∀k,S k↔k∈es.toList.map Hj)/\
  es.size<scanBound/\t.fits es.size=true/\es.size=n/\Ris t.place.toList/\(w.params.followText "set-order"=true\/t.led=true)
section
variable {P:Program}{w:World}{h h':Heap}{a:Addr}{S:Key->Prop}{n:Nat}
theorem Og.at(R:Og P w h a S n)(k:∀o,h.get? a=some o->h'.get? a=some o):Og P w h' a S n:=by
 obtain⟨o,es,ep,t,ho,r⟩:=R
 exact⟨o,es,ep,t,k o ho,r⟩
theorem Og.congr{S':Key->Prop}(R:Og P w h a S n)(e:∀k,S' k↔S k):Og P w h a S' n:=by
 have q:S'=S:=funext fun k=>propext (e k)
 rw[q];exact R
theorem Wk{e:Int×Value}{k:Key}(h:RelV (kV k) e.2):Hj e=k:=by
 unfold Hj
 cases k with
 |inl i=>obtain⟨t,ht⟩:=h;rw[ht]
 |inr x=>obtain⟨t,ht⟩:=h;rw[ht]
theorem adI{l:List (Int×Value)}(g:∀e∈l,xV P w e):ElemsOf (mixKind P w) l:=fun e he=>by
 obtain⟨k,h1,h2⟩:=g e he
 exact⟨⟨k,kV_is h1,h2⟩,key_scan h1⟩
theorem aei{e:Int×Value}(g:xV P w e)(k:Key):(mixKind P w).is k e.2=true↔Hj e=k:=by
 obtain⟨k0,h1,_⟩:=g
 rw[Wk h1,KeyKind.is_eq_decide (kV_is (P:=P) (w:=w) h1) k,decide_eq_true_eq]
 exact eq_comm
theorem Z8{l:List (Int×Value)}(g:∀e∈l,xV P w e)(k:Key):k∈l.map Hj↔∃e∈l,(mixKind P w).is k e.2=true:=by
 rw[aw]
 constructor
 ·rintro ⟨e,he,q⟩
  exact⟨e,he,(aei (g e he) k).2 q⟩
 ·rintro ⟨e,he,q⟩
  exact⟨e,he,(aei (g e he) k).1 q⟩
end
section
variable {P:Program}{w:World}{A:Around}{E:Value->Shared->Prop}{s:Shared}{a:Addr}{S:Key->Prop}{n:Nat}
theorem Le{g:Bool->Sem Unit}(hg:∀(b:Bool)(s₁:Shared)(Q':Unit->Shared->Prop),Q' () s₁->wpAny (model P w) A (g b) Q' E s₁)
    {o:Obj}{es:Array (Int×Value)}{ep:Nat}{t:SetTable}(ho:s.heap.get? a=some o)(hex:o.ExactSet)(hd:o.data=.set es ep t)
    {es1:Array (Int×Value)}{t2:SetTable}{S':Key->Prop}(g1:∀e∈es1.toList,xV P w e)(nd1:(es1.toList.map Hj).Nodup)(m1:∀k,S' k↔k∈es1.toList.map Hj)
    (hb1:es1.size<scanBound)(hf2:t2.fits es1.size=true)(hr:Ris t2.place.toList)(hl:w.params.followText "set-order"=true\/t2.led=true){wasDummy:Bool}{R:Option Bool->Shared->Prop}
    (hR:∀h',Heap.SameBut a s.heap h'->Og P w h' a S' es1.size->R (some true) {s with heap:=h'}):
    wpAny (model P w) A (do
        storeSet a es1 t2
        if (!wasDummy&&t2.tooFull)=true then do
            g (relayAll t2 es1 (SetTable.grown es1.size)).2.2
            storeSet a (relayAll t2 es1 (SetTable.grown es1.size)).1 (relayAll t2 es1 (SetTable.grown es1.size)).2.1
            pure (some true)
          else pure (some true)) R E s:=by
  refine wpAny_bind (wpAny_storeSet_of ho hd ?_ (fits_of_scanBound hb1))
  have ho1:=store_at (es':=es1) (t':=t2) ho hd
  have sb1:=Heap.SameBut.update s.heap a (Obj.putSet es1 t2)
  split
  · have pm:=relayAll_perm t2 es1 (SetTable.grown es1.size)
    have hf3:=relayAll_fits t2 es1 (SetTable.grown es1.size)
    have hr3:=relayAll_ris t2 es1 (SetTable.grown es1.size)
    have hl3:=relayAll_led t2 es1 (SetTable.grown es1.size)
    generalize relayAll t2 es1 (SetTable.grown es1.size)=Z at pm hf3 hr3 hl3 ⊢
    obtain⟨es2,t3,gave⟩:=Z
    dsimp only at pm hf3 hr3 hl3 ⊢
    have hsz:es2.size=es1.size:=by rw[<-bq,pm.length_eq,bq]
    have hb2:es2.size<scanBound:=by rw[hsz];exact hb1
    refine wpAny_bind (hg _ _ _ ?_)
    refine wpAny_bind (wpAny_storeSet_of ho1 rfl ?_ (fits_of_scanBound hb2))
    have ho2:=store_at (es':=es2) (t':=t3) ho1 rfl
    refine wpAny_pure (hR _ (sb1.trans (Heap.SameBut.update _ a _)) ?_)
    exact⟨_,es2,_,t3,ho2,hex,rfl,fun e he=>g1 e (pm.mem_iff.mp he),(pm.map Hj).nodup_iff.mpr nd1,fun k=>(m1 k).trans (pm.map Hj).mem_iff.symm,hb2,hf3,hsz,hr3,
      hl.imp id fun z=>by rw[hl3];exact z⟩
  · exact wpAny_pure (hR _ sb1 ⟨_,es1,_,t2,ho1,hex,rfl,g1,nd1,m1,hb1,hf2,rfl,hr,hl⟩)
theorem Tz{k:Key}{u:Value}{Q:Bool->Shared->Prop}(hu:RelV (kV k) u)(R:Og P w s.heap a S n)(room:n+1<scanBound)
    (hQ:∀h' m b,Heap.SameBut a s.heap h'->Og P w h' a (fun j=>S j\/j=k) m->m<=n+1->Q b {s with heap:=h'}):
    wpAny (model P w) A (setAddHashed a u ((mixKind P w).hash k)) Q E s:=by
  obtain⟨o,es,ep,t,ho,hex,hd,g,nd,hm,hb,hf,hn,hr,hl⟩:=R
  have hkey:(mixKind P w).is k u=true:=kV_is hu
  have hsc:u.scannable=true:=key_scan hu
  have hel:ElemsOf (mixKind P w) es.toList:=adI g
  unfold setAddHashed setAddHashedIn
  refine wpAny_holding (wpAny_bind (wpAny_setState_of ho hd hf ?_))
  dsimp only
  rw[byScan_of hsc hb hel]
  simp only[↓reduceIte]
  unfold setAddByScan
  refine wpAny_bind ?_
  refine wpAny_bind (wpAny_rule ?_)
  refine wpAny_bind (wpAny_setScan_of hkey ho hd hf hel ?_)
  cases hfi:List.findIdx? (fun e=>(mixKind P w).is k e.2) es.toList with
  |some j=>
   dsimp only
   obtain⟨hj,pj,_⟩:=List.findIdx?_eq_some_iff_getElem.mp hfi
   have hSk:S k:=(hm k).2 ((Z8 (P:=P) (w:=w) g k).2 ⟨es.toList[j],List.getElem_mem hj,pj⟩)
   refine wpAny_pure (wpAny_pure ?_)
   exact hQ s.heap n _ (Heap.SameBut.refl a s.heap) ⟨o,es,ep,t,ho,hex,hd,g,nd,fun i=>by
      rw[<-hm i]
      exact⟨fun z=>z.elim id (fun e=>e▸hSk),.inl⟩,hb,hf,hn,hr,hl⟩ (gI _)
  |none=>
   dsimp only
   have hnk:k∉es.toList.map Hj:=fun z=>by
      obtain⟨e,he,q⟩:=(Z8 (P:=P) (w:=w) g k).1 z
      have c:=List.findIdx?_eq_none_iff.mp hfi e he
      rw[q]at c
      cases c
   have hgw:∀(b:Bool){s₁:Shared}{Q':Unit->Shared->Prop},Q' () s₁->wpAny (model P w) A (match b with|true=>rule "set.scan.the-table-gave-way"|false=>pure ()) Q' E s₁:=
      fun b s₁ Q' q=>by cases b<;>first|exact wpAny_pure q|exact wpAny_rule q
   have pm:=layNew_perm t es ((mixKind P w).hash k) u
   have hf1:=layNew_fits t es ((mixKind P w).hash k) u
   have hr1:=layNew_ris t es ((mixKind P w).hash k) u hr
   have hl1:=layNew_led t es ((mixKind P w).hash k) u
   generalize layNew t es ((mixKind P w).hash k) u=Z at pm hf1 hr1 hl1 ⊢
   obtain⟨es1,t1,wasDummy,gave⟩:=Z
   dsimp only at pm hf1 hr1 hl1 ⊢
   rw[Array.toList_push]at pm
   have pc:es1.toList.Perm (((mixKind P w).hash k,u)::es.toList):=pm.trans (List.perm_append_singleton _ _)
   have pk:(es1.toList.map Hj).Perm (k::es.toList.map Hj):=by
      have:=pc.map Hj
      rw[ax,Wk (e:=((mixKind P w).hash k,u)) hu]at this
      exact this
   have g1:∀e∈es1.toList,xV P w e:=fun e he=>by
      rcases av.mp (pc.mem_iff.mp he) with z|z
      · rw[z];exact⟨k,hu,rfl⟩
      · exact g e z
   have nd1:(es1.toList.map Hj).Nodup:=pk.nodup_iff.mpr (dm.mpr ⟨hnk,nd⟩)
   have m1:∀i,(S i\/i=k)↔i∈es1.toList.map Hj:=fun i=>by
      rw[hm i,pk.mem_iff,av]
      exact Or.comm
   have hsz:es1.size=n+1:=by rw[<-bq,pc.length_eq,ai,bq,hn]
   have hb1:es1.size<scanBound:=by rw[hsz];exact room
   have hled:w.params.followText "set-order"=true\/t1.led=true:=hl.imp id fun z=>by rw[hl1];exact z
   have fin:∀h',Heap.SameBut a s.heap h'->Og P w h' a (fun j=>S j\/j=k) es1.size->Q true {s with heap:=h'}:=fun h' sb r=>hQ h' _ _ sb r (Nat.le_of_eq hsz)
   refine wpAny_bind (hgw _ ?_)
   split
   · refine wpAny_bind ?_
     rw[hashByValue_scannable 8 hsc]
     refine wpAny_pure ?_
     refine Le ?_ ho hex hd g1 nd1 m1 hb1 ?_ ?_ ?_ ?_
     · intro b s₁ Q' q;cases b<;>first|exact wpAny_pure q|exact wpAny_rule q
     · first|(split<;>first|exact hf1|exact SetTable.fits_plain_off hf1)|exact hf1
     · first|(split<;>exact hr1)|exact hr1
     · first|(split<;>exact hled)|exact hled
     · intro h' sb r;dsimp only;exact wpAny_pure (fin h' sb r)
   · refine wpAny_bind (wpAny_pure ?_)
     simp only[↓reduceIte]
     refine Le ?_ ho hex hd g1 nd1 m1 hb1 hf1 hr1 hled ?_
     · intro b s₁ Q' q;cases b<;>first|exact wpAny_pure q|exact wpAny_rule q
     · intro h' sb r;dsimp only;exact wpAny_pure (fin h' sb r)
theorem adW{h:Heap}{ks:List Key}(ho:h.get? a=some {cls:=.type "set",dict:=none,data:=.set #[] 0 (.fresh 0 0 (!w.params.followText "set-order"))}):Og P w h a (fun j=>j∈ks.take 0) 0:=
 ⟨_,#[],0,_,ho,⟨rfl,rfl,rfl⟩,rfl,(fun e he=>by simp at he),(by simp),(fun k=>by simp),(by decide),(by rfl),rfl,dA,by
  show _\/(!w.params.followText "set-order")=true
  cases w.params.followText "set-order"
  ·exact .inr rfl
  ·exact .inl rfl⟩
theorem TF{I:Addr}{fp wr:List Addr}{G:Array GenState->Array GenState->Prop}{n:Nat}{Pv:Nat->Value->Prop}{St:Nat->Shared->Prop}{R:Result->Shared->Prop}
    (W:WalksS P w A.in1 I fp wr G n Pv St)(S:Addr)(hSf:S∉fp)(ks:List Key)(hn:n=ks.length)(hb:ks.length+1<scanBound)(hval:∀i v,Pv i v->∃k,ks[i]?=some k/\RelV (kV k) v):
    ∀(k i:Nat)(s:Shared),n-i=k->i<=n->St i s->(∃c,c<=i/\Og P w s.heap S (fun j=>j∈ks.take i) c)->
     (∀s' c,Moved (S::wr) G s s'->c<=n->Og P w s'.heap S (fun j=>j∈ks) c->R (.ok (.ret .none)) s')->
     codeAny (model P w) A (.builtin "set.update.loop" ⟨[.ref S,.ref I],[]⟩) R s:=by
  have hSw:S∉wr:=fun h=>hSf (W.sub _ h)
  have hsub:∀b∈wr,b∈S::wr:=fun b hb=>ag _ hb
  intro k
  induction k with
  |zero=>
   intro i s hk' hi hst ⟨c,hc,hS⟩ hR
   have hin:i=n:=by omega
   subst hin
   refine codeAny_builtin F.entry_set_update_loop ?_
   rw[Around.under_plainId F.plain_set_update_loop _]
   show wpAny _ A.in1 (pyNext (.ref I)>>=_) _ _ s
   refine wpAny_bind (W.done s _ _ hst fun s' hm=>?_)
   show wpAny _ A.in1 (iN Value.none) _ _ s'
   have e:ks.take i=ks:=List.take_of_length_le (by omega)
   rw[e]at hS
   exact wpAny_pure (hR s' c (hm.mono hsub) hc (hS.at fun o e=>hm.heap S o hSw e))
  |succ k ih=>
   intro i s hk' hi hst ⟨c,hc,hS⟩ hR
   have hlt:i<n:=by omega
   refine codeAny_builtin F.entry_set_update_loop ?_
   rw[Around.under_plainId F.plain_set_update_loop _]
   show wpAny _ A.in1 (pyNext (.ref I)>>=_) _ _ s
   refine wpAny_bind (W.item i s _ _ hlt hst fun v s' hP hst' hm=>?_)
   obtain⟨z,hz,rv⟩:=hval i v hP
   have hS':Og P w s'.heap S (fun j=>j∈ks.take i) c:=hS.at fun o e=>hm.heap S o hSw e
   show wpAny _ A.in1 (holding [v] (setAdd S v)>>=_) _ _ s'
   refine wpAny_bind (wpAny_holding ?_)
   unfold setAdd
   refine wpAny_holding ?_
   refine wpAny_bind ((mixKind P w).pyHash (k:=z) (kV_is rv) ?_)
   refine Tz (s:={s' with toks:=s'.toks+1}) rv hS' (by omega) fun h' m b hsb hS2 hm2=>?_
   have hS3:Og P w h' S (fun j=>j∈ks.take (i+1)) m:=hS2.congr fun j=>by
      rw[List.take_add_one,hz]
      simp[ck]
   refine wpAny_pure ⟨plainId_quiet F.plain_set_update_loop _,ih (i+1) _ (by omega) hlt (W.frame _ s' _ _ hst' (gI _) fun b hb o e=>?_) ⟨_,by omega,hS3⟩ fun s'' c2 hm'' hc'' hS''=>?_⟩
   · rw[hsb.2 b (fun h:b=S=>hSf (by rw[<-h];exact hb))];exact e
   · refine hR s'' c2 (Moved.trans W.gtrans ((hm.mono hsub).then_heap (gI _) fun b o hb e=>?_) hm'') hc'' hS''
     rw[hsb.2 b (fun h:b=S=>hb (by rw[h];exact af))];exact e
set_option maxRecDepth 100000 in
set_option maxHeartbeats 3200000 in
theorem Vf{l:Addr}{items:Array Value}(ks:List Key){Q:Value->Shared->Prop}(hh:A.handled=none)(hl:s.heap.IsList l items)(hit:Vals (ks.map kV) items.toList)(hb:ks.length+1<scanBound)
    (h:∀(h':Heap)(tk c:Nat),Og P w h' s.heap.objs.size (fun j=>j∈ks) c->c<=ks.length->(∀b o,s.heap.get? b=some o->h'.get? b=some o)->Q (.ref s.heap.objs.size) {s with heap:=h',toks:=tk}):
    wpAny (model P w) A (call (.type "set") [.ref l]) Q E s:=by
  have hisz:items.size=ks.length:=by
    have q:=hit.length
    simp at q
    exact q.symm
  obtain⟨c,tl,hmro⟩:=F.called_set.mro
  have hmade:=F.called_set.made
  have hsub:=F.called_set.sub
  refine wpAny_call (codeAny_of_tree ?_)
  show wpAny _ _ (callAny (.type "set") _) _ _ _
  refine wpAny_pure ⟨Code.quiet_builtin _ (by decide+kernel),codeAny_builtin F.entry_type_call ?_⟩
  rw[Around.under_plain (weight_type_call_type "set" [.ref l] []) rfl]
  have h1:=F.called_set.notType
  have h2:=F.called_set.canCreate
  have hct:=F.typeCall_set_1 (.ref l)
  repeat (any_goals (first|assumption|wp_step))

  refine codeAny_mono (code_set_led1 (.ref l) (E:=E) (Q₁:=fun obj s₁=>obj=.ref s.heap.objs.size/\s₁={s with heap:=s.heap.push {cls:=.type "set",dict:=none,data:=.set #[] 0 (.fresh 0 0 (!w.params.followText "set-order"))}}) ⟨rfl,rfl⟩) fun r s₁ hr=>?_
  cases r with
  |error e=>exact hr
  |ok fl=>
   cases fl with
   |ret obj=>
    obtain⟨rfl,rfl⟩:=hr
    have hS:(s.heap.push {cls:=.type "set",dict:=none,data:=.set #[] 0 (.fresh 0 0 (!w.params.followText "set-order"))}).get? s.heap.objs.size=some {cls:=.type "set",dict:=none,data:=.set #[] 0 (.fresh 0 0 (!w.params.followText "set-order"))}:=Heap.get?_push_size _ rfl
    have hT:Shared.TypeIs {s with heap:=s.heap.push {cls:=.type "set",dict:=none,data:=.set #[] 0 (.fresh 0 0 (!w.params.followText "set-order"))}} (.ref s.heap.objs.size) "set":=⟨_,hS,rfl⟩
    have hli:=F.called_set.init.lookup
    have hbi:=F.called_set.init.bind (.ref s.heap.objs.size)
    repeat (any_goals (first|assumption|wp_step))

    refine codeAny_mono (codeAny_call_builtin (R:=wants (fun r s₂=>r=.none/\∃h' tk c,s₂={s with heap:=h',toks:=tk}/\Og P w h' s.heap.objs.size (fun j=>j∈ks) c/\c<=ks.length/\
          (∀b o,s.heap.get? b=some o->h'.get? b=some o)) E) F.called_set.init.plain F.entry_set_init (check_set_init_1 hT ?_)) fun r₂ s₂ hr₂=>?_
    · obtain⟨ol,hol,hcl,nl,hdl⟩:=hl
      obtain⟨ocls,odict,odata,oslots⟩:=ol
      simp only at hcl hdl
      subst hcl;subst hdl
      have hol':(s.heap.push {cls:=.type "set",dict:=none,data:=.set #[] 0 (.fresh 0 0 (!w.params.followText "set-order"))}).get? l=some {cls:=.type "list",dict:=odict,data:=.seq items nl,slots:=oslots}:=Heap.get?_push_of_some _ hol
      have hsls:=F.sub_list_set
      have hslf:=F.sub_list_frozenset
      have hne:(Value.type "list"==Value.type "dict")=false:=by decide
      have hl1:(s.heap.push {cls:=.type "set",dict:=none,data:=.set #[] 0 (.fresh 0 0 (!w.params.followText "set-order"))}).IsList l items:=⟨_,hol',rfl,nl,rfl⟩
      unfold Builtin.«set.__init__» noKeywords Builtin.Frozenset.updateFrom
      generalize hPI:pyIter=PI
      wp_walk
      subst hPI

      refine wpAny_pyIter_list hl1 ?_
      refine wpAny_bind (wpAny_runValue ?_)
      have hlS:l<s.heap.objs.size:=Heap.lt_size hol
      have hh3:A.in1.in1.in1.handled=none:=by simp[hh]
      have hz1:(s.heap.push {cls:=.type "set",dict:=none,data:=.set #[] 0 (.fresh 0 0 (!w.params.followText "set-order"))}).objs.size=s.heap.objs.size+1:=Heap.size_push ..
      have hneI:l≠(s.heap.push {cls:=.type "set",dict:=none,data:=.set #[] 0 (.fresh 0 0 (!w.params.followText "set-order"))}).objs.size:=by
          rw[Heap.size_push];exact eA (i9 hlS)
      have hSf:s.heap.objs.size∉[(s.heap.push {cls:=.type "set",dict:=none,data:=.set #[] 0 (.fresh 0 0 (!w.params.followText "set-order"))}).objs.size,l]:=by
          rw[Heap.size_push];simp only[av,cn,bj,or_false,not_or]
          exact⟨eA (jv _),Nat.ne_of_gt hlS⟩
      have hval:∀(i:Nat)(v:Value),items[i]?=some v->∃k,ks[i]?=some k/\RelV (kV k) v:=fun i v hv=>by
          have hi:i<ks.length:=by rw[<-hisz];exact(Array.getElem?_eq_some_iff.mp hv).1
          obtain⟨u,e1,r1⟩:=hit.get (i:=i) (x:=kV ks[i]) (by rw[bu,ay hi];rfl)
          rw[gf,hv]at e1
          cases e1
          exact⟨ks[i],ay hi,r1⟩
      refine TF ((Walks.list hh3 _ l hneI items).toS) s.heap.objs.size
          hSf ks hisz hb hval (items.size-0) 0 _ (by omega) (c4 _)
          ⟨⟨_,Heap.get?_push_size _ rfl,rfl,rfl⟩,(hl1.push _)⟩ ?hS0 ?hR
      case hS0=>
          have hget:((s.heap.push {cls:=.type "set",dict:=none,data:=.set #[] 0 (.fresh 0 0 (!w.params.followText "set-order"))}).push {cls:=.type "list_iterator",data:=.fields #[.ref l,.int 0 0]}).get? s.heap.objs.size
              =some {cls:=.type "set",dict:=none,data:=.set #[] 0 (.fresh 0 0 (!w.params.followText "set-order"))}:=Heap.get?_push_of_some _ hS
          exact⟨0,ba 0,adW hget⟩
      case hR=>
          intro s' c' hm hc' hS'
          obtain⟨h',g2,d',tk',os'⟩:=s'
          have eg:g2=s.gens:=hm.gens
          have ed:d'=s.drawn:=hm.drawn
          have eo:os'=s.os:=hm.os
          subst eg;subst ed;subst eo
          show wpAny _ _ _ _ _ _
          refine wpAny_pure ?_
          show wpAny _ _ (iN Value.none) _ _ _
          rw[hisz]at hc'
          refine wpAny_pure ⟨rfl,h',tk',c',rfl,hS',hc',fun b o e=>?_⟩
          have hb0:b<s.heap.objs.size:=Heap.lt_size e
          have hb1:b≠s.heap.objs.size:=eA hb0
          have hb2:b≠(s.heap.push {cls:=.type "set",dict:=none,data:=.set #[] 0 (.fresh 0 0 (!w.params.followText "set-order"))}).objs.size:=by
            rw[Heap.size_push];exact eA (i9 hb0)
          exact hm.heap b o (by simp only[av,cn,bj,or_false,not_or];exact⟨hb1,hb2⟩) (Heap.get?_push_of_some _ (Heap.get?_push_of_some _ e))
    · cases r₂ with
      |error e=>exact hr₂
      |ok fl₂=>
       cases fl₂ with
       |ret r=>
        obtain⟨rfl,h',tk,c',rfl,hS',hc',hk'⟩:=hr₂
        repeat (any_goals (first|assumption|wp_step))
        exact h _ _ _ hS' hc' hk'
       |_=>exact hr₂.elim
   |_=>exact hr.elim
theorem aav:∀(l:List Value),(∀v∈l,∃k tk,v=Value.str k tk)->∃ss,StrsAre l ss
 | [],_=>⟨[],.nil⟩
 |v::l,h=>by
  obtain⟨k,tk,rfl⟩:=h v af
  obtain⟨ss,q⟩:=aav l fun u hu=>h u (ag _ hu)
  exact⟨k::ss,.cons k tk q⟩
theorem amA:∀{l:List Value}{ss:List Str},StrsAre l ss->∀(es:List (Int×Value)),l.Perm (es.map (·.2))->(ss.map Sum.inr).Perm (es.map Hj):=by
 intro l ss h es hp
 have key:∀{l:List Value}{ss:List Str},StrsAre l ss->ss.map (Sum.inr:Str->Key)=l.map fun v=>Hj (0,v):=by
  intro l ss h
  induction h with
  |nil=>rfl
  |cons x t _ ih=>rw[ax,ax,ih];rfl
 rw[key h]
 have:=hp.map fun v=>Hj (0,v)
 rw[bp]at this
 exact this
theorem ints_mem:∀{l:List Value}{ss:List Int},IntsAre l ss->∀(es:List (Int×Value)),l.Perm (es.map (·.2))->(ss.map kM).Perm (es.map Hj):=by
 intro l ss h es hp
 have key:∀{l:List Value}{ss:List Int},IntsAre l ss->ss.map (kM:Int->Key)=l.map fun v=>Hj (0,v):=by
  intro l ss h
  induction h with
  |nil=>rfl
  |cons x t _ ih=>rw[ax,ax,ih];rfl
 rw[key h]
 have:=hp.map fun v=>Hj (0,v)
 rw[bp]at this
 exact this
theorem nodup_of_map{α β:Type}(f:α->β):∀{l:List α},(l.map f).Nodup->l.Nodup
 | [],_=>dA
 |x::l,h=>by
  rw[ax]at h
  obtain⟨h1,h2⟩:=dm.mp h
  exact dm.mpr ⟨fun z=>h1 (aw.mpr ⟨x,z,rfl⟩),nodup_of_map f h2⟩
/-- the laying of a set's members in a list, sorted -/
theorem adZ{Q:Value->Shared->Prop}(R:Og P w s.heap a S n)(hh:A.handled=none)(hn:n<4000)
    (hQ:∀s' p (out:Array Value)(c:Nat),(∀b o,s.heap.get? b=some o->s'.heap.get? b=some o)->s'.gens=s.gens->s'.os=s.os->s.heap.objs.size<=p->
      s'.heap.get? p=some (seqObj "list" out c)->
      (((∀k,S k->∃x,k=.inr x)/\∃ss,StrsAre out.toList ss/\sortedS ss=true/\ss.Nodup/\∀z,z∈ss↔S (.inr z))\/((∀k,S k->∃x,k=.inl x)/\∃ns,IntsAre out.toList ns/\ns.Pairwise (· <= ·)/\ns.Nodup/\∀z,z∈ns↔S (.inl z)))->out.size=n->Q (.ref p) s')
    (hk:(∀k,S k->∃x,k=.inr x)\/∀k,S k->∃x,k=.inl x):
    wpAny (model P w) A (call (.builtin "sorted") [.ref a]) Q E s:=by
  obtain⟨o,es,ep,t,ho,hex,hd,g,nd,hm,hb,hf,hsz,hr,hl⟩:=R
  refine Calls.call_function_entry kind_sorted plain_sorted entry_sorted (args_sorted1 _) ?_
  unfold Builtin.«sorted»
  refine wpAny_bind (m:=checkCount "sorted" 1 1 _) (wpAny_pure ?_)
  refine wpAny_bind (collect_set (A:=A.in1) hh ⟨o,ho,hex.1,hd⟩ hf hb hr hl fun s1 vs k1 hz g1 o1 pm=>?_)
  have hvl:vs.length=n:=by rw[pm.length_eq,ar,bq];exact hsz
  have hvs:vs.length<=sizeLine:=by rw[hvl,sizeLine_eq];omega
  refine wpAny_bind (wpAny_newList ?_ hvs)
  have hoL:(s1.heap.push (seqObj "list" vs.toArray 0)).get? s1.heap.objs.size=some (seqObj "list" vs.toArray 0):=Heap.get?_push_size _ rfl
  have fin:∀out:Array Value,(((∀k,S k->∃x,k=.inr x)/\∃ss,StrsAre out.toList ss/\sortedS ss=true/\ss.Nodup/\∀z,z∈ss↔S (.inr z))\/((∀k,S k->∃x,k=.inl x)/\∃ns,IntsAre out.toList ns/\ns.Pairwise (· <= ·)/\ns.Nodup/\∀z,z∈ns↔S (.inl z)))->out.size=n->
      Q (.ref s1.heap.objs.size) {s1 with heap:=sortedHeap (s1.heap.push (seqObj "list" vs.toArray 0)) s1.heap.objs.size vs out}:=fun out h1 h2=>by
    obtain⟨c,hc⟩:=sortedHeap_at (vs:=vs) (out:=out) hoL
    refine hQ _ s1.heap.objs.size out c (fun b u e=>?_) g1 o1 hz hc h1 h2
    have q:=k1 b u e
    have hlt:=Heap.lt_size q
    show(sortedHeap (s1.heap.push (seqObj "list" vs.toArray 0)) s1.heap.objs.size vs out).get? b=some u
    rw[sortedHeap_old (eA hlt) (by rw[size_push'];exact i9 hlt)]
    exact Heap.get?_push_of_some _ q
  have asw:∀v∈vs,∃e∈es.toList,e.2=v:=fun v hv=>by
    obtain⟨e,he,q⟩:=aw.mp (pm.mem_iff.mp hv)
    exact⟨e,he,q⟩
  rcases hk with hk|hk
  · obtain⟨ss,hS⟩:=aav vs fun v hv=>by
      obtain⟨e,he,rfl⟩:=asw v hv
      obtain⟨k,h1,_⟩:=g e he
      obtain⟨x,rfl⟩:=hk k ((hm k).mpr (aw.mpr ⟨e,he,Wk h1⟩))
      obtain⟨t,ht⟩:=h1
      exact⟨x,t,ht⟩
    have pk:=amA hS es.toList pm
    refine wpAny_bind (wpAny_holding (wpAny_call_entry slot_list_sort ⟨_,hoL,rfl⟩ entry_list_sort (list_sort_treeKAny strKind_oneLt hoL hS.keysOf (fun v₁ v₂ rest e=>keyKind_strs (by rw[<-e];exact hS)) hvs fun st' hp hs=>?_) (args_list_sort _)))
    obtain⟨ss',h1,h2,h3⟩:=sorted_out_str hS hp hs
    refine⟨_,rfl,?_⟩
    refine wpAny_pure ⟨_,rfl,fin _ (.inl ⟨hk,ss',h1,h3,?_,fun z=>?_⟩) ?_⟩
    · exact h2.nodup_iff.mpr (nodup_of_map Sum.inr (pk.nodup_iff.mpr nd))
    · rw[h2.mem_iff,hm, <-pk.mem_iff,aw]
      exact⟨fun q=>⟨z,q,rfl⟩,fun⟨y,q,e⟩=>by cases e;exact q⟩
    · have:=StrsAre.length h1
      have h0:=StrsAre.length hS
      rw[bq]at this
      rw[this,h2.length_eq, <-h0,hvl]
  · have hI:IntsAre vs (vs.map Builtin.Re.reRawOf):=ints_of vs fun v hv=>by
      obtain⟨e,he,rfl⟩:=asw v hv
      obtain⟨k,h1,_⟩:=g e he
      obtain⟨x,rfl⟩:=hk k ((hm k).mpr (aw.mpr ⟨e,he,Wk h1⟩))
      obtain⟨t,ht⟩:=h1
      exact⟨x,t,ht⟩
    have pk:=ints_mem hI es.toList pm
    refine wpAny_bind (wpAny_holding (wpAny_call_entry slot_list_sort ⟨_,hoL,rfl⟩ entry_list_sort (list_sort_treeAny hoL hI hvs fun out ns' h1 h2 h3=>⟨_,rfl,?_⟩) (args_list_sort _)))
    refine wpAny_pure ⟨_,rfl,fin _ (.inr ⟨hk,ns',h1,h3,?_,fun z=>?_⟩) ?_⟩
    · exact h2.nodup_iff.mpr (nodup_of_map kM (pk.nodup_iff.mpr nd))
    · rw[h2.mem_iff,hm, <-pk.mem_iff]
      exact⟨fun q=>aw.mpr ⟨z,q,rfl⟩,fun q=>by obtain⟨y,q,e⟩:=aw.mp q;cases e;exact q⟩
    · have:=IntsAre.length h1
      have h0:=IntsAre.length hI
      rw[bq]at this
      rw[this,h2.length_eq, <-h0,hvl]
end
/-- without doubles -/
def ddL{α:Type}[DecidableEq α]:List α->List α
 | []=>[]
 |x::l=>if x∈ddL l then ddL l else x::ddL l
theorem JV{α:Type}[DecidableEq α]{z:α}:∀{l:List α},z∈ddL l↔z∈l
 | []=>Iff.rfl
 |x::l=>by
  unfold ddL
  split
  ·rename_i h
   rw[JV,av]
   exact⟨.inr,fun q=>q.elim (fun e=>by rw[e];exact JV.mp h) id⟩
  ·rw[av,av,JV]
theorem Bg{α:Type}[DecidableEq α]:∀{l:List α},(ddL l).Nodup
 | []=>dA
 |x::l=>by
  unfold ddL
  split
  ·exact Bg
  ·rename_i h;exact dm.mpr ⟨h,Bg⟩
theorem aht{α:Type}[DecidableEq α]:∀{l:List α},(ddL l).length<=l.length
 | []=>ba _
 |x::l=>by
  unfold ddL
  have:=aht (l:=l)
  split
  ·rw[ai];omega
  ·rw[ai,ai];omega
theorem Ig{α:Type}[DecidableEq α]:∀{l k:List α},l.Nodup->k.Nodup->(∀z,z∈l↔z∈k)->l.Perm k
 | [],[],_,_,_=>List.Perm.nil
 | [],x::k,_,_,h=>nomatch (h x).mpr af
 |x::l,k,h1,h2,h=>by
  have hx:x∈k:=(h x).mp af
  obtain⟨n1,n2⟩:=dm.mp h1
  refine List.Perm.trans (List.Perm.cons x (Ig n2 (h2.erase x) fun z=>?_)) (List.perm_cons_erase hx).symm
  rw[h2.mem_erase_iff, <-h z,av]
  exact⟨fun q=>⟨fun e=>n1 (e▸q),.inr q⟩,fun q=>q.2.resolve_left q.1⟩
def Jj:CV->M CV:=fun x S=>match x with
 |.ref n=>match S[n]? with
  |some (.lst ys)=>match strsOf ys,intsOf ys with
   |some zs,_=>if zs.length<4000 then .ok (.ref S.length) (S++[.lst ((sJ leS (ddL zs)).map .str)]) else .bad
   |none,some is=>if is.length<4000 then .ok (.ref S.length) (S++[.lst ((sJ leI (ddL is)).map .int)]) else .bad
   |_,_=>.bad
  |_=>.bad
 |_=>.bad
theorem as7:bootBuiltins "set"=some (.type "set"):=by decide+kernel
section
variable {X:Cx}{W:WX}{a:Expr}{ma:Rho->M CV}{p p2 q pos:Pos}
def axG(ks:List Key)(out:List V):Prop:=((∀k∈ks,∃x,k=.inr x)/\∃ss:List Str,out=ss.map V.str/\sortedS ss=true/\ss.Nodup/\∀z,z∈ss↔ .inr z∈ks)\/((∀k∈ks,∃x,k=.inl x)/\∃ns:List Int,out=ns.map V.int/\ns.Pairwise (· <= ·)/\ns.Nodup/\∀z,z∈ns↔ .inl z∈ks)
def amD(K:ae)(ta:TE):TE:=fun σ H Q=>ta σ H fun x H1=>∃l,∃ks:List Key,x=.ref l/\SqL K H1 l (ks.map kV)/\ks.length<4000/\((∀k∈ks,∃x,k=.inr x)\/∀k∈ks,∃x,k=.inl x)/\
 ∀out,axG ks out->∀p,H1 p=none->Q (.ref p) (upd H1 p (.lst out))
theorem afQ{ta:TE}(hc:X.calm=true)(hg:Gl X "sorted")(hm:X.mg "sorted"=none)(hg2:Gl X "set")(hm2:X.mg "set"=none)(ha:PE X a ta)
    (na:starEach [a] X.env=(false,eval a X.env)::starEach [] X.env:=by rfl):PE X (.Call (.Name "sorted" p) [.Call (.Name "set" p2) [a] [] q] [] pos) (amD X.K ta):=by
  refine⟨fun pins s σ H Q I h=>?_⟩
  refine Call_ (ld_blt I hg hm ZP ?_)
  refine iq (i8 ?_ rfl) rfl rfl
  refine Call_ (ld_blt I hg2 hm2 as7 ?_)
  refine iL (i8 (thn (ha.run pins s σ H _ I h) fun v s1 ⟨x,H1,I1,r1,q1⟩=>jn ?_) na) na rfl
  obtain⟨l,ks,rfl,hq,hl,hk,q1⟩:=q1
  cases r1
  obtain⟨its,r,pl,hz⟩:=I1.list hq
  refine Vf ks (I1.ok.hd hc) pl.isList (by simpa using r) (by unfold scanBound;omega) fun h' tk c R hcn hk'=>?_
  refine jn ?_
  have I2:Inv X pins σ H1 {s1 with heap:=h',toks:=tk}:=I1.kept fun b o e=>hk' b o e
  have hlt:s1.heap.objs.size<h'.objs.size:=by obtain⟨o,_,_,_,ho,_⟩:=R;exact Heap.lt_size ho
  refine adZ R (I2.ok.hd hc) (by omega) (fun s' p out c k' g o hp hg' ho hsz=>?_) hk
  have k:∀b o,s1.heap.get? b=some o->s'.heap.get? b=some o:=fun b o e=>k' b o (hk' b o e)
  have hp:s1.heap.objs.size<=p:=a9 (Nat.le_of_lt hlt) hp
  have hn:H1 p=none:=I1.hok.fresh hp
  obtain⟨vo,hvo,hvr⟩:∃vo,axG ks vo/\Vals vo out.toList:=by
    rcases ho with⟨h0,ss,h1,h2,h3,h4⟩|⟨h0,ns,h1,h2,h3,h4⟩
    · exact⟨_,.inl ⟨h0,ss,rfl,h2,h3,h4⟩,vals_of_strs h1⟩
    · exact⟨_,.inr ⟨h0,ns,rfl,h2,h3,h4⟩,vals_of_ints h1⟩
  have hlen:vo.length<=sizeLine:=by rw[hvr.length,bq,hsz,sizeLine_eq];omega
  have J:Inv X pins σ (upd H1 p (.lst vo)) {s1 with heap:=s'.heap,gens:=s'.gens,drawn:=s'.drawn,toks:=s'.toks}:=
    I1.call (ch:=[]) (Un.laid k hp hn) (I1.hok.laid k hp ⟨hlen,out.toList,c,hvr,hg'⟩) (by rw[g];exact I1.bare) (fun _ z=>nomatch z)
  have e:s'={s1 with heap:=s'.heap,gens:=s'.gens,drawn:=s'.drawn,toks:=s'.toks}:=by
    cases s'
    cases s1
    cases o
    rfl
  rw[e]
  exact⟨.ref p,_,J,rfl,q1 vo hvo p hn⟩
theorem afu(hm:X.mg "sorted"=none)(hm2:X.mg "set"=none)(ha:GE X W a ma)(hc:X.calm=true:=by rfl)(hg:Gl X "sorted":=by rfl)(hg2:Gl X "set":=by rfl)
    (na:starEach [a] X.env=(false,eval a X.env)::starEach [] X.env:=by rfl):GE X W (.Call (.Name "sorted" p) [.Call (.Name "set" p2) [a] [] q] [] pos) (mUn Jj ma):=
  PE.imp (afQ hc hg hm hg2 hm2 ha na) fun σ H Q ⟨ι,ρ,S,Rs,rs,fi⟩=>by
    refine⟨ι,ρ,S,Rs,rs,(Fin.bnd (R:=bx X.K X.mg) fi).imp fun v H1 ⟨ι1,S1,x,n1,rx,f1⟩=>?_⟩
    unfold Jj at f1
    split at f1
    · split at f1
      · rename_i ys ex
        cases rx with
        |ref hq=>
         obtain⟨us,h1,rr⟩:=n1.rs.obj _ _ _ hq ex
         split at f1
         · rename_i zs ez
           split at f1
           · rename_i hl
             rw[Bu ez]at rr
             have eu:=RB rr
             subst eu
             refine⟨_,zs.map Sum.inr,rfl,?_,by rw[ar];exact hl,.inl fun k hk=>?_,fun out ho p hp=>?_⟩
             · rw[bp];exact SqL.of h1
             · obtain⟨x,_,rfl⟩:=aw.mp hk;exact⟨x,rfl⟩
             · rcases ho with⟨h0,ss,rfl,h2,h3,h4⟩|⟨h0,ns,rfl,h2,h3,h4⟩
               · have pm:ss.Perm (ddL zs):=Ig h3 Bg fun z=>by
                    rw[h4,JV]
                    exact⟨fun q=>by obtain⟨y,q,e⟩:=aw.mp q;cases e;exact q,fun q=>aw.mpr ⟨z,q,rfl⟩⟩
                 have e:=W4 (le:=leS) (fun _ _ _=>Rr) aaf aer pm (aga h2)
                 subst e
                 obtain⟨n2,r2⟩:=lJ n1.rs (aQ.strs _) hp
                 exact f1 _ _ _ n2 r2
               · have e0:zs=[]:=by
                    cases zs with
                    |nil=>rfl
                    |cons x l=>obtain⟨y,e⟩:=h0 _ (aw.mpr ⟨x,af,rfl⟩);cases e
                 subst e0
                 have e1:ns=[]:=by
                    cases ns with
                    |nil=>rfl
                    |cons x l=>exact nomatch (h4 x).mp af
                 subst e1
                 obtain⟨n2,r2⟩:=lJ n1.rs (aQ.strs []) hp
                 exact f1 _ _ _ n2 r2
           · exact f1.elim
         · rename_i is ezn ei
           split at f1
           · rename_i hl
             have eu:=Ib rr ei
             subst eu
             refine⟨_,is.map kM,rfl,?_,by rw[ar];exact hl,.inr fun k hk=>?_,fun out ho p hp=>?_⟩
             · rw[bp];exact SqL.of h1
             · obtain⟨x,_,rfl⟩:=aw.mp hk;exact⟨x,rfl⟩
             · rcases ho with⟨h0,ss,rfl,h2,h3,h4⟩|⟨h0,ns,rfl,h2,h3,h4⟩
               · have e0:is=[]:=by
                    cases is with
                    |nil=>rfl
                    |cons x l=>obtain⟨y,e⟩:=h0 _ (aw.mpr ⟨x,af,rfl⟩);cases e
                 subst e0
                 have e1:ss=[]:=by
                    cases ss with
                    |nil=>rfl
                    |cons x l=>exact nomatch (h4 x).mp af
                 subst e1
                 obtain⟨n2,r2⟩:=lJ n1.rs (aQ.ints []) hp
                 exact f1 _ _ _ n2 r2
               · have pm:ns.Perm (ddL is):=Ig h3 Bg fun z=>by
                    rw[h4,JV]
                    exact⟨fun q=>by obtain⟨y,q,e⟩:=aw.mp q;cases e;exact q,fun q=>aw.mpr ⟨z,q,rfl⟩⟩
                 have e:=W4 (le:=leI) (fun a b c h h'=>by simp[leI]at *;omega) (fun a b=>by simp[leI];omega) (fun {a b} h h'=>by simp[leI]at *;omega) pm (h2.imp fun {a b} h=>by simpa[leI]using h)
                 subst e
                 obtain⟨n2,r2⟩:=lJ n1.rs (aQ.ints _) hp
                 exact f1 _ _ _ n2 r2
           · exact f1.elim
         · exact f1.elim
      · exact f1.elim
    · exact f1.elim
end
def apA:CV->CV->Option Bool
 |.str a,.str b=>some (a==b)
 |.int a,.int b=>some (a==b)
 |.str _,.int _=>some false
 |.int _,.str _=>some false
 |_,_=>none
def Zm(ls:List (CV×CV)):List (CV×CV)->Option Bool
 | []=>some true
 |p::r=>match ckey p.1 with
  |none=>none
  |some k=>match o9 ls k with
   |none=>some false
   |some d=>match apA p.2 d,Zm ls r with
    |some e,some b=>some (e&&b)
    |_,_=>none
def V6(neg:Bool)(g:CV->CV->M CV):CV->CV->M CV:=fun x y S=>match x,y with
 |.ref n,.ref m=>match xX S n,xX S m with
  |some ks,some ls=>if fX ks&&fX ls then (match Zm ls ks with
   |some r=>.ok (.bl (neg !=((ks.length==ls.length)&&r))) S
   |none=>.bad) else .bad
  |_,_=>g x y S
 |_,_=>g x y S
section
variable {K:ae}{mg:Str->Option Value}{ι:List Addr}{H:Hp}{S:Sto}
theorem apB{A:Around}{s:Shared}{c d:CV}{v u:V}{a b:Value}{r:Bool}(h:apA c d=some r)(rc:bx K mg ι H c v)(rd:bx K mg ι H d u)(ra:RelV v a)(rb:RelV u b):SeqAt.EqAt A s a b r:=by
 cases rc<;>cases rd<;>first|(have z:=eqAt_V (A:=A) (s:=s) ra rb rfl rfl;cases h;exact z)|(exfalso;revert h;unfold apA;simp)
theorem Xe{A:Around}{s:Shared}{ls:List (CV×CV)}{pl:List (Key×V)}{vb:List (Key×Value)}(rl:dB K mg ι H ls pl)(rb:KV pl vb):
    ∀{ks:List (CV×CV)}{pk:List (Key×V)}{va:List (Key×Value)}{r:Bool},dB K mg ι H ks pk->KV pk va->Zm ls ks=some r->PySem.W.KeqHits A s vb va r
  | [],_,_,r,.nil,h2,h=>by
    cases h2;cases h;exact .nil
  |p::ks,_,va,r,.cons (k':=k') (v:=v) hk rv rs,h2,h=>by
   cases h2 with
   | @cons _ q _ qs h1 t=>
     obtain⟨k1,a⟩:=q
     obtain⟨e1,ra⟩:=h1
     have e1:k'=k1:=e1
     subst e1
     unfold Zm at h
     rw[hk]at h
     dsimp only at h
     have hv:=rl.val (k:=k')
     split at h
     · rename_i hl
       cases h
       rw[hl]at hv
       have rr:RelO none (valueAt vb k'):=by rw[<-hv];exact rb.val k'
       exact .miss rr.none_of
     · rename_i d hl
       rw[hl]at hv
       obtain⟨u,hu,ru⟩:=hv
       have rr:RelO (some u) (valueAt vb k'):=by rw[<-hu];exact rb.val k'
       obtain⟨y,hy,ry⟩:=rr.some_of
       split at h
       · rename_i e b e2 e3
         cases h
         exact .hit hy (apB e2 rv ru ra ry) (Xe rl rb rs t e3)
       · cases h
end
section
variable {X:Cx}{W:WX}
theorem al4{neg:Bool}{op:CmpOp}(hop:op=(if neg then .NotEq else .Eq)){g:CV->CV->M CV}(hu:X.A.units+1<cLine)(hg:OpG X W (compareOp op) g):OpG X W (compareOp op) (V6 neg g):=by
 intro pins s σ H ι S x y v u a b Q I rv ru Rs rx ry fi
 have els:∀{x y:CV}{v u:V},RelV v a->RelV u b->bx X.K X.mg ι H x v->bx X.K X.mg ι H y u->Fin X.K X.mg ι H (bx X.K X.mg) (g x y S) Q (fun c d H'=>W c d σ H')->wpAny (model X.prog X.w) X.A (compareOp op a b) (EP X pins σ Q) X.xe s:=fun rv ru rx ry fi=>hg pins s σ H ι S _ _ _ _ a b Q I rv ru Rs rx ry fi
 unfold V6 at fi
 split at fi
 ·rename_i n m
  split at fi
  ·rename_i ks ls ek el
   split at fi
   ·rename_i hf
    rw[aB]at hf
    split at fi
    ·rename_i r er
     cases rx with
     | @ref _ p hq=>cases ry with
      | @ref _ p2 hq2=>
       obtain⟨pk,h1,r1⟩:=Rs.dk hq ek hf.1
       obtain⟨pl,h2,r2⟩:=Rs.dk hq2 el hf.2
       obtain⟨_,y1,va,ra,da⟩:=dk_rd (P:=X.prog) (w:=X.w) I.hok h1
       obtain⟨_,y2,vb,rb,db⟩:=dk_rd (P:=X.prog) (w:=X.w) I.hok h2
       obtain rfl:a=Value.ref p:=rv
       obtain rfl:b=Value.ref p2:=ru
       have hl:(ks.length==ls.length)=(va.length==vb.length):=by rw[r1.len,r2.len,ra.length,rb.length]
       rw[hl]at fi
       cases neg with
       |false=>
        cases hop
        rw[show(false !=(va.length==vb.length&&r))=(va.length==vb.length&&r) from by cases (va.length==vb.length&&r)<;>rfl]at fi
        refine PySem.W.keq_eq (knd:=mixKind X.prog X.w) (r:=r) y1 y2 da db (by omega) (fun _=>Xe r2 rb r1 ra er) ?_
        exact⟨V.bl _,H,I,rfl,Fin.ret Rs fi (bx.bl _)⟩
       |true=>
        cases hop
        rw[show(true !=(va.length==vb.length&&r))=!(va.length==vb.length&&r) from by cases (va.length==vb.length&&r)<;>rfl]at fi
        refine PySem.W.keq_ne (knd:=mixKind X.prog X.w) (r:=r) y1 y2 da db (by omega) (fun _=>Xe r2 rb r1 ra er) ?_
        exact⟨V.bl _,H,I,rfl,Fin.ret Rs fi (bx.bl _)⟩
    ·exact fi.elim
   ·exact fi.elim
  ·exact els rv ru rx ry fi
 ·exact els rv ru rx ry fi
end
def wj:CV->List CV->M CV:=fun x xs S=>match x,xs with
 |.str a,[.tup zs]=>(match strsOf zs with
  |some ys=>if (ys.map (·.length)).sum+ys.length*a.length<=16777216 then .ok (.str (Txt.join a ys)) S else .bad
  |none=>.bad)
 |x,xs=>afA x xs S
section
variable {X:Cx}{W:WX}
theorem Bo:MtG X W "str.join" wj:=agW mt_join fun ι S H x xs v vs Q B Rs rx rxs fi=>by
 unfold wj at fi
 split at fi
 ·rename_i zs
  obtain⟨u,rfl,ru⟩:=one_of rxs
  cases rx
  cases ru with
  |tup hq r1=>
   split at fi
   ·rename_i ys ey
    split at fi
    ·rename_i hl
     rw[Bu ey]at r1
     exact⟨_,_,ys,rfl,rfl,.inr (by rw[<-r1.Xu];exact hq),hl,Fin.ret Rs fi (.str _)⟩
    ·exact fi.elim
   ·exact fi.elim
 ·unfold afA at fi
  split at fi
  ·obtain⟨u,rfl,ru⟩:=one_of rxs
   cases rx
   cases ru with
   |ref hq=>
    split at fi
    ·rename_i zs ez
     obtain⟨us,h1,r1⟩:=Rs.obj _ _ _ hq ez
     split at fi
     ·rename_i ys ey
      split at fi
      ·rename_i hl
       rw[Bu ey]at r1
       exact⟨_,_,ys,rfl,rfl,.inl (SqL.of (by rw[<-r1.Xu];exact h1)),hl,Fin.ret Rs fi (.str _)⟩
      ·exact fi.elim
     ·exact fi.elim
    ·exact fi.elim
  ·exact fi.elim
end
def asv:List CV->M CV:=fun xs S=>match xs with
 | [.int i,.int j]=>.ok (.int (if j>i then j else i)) S
 |_=>.bad
def ac6:CV->List CV->M CV:=fun x xs S=>match x,xs with
 |.ref n,[y]=>match S[n]? with
  |some (.dic kvs)=>match ckey y with
   |some k=>if fX kvs then (match o9 kvs k with
    |some c=>.ok c (S.set n (.dic (Gp kvs k)))
    |none=>.bad) else .bad
   |none=>.bad
  |_=>.bad
 |_,_=>.bad
def gT2(g1 g2:CV->Rho->M Rho):CV->Rho->M Rho:=fun x ρ=>match x with
 |.tup [a,b]=>bnd (g1 a ρ) fun ρ1 S=>V3 (g2 b ρ1 S)
 |_=>fun _=>.bad
section
variable {X:Cx}{W:WX}
theorem as6:bootBuiltins "max"=some (.builtin "max"):=by decide+kernel
theorem aiv(hc:X.calm=true:=by rfl):oH X W (.builtin "max") asv:=oW (call_max2 hc) fun ι S H xs vs Q B Rs rx fi=>by
 unfold asv at fi
 split at fi
 ·obtain⟨u,v,rfl,ru,rv⟩:=Pu rx
  cases ru;cases rv
  exact⟨_,_,rfl,Fin.ret Rs fi (.int _)⟩
 ·exact fi.elim
theorem alX:MtG X W "dict.pop" ac6:=fun pins s σ H ι S x xs v vs a us Q I rv rvs Rs rx rxs fi=>by
 unfold ac6 at fi
 split at fi
 ·rename_i n y
  obtain⟨u,rfl,ru⟩:=one_of rxs
  cases rx with
  | @ref _ p hq=>
   split at fi
   ·rename_i kvs ex
    split at fi
    ·rename_i k hk
     split at fi
     ·rename_i hf
      obtain⟨ps,h1,r1⟩:=(Rs.obj _ _ _ hq ex).dk hf
      have hv:=r1.val (k:=k)
      split at fi
      ·rename_i c hc
       rw[hc]at hv
       obtain⟨w,hw,rw'⟩:=hv
       have ek:=Fw hk ru
       subst ek
       obtain rfl:a=Value.ref p:=rv
       cases rvs with
       |cons rk rn=>
        cases rn
        refine d_pop I h1 rk hw (.inl rfl) fun w' s' I' r'=>?_
        have n3:Nx X.K X.mg ι H (S.set n (.dic (Gp kvs k))) ι (upd H p (.dK (dropK ps k))):=Rs.put hq (fun _ tk'=>.inl ⟨_,upd_same,by
         have q:=(dB.drop (k:=k) r1).mono (H':=upd H p (.dK (dropK ps k))) tk' []
         rw[aT]at q
         exact q⟩) (fun gs z=>nomatch z) h1 (fun z=>z)
        exact⟨w,_,I',r',fi _ _ _ n3 (n3.rep Rs rw')⟩
      ·exact fi.elim
     ·exact fi.elim
    ·exact fi.elim
   ·exact fi.elim
 ·exact fi.elim
theorem apM{e1 e2:Expr}{g1 g2:CV->Rho->M Rho}{x1:Nat}{pos:Pos}(h1:GG X W e1 g1)(h2:GG X W e2 g2)(hc:X.calm=true:=by rfl)
    (hs1:(assignEach [e1,e2] X.env).map (·.2)=assign e1 X.env::(assignEach [e2] X.env).map (·.2):=by rfl)(hs2:(assignEach [e2] X.env).map (·.2)=assign e2 X.env::(assignEach [] X.env).map (·.2):=by rfl)
    (hn:(assignEach [e1,e2] X.env).length=2:=by rfl)(hst:(assignEach [e1,e2] X.env).findIdx? (·.1)=none:=by rfl):GG X W (.Tuple [e1,e2] x1 pos) (gT2 g1 g2):=
  PG.imp (pg_tup hc (pgs_cons h1 (pgs_cons h2 pgs_nil hs2) hs1) hn hst) fun v σ H Q ⟨ι,ρ,S,x,Rs,rs,rx,f⟩=>by
    unfold gT2 at f
    split at f
    · rename_i c1 c2
      cases rx with
      |tup hq rr=>
       obtain⟨v1,v2,rfl,r1,r2⟩:=Pu rr
       refine⟨_,_,rfl,hq,rfl,v1,[v2],rfl,⟨ι,ρ,S,c1,Rs,rs,r1,(Fin.bnd (R:=d8 X.K X.mg) f).imp fun σ1 H1 ⟨ι1,S1,ρ1,n1,rs1,f1⟩=>?_⟩⟩
       refine⟨v2,[],rfl,⟨ι1,ρ1,S1,c2,n1.rs,rs1,n1.rep Rs r2,?_⟩⟩
       unfold V3 at f1
       cases e:g2 c2 ρ1 S1 with
       |ok z S2=>rw[e]at f1;exact fun a b c d e=>⟨rfl,f1 a b c d e⟩
       |exc=>rw[e]at f1;exact f1.elim
       |bad=>rw[e]at f1;exact f1.elim
    · exact f.elim
theorem Ik{prog:Program}{w:World}{A:Around}{E:Value->Shared->Prop}{s:Shared}{r:Addr}{kvs:List (Key×Value)}{ep:Nat}{Q₁:Value->Shared->Prop}(hh:A.handled=none)(lo:(r==sysModules)=false)(hat:s.heap.DictAt (mixKind prog w) r kvs ep)(hlen:kvs.length<=sizeLine)
    (h:∀(h':Heap)(tk:Nat)(acc:Array Value),(∀b o,s.heap.get? b=some o->h'.get? b=some o)->ItemsOf (fun i v=>∃k x,kvs[i]?=some (k,x)/\(mixKind prog w).is k v=true) acc kvs.length->
      Q₁ (.ref h'.objs.size) {s with heap:=h'.push {cls:=.type "tuple",data:=.seq acc},toks:=tk}):
    codeAny (model prog w) A (.call (.builtin "tuple.__new__") ⟨[.type "tuple",.ref r],[]⟩) (wants Q₁ E) s:=by
  refine codeAny_of_tree ?_
  show wpAny _ A.in1 (do checkBuiltinCall "tuple.__new__" ⟨[.type "tuple",.ref r],[]⟩;again (.builtin "tuple.__new__" ⟨[.type "tuple",.ref r],[]⟩)) _ _ s
  refine wpAny_bind (wpAny_of_eq (F.newCall_tuple_1 _) (wpAny_pure ⟨plainId_quiet F.plain_tuple_new _,codeAny_builtin F.entry_tuple_new ?_⟩))
  rw[Around.under_plainId F.plain_tuple_new _]
  have hsub:=sub_tuple_self
  have hinit:=init_tuple_lookup
  have hmh:=madeHere_tuple
  have hTI:s.TypeIs (.ref r) "dict":=hat.dictOf.typeIs
  have hh1:A.in1.handled=none:=hh
  wp_walk using wpAny_typeOf hTI,PySem.W.kdu_collect (A:=A.in1) (PySem.W.kdl_dict (knd:=mixKind prog w) (kvs:=kvs) (ep:=ep) lo) hh1 hat hlen
  intro h' tk acc hk hacc
  show wpAny _ _ (Builtin.Tuple.tupleExact acc.toList.toArray>>=fun v=>iN v) _ _ _
  unfold Builtin.Tuple.tupleExact
  refine wpAny_bind (wpAny_newObj_type ?_ (by show acc.toList.toArray.size<=sizeLine;simp only[kD];rw[hacc.1];exact hlen))
  refine wpAny_pure ?_
  have e:acc.toList.toArray=acc:=by simp
  rw[e]
  exact h h' tk acc hk hacc
theorem adw(hcalm:X.calm=true):CallR X (.type "tuple") (fun xs H Q=>∃(a:Addr) (kvs:List (Key×V)),xs=[.ref a]/\Rd H a (.dK kvs)/\∀p,H p=none->Q (.ref p) (upd H p (.tup (kvs.map fun kv=>kV kv.1)))):=by
 intro pins s σ H xs us Q I r q
 obtain⟨a,kvs,ex,hd,q⟩:=q
 subst ex
 obtain⟨u,eu,rx⟩:=vals1 r
 subst eu
 cases rx
 obtain⟨z,lo,vs,rel,dd⟩:=dk_rd I.hok hd
 obtain⟨ep,hat⟩:=dd.dictAt
 have ek:(kvs.map fun kv=>kV kv.1)=vs.map fun p=>kV p.1:=by
  have e:=congrArg (kS kV) rel.keys
  rw[bp,bp]at e
  exact e
 have hz:vs.length<=sizeLine:=by rw[<-rel.length];exact z
 refine callType_codes (Q₁:=fun obj s₁=>s₁.TypeIs obj "tuple"/\EP X pins σ Q obj s₁) F.called_tuple (F.typeCall_tuple_1 _) F.entry_object_init
  (Ik (A:=X.A.in1) (I.ok.hd hcalm) lo hat hz fun h' tk acc hk hacc=>⟨⟨_,Heap.get?_push_size _ rfl,rfl⟩,?_⟩) fun obj s₁ h₁=>?_
 ·have hv:Vals (vs.map fun p=>kV p.1) acc.toList:=keys_at (by rw[bq];exact hacc.1) fun j v e=>hacc.2 j v (by rw[<-gf];exact e)
  have I1:Inv X pins σ H {s with heap:=h',toks:=tk}:=I.kept (t':=tk) hk
  have I2:Inv X pins σ (upd H h'.objs.size (.tup (kvs.map fun kv=>kV kv.1))) {s with heap:=h'.push {cls:=.type "tuple",data:=.seq acc.toList.toArray},toks:=tk}:=
   I1.laid (t':=tk) (fun b o e=>Heap.get?_push_of_some _ e) (ba _) (show ObjOk X.prog X.w _ _ _ (.tup (kvs.map fun kv=>kV kv.1)) from⟨by rw[ar];exact z,acc.toList,by rw[ek];exact hv,IsTup.new _ _⟩)
  rw[kD]at I2
  exact⟨.ref h'.objs.size,_,I2,rfl,q _ (I1.hok.fresh (ba _))⟩
 ·exact⟨h₁.1,F.args_object_init_2 obj _,object_init_meets F.called_tuple.init.lookup F.called_tuple.made (by decide) X.prog X.w X.A.in1 _ s₁ ⟨h₁.1,rfl,h₁.2⟩⟩
def yt(g:List CV->M CV):List CV->M CV:=fun xs S=>match xs with
 | [.ref n]=>match xX S n with
  |some kvs=>if fX kvs then .ok (.tup (wkK kvs)) S else .bad
  |none=>g xs S
 |_=>g xs S
theorem Oi{g:List CV->M CV}(hg:oH X W (.type "tuple") g)(hc:X.calm=true:=by rfl):oH X W (.type "tuple") (yt g):=by
 intro pins s σ H ι S xs vs us Q I rv Rs rx fi
 unfold yt at fi
 split at fi
 ·obtain⟨v,rfl,r⟩:=one_of rx
  split at fi
  ·rename_i kvs ex
   split at fi
   ·rename_i hf
    cases r with
    |ref hq=>
     obtain⟨ps,h1,r1⟩:=Rs.dk hq ex hf
     refine adw hc pins s σ H _ us Q I rv ⟨_,ps,rfl,h1,fun p hp=>?_⟩
     obtain⟨n2,r2⟩:=QX Rs (Xh r1) hp
     exact fi _ _ _ n2 r2
   ·exact fi.elim
  ·exact hg pins s σ H ι S _ _ us Q I rv Rs rx fi
 ·exact hg pins s σ H ι S xs vs us Q I rv Rs rx fi
end
def agN(S:Sto)(x:CV):Option (List (CV×CV)):=match x with
 |.ref n=>match xX S n with
  |some kvs=>if fX kvs then some kvs else none
  |none=>none
 |_=>none
def afv(x y d:CV):M CV:=fun S=>match agN S x with
 |some kvs=>match ckey y with
  |some k=>match o9 kvs k with
   |some c=>.ok c S
   |none=>.ok d S
  |none=>.bad
 |none=>.bad
/-- D's instances have no such number operator -/
structure arZ(K:ae)(D:Addr)(nm:String):Prop where
 ex:∃cd,fq K D=some cd/\∀c∈cd.mro,bE K c (PySem.dunder nm)=some none/\bE K c (dunderR nm)=some none
section
variable {M:Model}{K:ae}{h:Heap}{D:Addr}{nm:String}
theorem arZ.of(e:PySem.W.anM K D nm=true):arZ K D nm:=by
 unfold PySem.W.anM at e
 split at e
 ·rename_i cd hc
  refine⟨cd,hc,fun c hm=>?_⟩
  have:=cg.mp e c hm
  rw[aB]at this
  exact⟨beq_iff_eq.mp this.1,beq_iff_eq.mp this.2⟩
 ·cases e
end
def anK(c:Str)(m:List CV->M CV):List CV->M CV:=fun cs S=>(m (.ref S.length::cs) (S++[.ins c []])).bnd fun r S'=>match r with
 |.non=>.ok (.ref S.length) S'
 |_=>.bad
open ClX
/-- what was known is known still -/
structure Keeps(σ0 σ:cz):Prop where
 len:σ0.length=σ.length
 at_:∀(j:Nat) v,σ0[j]?=some (some v)->σ[j]?=some (some v)
theorem Keeps.wipe{σ σ2:cz}{vs vs1:List Nat}(h:Keeps (c5 σ vs) σ2)(hv:∀i∈vs1,i∈vs):Keeps (c5 σ vs) (c5 σ2 vs1):=
 ⟨h.len.trans (L2.wipe_length _ _).symm,fun j v e=>by rw[L2.wipe_out fun z=>(L2.wipe_some e).2 (hv j z)];exact h.at_ j v e⟩
end MW
namespace MWL
open PySem PySem.SeqAt
open AutoSeq1 (wpAny_loadPart')
open MeetsSeq MeetsSeq2 MeetsSeq3 SeqRoads2 GQ
section
variable {prog:Program}{w:World}{A:Around}{R:Result->Shared->Prop}
/-- at each turn the list is read anew -/
def arY(prog:Program)(w:World)(A:Around)(E:Value->Shared->Prop)(l:Addr)(x:Value)(N:Nat)(I:Nat->Shared->Prop)(T:Shared->Prop):Prop:=
 ∀i s,I i s->∃(items:Array Value) (n:Nat),s.heap.get? l=some {cls:=.type "list",data:=.seq items n}/\items.size=N/\
  ∀(h1:i<items.size),wpAny (model prog w) A.in1 (eqBool items[i] x) (fun r s'=>(r=true->T s')/\(r=false->I (i+1) s')) E s
theorem Vg(l:Addr)(x:Value)(N:Nat)(I:Nat->Shared->Prop)(T:Shared->Prop)(hl:arY prog w A (fun e s'=>R (.error e) s') l x N I T)
    (hit:∀s,T s->R (.ok (.ret (.bool true))) s)(fin:∀s,I N s->R (.ok (.ret (.bool false))) s)(k:Nat):
    ∀i:Nat,N-i=k->i<=N->∀s,I i s->
     wpAny (model prog w) A.in1 (Builtin.«list.__contains__.loop» ⟨[.ref l,x,rawInt i],[]⟩) (FinOf prog w A R) (fun e s'=>R (.error e) s') s:=by
  induction k with
  |zero=>
   intro i hk hi s h
   obtain⟨items,n,hl1,hs1,_⟩:=hl _ _ h
   have hi':i=N:=by omega
   have hR:=fin s (hi'▸h)
   obtain⟨hp,g,d,tk,os⟩:=s
   wp_walk using wpAny_loadPart' hl1
   have hi1:items[((i:Nat):Int).toNat]?=none:=by simp;omega
   rw[hi1]
   wp_walk
   exact hR
  |succ k ih=>
   intro i hk hi s h
   obtain⟨items,n,hl1,hs1,turn⟩:=hl _ _ h
   have hlt:i<items.size:=by omega
   have ht:=turn hlt
   obtain⟨hp,g,d,tk,os⟩:=s
   wp_walk using wpAny_loadPart' hl1
   have hi1:items[((i:Nat):Int).toNat]?=some items[i]:=by simp[hlt]
   have hc:((i:Int)+1)=((i+1:Nat):Int):=by omega
   rw[hi1]
   refine wpAny_bind (wpAny_mono ht (fun r s2 h2=>?_) fun _ _ x=>x)
   cases r with
   |true=>
    have q:=hit s2 (h2.1 rfl)
    wp_walk
    exact q
   |false=>
    have hrec:=ih (i+1) (by omega) (by omega) s2 (h2.2 rfl)
    obtain⟨hp2,g2,d2,tk2,os2⟩:=s2
    wp_walk
    rw[hc]
    exact⟨plainId_quiet plain_contains_loop _,codeAny_builtin entry_contains_loop (by
        rw[Around.under_plainId plain_contains_loop _]
        exact hrec)⟩
theorem Vt(l:Addr)(x:Value)(N:Nat)(I:Nat->Shared->Prop)(T:Shared->Prop)(hl:arY prog w A (fun e s'=>R (.error e) s') l x N I T)
    (hit:∀s,T s->R (.ok (.ret (.bool true))) s)(fin:∀s,I N s->R (.ok (.ret (.bool false))) s){s:Shared}(h:I 0 s):
    wpAny (model prog w) A.in1 (Builtin.«list.__contains__» ⟨[.ref l,x],[]⟩) (FinOf prog w A R) (fun e s'=>R (.error e) s') s:=by
  obtain⟨items,n,hl1,hs1,_⟩:=hl _ _ h
  have hrec:=Vg (A:=A) (R:=R) l x N I T hl hit fin _ 0 rfl (c4 _) s h
  obtain⟨hp,g,d,tk,os⟩:=s
  wp_walk using wpAny_loadPart' hl1
  exact⟨plainId_quiet plain_contains_loop _,codeAny_builtin entry_contains_loop (by
    rw[Around.under_plainId plain_contains_loop _]
    exact hrec)⟩
end
end MWL
namespace MW
open PySem PySem.Spec PyProof.Rows L2
def acJ(S:Sto):CV->Bool
 |.ref n=>match S[n]? with
  |some (.ins _ _)=>true
  |_=>false
 |_=>false
def ax0(neg b:Bool):Bool:=if neg then !b else b
section
variable {X:Cx}{W:WX}{k:Nat}{tbl:List (Str×(List CV->M CV))}{cs:List (Str×Str)}{bs:List Str}{pins:List (Addr×Obj)}{σ:cz}{H:Hp}{s:Shared}{ι:List Addr}{S:Sto}{x y:CV}{v u:V}{a b:Value}
/-- what the loop keeps -/
def auW(X:Cx)(W:WX)(pins:List (Addr×Obj))(σ:cz)(ι:List Addr)(H:Hp)(m:Nat->M Bool)(Q:Bool->Hp->Prop)(i:Nat)(s:Shared):Prop:=
 ∃H' ι' S',Inv X pins σ H' s/\Nx X.K X.mg ι H S' ι' H'/\Fin X.K X.mg ι' H' (fun _ _ a b=>a=b) (m i S') Q (fun c d H''=>W c d σ H'')
theorem arK{us:List V}{its:List Value}{i:Nat}{u:V}(r:Vals us its)(h:us[i]?=some u)(h1:i<its.toArray.size):RelV u its.toArray[i]:=by
 obtain⟨w,hw,rw'⟩:=r.get h
 have h1':i<its.length:=by simpa using h1
 have e:its.toArray[i]=w:=by
  have:its[i]?=some its.toArray[i]:=by rw[ay h1']<;>simp
  rw[hw]at this
  exact(gc this).symm
 rw[e];exact rw'
theorem aq7{ys:List CV}{us:List V}{i:Nat}{K:ae}{mg:Str->Option Value}(r:aQ K mg ι H ys us)(h:i<us.length):∃w z,ys[i]?=some w/\us[i]?=some z/\bx K mg ι H w z:=by
 have h':i<ys.length:=by rw[r.length];exact h
 obtain⟨z,hz,rz⟩:=r.get (ay h')
 exact⟨_,z,ay h',hz,rz⟩
end
def aqt(tbl:List (Str×(List CV->M CV)))(other:List CV->M CV):List CV->M CV:=fun xs S=>match xs with
 | [x]=>(match ownAt tbl x S with
  |some m=>(app 1 m [x] S).bnd fun r S'=>match r with
   |.int n=>if 0<=n/\n<2 ^ 63 then .ok (.int n) S' else .bad
   |_=>.bad
  |none=>other [x] S)
 |_=>.bad
section
variable {X:Cx}{W:WX}{k:Nat}{tbl:List (Str×(List CV->M CV))}{other:List CV->M CV}
theorem aiu(ht:∀p∈tbl,Own X.prog X.w X.K X.mg X.base k p.1 "__len__" 1 p.2)(hr:RmG k X.A)(tk:Takes X W)(ho:oH X W (.builtin "len") other):oH X W (.builtin "len") (aqt tbl other):=by
 intro pins s σ H ι S xs vs us Q I rv Rs rx fi
 unfold aqt at fi
 split at fi
 ·rename_i x
  split at fi
  ·rename_i m hm
   obtain⟨v,rfl,r⟩:=one_of rx
   cases rv with
   |cons r1 r2=>
    cases r2
    obtain⟨p,C,f,ox,od,j,c',rfl,rfl,J,hg,hs,hf,F,hj,_⟩:=Ud ht I r1 Rs r hm
    obtain⟨mm,hF⟩:=I.fr
    have run:=KH (A':=X.A.in1) (us:=[.ref p]) (vs:=[.ref p]) F (hr.mono (by omega:j+1<=k)).in1 rfl tk I (.cons rfl .nil) Rs (.cons r .nil) (Fin.bnd (R:=bx X.K X.mg) fi)
    refine PySem.W.len_K hF I.ok.mod.kin J hs hf (thn run fun w' s1 ⟨z,H1,I1,rz,ι1,S1,d,n1,rd,f1⟩=>?_)
    cases rd with
    |int n=>
     obtain⟨t,rfl⟩:=rz
     dsimp only at f1
     split at f1
     ·rename_i hn
      exact⟨hn,.int n,H1,I1.tok _,⟨_,rfl⟩,Fin.ret n1.rs f1 (.int _)⟩
     ·exact f1.elim
    |_=>exact f1.elim
  ·exact ho pins s σ H ι S _ vs us Q I rv Rs rx fi
 ·exact fi.elim
end
section
variable {X:Cx}{W:WX}{k:Nat}{tbl:List (Str×(List CV->M CV))}{g:CV->CV->M CV}{ma mb:Rho->M CV}{a b:Expr}{pos:Pos}
def IxO(X:Cx)(W:WX)(g:CV->CV->M CV):Prop:=
 ∀(value slice:Expr)(pins:List (Addr×Obj))(s:Shared)(σ:cz)(H:Hp)(ι:List Addr)(S:Sto)(x y:CV)(v u:V)(a b:Value)(Q:VK),Inv X pins σ H s->RelV v a->RelV u b->RS X.K X.mg ι S H->bx X.K X.mg ι H x v->bx X.K X.mg ι H y u->
  Fin X.K X.mg ι H (bx X.K X.mg) (g x y S) Q (fun c d H'=>W c d σ H')->subscripted slice false a b=operate [a,b] (getItem a b)->subscripted slice true a b=runValue (.builtin "lifetime.subscript" ⟨[a,b],[]⟩)->wpAny (model X.prog X.w) X.A (subscriptTail value slice a b) (EP X pins σ Q) X.xe s
theorem Yl(hg:IxO X W g)(ha:GE X W a ma)(hb:GE X W b mb)(hs:PlainIx b:=by intro _ _;rfl)(hs2:∀o i,subscripted b true o i=runValue (.builtin "lifetime.subscript" ⟨[o,i],[]⟩):=by intro _ _;with_unfolding_all rfl):GE X W (.Subscript a b pos) (mOp g ma mb):=
 ⟨fun pins s σ H Q I h=>Subscript_ (two ha hb I h fun v' u' s2 v u H2 ι S x y I2 r1 r2 R rx ry f=>hg a b pins s2 σ H2 ι S x y v u v' u' Q I2 r1 r2 R rx ry f (hs _ _) (hs2 _ _))⟩
def Nq(tbl:List (Str×(List CV->M CV)))(g:CV->CV->M CV):CV->CV->M CV:=fun x y S=>match ownAt tbl x S with
 |some m=>app 2 m [x,y] S
 |none=>g x y S
theorem Yq(ht:∀p∈tbl,Own X.prog X.w X.K X.mg X.base k p.1 "__getitem__" 2 p.2)(hfi:∀p∈tbl,∃C f,X.mg p.1=some (.ref C)/\bE X.K (.ref C) "__getitem__"=some (some (.ref f))/\iR X.K f=true)
    (hr:RmG k X.A)(tk:Takes X W)(hg:IxG X W g):IxO X W (Nq tbl g):=by
  intro value slice pins s σ H ι S x y v u a b Q I rv ru Rs rx ry fi hs hs2
  unfold Nq at fi
  split at fi
  · rename_i m hm
    obtain⟨p,C,f,ox,od,j,c,rfl,rfl,J,hgc,hfd,hf,F,hj,hkd⟩:=Ud ht I rv Rs rx hm
    obtain⟨mm,hF⟩:=I.fr
    have hml:∃m',(c,m')∈tbl:=by
      unfold ownAt lg at *
      cases x with
      |ref i=>
       dsimp only at hm hkd
       split at hm
       · rename_i c2 fs e2
         rw[e2]at hkd
         cases hkd
         obtain⟨l1,l2,e,_⟩:=List.lookup_eq_some_iff.mp hm
         exact⟨m,by rw[e];exact ck.mpr (.inr af)⟩
       · cases hm
      |_=>cases hm
    obtain⟨m',hm'⟩:=hml
    obtain⟨C2,f2,e1,e2,hfn⟩:=hfi _ hm'
    rw[hgc]at e1;cases e1
    rw[hfd]at e2;cases e2
    have run:=KH (A':=X.A.in1) (us:=[.ref p,b]) (vs:=[.ref p,u]) F ((hr.mono (by omega:j+1<=k)).in1) rfl tk I (.cons rfl (.cons ru .nil)) Rs (.cons rx (.cons ry .nil)) fi
    exact PySem.W.sub_K hF I.ok.mod.kin J hfd hfn hf run hs2
  · exact hg value slice pins s σ H ι S x y v u a b Q I rv ru Rs rx ry fi hs
end
abbrev IsTup(h:Heap)(T:Addr)(vs:List Value):Prop:=h.get? T=some {cls:=.type "tuple",data:=.seq vs.toArray}
/-- the i-th items of lists -/
inductive abL(h:Heap)(i:Nat):List (Addr×Addr)->List Value->Prop where
 |nil:abL h i [] []
 |cons {p:Addr×Addr} {ps:List (Addr×Addr)} {x:Value} {xs:List Value} {items:Array Value} (hl:h.IsList p.2 items) (hx:items[i]?=some x) (r:abL h i ps xs):abL h i (p::ps) (x::xs)
section
variable {prog:Program}{w:World}{A:Around}{E:Value->Shared->Prop}{s:Shared}
theorem abL.at{h h':Heap}{i:Nat}:∀{ps:List (Addr×Addr)}{xs:List Value},abL h i ps xs->(∀p∈ps,∀o,h.get? p.2=some o->h'.get? p.2=some o)->abL h' i ps xs
 |_,_,.nil,_=>.nil
 |_,_,.cons hl hx r,k=>.cons (hl.at fun o e=>k _ af o e) hx (abL.at r fun p hp=>k p (ag _ hp))
theorem abL.length{h:Heap}{i:Nat}:∀{ps:List (Addr×Addr)}{xs:List Value},abL h i ps xs->ps.length=xs.length
 |_,_,.nil=>rfl
 |_,_,.cons _ _ r=>by rw[ai,ai,abL.length r]
end
/-- the i-th items of the lists at ls -/
inductive ZV(K:ae)(H:Hp)(i:Nat):List Addr->List V->Prop where
 |nil:ZV K H i [] []
 |cons {l:Addr} {ls:List Addr} {xs:List V} {v:V} {vs:List V} (hl:SqL K H l xs) (hx:xs[i]?=some v) (r:ZV K H i ls vs):ZV K H i (l::ls) (v::vs)
inductive ZU(K:ae)(H:Hp)(i:Nat):List Addr->List V->Prop where
 |nil:ZU K H i [] []
 |cons {l:Addr} {ls:List Addr} {v:V} {vs:List V} (h:∀xs,SqL K H l xs->xs[i]?=some v) (r:ZU K H i ls vs):ZU K H i (l::ls) (v::vs)
section
variable {prog:Program}{w:World}{A:Around}{E:Value->Shared->Prop}{s:Shared}
variable {X:Cx}{pins:List (Addr×Obj)}{σ:cz}{H:Hp}{i:Nat}
theorem ZV.un(I:Inv X pins σ H s):∀{ls:List Addr}{vs:List V},ZV X.K H i ls vs->ZU X.K H i ls vs
 |_,_,.nil=>.nil
 |_,_,.cons hl hx r=>.cons (fun xs h=>by rw[I.list_inj h hl];exact hx) (ZV.un I r)
theorem ZV.row(I:Inv X pins σ H s):∀{ps:List (Addr×Addr)}{vs:List V},ZV X.K H i (ps.map (·.2)) vs->∃xs,abL s.heap i ps xs/\Vals vs xs
 | [],_,h=>by cases h;exact⟨[],.nil,.nil⟩
 |p::ps,_,h=>by
  rw[ax]at h
  cases h with
  |cons hl hx r=>
   obtain⟨xs,h1,h2⟩:=ZV.row I r
   obtain⟨its,rv,q,_⟩:=I.list hl
   obtain⟨u,hu,ru⟩:=rv.get hx
   exact⟨u::xs,.cons q.isList (by simpa using hu) h1,.cons ru h2⟩
end
section
variable {K:ae}{mg:Str->Option Value}{ι:List Addr}{S:Sto}{H:Hp}
/-- the rows stand at the addresses ls -/
inductive acj(ι:List Addr):List (Nat×List CV)->List Addr->Prop where
 |nil:acj ι [] []
 |cons {n:Nat} {xs:List CV} {rs:List (Nat×List CV)} {a:Addr} {ls:List Addr} (h:ι[n]?=some a) (t:acj ι rs ls):acj ι ((n,xs)::rs) (a::ls)
theorem acj.length{ls:List Addr}:∀{rs:List (Nat×List CV)}{ls:List Addr},acj ι rs ls->rs.length=ls.length
 |_,_,.nil=>rfl
 |_,_,.cons _ t=>by rw[ai,ai,acj.length (ls:=[]) t]
end
section
variable {X:Cx}{pins:List (Addr×Obj)}{σ:cz}{H:Hp}{s:Shared}
/-- other generators, the same objects -/
theorem Inv.gens{g':Array GenState}{d':Drawn}{t':Nat}(I:Inv X pins σ H s)(hg:AllBare g'):Inv X pins σ H {s with gens:=g',drawn:=d',toks:=t'}:=
 Inv.step (h':=s.heap) (ch:=[]) I (fun b hb=>absurd hb (by simp)) (fun b o _ _ _ e _=>e) (fun b o _ _ _ e _=>⟨o.slots,e⟩) (fun b o _ _ e=>e) (fun b o _ e=>⟨o,e⟩) (fun b xs e=>e) (fun b o u e=>e) (fun b ps e=>⟨#[],by simpa using e⟩) (fun m e=>e) I.hok hg
end
/-- the names of the generator expression, within the def's -/
structure axD(sc scope:Scope)(x y:Str):Prop where
 kind:scope.kind=.function
 co:scope.isCoroutine=false
 cell:∀z∈scope.names,z.2≠ .cell
 dot:scope.names.lookup (".0":Str)=some NameKind.local
 loc:scope.names.lookup x=some .local
 free:∀z∈scope.names,z.2=.free->sc.names.lookup z.1=some .cell\/sc.names.lookup z.1=some .free
 fy:scope.names.lookup y=some .free
 cy:sc.names.lookup y=some .cell
theorem axD.has{X:Cx}{scope:Scope}{x y:Str}(L:axD X.env.scope scope x y)(ok:X.Ok):GxR.GenS X.env scope x:=
 ⟨L.kind,L.co,L.cell,L.dot,L.loc,fun z hz e=>(L.free z hz e).elim (fun q=>ok.has _ (.inl q)) fun q=>ok.has _ (.inr q)⟩
/-- an iterator over a list, or over a tuple -/
def HIt(b:Bool)(h:Heap)(it l:Addr)(k:Nat):Prop:=match b with
 |true=>h.IsListIter it l k
 |false=>h.IsTupleIter it l k
def HSq(b:Bool)(h:Heap)(l:Addr)(xs:Array Value):Prop:=match b with
 |true=>h.IsList l xs
 |false=>h.IsTuple l xs
def ayn:Bool->String
 |true=>"list_iterator"
 |false=>"tuple_iterator"
section
variable {b:Bool}{h h':Heap}{it l:Addr}{k:Nat}{xs:Array Value}
theorem HIt.at(x:HIt b h it l k)(e:∀o,h.get? it=some o->h'.get? it=some o):HIt b h' it l k:=by
 cases b
 ·exact Heap.IsTupleIter.at x e
 ·exact Heap.IsListIter.at x e
theorem HSq.at(x:HSq b h l xs)(e:∀o,h.get? l=some o->h'.get? l=some o):HSq b h' l xs:=by
 cases b
 ·exact Heap.IsTuple.at x e
 ·exact Heap.IsList.at x e
theorem HIt.obj(x:HIt b h it l k):∃o,h.get? it=some o/\∀v,o.data≠ .cell v:=by
 cases b
 ·obtain⟨o,e,_,d⟩:=x;exact⟨o,e,fun v z=>by rw[d]at z;cases z⟩
 ·obtain⟨o,e,_,d⟩:=x;exact⟨o,e,fun v z=>by rw[d]at z;cases z⟩
theorem HIt.of(e:h.get? it=some {cls:=.type (ayn b),data:=.fields #[.ref l,.int k 0]}):HIt b h it l k:=by
 cases b
 ·exact⟨_,e,rfl,rfl⟩
 ·exact⟨_,e,rfl,rfl⟩
theorem HSq.lt(x:HSq b h l xs):l<h.objs.size:=by
 cases b
 ·obtain⟨o,e,_⟩:=x;exact Heap.lt_size e
 ·obtain⟨o,e,_⟩:=x;exact Heap.lt_size e
end
section
variable {prog:Program}{w:World}{K:Type}[DecidableEq K]{knd:KeyKind prog w K}{A:Around}{E:Value->Shared->Prop}
/-- the entries of a dict, the object itself at hand -/
structure axB(knd:KeyKind prog w K)(o:Obj)(kvs:List (K×Value))(es:Array DictEntry)(ep:Nat):Prop where
 ex:o.ExactDict
 da:o.data=.dict es ep
 ky:KeysOf knd es
 ps:Pairs knd es.toList kvs
theorem axB.size{o:Obj}{kvs:List (K×Value)}{es:Array DictEntry}{ep:Nat}(d:axB knd o kvs es ep):kvs.length=es.size:=by rw[<-d.ps.length];exact bq
end
section
variable {prog:Program}{w:World}{A:Around}{E:Value->Shared->Prop}{s:Shared}
theorem adT{Q:Int->Shared->Prop}(h:Q 0xFCA86420 {s with toks:=s.toks+1}):wpAny (model prog w) A (pyHash .none) Q E s:=by
 have hT:Shared.TypeIs s .none "NoneType":=typeIs_none s
 have hv:[Value.none].any Value.onHeap=false:=rfl
 unfold pyHash
 refine wpAny_bind ?_
 rw[cRoomFor,if_neg (by rw[hv];exact kT)];refine wpAny_pure ?_
 refine wpAny_bind (wpAny_specialOf hT F.slot_NoneType_hash.lookup ?_)
 show wpAny _ _ (if (some (Value.builtin "NoneType.__hash__")==some Value.none)=true then _ else _) Q E s
 rw[if_neg (by rw[beq_builtin_none];exact kT)]
 refine wpAny_bind (wpAny_specialOf hT F.slot_NoneType_hash.lookup ?_)
 show wpAny _ _ (callSpecialIfBoundUnlessNone? .none "__hash__" _>>=_) Q E s
 refine wpAny_bind (wpAny_callSpecialIfBoundUnlessNone?_slot hT F.slot_NoneType_hash
  (wpAny_call_entry F.slot_NoneType_hash hT F.entry_NoneType_hash
   (show wpAny _ _ (do iN (<-mkInt 0xFCA86420)) _ _ s from wpAny_ret_mkInt ?_) (F.args_NoneType_hash_1 _)))
 show wpAny _ _ (if (decide (-(2:Int) ^ 63<=0xFCA86420)&&decide ((0xFCA86420:Int)<2 ^ 63))=true then _ else _) Q E _
 rw[if_pos (by decide)]
 exact wpAny_pure h
theorem alr{d:Addr}{o:Obj}{es:Array DictEntry}{ep:Nat}{key:Value}{hs:Int}{Q:Option Nat->Shared->Prop}(ho:s.heap.get? d=some o)(hd:o.data=.dict es ep)
    (hk:(key=.none\/∃c,key=.bool c)\/∃b,key=.ref b)(hes:∀e∈es,carriedByValue e.key=true)(heq:∀e∈es,∀Q':Bool->Shared->Prop,Q' false s->wpAny (model prog w) A (eqBool e.key key) Q' E s)
    (hq:∀Q':Bool->Shared->Prop,Q' true s->wpAny (model prog w) A (eqIsQuiet 8 key) Q' E s)(h:Q none s):wpAny (model prog w) A (dictFind d key hs) Q E s:=by
  have hst:∀v∈(placesWithHash es.size (fun i=>es[i]?.map (·.hash)) hs).filterMap (fun i=>es[i]?.map (·.key)),carriedByValue v=true:=by
    intro v hv
    obtain⟨i,_,hi⟩:=gO.mp hv
    cases hei:es[i]? with
    |none=>rw[hei]at hi;cases hi
    |some e=>
     rw[hei]at hi
     obtain rfl:e.key=v:=by simpa using hi
     exact hes e (ij hei)
  unfold dictFind
  try with_reducible refine wpAny_holding ?_
  refine wpAny_bind (wpAny_dictEntries ho hd ?_)
  rcases hk with hk|⟨b,rfl⟩
  · rcases hk with rfl|⟨c,rfl⟩
    all_goals
      dsimp only
      rw[if_pos (show((_::(placesWithHash es.size (fun i=>es[i]?.map (·.hash)) hs).filterMap (fun i=>es[i]?.map (·.key))).all carriedByValue)=true by
        rw[cE,cg.mpr hst];rfl)]
      refine wpAny_bind ?_
      refine wpAny_forIn_list _ (fun rest b s'=>s'=s/\b=(none,())) _ ?_ ?_ _ _ ⟨rfl,rfl⟩
      · rintro x rest b s' ⟨rfl,rfl⟩
        cases hx:es[x]? with
        |none=>exact wpAny_pure ⟨rfl,rfl⟩
        |some e=>
         dsimp only
         by_cases hh:(e.hash==hs)=true
         · rw[if_pos hh]
           refine wpAny_bind (wpAny_dictEpoch ho hd (wpAny_bind (heq e (ij hx) _ (wpAny_bind (wpAny_dictEpoch ho hd ?_)))))
           show wpAny _ _ (if (ep !=ep)=true then _ else _) _ E _
           rw[if_neg (by simp)]
           simp only[bI,if_false]
           first
              |exact wpAny_bind (wpAny_rule (wpAny_pure ⟨rfl,rfl⟩))
              |exact wpAny_bind (wpAny_pure (wpAny_bind (wpAny_rule (wpAny_pure ⟨rfl,rfl⟩))))
         · rw[if_neg hh]
           exact wpAny_pure ⟨rfl,rfl⟩
      · rintro b s' ⟨rfl,rfl⟩
        first
          |exact wpAny_pure (wpAny_pure h)
          |exact wpAny_pure (wpAny_pure (wpAny_pure h))
          |exact wpAny_pure h
  · dsimp only
    have hany:¬(es.any fun e=>e.key==Value.ref b&&e.hash !=hs)=true:=by
      rw[<-Array.any_toList,jq]
      rintro ⟨e,hin,hc⟩
      have:=hes e (Array.mem_toList_iff.mp hin)
      simp only[aB,beq_iff_eq]at hc
      rw[hc.1]at this
      cases this
    rw[if_neg (show ¬((Value.ref b::(placesWithHash es.size (fun i=>es[i]?.map (·.hash)) hs).filterMap (fun i=>es[i]?.map (·.key))).all carriedByValue)=true by simp[carriedByValue])]
    rw[if_neg hany]
    have hone:¬(((placesWithHash es.size (fun i=>es[i]?.map (·.hash)) hs).filterMap (fun i=>es[i]?.map (·.key)))==[Value.ref b])=true:=fun z=>by
      have:=hst (.ref b) (by rw[eq_of_beq z];exact af)
      cases this
    rw[if_neg hone]
    have avu:∀Q':Bool->Shared->Prop,Q' false s->wpAny (model prog w) A (tableMayTell (.ref b) ((placesWithHash es.size (fun i=>es[i]?.map (·.hash)) hs).filterMap (fun i=>es[i]?.map (·.key)))) Q' E s:=by
      intro Q' h'
      generalize (placesWithHash es.size (fun i=>es[i]?.map (·.hash)) hs).filterMap (fun i=>es[i]?.map (·.key))=stored at hst
      unfold tableMayTell
      split
      · exact wpAny_pure h'
      · refine wpAny_bind (hq _ ?_)
        simp only[eI,bI,if_false]
        refine wpAny_bind ?_
        refine wpAny_forIn_list _ (fun rest r s'=>s'=s/\r=(none,())/\∀v∈rest,carriedByValue v=true) _ ?_ ?_ _ _ ⟨rfl,rfl,hst⟩
        · rintro x rest r s' ⟨rfl,rfl,hr⟩
          rw[eqIsQuiet_byValue _ (hr x af)]
          refine wpAny_bind (wpAny_pure ?_)
          simp only[eI,bI,if_false]
          exact wpAny_pure ⟨rfl,rfl,fun v hv=>hr v (ag _ hv)⟩
        · rintro r s' ⟨rfl,rfl,_⟩
          exact wpAny_pure h'
    refine wpAny_bind (avu _ ?_)
    rw[if_neg (by simp)]
    refine wpAny_bind ?_
    refine wpAny_forIn_list _ (fun rest b s'=>s'=s/\b=(none,none)) _ ?_ ?_ _ _ ⟨rfl,rfl⟩
    · rintro x rest b s' ⟨rfl,rfl⟩
      cases hx:es[x]? with
      |none=>exact wpAny_pure ⟨rfl,rfl⟩
      |some e=>
       dsimp only
       by_cases hh:(e.hash==hs)=true
       · rw[if_pos hh]
         refine wpAny_bind (wpAny_dictEpoch ho hd (wpAny_bind (heq e (ij hx) _ (wpAny_bind (wpAny_dictEpoch ho hd ?_)))))
         show wpAny _ _ (if (ep !=ep)=true then _ else _) _ E _
         rw[if_neg (by simp)]
         simp only[bI,if_false]
         refine wpAny_bind (wpAny_rule ?_)
         first|rw[if_neg (by simp)]|skip
         first
            |exact wpAny_pure ⟨rfl,rfl⟩
            |exact wpAny_bind (wpAny_pure (wpAny_pure ⟨rfl,rfl⟩))
       · rw[if_neg hh]
         exact wpAny_pure ⟨rfl,rfl⟩
    · rintro b s' ⟨rfl,rfl⟩
      first
        |exact wpAny_pure h
        |exact wpAny_pure (wpAny_pure h)
/-- a key that no dict of ints and texts has -/
def axF(K:ae)(H:Hp)(y:V):Prop:=y=.non\/∃(b:Addr) (ks:List Key),y=.ref b/\SqT K H b (ks.map kV)
end
section
variable {K:ae}{mg:Str->Option Value}{ι:List Addr}{H H':Hp}{S:Sto}{a:Addr}
theorem dB.keys:∀{cs:List (CV×CV)}{vs:List (Key×V)},dB K mg ι H cs vs->aQ K mg ι H' (cs.map (·.1)) (vs.map fun p=>kV p.1)
 |_,_,.nil=>.nil
 |_,_,.cons (k:=c) hk _ rs=>by
  refine .cons ?_ (dB.keys rs)
  cases c with
  |int i=>cases hk;exact .int i
  |str x=>cases hk;exact .str x
  |_=>cases hk
def acW:CV->Bool
 |.non=>true
 |.tup cs=>(cs.mapM ckey).isSome
 |_=>false
theorem ahK:∀{cs:List CV}{vs:List V}{ks:List Key},aQ K mg ι H cs vs->cs.mapM ckey=some ks->vs=ks.map kV
 | [],_,ks,.nil,h=>by
  cases h;rfl
 |c::cs,_,ks,.cons r rs,h=>by
  cases e1:ckey c with
  |none=>rw[bb,e1]at h;cases h
  |some k=>
   cases e2:cs.mapM ckey with
   |none=>rw[bb,e1,e2]at h;cases h
   |some ks'=>
    rw[bb,e1,e2]at h
    cases h
    rw[ax, <-ahK rs e2,Fw e1 r]
theorem ahV{c:CV}{y:V}(h:acW c=true)(r:bx K mg ι H c y):axF K H y:=by
 cases r with
 |non=>exact .inl rfl
 |tup hq rr=>
  cases e:(ip ckey _) with
  |none=>rw[acW,e]at h;cases h
  |some ks=>
   refine .inr ⟨_,ks,rfl,?_⟩
   rw[<-ahK rr e]
   exact hq
 |_=>cases h
end
section
variable {X:Cx}{W:WX}
variable {o i:Expr}{mo mi:Rho->M CV}{pos:Pos}
def Zo(g:List CV->M CV):List CV->M CV:=fun xs S=>match xs with
 | [.ref n,.ty T]=>match S[n]? with
  |some (.odd ks)=>if T∈mH then .ok (.bl (nj "dict" T)) S else .bad
  |_=>g xs S
 |_=>g xs S
theorem afd{g:List CV->M CV}(hg:oH X W (.builtin "isinstance") g):oH X W (.builtin "isinstance") (Zo g):=by
 intro pins s σ H ι S xs vs us Q I rv Rs rx fi
 unfold Zo at fi
 split at fi
 ·rename_i n T
  split at fi
  ·rename_i ks ex
   split at fi
   ·rename_i hT
    obtain⟨v,u,rfl,r,ru⟩:=Pu rx
    cases ru
    cases r with
    |ref hq=>
     obtain⟨ob,es,ep,vs,h1,h2,h3,_⟩:=Rs.obj _ _ _ hq ex
     obtain⟨u1,u2,rfl,r1,r2⟩:=vals2 rv
     obtain rfl:u1=Value.ref _:=r1
     have e2:=(ClsV.ty T).eq r2
     subst e2
     obtain⟨g1,_⟩:=I.hok _ _ h1
     exact kP PySem.W.kitx_dict I.kIn ⟨ob,g1,h2.1⟩ (aeo X.K (by decide) hT) (fun z=>nomatch z) fun tk=>⟨.bl _,H,I.tok tk,rfl,Fin.ret Rs fi (.bl _)⟩
   ·exact fi.elim
  ·exact hg pins s σ H ι S _ _ us Q I rv Rs rx fi
 ·exact hg pins s σ H ι S xs vs us Q I rv Rs rx fi
end
set_option maxHeartbeats 400000
theorem fC{α:Type}{p:α->Prop}{a:α}{l:List α}(h:p a)(r:∀x∈l,p x):∀x∈a::l,p x:=fun x hx=>by
 cases hx with
 |head=>exact h
 |tail _ hx=>exact r x hx
theorem fN{α:Type}{p:α->Prop}:∀x∈([]:List α),p x:=fun _ h=>nomatch h
theorem fsc{N P:List Str}{sc:Scope}(a:sc.kind=.function:=by rfl)(b:sc.isCoroutine=false:=by rfl)(c:sc.isGenerator=false:=by rfl)(d:N.Nodup:=by decide+kernel)(e:N.take P.length=P:=by rfl)
    (f:∀x∈P,sc.names.lookup x=some .local\/sc.names.lookup x=some .cell:=by decide+kernel)(g:∀y∈sc.names,y.2≠ .free:=by decide+kernel):FnScope N P sc:=⟨a,b,c,d,e,f,g⟩
theorem RmG.md{j k:Nat}{A:Around}(hr:RmG k A)(h:j<=k:=by decide):RmG j A:=hr.mono h
section
variable {P:Program}{w:World}{K:ae}{mg:Str->Option Value}{base:Heap}{x qual:Str}{st:Stmt}{f:Addr}{k:Nat}{m:List CV->M CV}{p1 p2 p3 p4 p5:Str}
abbrev FT(P:Program)(w:World)(K:ae)(mg:Str->Option Value)(base:Heap)(x qual:Str)(st:Stmt)(f:Addr)(k:Nat)(ps:List Str)(m:List CV->M CV):Prop:=∀fd,Fun K x qual st f fd->FnD P w K mg base k f fd ps m
theorem cal{ps:List Str}(D:jH K x qual st f)(C:FT P w K mg base x qual st f k ps m)
    (hb:∀(kV doc pm:Value)(an:Option Addr)(cdv ct:Value)(us:List Value),us.length=ps.length->bindArgs (c7 x qual (defArgs st) (defBody st) (defScope st) .none kV doc pm an cdv ct) ⟨us,[]⟩=pure (ps.zip us)):Callee P w K mg base k f ps.length m:=by
  obtain⟨fd,F⟩:=D.ex
  exact⟨⟨fd,ps,rfl,C fd F,F.binds hb⟩,F.kp⟩
theorem ZQ(D:jH K x qual st f)(C:FT P w K mg base x qual st f k [p1] m)
    (hb:∀(kV doc pm:Value)(an:Option Addr)(cdv ct u1:Value),bindArgs (c7 x qual (defArgs st) (defBody st) (defScope st) .none kV doc pm an cdv ct) ⟨[u1],[]⟩=pure [(p1,u1)]:=by intros;rfl):Callee P w K mg base k f 1 m:=
  cal D C fun _ _ _ _ _ _ us hl=>match us,hl with| [_],_=>hb _ _ _ _ _ _ _
theorem akj(D:jH K x qual st f)(C:FT P w K mg base x qual st f k [p1,p2] m)
    (hb:∀(kV doc pm:Value)(an:Option Addr)(cdv ct u1 u2:Value),bindArgs (c7 x qual (defArgs st) (defBody st) (defScope st) .none kV doc pm an cdv ct) ⟨[u1,u2],[]⟩=pure [(p1,u1),(p2,u2)]:=by intros;rfl):Callee P w K mg base k f 2 m:=
  cal D C fun _ _ _ _ _ _ us hl=>match us,hl with| [_,_],_=>hb _ _ _ _ _ _ _ _
theorem axH(D:jH K x qual st f)(C:FT P w K mg base x qual st f k [p1,p2,p3] m)
    (hb:∀(kV doc pm:Value)(an:Option Addr)(cdv ct u1 u2 u3:Value),bindArgs (c7 x qual (defArgs st) (defBody st) (defScope st) .none kV doc pm an cdv ct) ⟨[u1,u2,u3],[]⟩=pure [(p1,u1),(p2,u2),(p3,u3)]:=by intros;rfl):Callee P w K mg base k f 3 m:=
  cal D C fun _ _ _ _ _ _ us hl=>match us,hl with| [_,_,_],_=>hb _ _ _ _ _ _ _ _ _
end
abbrev tkS(K:ae)(a:Addr)(s:String):Prop:=aS K (.ref a) (.type s)=some false
abbrev toF(K:ae)(a b:Addr):Prop:=bX K a (.ref b)=true
abbrev tfN(K:ae)(a:Addr)(s:Str):Prop:=bE K (.ref a) s=some none
abbrev tgA(mg:Str->Option Value)(s:Str)(a:Addr):Prop:=mg s=some (.ref a)
set_option maxHeartbeats 4000000
section
variable {prog:Program}{w:World}{A:Around}{E:Value->Shared->Prop}{s:Shared}
theorem afk{env:Env}{k v:Expr}{pos:Pos}{Q:Value->Shared->Prop}
    (h:wpAny (model prog w) A (eval k env) (fun kv s1=>wpAny (model prog w) A (eval v env) (fun vv s2=>wpAny (model prog w) A (dictSet s.heap.objs.size kv vv) (fun _ s3=>Q (.ref s.heap.objs.size) s3) E s2) E s1) E
      {s with heap:=s.heap.push {cls:=.type "dict",data:=.dict #[]}}):wpAny (model prog w) A (eval (.Dict [some k] [v] pos) env) Q E s:=by
  rw[arm_eval_Dict,zip_pairTrees [some k] [v] env pos rfl rfl,dictDisplay_pairs (pairTrees [some k] [v] env pos) (fun z=>by simp[pairTrees]at z) (by show(1:Nat)<17;decide)]
  refine wpAny_bind (wpAny_standAt (wpAny_bind ?_))
  unfold subDict
  refine wpAny_bind (wpAny_alloc ?_)
  refine wpAny_bind (wpAny_holding ?_)
  rw[if_pos (show(pairTrees [some k] [v] env pos).length<=15 from(by decide:(1:Nat)<=15))]
  refine wpAny_bind (wpAny_mono (pairTrees_cons_walk (Q:=fun vs s1=>∃kv vv,vs=[(kv,vv)]/\wpAny (model prog w) A (dictSet s.heap.objs.size kv vv) (fun _ s3=>Q (.ref s.heap.objs.size) s3) E s1)
    (wpAny_mono h (fun kv s1 h1=>wpAny_mono h1 (fun vv s2 h2=>pairTrees_nil_walk ⟨kv,vv,rfl,h2⟩) fun _ _ e=>e) fun _ _ e=>e)) (fun vs s1 h1=>?_) fun _ _ e=>e)
  obtain⟨kv,vv,rfl,h1⟩:=h1
  refine wpAny_holding ?_
  rw[List.forIn_cons]
  refine wpAny_bind (wpAny_bind (wpAny_bind (wpAny_mono h1 (fun _ s2 h2=>?_) fun _ _ e=>e)))
  refine wpAny_pure ?_
  dsimp only
  rw[List.forIn_nil]
  exact wpAny_pure (wpAny_pure (wpAny_pure (wpAny_pure h2)))
theorem Xc{d:Addr}{o:Obj}{ep:Nat}{key v:Value}{hs:Int}{n:Nat}{Q:Unit->Shared->Prop}(ho:s.heap.get? d=some o)(hc:o.ExactDict)(hd:o.data=.dict #[] ep)
    (hk:(key=.none\/∃c,key=.bool c)\/∃b,key=.ref b)
    (hh:∀(Q':Int->Shared->Prop),Q' hs {s with toks:=s.toks+n}->wpAny (model prog w) A (pyHash key) Q' E s)
    (hq:∀(Q':Bool->Shared->Prop),Q' true {s with toks:=s.toks+n}->wpAny (model prog w) A (eqIsQuiet 8 key) Q' E {s with toks:=s.toks+n})
    (h:∀h' o',h'.get? d=some o'->o'.ExactDict->o'.data=.dict #[⟨hs,key,v⟩] (ep+1)->Heap.SameBut d s.heap h'->Q () {s with heap:=h',toks:=s.toks+n}):
    wpAny (model prog w) A (dictSet d key v) Q E s:=by
  unfold dictSet
  try with_reducible refine wpAny_holding ?_
  refine wpAny_bind (hh _ ?_)
  unfold dictSetHashed
  try with_reducible refine wpAny_holding ?_
  refine wpAny_bind (alr (s:={s with toks:=s.toks+n}) ho hd hk (fun e he=>nomatch he) (fun e he=>nomatch he) hq ?_)
  exact wpAny_bind (wpAny_rule (wpAny_updateDictKeys (hz:=by decide) (s:={s with toks:=s.toks+n}) ho hd (h _ _ (Heap.get?_update_self _ ho (Obj.isFreed_of_dict (Obj.data_mapDictKeys hd _))) (hc.mapDictKeys _) (Obj.data_mapDictKeys hd _) (Heap.SameBut.update ..))))
theorem pyHash_bool{b:Bool}{Q:Int->Shared->Prop}(hu:A.units<cLine)(h:Q (NestedKey.hash w (.num (if b=true then 1 else 0))) {s with toks:=s.toks+1}):wpAny (model prog w) A (pyHash (.bool b)) Q E s:=
 pyHash_key (.num _) (.bool b) A s Q (.bool rfl) (by simpa[NestedKey.depth]using hu) h
end
/-- a key that a display may have alone -/
def auY(K:ae)(H:Hp)(y:V):Prop:=axF K H y\/∃c,y=.bl c
section
variable {X:Cx}{pins:List (Addr×Obj)}{σ:cz}{H:Hp}{s:Shared}{a:Addr}{y v:V}{u r:Value}{A:Around}{E:Value->Shared->Prop}
theorem aix{Q:Unit->Shared->Prop}(hu:A.units+1<cLine)(I:Inv X pins σ H s)(e:H a=some (.dK []))(ho:auY X.K H y)(ry:RelV y u)
    (h:∀s' (o:Obj)(es:Array DictEntry)(ep:Nat),o.ExactDict->o.data=.dict es ep->Vals [y] (es.toList.map (·.key))->(a==sysModules)=false->Inv X pins σ (upd H a (.frz o (.ext fun _=>True))) s'->Q () s'):
    wpAny (model X.prog X.w) A (dictSet a u r) Q E s:=by
  obtain⟨z,hd,vs,rel,dd⟩:=dk_of I.hok e
  cases rel
  obtain⟨o,es,ep,h1,h2,h3,h4,h5,h6⟩:=dd
  have e0:es=#[]:=by
    cases es with
    |mk l=>cases h5;rfl
  subst e0
  have fin:∀(hs:Int)(n:Nat)(h':Heap)(o':Obj),h'.get? a=some o'->o'.ExactDict->o'.data=.dict #[⟨hs,u,r⟩] (ep+1)->Heap.SameBut a s.heap h'->Q () {s with heap:=h',toks:=s.toks+n}:=
    fun hs n h' o' q1 q2 q3 q4=>h _ o' _ _ q2 q3 (.cons ry .nil) hd (d_write I (by rw[e];exact kX) q4 ⟨o',q1⟩ ⟨q1,kX,⟨o',q1⟩,fun _ _ _ _=>kX⟩)
  rcases ho with(rfl|⟨b,ks,rfl,hb⟩)|⟨c,rfl⟩
  · cases (show u=Value.none from ry)
    exact Xc (n:=1) (hs:=0xFCA86420) h1 h2 h3 (.inl (.inl rfl)) (fun Q' q=>adT q) (fun Q' q=>by rw[eqIsQuiet_byValue _ rfl];exact wpAny_pure q) (fin _ _)
  · cases (show u=Value.ref b from ry)
    obtain⟨its,rv,tb,_⟩:=I.tuple hb
    have tk:IsTupleKey (mixKind X.prog X.w) s.heap ks b:=by
      obtain⟨q,h1,h2,n,h3⟩:=tb
      exact⟨q,its.toArray,n,h1,h2,h3,by simpa using items_are rv⟩
    exact Xc (n:=ks.length+1) h1 h2 h3 (.inr ⟨b,rfl⟩) (fun Q' q=>wpAny_pyHash_tuple (by omega) tk q) (fun Q' q=>wpAny_eqIsQuiet_tuple (knd:=mixKind X.prog X.w) (ks:=ks) tk q) (fin _ _)
  · cases (show u=Value.bool c from ry)
    exact Xc (n:=1) h1 h2 h3 (.inl (.inr ⟨c,rfl⟩)) (fun Q' q=>pyHash_bool (by omega) q) (fun Q' q=>by rw[eqIsQuiet_byValue _ rfl];exact wpAny_pure q) (fin _ _)
def ab4:CV->Bool
 |.bl _=>true
 |c=>acW c
variable {k ve tg:Expr}{pos:Pos}{tk tv td:TE}
def axc(K:ae)(tk tv:TE):TE:=fun σ H Q=>∀p,H p=none->tk σ (upd H p (.dK [])) fun x H1=>tv σ H1 fun y H2=>H2 p=some (.dK [])/\auY K H2 x/\
 ∀(ob:Obj)(es:Array DictEntry)(ep:Nat),ob.ExactDict->ob.data=.dict es ep->Vals [x] (es.toList.map (·.key))->(p==sysModules)=false->Q (.ref p) (upd H2 p (.frz ob (.ext fun _=>True)))
theorem aqV(hu:X.A.units+1<cLine)(hk:PE X k tk)(hv:PE X ve tv):PE X (.Dict [some k] [ve] pos) (axc X.K tk tv):=by
 refine⟨fun pins s σ H Q I q=>?_⟩
 have hn:=I.hok.fresh (ba s.heap.objs.size)
 have I1:=I.laid (a:=s.heap.objs.size) (o:=.dK []) (h':=s.heap.push {cls:=.type "dict",data:=.dict #[]}) (t':=s.toks) (fun _ _ q=>Heap.get?_push_of_some _ q) (ba _) (dk_empty s.heap I.big)
 refine afk (thn (hk.run pins _ σ _ _ I1 (q _ hn)) fun u s1 ⟨x,H1,I1,rx,q1⟩=>thn (hv.run pins s1 σ H1 _ I1 q1) fun r s2 ⟨y,H2,I2,ry,e,ho,q2⟩=>?_)
 exact aix hu I2 e ho rx fun s3 ob es ep h1 h2 h3 h4 I3=>⟨.ref _,_,I3,rfl,q2 ob es ep h1 h2 h3 h4⟩
def Ito(d:Addr)(o:Obj)(ks:List V):It:=
 ⟨fun i H=>H d=some (.frz o (.ext fun _=>True))/\i<ks.length,fun i H x H'=>H'=H/\ks[i]?=some x,fun i H=>H d=some (.frz o (.ext fun _=>True))/\ks.length<=i⟩
theorem aeX:∀{ks:List V}{us:List Value}{i:Nat}{x:V},Vals ks us->ks[i]?=some x->∃u,us[i]?=some u/\RelV x u
 |_,_,0,_,.cons h _,e=>by cases e;exact⟨_,rfl,h⟩
 |_,_,i+1,_,.cons _ t,e=>aeX (i:=i) t e
theorem agk{P:Program}{w:World}{K:ae}{d:Addr}{o:Obj}{es:Array DictEntry}{ep:Nat}{ks:List V}(it:Addr)(hod:o.data=.dict es ep)(hv:Vals ks (es.toList.map (·.key))):Turn P w K tg (Ito d o ks) [it] it (fun i h=>h.IsKeyIter it d i ks.length ep) where
 mem:=by simp
 obj:=fun i h st b hb=>by
  have e:b=it:=by simpa using hb
  subst e
  obtain⟨oi,e,c,dd⟩:=st
  exact⟨oi,e,fun v z=>by rw[dd]at z;cases z⟩
 keep:=fun i h h' st k=>st.at fun oi e=>k it (by simp) oi e
 item:=by
  intro X hP hw hK hc i pins s σ H E I hf st hg
  subst hP hw hK
  obtain⟨hd,hi⟩:=hg
  obtain⟨f0,f1,f2,f3,f4,f5⟩:=hf it (by simp)
  obtain⟨hgd,_⟩:=I.hok _ _ hd
  have hsz:es.size=ks.length:=by
   have:=hv.length
   simp only[ar,bq]at this
   omega
  obtain⟨u,hu,ru⟩:=aeX hv (ay hi)
  rw[bu,gf]at hu
  cases hen:es[i]? with
  |none=>rw[hen]at hu;cases hu
  |some en=>
   rw[hen]at hu
   cases hu
   refine next_key_item st hgd hod hsz hen fun h' st' sb=>?_
   have I1:Inv X pins σ H {s with heap:=h'}:=I.turned (t':=s.toks) (fun b ob hb e=>(sb.2 b hb).trans e) f0 f1 f3 f4 f5
   obtain⟨oi,e,c,dd⟩:=id st'
   exact⟨en.key,rfl,go_of (s:={s with heap:=h'}) e c dd (by decide) ⟨_,H,I1,ru,⟨rfl,ay hi⟩,st',fun b hb=>(hf b hb).1⟩⟩
 done:=by
  intro X hP hw hK hc i pins s σ H E I hf st hg
  subst hP hw hK
  obtain⟨hd,hi⟩:=hg
  obtain⟨f0,f1,f2,f3,f4,f5⟩:=hf it (by simp)
  obtain⟨hgd,_⟩:=I.hok _ _ hd
  have hsz:es.size=ks.length:=by
   have:=hv.length
   simp only[ar,bq]at this
   omega
  exact next_key_end (I.ok.hd hc) st hgd hod hsz hi fun h' eb=>⟨rfl,I.turned (t':=s.toks) (fun b ob hb e=>eb b ob hb e) f0 f1 f3 f4 f5⟩
 self:=fun A i s Q E st h=>by
  refine wpAny_pyIter_slot st.typeIs F.slot_dict_keyiterator_iter (wpAny_call_entry F.slot_dict_keyiterator_iter st.typeIs F.entry_dict_keyiterator_iter ?_ (F.args_dict_keyiterator_iter_1 _))
  show wpAny _ _ (iN (.ref it)) _ _ s
  exact wpAny_pure ⟨_,rfl,"dict_keyiterator",_,st.typeIs,F.slot_dict_keyiterator_next.lookup,h⟩
def ayt(td:TE):TI:=fun σ H R=>td σ H fun x H1=>∃d o es ep ks,x=.ref d/\H1 d=some (.frz o (.ext fun _=>True))/\o.ExactDict/\o.data=.dict es ep/\Vals ks (es.toList.map (·.key))/\(d==sysModules)=false/\R (Ito d o ks) H1
theorem aua{e:Expr}(he:PE X e td):PI X tg e (ayt td):=by
 refine⟨fun pins s σ H R I h=>?_⟩
 refine thn (he.run pins s σ H _ I h) fun u s1 ⟨x,H1,I1,rx,d,o,es,ep,ks,ex,hd,hx,hdt,hv,hs,q⟩=>?_
 subst ex
 obtain rfl:u=Value.ref d:=rx
 obtain⟨hgd,_⟩:=I1.hok _ _ hd
 refine iter_keys hs hgd hx hdt (pi_one (tk:=s1.toks) I1 _ (agk _ hdt hv) ⟨_,Heap.get?_push_size _ rfl,rfl,?_⟩ q)
 have hsz:es.size=ks.length:=by
  have:=hv.length
  simp only[ar,bq]at this
  omega
 rw[hsz]<;>rfl
end
def afE(x:CV):M CV:=fun S=>if ab4 x=true then .ok (.ref S.length) (S++[.odd [x]]) else .bad
def acQ(mk mv:Rho->M CV):Rho->M CV:=fun ρ=>bnd (mk ρ) fun x=>bnd (mv ρ) fun _=>afE x
def agc:CV->M Src:=fun x S=>match x with
 |.ref n=>match S[n]? with
  |some (.odd ks)=>.ok ⟨ks,[]⟩ S
  |_=>.bad
 |_=>.bad
def ajO(me:Rho->M CV):Rho->M Src:=fun ρ=>bnd (me ρ) agc
section
variable {X:Cx}{W:WX}{k v e tg:Expr}{mk mv me:Rho->M CV}{pos:Pos}{K:ae}{mg:Str->Option Value}{ι:List Addr}{H:Hp}{S:Sto}{c:CV}{y:V}
theorem aqG(h:ab4 c=true)(r:bx K mg ι H c y):auY K H y:=by
 cases c with
 |bl b=>cases r;exact .inr ⟨b,rfl⟩
 |non=>exact .inl (ahV (c:=.non) h r)
 |tup cs=>exact .inl (ahV (c:=.tup cs) h r)
 |_=>exact Bool.noConfusion (show false=true from h)
theorem abW(hu:X.A.units+1<cLine)(hk:GE X W k mk)(hv:GE X W v mv):GE X W (.Dict [some k] [v] pos) (acQ mk mv):=PE.imp (aqV hu hk hv) fun σ H Q ⟨ι,ρ,S,Rs,rs,fi⟩ p hp=>by
 have n0:Nx X.K X.mg ι H S ι (upd H p (.dK [])):=Rs.side hp
 refine⟨ι,ρ,S,n0.rs,n0.cY Rs rs,?_⟩
 unfold acQ bnd at fi
 cases er:mk ρ S with
 |bad=>rw[er]at fi;exact fi.elim
 |exc c fs S1=>rw[er]at fi;exact ag8.after (S':=S1) (c:=c) (fs:=fs) (B:=fun c d H'=>W c d σ H') n0 fi
 |ok x S1=>
  rw[er]at fi
  intro xv ι1 H1 n1 rx
  have n01:=n0.trans n1
  refine⟨ι1,ρ,S1,n1.rs,n01.cY Rs rs,?_⟩
  have fi:Fin X.K X.mg ι H (bx X.K X.mg) ((mv ρ S1).bnd fun _=>afE x) Q (fun c d H'=>W c d σ H'):=fi
  cases ev:mv ρ S1 with
  |bad=>rw[ev]at fi;exact fi.elim
  |exc c fs S2=>rw[ev]at fi;exact ag8.after (S':=S2) (c:=c) (fs:=fs) (B:=fun c d H'=>W c d σ H') n01 fi
  |ok z S2=>
   rw[ev]at fi
   intro zv ι2 H2 n2 rz
   have fi:Fin X.K X.mg ι H (bx X.K X.mg) (afE x S2) Q (fun c d H'=>W c d σ H'):=fi
   unfold afE at fi
   split at fi
   ·rename_i hx
    obtain⟨e2,late⟩:=Rs.late hp (n1.trans n2)
    have rx2:=n2.rep n1.rs rx
    refine⟨e2,aqG hx rx2,fun ob es ep h1 h2 h3 h4=>?_⟩
    have n3:=late (.frz ob (.ext fun _=>True)) (.odd [x]) fun tk=>⟨ob,es,ep,[xv],upd_same,h1,h2,h3,.cons (rx2.mono tk [p]) .nil,(show(1:Nat)<=sizeLine by decide),h4⟩
    exact fi (.ref p) _ _ n3 (.ref (by rw[aL (by rw[n2.rs.len];exact ba _),n2.rs.len,fv];rfl))
   ·exact fi.elim
theorem aqe{o:Obj}{a:Addr}{ks:List CV}{vs:List V}(h:H a=some (.frz o (.ext fun _=>True)))(r:aQ K mg ι H ks vs):oK K mg ι H ⟨ks,[]⟩ (Ito a o vs):=by
 refine⟨fun ι' S' H' i x R ⟨m,em⟩ tk _ hx=>?_,fun ι' S' H' R em tk _=>⟨tk.lk _ _ _ trivial h,by show vs.length<=ks.length;rw[<-r.length];exact ba _⟩⟩
 subst em
 obtain⟨v,hv,rv⟩:=(r.mono tk.tk m).get hx
 refine⟨⟨tk.lk _ _ _ trivial h,(aa.mp hv).1⟩,fun v' H'' ⟨eh,ev⟩=>?_⟩
 subst eh
 rw[hv]at ev;cases ev
 exact⟨Nx.refl R,rv⟩
theorem ant(he:GE X W e me):GI X W tg e (ajO me):=PI.imp (aua he) fun σ H R h=>by
 obtain⟨ι,ρ,S,Rs,rs,fi⟩:=h
 refine⟨ι,ρ,S,Rs,rs,?_⟩
 have fi:Fin X.K X.mg ι H (oK X.K X.mg) ((me ρ S).bnd agc) R (fun c d H'=>W c d σ H'):=fi
 cases r:me ρ S with
 |bad=>rw[r]at fi;exact fi.elim
 |exc c fs S'=>rw[r]at fi;exact fi
 |ok x S'=>
  rw[r]at fi
  intro v ι' H' n rx
  have fi:Fin X.K X.mg ι H (oK X.K X.mg) (agc x S') R (fun c d H'=>W c d σ H'):=fi
  unfold agc at fi
  split at fi
  ·split at fi
   ·rename_i ks ex
    cases rx with
    |ref hq=>
     obtain⟨o,es,ep,vs,h1,h2,h3,h4,r1,h5,h6⟩:=n.rs.obj _ _ _ hq ex
     exact⟨_,o,es,ep,vs,rfl,h1,h2,h3,h4,h6,fi _ ι' H' n (aqe h1 r1)⟩
   ·exact fi.elim
  ·exact fi.elim
/-- what walks over a name that is a dict, or one with an odd key -/
def zJ(j:Nat)(m1 m2:Rho->M CV):Rho->M CV:=fun ρ S=>match ρ[j]? with
 |some (some (.ref n))=>match S[n]? with
  |some (.odd _)=>m2 ρ S
  |_=>m1 ρ S
 |_=>m1 ρ S
theorem aeh{j:Nat}{m1 m2:Rho->M CV}(h1:GE X W e m1)(h2:GE X W e m2):GE X W e (zJ j m1 m2):=PE.imp (PE.or' h1 h2) fun σ H Q ⟨ι,ρ,S,Rs,rs,fi⟩=>by
 unfold zJ at fi
 split at fi
 ·split at fi
  ·exact .inr ⟨ι,ρ,S,Rs,rs,fi⟩
  ·exact .inl ⟨ι,ρ,S,Rs,rs,fi⟩
 ·exact .inl ⟨ι,ρ,S,Rs,rs,fi⟩
end
section
open PySem.W PySem.Calls Builtin
variable {prog:Program}{w:World}{A:Around}{E:Value->Shared->Prop}{s:Shared}{K:Frag}{y D f:Addr}{oy:Obj}{od:Option Obj}
theorem aiD{Q:Option Value->Shared->Prop}(h:Q none s):wpAny (model prog w) A (tryCompare .none "__eq__" (.ref y)) Q E s:=
 wpAny_tryCompare_declines (show s.TypeIs .none "NoneType" from rfl) F.slot_NoneType_eq_refl (call_gives F.slot_NoneType_eq_refl rfl F.entry_NoneType_eq (F.args_NoneType_eq_2 _ _) (SeqAt.NoneType___eq___none_ref_0 y) ⟨rfl,h⟩)
theorem agi(b:Str)(u:Tok)(l:Addr){C dx:Addr}:
    Meets (Builtin.«str.__eq__» ⟨[.str b u,.ref l],[]⟩) (fun _ R s=>s.heap.get? l=some (instObj C dx)/\R (.ok (.ret .notImplemented)) s):=
  .of_wp fun prog w A R s h=>by
    unfold instObj at h
    obtain⟨hp,g,d,tk,os⟩:=s;obtain⟨hl,h⟩:=h;wp_walk using wpAny_loadPart' hl,wpAny_load hl;exact⟨_,rfl,h⟩
theorem alk{x:Str}{t:Tok}{C dx:Addr}{Q:Option Value->Shared->Prop}(hy:s.heap.get? y=some (instObj C dx))(h:Q none s):wpAny (model prog w) A (tryCompare (.str x t) "__eq__" (.ref y)) Q E s:=
 wpAny_tryCompare_declines (typeIs_str s x t) F.slot_str_eq (call_meets F.slot_str_eq (typeIs_str s x t) F.entry_str_eq (F.args_str_eq_2 _ _) (agi x t y) ⟨hy,rfl,h⟩)
theorem adD(l:Addr){o:Obj}(hc:o.cls=.type "dict"){y D:Addr}(M:Heap->Prop)(hi:∀prog w h,M h->Looks (model prog w) h (isInstance (.ref y) (.type "dict")) false):
    Meets (Builtin.«dict.__eq__» ⟨[.ref l,.ref y],[]⟩) (fun _ R s=>(s.heap.get? l=some o/\M s.heap)/\R (.ok (.ret .notImplemented)) s):=
  .of_wp fun prog w A R s h=>by
    obtain⟨⟨hl,hm⟩,h⟩:=h
    unfold Builtin.«dict.__eq__»
    refine wpAny_bind ?_
    unfold Builtin.Dict.dictSlotArgs
    refine wpAny_bind (wpAny_notOrdered_dict ⟨_,hl,hc⟩ ?_)
    refine wpAny_bind (wpAny_pure (wpAny_pure ?_))
    refine wpAny_bind ((hi _ _ _ hm).here ?_)
    exact wpAny_bind (wpAny_rule (wpAny_pure ⟨_,rfl,h⟩))
theorem aiC{l:Addr}{o:Obj}{Q:Option Value->Shared->Prop}(hl:s.heap.get? l=some o)(hc:o.cls=.type "dict")(X:K.In s.heap)(J:InstAt s.heap y oy D od)(hm:mroIn K D (.type "dict")=some false)(h:Q none s):
    wpAny (model prog w) A (tryCompare (.ref l) "__eq__" (.ref y)) Q E s:=
  wpAny_tryCompare_declines ⟨_,hl,hc⟩ F.slot_dict_eq_refl (call_meets F.slot_dict_eq_refl ⟨_,hl,hc⟩ F.entry_dict_eq (F.args_dict_eq_2 _ _)
    (adD (y:=y) (D:=D) l hc (fun h=>K.In h/\InstAt h y oy D od) (fun prog w h ⟨X,J⟩=>J.type.andThen (looks_mroIn X hm))) ⟨⟨hl,X,J⟩,rfl,h⟩)
theorem apD{a:Value}{T:String}{Q:Value->Shared->Prop}(hT:s.TypeIs a T)(hu:A.units<cLine)(X:K.In s.heap)(J:InstAt s.heap y oy D od)(hm:mroIn K D (.type T)=some false)
    (hd:∀Q:Option Value->Shared->Prop,Q none s->wpAny (model prog w) A (tryCompare a "__eq__" (.ref y)) Q E s)(hs:findIn K (.ref D) "__eq__"=some (some (.ref f)))(hf:isFn K (.ref f)=true)
    (h:wpAny (model prog w) A (call (.ref f) [.ref y,a]) (PySem.W.CmpBack Q) E s):wpAny (model prog w) A (richCompare .Eq a (.ref y)) Q E s:=by
  have two:wpAny (model prog w) A (tryCompare (.ref y) "__eq__" a) (fun r s'=>∃v,r=some v/\Q v s') E s:=by
    unfold tryCompare
    refine wpAny_bind (ifBound_K X J hs hf (wpAny_mono h (fun v s' hv=>?_) fun _ _ e=>e))
    cases v<;>first|exact hv.elim|exact wpAny_pure ⟨_,rfl,hv⟩
  unfold richCompare
  simp only[hT.oneThing_none]
  refine wpAny_holding (wpAny_bind (wpAny_cRoomFor hu ?_))
  refine wpAny_bind (wpAny_typeOf hT (wpAny_bind (J.type.here ?_)))
  rw[if_pos (by simp)]
  refine wpAny_bind ((looks_mroIn X hm).here ?_)
  simp only[bI,if_false]
  refine wpAny_bind (hd _ ?_)
  dsimp only
  simp only[fe,if_true]
  exact wpAny_bind (wpAny_mono two (fun r s' ⟨v,e,hq⟩=>by subst e;exact wpAny_pure hq) fun _ _ z=>z)
end
def bkT:List String:=["NoneType","str","dict"]
/-- y == x, y plain, x of a class with its own == -/
def apx(tbl:List (Str×(List CV->M CV)))(tB:List ((Str×String)×Bool))(x y:CV):M Bool:=fun S=>match ownAt tbl x S,lg S x,kindB S y with
 |some m,some d,some t=>if t∈bkT/\tB.lookup (d,t)=some false then (app 2 m [x,y] S).bnd fun r S'=>match r with
  |.bl b=>.ok b S'
  |_=>.bad
  else .bad
 |_,_,_=>.bad
def Gi(chk:Sto->Bool)(tbl:List (Str×(List CV->M CV)))(tB:List ((Str×String)×Bool))(x:CV):List CV->M Bool
 | []=>fun S=>if chk S=true then .ok false S else .bad
 |y::ys=>fun S=>if chk S=true then (apx tbl tB x y S).bnd fun b S'=>if b=true then .ok true S' else Gi chk tbl tB x ys S' else .bad
def akm(tbl:List (Str×(List CV->M CV)))(tB:List ((Str×String)×Bool))(other:CV->CV->M CV):CV->CV->M CV:=fun x y S=>match y with
 |.ref n=>(match S[n]? with
  |some (.lst ys)=>if acJ S x=true then (Gi (fun S'=>decide (S'[n]?=some (.lst ys))) tbl tB x ys S).bnd fun b S'=>.ok (.bl b) S' else other x y S
  |_=>other x y S)
 |_=>other x y S
section
variable {X:Cx}{W:WX}{k:Nat}{tbl:List (Str×(List CV->M CV))}{tB:List ((Str×String)×Bool)}{pins:List (Addr×Obj)}{σ:cz}{H:Hp}{s:Shared}{ι:List Addr}{S:Sto}{x y:CV}{v u:V}{a b:Value}
theorem aqr{K:ae}{C:Addr}{T:String}(h:aS K (.ref C) (.type T)=some false):g9 K C (.type T)=some false:=by
 unfold aS at h
 rw[if_neg (by simp)]at h
 unfold PySem.W.kitCls at h
 dsimp only at h
 split at h
 ·exact h
 ·cases h
theorem aln(ht:∀p∈tbl,Own X.prog X.w X.K X.mg X.base k p.1 "__eq__" 2 p.2)(hB:∀q∈tB,∃C,IsC X.K X.mg q.1.1 C/\aS X.K (.ref C) (.type q.1.2)=some q.2)(hr:RmG k X.A)(tk:Takes X W)(I:Inv X pins σ H s)(Rs:RS X.K X.mg ι S H)(rv:RelV v a)(ru:RelV u b)(rx:bx X.K X.mg ι H x v)(ry:bx X.K X.mg ι H y u){Q:Bool->Hp->Prop}
    (h:Fin X.K X.mg ι H (fun _ _ a b=>a=b) (apx tbl tB x y S) Q (fun c d H'=>W c d σ H')):wpAny (model X.prog X.w) X.A.in1 (eqBool b a) (fun r s'=>∃H',Inv X pins σ H' s'/\Q r H') X.xe s:=by
  unfold apx at h
  split at h
  · rename_i m d t hm hd hk
    split at h
    · rename_i hh
      obtain⟨hbt,hlk⟩:=hh
      obtain⟨C',hC',ayo⟩:=hB _ (P0 hlk)
      have hx:∃i,x=.ref i:=by
        cases x with
        |ref i=>exact⟨i,rfl⟩
        |_=>cases hm
      obtain⟨i,rfl⟩:=hx
      obtain⟨p,C,f,ox,od,j,c',rfl,rfl,J,hg,hsl,hf,F,hj,hc'⟩:=Ud ht I rv Rs rx hm
      rw[hd]at hc';cases hc'
      have eC:=hC'.gl.symm.trans hg
      cases eC
      have hmro:=aqr ayo
      have hX:=I.kIn
      have hu:X.A.in1.units<cLine:=by have:=hr.rm.units;show X.A.units+1<cLine;omega
      have run:=KH (A':=X.A.in1) (us:=[.ref p,b]) (vs:=[.ref p,u]) F (hr.mono (by omega:j+1<=k)).in1 rfl tk I (.cons rfl (.cons ru .nil)) Rs (.cons rx (.cons ry .nil)) (Fin.bnd (R:=bx X.K X.mg) h)
      have hobj:∃C dx,s.heap.get? p=some (PySem.W.instObj C dx):=by
        unfold lg at hd
        cases rx with
        |ref hq=>
         dsimp only at hd
         split at hd
         · rename_i fs ec
           obtain⟨C2,dx,gs,hm2,e1,_⟩:=Rs.obj _ _ _ hq ec
           obtain⟨mA,O,_⟩:=ins_get I.hok e1
           exact⟨_,_,O.obj⟩
         · cases hd
      obtain⟨C3,dx3,ho3⟩:=hobj
      have fin:∀{T:String},s.TypeIs b T->T=t->b≠ .ref p->(∀Q:Option Value->Shared->Prop,Q none s->wpAny (model X.prog X.w) X.A.in1 (tryCompare b "__eq__" (.ref p)) Q X.xe s)->
          wpAny (model X.prog X.w) X.A.in1 (eqBool b (.ref p)) (fun r s'=>∃H',Inv X pins σ H' s'/\Q r H') X.xe s:=by
        intro T hT eT hne hdec
        subst eT
        unfold eqBool
        refine wpAny_holding ?_
        refine wpAny_ite_split (fun hab=>absurd (eq_of_beq hab) hne) (fun _=>?_)
        split
        · rename_i hz;cases hz
        refine wpAny_bind (m:=richCompare .Eq b (.ref p)) (wpAny_mono (Q:=fun v s'=>∃r,v=.bool r/\∃H',Inv X pins σ H' s'/\Q r H') ?_ (fun v s' hv=>?_) fun _ _ x=>x)
        · refine apD hT hu hX J hmro hdec hsl hf (thn run fun w' s1 ⟨z,H1,I1,rz,ι1,S1,d,n1,rd,f1⟩=>?_)
          cases rd with
          |bl k=>cases rz;exact⟨k,rfl,H1,I1,Fin.ret n1.rs f1 rfl⟩
          |_=>exact f1.elim
        · obtain⟨r,rfl,q⟩:=hv
          exact wpAny_truthy_bool q
      unfold kindB at hk
      cases ry with
      |non=>cases hk;cases ru;exact fin (T:="NoneType") rfl rfl (fun z=>nomatch z) fun Q q=>aiD q
      |str z=>cases hk;obtain⟨t,rfl⟩:=ru;exact fin (typeIs_str s z t) rfl (fun z=>nomatch z) fun Q q=>alk ho3 q
      |bl c=>cases hk;exact absurd hbt (by decide)
      |int c=>cases hk;exact absurd hbt (by decide)
      |tup _ _=>cases hk;exact absurd hbt (by decide)
      | @ref n q hq=>
        dsimp only at hk
        have dct:t="dict"->IsD H q->wpAny (model X.prog X.w) X.A.in1 (eqBool b (.ref p)) (fun r s'=>∃H',Inv X pins σ H' s'/\Q r H') X.xe s:=fun et hD=>by
          cases ru
          obtain⟨⟨o,h1,h2⟩,_,_⟩:=isD_at I hD
          refine fin (T:="dict") ⟨o,h1,h2⟩ et.symm (fun z=>?_) fun Q q=>aiC h1 h2 hX J (by rw[et]at hmro;exact hmro) q
          cases z
          rw[ho3]at h1
          cases h1
          cases h2
        split at hk
        · cases hk;exact absurd hbt (by decide)
        · rename_i kvs ex
          cases hk
          rcases Rs.obj _ _ _ hq ex with⟨ps,h1,_⟩|⟨_,ps,h1,_⟩
          · exact dct rfl (.inl ⟨ps,.inl h1⟩)
          · exact dct rfl (.inr ⟨_,.inl h1⟩)
        · rename_i kvs ex
          cases hk
          obtain⟨o,ps,h1,_⟩:=Rs.obj _ _ _ hq ex
          exact dct rfl (.inl ⟨ps,.inr ⟨o,h1⟩⟩)
        · cases hk
      |_=>cases hk
    · exact h.elim
  · exact h.elim
theorem apq{chk:Sto->Bool}{ys:List CV}{Q:Bool->Hp->Prop}{H':Hp}{ι':List Addr}{S':Sto}{s':Shared}{i:Nat}{c:Value}{z:V}{w:CV}(ht:∀p∈tbl,Own X.prog X.w X.K X.mg X.base k p.1 "__eq__" 2 p.2)(hB:∀q∈tB,∃C,IsC X.K X.mg q.1.1 C/\aS X.K (.ref C) (.type q.1.2)=some q.2)(hr:RmG k X.A)(tk:Takes X W)(Rs:RS X.K X.mg ι S H)(rv:RelV v a)(rx:bx X.K X.mg ι H x v)
    (I':Inv X pins σ H' s')(n1:Nx X.K X.mg ι H S' ι' H')(hw:ys[i]?=some w)(rz:RelV z c)(rw':bx X.K X.mg ι' H' w z)(f:Fin X.K X.mg ι' H' (fun _ _ a b=>a=b) (Gi chk tbl tB x (ys.drop i) S') Q (fun c d H''=>W c d σ H'')):
    wpAny (model X.prog X.w) X.A.in1 (eqBool c a) (fun r s2=>(r=true->∃H2,Inv X pins σ H2 s2/\Q true H2)/\(r=false->auW X W pins σ ι H (fun i=>Gi chk tbl tB x (ys.drop i)) Q (i+1) s2)) X.xe s':=by
  obtain⟨hlt,e⟩:=aa.mp hw
  rw[e9 hlt,e]at f
  unfold Gi at f
  split at f
  · have f2:=Fin.bnd (R:=fun _ _ a b=>a=b) f
    refine wpAny_mono (aln ht hB hr tk I' n1.rs rv rz (n1.rep Rs rx) rw' f2) (fun r s2 ⟨H2,I2,ι2,S2,d,n2,ed,f3⟩=>?_) fun _ _ x=>x
    subst ed
    refine⟨fun er=>?_,fun er=>?_⟩
    · subst er
      rw[if_pos rfl]at f3
      exact⟨H2,I2,Fin.ret n2.rs f3 rfl⟩
    · subst er
      rw[if_neg (by decide)]at f3
      exact⟨H2,ι2,S2,I2,n1.trans n2,f3⟩
  · exact f.elim
theorem aqH{other:CV->CV->M CV}(ht:∀p∈tbl,Own X.prog X.w X.K X.mg X.base k p.1 "__eq__" 2 p.2)(hB:∀q∈tB,∃C,IsC X.K X.mg q.1.1 C/\aS X.K (.ref C) (.type q.1.2)=some q.2)(hr:RmG k X.A)(tk:Takes X W)(ho:OpG X W (compareOp .In) other):OpG X W (compareOp .In) (akm tbl tB other):=by
 intro pins s σ H ι S x y v u a b Q I rv ru Rs rx ry fi
 unfold akm at fi
 split at fi
 ·rename_i n
  split at fi
  ·rename_i ys ey
   split at fi
   ·cases ry with
    | @ref _ p hq=>
     cases ru
     have f2:=Fin.bnd (R:=fun _ _ a b=>a=b) fi
     have h0:auW X W pins σ ι H (fun i=>Gi (fun S'=>decide (S'[n]?=some (.lst ys))) tbl tB x (ys.drop i)) _ 0 s:=⟨H,ι,S,I,Nx.refl Rs,f2⟩
     obtain⟨us1,e1,r1⟩:=Rs.obj _ _ _ hq ey
     obtain⟨z,its,kk,r,ho⟩:=I.hok p _ e1
     show wpAny (model X.prog X.w) X.A (contains (.ref p) a>>=fun r=>pure (Value.bool r)) (EP X pins σ Q) X.xe s
     refine wpAny_bind (wpAny_contains_slot ⟨_,ho,rfl⟩ F.slot_list_contains (GQ.call_here F.slot_list_contains ⟨_,ho,rfl⟩ F.entry_list_contains (F.args_list_contains_2 _ _) ?_))
     have fin:∀{r:Bool}{s2:Shared},(∃H2,Inv X pins σ H2 s2/\∃ι1 S1 d,Nx X.K X.mg ι H S1 ι1 H2/\d=r/\Fin X.K X.mg ι1 H2 (bx X.K X.mg) (.ok (.bl d) S1) Q (fun c d H'=>W c d σ H'))->wpAny (model X.prog X.w) X.A (pure (Value.bool r)) (EP X pins σ Q) X.xe s2:=fun⟨H2,I2,ι1,S1,d,n1,ed,f3⟩=>by
      subst ed
      exact wpAny_pure ⟨.bl _,H2,I2,rfl,Fin.ret n1.rs f3 (.bl _)⟩
     refine MWL.Vt (R:=wants _ X.xe) p a ys.length (auW X W pins σ ι H (fun i=>Gi (fun S'=>decide (S'[n]?=some (.lst ys))) tbl tB x (ys.drop i)) _) (fun s2=>∃H2,Inv X pins σ H2 s2/\∃ι1 S1 d,Nx X.K X.mg ι H S1 ι1 H2/\d=true/\Fin X.K X.mg ι1 H2 (bx X.K X.mg) (.ok (.bl d) S1) Q (fun c d H'=>W c d σ H')) (fun i s' q=>?_) (fun s2 q=>wpAny_truthy_bool (fin q)) (fun s2 q=>?_) h0
     ·obtain⟨H',ι',S',I',n1,f⟩:=q
      dsimp only at f
      have hS:S'[n]?=some (.lst ys):=by
       cases hd:ys.drop i with
       |nil=>rw[hd]at f;unfold Gi at f;split at f<;>first|(rename_i hh;exact of_decide_eq_true hh)|exact f.elim
       |cons _ _=>rw[hd]at f;unfold Gi at f;split at f<;>first|(rename_i hh;exact of_decide_eq_true hh)|exact f.elim
      have hq':ι'[n]?=some p:=by
       obtain⟨mm,e,_⟩:=n1.ext
       rw[e,az (aa.mp hq).1];exact hq
      obtain⟨us2,e2,r2⟩:=n1.rs.obj _ _ _ hq' hS
      obtain⟨z2,its2,k2,v2,ho2⟩:=I'.hok p _ e2
      refine⟨its2.toArray,k2,ho2,by rw[dj, <-v2.length, <-r2.length],fun h1=>?_⟩
      have h1':i<us2.length:=by rw[v2.length];simpa using h1
      obtain⟨w,z,hw,hz',rz⟩:=aq7 r2 h1'
      exact apq ht hB hr tk Rs rv rx I' n1 hw (arK v2 hz' h1) rz f
     ·obtain⟨H',ι',S',I',n1,f⟩:=q
      dsimp only at f
      rw[List.drop_length]at f
      unfold Gi at f
      split at f
      ·exact wpAny_truthy_bool (fin ⟨H',I',Fin.ret n1.rs f rfl⟩)
      ·exact f.elim
   ·exact ho pins s σ H ι S x _ v u a b Q I rv ru Rs rx ry fi
  ·exact ho pins s σ H ι S x _ v u a b Q I rv ru Rs rx ry fi
 ·exact ho pins s σ H ι S x y v u a b Q I rv ru Rs rx ry fi
end
end MW
namespace L52
open PySem PySem.Spec PyProof.Rows L2 MW
noncomputable section
def vK:List Str:=["Hang"]
def vL:List ((Str×Str)×Bool):=[(("Hang","Hang"),true)]
def nZ:List ((Str×String)×Bool):=[(("Hang","str"),false),(("Hang","int"),false),(("Hang","bool"),false),(("Hang","tuple"),false),(("Hang","list"),false),(("Hang","dict"),false),(("Hang","NoneType"),false)]
def Hi:List (Str×Bool):=[("BadHang",false),("BadCount",true),("Hang",false)]
def Km:List (Str×Bool):=[("BadHang",true),("BadCount",false),("Hang",false)]
def avx:List (Str×List (Str×Bool)):=[("BadCount",Hi),("BadHang",Km)]
def vN:List ((Str×Str)×Bool):=aon avx
def vM:List ((Str×String)×Bool):=[(("BadCount","int"),false),(("BadCount","str"),false),(("BadCount","bool"),false),(("BadCount","dict"),false),(("BadHang","int"),false),(("BadHang","str"),false),(("BadHang","bool"),false),(("BadHang","dict"),false)]
def Nh:Rho->M CF:=(jF (uO nJ (mFn (Aa vN vM (Hh vK vL nZ)) (au (aK 0) (au (mC (.ty "int")) aN))) (acP nJ (mFn (Aa vN vM (Hh vK vL nZ)) (au (aK 0) (au (mC (.ty "bool")) aN))))))
def uR:List CV->M CV:=nR 1 Nh
def Dj:Rho->M CF:=(jF (uO nJ (mAp 1 uR (au (aK 0) aN)) (O9 leC leC (aK 1) (aK 0) (aK 2))))
def oO:List CV->M CV:=nR 3 Dj
def Rk:Rho->M CF:=(jF (uO nJ (mFn (Aa vN vM (Hh vK vL nZ)) (au (aK 0) (au (mC (.ty "str")) aN))) (uO nJ (O9 leC leC (mC (.int 1)) (mFn DQ (au (aK 0) aN)) (mC (.int 8))) (mFn ae9 (au (mLc (Yx (aK 0)) (cN 1) wV (mOp (inC false) (aK 1) (mC (.str "abcdefghijklmnopqrstuvwxyz"))) [1]) aN)))))
def Bm:List CV->M CV:=nR 2 Rk
def Ri:Rho->M CF:=(jF (uO nJ (mFn (Aa vN vM (Hh vK vL nZ)) (au (aK 0) (au (mC (.ty "str")) aN))) (uO nJ (mOp eqC (mFn DQ (au (aK 0) aN)) (mC (.int 2))) (uO nJ (mOp (inC false) (mOp ixC (aK 0) (mC (.int 0))) (mC (.str "abcdefghijklmnopqrstuvwxyz"))) (mOp (inC false) (mOp ixC (aK 0) (mC (.int 1))) (mC (.str "012")))))))
def xM:List CV->M CV:=nR 1 Ri
def HS:Rho->M CF:=(cJ (sIf (mOr (RW (eO (O9 leC leC (mC (.int 1)) (mFn DQ (au (aK 0) aN)) (mFn DQ (au (mFn (Jm []) (au (aK 1) aN)) aN))))) (RW (Iv nJ (mFn ae9 (au (mLc (Yx (aK 0)) (cN 3) wV (mOp (inC false) (aK 3) (mC (.str "0123456789"))) [3]) aN))))) (jF (mC .non)) gY) (cJ (sIf (afC (eO (mOp gtC (mFn DQ (au (aK 0) aN)) (mC (.int 1)))) (eO (mOp eqC (mOp ixC (aK 0) (mC (.int 0))) (mC (.str "0"))))) (jF (mC .non)) gY) (cJ (d9 (mFn Hg (au (aK 0) aN)) (gN 2)) (jF (mIf (eO (mOp leC (aK 2) (aK 1))) (aK 2) (mC .non))))))
def qX:List CV->M CV:=nR 4 HS
def Dk:Rho->M CF:=(cJ (d9 (mIf (Iv nJ (mFn (Aa vN vM (Hh vK vL nZ)) (au (aK 0) (au (mC (.ty "str")) aN)))) (mBM "str" zP (aK 0) (au (mC (.str " ")) aN)) (vC aN)) (gN 1)) (cJ (sIf (eO (mOp eqC (mSl (aK 1) vW (Nu (mC (.int 1)))) (vC (au (mC (.str "stop")) aN)))) (cJ (d9 (anI nJ (mOp eqC (mFn DQ (au (aK 1) aN)) (mC (.int 2))) (uO nJ (mOp eqC (mFn DQ (au (aK 1) aN)) (mC (.int 3))) (mOp Kl (mAp 2 qX (au (mOp ixC (aK 1) (mC (.int 2))) (au (mC (.int 11)) aN))) (mC .non)))) (gN 2)) (jF (uO nJ (aK 2) (mAp 1 Bm (au (mOp ixC (aK 1) (mC (.int 1))) aN))))) gY) (cJ (sIf (eO (mOp eqC (mSl (aK 1) vW (Nu (mC (.int 1)))) (vC (au (mC (.str "out")) aN)))) (jF (uO nJ (mOp eqC (mFn DQ (au (aK 1) aN)) (mC (.int 2))) (mOp Kl (mAp 2 qX (au (mOp ixC (aK 1) (mC (.int 1))) (au (mC (.int 11)) aN))) (mC .non)))) gY) (jF (mOp (inC false) (aK 0) (mC (.tup (kS CV.str ["lost","ever","open"]))))))))
def oR:List CV->M CV:=nR 3 Dk
def Rj:Rho->M CF:=(jF (mOp eqC (mSl (aK 0) vW (Nu (mC (.int 5)))) (mC (.str "stop "))))
def vg:List CV->M CV:=nR 1 Rj
def abR:Rho->M CF:=(jF (mBM "str" wj (mC (.str " ")) (au (mSl (mBM "str" zP (aK 0) (au (mC (.str " ")) aN)) vW (Nu (mC (.int 2)))) aN)))
def Ks:List CV->M CV:=nR 1 abR
def Rm:Rho->M CF:=(jF (mBM "str" wj (mC (.str "")) (au (mSl (mBM "str" zP (aK 0) (au (mC (.str " ")) aN)) (Nu (mC (.int 2))) vW) aN)))
def vh:List CV->M CV:=nR 1 Rm
def Ih:Rho->M CF:=(cJ (sIf (eO (mOp gtC (mFn Hg (au (aK 3) aN)) (aK 2))) (jF (mC (.bl false))) gY) (sIf (eO (mOp eqC (mFn Hg (au (aK 3) aN)) (aK 2))) (afV (fun i j=>i+j) 2 (mC (.int 1))) gY))
def rP:Rho->M CF:=(cJ (d9 (mLc (Yx (aK 0)) (cN 4) (Iv nJ (mAp 1 vg (au (aK 4) aN))) (mAp 1 vh (au (aK 4) aN)) [4]) (gN 1)) (cJ (sIf (eO (mOp (inC false) (mC (.str "")) (aK 1))) (jF (mFn ae9 (au (mLc (Yx (aK 1)) (cN 3) wV (mOp eqC (aK 3) (mC (.str ""))) [3]) aN))) gY) (cJ (d9 (mC (.int 0)) (gN 2)) (cJ (aeM (Yx (aK 1)) (gN 3) Ih) (jF (mC (.bl true)))))))
def iD:List CV->M CV:=nR 5 rP
def Np:List Str:=["Hang"]
def HY:List Str:=["Hang"]
def xq:List Str:=["Hang"]
def HW:List Str:=["Hang"]
def HX:List Str:=["Hang"]
def Nm:List Str:=["Hang"]
def vH:Rho->M CF:=(cJ (sIf (RW (Iv nJ (mAp 1 xM (au (aK 1) aN)))) (BW "BadHang" ["part"] (au (mC (.str "port")) aN)) gY) (cJ (sIf (mOr (RW (Iv nJ (mFn (Zo (Aa vN vM (Hh vK vL nZ))) (au (aK 2) (au (mC (.ty "dict")) aN))))) (RW (Iv nJ (mFn ae9 (au (zJ 2 (uP (aK 2) (mLc (qQ wkK (aK 2)) (cN 5) wV (mAp 3 oO (au (aK 5) (au (mC (.int 0)) (au (mC (.int 11)) aN)))) [5])) (mLc (ajO (aK 2)) (cN 5) wV (mAp 3 oO (au (aK 5) (au (mC (.int 0)) (au (mC (.int 11)) aN)))) [5])) aN))))) (BW "BadHang" ["part"] (au (mC (.str "spots")) aN)) gY) (cJ (d9 (mDc (Yx (mFn Q9 (au (zJ 2 (uP (aK 2) (mLc (qQ wkK (aK 2)) (cN 5) wV (mFn Hg (au (aK 5) aN)) [5])) (mLc (ajO (aK 2)) (cN 5) wV (mFn Hg (au (aK 5) aN)) [5])) aN))) (cN 5) wV (aK 5) (mOp (Bj ixC) (aK 2) (aK 5)) [5]) (gN 3)) (cJ (sIf (RW (Iv nJ (mFn ae9 (au (uP (aK 3) (mLc (qQ wkK (aK 3)) (cN 5) wV (mAp 1 oR (au (mOp (Bj ixC) (aK 3) (aK 5)) aN)) [5])) aN)))) (BW "BadHang" ["part"] (au (mC (.str "outcome")) aN)) gY) (cJ (sIf (RW (Iv nJ (mAp 1 iD (au (uP (aK 3) (mLc (qQ wkK (aK 3)) (cN 5) wV (mOp (Bj ixC) (aK 3) (aK 5)) [5])) aN)))) (BW "BadHang" ["part"] (au (mC (.str "marks")) aN)) gY) (cJ (d9 (mBM "str" wj (mC (.str ", ")) (au (uP (aK 3) (mLc (qQ wkK (aK 3)) (cN 5) wV (Kr [(mUn aee (aK 5)),(mC (.str " ")),(mUn aee (mOp (Bj ixC) (aK 3) (aK 5)))]) [5])) aN)) (gN 4)) (cJ (Qi "port" Np (aK 0) (aK 1)) (cJ (Qi "spots" HY (aK 0) (mFn Cg (au (uP (aK 3) (mLc (qQ wkK (aK 3)) (cN 5) wV (aK 5) [5])) aN))) (cJ (Qi "outcomes" xq (aK 0) (aK 3)) (cJ (Qi "bares" HW (aK 0) (uP (aK 3) (mDc (qQ wkK (aK 3)) (cN 5) wV (aK 5) (mAp 1 Ks (au (mOp (Bj ixC) (aK 3) (aK 5)) aN)) [5]))) (cJ (Qi "marks" HX (aK 0) (uP (aK 3) (mDc (qQ wkK (aK 3)) (cN 5) (Iv nJ (mAp 1 vg (au (mOp (Bj ixC) (aK 3) (aK 5)) aN))) (aK 5) (mAp 1 vh (au (mOp (Bj ixC) (aK 3) (aK 5)) aN)) [5]))) (Qi "line" Nm (aK 0) (mIf (eO (mOp neC (aK 4) (mC (.str "")))) (Kr [(mUn aee (aK 1)),(mC (.str ": ")),(mUn aee (aK 4))]) (Kr [(mUn aee (aK 1)),(mC (.str ": -"))]))))))))))))))
def aV:List CV->M CV:=nR 6 vH
def xW:List (Str×AK):=[("Hang",.fld)]
def fM:List (Str×AK):=[("Hang",.fld)]
def zB:Rho->M CF:=(jF (uO nJ (mFn (Aa vN vM (Hh vK vL nZ)) (au (aK 1) (au (mC (.cls "Hang")) aN))) (uO nJ (mOp eqC (mUn (uo "port" xW) (aK 0)) (mUn (uo "port" xW) (aK 1))) (mOp (V6 false eqC) (mUn (uo "outcomes" fM) (aK 0)) (mUn (uo "outcomes" fM) (aK 1))))))
def gJ:List CV->M CV:=nR 2 zB
def M9:List (Str×AK):=[("Hang",.fld)]
def xg:Rho->M CF:=(jF (mUn aee (mUn (uo "line" M9) (aK 0))))
def fP:List CV->M CV:=nR 1 xg
def zE:Rho->M CF:=(jF (mMk "Hang" 3 aV (au (aK 0) (au (mDc (Yx (aK 1)) (cN 2) wV (aK 2) (mC (.str "open")) [2]) aN))))
def nD:List CV->M CV:=nR 3 zE
def bH:List (Str×(List CV->M CV)):=[("Hang",gJ)]
def aP:List (Str×Str):=[("Hang","Hang")]
def aR:List Str:=["Hang"]
def Hw:Rho->M CF:=(jF (mFn Cg (au (uP (mUn (uo "outcomes" fM) (aK 0)) (mLc (qQ wkK (mUn (uo "outcomes" fM) (aK 0))) (cN 1) (eO (mOp (cP bH aP aR (fun b=>!b) neC) (mOp (Bj ixC) (mUn (uo "outcomes" fM) (aK 0)) (aK 1)) (mC (.str "open")))) (aK 1) [1])) aN)))
def vD:List CV->M CV:=nR 2 Hw
def qw:Rho->M CF:=(cJ (sIf (mOr (RW (Iv nJ (mAp 1 uR (au (aK 1) aN)))) (eO (mOp (afy true (inC true)) (aK 1) (mUn (uo "outcomes" fM) (aK 0))))) (BW "BadCount" ["value"] (au (aK 1) aN)) gY) (jF (mOp (Bj ixC) (mUn (uo "outcomes" fM) (aK 0)) (aK 1))))
def cW:List CV->M CV:=nR 2 qw
def qN:List (Str×AK):=[("Hang",.prop vD)]
def w6:Rho->M CF:=(jF (mFn DQ (au (mUn (uo "told" qN) (aK 0)) aN)))
def fO:List CV->M CV:=nR 1 w6
def Nf:Rho->M CF:=(jF (vC (au (mFn PN (au (mSl (aK 0) vW (Nu (mC (.int 63)))) aN)) (au (mC (.int 0)) (au (mC (.int 0)) aN)))))
def uQ:List CV->M CV:=nR 1 Nf
def Hz:Rho->M CF:=(cJ (sIf (eO (mOp gtC (mOp ixC (aK 0) (mC (.int 2))) (mC (.int 0)))) (cJ (d9 (mOp afF (mFn Hg (au (mOp ixC (aK 0) (mC (.int 2))) aN)) (aK 1)) (gN 2)) (cJ (d9 (mOp afl (mFn Hg (au (mOp ixC (aK 0) (mC (.int 2))) aN)) (aK 1)) (gIx (aK 0) (mC (.int 2)))) (jF (aK 2)))) gY) (cJ (d9 (mOp ixC (aK 0) (mC (.int 1))) (gN 3)) (cJ (d9 (mOp sV (aK 3) (mC (.int 1))) (gIx (aK 0) (mC (.int 1)))) (cJ (d9 (mOp sV (mOp mulC (mC (.int 82924)) (aK 3)) (mC (.int 1076))) (gN 4)) (cJ (sIf (eO (mOp (cP bH aP aR (fun b=>!b) neC) (mOp ixC (aK 0) (mC (.int 0))) (vC aN))) (d9 (mOp ixC (mOp ixC (aK 0) (mC (.int 0))) (mOp afF (mFn Hg (au (aK 3) aN)) (mFn DQ (au (mOp ixC (aK 0) (mC (.int 0))) aN)))) (gN 4)) gY) (cJ (sIf (afC (eO (mOp ltC (aK 3) (mFn DQ (au (mOp ixC (aK 0) (mC (.int 0))) aN)))) (eO (mOp geC (mFn apl (au (aK 4) aN)) (mOp powC (mC (.int 10)) (mC (.int 18)))))) (cJ (d9 (mOp sV (mOp mulC (mC (.int 2)) (mOp avd (mFn apl (au (aK 4) aN)) (mOp powC (mC (.int 10)) (mC (.int 18))))) (mFn Hg (au (mOp ltC (aK 4) (mC (.int 0))) aN))) (gN 5)) (cJ (d9 (mOp afl (mFn Hg (au (aK 5) aN)) (aK 1)) (gIx (aK 0) (mC (.int 2)))) (jF (mOp afF (mFn Hg (au (aK 5) aN)) (aK 1))))) gY) (cJ (d9 (mOp afF (mFn Hg (au (mOp powC (mOp sV (mOp sV (mOp afF (mFn Hg (au (aK 4) aN)) (mC (.int 2147483353))) (mOp mulC (mC (.int 69068)) (aK 3))) (mC (.int 2584))) (mC (.int 5))) aN)) (mC (.int 2147483497))) (gN 6)) (cJ (d9 (mOp afF (mFn Hg (au (mOp powC (mOp sV (mOp sV (mOp mulC (aK 6) (mOp sV (mOp mulC (mC (.int 2)) (aK 3)) (mC (.int 405)))) (mOp mulC (mOp mulC (mC (.int 59132)) (aK 3)) (aK 3))) (mC (.int 21152))) (mC (.int 3))) aN)) (mC (.int 2147483647))) (gN 6)) (jF (mOp afF (mFn Hg (au (mOp afl (aK 6) (mC (.int 16))) aN)) (aK 1)))))))))))
def g8:List CV->M CV:=nR 7 Hz
def HF:Rho->M CF:=(jF (mOp ixC (aK 1) (mAp 2 g8 (au (aK 0) (au (mFn DQ (au (aK 1) aN)) aN)))))
def fD:List CV->M CV:=nR 2 HF
def jd:List (Str×(List CV->M CV)):=[("Hang",fP)]
def XH:Rho->M CF:=(cJ (d9 (mAp 2 fD (au (aK 0) (au (vC (au (mC (.str "out 0")) (au (mC (.str "out 11")) (au (mC (.str "stop a")) (au (mC (.str "stop a")) (au (mC (.str "stop ever")) (au (mC (.str "lost")) (au (mC (.str "ever")) (au (mC (.str "open")) (au (mC (.str "open")) aN)))))))))) aN))) (gN 5)) (cJ (sIf (afC (Iv nJ (aK 1)) (eO (mOp (cP bH aP aR id eqC) (mSl (aK 5) vW (Nu (mC (.int 4)))) (mC (.str "stop"))))) (cJ (d9 (mAp 2 g8 (au (aK 0) (au (mOp sV (aK 3) (mC (.int 1))) aN))) (gN 6)) (cJ (d9 (mFn asv (au (aK 3) (au (mFn Hg (au (mOp sV (aK 6) (mC (.int 1))) aN)) aN))) (gN 3)) (d9 (mOp sV (mOp sV (aK 5) (mC (.str " "))) (mFn (Jm jd) (au (aK 6) aN))) (gN 5)))) gY) (d9 (aK 5) (wU (aK 2) (aK 4)))))
def HJ:Rho->M CF:=(cJ (aar 2 3 (au zH (au (mC (.int 0)) aN))) (cJ (aeM (Yx (mUn Jj (mLc (Av (au (mAp 2 g8 (au (aK 0) (au (mC (.int 6)) aN))) aN)) (cN 7) wV (mAp 2 g8 (au (aK 0) (au (mC (.int 12)) aN))) [7]))) (gN 4) XH) (jF (pD (au (mAp 2 fD (au (aK 0) (au (vC (au (mC (.str "a0")) (au (mC (.str "a1")) (au (mC (.str "x2")) aN)))) aN))) (au (aK 2) aN))))))
def qW:List CV->M CV:=nR 8 HJ
def Dm:List (Str×Bool):=[("BadCount",true),("BadHang",true)]
def Dz:List (Str×AK):=[]
def Nb:List Str:=["BadHang"]
def yI:List (Str×AK):=[]
def Hv:List Str:=["BadCount"]
def sW(k:CV)(th:M CV):Rho->M CF:=(cJ (d9 (pD (au (mC .non) (au (mC .non) aN))) (gT [1,2])) (cJ (vZ Dm 3 1 (d9 (ahN 0 k th) (gN 2))) (cJ (sIf (eO (mOp ap7 (aK 1) (mC .non))) (jF (vC (au (aK 2) aN))) gY) (cJ (sIf (Iv nJ (mFn (Aa vN vM (Hh vK vL nZ)) (au (aK 1) (au (mC (.cls "BadHang")) aN)))) (jF (pD (au (mC (.str "hang")) (au (mUn (abQ "part" Nb (uo "part" Dz)) (aK 1)) aN)))) gY) (jF (mIf (Iv nJ (mFn (Aa vN vM (Hh vK vL nZ)) (au (aK 1) (au (mC (.cls "BadCount")) aN)))) (pD (au (mC (.str "count")) (au (mUn (abQ "value" Hv (uo "value" yI)) (aK 1)) aN))) (pD (au (mC (.str "odd")) (au (mC .non) aN)))))))))
def d7(th:M CV):M CV:=nR 4 (sW .non th) [.non]
theorem gU:∀k th S,nR 4 (sW k th) [k] S=d7 th S:=amd (n:=3) fun th=>by
 unfold sW
 repeat' first|exact avv|exact ap6|exact apY|exact apU|exact alF|exact alH|exact alI|apply ap1|apply ap2|apply alJ|apply alE|apply alC|apply aiP|apply ap0|apply ap4|apply aiQ|apply atp|apply atr|apply atn|apply alD|apply ap5|apply apW|apply alK|apply ap3|apply apV|apply atq|apply ind_not|apply ato|apply alB|apply apZ|apply alG|apply atm|apply atl
def Rx:List (Str×(List CV->M CV)):=[("Hang",fO)]
def mK:List (Str×AK):=[("Hang",.fld)]
def fJ:List (Str×(List CV->M CV)):=[("Hang",cW)]
def U8:Rho->M CF:=(d9 (mOp (Bj ixC) (aK 2) (aK 4)) (wU (aK 3) (aK 4)))
def Di:Rho->M CF:=(cJ (d9 zH (gN 3)) (cJ (aeM (Yx (mUn akv (mFn (Gv PN) (au (aK 2) aN)))) (gN 4) U8) (cJ (d9 (pD (au (mMk "Hang" 3 aV (au (aK 1) (au (aK 3) aN))) (au (uP (aK 2) (mLc (qQ wkK (aK 2)) (cN 4) (eO (mOp (cP bH aP aR (fun b=>!b) neC) (mOp (Bj ixC) (aK 2) (aK 4)) (mC (.str "open")))) (aK 4) [4])) aN))) (gT [5,6])) (cJ (d9 (mC (.str "nothing")) (wU (aK 3) (mC (.int 3)))) (cJ (sIf (eO (mOp (cP bH aP aR (fun b=>!b) neC) (mFn WT (au (vC (au (mUn (uo "port" xW) (aK 5)) (au (mUn (uo "spots" mK) (aK 5)) (au (mUn (uo "told" qN) (aK 5)) (au (mFn (aqt Rx DQ) (au (aK 5) aN)) aN))))) aN)) (mFn WT (au (vC (au (aK 1) (au (mFn (yt Cg) (au (aK 2) aN)) (au (mFn Cg (au (aK 6) aN)) (au (mFn DQ (au (aK 6) aN)) aN))))) aN)))) (jF (mC (.bl false))) gY) (cJ (sIf (eO (mOp (cP bH aP aR (fun b=>!b) neC) (uP (aK 2) (mLc (qQ wkK (aK 2)) (cN 4) wV (mOp (Nq fJ ixC) (aK 5) (aK 4)) [4])) (uP (aK 2) (mLc (qQ wkK (aK 2)) (cN 4) wV (mOp (Bj ixC) (aK 2) (aK 4)) [4])))) (jF (mC (.bl false))) gY) (cJ (d9 (mBM "str" wj (mC (.str ", ")) (au (uP (aK 2) (mLc (qQ wkK (aK 2)) (cN 4) wV (mOp sV (mOp sV (mFn (Jm jd) (au (aK 4) aN)) (mC (.str " "))) (mOp (Bj ixC) (aK 2) (aK 4))) [4])) aN)) (gN 7)) (cJ (sIf (eO (mOp (cP bH aP aR (fun b=>!b) neC) (mFn (Jm jd) (au (aK 5) aN)) (mOp sV (mOp sV (aK 1) (mC (.str ": "))) (mIf (eO (mOp (cP bH aP aR (fun b=>!b) neC) (aK 7) (mC (.str "")))) (aK 7) (mC (.str "-")))))) (jF (mC (.bl false))) gY) (cJ (d9 (mAp 2 fD (au (aK 0) (au (mOp sV (vC (au (mUn negC (mC (.int 1))) (au (mC (.int 12)) (au (mC .non) (au (mC (.bl true)) (au (mC (.str "0")) (au (pD (au (mC (.int 0)) aN)) (au (vC aN) (au zH aN))))))))) (mLc (Av (au (mC (.int 12)) aN)) (cN 4) (eO (mOp (afy true (inC true)) (aK 4) (aK 2))) (aK 4) [4])) aN))) (gN 8)) (jF (mOp (cP bH aP aR id eqC) (mFn WT (au (Ar 0 "_law_right" d7 (mOp (Nq fJ ixC) (aK 5) (aK 8))) aN)) (mFn WT (au (pD (au (mC (.str "count")) (au (aK 8) aN))) aN)))))))))))))
def oM:List CV->M CV:=nR 9 Di
def Gf:Rho->M CF:=(cJ (aar 5 6 (au (mFn tY (au (aK 1) aN)) (au (mFn tY (au (aK 1) aN)) aN))) (cJ (d9 (mIf (eO (mOp (cP bH aP aR (fun b=>!b) neC) (mOp (Bj ixC) (aK 1) (aK 4)) (mC (.str "out 5")))) (mC (.str "out 5")) (mC (.str "out 6"))) (wU (aK 5) (aK 4))) (cJ (Ny (mBM "dict" ac6 (aK 6) (au (aK 4) aN))) (sIf (afC (RW (Iv nJ (aK 3))) (mOr (eO (mOp (cP bH aP aR id eqC) (aK 2) (mMk "Hang" 3 aV (au (aK 0) (au (aK 5) aN))))) (eO (mOp (cP bH aP aR id eqC) (aK 2) (mMk "Hang" 3 aV (au (aK 0) (au (aK 6) aN))))))) (jF (mC (.bl false))) gY))))
def qC:Rho->M CF:=(cJ (d9 (mMk "Hang" 3 aV (au (aK 0) (au (aK 1) aN))) (gN 2)) (cJ (sIf (mOr (eO (mOp (cP bH aP aR (fun b=>!b) neC) (aK 2) (au4 "Hang" 3 2 [0,2,1] aV (au (mFn tY (au (aK 1) aN)) (au (aK 0) aN))))) (eO (mOp (cP bH aP aR id eqC) (aK 2) (mMk "Hang" 3 aV (au (mC (.str "b0")) (au (aK 1) aN)))))) (jF (mC (.bl false))) gY) (cJ (sIf (eO (mOp (akm bH nZ (inC false)) (aK 2) (vC (au (mC .non) (au (aK 0) (au (aK 1) (au (mFn (Jm jd) (au (aK 2) aN)) aN))))))) (jF (mC (.bl false))) gY) (cJ (d9 (mOp (cP bH aP aR (fun b=>!b) neC) (uP (aK 1) (mLc (qQ wkV (aK 1)) (cN 9) (eO (mOp (cP bH aP aR id eqC) (mFn DQ (au (mBM "str" zP (aK 9) (au (mC (.str " ")) aN)) aN)) (mC (.int 3)))) (mC (.int 1)) [9])) (vC aN)) (gN 3)) (cJ (ac7 (aK 1) (aeM (qQ wkK (aK 1)) (gN 4) Gf)) (cJ (d9 (pD (au (aqw "Hang" (abO 2 0 2 [0,1] nD []) (mC (.cls "Hang")) (au (aK 0) (au (mFn (yt Cg) (au (aK 1) aN)) aN))) (au (mFn (Gv PN) (au (aK 1) aN)) aN))) (gT [7,8])) (cJ (sIf (eO (mOp (cP bH aP aR (fun b=>!b) neC) (mLc (Yx (aK 8)) (cN 4) wV (mOp (Nq fJ ixC) (aK 7) (aK 4)) [4]) (mOp mulC (vC (au (mC (.str "open")) aN)) (mFn DQ (au (aK 8) aN))))) (jF (mC (.bl false))) gY) (jF (uO nJ (mOp (cP bH aP aR id eqC) (mUn (uo "told" qN) (aK 7)) (pD aN)) (mOp (cP bH aP aR id eqC) (mUn (uo "spots" mK) (aK 7)) (mFn Cg (au (aK 8) aN))))))))))))
def fY:List CV->M CV:=nR 10 qC
def nY:Rho->M CF:=(cJ (d9 (vC (au (mC .non) (au (mC (.str "")) (au (mC (.str "a")) (au (mC (.str "a3")) (au (mC (.str "A0")) (au (mC (.str "a00")) (au (pD (au (mC (.str "a")) (au (mC (.int 0)) aN))) (au (mC (.int 0)) (au (mC (.bl true)) (au (vC (au (mC (.str "a0")) aN)) (au (mC (.str "a 0")) (au (mC (.str "0a")) aN))))))))))))) (gN 1)) (cJ (d9 (vC (au (mC .non) (au (vC aN) (au (mC (.str "a")) (au (acQ (mC (.bl true)) (mC (.str "open"))) (au (Aq (au (mUn negC (mC (.int 1))) (au (mC (.str "open")) aN))) (au (Aq (au (mC (.int 12)) (au (mC (.str "open")) aN))) (au (Aq (au (mC (.str "0")) (au (mC (.str "open")) aN))) (au (acQ (mC .non) (mC (.str "open"))) (au (acQ (pD (au (mC (.int 0)) aN)) (mC (.str "open"))) (au (mC (.int 5)) aN))))))))))) (gN 2)) (cJ (d9 (vC (au (mC (.str "out 12")) (au (mC (.str "out 01")) (au (mC (.str "out")) (au (mC (.str "out -1")) (au (mC (.str "out x")) (au (mC (.str "stop")) (au (mC (.str "stop A")) (au (mC (.str "stop abcdefghi")) (au (mC (.str "stop a 12")) (au (mC (.str "stop a 01")) aN))))))))))) (gN 3)) (cJ (d9 (mOp sV (aK 3) (vC (au (mC (.str "stop a  0")) (au (mC (.str "open ")) (au (mC (.str " open")) (au (mC (.str "Open")) (au (mC (.str "")) (au (mC .non) (au (mC (.int 3)) (au (mC (.str "lost 1")) (au (mC (.str "stop a b")) (au (mC (.str "out 1 1")) (au (mC (.str "stop a 0 0")) aN))))))))))))) (gN 3)) (cJ (d9 (mOp sV (aK 3) (vC (au (vC (au (mC (.str "open")) aN)) (au (pD (au (mC (.str "open")) aN)) (au (mC (.str "ever\n")) (au (mC (.str "out 1\n")) (au (mC (.bl true)) aN))))))) (gN 3)) (cJ (d9 (pD (au (mAp 2 fD (au (aK 0) (au (aK 1) aN))) (au (mAp 2 fD (au (aK 0) (au (aK 2) aN))) (au (mAp 2 fD (au (aK 0) (au (aK 3) aN))) aN)))) (gT [4,5,6])) (cJ (d9 (vC (au (Aq (au (mC (.int 0)) (au (mC (.str "stop a 0")) (au (mC (.int 1)) (au (mC (.str "stop a")) aN))))) (au (Aq (au (mC (.int 0)) (au (mC (.str "stop a")) (au (mC (.int 5)) (au (mC (.str "stop b 0")) aN))))) (au (Aq (au (mC (.int 4)) (au (mC (.str "stop a 1")) aN))) aN)))) (gN 7)) (cJ (Ny (mBM "list" rB (aK 7) (au (Aq (au (mC (.int 0)) (au (mC (.str "stop a 0")) (au (mC (.int 7)) (au (mC (.str "stop b 2")) aN))))) aN))) (cJ (d9 (vC (au (Ar 1 "_law_refused_right" d7 (mMk "Hang" 3 aV (au (aK 4) (au (mAp 2 fD (au (aK 0) (au (vC (au (aK 5) (au (Aq (au (mC (.int 0)) (au (aK 6) aN))) (au zH (au (mOp ixC (aK 7) (mC (.int 0))) aN))))) aN))) aN)))) aN)) (gN 8)) (cJ (Ny (mBM "list" rB (aK 8) (au (Ar 1 "_law_refused_right" d7 (mMk "Hang" 3 aV (au (mC (.str "a0")) (au (aK 5) aN)))) aN))) (cJ (Ny (mBM "list" rB (aK 8) (au (Ar 1 "_law_refused_right" d7 (mMk "Hang" 3 aV (au (mC (.str "a0")) (au (Aq (au (mC (.int 0)) (au (mC (.str "open")) (au (mC (.int 1)) (au (aK 6) aN))))) aN)))) aN))) (cJ (Ny (mBM "list" rB (aK 8) (au (Ar 1 "_law_refused_right" d7 (mMk "Hang" 3 aV (au (mC (.str "a0")) (au (Aq (au (mC (.int 0)) (au (aK 6) (au (mC (.int 1)) (au (mC (.str "stop a 3")) (au (mC (.int 2)) (au (mC (.str "stop a")) aN))))))) aN)))) aN))) (cJ (Ny (mBM "list" rB (aK 8) (au (Ar 1 "_law_refused_right" d7 (mMk "Hang" 3 aV (au (mC (.str "a0")) (au (mAp 2 fD (au (aK 0) (au (aK 7) aN))) aN)))) aN))) (jF (mOp (cP bH aP aR id eqC) (aK 8) (vC (au (pD (au (mC (.str "hang")) (au (mC (.str "port")) aN))) (au (pD (au (mC (.str "hang")) (au (mC (.str "spots")) aN))) (au (pD (au (mC (.str "hang")) (au (mC (.str "outcome")) aN))) (au (pD (au (mC (.str "hang")) (au (mC (.str "outcome")) aN))) (au (pD (au (mC (.str "hang")) (au (mC (.str "marks")) aN))) aN)))))))))))))))))))))
def eZ:List CV->M CV:=nR 9 nY
def ag7:Rho->M CF:=(cJ (d9 (mAp 2 qW (au (aK 1) (au (mOp gtC (aK 2) (mC (.int 3))) aN))) (gT [3,4])) (sIf (mOr (RW (Iv nJ (mAp 3 oM (au (aK 1) (au (aK 3) (au (aK 4) aN)))))) (mOr (RW (Iv nJ (mAp 2 fY (au (aK 3) (au (aK 4) aN))))) (RW (Iv nJ (mAp 1 eZ (au (aK 1) aN)))))) (jF (mC (.bl false))) gY))
def asM:Rho->M CF:=(cJ (aeM (Av (au (mC (.int 8)) aN)) (gN 2) ag7) (cJ (d9 (mFn tY (au (mLc (Av (au (mC (.int 12)) aN)) (cN 10) wV (pD (au (aK 10) (au (mOp sV (mC (.str "stop a ")) (mFn (Jm jd) (au (aK 10) aN))) aN))) [10]) aN)) (gN 5)) (cJ (d9 (pD (au (mMk "Hang" 3 aV (au (mC (.str "z1")) (au (aK 5) aN))) (au (mFn tY (au (aK 5) aN)) (au (mFn tY (au (aK 5) aN)) aN)))) (gT [6,7,8])) (cJ (d9 (pD (au (mC (.str "stop a 11")) (au (mC (.str "stop a 9")) aN))) (gT2 (wU (aK 7) (mC (.int 10))) (wU (aK 8) (mC (.int 11))))) (cJ (sIf (eO (mOp (cP bH aP aR (fun b=>!b) neC) (mLc (Av (au (mC (.int 12)) aN)) (cN 10) wV (mOp (Nq fJ ixC) (aK 6) (aK 10)) [10]) (mLc (Av (au (mC (.int 12)) aN)) (cN 10) wV (mOp (Bj ixC) (aK 5) (aK 10)) [10]))) (jF (mC (.bl false))) gY) (cJ (sIf (eO (mOp (cP bH aP aR (fun b=>!b) neC) (mFn (Jm jd) (au (aK 6) aN)) (mOp sV (mC (.str "z1: ")) (mBM "str" wj (mC (.str ", ")) (au (mLc (Av (au (mC (.int 12)) aN)) (cN 10) wV (mOp sV (mOp sV (mFn (Jm jd) (au (aK 10) aN)) (mC (.str " "))) (mOp (Bj ixC) (aK 5) (aK 10))) [10]) aN))))) (jF (mC (.bl false))) gY) (cJ (sIf (eO (mOp (cP bH aP aR (fun b=>!b) neC) (Ar 2 "law" d7 (mMk "Hang" 3 aV (au (mC (.str "z1")) (au (aK 7) aN)))) (pD (au (mC (.str "hang")) (au (mC (.str "marks")) aN))))) (jF (mC (.bl false))) gY) (cJ (sIf (eO (mOp (cP bH aP aR (fun b=>!b) neC) (Ar 2 "law" d7 (mOp (Nq fJ ixC) (mMk "Hang" 3 aV (au (mC (.str "z1")) (au (aK 8) aN))) (mC (.int 11)))) (vC (au (mC (.str "stop a 9")) aN)))) (jF (mC (.bl false))) gY) (cJ (d9 (mMk "Hang" 3 aV (au (mC (.str "z2")) (au (Aq (au (mC (.int 11)) (au (mC (.str "stop abcdefgh 0")) (au (mC (.int 0)) (au (mC (.str "out 11")) aN))))) aN))) (gN 9)) (cJ (sIf (mOr (eO (mOp (cP bH aP aR (fun b=>!b) neC) (mUn (uo "spots" mK) (mMk "Hang" 3 aV (au (mC (.str "a0")) (au zH aN)))) (pD aN))) (eO (mOp (cP bH aP aR (fun b=>!b) neC) (mFn (Jm jd) (au (mMk "Hang" 3 aV (au (mC (.str "a0")) (au zH aN))) aN)) (mC (.str "a0: -"))))) (jF (mC (.bl false))) gY) (jF (uO nJ (mOp (cP bH aP aR id eqC) (mUn (uo "spots" mK) (aK 9)) (pD (au (mC (.int 0)) (au (mC (.int 11)) aN)))) (mOp (cP bH aP aR id eqC) (mUn (uo "told" qN) (aK 9)) (pD (au (mC (.int 0)) (au (mC (.int 11)) aN))))))))))))))))
def avp:Rho->M CF:=(cJ (d9 (mAp 1 uQ (au (aK 0) aN)) (gN 1)) (cJ (aeM (Av (au (mC (.int 8)) aN)) (gN 2) ag7) (cJ (d9 (mFn tY (au (mLc (Av (au (mC (.int 12)) aN)) (cN 10) wV (pD (au (aK 10) (au (mOp sV (mC (.str "stop a ")) (mFn (Jm jd) (au (aK 10) aN))) aN))) [10]) aN)) (gN 5)) (cJ (d9 (pD (au (mMk "Hang" 3 aV (au (mC (.str "z1")) (au (aK 5) aN))) (au (mFn tY (au (aK 5) aN)) (au (mFn tY (au (aK 5) aN)) aN)))) (gT [6,7,8])) (cJ (d9 (pD (au (mC (.str "stop a 11")) (au (mC (.str "stop a 9")) aN))) (gT2 (wU (aK 7) (mC (.int 10))) (wU (aK 8) (mC (.int 11))))) (cJ (sIf (eO (mOp (cP bH aP aR (fun b=>!b) neC) (mLc (Av (au (mC (.int 12)) aN)) (cN 10) wV (mOp (Nq fJ ixC) (aK 6) (aK 10)) [10]) (mLc (Av (au (mC (.int 12)) aN)) (cN 10) wV (mOp (Bj ixC) (aK 5) (aK 10)) [10]))) (jF (mC (.bl false))) gY) (cJ (sIf (eO (mOp (cP bH aP aR (fun b=>!b) neC) (mFn (Jm jd) (au (aK 6) aN)) (mOp sV (mC (.str "z1: ")) (mBM "str" wj (mC (.str ", ")) (au (mLc (Av (au (mC (.int 12)) aN)) (cN 10) wV (mOp sV (mOp sV (mFn (Jm jd) (au (aK 10) aN)) (mC (.str " "))) (mOp (Bj ixC) (aK 5) (aK 10))) [10]) aN))))) (jF (mC (.bl false))) gY) (cJ (sIf (eO (mOp (cP bH aP aR (fun b=>!b) neC) (Ar 2 "law" d7 (mMk "Hang" 3 aV (au (mC (.str "z1")) (au (aK 7) aN)))) (pD (au (mC (.str "hang")) (au (mC (.str "marks")) aN))))) (jF (mC (.bl false))) gY) (cJ (sIf (eO (mOp (cP bH aP aR (fun b=>!b) neC) (Ar 2 "law" d7 (mOp (Nq fJ ixC) (mMk "Hang" 3 aV (au (mC (.str "z1")) (au (aK 8) aN))) (mC (.int 11)))) (vC (au (mC (.str "stop a 9")) aN)))) (jF (mC (.bl false))) gY) (cJ (d9 (mMk "Hang" 3 aV (au (mC (.str "z2")) (au (Aq (au (mC (.int 11)) (au (mC (.str "stop abcdefgh 0")) (au (mC (.int 0)) (au (mC (.str "out 11")) aN))))) aN))) (gN 9)) (cJ (sIf (mOr (eO (mOp (cP bH aP aR (fun b=>!b) neC) (mUn (uo "spots" mK) (mMk "Hang" 3 aV (au (mC (.str "a0")) (au zH aN)))) (pD aN))) (eO (mOp (cP bH aP aR (fun b=>!b) neC) (mFn (Jm jd) (au (mMk "Hang" 3 aV (au (mC (.str "a0")) (au zH aN))) aN)) (mC (.str "a0: -"))))) (jF (mC (.bl false))) gY) (jF (uO nJ (mOp (cP bH aP aR id eqC) (mUn (uo "spots" mK) (aK 9)) (pD (au (mC (.int 0)) (au (mC (.int 11)) aN)))) (mOp (cP bH aP aR id eqC) (mUn (uo "told" qN) (aK 9)) (pD (au (mC (.int 0)) (au (mC (.int 11)) aN)))))))))))))))))
def afD:List CV->M CV:=nR 11 avp
end
structure Ad where
 eU:Addr
 iY:Addr
 j9:Addr
 DP:Addr
 wC:Addr
 Jt:Addr
 Jq:Addr
 yN:Addr
 wD:Addr
 Jr:Addr
 V7:Addr
 Ju:Addr
 nM:Addr
 wR:Addr
 ni:Addr
 uH:Addr
 rY:Addr
 uI:Addr
 yJ:Addr
 vR:Addr
 jA:Addr
 oG:Addr
 rW:Addr
 DN:Addr
 yK:Addr
 yL:Addr
 yM:Addr
 Dy:Addr
 Dq:Addr
 wB:Addr
 Dh:Addr
 sX:Addr
 kW:Addr
 lX:Addr
 dD:Addr
 dU:Addr
 gH:Addr
 afc:Addr
 ae7:Addr
 ajC:Addr
def aax(a:Ad):Tbs:=[("_law_right",a.wB,a.Dh),("_law_refused_right",a.dD,a.dU),("law",a.afc,a.ae7)]
structure Txt(K:ae)(mg:Str->Option Value)(base:Heap)(a:Ad):Prop where
 zY:IsC K mg "Hang" a.eU
 iW:tgA mg "Hang" a.eU
 aaS:aS K (.ref a.eU) (.ref a.eU)=some true
 adK:tkS K a.eU "str"
 adJ:tkS K a.eU "int"
 aaP:tkS K a.eU "bool"
 Yn:tkS K a.eU "tuple"
 aaR:tkS K a.eU "list"
 aaQ:tkS K a.eU "dict"
 QD:tkS K a.eU "NoneType"
 aqA:NoB K a.eU
 yj:mg "int"=none
 oF:ExcC K a.iY
 qO:ExcC K a.j9
 RN:fT K (.ref a.iY) [.ref a.j9,.ref a.eU]=some false
 jc:tgA mg "BadCount" a.iY
 kh:tgA mg "BadHang" a.j9
 Wi:fT K (.ref a.j9) [.ref a.iY,.ref a.eU]=some false
 SJ:tkS K a.iY "int"
 SM:tkS K a.iY "str"
 Qz:tkS K a.iY "bool"
 QC:tkS K a.iY "dict"
 Vo:tkS K a.j9 "int"
 Vp:tkS K a.j9 "str"
 SN:tkS K a.j9 "bool"
 SQ:tkS K a.j9 "dict"
 jf:mg "isinstance"=none
 atU:mg "bool"=none
 afh:jH K "is_whole" "is_whole" Ep a.DP
 V8:tgA mg "is_whole" a.DP
 aaH:jH K "is_between" "is_between" wN a.wC
 Jy:mg "str"=none
 yR:mg "len"=none
 R9:∃t,mg "WORD_SIZE"=some (.int 8 t)
 JN:∃t,mg "LETTERS"=some (.str "abcdefghijklmnopqrstuvwxyz" t)
 afG:mg "all"=none
 aiA:jH K "is_word" "is_word" JH a.Jt
 aiy:jH K "is_port" "is_port" JF a.Jq
 aay:∃t,mg "FIGURES"=some (.str "0123456789" t)
 adC:jH K "figure_in" "figure_in" zj a.yN
 mV:∃t,mg "MOST_SPOT"=some (.int 11 t)
 RM:tgA mg "figure_in" a.yN
 aiJ:tgA mg "is_word" a.Jt
 apR:axC K mg "LONE" ["lost","ever","open"]
 aaI:jH K "is_outcome" "is_outcome" wO a.wD
 aiz:jH K "is_stop" "is_stop" JG a.Jr
 apu:jH K "plain" "plain" WW a.V7
 aiB:jH K "mark_of" "mark_of" JK a.Ju
 Z6:tgA mg "is_stop" a.Jr
 Z7:tgA mg "mark_of" a.Ju
 NT:jH K "are_marks_right" "are_marks_right" nO a.nM
 aiI:tgA mg "is_port" a.Jq
 Mz:jH K "__init__" "BadHang.__init__" qD a.wR
 agn:ExcAt K mg "BadHang" ["part"] a.j9 a.wR
 Pg:mg "dict"=none
 Ol:tgA mg "is_between" a.wC
 aew:mg "sorted"=none
 aaO:tgA mg "is_outcome" a.wD
 N5:tgA mg "are_marks_right" a.nM
 uw:Cls K a.eU
 Ou:NoAttr K a.eU "port"
 Kv:mg "tuple"=none
 Kw:NoAttr K a.eU "spots"
 Ac:NoAttr K a.eU "outcomes"
 apJ:tgA mg "plain" a.V7
 Yz:NoAttr K a.eU "bares"
 YB:NoAttr K a.eU "marks"
 Ot:NoAttr K a.eU "line"
 DK:jH K "__init__" "Hang.__init__" qp a.ni
 Yc:jH K "__eq__" "Hang.__eq__" uV a.uH
 Vi:jH K "__str__" "Hang.__str__" sH a.rY
 jR:MkC K mg "Hang" a.eU a.ni
 Yd:jH K "untold" "Hang.untold" uW a.uI
 gJ:Meth K a.eU "__eq__" a.uH
 aaV:toF K a.eU a.eU
 alZ:∀t∈mH,bX K a.eU (.type t)=true
 aqB:bE K (.ref a.eU) "__ne__"=some (some (.builtin "object.__ne__"))
 aqz:g9 K a.eU (.type "object")=some true
 ady:jH K "told" "Hang.told" yX a.yJ
 Il:jH K "__init__" "BadCount.__init__" oX a.vR
 ad2:ExcAt K mg "BadCount" ["value"] a.iY a.vR
 MF:jH K "__getitem__" "Hang.__getitem__" mj a.jA
 oG:PropOf K a.eU "told" a.oG a.yJ
 Vh:jH K "__len__" "Hang.__len__" sG a.rW
 agX:mg "list"=none
 afg:jH K "_law_pen" "_law_pen" Eo a.DN
 asy:mg "abs"=none
 adz:jH K "_law_draw" "_law_draw" yZ a.yK
 yO:tgA mg "_law_draw" a.yK
 adA:jH K "_law_pick" "_law_pick" za a.yL
 Fy:mg "range"=none
 awd:mg "set"=none
 mO:tgA mg "_law_pick" a.yL
 awc:mg "max"=none
 fP:Meth K a.eU "__str__" a.rY
 adB:jH K "_law_told" "_law_told" zf a.yM
 G8:eJ K (.ref a.iY) (.ref a.Dy)=some true
 Jo:eJ K (.ref a.j9) (.ref a.Dy)=some true
 afq:tgA mg "WayError" a.Dy
 ago:XfC K a.j9
 Td:tfN K a.j9 "part"
 ad3:XfC K a.iY
 N8:tfN K a.iY "value"
 aaG:jH K "_law_heard" "_law_heard" wM a.Dq
 fO:Meth K a.eU "__len__" a.rW
 acS:mg "repr"=none
 cW:Meth K a.eU "__getitem__" a.jA
 Im:iR K a.jA=true
 Ds:Oa K "_law_right" "_law_right" oV a.sX a.wB a.Dh
 jP:tgA mg "_law_heard" a.Dq
 Dr:tgA mg "_law_right" a.sX
 xG:∃mc,ClX.CRead K a.eU mc/\gn K (.ref a.eU) mc "untold"=some (.get (.builtin "staticmethod.__get__") (.ref a.kW) .none (.ref a.eU))/\∃rest,gk K a.kW "staticmethod"=some (.ref a.uI::rest)
 MJ:jH K "_law_equal_right" "_law_equal_right" mD a.lX
 bQ:Oa K "_law_refused_right" "_law_refused_right" bZ a.gH a.dD a.dU
 bO:tgA mg "_law_refused_right" a.gH
 afr:tgA mg "_law_pen" a.DN
 adH:tgA mg "_law_told" a.yM
 MP:tgA mg "_law_equal_right" a.lX
 ajN:Oa K "law" "law" Zx a.ajC a.afc a.ae7
 ajF:tgA mg "law" a.ajC
 tb:∀p∈aax a,fc base mg p.2.1 p.2.2
section
variable {P:Program}{w:World}{K:ae}{mg:Str->Option Value}{base:Heap}{a:Ad}
theorem uf(T:Txt K mg base a):∀p∈vL,∃C D,IsC K mg p.1.1 C/\mg p.1.2=some (.ref D)/\aS K (.ref C) (.ref D)=some p.2:=
 fC (⟨_,_,T.zY,T.iW,T.aaS⟩) fN
theorem qM(T:Txt K mg base a):∀p∈nZ,∃C,IsC K mg p.1.1 C/\aS K (.ref C) (.type p.1.2)=some p.2:=
 fC (⟨_,T.zY,T.adK⟩)<|
 fC (⟨_,T.zY,T.adJ⟩)<|
 fC (⟨_,T.zY,T.aaP⟩)<|
 fC (⟨_,T.zY,T.Yn⟩)<|
 fC (⟨_,T.zY,T.aaR⟩)<|
 fC (⟨_,T.zY,T.aaQ⟩)<|
 fC (⟨_,T.zY,T.QD⟩)<|
 fN
theorem tZ(T:Txt K mg base a):∀p∈vK,∃D,mg p=some (.ref D)/\NoB K D:=
 fC (⟨_,T.iW,T.aqA⟩) fN
theorem N6(T:Txt K mg base a):∀e∈Hi,(fun p:(Str×Str)×Bool=>∃C D,mg p.1.1=some (.ref C)/\ExcC K C/\mg p.1.2=some (.ref D)/\aS K (.ref C) (.ref D)=some p.2) (("BadCount",e.1),e.2):=rA ⟨_,_,T.jc,T.oF,T.kh,Bl 0 T.RN rfl⟩ (rA ⟨_,_,T.jc,T.oF,T.jc,RQ⟩ (rA ⟨_,_,T.jc,T.oF,T.iW,Bl 1 T.RN rfl⟩ (Xa)))
theorem QH(T:Txt K mg base a):∀e∈Km,(fun p:(Str×Str)×Bool=>∃C D,mg p.1.1=some (.ref C)/\ExcC K C/\mg p.1.2=some (.ref D)/\aS K (.ref C) (.ref D)=some p.2) (("BadHang",e.1),e.2):=rA ⟨_,_,T.kh,T.qO,T.kh,RQ⟩ (rA ⟨_,_,T.kh,T.qO,T.jc,Bl 0 T.Wi rfl⟩ (rA ⟨_,_,T.kh,T.qO,T.iW,Bl 1 T.Wi rfl⟩ (Xa)))
theorem uh(T:Txt K mg base a):∀p∈vN,∃C D,mg p.1.1=some (.ref C)/\ExcC K C/\mg p.1.2=some (.ref D)/\aS K (.ref C) (.ref D)=some p.2:=Z5 (P:=fun p=>∃C D,mg p.1.1=some (.ref C)/\ExcC K C/\mg p.1.2=some (.ref D)/\aS K (.ref C) (.ref D)=some p.2) (rA (N6 T) (rA (QH T) (Xa)))
theorem ug(T:Txt K mg base a):∀p∈vM,∃C,mg p.1.1=some (.ref C)/\ExcC K C/\aS K (.ref C) (.type p.1.2)=some p.2:=
 fC (⟨_,T.jc,T.oF,T.SJ⟩)<|
 fC (⟨_,T.jc,T.oF,T.SM⟩)<|
 fC (⟨_,T.jc,T.oF,T.Qz⟩)<|
 fC (⟨_,T.jc,T.oF,T.QC⟩)<|
 fC (⟨_,T.kh,T.qO,T.Vo⟩)<|
 fC (⟨_,T.kh,T.qO,T.Vp⟩)<|
 fC (⟨_,T.kh,T.qO,T.SN⟩)<|
 fC (⟨_,T.kh,T.qO,T.SQ⟩)<|
 fN
theorem adV:FnScope ["value"] ["value"] (defScope Ep):=fsc
theorem adG(T:Txt K mg base a):FT P w K mg base "is_whole" "is_whole" Ep a.DP 1 ["value"] uR:=fun fd F=>qP F adV rfl (k:=0) (m:=Nh) (fun _ _ _ _ _ _ hr tk po=>(bA (cV (uJ j8 (bM (o7 (uh T) (ug T) (oZ (uf T) (qM T) (tZ T))) T.jf gG (ao (gv 0) (ao (acG rfl T.yj pW) aG))) (zF (ati j8 (bM (o7 (uh T) (ug T) (oZ (uf T) (qM T) (tZ T))) T.jf gG (ao (gv 0) (ao (acG rfl T.atU apr) aG)))))))))
theorem R5(T:Txt K mg base a):Callee P w K mg base 1 a.DP 1 uR:=ZQ T.afh (adG T)
theorem YQ:FnScope ["value","low","high"] ["value","low","high"] (defScope wN):=fsc
theorem Yj(T:Txt K mg base a):FT P w K mg base "is_between" "is_between" wN a.wC 2 ["value","low","high"] oO:=fun fd F=>qP F YQ rfl (k:=1) (m:=Dj) (fun _ _ _ _ _ _ hr tk po=>(bA (cV (uJ j8 (cI (R5 T) hr.md T.V8 tk (ao (gv 0) aG)) (zF (aeg Ph Ph (gv 1) (gv 0) (gv 2)))))))
theorem KC(T:Txt K mg base a):Callee P w K mg base 2 a.wC 3 oO:=axH T.aaH (Yj T)
theorem Nz:FnScope ["value","sign"] ["value"] (defScope JH):=fsc
theorem afo(T:Txt K mg base a):FT P w K mg base "is_word" "is_word" JH a.Jt 1 ["value"] Bm:=fun fd F=>qP F Nz rfl (k:=0) (m:=Rk) (fun _ _ _ _ _ _ hr tk po=>(bA (cV (uJ j8 (bM (o7 (uh T) (ug T) (oZ (uf T) (qM T) (tZ T))) T.jf gG (ao (gv 0) (ao (acG rfl T.Jy xH) aG))) (uJ j8 (aeg Ph Ph ge_int (bM fW T.yR qT (ao (gv 0) aG)) (Qx (t:=T.R9.choose) rfl T.R9.choose_spec)) (zF (bM Bf T.afG X4 (ao (qj (own:=[("sign",1)]) Nz.nd (BK (gv 0)) (blkOk_by (by rfl)) (cZ (by decide)) (fun _ _ _ _ _=>pg_name (i:=1) Nz.nd rfl (cw rfl)) (fun _ _ _ _ _=>gj) (fun _ _ _ _ _=>(jJ (Gy false hr.rm.units rfl) (gv 1) (abV (t:=T.JN.choose) rfl T.JN.choose_spec)))) aG))))))))
theorem afM(T:Txt K mg base a):Callee P w K mg base 1 a.Jt 1 Bm:=ZQ T.aiA (afo T)
theorem af0:FnScope ["value"] ["value"] (defScope JF):=fsc
theorem afm(T:Txt K mg base a):FT P w K mg base "is_port" "is_port" JF a.Jq 1 ["value"] xM:=fun fd F=>qP F af0 rfl (k:=0) (m:=Ri) (fun _ _ _ _ _ _ hr tk po=>(bA (cV (uJ j8 (bM (o7 (uh T) (ug T) (oZ (uf T) (qM T) (tZ T))) T.jf gG (ao (gv 0) (ao (acG rfl T.Jy xH) aG))) (uJ j8 (jJ (kJ hr.rm.units) (bM fW T.yR qT (ao (gv 0) aG)) ge_int) (uJ j8 (jJ (Gy false hr.rm.units rfl) (jZ rH (gv 0) ge_int) (abV (t:=T.JN.choose) rfl T.JN.choose_spec)) (zF (jJ (Gy false hr.rm.units rfl) (jZ rH (gv 0) ge_int) ge_str))))))))
theorem afL(T:Txt K mg base a):Callee P w K mg base 1 a.Jq 1 xM:=ZQ T.aiy (afm T)
theorem wQ:FnScope ["word","most","found","sign"] ["word","most"] (defScope zj):=fsc
theorem aaN(T:Txt K mg base a):FT P w K mg base "figure_in" "figure_in" zj a.yN 1 ["word","most"] qX:=fun fd F=>qP F wQ rfl (k:=0) (m:=HS) (fun _ _ _ _ _ _ hr tk po=>(gss_cons (lU (abX (Wh (xJ (alx Ph Ph ge_int (bM fW T.yR qT (ao (gv 0) aG)) (bM fW T.yR qT (ao (bB (o8 (k:=0) (tbl:=[]) (fun p hp=>nomatch hp) hr.md tk) T.Jy xH (ao (gv 1) aG)) aG)))) (O8 (xJ (pX j8 (bM Bf T.afG X4 (ao (qj (own:=[("sign",3)]) wQ.nd (BK (gv 0)) (blkOk_by (by rfl)) (cZ (by decide)) (fun _ _ _ _ _=>pg_name (i:=3) wQ.nd rfl (cw rfl)) (fun _ _ _ _ _=>gj) (fun _ _ _ _ _=>(jJ (Gy false hr.rm.units rfl) (gv 3) (abV (t:=T.aay.choose) rfl T.aay.choose_spec)))) aG))))))) (bA (cV sY)) gss_nil) (gss_cons (lU (abX (acH (dZ acX (bM fW T.yR qT (ao (gv 0) aG)) ge_int) (Wg (dZ (kJ hr.rm.units) (jZ rH (gv 0) ge_int) ge_str)))) (bA (cV sY)) gss_nil) (gss_cons (fB (i:=2) wQ.nd (bB fV T.yj pW (ao (gv 0) aG))) (bA (cV (ge_if (dZ Ph (gv 2) (gv 1)) (gv 2) sY)))))))
theorem Oz(T:Txt K mg base a):Callee P w K mg base 1 a.yN 2 qX:=akj T.adC (aaN T)
theorem zN:FnScope ["value","words","is_marked"] ["value"] (defScope wO):=fsc
theorem Yk(T:Txt K mg base a):FT P w K mg base "is_outcome" "is_outcome" wO a.wD 2 ["value"] oR:=fun fd F=>qP F zN rfl (k:=1) (m:=Dk) (fun _ _ _ _ _ _ hr tk po=>(gss_cons (fB (i:=1) zN.nd (ge_if (pX j8 (bM (o7 (uh T) (ug T) (oZ (uf T) (qM T) (tZ T))) T.jf gG (ao (gv 0) (ao (acG rfl T.Jy xH) aG)))) (Am cb fx fw Jx (gv 0) (ao ge_str aG)) (iz aG))) (gss_cons (lU (dZ (kJ hr.rm.units) (yw (gv 1) Ft (Fv ge_int)) (iz (ao ge_str aG))) (gss_cons (fB (i:=2) zN.nd (avt j8 (jJ (kJ hr.rm.units) (bM fW T.yR qT (ao (gv 1) aG)) ge_int) (zF (uJ j8 (jJ (kJ hr.rm.units) (bM fW T.yR qT (ao (gv 1) aG)) ge_int) (zF (jJ Wv (cI (Oz T) hr.md T.RM tk (ao (jZ rH (gv 1) ge_int) (ao (Qx (t:=T.mV.choose) rfl T.mV.choose_spec) aG))) sY)))))) (bA (cV (uJ j8 (gv 2) (zF (cI (afM T) hr.md T.aiJ tk (ao (jZ rH (gv 1) ge_int) aG))))))) gss_nil) (gss_cons (lU (dZ (kJ hr.rm.units) (yw (gv 1) Ft (Fv ge_int)) (iz (ao ge_str aG))) (bA (cV (uJ j8 (jJ (kJ hr.rm.units) (bM fW T.yR qT (ao (gv 1) aG)) ge_int) (zF (jJ Wv (cI (Oz T) hr.md T.RM tk (ao (jZ rH (gv 1) ge_int) (ao (Qx (t:=T.mV.choose) rfl T.mV.choose_spec) aG))) sY))))) gss_nil) (bA (cV (jJ (Gy false hr.rm.units rfl) (gv 0) (apK (xs:=["lost","ever","open"]) rfl T.apR))))))))
theorem YG(T:Txt K mg base a):Callee P w K mg base 2 a.wD 1 oR:=ZQ T.aaI (Yk T)
theorem af2:FnScope ["outcome"] ["outcome"] (defScope JG):=fsc
theorem afn(T:Txt K mg base a):FT P w K mg base "is_stop" "is_stop" JG a.Jr 1 ["outcome"] vg:=fun fd F=>qP F af2 rfl (k:=0) (m:=Rj) (fun _ _ _ _ _ _ hr tk po=>(bA (cV (jJ (kJ hr.rm.units) (yw (gv 0) Ft (Fv ge_int)) ge_str))))
theorem Wt(T:Txt K mg base a):Callee P w K mg base 1 a.Jr 1 vg:=ZQ T.aiz (afn T)
theorem amf:FnScope ["outcome"] ["outcome"] (defScope WW):=fsc
theorem als(T:Txt K mg base a):FT P w K mg base "plain" "plain" WW a.V7 1 ["outcome"] Ks:=fun fd F=>qP F amf rfl (k:=0) (m:=abR) (fun _ _ _ _ _ _ hr tk po=>(bA (cV (Am cb dP dE Bo ge_str (ao (yw (Am cb fx fw Jx (gv 0) (ao ge_str aG)) Ft (Fv ge_int)) aG)))))
theorem al3(T:Txt K mg base a):Callee P w K mg base 1 a.V7 1 Ks:=ZQ T.apu (als T)
theorem af3:FnScope ["outcome"] ["outcome"] (defScope JK):=fsc
theorem afp(T:Txt K mg base a):FT P w K mg base "mark_of" "mark_of" JK a.Ju 1 ["outcome"] vh:=fun fd F=>qP F af3 rfl (k:=0) (m:=Rm) (fun _ _ _ _ _ _ hr tk po=>(bA (cV (Am cb dP dE Bo ge_str (ao (yw (Am cb fx fw Jx (gv 0) (ao ge_str aG)) (Fv ge_int) Ft) aG)))))
theorem Wu(T:Txt K mg base a):Callee P w K mg base 1 a.Ju 1 vh:=ZQ T.aiB (afp T)
theorem dW:FnScope ["outcomes","marks","met","mark","outcome"] ["outcomes"] (defScope nO):=fsc
theorem MN(T:Txt K mg base a):FT P w K mg base "are_marks_right" "are_marks_right" nO a.nM 2 ["outcomes"] iD:=fun fd F=>qP F dW rfl (k:=1) (m:=rP) (fun _ _ _ _ _ _ hr tk po=>(gss_cons (alw (i:=1) (own:=[("outcome",4)]) dW.nd (BK (gv 0)) (blkOk_by (by rfl)) (cZ (by decide)) (fun _ _ _ _ _=>pg_name (i:=4) dW.nd rfl (cw rfl)) (fun _ _ _ _ _=>Kg (pX j8 (cI (Wt T) hr.md T.Z6 takes0 (ao (gv 4) aG)))) (fun _ _ _ _ _=>(cI (Wu T) hr.md T.Z7 takes0 (ao (gv 4) aG))) (sw_true rfl rfl rfl (by decide+kernel))) (gss_cons (lU (dZ (Gy false hr.rm.units rfl) ge_str (gv 1)) (bA (cV (bM Bf T.afG X4 (ao (qj (own:=[("mark",3)]) dW.nd (BK (gv 1)) (blkOk_by (by rfl)) (cZ (by decide)) (fun _ _ _ _ _=>pg_name (i:=3) dW.nd rfl (cw rfl)) (fun _ _ _ _ _=>gj) (fun _ _ _ _ _=>(jJ (kJ hr.rm.units) (gv 3) ge_str))) aG)))) gss_nil) (gss_cons (fB (i:=2) dW.nd ge_int) (gss_cons (Ym po (BK (gv 1)) (Qy (i:=3) dW.nd) (gss_cons (lU (dZ acX (bB fV T.yj pW (ao (gv 3) aG)) (gv 2)) (bA (cV vJ)) gss_nil) (bA (lU (dZ (kJ hr.rm.units) (bB fV T.yj pW (ao (gv 3) aG)) (gv 2)) (bA (apP (i:=2) ip_add dW.nd ge_int)) gss_nil)))) (bA (cV vJ)))))))
theorem M5(T:Txt K mg base a):Callee P w K mg base 2 a.nM 1 iD:=ZQ T.NT (MN T)
theorem Jd:FnScope ["self","part"] ["self","part"] (defScope qD):=fsc
theorem Et(T:Txt K mg base a):XMk P w K mg base "BadHang" ["part"]:=by
 obtain⟨fd,F⟩:=T.Mz.ex
 exact⟨⟨_,_,fd,["self","part"],T.agn,aoh F Jd rfl (by first|exact cw rfl|exact gr (cw rfl)|exact gr (gr rfl)) (by first|exact cw rfl|exact gr (cw rfl)|exact gr (gr rfl)),F.binds fun _ _ _ _ _ _ us hl=>match us,hl with| [_,_],_=>rfl⟩⟩
theorem Yh(T:Txt K mg base a):∀p∈Np,VJ K mg p "port":=
 fC (⟨_,T.iW,T.uw,T.Ou⟩) fN
theorem Vl(T:Txt K mg base a):∀p∈HY,VJ K mg p "spots":=
 fC (⟨_,T.iW,T.uw,T.Kw⟩) fN
theorem NZ(T:Txt K mg base a):∀p∈xq,VJ K mg p "outcomes":=
 fC (⟨_,T.iW,T.uw,T.Ac⟩) fN
theorem Vj(T:Txt K mg base a):∀p∈HW,VJ K mg p "bares":=
 fC (⟨_,T.iW,T.uw,T.Yz⟩) fN
theorem Vk(T:Txt K mg base a):∀p∈HX,VJ K mg p "marks":=
 fC (⟨_,T.iW,T.uw,T.YB⟩) fN
theorem Yg(T:Txt K mg base a):∀p∈Nm,VJ K mg p "line":=
 fC (⟨_,T.iW,T.uw,T.Ot⟩) fN
theorem aY:FnScope ["self","port","outcomes","some","whole","spot"] ["self","port","outcomes"] (defScope qp):=fsc
theorem zX(T:Txt K mg base a):FT P w K mg base "__init__" "Hang.__init__" qp a.ni 3 ["self","port","outcomes"] aV:=fun fd F=>qP F aY rfl (k:=2) (m:=vH) (fun _ _ _ _ _ _ hr tk po=>(gss_cons (lU (xJ (pX j8 (cI (afL T) hr.md T.aiI tk (ao (gv 1) aG)))) (bA (Ir (Et T) hr.md tk (ao ge_str aG))) gss_nil) (gss_cons (lU (abX (Wh (xJ (pX j8 (bM (afd (o7 (uh T) (ug T) (oZ (uf T) (qM T) (tZ T)))) T.jf gG (ao (gv 2) (ao (acG rfl T.Pg Fp) aG))))) (O8 (xJ (pX j8 (bM Bf T.afG X4 (ao (aeh (oJ (qj (own:=[("spot",5)]) aY.nd (kZ (gv 2)) (blkOk_by (by rfl)) (cZ (by decide)) (fun _ _ _ _ _=>pg_name (i:=5) aY.nd rfl (cw rfl)) (fun _ _ _ _ _=>gj) (fun _ _ _ _ _=>(cI (KC T) hr.md T.Ol takes0 (ao (gv 5) (ao ge_int (ao (Qx (t:=T.mV.choose) rfl T.mV.choose_spec) aG))))))) (qj (own:=[("spot",5)]) aY.nd (ant (gv 2)) (blkOk_by (by rfl)) (cZ (by decide)) (fun _ _ _ _ _=>pg_name (i:=5) aY.nd rfl (cw rfl)) (fun _ _ _ _ _=>gj) (fun _ _ _ _ _=>(cI (KC T) hr.md T.Ol takes0 (ao (gv 5) (ao ge_int (ao (Qx (t:=T.mV.choose) rfl T.mV.choose_spec) aG))))))) aG))))))) (bA (Ir (Et T) hr.md tk (ao ge_str aG))) gss_nil) (gss_cons (fB (i:=3) aY.nd (ajG (own:=[("spot",5)]) aY.nd (BK (bM aaE T.aew ZP (ao (aeh (oJ (qj (own:=[("spot",5)]) aY.nd (kZ (gv 2)) (blkOk_by (by rfl)) (cZ (by decide)) (fun _ _ _ _ _=>pg_name (i:=5) aY.nd rfl (cw rfl)) (fun _ _ _ _ _=>gj) (fun _ _ _ _ _=>(bB fV T.yj pW (ao (gv 5) aG))))) (qj (own:=[("spot",5)]) aY.nd (ant (gv 2)) (blkOk_by (by rfl)) (cZ (by decide)) (fun _ _ _ _ _=>pg_name (i:=5) aY.nd rfl (cw rfl)) (fun _ _ _ _ _=>gj) (fun _ _ _ _ _=>(bB fV T.yj pW (ao (gv 5) aG))))) aG))) (blkOk_by (by rfl)) (cZ (by decide)) (fun _ _ _ _ _=>pg_name (i:=5) aY.nd rfl (cw rfl)) (fun _ _ _ _ _=>gj) (fun _ _ _ _ _=>(gv 5)) (fun _ _ _ _ _=>(jZ (RP hr.u1 rH) (gv 2) (gv 5))))) (gss_cons (lU (xJ (pX j8 (bM Bf T.afG X4 (ao (oJ (qj (own:=[("spot",5)]) aY.nd (kZ (gv 3)) (blkOk_by (by rfl)) (cZ (by decide)) (fun _ _ _ _ _=>pg_name (i:=5) aY.nd rfl (cw rfl)) (fun _ _ _ _ _=>gj) (fun _ _ _ _ _=>(cI (YG T) hr.md T.aaO takes0 (ao (jZ (RP hr.u1 rH) (gv 3) (gv 5)) aG))))) aG)))) (bA (Ir (Et T) hr.md tk (ao ge_str aG))) gss_nil) (gss_cons (lU (xJ (pX j8 (cI (M5 T) hr.md T.N5 tk (ao (oJ (qj (own:=[("spot",5)]) aY.nd (kZ (gv 3)) (blkOk_by (by rfl)) (cZ (by decide)) (fun _ _ _ _ _=>pg_name (i:=5) aY.nd rfl (cw rfl)) (fun _ _ _ _ _=>gj) (fun _ _ _ _ _=>(jZ (RP hr.u1 rH) (gv 3) (gv 5))))) aG)))) (bA (Ir (Et T) hr.md tk (ao ge_str aG))) gss_nil) (gss_cons (fB (i:=4) aY.nd (Am cb dP dE Bo ge_str (ao (oJ (qj (own:=[("spot",5)]) aY.nd (kZ (gv 3)) (blkOk_by (by rfl)) (cZ (by decide)) (fun _ _ _ _ _=>pg_name (i:=5) aY.nd rfl (cw rfl)) (fun _ _ _ _ _=>gj) (fun _ _ _ _ _=>(Ro (GJ.cons (T7 (gv 5)) (GJ.cons ge_str (GJ.cons (T7 (jZ (RP hr.u1 rH) (gv 3) (gv 5))) GJ.nil))))))) aG))) (gss_cons (Ua (Yh T) (gv 0) (gv 1)) (gss_cons (Ua (Vl T) (gv 0) (bB qU T.Kv Bv (ao (oJ (qj (own:=[("spot",5)]) aY.nd (kZ (gv 3)) (blkOk_by (by rfl)) (cZ (by decide)) (fun _ _ _ _ _=>pg_name (i:=5) aY.nd rfl (cw rfl)) (fun _ _ _ _ _=>gj) (fun _ _ _ _ _=>(gv 5)))) aG))) (gss_cons (Ua (NZ T) (gv 0) (gv 3)) (gss_cons (Ua (Vj T) (gv 0) (oJ (ajG (own:=[("spot",5)]) aY.nd (kZ (gv 3)) (blkOk_by (by rfl)) (cZ (by decide)) (fun _ _ _ _ _=>pg_name (i:=5) aY.nd rfl (cw rfl)) (fun _ _ _ _ _=>gj) (fun _ _ _ _ _=>(gv 5)) (fun _ _ _ _ _=>(cI (al3 T) hr.md T.apJ takes0 (ao (jZ (RP hr.u1 rH) (gv 3) (gv 5)) aG)))))) (gss_cons (Ua (Vk T) (gv 0) (oJ (ajG (own:=[("spot",5)]) aY.nd (kZ (gv 3)) (blkOk_by (by rfl)) (cZ (by decide)) (fun _ _ _ _ _=>pg_name (i:=5) aY.nd rfl (cw rfl)) (fun _ _ _ _ _=>Kg (pX j8 (cI (Wt T) hr.md T.Z6 takes0 (ao (jZ (RP hr.u1 rH) (gv 3) (gv 5)) aG)))) (fun _ _ _ _ _=>(gv 5)) (fun _ _ _ _ _=>(cI (Wu T) hr.md T.Z7 takes0 (ao (jZ (RP hr.u1 rH) (gv 3) (gv 5)) aG)))))) (bA (Ua (Yg T) (gv 0) (ge_if (dZ (oU hr.rm.units) (gv 4) ge_str) (Ro (GJ.cons (T7 (gv 1)) (GJ.cons ge_str (GJ.cons (T7 (gv 4)) GJ.nil)))) (Ro (GJ.cons (T7 (gv 1)) (GJ.cons ge_str GJ.nil))))))))))))))))))
theorem bG(T:Txt K mg base a):Callee P w K mg base 3 a.ni 3 aV:=axH T.DK (zX T)
theorem zA(T:Txt K mg base a):∀p∈xW,abK P w K mg base 0 p.1 "port" p.2:=
 fC (.fld ⟨_,T.iW,T.uw,T.Ou⟩) fN
theorem iy(T:Txt K mg base a):∀p∈fM,abK P w K mg base 0 p.1 "outcomes" p.2:=
 fC (.fld ⟨_,T.iW,T.uw,T.Ac⟩) fN
theorem Vz:FnScope ["self","other"] ["self","other"] (defScope uV):=fsc
theorem Vm(T:Txt K mg base a):FT P w K mg base "__eq__" "Hang.__eq__" uV a.uH 1 ["self","other"] gJ:=fun fd F=>qP F Vz rfl (k:=0) (m:=zB) (fun _ _ _ _ _ _ hr tk po=>(bA (cV (uJ j8 (bM (o7 (uh T) (ug T) (oZ (uf T) (qM T) (tZ T))) T.jf gG (ao (gv 1) (ao (Wb rfl T.iW) aG))) (uJ j8 (jJ (kJ hr.rm.units) (nA (uE (zA T) hr.md) (gv 0)) (nA (uE (zA T) hr.md) (gv 1))) (zF (jJ (al4 (neg:=false) rfl hr.u1 (kJ hr.rm.units)) (nA (uE (iy T) hr.md) (gv 0)) (nA (uE (iy T) hr.md) (gv 1)))))))))
theorem Vw(T:Txt K mg base a):Callee P w K mg base 1 a.uH 2 gJ:=akj T.Yc (Vm T)
theorem XR(T:Txt K mg base a):∀p∈M9,abK P w K mg base 0 p.1 "line" p.2:=
 fC (.fld ⟨_,T.iW,T.uw,T.Ot⟩) fN
theorem Tw:FnScope ["self"] ["self"] (defScope sH):=fsc
theorem Sy(T:Txt K mg base a):FT P w K mg base "__str__" "Hang.__str__" sH a.rY 1 ["self"] fP:=fun fd F=>qP F Tw rfl (k:=0) (m:=xg) (fun _ _ _ _ _ _ hr tk po=>(bA (cV (afs (T7 (nA (uE (XR T) hr.md) (gv 0)))))))
theorem Tn(T:Txt K mg base a):Callee P w K mg base 1 a.rY 1 fP:=ZQ T.Vi (Sy T)
theorem xr:FnScope ["port","spots","spot"] ["port","spots"] (defScope uW):=fsc
theorem Vn(T:Txt K mg base a):FT P w K mg base "untold" "Hang.untold" uW a.uI 5 ["port","spots"] nD:=fun fd F=>qP F xr rfl (k:=4) (m:=zE) (fun _ _ _ _ _ _ hr tk po=>(bA (cV (lH T.jR (bG T) hr.md tk (ao (gv 0) (ao (ajG (own:=[("spot",2)]) xr.nd (BK (gv 1)) (blkOk_by (by rfl)) (cZ (by decide)) (fun _ _ _ _ _=>pg_name (i:=2) xr.nd rfl (cw rfl)) (fun _ _ _ _ _=>gj) (fun _ _ _ _ _=>(gv 2)) (fun _ _ _ _ _=>ge_str)) aG))))))
theorem bD(T:Txt K mg base a):∀p∈bH,Own P w K mg base 3 p.1 "__eq__" 2 p.2:=
 fC (⟨⟨_,_,_,T.iW,T.gJ.at_,T.gJ.fn,Vw T,by decide⟩⟩) fN
theorem cG(T:Txt K mg base a):Px K mg aP aR:=by
 constructor
 ·intro p hp
  unfold aP at hp
  rw[cn]at hp
  subst hp
  exact⟨_,_,T.iW,T.iW,T.aaV⟩
 ·intro p hp
  unfold aR at hp
  rw[cn]at hp
  subst hp
  exact⟨_,T.iW,T.alZ⟩
theorem dH(T:Txt K mg base a):∀p∈bH,∃C,mg p.1=some (.ref C)/\bE K (.ref C) "__ne__"=some (some (.builtin "object.__ne__"))/\g9 K C (.type "object")=some true:=
 fC (⟨_,T.iW,T.aqB,T.aqz⟩) fN
theorem Du:FnScope ["self","spot"] ["self"] (defScope yX):=fsc
theorem aaJ(T:Txt K mg base a):FT P w K mg base "told" "Hang.told" yX a.yJ 4 ["self"] vD:=fun fd F=>qP F Du rfl (k:=3) (m:=Hw) (fun _ _ _ _ _ _ hr tk po=>(bA (cV (bB qU T.Kv Bv (ao (oJ (qj (own:=[("spot",1)]) Du.nd (kZ (nA (uE (iy T) hr.md) (gv 0))) (blkOk_by (by rfl)) (cZ (by decide)) (fun _ _ _ _ _=>pg_name (i:=1) Du.nd rfl (cw rfl)) (fun _ _ _ _ _=>Kg (dZ (iU (bD T) (dH T) (cG T) hr.md takes0 (oU hr.rm.units)) (jZ (RP hr.u1 rH) (nA (uE (iy T) hr.md) (gv 0)) (gv 1)) ge_str)) (fun _ _ _ _ _=>(gv 1)))) aG)))))
theorem aaY(T:Txt K mg base a):Callee P w K mg base 4 a.yJ 1 vD:=ZQ T.ady (aaJ T)
theorem G4:FnScope ["self","value"] ["self","value"] (defScope oX):=fsc
theorem ad4(T:Txt K mg base a):XMk P w K mg base "BadCount" ["value"]:=by
 obtain⟨fd,F⟩:=T.Il.ex
 exact⟨⟨_,_,fd,["self","value"],T.ad2,aoh F G4 rfl (by first|exact cw rfl|exact gr (cw rfl)|exact gr (gr rfl)) (by first|exact cw rfl|exact gr (cw rfl)|exact gr (gr rfl)),F.binds fun _ _ _ _ _ _ us hl=>match us,hl with| [_,_],_=>rfl⟩⟩
theorem Je:FnScope ["self","spot"] ["self","spot"] (defScope mj):=fsc
theorem Io(T:Txt K mg base a):FT P w K mg base "__getitem__" "Hang.__getitem__" mj a.jA 3 ["self","spot"] cW:=fun fd F=>qP F Je rfl (k:=2) (m:=qw) (fun _ _ _ _ _ _ hr tk po=>(gss_cons (lU (abX (Wh (xJ (pX j8 (cI (R5 T) hr.md T.V8 tk (ao (gv 1) aG)))) (O8 (dZ (Ww hr.u1 (Gy true hr.rm.units rfl)) (gv 1) (nA (uE (iy T) hr.md) (gv 0)))))) (bA (Ir (ad4 T) hr.md tk (ao (gv 1) aG))) gss_nil) (bA (cV (jZ (RP hr.u1 rH) (nA (uE (iy T) hr.md) (gv 0)) (gv 1))))))
theorem IK(T:Txt K mg base a):Callee P w K mg base 3 a.jA 2 cW:=akj T.MF (Io T)
theorem uF(T:Txt K mg base a):∀p∈qN,abK P w K mg base 5 p.1 "told" p.2:=
 fC (.prop T.iW T.uw T.oG (aaY T) (by decide)) fN
theorem Tv:FnScope ["self"] ["self"] (defScope sG):=fsc
theorem Sw(T:Txt K mg base a):FT P w K mg base "__len__" "Hang.__len__" sG a.rW 6 ["self"] fO:=fun fd F=>qP F Tv rfl (k:=5) (m:=w6) (fun _ _ _ _ _ _ hr tk po=>(bA (cV (bM fW T.yR qT (ao (nA (uE (uF T) hr.md) (gv 0)) aG)))))
theorem Tj(T:Txt K mg base a):Callee P w K mg base 6 a.rW 1 fO:=ZQ T.Vh (Sw T)
theorem adU:FnScope ["_law_script"] ["_law_script"] (defScope Eo):=fsc
theorem adF(T:Txt K mg base a):FT P w K mg base "_law_pen" "_law_pen" Eo a.DN 1 ["_law_script"] uQ:=fun fd F=>qP F adU rfl (k:=0) (m:=Nf) (fun _ _ _ _ _ _ hr tk po=>(bA (cV (iz (ao (bB Nk T.agX abS (ao (yw (gv 0) Ft (Fv ge_int)) aG)) (ao ge_int (ao ge_int aG)))))))
theorem adS(T:Txt K mg base a):Callee P w K mg base 1 a.DN 1 uQ:=ZQ T.afg (adF T)
theorem jW:FnScope ["_law_pen_here","_law_many","_law_digit","_law_at","_law_cell","_law_great","_law_mixed"] ["_law_pen_here","_law_many"] (defScope yZ):=fsc
theorem aaK(T:Txt K mg base a):FT P w K mg base "_law_draw" "_law_draw" yZ a.yK 4 ["_law_pen_here","_law_many"] g8:=fun fd F=>qP F jW rfl (k:=3) (m:=Hz) (fun _ _ _ _ _ _ hr tk po=>(gss_cons (lU (dZ acX (jZ rH (gv 0) ge_int) ge_int) (gss_cons (fB (i:=2) jW.nd (fG FJ (bB fV T.yj pW (ao (jZ rH (gv 0) ge_int) aG)) (gv 1))) (gss_cons (uK (fG Xm (bB fV T.yj pW (ao (jZ rH (gv 0) ge_int) aG)) (gv 1)) (aoq (gv 0) ge_int)) (bA (cV (gv 2))))) gss_nil) (gss_cons (fB (i:=3) jW.nd (jZ rH (gv 0) ge_int)) (gss_cons (uK (fG gq (gv 3) ge_int) (aoq (gv 0) ge_int)) (gss_cons (fB (i:=4) jW.nd (fG gq (fG Ae ge_int (gv 3)) ge_int)) (gss_cons (lU (dZ (iU (bD T) (dH T) (cG T) hr.md tk (oU hr.rm.units)) (jZ rH (gv 0) ge_int) (iz aG)) (bA (fB (i:=4) jW.nd (jZ rH (jZ rH (gv 0) ge_int) (fG FJ (bB fV T.yj pW (ao (gv 3) aG)) (bM fW T.yR qT (ao (jZ rH (gv 0) ge_int) aG)))))) gss_nil) (gss_cons (lU (abX (acH (dZ (anU hr.rm.units) (gv 3) (bM fW T.yR qT (ao (jZ rH (gv 0) ge_int) aG))) (Wg (dZ at6 (bM ZR T.asy ane (ao (gv 4) aG)) (fG Wy ge_int ge_int))))) (gss_cons (fB (i:=5) jW.nd (fG gq (fG Ae ge_int (fG aqM (bM ZR T.asy ane (ao (gv 4) aG)) (fG Wy ge_int ge_int))) (bB fV T.yj pW (ao (jJ (anU hr.rm.units) (gv 4) ge_int) aG)))) (gss_cons (uK (fG Xm (bB fV T.yj pW (ao (gv 5) aG)) (gv 1)) (aoq (gv 0) ge_int)) (bA (cV (fG FJ (bB fV T.yj pW (ao (gv 5) aG)) (gv 1)))))) gss_nil) (gss_cons (fB (i:=6) jW.nd (fG FJ (bB fV T.yj pW (ao (fG Wy (fG gq (fG gq (fG FJ (bB fV T.yj pW (ao (gv 4) aG)) ge_int) (fG Ae ge_int (gv 3))) ge_int) ge_int) aG)) ge_int)) (gss_cons (fB (i:=6) jW.nd (fG FJ (bB fV T.yj pW (ao (fG Wy (fG gq (fG gq (fG Ae (gv 6) (fG gq (fG Ae ge_int (gv 3)) ge_int)) (fG Ae (fG Ae ge_int (gv 3)) (gv 3))) ge_int) ge_int) aG)) ge_int)) (bA (cV (fG FJ (bB fV T.yj pW (ao (fG Xm (gv 6) ge_int) aG)) (gv 1)))))))))))))
theorem wH(T:Txt K mg base a):Callee P w K mg base 4 a.yK 2 g8:=akj T.adz (aaK T)
theorem aa4:FnScope ["_law_pen_here","_law_some"] ["_law_pen_here","_law_some"] (defScope za):=fsc
theorem aaL(T:Txt K mg base a):FT P w K mg base "_law_pick" "_law_pick" za a.yL 5 ["_law_pen_here","_law_some"] fD:=fun fd F=>qP F aa4 rfl (k:=4) (m:=HF) (fun _ _ _ _ _ _ hr tk po=>(bA (cV (jZ rH (gv 1) (cI (wH T) hr.md T.yO tk (ao (gv 0) (ao (bM fW T.yR qT (ao (gv 1) aG)) aG)))))))
theorem jU(T:Txt K mg base a):Callee P w K mg base 5 a.yL 2 fD:=akj T.adA (aaL T)
theorem jV(T:Txt K mg base a):∀p∈jd,Own P w K mg base 3 p.1 "__str__" 1 p.2:=
 fC (⟨⟨_,_,_,T.iW,T.fP.at_,T.fP.fn,Tn T,by decide⟩⟩) fN
theorem jj:FnScope ["_law_pen_here","_law_is_marked","_law_found","_law_places","_law_spot","_law_text","_law_mark","_law_turn"] ["_law_pen_here","_law_is_marked"] (defScope zf):=fsc
theorem aaM(T:Txt K mg base a):FT P w K mg base "_law_told" "_law_told" zf a.yM 6 ["_law_pen_here","_law_is_marked"] qW:=fun fd F=>qP F jj rfl (k:=5) (m:=HJ) (fun _ _ _ _ _ _ hr tk po=>(gss_cons (anv (i:=2) (j:=3) jj.nd (ao BJ (ao ge_int aG))) (gss_cons (Ym po (BK (afu T.aew T.awd (qj (own:=[("_law_turn",7)]) jj.nd (vf T.Fy (ao (cI (wH T) hr.md T.yO tk (ao (gv 0) (ao ge_int aG))) aG)) (blkOk_by (by rfl)) (cZ (by decide)) (fun _ _ _ _ _=>pg_name (i:=7) jj.nd rfl (cw rfl)) (fun _ _ _ _ _=>gj) (fun _ _ _ _ _=>(cI (wH T) hr.md T.yO takes0 (ao (gv 0) (ao ge_int aG))))))) (Qy (i:=4) jj.nd) (gss_cons (fB (i:=5) jj.nd (cI (jU T) hr.md T.mO tk (ao (gv 0) (ao (iz (ao ge_str (ao ge_str (ao ge_str (ao ge_str (ao ge_str (ao ge_str (ao ge_str (ao ge_str (ao ge_str aG)))))))))) aG)))) (gss_cons (lU (abX (acH (pX j8 (gv 1)) (Wg (dZ (lW rfl (fun _ _=>rfl) (bD T) (cG T) hr.md tk (kJ hr.rm.units)) (yw (gv 5) Ft (Fv ge_int)) ge_str)))) (gss_cons (fB (i:=6) jj.nd (cI (wH T) hr.md T.yO tk (ao (gv 0) (ao (fG gq (gv 3) ge_int) aG)))) (gss_cons (fB (i:=3) jj.nd (bM aiv T.awc as6 (ao (gv 3) (ao (bB fV T.yj pW (ao (fG gq (gv 6) ge_int) aG)) aG)))) (bA (fB (i:=5) jj.nd (fG gq (fG gq (gv 5) ge_str) (bB (o8 (jV T) hr.md tk) T.Jy xH (ao (gv 6) aG))))))) gss_nil) (bA (uK (gv 5) (T8 hr.u1 (gv 2) (gv 4))))))) (bA (cV (jr (ao (cI (jU T) hr.md T.mO tk (ao (gv 0) (ao (iz (ao ge_str (ao ge_str (ao ge_str aG)))) aG))) (ao (gv 2) aG))))))))
theorem aaZ(T:Txt K mg base a):Callee P w K mg base 6 a.yM 2 qW:=akj T.adB (aaM T)
theorem Ss(T:Txt K mg base a):∀p∈Dm,∃D,mg p.1=some (.ref D)/\eJ K (.ref D) (.ref a.Dy)=some p.2:=
 fC (⟨_,T.jc,T.G8⟩)<|
 fC (⟨_,T.kh,T.Jo⟩)<|
 fN
theorem XS(T:Txt K mg base a):∀p∈Dz,abK P w K mg base 0 p.1 "part" p.2:=by
 intro p hp
 unfold Dz at hp
 cases hp
theorem X3(T:Txt K mg base a):∀p∈Nb,∃C,mg p=some (.ref C)/\XfC K C/\bE K (.ref C) "part"=some none:=
 fC (⟨_,T.kh,T.ago,T.Td⟩) fN
theorem Va(T:Txt K mg base a):∀p∈yI,abK P w K mg base 0 p.1 "value" p.2:=by
 intro p hp
 unfold yI at hp
 cases hp
theorem Vb(T:Txt K mg base a):∀p∈Hv,∃C,mg p=some (.ref C)/\XfC K C/\bE K (.ref C) "value"=some none:=
 fC (⟨_,T.jc,T.ad3,T.N8⟩) fN
theorem YL:FnScope ["_law_ask","_law_caught","_law_found","error"] ["_law_ask"] (defScope wM):=fsc
theorem gW(T:Txt K mg base a){kk:Nat}(hk:0<=kk):am5 P w K mg base kk "_law_heard" "_law_ask" a.Dq 4 sW:=by
 obtain⟨fd,F⟩:=T.aaG.ex
 have sc:=YL
 refine⟨⟨wM,fd,["_law_ask","_law_caught","_law_found","error"],F,sc,rfl,rfl,(by first|exact cw rfl|exact gr (cw rfl)|exact gr (gr rfl)),?_,?_⟩⟩
 ·intro s u
  obtain⟨oc,od,kV,doc,pm,an,cdv,ct,osl,rfl,_,_⟩:=F.ex
  exact .of_eq rfl
 ·intro k th cdv A outer s H E hr tk po hact
  have hr:=hr.mono hk
  exact(gss_cons (uK (jr (ao sY (ao sY aG))) (T9 rfl (kY (i:=1) sc.nd (kY (i:=2) sc.nd Ke)))) (gss_cons (afw (i:=3) (j:=1) sc.nd tk T.afq (Ss T) (fun W pn xe tk po=>(bA (fB (i:=2) sc.nd (hact _ _ _ _ _ tk))))) (gss_cons (lU (dZ aqJ (gv 1) sY) (bA (cV (iz (ao (gv 2) aG)))) gss_nil) (gss_cons (lU (pX j8 (bM (o7 (uh T) (ug T) (oZ (uf T) (qM T) (tZ T))) T.jf gG (ao (gv 1) (ao (Wb rfl T.kh) aG)))) (bA (cV (jr (ao ge_str (ao (nA (ar7 (X3 T) (uE (XS T) hr.md)) (gv 1)) aG))))) gss_nil) (bA (cV (ge_if (pX j8 (bM (o7 (uh T) (ug T) (oZ (uf T) (qM T) (tZ T))) T.jf gG (ao (gv 1) (ao (Wb rfl T.jc) aG)))) (jr (ao ge_str (ao (nA (ar7 (Vb T) (uE (Va T) hr.md)) (gv 1)) aG))) (jr (ao ge_str (ao sY aG))))))))))
theorem aa0(T:Txt K mg base a):∀p∈Rx,Own P w K mg base 8 p.1 "__len__" 1 p.2:=
 fC (⟨⟨_,_,_,T.iW,T.fO.at_,T.fO.fn,Tj T,by decide⟩⟩) fN
theorem rR(T:Txt K mg base a):∀p∈mK,abK P w K mg base 0 p.1 "spots" p.2:=
 fC (.fld ⟨_,T.iW,T.uw,T.Kw⟩) fN
theorem lN(T:Txt K mg base a):∀p∈fJ,Own P w K mg base 5 p.1 "__getitem__" 2 p.2:=
 fC (⟨⟨_,_,_,T.iW,T.cW.at_,T.cW.fn,IK T,by decide⟩⟩) fN
theorem lM(T:Txt K mg base a):∀p∈fJ,∃C f,mg p.1=some (.ref C)/\bE K (.ref C) "__getitem__"=some (some (.ref f))/\iR K f=true:=
 fC (⟨_,_,T.iW,T.cW.at_,T.Im⟩) fN
theorem YM:FnScope ["_law_pen_here","_law_gate","_law_some","_law_given","_law_spot","_law_made","_law_whole","_law_line","_law_odd"] ["_law_pen_here","_law_gate","_law_some"] (defScope oV):=fsc
theorem Yi(T:Txt K mg base a)(fd:FuncData)(F:Fun K "_law_right" "_law_right" oV a.sX fd)(hc:fd.code=.ref a.wB):FnD P w K mg base 9 a.sX fd ["_law_pen_here","_law_gate","_law_some"] oM:=by
 have sc:=YM
 exact aoo F hc sc rfl (k:=8) (m:=Di) (fun _ _ _ _ _ hr tk po=>(gss_cons (fB (i:=3) sc.nd BJ) (gss_cons (Ym po (BK (atj (bB (RL Nk) T.agX abS (ao (gv 2) aG)))) (Qy (i:=4) sc.nd) (bA (uK (jZ (RP hr.u1 rH) (gv 2) (gv 4)) (T8 hr.u1 (gv 3) (gv 4))))) (gss_cons (uK (jr (ao (lH T.jR (bG T) hr.md tk (ao (gv 1) (ao (gv 3) aG))) (ao (oJ (qj (own:=[("_law_spot",4)]) sc.nd (kZ (gv 2)) (blkOk_by (by rfl)) (cZ (by decide)) (fun _ _ _ _ _=>pg_name (i:=4) sc.nd rfl (cw rfl)) (fun _ _ _ _ _=>Kg (dZ (iU (bD T) (dH T) (cG T) hr.md takes0 (oU hr.rm.units)) (jZ (RP hr.u1 rH) (gv 2) (gv 4)) ge_str)) (fun _ _ _ _ _=>(gv 4)))) aG))) (T9 rfl (kY (i:=5) sc.nd (kY (i:=6) sc.nd Ke)))) (gss_cons (uK ge_str (T8 hr.u1 (gv 3) ge_int)) (gss_cons (lU (dZ (iU (bD T) (dH T) (cG T) hr.md tk (oU hr.rm.units)) (bM (DG hr) T.acS V2 (ao (iz (ao (nA (uE (zA T) hr.md) (gv 5)) (ao (nA (uE (rR T) hr.md) (gv 5)) (ao (nA (uE (uF T) hr.md) (gv 5)) (ao (bM (aiu (aa0 T) hr.md tk fW) T.yR qT (ao (gv 5) aG)) aG))))) aG)) (bM (DG hr) T.acS V2 (ao (iz (ao (gv 1) (ao (bB (Oi qU) T.Kv Bv (ao (gv 2) aG)) (ao (bB qU T.Kv Bv (ao (gv 6) aG)) (ao (bM fW T.yR qT (ao (gv 6) aG)) aG))))) aG))) (bA (cV vJ)) gss_nil) (gss_cons (lU (dZ (iU (bD T) (dH T) (cG T) hr.md tk (oU hr.rm.units)) (oJ (qj (own:=[("_law_spot",4)]) sc.nd (kZ (gv 2)) (blkOk_by (by rfl)) (cZ (by decide)) (fun _ _ _ _ _=>pg_name (i:=4) sc.nd rfl (cw rfl)) (fun _ _ _ _ _=>gj) (fun _ _ _ _ _=>(Yl (Yq (lN T) (lM T) hr.md takes0 rH) (gv 5) (gv 4))))) (oJ (qj (own:=[("_law_spot",4)]) sc.nd (kZ (gv 2)) (blkOk_by (by rfl)) (cZ (by decide)) (fun _ _ _ _ _=>pg_name (i:=4) sc.nd rfl (cw rfl)) (fun _ _ _ _ _=>gj) (fun _ _ _ _ _=>(jZ (RP hr.u1 rH) (gv 2) (gv 4)))))) (bA (cV vJ)) gss_nil) (gss_cons (fB (i:=7) sc.nd (Am cb dP dE Bo ge_str (ao (oJ (qj (own:=[("_law_spot",4)]) sc.nd (kZ (gv 2)) (blkOk_by (by rfl)) (cZ (by decide)) (fun _ _ _ _ _=>pg_name (i:=4) sc.nd rfl (cw rfl)) (fun _ _ _ _ _=>gj) (fun _ _ _ _ _=>(fG gq (fG gq (bB (o8 (jV T) hr.md takes0) T.Jy xH (ao (gv 4) aG)) ge_str) (jZ (RP hr.u1 rH) (gv 2) (gv 4)))))) aG))) (gss_cons (lU (dZ (iU (bD T) (dH T) (cG T) hr.md tk (oU hr.rm.units)) (bB (o8 (jV T) hr.md tk) T.Jy xH (ao (gv 5) aG)) (fG gq (fG gq (gv 1) ge_str) (ge_if (dZ (iU (bD T) (dH T) (cG T) hr.md tk (oU hr.rm.units)) (gv 7) ge_str) (gv 7) ge_str))) (bA (cV vJ)) gss_nil) (gss_cons (fB (i:=8) sc.nd (cI (jU T) hr.md T.mO tk (ao (gv 0) (ao (fG gq (iz (ao (asi aio ge_int) (ao ge_int (ao sY (ao vJ (ao ge_str (ao (jr (ao ge_int aG)) (ao (iz aG) (ao BJ aG))))))))) (qj (own:=[("_law_spot",4)]) sc.nd (vf T.Fy (ao ge_int aG)) (blkOk_by (by rfl)) (cZ (by decide)) (fun _ _ _ _ _=>pg_name (i:=4) sc.nd rfl (cw rfl)) (fun _ _ _ _ _=>Kg (dZ (Ww hr.u1 (Gy true hr.rm.units rfl)) (gv 4) (gv 2))) (fun _ _ _ _ _=>(gv 4)))) aG)))) (bA (cV (jJ (lW rfl (fun _ _=>rfl) (bD T) (cG T) hr.md tk (kJ hr.rm.units)) (bM (DG hr) T.acS V2 (ao (Kd (kk:=5) (i:=0) (xd:="_law_right") (gW T (by decide)) gU rfl T.jP (T.tb ("_law_right",a.wB,a.Dh) (bw (show(aax a)[0]?=some _ from rfl))) rfl (T.Ds.tq T.Dr) (T.Ds.uniq T.Dr) hr.md tk (ft (sc:=defScope oV) (by decide+kernel)) rfl (fun _ _ _ _ _=>rfl) (fun _ _ _ _ _ _ _ hr tk=>(Yl (Yq (lN T) (lM T) hr.md tk rH) (gv 5) (gv 8)))) aG)) (bM (DG hr) T.acS V2 (ao (jr (ao ge_str (ao (gv 8) aG))) aG)))))))))))))))
theorem YF(T:Txt K mg base a):Callee P w K mg base 9 a.sX 3 oM:=by
 obtain⟨fd,F,hc⟩:=T.Ds.ex
 exact⟨⟨fd,["_law_pen_here","_law_gate","_law_some"],rfl,Yi T fd F hc,F.binds fun _ _ _ _ _ _ us hl=>match us,hl with| [_,_,_],_=>rfl⟩,F.kp⟩
theorem qZ(T:Txt K mg base a):JR P w K mg base 3 a.ni 3 1 ["outcomes","port"] [0,2,1] aV:=
 Callee.kw (ps:=["self","port","outcomes"]) T.DK (zX T) rfl fun _ _ _ _ _ _ us ws hu hw=>match us,ws,hu,hw with| [_],[_,_],_,_=>rfl
theorem wk(T:Txt K mg base a):JR P w K mg base 5 a.uI 2 0 ["port","spots"] [0,1] nD:=
 Callee.kw (ps:=["port","spots"]) T.Yd (Vn T) rfl fun _ _ _ _ _ _ us ws hu hw=>match us,ws,hu,hw with| [],[_,_],_,_=>rfl
theorem bV:FnScope ["_law_gate","_law_some","_law_made","_law_is_marked","_law_spot","_law_other","_law_less","_law_bare","_law_whole","_law_text"] ["_law_gate","_law_some"] (defScope mD):=fsc
theorem Ip(T:Txt K mg base a):FT P w K mg base "_law_equal_right" "_law_equal_right" mD a.lX 6 ["_law_gate","_law_some"] fY:=fun fd F=>qP F bV rfl (k:=5) (m:=qC) (fun _ _ _ _ _ _ hr tk po=>(gss_cons (fB (i:=2) bV.nd (lH T.jR (bG T) hr.md tk (ao (gv 0) (ao (gv 1) aG)))) (gss_cons (lU (abX (Wh (dZ (iU (bD T) (dH T) (cG T) hr.md tk (oU hr.rm.units)) (gv 2) (aft T.jR (qZ T) hr.md tk (Wf (bB uG T.Pg Fp (ao (gv 1) aG)) (Wf (gv 0) anu)))) (O8 (dZ (lW rfl (fun _ _=>rfl) (bD T) (cG T) hr.md tk (kJ hr.rm.units)) (gv 2) (lH T.jR (bG T) hr.md tk (ao ge_str (ao (gv 1) aG))))))) (bA (cV vJ)) gss_nil) (gss_cons (lU (dZ (aqH (bD T) (qM T) hr.md tk (Gy false hr.rm.units rfl)) (gv 2) (iz (ao sY (ao (gv 0) (ao (gv 1) (ao (bB (o8 (jV T) hr.md tk) T.Jy xH (ao (gv 2) aG)) aG)))))) (bA (cV vJ)) gss_nil) (gss_cons (fB (i:=3) bV.nd (jJ (iU (bD T) (dH T) (cG T) hr.md tk (oU hr.rm.units)) (oJ (qj (own:=[("_law_text",9)]) bV.nd (alv (gv 1)) (blkOk_by (by rfl)) (cZ (by decide)) (fun _ _ _ _ _=>pg_name (i:=9) bV.nd rfl (cw rfl)) (fun _ _ _ _ _=>Kg (dZ (lW rfl (fun _ _=>rfl) (bD T) (cG T) hr.md takes0 (kJ hr.rm.units)) (bM fW T.yR qT (ao (Am cb fx fw Jx (gv 9) (ao ge_str aG)) aG)) ge_int)) (fun _ _ _ _ _=>ge_int))) (iz aG))) (gss_cons (apQ (Ym po (kZ (gv 1)) (Qy (i:=4) bV.nd) (gss_cons (anv (i:=5) (j:=6) bV.nd (ao (bB uG T.Pg Fp (ao (gv 1) aG)) (ao (bB uG T.Pg Fp (ao (gv 1) aG)) aG))) (gss_cons (uK (ge_if (dZ (iU (bD T) (dH T) (cG T) hr.md tk (oU hr.rm.units)) (jZ (RP hr.u1 rH) (gv 1) (gv 4)) ge_str) ge_str ge_str) (T8 hr.u1 (gv 5) (gv 4))) (gss_cons (Kf (Am PySem.F.plainAttrs_dict PySem.F.slot_dict_pop PySem.F.type_dict_pop alX (gv 6) (ao (gv 4) aG))) (bA (lU (abX (acH (xJ (pX j8 (gv 3))) (Wg (abX (Wh (dZ (lW rfl (fun _ _=>rfl) (bD T) (cG T) hr.md tk (kJ hr.rm.units)) (gv 2) (lH T.jR (bG T) hr.md tk (ao (gv 0) (ao (gv 5) aG)))) (O8 (dZ (lW rfl (fun _ _=>rfl) (bD T) (cG T) hr.md tk (kJ hr.rm.units)) (gv 2) (lH T.jR (bG T) hr.md tk (ao (gv 0) (ao (gv 6) aG)))))))))) (bA (cV vJ)) gss_nil))))))) (gss_cons (uK (jr (ao (alu T.iW T.xG.choose_spec.1 T.xG.choose_spec.2.1 T.xG.choose_spec.2.2 (wk T) hr.md tk (Wb rfl T.iW) (Wf (gv 0) (Wf (bB (Oi qU) T.Kv Bv (ao (gv 1) aG)) anu))) (ao (bB (RL Nk) T.agX abS (ao (gv 1) aG)) aG))) (T9 rfl (kY (i:=7) bV.nd (kY (i:=8) bV.nd Ke)))) (gss_cons (lU (dZ (iU (bD T) (dH T) (cG T) hr.md tk (oU hr.rm.units)) (qj (own:=[("_law_spot",4)]) bV.nd (BK (gv 8)) (blkOk_by (by rfl)) (cZ (by decide)) (fun _ _ _ _ _=>pg_name (i:=4) bV.nd rfl (cw rfl)) (fun _ _ _ _ _=>gj) (fun _ _ _ _ _=>(Yl (Yq (lN T) (lM T) hr.md takes0 rH) (gv 7) (gv 4)))) (fG Ae (iz (ao ge_str aG)) (bM fW T.yR qT (ao (gv 8) aG)))) (bA (cV vJ)) gss_nil) (bA (cV (uJ j8 (jJ (lW rfl (fun _ _=>rfl) (bD T) (cG T) hr.md tk (kJ hr.rm.units)) (nA (uE (uF T) hr.md) (gv 7)) (jr aG)) (zF (jJ (lW rfl (fun _ _=>rfl) (bD T) (cG T) hr.md tk (kJ hr.rm.units)) (nA (uE (rR T) hr.md) (gv 7)) (bB qU T.Kv Bv (ao (gv 8) aG)))))))))))))))
theorem IV(T:Txt K mg base a):Callee P w K mg base 6 a.lX 2 fY:=akj T.MJ (Ip T)
theorem Fd:FnScope ["_law_pen_here","_law_ports","_law_lots","_law_texts","_law_gate","_law_lot","_law_text","_law_marks","_law_heard_here"] ["_law_pen_here"] (defScope bZ):=fsc
theorem Ew(T:Txt K mg base a)(fd:FuncData)(F:Fun K "_law_refused_right" "_law_refused_right" bZ a.gH fd)(hc:fd.code=.ref a.dD):FnD P w K mg base 8 a.gH fd ["_law_pen_here"] eZ:=by
 have sc:=Fd
 exact aoo F hc sc rfl (k:=7) (m:=nY) (fun _ _ _ _ _ hr tk po=>(gss_cons (fB (i:=1) sc.nd (iz (ao sY (ao ge_str (ao ge_str (ao ge_str (ao ge_str (ao ge_str (ao (jr (ao ge_str (ao ge_int aG))) (ao ge_int (ao vJ (ao (iz (ao ge_str aG)) (ao ge_str (ao ge_str aG)))))))))))))) (gss_cons (fB (i:=2) sc.nd (iz (ao sY (ao (iz aG) (ao ge_str (ao (abW hr.u1 vJ ge_str) (ao (ux (jQ (asi aio ge_int) ge_str zG)) (ao (ux (jQ ge_int ge_str zG)) (ao (ux (jQ ge_str ge_str zG)) (ao (abW hr.u1 sY ge_str) (ao (abW hr.u1 (jr (ao ge_int aG)) ge_str) (ao ge_int aG)))))))))))) (gss_cons (fB (i:=3) sc.nd (iz (ao ge_str (ao ge_str (ao ge_str (ao ge_str (ao ge_str (ao ge_str (ao ge_str (ao ge_str (ao ge_str (ao ge_str aG)))))))))))) (gss_cons (fB (i:=3) sc.nd (fG gq (gv 3) (iz (ao ge_str (ao ge_str (ao ge_str (ao ge_str (ao ge_str (ao sY (ao ge_int (ao ge_str (ao ge_str (ao ge_str (ao ge_str aG)))))))))))))) (gss_cons (fB (i:=3) sc.nd (fG gq (gv 3) (iz (ao (iz (ao ge_str aG)) (ao (jr (ao ge_str aG)) (ao ge_str (ao ge_str (ao vJ aG)))))))) (gss_cons (uK (jr (ao (cI (jU T) hr.md T.mO tk (ao (gv 0) (ao (gv 1) aG))) (ao (cI (jU T) hr.md T.mO tk (ao (gv 0) (ao (gv 2) aG))) (ao (cI (jU T) hr.md T.mO tk (ao (gv 0) (ao (gv 3) aG))) aG)))) (T9 rfl (kY (i:=4) sc.nd (kY (i:=5) sc.nd (kY (i:=6) sc.nd Ke))))) (gss_cons (fB (i:=7) sc.nd (iz (ao (ux (jQ ge_int ge_str (jQ ge_int ge_str zG))) (ao (ux (jQ ge_int ge_str (jQ ge_int ge_str zG))) (ao (ux (jQ ge_int ge_str zG)) aG))))) (gss_cons (Kf (Am dq dg df yh (gv 7) (ao (ux (jQ ge_int ge_str (jQ ge_int ge_str zG))) aG))) (gss_cons (fB (i:=8) sc.nd (iz (ao (Kd (kk:=5) (i:=1) (xd:="_law_refused_right") (gW T (by decide)) gU rfl T.jP (T.tb ("_law_refused_right",a.dD,a.dU) (bw (show(aax a)[1]?=some _ from rfl))) rfl (T.bQ.tq T.bO) (T.bQ.uniq T.bO) hr.md tk (ft (sc:=defScope bZ) (by decide+kernel)) rfl (fun _ _ _ _ _=>rfl) (fun _ _ _ _ _ _ _ hr tk=>(lH T.jR (bG T) hr.md tk (ao (gv 4) (ao (cI (jU T) hr.md T.mO tk (ao (gv 0) (ao (iz (ao (gv 5) (ao (ux (jQ ge_int (gv 6) zG)) (ao BJ (ao (jZ rH (gv 7) ge_int) aG))))) aG))) aG))))) aG))) (gss_cons (Kf (Am dq dg df yh (gv 8) (ao (Kd (kk:=4) (i:=1) (xd:="_law_refused_right") (gW T (by decide)) gU rfl T.jP (T.tb ("_law_refused_right",a.dD,a.dU) (bw (show(aax a)[1]?=some _ from rfl))) rfl (T.bQ.tq T.bO) (T.bQ.uniq T.bO) hr.md tk (ft (sc:=defScope bZ) (by decide+kernel)) rfl (fun _ _ _ _ _=>rfl) (fun _ _ _ _ _ _ _ hr tk=>(lH T.jR (bG T) hr.md tk (ao ge_str (ao (gv 5) aG))))) aG))) (gss_cons (Kf (Am dq dg df yh (gv 8) (ao (Kd (kk:=4) (i:=1) (xd:="_law_refused_right") (gW T (by decide)) gU rfl T.jP (T.tb ("_law_refused_right",a.dD,a.dU) (bw (show(aax a)[1]?=some _ from rfl))) rfl (T.bQ.tq T.bO) (T.bQ.uniq T.bO) hr.md tk (ft (sc:=defScope bZ) (by decide+kernel)) rfl (fun _ _ _ _ _=>rfl) (fun _ _ _ _ _ _ _ hr tk=>(lH T.jR (bG T) hr.md tk (ao ge_str (ao (ux (jQ ge_int ge_str (jQ ge_int (gv 6) zG))) aG))))) aG))) (gss_cons (Kf (Am dq dg df yh (gv 8) (ao (Kd (kk:=4) (i:=1) (xd:="_law_refused_right") (gW T (by decide)) gU rfl T.jP (T.tb ("_law_refused_right",a.dD,a.dU) (bw (show(aax a)[1]?=some _ from rfl))) rfl (T.bQ.tq T.bO) (T.bQ.uniq T.bO) hr.md tk (ft (sc:=defScope bZ) (by decide+kernel)) rfl (fun _ _ _ _ _=>rfl) (fun _ _ _ _ _ _ _ hr tk=>(lH T.jR (bG T) hr.md tk (ao ge_str (ao (ux (jQ ge_int (gv 6) (jQ ge_int ge_str (jQ ge_int ge_str zG)))) aG))))) aG))) (gss_cons (Kf (Am dq dg df yh (gv 8) (ao (Kd (kk:=5) (i:=1) (xd:="_law_refused_right") (gW T (by decide)) gU rfl T.jP (T.tb ("_law_refused_right",a.dD,a.dU) (bw (show(aax a)[1]?=some _ from rfl))) rfl (T.bQ.tq T.bO) (T.bQ.uniq T.bO) hr.md tk (ft (sc:=defScope bZ) (by decide+kernel)) rfl (fun _ _ _ _ _=>rfl) (fun _ _ _ _ _ _ _ hr tk=>(lH T.jR (bG T) hr.md tk (ao ge_str (ao (cI (jU T) hr.md T.mO tk (ao (gv 0) (ao (gv 7) aG))) aG))))) aG))) (bA (cV (jJ (lW rfl (fun _ _=>rfl) (bD T) (cG T) hr.md tk (kJ hr.rm.units)) (gv 8) (iz (ao (jr (ao ge_str (ao ge_str aG))) (ao (jr (ao ge_str (ao ge_str aG))) (ao (jr (ao ge_str (ao ge_str aG))) (ao (jr (ao ge_str (ao ge_str aG))) (ao (jr (ao ge_str (ao ge_str aG))) aG)))))))))))))))))))))))
theorem EY(T:Txt K mg base a):Callee P w K mg base 8 a.gH 1 eZ:=by
 obtain⟨fd,F,hc⟩:=T.bQ.ex
 exact⟨⟨fd,["_law_pen_here"],rfl,Ew T fd F hc,F.binds fun _ _ _ _ _ _ us hl=>match us,hl with| [_],_=>rfl⟩,F.kp⟩
theorem aul:FnScope ["_law_script","_law_pen_here","_law_turn","_law_gate","_law_some","_law_wide","_law_made","_law_wrong","_law_twice","_law_fine","_law_spot"] ["_law_script"] (defScope Zx):=fsc
theorem at5(D:Oa K "law" "law" Zx a.ajC a.afc a.ae7)(T:∀base:Heap,(∀p∈aax a,fc base mg p.2.1 p.2.2)->Txt K mg base a):∃fd:FuncData,(∀(s:Shared)(u:Value),BindsTo s fd ⟨[u],[]⟩ [("_law_script",u)])/\∀base:Heap,K.In base->base.Ns mainGlobals mg->(∀p∈aax a,fc base mg p.2.1 p.2.2)->FnD P w K mg base 10 a.ajC fd ["_law_script"] afD:=by
 have sc:=aul
 exact D.law (ts:=aax a) sc (fun _ _ _ _ _ _ _=>rfl) (fun base tb=>have T:=T base tb;fun _ _ _ _ _ hr tk po=>(gss_cons (fB (i:=1) sc.nd (cI (adS T) hr.md T.afr tk (ao (gv 0) aG))) (gss_cons (Ym po (vf T.Fy (ao ge_int aG)) (Qy (i:=2) sc.nd) (gss_cons (uK (cI (aaZ T) hr.md T.adH tk (ao (gv 1) (ao (jJ acX (gv 2) ge_int) aG))) (T9 rfl (kY (i:=3) sc.nd (kY (i:=4) sc.nd Ke)))) (bA (lU (abX (Wh (xJ (pX j8 (cI (YF T) hr.md T.Dr tk (ao (gv 1) (ao (gv 3) (ao (gv 4) aG)))))) (Wh (xJ (pX j8 (cI (IV T) hr.md T.MP tk (ao (gv 3) (ao (gv 4) aG))))) (O8 (xJ (pX j8 (cI (EY T) hr.md T.bO tk (ao (gv 1) aG)))))))) (bA (cV vJ)) gss_nil)))) (gss_cons (fB (i:=5) sc.nd (bB uG T.Pg Fp (ao (qj (own:=[("_law_spot",10)]) sc.nd (vf T.Fy (ao ge_int aG)) (blkOk_by (by rfl)) (cZ (by decide)) (fun _ _ _ _ _=>pg_name (i:=10) sc.nd rfl (cw rfl)) (fun _ _ _ _ _=>gj) (fun _ _ _ _ _=>(jr (ao (gv 10) (ao (fG gq ge_str (bB (o8 (jV T) hr.md takes0) T.Jy xH (ao (gv 10) aG))) aG))))) aG))) (gss_cons (uK (jr (ao (lH T.jR (bG T) hr.md tk (ao ge_str (ao (gv 5) aG))) (ao (bB uG T.Pg Fp (ao (gv 5) aG)) (ao (bB uG T.Pg Fp (ao (gv 5) aG)) aG)))) (T9 rfl (kY (i:=6) sc.nd (kY (i:=7) sc.nd (kY (i:=8) sc.nd Ke))))) (gss_cons (uK (jr (ao ge_str (ao ge_str aG))) (apM (T8 hr.u1 (gv 7) ge_int) (T8 hr.u1 (gv 8) ge_int))) (gss_cons (lU (dZ (iU (bD T) (dH T) (cG T) hr.md tk (oU hr.rm.units)) (qj (own:=[("_law_spot",10)]) sc.nd (vf T.Fy (ao ge_int aG)) (blkOk_by (by rfl)) (cZ (by decide)) (fun _ _ _ _ _=>pg_name (i:=10) sc.nd rfl (cw rfl)) (fun _ _ _ _ _=>gj) (fun _ _ _ _ _=>(Yl (Yq (lN T) (lM T) hr.md takes0 rH) (gv 6) (gv 10)))) (qj (own:=[("_law_spot",10)]) sc.nd (vf T.Fy (ao ge_int aG)) (blkOk_by (by rfl)) (cZ (by decide)) (fun _ _ _ _ _=>pg_name (i:=10) sc.nd rfl (cw rfl)) (fun _ _ _ _ _=>gj) (fun _ _ _ _ _=>(jZ (RP hr.u1 rH) (gv 5) (gv 10))))) (bA (cV vJ)) gss_nil) (gss_cons (lU (dZ (iU (bD T) (dH T) (cG T) hr.md tk (oU hr.rm.units)) (bB (o8 (jV T) hr.md tk) T.Jy xH (ao (gv 6) aG)) (fG gq ge_str (Am cb dP dE Bo ge_str (ao (qj (own:=[("_law_spot",10)]) sc.nd (vf T.Fy (ao ge_int aG)) (blkOk_by (by rfl)) (cZ (by decide)) (fun _ _ _ _ _=>pg_name (i:=10) sc.nd rfl (cw rfl)) (fun _ _ _ _ _=>gj) (fun _ _ _ _ _=>(fG gq (fG gq (bB (o8 (jV T) hr.md takes0) T.Jy xH (ao (gv 10) aG)) ge_str) (jZ (RP hr.u1 rH) (gv 5) (gv 10))))) aG)))) (bA (cV vJ)) gss_nil) (gss_cons (lU (dZ (iU (bD T) (dH T) (cG T) hr.md tk (oU hr.rm.units)) (Kd (kk:=4) (i:=2) (xd:="law") (gW T (by decide)) gU rfl T.jP (T.tb ("law",a.afc,a.ae7) (bw (show(aax a)[2]?=some _ from rfl))) rfl (T.ajN.tq T.ajF) (T.ajN.uniq T.ajF) hr.md tk (ft (sc:=defScope Zx) (by decide+kernel)) rfl (fun _ _ _ _ _=>rfl) (fun _ _ _ _ _ _ _ hr tk=>(lH T.jR (bG T) hr.md tk (ao ge_str (ao (gv 7) aG))))) (jr (ao ge_str (ao ge_str aG)))) (bA (cV vJ)) gss_nil) (gss_cons (lU (dZ (iU (bD T) (dH T) (cG T) hr.md tk (oU hr.rm.units)) (Kd (kk:=5) (i:=2) (xd:="law") (gW T (by decide)) gU rfl T.jP (T.tb ("law",a.afc,a.ae7) (bw (show(aax a)[2]?=some _ from rfl))) rfl (T.ajN.tq T.ajF) (T.ajN.uniq T.ajF) hr.md tk (ft (sc:=defScope Zx) (by decide+kernel)) rfl (fun _ _ _ _ _=>rfl) (fun _ _ _ _ _ _ _ hr tk=>(Yl (Yq (lN T) (lM T) hr.md tk rH) (lH T.jR (bG T) hr.md tk (ao ge_str (ao (gv 8) aG))) ge_int))) (iz (ao ge_str aG))) (bA (cV vJ)) gss_nil) (gss_cons (fB (i:=9) sc.nd (lH T.jR (bG T) hr.md tk (ao ge_str (ao (ux (jQ ge_int ge_str (jQ ge_int ge_str zG))) aG)))) (gss_cons (lU (abX (Wh (dZ (iU (bD T) (dH T) (cG T) hr.md tk (oU hr.rm.units)) (nA (uE (rR T) hr.md) (lH T.jR (bG T) hr.md tk (ao ge_str (ao BJ aG)))) (jr aG)) (O8 (dZ (iU (bD T) (dH T) (cG T) hr.md tk (oU hr.rm.units)) (bB (o8 (jV T) hr.md tk) T.Jy xH (ao (lH T.jR (bG T) hr.md tk (ao ge_str (ao BJ aG))) aG)) ge_str)))) (bA (cV vJ)) gss_nil) (bA (cV (uJ j8 (jJ (lW rfl (fun _ _=>rfl) (bD T) (cG T) hr.md tk (kJ hr.rm.units)) (nA (uE (rR T) hr.md) (gv 9)) (jr (ao ge_int (ao ge_int aG)))) (zF (jJ (lW rfl (fun _ _=>rfl) (bD T) (cG T) hr.md tk (kJ hr.rm.units)) (nA (uE (uF T) hr.md) (gv 9)) (jr (ao ge_int (ao ge_int aG))))))))))))))))))))
end
theorem alq{P:Program}{w:World}{K:Fg}{h:Heap}{mg:Str->Option Value}{fa:Addr}(X:K.In h)(G:h.Ns mainGlobals mg)(c:acn HD K h)(hfa:mg "law"=some (.ref fa)):∃ts:Tbs,ts.sto=[.tab "_law_right",.tab "_law_refused_right",.tab "law"]/\(∀p∈ts,h.get? p.2.2=some {cls:=.none,data:=.fields #[]})/\aok K mg ts/\∃fd:FuncData,(∀(s:Shared)(u:Value),BindsTo s fd ⟨[u],[]⟩ [("_law_script",u)])/\∀base:Heap,K.In base->base.Ns mainGlobals mg->(∀p∈ts,fc base mg p.2.1 p.2.2)->FnD P w K mg base 10 fa fd ["_law_script"] afD:=by
 have e0:=agb (show axK K=true from c.fact 0)
 have e1:=agb (show axL K=true from c.fact 1)
 have e2:=agb (show axM K=true from c.fact 2)
 have e3:=agb (show axN K=true from c.fact 3)
 have e4:=agb (show axO K=true from c.fact 4)
 have e5:=agb (show axP K=true from c.fact 5)
 have e6:=agb (show axQ K=true from c.fact 6)
 have e7:=agb (show axR K=true from c.fact 7)
 have e8:=agb (show axS K=true from c.fact 8)
 obtain⟨anR,anT,an7,anC,anm,anZ,am9,ang,anj,aaU,aaD⟩:=jo (c.def_ 0) e1.z22
 obtain⟨ajS,ajW,akb,ajL,ajA,aj5,ajp,ajs,ajw,Vr,Vd⟩:=jo (c.def_ 1) e1.z23
 obtain⟨ao2,ao6,ape,aoY,aoU,apa,aoI,aoM,aoQ,adN,adt⟩:=jo (c.def_ 2) e1.z24
 obtain⟨ao0,ao4,apc,aoW,aoS,ao8,aoG,aoK,aoO,adL,adp⟩:=jo (c.def_ 3) e2.z0
 obtain⟨ak2,ak7,alh,akX,akS,alc,akD,akI,akN,Yw,Yb⟩:=jo (c.def_ 4) e2.z1
 obtain⟨ajT,ajX,akc,ajM,ajB,aj6,ajq,ajt,ajx,Vs,Ve⟩:=jo (c.def_ 5) e2.z2
 obtain⟨ao1,ao5,apd,aoX,aoT,ao9,aoH,aoL,aoP,adM,adq⟩:=jo (c.def_ 6) e2.z3
 obtain⟨asC,asF,asU,aso,asf,asK,ar5,ar8,ase,aiX,ait⟩:=jo (c.def_ 7) e2.z4
 obtain⟨ao3,ao7,apf,aoZ,aoV,apb,aoJ,aoN,aoR,adP,adu⟩:=jo (c.def_ 8) e2.z5
 obtain⟨acU,acV,ac8,acM,acC,ac5,acp,acv,acz,Iu,Ii⟩:=jo (c.def_ 9) e2.z6
 obtain⟨aby,abB,abH,abv,abr,abE,abh,abl,abo,Gq,Gj⟩:=jo (c.def_ 10) e2.z7
 obtain⟨ae3,ae4,ae6,ae2,ae1,ae5,aeY,aeZ,ae0,N7,NQ⟩:=jo (c.def_ 11) e2.z8
 obtain⟨ahR,ahT,ah6,ahH,ahr,ahY,ag9,ahj,aho,S9,Sh⟩:=jo (c.def_ 12) e2.z9
 obtain⟨agA,agC,agG,agy,agw,agE,agq,ags,agu,QM,Qu⟩:=jo (c.def_ 13) e2.z10
 obtain⟨ahS,ahU,ah7,ahI,ahs,ahZ,aha,ahk,ahp,Tc,Sq⟩:=jo (c.def_ 14) e2.z11
 obtain⟨akY,ak3,ald,akT,akO,ak8,akz,akE,akJ,Ys,X5⟩:=jo (c.def_ 15) e2.z12
 obtain⟨aak,aal,aat,aae,Z0,aan,ZG,ZS,ZX,Ey,Eu⟩:=jo (c.def_ 16) e2.z13
 obtain⟨abz,abC,abI,abw,abt,abF,abj,abm,abp,Gr,Gk⟩:=jo (c.def_ 17) e2.z14
 obtain⟨agz,agB,agF,agx,agv,agD,agp,agr,agt,QK,Qt⟩:=jo (c.def_ 18) e2.z15
 obtain⟨anQ,anS,an6,anB,anl,anY,am8,anf,ani,aaT,aaC⟩:=jo (c.def_ 19) e2.z16
 obtain⟨akZ,ak4,ale,akU,akP,ak9,akA,akF,akK,Yt,X6⟩:=jo (c.def_ 20) e2.z17
 obtain⟨ak0,ak5,alf,akV,akQ,ala,akB,akG,akL,Yu,X7⟩:=jo (c.def_ 21) e2.z18
 obtain⟨ak1,ak6,alg,akW,akR,alb,akC,akH,akM,Yv,X8⟩:=jo (c.def_ 22) e2.z19
 obtain⟨ajQ,ajU,aj8,ajJ,ajy,aj3,ajn,ajr,aju,Vq,Vc⟩:=jo (c.def_ 23) e2.z20
 obtain⟨ajR,ajV,aj9,ajK,ajz,aj4,ajo,ajv,Hl,Hf⟩:=agO (c.def_ 24) e2.z21 e2.z22
 obtain⟨ahl,ahq,ahn,vO,akf,vI⟩:=ag4 e2.z23
 obtain⟨abA,abD,abJ,abx,abu,abG,abk,abn,abq,Gu,Gm⟩:=jo (c.def_ 25) e2.z24
 obtain⟨Zf,Zg,Zi,Ze,Zd,Zh,Za,Zb,rJ,rC⟩:=agO (c.def_ 26) e3.z0 e3.z1
 obtain⟨Xy,XC,Xz,lD,Zj,lC⟩:=ag4 e3.z2
 obtain⟨avk,avl,avn,avj,avi,avm,avf,avh,ab2,abT⟩:=agO (c.def_ 27) e3.z3 e3.z4
 obtain⟨auT,auV,auU,PL,avo,PB⟩:=ag4 e3.z5
 obtain⟨_,_,_,_,_,_,_,_,_,_,_,_,_,_,abg⟩:=aog e1.z4
 obtain⟨_,_,_,_,_,_,_,_,_,_,_,_,_,_,Y9⟩:=aog e1.z5
 have e:=hfa.symm.trans (aI X G (od e1.z2))
 cases e
 refine⟨[("_law_right",(oh K),(lQ K)),("_law_refused_right",(fH K),(dX K)),("law",(Qs K),(JQ K))],rfl,?_,⟨?_,?_,?_,?_⟩,at5 (a:=⟨(aZ K),(bL K),(bY K),(sS K),(oA K),(vq K),(vm K),(pU K),(oE K),(vp K),(Bb K),(vA K),(iJ K),(eY K),(ig K),(jG K),(jm K),(mX K),(pN K),(eG K),(dR K),(kE K),(jk K),(sO K),(pO K),(pP K),(pQ K),(je K),(ou K),(oh K),(lQ K),(jB K),(mY K),(gD K),(fH K),(dX K),(dF K),(Qs K),(JQ K),(Fl K)⟩) (Fq ab2 abT e8.z9 (Bw PL PB)) (fun base tb=>⟨⟨aI X G (od e0.z0),⟨e4.z12,e4.z13,e4.z14,(od e4.z15)⟩,(od e1.z6),(od e4.z9),(od e4.z10),(od e4.z11)⟩,
  aI X G (od e0.z0),
  (od e3.z9),
  (od e3.z10),
  (od e3.z11),
  (od e3.z12),
  (od e3.z13),
  (od e3.z14),
  (od e3.z15),
  (od e3.z16),
  atY (od e3.z17) (od e3.z18) (od e3.z19) (od e3.z20) (od e3.z21) (od e3.z22) (od e3.z23),
  bz X G (od e4.z16),
  ⟨(od e1.z8),(od e4.z18),(od e4.z19),e4.z20,(od e1.z7),(od e4.z9),(od e4.z10),(od e4.z17)⟩,
  ⟨(od e1.z10),(od e4.z22),(od e4.z23),e4.z24,(od e1.z9),(od e4.z9),(od e4.z10),(od e4.z21)⟩,
  (od e3.z24),
  aI X G (od e0.z1),
  aI X G (od e0.z2),
  (od e4.z0),
  (od e4.z1),
  (od e4.z2),
  (od e4.z3),
  (od e4.z4),
  (od e4.z5),
  (od e4.z6),
  (od e4.z7),
  (od e4.z8),
  bz X G (od e5.z0),
  bz X G (od e5.z1),
  jD aaU aaD e5.z2,
  aI X G (od e0.z3),
  jD Vr Vd e5.z3,
  bz X G (od e5.z4),
  bz X G (od e5.z5),
  ⟨_,aI X G (od e0.z4)⟩,
  ⟨_,aI X G (od e0.z5)⟩,
  bz X G (od e5.z6),
  jD adN adt e5.z7,
  jD adL adp e5.z8,
  ⟨_,aI X G (od e0.z6)⟩,
  jD Yw Yb e5.z9,
  ⟨_,aI X G (od e0.z7)⟩,
  aI X G (od e0.z8),
  aI X G (od e0.z9),
  ⟨_,aI X G (od e0.z10),atk e5.z10⟩,
  jD Vs Ve e5.z11,
  jD adM adq e5.z12,
  jD aiX ait e5.z13,
  jD adP adu e5.z14,
  aI X G (od e0.z11),
  aI X G (od e0.z12),
  jD Iu Ii e5.z15,
  aI X G (od e0.z13),
  jD Gq Gj e5.z16,
  ⟨aI X G (od e0.z2),⟨⟨_,_,_,_,_,_,_,_,_,_,_,_,_,_,_,abg,rfl⟩,(od e5.z17),(od e4.z23),(od e5.z18),e5.z19⟩,(od e1.z11),(od e5.z20),fun f hf=>by
   simp only[av,bj,or_false]at hf
   subst hf;exact(od e5.z21)⟩,
  bz X G (od e5.z22),
  aI X G (od e0.z15),
  bz X G (od e5.z23),
  aI X G (od e0.z16),
  aI X G (od e0.z17),
  ⟨e4.z12,e4.z13,e4.z14,(od e4.z15)⟩,
  (od e5.z24),
  bz X G (od e6.z0),
  (od e6.z1),
  (od e6.z2),
  aI X G (od e0.z18),
  (od e6.z3),
  (od e6.z4),
  (od e6.z5),
  jD N7 NQ e6.z6,
  jD S9 Sh e6.z7,
  jD QM Qu e6.z8,
  ⟨⟨e6.z9,(od e1.z12),e6.z10,e6.z11⟩,aI X G (od e0.z0)⟩,
  jD Tc Sq e6.z12,
  ⟨(od e1.z13),e6.z13,e6.z7⟩,
  e6.z14,
  atX e6.z15 e6.z16 e6.z17 e6.z18 e6.z19 e6.z20 e6.z21,
  (od e6.z22),
  (od e4.z11),
  jD Ys X5 e6.z23,
  jD Ey Eu e6.z24,
  ⟨aI X G (od e0.z1),⟨⟨_,_,_,_,_,_,_,_,_,_,_,_,_,_,_,Y9,rfl⟩,(od e7.z0),(od e4.z19),(od e7.z1),e7.z2⟩,(od e1.z14),(od e7.z3),fun f hf=>by
   simp only[av,bj,or_false]at hf
   subst hf;exact(od e7.z4)⟩,
  jD Gr Gk e7.z5,
  ⟨(od e1.z15),(od e7.z6),(od e7.z7),_,(od e1.z20)⟩,
  jD QK Qt e7.z8,
  bz X G (od e7.z9),
  jD aaT aaC e7.z10,
  bz X G (od e7.z11),
  jD Yt X6 e7.z12,
  aI X G (od e0.z19),
  jD Yu X7 e7.z13,
  bz X G (od e7.z14),
  bz X G (od e7.z15),
  aI X G (od e0.z20),
  bz X G (od e7.z16),
  ⟨(od e1.z16),e7.z17,e6.z8⟩,
  jD Yv X8 e7.z18,
  anp (od e7.z19) e7.z20 (od e7.z21) (od e7.z22),
  anp (od e7.z19) e7.z20 (od e7.z21) (od e7.z23),
  aI X G (od e0.z14),
  ⟨(od e1.z10),(od e4.z22),(od e4.z23),e4.z24⟩,
  (od e5.z21),
  ⟨(od e1.z8),(od e4.z18),(od e4.z19),e4.z20⟩,
  (od e7.z4),
  jD Vq Vc e7.z24,
  ⟨(od e1.z17),e8.z0,e7.z8⟩,
  bz X G (od e8.z1),
  ⟨(od e1.z18),e8.z2,e7.z5⟩,
  e8.z3,
  Fq Hl Hf e8.z4 (Bw vO vI),
  aI X G (od e0.z21),
  aI X G (od e0.z22),
  ⟨_,⟨e8.z5,(od e8.z6)⟩,(atg e1.z19),_,(od e1.z21)⟩,
  jD Gu Gm e8.z7,
  Fq rJ rC e8.z8 (Bw lD lC),
  aI X G (od e0.z23),
  aI X G (od e0.z24),
  aI X G (od e1.z0),
  aI X G (od e1.z1),
  Fq ab2 abT e8.z9 (Bw PL PB),
  aI X G (od e1.z2),
  tb⟩)⟩
 ·intro p hp
  refine c.tb _ ?_
  simp only[av,bj,or_false]at hp
  rcases hp with rfl|rfl|rfl<;>simp[HD]
 ·exact(od e8.z10)
 ·intro p hp
  simp only[av,bj,or_false]at hp
  rcases hp with rfl|rfl|rfl
  ·exact(gL.mp e3.z6)
  ·exact(gL.mp e3.z7)
  ·exact(gL.mp e3.z8)
 ·intro p hp
  simp only[av,bj,or_false]at hp
  rcases hp with rfl|rfl|rfl
  ·exact Oa.ave (st:=oV) (Fq Hl Hf e8.z4 (Bw vO vI)) (aI X G (od e0.z22))
  ·exact Oa.ave (st:=bZ) (Fq rJ rC e8.z8 (Bw lD lC)) (aI X G (od e0.z23))
  ·exact Oa.ave (st:=Zx) (Fq ab2 abT e8.z9 (Bw PL PB)) (aI X G (od e1.z2))
 ·intro p hp
  simp only[av,bj,or_false]at hp
  rcases hp with rfl|rfl|rfl
  ·exact(Bw vO vI)
  ·exact(Bw lD lC)
  ·exact(Bw PL PB)
end L52
set_option maxHeartbeats 400000
namespace MW
open PySem PySem.Spec PyProof.Rows L2
inductive D where
 |non|bl (b:Bool)|int (i:Int)|str (x:Str)|tup (xs:List D)|lst (xs:List D)|dic (kvs:List (D×D))|obj (c:Str) (fs:List (Str×D))|exn (c:Str) (fs:List (Str×D))|cls (x:Str)|ty (x:String)|scr (ns:List Int)|odd (ks:List D)
 deriving Inhabited
abbrev AS:=Nat->Prop
mutual
/-- the value v of the store S is the tree d, of which no part is owned by a name (A) -/
inductive DV(A:AS)(S:Sto):CV->D->Prop where
 |non:DV A S .non .non
 |bl (b:Bool):DV A S (.bl b) (.bl b)
 |int (i:Int):DV A S (.int i) (.int i)
 |str (x:Str):DV A S (.str x) (.str x)
 |cls (x:Str):DV A S (.cls x) (.cls x)
 |ty (x:String):DV A S (.ty x) (.ty x)
 |scr (ns:List Int):DV A S (.scr ns) (.scr ns)
 |tup {xs:List CV} {ds:List D} (r:DVs A S xs ds):DV A S (.tup xs) (.tup ds)
 |exn {c:Str} {fs:List (Str×CV)} {gs:List (Str×D)} (r:DVf A S fs gs):DV A S (.exn c fs) (.exn c gs)
 |lst {n:Nat} {xs:List CV} {ds:List D} (h:S[n]?=some (.lst xs)) (hn:¬A n) (r:DVs A S xs ds):DV A S (.ref n) (.lst ds)
 |odd {n:Nat} {xs:List CV} {ds:List D} (h:S[n]?=some (.odd xs)) (hn:¬A n) (r:DVs A S xs ds):DV A S (.ref n) (.odd ds)
 |dic {n:Nat} {xs:List (CV×CV)} {ds:List (D×D)} (h:S[n]?=some (.dic xs)\/S[n]?=some (.frz (.dic xs))) (hn:¬A n) (r:DVp A S xs ds):DV A S (.ref n) (.dic ds)
 |obj {n:Nat} {c:Str} {fs:List (Str×CV)} {gs:List (Str×D)} (h:S[n]?=some (.ins c fs)) (hn:¬A n) (r:DVf A S fs gs):DV A S (.ref n) (.obj c gs)
inductive DVs(A:AS)(S:Sto):List CV->List D->Prop where
 |nil:DVs A S [] []
 |cons {v:CV} {d:D} {vs:List CV} {ds:List D} (h:DV A S v d) (r:DVs A S vs ds):DVs A S (v::vs) (d::ds)
inductive DVf(A:AS)(S:Sto):List (Str×CV)->List (Str×D)->Prop where
 |nil:DVf A S [] []
 |cons {f:Str} {v:CV} {d:D} {vs:List (Str×CV)} {ds:List (Str×D)} (h:DV A S v d) (r:DVf A S vs ds):DVf A S ((f,v)::vs) ((f,d)::ds)
inductive DVp(A:AS)(S:Sto):List (CV×CV)->List (D×D)->Prop where
 |nil:DVp A S [] []
 |cons {k v:CV} {e d:D} {vs:List (CV×CV)} {ds:List (D×D)} (hk:DV A S k e) (h:DV A S v d) (r:DVp A S vs ds):DVp A S ((k,v)::vs) ((e,d)::ds)
end
section
variable {A A' B:AS}{S S' S1:Sto}{v u:CV}{d e:D}{xs:List CV}{ds:List D}{n p:Nat}
/-- what is there stays, and is owned by nobody -/
def Kp(A:AS)(S:Sto)(A':AS)(S':Sto):Prop:=∀n o,¬A n->S[n]?=some o->S'[n]?=some o/\¬A' n
mutual
theorem DV.mono(k:Kp A S A' S'):∀{v:CV}{d:D},DV A S v d->DV A' S' v d
 |_,_,.non=>.non
 |_,_,.bl b=>.bl b
 |_,_,.int b=>.int b
 |_,_,.str b=>.str b
 |_,_,.cls b=>.cls b
 |_,_,.ty b=>.ty b
 |_,_,.scr b=>.scr b
 |_,_,.tup r=>.tup (DVs.mono k r)
 |_,_,.exn r=>.exn (DVf.mono k r)
 |_,_,.lst h hn r=>.lst (k _ _ hn h).1 (k _ _ hn h).2 (DVs.mono k r)
 |_,_,.odd h hn r=>.odd (k _ _ hn h).1 (k _ _ hn h).2 (DVs.mono k r)
 |_,_,.dic h hn r=>.dic (h.imp (fun h=>(k _ _ hn h).1) fun h=>(k _ _ hn h).1) (h.elim (fun h=>(k _ _ hn h).2) fun h=>(k _ _ hn h).2) (DVp.mono k r)
 |_,_,.obj h hn r=>.obj (k _ _ hn h).1 (k _ _ hn h).2 (DVf.mono k r)
theorem DVs.mono(k:Kp A S A' S'):∀{v:List CV}{d:List D},DVs A S v d->DVs A' S' v d
 |_,_,.nil=>.nil
 |_,_,.cons h r=>.cons (DV.mono k h) (DVs.mono k r)
theorem DVf.mono(k:Kp A S A' S'):∀{v:List (Str×CV)}{d:List (Str×D)},DVf A S v d->DVf A' S' v d
 |_,_,.nil=>.nil
 |_,_,.cons h r=>.cons (DV.mono k h) (DVf.mono k r)
theorem DVp.mono(k:Kp A S A' S'):∀{v:List (CV×CV)}{d:List (D×D)},DVp A S v d->DVp A' S' v d
 |_,_,.nil=>.nil
 |_,_,.cons hk h r=>.cons (DV.mono k hk) (DV.mono k h) (DVp.mono k r)
end
theorem Kp.less(h:∀n,A' n->A n):Kp A S A' S:=fun n o hn e=>⟨e,fun z=>hn (h n z)⟩
theorem Kp.ext(hp:A p)(h:Ext p S S'):Kp A S A S':=fun n o hn e=>⟨h n o (fun z=>hn (z▸hp)) e,hn⟩
theorem Kp.trans{A1:AS}(h:Kp A S A1 S1)(k:Kp A1 S1 A' S'):Kp A S A' S':=fun n o hn e=>k n o (h n o hn e).2 (h n o hn e).1
theorem Kp.app{l:Sto}:Kp A S A (S++l):=fun n o hn e=>⟨iK e,hn⟩
theorem Kp.fresh(hn:S.length<=n):Kp A S (fun m=>A m\/m=n) S:=fun m o hm e=>⟨e,fun z=>z.elim hm fun z=>by have:=(aa.mp e).1;omega⟩
theorem DVs.length(r:DVs A S xs ds):xs.length=ds.length:=by
 induction ds generalizing xs with
 |nil=>cases r;rfl
 |cons d ds ih=>cases r with|cons h r=>rw[ai,ai,ih r]
theorem DVs.get{i:Nat}(r:DVs A S xs ds)(h:ds[i]?=some d):∃v,xs[i]?=some v/\DV A S v d:=by
 induction ds generalizing xs i with
 |nil=>cases h
 |cons e ds ih=>
  cases r with
  |cons h1 r=>
   cases i with
   |zero=>cases h;exact⟨_,rfl,h1⟩
   |succ i=>have:=ih r h;exact this
theorem DVs.append{ys:List CV}{es:List D}(r':DVs A S ys es):∀{xs:List CV}{ds:List D},DVs A S xs ds->DVs A S (xs++ys) (ds++es)
 |_,_,.nil=>r'
 |_,_,.cons h r=>.cons h (DVs.append r' r)
theorem DVs.drop{k:Nat}(r:DVs A S xs ds):DVs A S (xs.drop k) (ds.drop k):=by
 induction k generalizing xs ds with
 |zero=>exact r
 |succ k ih=>
  cases r with
  |nil=>exact .nil
  |cons h r=>exact ih r
theorem DVs.take{k:Nat}(r:DVs A S xs ds):DVs A S (xs.take k) (ds.take k):=by
 induction k generalizing xs ds with
 |zero=>exact .nil
 |succ k ih=>
  cases r with
  |nil=>exact .nil
  |cons h r=>exact .cons h (ih r)
theorem DVs.set{k:Nat}(r:DVs A S xs ds)(h:DV A S v d):DVs A S (xs.set k v) (ds.set k d):=by
 induction k generalizing xs ds with
 |zero=>cases r with
  |nil=>exact .nil
  |cons h' r=>exact .cons h r
 |succ k ih=>cases r with
  |nil=>exact .nil
  |cons h' r=>exact .cons h' (ih r)
theorem DVs.rev(r:DVs A S xs ds):DVs A S xs.reverse ds.reverse:=by
 induction ds generalizing xs with
 |nil=>cases r;exact .nil
 |cons d ds ih=>
  cases r with
  |cons h r=>rw[cB,cB];exact DVs.append (.cons h .nil) (ih r)
theorem DVf.look{fs:List (Str×CV)}{gs:List (Str×D)}{f:Str}(r:DVf A S fs gs):match gs.lookup f with
    |some d=>∃v,fs.lookup f=some v/\DV A S v d
    |none=>fs.lookup f=none:=by
  induction gs generalizing fs with
  |nil=>cases r;rfl
  |cons g gs ih=>
   cases r with
   |cons h r=>
    rename_i f' v d vs
    unfold dS
    by_cases e:(f==f')=true
    · rw[e];exact⟨_,rfl,h⟩
    · rw[hM]at e
      rw[e];exact ih r
/-- as JD -/
def putD(f:Str)(c:D):List (Str×D)->List (Str×D)
 | []=>[(f,c)]
 |(g,d)::r=>if g=f then (g,c)::r else (g,d)::putD f c r
theorem DVf.put{fs:List (Str×CV)}{gs:List (Str×D)}{f:Str}(r:DVf A S fs gs)(h:DV A S v d):DVf A S (JD f v fs) (putD f d gs):=by
 induction gs generalizing fs with
 |nil=>cases r;exact .cons h .nil
 |cons g gs ih=>
  cases r with
  |cons h' r=>
   unfold JD putD
   split
   ·exact .cons h r
   ·exact .cons h' (ih r)
theorem DVf.length{fs:List (Str×CV)}{gs:List (Str×D)}(r:DVf A S fs gs):fs.length=gs.length:=by
 induction gs generalizing fs with
 |nil=>cases r;rfl
 |cons d ds ih=>cases r with|cons h r=>rw[ai,ai,ih r]
theorem DVp.length{fs:List (CV×CV)}{gs:List (D×D)}(r:DVp A S fs gs):fs.length=gs.length:=by
 induction gs generalizing fs with
 |nil=>cases r;rfl
 |cons d ds ih=>cases r with|cons hk h r=>rw[ai,ai,ih r]
/-- the object at n is the tree d; who owns it is left open -/
def DO(A:AS)(S:Sto)(n:Nat):D->Prop
 |.lst ds=>∃xs,S[n]?=some (.lst xs)/\DVs A S xs ds
 |.odd ds=>∃xs,S[n]?=some (.odd xs)/\DVs A S xs ds
 |.dic ds=>∃xs,S[n]?=some (.dic xs)/\DVp A S xs ds
 |.obj c gs=>∃fs,S[n]?=some (.ins c fs)/\DVf A S fs gs
 |_=>False
theorem DO.dv(h:DO A S n d)(hn:¬A n):DV A S (.ref n) d:=by
 cases d<;>first|exact h.elim|skip
 ·obtain⟨xs,h1,h2⟩:=h;exact .lst h1 hn h2
 ·obtain⟨xs,h1,h2⟩:=h;exact .dic (.inl h1) hn h2
 ·obtain⟨xs,h1,h2⟩:=h;exact .obj h1 hn h2
 ·obtain⟨xs,h1,h2⟩:=h;exact .odd h1 hn h2
theorem DO.lt(h:DO A S n d):n<S.length:=by
 cases d<;>first|exact h.elim|skip
 all_goals (obtain⟨xs,h1,h2⟩:=h;exact(aa.mp h1).1)
theorem DO.mono(k:Kp A S A' S')(hn:∀o,S[n]?=some o->S'[n]?=some o)(h:DO A S n d):DO A' S' n d:=by
 cases d<;>first|exact h.elim|skip
 ·obtain⟨xs,h1,h2⟩:=h;exact⟨xs,hn _ h1,h2.mono k⟩
 ·obtain⟨xs,h1,h2⟩:=h;exact⟨xs,hn _ h1,h2.mono k⟩
 ·obtain⟨xs,h1,h2⟩:=h;exact⟨xs,hn _ h1,h2.mono k⟩
 ·obtain⟨xs,h1,h2⟩:=h;exact⟨xs,hn _ h1,h2.mono k⟩
/-- the same, where a dict may stand locked -/
def DB(A:AS)(S:Sto)(n:Nat):D->Prop
 |.dic ds=>∃xs,(S[n]?=some (.dic xs)\/S[n]?=some (.frz (.dic xs)))/\DVp A S xs ds
 |d=>DO A S n d
theorem DO.db(h:DO A S n d):DB A S n d:=by
 cases d with
 |dic ds=>obtain⟨xs,h1,h2⟩:=h;exact⟨xs,.inl h1,h2⟩
 |_=>exact h
theorem DB.mono(k:Kp A S A' S')(hn:∀o,S[n]?=some o->S'[n]?=some o)(h:DB A S n d):DB A' S' n d:=by
 cases d with
 |dic ds=>obtain⟨xs,h1,h2⟩:=h;exact⟨xs,h1.imp (hn _) (hn _),h2.mono k⟩
 |lst ds=>exact DO.mono (d:=.lst ds) k hn h
 |odd ds=>exact DO.mono (d:=.odd ds) k hn h
 |obj c ds=>exact DO.mono (d:=.obj c ds) k hn h
 |_=>exact h.elim
theorem DB.lt(h:DB A S n d):n<S.length:=by
 cases d with
 |dic ds=>
  obtain⟨xs,h1,h2⟩:=h
  rcases h1 with h1|h1<;>exact(aa.mp h1).1
 |lst ds=>exact DO.lt (d:=.lst ds) h
 |odd ds=>exact DO.lt (d:=.odd ds) h
 |obj c ds=>exact DO.lt (d:=.obj c ds) h
 |_=>exact h.elim
theorem DB.dv(h:DB A S n d)(hn:¬A n):DV A S (.ref n) d:=by
 cases d with
 |dic ds=>obtain⟨xs,h1,h2⟩:=h;exact .dic h1 hn h2
 |lst ds=>exact DO.dv (d:=.lst ds) h hn
 |odd ds=>exact DO.dv (d:=.odd ds) h hn
 |obj c ds=>exact DO.dv (d:=.obj c ds) h hn
 |_=>exact h.elim
def D.isObj:D->Bool
 |.obj _ _=>true
 |_=>false
/-- to be read alone -/
abbrev N0:AS:=fun _=>False
abbrev RD(S:Sto):CV->D->Prop:=DV N0 S
theorem Kp.rd:Kp A S N0 S:=Kp.less fun _ h=>h.elim
theorem DV.rd(h:DV A S v d):RD S v d:=h.mono Kp.rd
theorem DVs.rd(h:DVs A S xs ds):DVs N0 S xs ds:=h.mono Kp.rd
theorem DO.rd(h:DO A S n d):RD S (.ref n) d:=(h.mono Kp.rd fun _ e=>e).dv id
theorem DB.rd(h:DB A S n d):RD S (.ref n) d:=(h.mono Kp.rd fun _ e=>e).dv id
end
/-- fr: a tree that never changes; ow: an object that this name alone has (of an expression: a new one); bo: an object that another name has; pen -/
inductive PV where
 |fr (d:D)|ow (d:D)|bo (d:D)|pen
 deriving Inhabited
def PV.rd:PV->Option D
 |.fr d=>some d
 |.ow d=>some d
 |.bo d=>some d
 |.pen=>none
abbrev XP:=Str->List (Str×D)->Int->Prop
abbrev PM(α:Type):=Int->(α->Int->Prop)->XP->Prop
abbrev aH:=List (Option PV)
structure Gh where
 (p c:Nat) (cells:List Int) (b:Sto) (slf:Nat) (bn:Nat->Option Nat)
/-- the tables of code objects that stand in the store from the start -/
class Tabs where
 l:List Str
/-- a value: of an expression begun in a store of length n0 -/
def VR(g:Gh)(A:AS)(n0:Nat)(S:Sto)(v:CV):PV->Prop
 |.fr d=>DV A S v d
 |.ow d=>∃n,v=.ref n/\n0<=n/\DO (fun m=>A m\/m=n) S n d
 |.bo d=>∃n,v=.ref n/\n≠g.p/\DB A S n d
 |.pen=>v=.ref g.p
structure Amb [Tabs](g:Gh)(A:AS)(i:Int)(S:Sto):Prop where
 pen:jY g.p g.c g.cells i S
 pin:A g.p
 pic:A g.c
 lt:∀n,A n->n<S.length
 ext:Ext g.p g.b S
 tab:∀k x,Tabs.l[k]?=some x->k≠g.p/\g.b[k]?=some (.tab x)
section
variable {g:Gh}{A A' B:AS}{S S' S1:Sto}{v u:CV}{d e:D}{xs:List CV}{ds:List D}{n p n0:Nat}{i i':Int}{pv:PV}
variable [Tabs]
theorem Ext.len(h:Ext p S S')(hp':p<S'.length):S.length<=S'.length:=by
 by_cases h0:S.length=0
 ·omega
 ·by_cases hl:S.length-1=p
  ·omega
  ·have:=h (S.length-1) (S[S.length-1]'(by omega)) hl (ay (by omega))
   have:=(aa.mp this).1
   omega
theorem Amb.next(a:Amb g A i S)(hp:jY g.p g.c g.cells i' S')(h:Ext g.p S S'):Amb g A i' S':=
 ⟨hp,a.pin,a.pic,fun n hn=>cL (a.lt n hn) (h.len hp.lt),a.ext.trans h,a.tab⟩
/-- a new frame -/
def Gh.at(g:Gh)(S:Sto):Gh:={g with b:=S,bn:=fun _=>none}
theorem Amb.at(a:Amb g A i S):Amb (g.at S) A i S:=⟨a.pen,a.pin,a.pic,a.lt,Ext.refl,fun k x h=>⟨(a.tab k x h).1,a.ext _ _ (a.tab k x h).1 (a.tab k x h).2⟩⟩
theorem Amb.tabAt{k:Nat}{x:Str}(a:Amb g A i S)(h:Tabs.l[k]?=some x):S[k]?=some (.tab x):=a.ext _ _ (a.tab k x h).1 (a.tab k x h).2
theorem Amb.len(a:Amb g A i S)(hp:jY g.p g.c g.cells i' S')(h:Ext g.p S S'):S.length<=S'.length:=h.len hp.lt
theorem Amb.app{l:Sto}(a:Amb g A i S):Amb g A i (S++l):=a.next a.pen.app Ext.app
theorem VR.ext(a:Amb g A i S)(h:Ext g.p S S')(hn:g.p<n0)(r:VR g A n0 S v pv):VR g A n0 S' v pv:=by
 have k:=Kp.ext a.pin h
 cases pv with
 |fr d=>exact DV.mono k r
 |ow d=>
  obtain⟨n,e,hl,r⟩:=r
  exact⟨n,e,hl,DO.mono (Kp.ext (.inl a.pin) h) (fun o eo=>h n o (by omega) eo) r⟩
 |bo d=>
  obtain⟨n,e,hl,r⟩:=r
  exact⟨n,e,hl,DB.mono k (fun o eo=>h n o hl eo) r⟩
 |pen=>exact r
theorem VR.base{m:Nat}(h:n0<=m)(r:VR g A m S v pv):VR g A n0 S v pv:=by
 cases pv with
 |fr d=>exact r
 |ow d=>
  obtain⟨n,e,hl,r⟩:=r
  exact⟨n,e,by omega,r⟩
 |bo d=>exact r
 |pen=>exact r
/-- the tree behind a value -/
theorem VR.read(r:VR g A n0 S v pv)(h:pv.rd=some d):RD S v d:=by
 cases pv with
 |fr d=>cases h;exact DV.rd r
 |ow d=>
  obtain⟨n,rfl,hl,r⟩:=r
  cases h;exact r.rd
 |bo d=>
  obtain⟨n,rfl,hl,r⟩:=r
  cases h;exact r.rd
 |pen=>cases h
/-- as a part of others: what is new is owned by nobody from now on -/
def PV.frz:PV->Option D
 |.fr d=>some d
 |.ow d=>some d
 |_=>none
theorem VR.frz(hA:∀n,A n->n<n0)(r:VR g A n0 S v pv)(h:pv.frz=some d):DV A S v d:=by
 cases pv with
 |fr d=>cases h;exact r
 |ow d=>
  obtain⟨n,rfl,hl,r⟩:=r
  cases h
  exact(r.mono (A':=A) (Kp.less fun _ h=>.inl h) fun _ e=>e).dv fun z=>by have:=hA n z;omega
 |bo d=>cases h
 |pen=>cases h
/-- the parts of a list -/
theorem VR.items(r:VR g A n0 S v pv)(h:pv.rd=some (.lst ds)):∃n xs,v=.ref n/\S[n]?=some (.lst xs)/\DVs A S xs ds:=by
 cases pv with
 |fr d=>cases h;cases r with|lst h1 h2 r=>exact⟨_,_,rfl,h1,r⟩
 |ow d=>
  obtain⟨n,rfl,hl,xs,h1,h2⟩:=by cases h;exact r
  exact⟨n,xs,rfl,h1,h2.mono (Kp.less fun _ h=>.inl h)⟩
 |bo d=>
  obtain⟨n,rfl,hl,xs,h1,h2⟩:=by cases h;exact r
  exact⟨n,xs,rfl,h1,h2⟩
 |pen=>cases h
theorem VR.fields{c:Str}{gs:List (Str×D)}(r:VR g A n0 S v pv)(h:pv.rd=some (.obj c gs)):∃n fs,v=.ref n/\S[n]?=some (.ins c fs)/\DVf A S fs gs:=by
 cases pv with
 |fr d=>cases h;cases r with|obj h1 h2 r=>exact⟨_,_,rfl,h1,r⟩
 |ow d=>
  obtain⟨n,rfl,hl,xs,h1,h2⟩:=by cases h;exact r
  exact⟨n,xs,rfl,h1,h2.mono (Kp.less fun _ h=>.inl h)⟩
 |bo d=>
  obtain⟨n,rfl,hl,xs,h1,h2⟩:=by cases h;exact r
  exact⟨n,xs,rfl,h1,h2⟩
 |pen=>cases h
theorem VR.pairs{gs:List (D×D)}(r:VR g A n0 S v pv)(h:pv.rd=some (.dic gs)):∃n fs,v=.ref n/\(S[n]?=some (.dic fs)\/S[n]?=some (.frz (.dic fs)))/\DVp A S fs gs:=by
 cases pv with
 |fr d=>cases h;cases r with|dic h1 h2 r=>exact⟨_,_,rfl,h1,r⟩
 |ow d=>
  obtain⟨n,rfl,hl,xs,h1,h2⟩:=by cases h;exact r
  exact⟨n,xs,rfl,.inl h1,h2.mono (Kp.less fun _ h=>.inl h)⟩
 |bo d=>
  obtain⟨n,rfl,hl,xs,h1,h2⟩:=by cases h;exact r
  exact⟨n,xs,rfl,h1,h2⟩
 |pen=>cases h
theorem VR.tup(r:VR g A n0 S v pv)(h:pv.rd=some (.tup ds)):∃xs,v=.tup xs/\DVs A S xs ds:=by
 cases pv with
 |fr d=>cases h;cases r with|tup r=>exact⟨_,rfl,r⟩
 |ow d=>
  obtain⟨n,rfl,hl,r⟩:=r
  cases h;exact r.elim
 |bo d=>
  obtain⟨n,rfl,hl,r⟩:=r
  cases h;exact r.elim
 |pen=>cases h
/-- a new list -/
theorem VR.newL(hx:DVs A S xs ds)(hn:n0<=S.length):VR g A n0 (S++[.lst xs]) (.ref S.length) (.ow (.lst ds)):=
 ⟨_,rfl,hn,xs,pq,hx.mono ((Kp.fresh (ba _)).trans Kp.app)⟩
end
/-- a bound: computed, so that runs can be seen by the kernel -/
def gd(c:Prop)[Decidable c](p:Prop):Prop:=cond (decide c) p False
theorem aop{c:Prop}[Decidable c]{p:Prop}:gd c p=(c/\p):=by
 unfold gd
 by_cases h:c<;>simp[h]
theorem cQ{c:Prop}[Decidable c]{p:Prop}:gd c p↔c/\p:=Iff.of_eq aop
abbrev Ow(A0:AS)(w:Nat->Option Nat):AS:=fun n=>A0 n\/∃j,w j=some n
/-- what another name has, or a name that is set aside -/
structure TB(g:Gh)(j:Nat)(A:AS)(S:Sto)(n:Nat)(d:D):Prop where
 tie:∀m,g.bn j=some m->m=n
 db:DB A S n d
theorem TB.mono{g:Gh}{j n:Nat}{A A':AS}{S S':Sto}{d:D}(k:Kp A S A' S')(hn:∀o,S[n]?=some o->S'[n]?=some o)(h:TB g j A S n d):TB g j A' S' n d:=⟨h.tie,h.db.mono k hn⟩
theorem TB.lt{g:Gh}{j n:Nat}{A:AS}{S:Sto}{d:D}(h:TB g j A S n d):n<S.length:=h.db.lt
/-- what the name j holds -/
def VS(g:Gh)(A0:AS)(w:Nat->Option Nat)(j:Nat)(S:Sto)(v:CV):PV->Prop
 |.fr d=>DV (Ow A0 w) S v d
 |.ow d=>∃n,v=.ref n/\w j=some n/\(d.isObj=true->n=g.slf)/\DO (Ow A0 w) S n d
 |.bo d=>∃n,v=.ref n/\n≠g.p/\(∀k,w k≠some n)/\TB g j (Ow A0 w) S n d
 |.pen=>v=.ref g.p
structure cU(g:Gh)(A0:AS)(w:Nat->Option Nat)(S:Sto)(ρ:Rho)(r:aH):Prop where
 len:r.length=ρ.length
 at_:∀j pv,r[j]?=some (some pv)->∃v,ρ[j]?=some (some v)/\VS g A0 w j S v pv
 inj:∀j k n,w j=some n->w k=some n->j=k
 out:∀j n,w j=some n->¬A0 n/\n<S.length
 new:∀j n,w j=some n->g.b.length<=n
 fin:∃K,∀j,K<=j->w j=none
/-- the results of a run -/
def PQ{α β:Type}(g:Gh)(S:Sto)(R:Sto->α->β->Prop)(Q:β->Int->Prop):α->Sto->Prop:=fun v S'=>∃pv i',Q pv i'/\R S' v pv/\jY g.p g.c g.cells i' S'/\Ext g.p S S'
def PXc(g:Gh)(A:AS)(S:Sto)(E:XP):Str->List (Str×CV)->Sto->Prop:=fun c fs S'=>∃gs i',E c gs i'/\DVf A S' fs gs/\jY g.p g.c g.cells i' S'/\Ext g.p S S'
def Rn{α β:Type}(g:Gh)(A:AS)(R:Sto->α->β->Prop)(S:Sto)(x:Res α)(q:(β->Int->Prop)->XP->Prop):Prop:=∀Q E,q Q E->Wp x (PQ g S R Q) (PXc g A S E)
section
variable [Tabs]{α β γ δ:Type}{g:Gh}{A A' B A0:AS}{S S' S1:Sto}{v u:CV}{d e:D}{xs:List CV}{ds:List D}{n p n0 j:Nat}{i i':Int}{pv:PV}{w:Nat->Option Nat}{ρ:Rho}{r:aH}
theorem cU.amb(h:cU g A0 w S ρ r)(a:Amb g A0 i S):Amb g (Ow A0 w) i S:=⟨a.pen,.inl a.pin,.inl a.pic,fun n hn=>hn.elim (a.lt n) fun⟨j,e⟩=>(h.out j n e).2,a.ext,a.tab⟩
theorem cU.kp(h:cU g A0 w S ρ r)(a:Amb g A0 i S)(e:Ext g.p S S'):Kp (Ow A0 w) S (Ow A0 w) S':=Kp.ext (.inl a.pin) e
theorem cU.ext(h:cU g A0 w S ρ r)(a:Amb g A0 i S)(hp:jY g.p g.c g.cells i' S')(e:Ext g.p S S'):cU g A0 w S' ρ r:=by
 have k:=h.kp a e
 refine⟨h.len,fun j pv hj=>?_,h.inj,fun j n hj=>⟨(h.out j n hj).1,cL (h.out j n hj).2 (a.len hp e)⟩,h.new,h.fin⟩
 obtain⟨v,h1,h2⟩:=h.at_ j pv hj
 refine⟨v,h1,?_⟩
 cases pv with
 |fr d=>exact DV.mono k h2
 |ow d=>
  obtain⟨n,e1,e2,eo,r⟩:=h2
  exact⟨n,e1,e2,eo,DO.mono k (fun o eo=>e n o (fun z=>(h.out _ _ e2).1 (z▸a.pin)) eo) r⟩
 |bo d=>
  obtain⟨n,e1,e2,e3,r⟩:=h2
  exact⟨n,e1,e2,e3,TB.mono k (fun o eo=>e n o e2 eo) r⟩
 |pen=>exact h2
theorem Rn.ret{R:Sto->α->β->Prop}{a:α}{b:β}(hp:jY g.p g.c g.cells i S)(h:R S a b):Rn g A R S (.ok a S) fun Q _=>Q b i:=fun Q E q=>⟨b,i,q,h,hp,Ext.refl⟩
theorem Rn.new{R:Sto->α->β->Prop}{a:α}{b:β}{l:Sto}(hp:jY g.p g.c g.cells i S)(h:R (S++l) a b):Rn g A R S (.ok a (S++l)) fun Q _=>Q b i:=fun Q E q=>⟨b,i,q,h,hp.app,Ext.app⟩
theorem Rn.no{R:Sto->α->β->Prop}{x:Res α}:Rn g A R S x fun _ _=>False:=fun Q E q=>q.elim
theorem Rn.exc{R:Sto->α->β->Prop}{c:Str}{fs:List (Str×CV)}{gs:List (Str×D)}(hp:jY g.p g.c g.cells i S)(h:DVf A S fs gs):Rn g A R S (.exc c fs S:Res α) fun _ E=>E c gs i:=fun Q E q=>⟨gs,i,q,h,hp,Ext.refl⟩
theorem Rn.bnd{R:Sto->α->β->Prop}{R':Sto->γ->δ->Prop}{x:Res α}{q:(β->Int->Prop)->XP->Prop}{f:α->M γ}{q':β->Int->(δ->Int->Prop)->XP->Prop}(a:Amb g A i S)(h:Rn g A R S x q)
    (k:∀v S1 pv i1,R S1 v pv->Amb g A i1 S1->Ext g.p S S1->Rn g A R' S1 (f v S1) (q' pv i1)):Rn g A R' S (x.bnd f) fun Q E=>q (fun pv i1=>q' pv i1 Q E) E:=fun Q E hq=>by
  rw[jX]
  refine(h _ _ hq).imp (fun v S1 ⟨pv,i1,h1,h2,h3,h4⟩=>?_) fun _ _ _ z=>z
  exact(k v S1 pv i1 h2 (a.next h3 h4) h4 _ _ h1).imp (fun v2 S2 ⟨pv2,i2,k1,k2,k3,k4⟩=>⟨pv2,i2,k1,k2,k3,h4.trans k4⟩) fun c fs S2 ⟨gs,i2,k1,k2,k3,k4⟩=>⟨gs,i2,k1,k2,k3,h4.trans k4⟩
theorem Rn.imp{R:Sto->α->β->Prop}{x:Res α}{q q':(β->Int->Prop)->XP->Prop}(h:Rn g A R S x q)(k:∀Q E,q' Q E->q Q E):Rn g A R S x q':=fun Q E hq=>h Q E (k Q E hq)
end
section
variable [Tabs]
/-- m does what q says -/
structure dI(g:Gh)(A0:AS)(m:Rho->M CV)(q:aH->PM PV):Prop where
 run:∀w S ρ r i,Amb g A0 i S->cU g A0 w S ρ r->Rn g (Ow A0 w) (fun S'=>VR g (Ow A0 w) S.length S') S (m ρ S) (q r i)
structure G9(g:Gh)(A0:AS)(m:Rho->M Bool)(q:aH->PM Bool):Prop where
 run:∀w S ρ r i,Amb g A0 i S->cU g A0 w S ρ r->Rn g (Ow A0 w) (fun _=>Eq) S (m ρ S) (q r i)
inductive VRs(g:Gh)(A:AS)(n0:Nat)(S:Sto):List CV->List PV->Prop where
 |nil:VRs g A n0 S [] []
 |cons {v:CV} {pv:PV} {vs:List CV} {ps:List PV} (h:VR g A n0 S v pv) (r:VRs g A n0 S vs ps):VRs g A n0 S (v::vs) (pv::ps)
structure Oh(g:Gh)(A0:AS)(m:Rho->M (List CV))(q:aH->PM (List PV)):Prop where
 run:∀w S ρ r i,Amb g A0 i S->cU g A0 w S ρ r->Rn g (Ow A0 w) (fun S'=>VRs g (Ow A0 w) S.length S') S (m ρ S) (q r i)
/-- a def, a builtin: what comes is owned by nobody -/
structure dJ(m:List CV->M CV)(q:List PV->PM D):Prop where
 run:∀g A S xs ps i,Amb g A i S->VRs g A S.length S xs ps->Rn g A (fun S'=>DV A S') S (m xs S) (q ps i)
structure dO(m:CV->CV->M CV)(q:PV->PV->PM PV):Prop where
 run:∀g A n0 S x y px py i,Amb g A i S->g.p<n0->(∀n,A n->n<n0)->n0<=S.length->VR g A n0 S x px->VR g A n0 S y py->Rn g A (fun S'=>VR g A n0 S') S (m x y S) (q px py i)
structure Fo(m:CV->M CV)(q:PV->PM PV):Prop where
 run:∀g A n0 S x px i,Amb g A i S->g.p<n0->(∀n,A n->n<n0)->n0<=S.length->VR g A n0 S x px->Rn g A (fun S'=>VR g A n0 S') S (m x S) (q px i)
structure Bc(m:List CV->M CV)(q:List PV->PM PV):Prop where
 run:∀g A n0 S x px i,Amb g A i S->g.p<n0->(∀n,A n->n<n0)->n0<=S.length->VRs g A n0 S x px->Rn g A (fun S'=>VR g A n0 S') S (m x S) (q px i)
end
section
variable [Tabs]{g:Gh}{A A0:AS}{S S' S1:Sto}{v u:CV}{d e:D}{xs:List CV}{ds:List D}{ps:List PV}{n p n0 j:Nat}{i i':Int}{pv:PV}{w:Nat->Option Nat}{ρ:Rho}{r:aH}
theorem VRs.ext(a:Amb g A i S)(h:Ext g.p S S')(hn:g.p<n0):∀{xs:List CV}{ps:List PV},VRs g A n0 S xs ps->VRs g A n0 S' xs ps
 |_,_,.nil=>.nil
 |_,_,.cons x r=>.cons (x.ext a h hn) (VRs.ext a h hn r)
theorem VRs.base{m:Nat}(h:n0<=m):∀{xs:List CV}{ps:List PV},VRs g A m S xs ps->VRs g A n0 S xs ps
 |_,_,.nil=>.nil
 |_,_,.cons x r=>.cons (x.base h) (VRs.base h r)
theorem VRs.length:∀{xs:List CV}{ps:List PV},VRs g A n0 S xs ps->xs.length=ps.length
 |_,_,.nil=>rfl
 |_,_,.cons x r=>by rw[ai,ai,VRs.length r]
def frzs:List PV->Option (List D)
 | []=>some []
 |.fr d::l=>(frzs l).map (d:: ·)
 |.ow d::l=>(frzs l).map (d:: ·)
 |_::_=>none
theorem VRs.frzs(hA:∀n,A n->n<n0):∀{xs:List CV}{ps:List PV}{ds:List D},VRs g A n0 S xs ps->MW.frzs ps=some ds->DVs A S xs ds
 |_,_,_,.nil,h=>by cases h;exact .nil
 |_,pv::ps,_,.cons x r,h=>by
  cases pv with
  |fr d=>
   cases e:MW.frzs ps with
   |none=>simp[MW.frzs,e]at h
   |some es=>simp[MW.frzs,e]at h;subst h;exact .cons x (VRs.frzs hA r e)
  |ow d=>
   cases e:MW.frzs ps with
   |none=>simp[MW.frzs,e]at h
   |some es=>simp[MW.frzs,e]at h;subst h;exact .cons (VR.frz hA x rfl) (VRs.frzs hA r e)
  |bo d=>cases h
  |pen=>cases h
/-- handed over -/
def PV.arg:PV->PV
 |.ow d=>.fr d
 |x=>x
theorem VRs.arg(hA:∀n,A n->n<n0):∀{xs:List CV}{ps:List PV},VRs g A n0 S xs ps->VRs g A S.length S xs (ps.map PV.arg)
 |_,_,.nil=>.nil
 |_,pv::ps,.cons x r=>by
  refine .cons ?_ (VRs.arg hA r)
  cases pv with
  |fr d=>exact x
  |ow d=>exact VR.frz (pv:=.ow d) hA x rfl
  |bo d=>exact x
  |pen=>exact x
variable {ma mb mc:Rho->M CV}{qa qb qc:aH->PM PV}{mt mu:Rho->M Bool}{qt qu:aH->PM Bool}{ms:Rho->M (List CV)}{qs:aH->PM (List PV)}
def aU(j:Nat):aH->PM PV:=fun r i Q _=>match r[j]? with
 |some (some (.fr d))=>Q (.fr d) i
 |some (some (.ow d))=>Q (.bo d) i
 |some (some (.bo d))=>Q (.bo d) i
 |some (some .pen)=>Q .pen i
 |_=>False
theorem aA:dI g A0 (aK j) (aU j):=⟨fun w S ρ r i a h Q E q=>by
 unfold aU at q
 rw[xU]
 cases e:r[j]? with
 |none=>rw[e]at q;exact q.elim
 |some o=>
  cases o with
  |none=>rw[e]at q;exact q.elim
  |some pv=>
   rw[e]at q
   obtain⟨v,h1,h2⟩:=h.at_ j pv e
   rw[h1]
   cases pv with
   |fr d=>exact⟨_,i,q,h2,a.pen,Ext.refl⟩
   |ow d=>
    obtain⟨n,e1,e2,eo,r⟩:=h2
    exact⟨_,i,q,⟨n,e1,fun z=>(h.out _ _ e2).1 (z▸a.pin),DO.db r⟩,a.pen,Ext.refl⟩
   |bo d=>
    obtain⟨n,e1,e2,e3,r⟩:=h2
    exact⟨_,i,q,⟨n,e1,e2,r.db⟩,a.pen,Ext.refl⟩
   |pen=>exact⟨_,i,q,h2,a.pen,Ext.refl⟩⟩
def pC(d:D):aH->PM PV:=fun _ i Q _=>Q (.fr d) i
/-- a constant of a text -/
def cD:CV->D
 |.bl b=>.bl b
 |.int i=>.int i
 |.str x=>.str x
 |.cls x=>.cls x
 |.ty x=>.ty x
 |_=>.non
def aor:CV->Bool
 |.non|.bl _|.int _|.str _|.cls _|.ty _=>true
 |_=>false
theorem agK{c:CV}(h:aor c=true):DV A S c (cD c):=by cases c<;>first|exact .non|exact .bl _|exact .int _|exact .str _|exact .cls _|exact .ty _|cases h
theorem aJ{c:CV}(h:aor c=true):dI g A0 (mC c) (pC (cD c)):=⟨fun w S ρ r i a _=>Rn.ret a.pen (agK h)⟩
def pOp(q:PV->PV->PM PV)(qa qb:aH->PM PV):aH->PM PV:=fun r i Q E=>qa r i (fun x i1=>qb r i1 (fun y i2=>q x y i2 Q E) E) E
theorem cU.lt(h:cU g A0 w S ρ r)(a:Amb g A0 i S):∀n,Ow A0 w n->n<S.length:=(h.amb a).lt
theorem aX{m:CV->CV->M CV}{q:PV->PV->PM PV}(h:dO m q)(ha:dI g A0 ma qa)(hb:dI g A0 mb qb):dI g A0 (mOp m ma mb) (pOp q qa qb):=⟨fun w S ρ r i a hr=>by
 have am:=hr.amb a
 have hl:=hr.lt a
 have hp0:=a.lt _ a.pin
 refine Rn.bnd (q':=fun x i1 Q E=>qb r i1 (fun y i2=>q x y i2 Q E) E) am (ha.run w S ρ r i a hr) fun x S1 px i1 hx a1 e1=>?_
 have a01:=a.next a1.pen e1
 have l1:=a.len a1.pen e1
 refine Rn.bnd (q':=fun y i2 Q E=>q px y i2 Q E) a1 (hb.run w S1 ρ r i1 a01 (hr.ext a a1.pen e1)) fun y S2 py i2 hy a2 e2=>?_
 exact h.run g (Ow A0 w) S.length S2 x y px py i2 a2 hp0 hl (a9 l1 (a01.len a2.pen e2)) (hx.ext a1 e2 hp0) (hy.base l1)⟩
def pUn(q:PV->PM PV)(qa:aH->PM PV):aH->PM PV:=fun r i Q E=>qa r i (fun x i1=>q x i1 Q E) E
theorem fZ{m:CV->M CV}{q:PV->PM PV}(h:Fo m q)(ha:dI g A0 ma qa):dI g A0 (mUn m ma) (pUn q qa):=⟨fun w S ρ r i a hr=>by
 refine Rn.bnd (q':=fun x i1 Q E=>q x i1 Q E) (hr.amb a) (ha.run w S ρ r i a hr) fun x S1 px i1 hx a1 e1=>?_
 exact h.run g (Ow A0 w) S.length S1 x px i1 a1 (a.lt _ a.pin) (hr.lt a) (a.len a1.pen e1) hx⟩
def bh:aH->PM (List PV):=fun _ i Q _=>Q [] i
def aC(qa:aH->PM PV)(qs:aH->PM (List PV)):aH->PM (List PV):=fun r i Q E=>qa r i (fun x i1=>qs r i1 (fun xs i2=>Q (x::xs) i2) E) E
theorem aD:Oh g A0 aN bh:=⟨fun w S ρ r i a _=>Rn.ret a.pen .nil⟩
theorem aj(ha:dI g A0 ma qa)(hs:Oh g A0 ms qs):Oh g A0 (au ma ms) (aC qa qs):=⟨fun w S ρ r i a hr=>by
 have hp0:=a.lt _ a.pin
 refine Rn.bnd (q':=fun x i1 Q E=>qs r i1 (fun xs i2=>Q (x::xs) i2) E) (hr.amb a) (ha.run w S ρ r i a hr) fun x S1 px i1 hx a1 e1=>?_
 have l1:=a.len a1.pen e1
 refine Rn.bnd (q':=fun xs i2 Q E=>Q (px::xs) i2) a1 (hs.run w S1 ρ r i1 (a.next a1.pen e1) (hr.ext a a1.pen e1)) fun y S2 py i2 hy a2 e2=>?_
 exact Rn.ret a2.pen (.cons (hx.ext a1 e2 hp0) (hy.base l1))⟩
def pFn(q:List PV->PM PV)(qs:aH->PM (List PV)):aH->PM PV:=fun r i Q E=>qs r i (fun x i1=>q x i1 Q E) E
theorem bJ{m:List CV->M CV}{q:List PV->PM PV}(h:Bc m q)(ha:Oh g A0 ms qs):dI g A0 (mFn m ms) (pFn q qs):=⟨fun w S ρ r i a hr=>by
 refine Rn.bnd (q':=fun x i1 Q E=>q x i1 Q E) (hr.amb a) (ha.run w S ρ r i a hr) fun x S1 px i1 hx a1 e1=>?_
 exact h.run g (Ow A0 w) S.length S1 x px i1 a1 (a.lt _ a.pin) (hr.lt a) (a.len a1.pen e1) hx⟩
def Bq(qs:aH->PM (List PV)):aH->PM PV:=fun r i Q E=>qs r i (fun x i1=>match frzs x with|some ds=>gd (ds.length<=sizeLine) (Q (.fr (.tup ds)) i1)|none=>False) E
theorem fU(ha:Oh g A0 ms qs):dI g A0 (pD ms) (Bq qs):=⟨fun w S ρ r i a hr=>by
 refine(Rn.bnd (q':=fun(x:List PV) i1 (Q:PV->Int->Prop) (_:XP)=>match frzs x with|some ds=>gd (ds.length<=sizeLine) (Q (.fr (.tup ds)) i1)|none=>False) (hr.amb a) (ha.run w S ρ r i a hr) fun x S1 px i1 hx a1 e1=>?_:Rn g (Ow A0 w) _ S _ _)
 cases e:frzs px with
 |none=>exact Rn.no
 |some ds=>
  have hd:=hx.frzs (hr.lt a) e
  intro Q E hq0
  obtain⟨h1,h2⟩:=cQ.mp hq0
  unfold Qe
  rw[<-hd.length]at h1
  rw[if_pos h1]
  exact Rn.ret (R:=fun S'=>VR g (Ow A0 w) S.length S') (b:=.fr (.tup ds)) a1.pen (DV.tup hd) Q E h2⟩
def zM(qs:aH->PM (List PV)):aH->PM PV:=fun r i Q E=>qs r i (fun x i1=>match frzs x with|some ds=>gd (ds.length<=sizeLine) (Q (.ow (.lst ds)) i1)|none=>False) E
theorem fj(ha:Oh g A0 ms qs):dI g A0 (vC ms) (zM qs):=⟨fun w S ρ r i a hr=>by
 refine(Rn.bnd (q':=fun(x:List PV) i1 (Q:PV->Int->Prop) (_:XP)=>match frzs x with|some ds=>gd (ds.length<=sizeLine) (Q (.ow (.lst ds)) i1)|none=>False) (hr.amb a) (ha.run w S ρ r i a hr) fun x S1 px i1 hx a1 e1=>?_:Rn g (Ow A0 w) _ S _ _)
 cases e:frzs px with
 |none=>exact Rn.no
 |some ds=>
  have hd:=hx.frzs (hr.lt a) e
  intro Q E hq0
  obtain⟨h1,h2⟩:=cQ.mp hq0
  unfold Zq
  rw[<-hd.length]at h1
  rw[if_pos h1]
  exact Rn.new (R:=fun S'=>VR g (Ow A0 w) S.length S') a1.pen (VR.newL hd (a.len a1.pen e1)) Q E h2⟩
def Pk:aH->PM PV:=fun _ i Q _=>Q (.ow (.dic [])) i
theorem xP:dI g A0 zH Pk:=⟨fun w S ρ r i a _=>Rn.new a.pen ⟨_,rfl,ba _,[],pq,.nil⟩⟩
def ji(qa:aH->PM PV):aH->PM Bool:=fun r i Q E=>qa r i (fun x i1=>match x with|.fr (.bl b)=>Q b i1|_=>False) E
theorem cA(ha:dI g A0 ma qa):G9 g A0 (eO ma) (ji qa):=⟨fun w S ρ r i a hr=>by
 refine(Rn.bnd (q':=fun(x:PV) i1 Q _=>match x with|.fr (.bl b)=>Q b i1|_=>False) (hr.amb a) (ha.run w S ρ r i a hr) fun x S1 px i1 hx a1 e1=>?_:Rn g (Ow A0 w) _ S _ _)
 split
 ·cases hx;exact Rn.ret a1.pen rfl
 ·exact Rn.no⟩
/-- truth -/
def W7:D->Option Bool
 |.non=>some false
 |.bl b=>some b
 |.int i=>some (i !=0)
 |.str y=>if y.length<=sizeLine then some ((y.length:Int) !=0) else none
 |.tup xs=>some (!xs.isEmpty)
 |.lst xs=>some (!xs.isEmpty)
 |_=>none
theorem ada{b:Bool}(h:RD S v d)(hb:W7 d=some b):nJ v S=.ok b S:=by
 cases h with
 |non=>cases hb;rfl
 |bl=>cases hb;rfl
 |int=>cases hb;rfl
 |str x=>
  unfold W7 at hb
  unfold nJ
  dsimp only at hb ⊢
  split at hb
  ·rename_i h1;cases hb;rw[if_pos h1]
  ·cases hb
 |tup r=>
  cases hb
  unfold nJ
  cases r<;>rfl
 |lst h1 h2 r=>
  cases hb
  unfold nJ
  dsimp only
  rw[h1]
  cases r<;>rfl
 |_=>cases hb
def Nv(qa:aH->PM PV):aH->PM Bool:=fun r i Q E=>qa r i (fun x i1=>match x.rd.bind W7 with|some b=>Q b i1|none=>False) E
theorem lO(ha:dI g A0 ma qa):G9 g A0 (Iv nJ ma) (Nv qa):=⟨fun w S ρ r i a hr=>by
 refine(Rn.bnd (q':=fun(x:PV) i1 Q _=>match x.rd.bind W7 with|some b=>Q b i1|none=>False) (hr.amb a) (ha.run w S ρ r i a hr) fun x S1 px i1 hx a1 e1=>?_:Rn g (Ow A0 w) _ S _ _)
 cases e:px.rd with
 |none=>exact Rn.no
 |some d=>
  cases eb:W7 d with
  |none=>rw[c8,eb];exact Rn.no
  |some b=>rw[c8,eb,ada (hx.read e) eb];exact Rn.ret a1.pen rfl⟩
def aqR(qt qu:aH->PM Bool):aH->PM Bool:=fun r i Q E=>qt r i (fun c i1=>cond c (qu r i1 Q E) (Q false i1)) E
def pOr(qt qu:aH->PM Bool):aH->PM Bool:=fun r i Q E=>qt r i (fun c i1=>cond c (Q true i1) (qu r i1 Q E)) E
def Wz(qt:aH->PM Bool):aH->PM Bool:=fun r i Q E=>qt r i (fun c i1=>Q (!c) i1) E
theorem acf(ht:G9 g A0 mt qt)(hu:G9 g A0 mu qu):G9 g A0 (afC mt mu) (aqR qt qu):=⟨fun w S ρ r i a hr=>by
 refine(Rn.bnd (q':=fun(c:Bool) i1 Q E=>cond c (qu r i1 Q E) (Q false i1)) (hr.amb a) (ht.run w S ρ r i a hr) fun x S1 px i1 hx a1 e1=>?_:Rn g (Ow A0 w) _ S _ _)
 subst hx
 cases x with
 |true=>exact hu.run w S1 ρ r i1 (a.next a1.pen e1) (hr.ext a a1.pen e1)
 |false=>exact Rn.ret a1.pen rfl⟩
theorem Lg(ht:G9 g A0 mt qt)(hu:G9 g A0 mu qu):G9 g A0 (mOr mt mu) (pOr qt qu):=⟨fun w S ρ r i a hr=>by
 refine(Rn.bnd (q':=fun(c:Bool) i1 Q E=>cond c (Q true i1) (qu r i1 Q E)) (hr.amb a) (ht.run w S ρ r i a hr) fun x S1 px i1 hx a1 e1=>?_:Rn g (Ow A0 w) _ S _ _)
 subst hx
 cases x with
 |false=>exact hu.run w S1 ρ r i1 (a.next a1.pen e1) (hr.ext a a1.pen e1)
 |true=>exact Rn.ret a1.pen rfl⟩
theorem rO(ht:G9 g A0 mt qt):G9 g A0 (RW mt) (Wz qt):=⟨fun w S ρ r i a hr=>by
 refine(Rn.bnd (q':=fun(c:Bool) i1 Q E=>Q (!c) i1) (hr.amb a) (ht.run w S ρ r i a hr) fun x S1 px i1 hx a1 e1=>?_:Rn g (Ow A0 w) _ S _ _)
 subst hx
 exact Rn.ret a1.pen rfl⟩
def pIf(qt:aH->PM Bool)(qa qb:aH->PM PV):aH->PM PV:=fun r i Q E=>qt r i (fun c i1=>cond c (qa r i1 Q E) (qb r i1 Q E)) E
theorem VR.lift(l:n0<=S.length){x:Res CV}{q:(PV->Int->Prop)->XP->Prop}(h:Rn g A (fun S'=>VR g A S.length S') S x q):Rn g A (fun S'=>VR g A n0 S') S x q:=fun Q E hq=>(h Q E hq).imp (fun v S' ⟨pv,i',h1,h2,h3⟩=>⟨pv,i',h1,h2.base l,h3⟩) fun _ _ _ z=>z
theorem Ui(ht:G9 g A0 mt qt)(ha:dI g A0 ma qa)(hb:dI g A0 mb qb):dI g A0 (mIf mt ma mb) (pIf qt qa qb):=⟨fun w S ρ r i a hr=>by
 refine(Rn.bnd (q':=fun(c:Bool) i1 Q E=>cond c (qa r i1 Q E) (qb r i1 Q E)) (hr.amb a) (ht.run w S ρ r i a hr) fun x S1 px i1 hx a1 e1=>?_:Rn g (Ow A0 w) _ S _ _)
 subst hx
 have l1:=a.len a1.pen e1
 cases x with
 |true=>exact VR.lift l1 (ha.run w S1 ρ r i1 (a.next a1.pen e1) (hr.ext a a1.pen e1))
 |false=>exact VR.lift l1 (hb.run w S1 ρ r i1 (a.next a1.pen e1) (hr.ext a a1.pen e1))⟩
def Ax(qa qb:aH->PM PV):aH->PM PV:=fun r i Q E=>qa r i (fun x i1=>match x.rd.bind W7 with|some b=>cond b (qb r i1 Q E) (Q x i1)|none=>False) E
def ax5(qa qb:aH->PM PV):aH->PM PV:=fun r i Q E=>qa r i (fun x i1=>match x.rd.bind W7 with|some b=>cond b (Q x i1) (qb r i1 Q E)|none=>False) E
def asI(qa:aH->PM PV):aH->PM PV:=fun r i Q E=>qa r i (fun x i1=>match x.rd.bind W7 with|some b=>Q (.fr (.bl (!b))) i1|none=>False) E
theorem lB(ha:dI g A0 ma qa)(hb:dI g A0 mb qb):dI g A0 (uO nJ ma mb) (Ax qa qb):=⟨fun w S ρ r i a hr=>by
 refine(Rn.bnd (q':=fun(x:PV) i1 Q E=>match x.rd.bind W7 with|some b=>cond b (qb r i1 Q E) (Q x i1)|none=>False) (hr.amb a) (ha.run w S ρ r i a hr) fun x S1 px i1 hx a1 e1=>?_:Rn g (Ow A0 w) _ S _ _)
 have l1:=a.len a1.pen e1
 cases e:px.rd with
 |none=>exact Rn.no
 |some d=>
  cases eb:W7 d with
  |none=>rw[c8,eb];exact Rn.no
  |some b=>
   rw[c8,eb]
   unfold bnd
   rw[ada (hx.read e) eb]
   cases b with
   |true=>exact VR.lift l1 (hb.run w S1 ρ r i1 (a.next a1.pen e1) (hr.ext a a1.pen e1))
   |false=>exact Rn.ret a1.pen hx⟩
theorem ark(ha:dI g A0 ma qa)(hb:dI g A0 mb qb):dI g A0 (anI nJ ma mb) (ax5 qa qb):=⟨fun w S ρ r i a hr=>by
 refine(Rn.bnd (q':=fun(x:PV) i1 Q E=>match x.rd.bind W7 with|some b=>cond b (Q x i1) (qb r i1 Q E)|none=>False) (hr.amb a) (ha.run w S ρ r i a hr) fun x S1 px i1 hx a1 e1=>?_:Rn g (Ow A0 w) _ S _ _)
 have l1:=a.len a1.pen e1
 cases e:px.rd with
 |none=>exact Rn.no
 |some d=>
  cases eb:W7 d with
  |none=>rw[c8,eb];exact Rn.no
  |some b=>
   rw[c8,eb]
   unfold bnd
   rw[ada (hx.read e) eb]
   cases b with
   |false=>exact VR.lift l1 (hb.run w S1 ρ r i1 (a.next a1.pen e1) (hr.ext a a1.pen e1))
   |true=>exact Rn.ret a1.pen hx⟩
theorem amq(ha:dI g A0 ma qa):dI g A0 (acP nJ ma) (asI qa):=⟨fun w S ρ r i a hr=>by
 refine(Rn.bnd (q':=fun(x:PV) i1 (Q:PV->Int->Prop) (E:XP)=>match x.rd.bind W7 with|some b=>Q (.fr (.bl (!b))) i1|none=>False) (hr.amb a) (ha.run w S ρ r i a hr) fun x S1 px i1 hx a1 e1=>?_:Rn g (Ow A0 w) _ S _ _)
 cases e:px.rd with
 |none=>exact Rn.no
 |some d=>
  cases eb:W7 d with
  |none=>rw[c8,eb];exact Rn.no
  |some b=>
   rw[c8,eb]
   unfold bnd
   rw[ada (hx.read e) eb]
   exact Rn.ret a1.pen (DV.bl _)⟩
def Bs:aH->PM Bool:=fun _ i Q _=>Q true i
theorem gA:G9 g A0 wV Bs:=⟨fun w S ρ r i a _=>Rn.ret a.pen rfl⟩
/-- x < y < z -/
def acZ(q q':PV->PV->PM PV)(qa qb qc:aH->PM PV):aH->PM PV:=fun r i Q E=>qa r i (fun x i1=>qb r i1 (fun y i2=>q x y i2 (fun z i3=>match z with
 |.fr (.bl b)=>cond b (qc r i3 (fun v i4=>q' y v i4 Q E) E) (Q (.fr (.bl false)) i3)
 |_=>False) E) E) E
theorem RG{m m':CV->CV->M CV}{q q':PV->PV->PM PV}(h:dO m q)(h':dO m' q')(ha:dI g A0 ma qa)(hb:dI g A0 mb qb)(hc:dI g A0 mc qc):dI g A0 (O9 m m' ma mb mc) (acZ q q' qa qb qc):=⟨fun w S ρ r i a hr=>by
 have am:=hr.amb a
 have hl:=hr.lt a
 have hp0:=a.lt _ a.pin
 refine Rn.bnd (q':=fun x i1 Q E=>qb r i1 (fun y i2=>q x y i2 (fun z i3=>match z with
  |.fr (.bl b)=>cond b (qc r i3 (fun v i4=>q' y v i4 Q E) E) (Q (.fr (.bl false)) i3)
  |_=>False) E) E) am (ha.run w S ρ r i a hr) fun x S1 px i1 hx a1 e1=>?_
 have a01:=a.next a1.pen e1
 have l1:=a.len a1.pen e1
 have hr1:=hr.ext a a1.pen e1
 refine Rn.bnd (q':=fun y i2 Q E=>q px y i2 (fun z i3=>match z with
  |.fr (.bl b)=>cond b (qc r i3 (fun v i4=>q' y v i4 Q E) E) (Q (.fr (.bl false)) i3)
  |_=>False) E) a1 (hb.run w S1 ρ r i1 a01 hr1) fun y S2 py i2 hy a2 e2=>?_
 have hy:=hy.base l1
 have a02:=a01.next a2.pen e2
 have l2:=a9 l1 (a01.len a2.pen e2)
 have hr2:=hr1.ext a01 a2.pen e2
 refine(Rn.bnd (q':=fun(z:PV) i3 (Q:PV->Int->Prop) (E:XP)=>match z with
  |.fr (.bl b)=>cond b (qc r i3 (fun v i4=>q' py v i4 Q E) E) (Q (.fr (.bl false)) i3)
  |_=>False) a2 (h.run g (Ow A0 w) S.length S2 x y px py i2 a2 hp0 hl l2 (hx.ext a1 e2 hp0) hy) fun z S3 pz i3 hz a3 e3=>?_:Rn g (Ow A0 w) _ S2 _ _)
 have a03:=a02.next a3.pen e3
 have l3:=a9 l2 (a02.len a3.pen e3)
 split
 ·cases hz
  rename_i b
  cases b with
  |false=>exact Rn.ret a3.pen (DV.bl _)
  |true=>
  refine Rn.bnd (q':=fun v i4 Q E=>q' py v i4 Q E) a3 (hc.run w S3 ρ r i3 a03 (hr2.ext a02 a3.pen e3)) fun u S4 pu i4 hu a4 e4=>?_
  exact h'.run g (Ow A0 w) S.length S4 y u py pu i4 a4 hp0 hl (a9 l3 (a03.len a4.pen e4)) ((hy.ext a2 e3 hp0).ext a3 e4 hp0) (hu.base l3)
 ·exact Rn.no⟩
theorem Rn.frd{x:Res CV}{q:(D->Int->Prop)->XP->Prop}(h:Rn g A (fun S'=>DV A S') S x q):Rn g A (fun S'=>VR g A n0 S') S x fun Q E=>q (fun d i2=>Q (.fr d) i2) E:=fun Q E hq=>(h _ E hq).imp (fun v S' ⟨d,i',h1,h2,h3⟩=>⟨.fr d,i',h1,h2,h3⟩) fun _ _ _ z=>z
end
inductive PC where
 |nx (r:aH)|rt (d:D)|bk (r:aH)|ct (r:aH)|xc (c:Str) (fs:List (Str×D)) (r:aH)
abbrev PMS:=Int->(PC->Int->Prop)->Prop
/-- a step of a frame: what no name owns stays -/
structure Stp(g:Gh)(w:Nat->Option Nat)(S:Sto)(w':Nat->Option Nat)(S':Sto):Prop where
 ext:∀n o,n≠g.p->(∀j,w j≠some n)->S[n]?=some o->S'[n]?=some o
 wx:∀j n,w' j=some n->(∃k,w k=some n)\/S.length<=n
 len:S.length<=S'.length
def CFP(g:Gh)(A0:AS)(w:Nat->Option Nat)(S S':Sto):CF->PC->Prop
 |.nx ρ,.nx r=>∃w',Stp g w S w' S'/\cU g A0 w' S' ρ r
 |.bk ρ,.bk r=>∃w',Stp g w S w' S'/\cU g A0 w' S' ρ r
 |.ct ρ,.ct r=>∃w',Stp g w S w' S'/\cU g A0 w' S' ρ r
 |.rt v,.rt d=>DV A0 S' v d/\∃w',Stp g w S w' S'
 |.xc c fs ρ,.xc c' gs r=>c=c'/\∃w',Stp g w S w' S'/\cU g A0 w' S' ρ r/\DVf (Ow A0 w') S' fs gs
 |_,_=>False
def PS(g:Gh)(A0:AS)(w:Nat->Option Nat)(S:Sto)(Q:PC->Int->Prop):CF->Sto->Prop:=fun cf S'=>∃pc i',Q pc i'/\CFP g A0 w S S' cf pc/\jY g.p g.c g.cells i' S'
structure iZ [Tabs](g:Gh)(A0:AS)(m:Rho->M CF)(q:aH->PMS):Prop where
 run:∀w S ρ r i,Amb g A0 i S->cU g A0 w S ρ r->∀Q,q r i Q->Wp (m ρ S) (PS g A0 w S Q) NoE
section
variable [Tabs]{g:Gh}{A A0:AS}{S S' S1 S2:Sto}{v u:CV}{d e:D}{xs:List CV}{ds:List D}{ps:List PV}{n p n0 j k:Nat}{i i':Int}{pv:PV}{w w' w1 w2:Nat->Option Nat}{ρ ρ':Rho}{r r':aH}{cf:CF}{pc:PC}{Q:PC->Int->Prop}
theorem Stp.refl:Stp g w S w S:=⟨fun _ _ _ _ e=>e,fun j n e=>.inl ⟨j,e⟩,ba _⟩
theorem Stp.trans(h:Stp g w S w1 S1)(k:Stp g w1 S1 w2 S2):Stp g w S w2 S2:=by
 refine⟨fun n o hn hw e=>k.ext n o hn (fun j ej=>?_) (h.ext n o hn hw e),fun j n e=>?_,a9 h.len k.len⟩
 ·rcases h.wx j n ej with⟨k,ek⟩|hl
  ·exact hw k ek
  ·have:=(aa.mp e).1;omega
 ·rcases k.wx j n e with⟨m,em⟩|hl
  ·exact h.wx m n em
  ·exact .inr (a9 h.len hl)
theorem Stp.of(a:Amb g A i S)(hp:jY g.p g.c g.cells i' S')(h:Ext g.p S S'):Stp g w S w S':=⟨fun n o hn _ e=>h n o hn e,fun j n e=>.inl ⟨j,e⟩,a.len hp h⟩
theorem Stp.kp(h:Stp g w S w' S')(hp:A0 g.p):Kp (Ow A0 w) S (Ow A0 w') S':=fun n o hn e=>by
 refine⟨h.ext n o (fun z=>hn (.inl (z▸hp))) (fun j ej=>hn (.inr ⟨j,ej⟩)) e,fun z=>z.elim (fun z=>hn (.inl z)) fun⟨j,ej⟩=>?_⟩
 rcases h.wx j n ej with⟨m,em⟩|hl
 ·exact hn (.inr ⟨m,em⟩)
 ·have:=(aa.mp e).1;omega
theorem Amb.stp(a:Amb g A0 i S)(hr:cU g A0 w S ρ r)(hp:jY g.p g.c g.cells i' S')(h:Stp g w S w' S'):Amb g A0 i' S':=
 ⟨hp,a.pin,a.pic,fun n hn=>cL (a.lt n hn) h.len,fun n o hn e=>h.ext n o hn (fun j ej=>by have:=hr.new j n ej;have:=(aa.mp e).1;omega) (a.ext n o hn e),a.tab⟩
theorem CFP.trans(h:Stp g w S w1 S1)(k:CFP g A0 w1 S1 S' cf pc):CFP g A0 w S S' cf pc:=by
 cases cf<;>cases pc<;>first|exact k.elim|skip
 ·obtain⟨w',k1,k2⟩:=k;exact⟨w',h.trans k1,k2⟩
 ·obtain⟨k2,w',k1⟩:=k;exact⟨k2,w',h.trans k1⟩
 ·obtain⟨w',k1,k2⟩:=k;exact⟨w',h.trans k1,k2⟩
 ·obtain⟨w',k1,k2⟩:=k;exact⟨w',h.trans k1,k2⟩
 ·obtain⟨k0,w',k1,k2⟩:=k;exact⟨k0,w',h.trans k1,k2⟩
theorem PS.trans(h:Stp g w S w1 S1):PS g A0 w1 S1 Q cf S'->PS g A0 w S Q cf S':=fun⟨pc,i',h1,h2,h3⟩=>⟨pc,i',h1,h2.trans h,h3⟩
/-- upd of a function -/
def pJ(w:Nat->Option Nat)(j:Nat)(o:Option Nat):Nat->Option Nat:=fun k=>if k=j then o else w k
theorem aO{o:Option Nat}:pJ w j o j=o:=if_pos rfl
theorem bf{o:Option Nat}(h:k≠j):pJ w j o k=w k:=if_neg h
theorem yD{o:Option Nat}(h:∃K,∀j,K<=j->w j=none):∃K,∀l,K<=l->pJ w j o l=none:=by
 obtain⟨K,h⟩:=h
 refine⟨max K (j+1),fun l hl=>?_⟩
 rw[bf (by omega)]
 exact h l (by omega)
theorem Ow.none:∀n,Ow A0 (pJ w j none) n->Ow A0 w n:=fun n h=>h.elim .inl fun⟨k,e⟩=>by
 by_cases hk:k=j
 ·subst hk;rw[aO]at e;cases e
 ·rw[bf hk]at e;exact .inr ⟨k,e⟩
/-- a name takes a value -/
theorem cU.put(h:cU g A0 w S ρ r){o:Option Nat}(hv:VS g A0 (pJ w j o) j S v pv)(ho:∀n,o=some n->¬A0 n/\n<S.length/\g.b.length<=n/\∀k,w k≠some n)
    (hk:Kp (Ow A0 w) S (Ow A0 (pJ w j o)) S)(hb:∀(n:Nat),o=some n->∀(k:Nat)(d:D)(u:Nat),r[k]?=some (some (PV.bo d))->ρ[k]?=some (some (CV.ref u))->u≠n):cU g A0 (pJ w j o) S (ρ.set j (some v)) (r.set j (some pv)):=by
  refine⟨by rw[a8,a8,h.len],fun k pk hk'=>?_,fun k l n ek el=>?_,fun k n ek=>?_,fun k n ek=>?_,yD h.fin⟩
  · by_cases hj:j=k
    · subst hj
      rw[br]at hk'
      rw[if_pos rfl]at hk'
      split at hk'
      · rename_i hl
        cases hk'
        exact⟨v,by rw[br,if_pos rfl,if_pos (by rw[<-h.len];exact hl)],hv⟩
      · cases hk'
    · rw[ah hj]at hk'
      obtain⟨u,h1,h2⟩:=h.at_ k pk hk'
      refine⟨u,by rw[ah hj];exact h1,?_⟩
      cases pk with
      |fr d=>exact DV.mono hk h2
      |ow d=>
       obtain⟨n,e1,e2,eo,r⟩:=h2
       exact⟨n,e1,by rw[bf (eW hj)];exact e2,eo,DO.mono hk (fun o eo=>eo) r⟩
      |bo d=>
       obtain⟨n,e1,e2,e3,r⟩:=h2
       refine⟨n,e1,e2,fun l el=>?_,TB.mono hk (fun o eo=>eo) r⟩
       by_cases hl:l=j
       · subst hl
         rw[aO]at el
         exact hb n el k d n hk' (e1▸h1) rfl
       · rw[bf hl]at el;exact e3 l el
      |pen=>exact h2
  · by_cases hk':k=j
    · by_cases hl:l=j
      · rw[hk',hl]
      · subst hk'
        rw[aO]at ek
        rw[bf hl]at el
        exact absurd el ((ho n ek).2.2.2 l)
    · rw[bf hk']at ek
      by_cases hl:l=j
      · subst hl
        rw[aO]at el
        exact absurd ek ((ho n el).2.2.2 k)
      · rw[bf hl]at el;exact h.inj k l n ek el
  · by_cases hk':k=j
    · subst hk';rw[aO]at ek;exact⟨(ho n ek).1,(ho n ek).2.1⟩
    · rw[bf hk']at ek;exact h.out k n ek
  · by_cases hk':k=j
    · subst hk';rw[aO]at ek;exact(ho n ek).2.2.1
    · rw[bf hk']at ek;exact h.new k n ek
theorem cU.putK(h:cU g A0 w S ρ r)(hv:VS g A0 w j S v pv):cU g A0 w S (ρ.set j (some v)) (r.set j (some pv)):=by
 refine⟨by rw[a8,a8,h.len],fun k pk hk'=>?_,h.inj,h.out,h.new,h.fin⟩
 by_cases hj:j=k
 ·subst hj
  rw[br,if_pos rfl]at hk'
  split at hk'
  ·rename_i hl
   cases hk'
   exact⟨v,by rw[br,if_pos rfl,if_pos (by rw[<-h.len];exact hl)],hv⟩
  ·cases hk'
 ·rw[ah hj]at hk' ⊢
  exact h.at_ k pk hk'
theorem cU.Tp(h:cU g A0 w S ρ r)(hv:DV (Ow A0 w) S v d):cU g A0 w S (ρ.set j (some v)) (r.set j (some (.fr d))):=h.putK (pv:=.fr d) hv
theorem cU.auc(h:cU g A0 w S ρ r):cU g A0 w S (ρ.set j (some (.ref g.p))) (r.set j (some .pen)):=h.putK (pv:=.pen) rfl
theorem Stp.drop:Stp g w S (pJ w j none) S:=⟨fun _ _ _ _ e=>e,fun k n e=>by
 by_cases hk:k=j
 ·subst hk;rw[aO]at e;cases e
 ·rw[bf hk]at e;exact .inl ⟨k,e⟩,ba _⟩
/-- a name takes what is new -/
theorem cU.aj7{S0:Sto}(h0:cU g A0 w S0 ρ r)(a0:Amb g A0 i S0)(hp:jY g.p g.c g.cells i' S)(he:Ext g.p S0 S)(hn:S0.length<=n)(hv:DO (fun m=>Ow A0 w m\/m=n) S n d)(ho:d.isObj=false):cU g A0 (pJ w j (some n)) S (ρ.set j (some (.ref n))) (r.set j (some (.ow d)))/\Stp g w S0 (pJ w j (some n)) S:=by
 have hl:=hv.lt
 have no:∀k,w k≠some n:=fun k e=>by have:=(h0.out k n e).2;omega
 have ki:Kp (Ow A0 w) S0 (Ow A0 (pJ w j (some n))) S:=fun m o hm e=>by
  refine⟨he m o (fun z=>hm (.inl (z▸a0.pin))) e,fun z=>z.elim (fun z=>hm (.inl z)) fun⟨k,ek⟩=>?_⟩
  by_cases hk:k=j
  ·subst hk;rw[aO]at ek;cases ek;have:=(aa.mp e).1;omega
  ·rw[bf hk]at ek;exact hm (.inr ⟨k,ek⟩)
 have sub:∀m,Ow A0 (pJ w j (some n)) m->Ow A0 w m\/m=n:=fun m z=>z.elim (fun z=>.inl (.inl z)) fun⟨k,ek⟩=>by
  by_cases hk:k=j
  ·subst hk;rw[aO]at ek;cases ek;exact .inr rfl
  ·rw[bf hk]at ek;exact .inl (.inr ⟨k,ek⟩)
 refine⟨⟨by rw[a8,a8,h0.len],fun k pk hk'=>?_,fun k l m ek el=>?_,fun k m ek=>?_,fun k m ek=>?_,yD h0.fin⟩,⟨fun m o hm _ e=>he m o hm e,fun k m ek=>?_,a0.len hp he⟩⟩
 ·by_cases hj:j=k
  ·subst hj
   rw[br,if_pos rfl]at hk'
   split at hk'
   ·rename_i hl
    cases hk'
    exact⟨_,by rw[br,if_pos rfl,if_pos (by rw[<-h0.len];exact hl)],n,rfl,aO,fun z=>(by rw[ho]at z;cases z),hv.mono (Kp.less sub) fun _ e=>e⟩
   ·cases hk'
  ·rw[ah hj]at hk'
   obtain⟨u,h1,h2⟩:=h0.at_ k pk hk'
   refine⟨u,by rw[ah hj];exact h1,?_⟩
   cases pk with
   |fr d=>exact DV.mono ki h2
   |ow d=>
    obtain⟨m,e1,e2,eo,r⟩:=h2
    exact⟨m,e1,by rw[bf (eW hj)];exact e2,eo,DO.mono ki (fun o eo=>he m o (fun z=>(h0.out _ _ e2).1 (z▸a0.pin)) eo) r⟩
   |bo d=>
    obtain⟨m,e1,e2,e3,r⟩:=h2
    refine⟨m,e1,e2,fun l el=>?_,TB.mono ki (fun o eo=>he m o e2 eo) r⟩
    by_cases hl:l=j
    ·subst hl
     rw[aO]at el
     cases el
     have:=r.lt;omega
    ·rw[bf hl]at el;exact e3 l el
   |pen=>exact h2
 ·by_cases hk':k=j
  ·by_cases hl:l=j
   ·rw[hk',hl]
   ·subst hk'
    rw[aO]at ek
    rw[bf hl]at el
    cases ek
    exact absurd el (no l)
  ·rw[bf hk']at ek
   by_cases hl:l=j
   ·subst hl
    rw[aO]at el
    cases el
    exact absurd ek (no k)
   ·rw[bf hl]at el;exact h0.inj k l m ek el
 ·by_cases hk':k=j
  ·subst hk';rw[aO]at ek;cases ek;exact⟨fun z=>by have:=a0.lt _ z;omega,hl⟩
  ·rw[bf hk']at ek;exact⟨(h0.out k m ek).1,cL (h0.out k m ek).2 (a0.len hp he)⟩
 ·by_cases hk':k=j
  ·subst hk';rw[aO]at ek;cases ek
   exact a9 (a0.ext.len a0.pen.lt) hn
  ·rw[bf hk']at ek;exact h0.new k m ek
 ·by_cases hk':k=j
  ·subst hk';rw[aO]at ek;cases ek;exact .inr hn
  ·rw[bf hk']at ek;exact .inl ⟨k,ek⟩
end
section
variable [Tabs]{α β:Type}{g:Gh}{A A0:AS}{S S' S1 S2:Sto}{v u:CV}{d e:D}{xs:List CV}{ds:List D}{ps:List PV}{n p n0 j k:Nat}{i i':Int}{pv:PV}{w w' w1 w2:Nat->Option Nat}{ρ ρ':Rho}{r r':aH}{cf:CF}{pc:PC}{Q:PC->Int->Prop}
variable {ma mb mc me:Rho->M CV}{qa qb qc qe:aH->PM PV}{mt mu:Rho->M Bool}{qt qu:aH->PM Bool}{ms:Rho->M (List CV)}{qs:aH->PM (List PV)}{m1 m2:Rho->M CF}{q1 q2:aH->PMS}
theorem wu{R:Sto->α->β->Prop}{x:Res α}{q:(β->Int->Prop)->XP->Prop}{K:β->Int->Prop}{f:α->M CF}(a:Amb g A0 i S)(hr:cU g A0 w S ρ r)(h:Rn g (Ow A0 w) R S x q)(hq:q K fun c fs i1=>Q (.xc c fs r) i1)
    (hk:∀v S1 pv i1,R S1 v pv->K pv i1->Amb g A0 i1 S1->cU g A0 w S1 ρ r->Ext g.p S S1->Stp g w S w S1->Wp (f v S1) (PS g A0 w S Q) NoE):Wp (lft ρ x f) (PS g A0 w S Q) NoE:=by
  rw[jL]
  refine(h _ _ hq).imp (fun v S1 ⟨pv,i1,h1,h2,h3,h4⟩=>?_) fun c fs S1 ⟨gs,i1,h1,h2,h3,h4⟩=>?_
  · exact hk v S1 pv i1 h2 h1 (a.next h3 h4) (hr.ext a h3 h4) h4 (Stp.of a h3 h4)
  · exact⟨.xc c gs r,i1,h1,⟨rfl,w,Stp.of a h3 h4,hr.ext a h3 h4,h2⟩,h3⟩
def lY:aH->PMS:=fun r i Q=>Q (.nx r) i
theorem dw:iZ g A0 gY lY:=⟨fun w S ρ r i a hr Q q=>⟨.nx r,i,q,⟨w,Stp.refl,hr⟩,a.pen⟩⟩
def pK(b:aH->PMS)(Q:PC->Int->Prop):PC->Int->Prop
 |.nx r,i=>b r i Q
 |.rt d,i=>Q (.rt d) i
 |.bk r,i=>Q (.bk r) i
 |.ct r,i=>Q (.ct r) i
 |.xc c fs r,i=>Q (.xc c fs r) i
def eX(a b:aH->PMS):aH->PMS:=fun r i Q=>a r i (pK b Q)
theorem aW(h1:iZ g A0 m1 q1)(h2:iZ g A0 m2 q2):iZ g A0 (cJ m1 m2) (eX q1 q2):=⟨fun w S ρ r i a hr Q q=>by
 rw[wp_seq]
 refine(h1.run w S ρ r i a hr _ q).imp (fun cf S1 ⟨pc,i1,hq,hc,hp⟩=>?_) fun _ _ _ z=>z
 cases cf<;>cases pc<;>first|exact hc.elim|skip
 ·obtain⟨w1,st,hr1⟩:=hc
  exact(h2.run w1 S1 _ _ i1 (a.stp hr hp st) hr1 Q hq).imp (fun cf S2 h=>h.trans st) fun _ _ _ z=>z
 all_goals exact⟨_,i1,hq,hc,hp⟩⟩
def wY(qt:aH->PM Bool)(a b:aH->PMS):aH->PMS:=fun r i Q=>qt r i (fun c i1=>cond c (a r i1 Q) (b r i1 Q)) (fun c fs i1=>Q (.xc c fs r) i1)
theorem eE(ht:G9 g A0 mt qt)(h1:iZ g A0 m1 q1)(h2:iZ g A0 m2 q2):iZ g A0 (sIf mt m1 m2) (wY qt q1 q2):=⟨fun w S ρ r i a hr Q q=>
 wu a hr (ht.run w S ρ r i a hr) q fun v S1 pv i1 hv hK a1 hr1 e1 st=>by
  subst hv
  cases v with
  |true=>exact(h1.run w S1 ρ r i1 a1 hr1 Q hK).imp (fun cf S2 h=>h.trans st) fun _ _ _ z=>z
  |false=>exact(h2.run w S1 ρ r i1 a1 hr1 Q hK).imp (fun cf S2 h=>h.trans st) fun _ _ _ z=>z⟩
def nW(qe:aH->PM PV):aH->PMS:=fun r i Q=>qe r i (fun x i1=>match x.frz with|some d=>Q (.rt d) i1|none=>False) (fun c fs i1=>Q (.xc c fs r) i1)
theorem bU(he:dI g A0 me qe):iZ g A0 (jF me) (nW qe):=⟨fun w S ρ r i a hr Q q=>
 wu a hr (he.run w S ρ r i a hr) q fun v S1 pv i1 hv hK a1 hr1 e1 st=>by
  cases e:pv.frz with
  |none=>rw[e]at hK;exact hK.elim
  |some d=>
   rw[e]at hK
   exact⟨.rt d,i1,hK,⟨(VR.frz (hr.lt a) hv e).mono (Kp.less fun _ h=>.inl h),w,st⟩,a1.pen⟩⟩
/-- x = e -/
def Bp(qe:aH->PM PV)(j:Nat):aH->PMS:=fun r i Q=>qe r i (fun x i1=>match x with
 |.fr d=>Q (.nx (r.set j (some (.fr d)))) i1
 |.ow d=>Q (.nx (r.set j (some (.fr d)))) i1
 |.pen=>Q (.nx (r.set j (some .pen))) i1
 |.bo _=>False) (fun c fs i1=>Q (.xc c fs r) i1)
theorem fQ(he:dI g A0 me qe):iZ g A0 (d9 me (gN j)) (Bp qe j):=⟨fun w S ρ r i a hr Q q=>
 wu a hr (he.run w S ρ r i a hr) q fun v S1 pv i1 hv hK a1 hr1 e1 st=>by
  show PS g A0 w S Q (.nx (ρ.set j (some v))) S1
  cases pv with
  |fr d=>exact⟨_,i1,hK,⟨w,st,hr1.Tp hv⟩,a1.pen⟩
  |ow d=>exact⟨_,i1,hK,⟨w,st,hr1.Tp (VR.frz (pv:=.ow d) (hr.lt a) hv rfl)⟩,a1.pen⟩
  |bo d=>exact hK.elim
  |pen=>
   obtain rfl:v=.ref g.p:=hv
   exact⟨_,i1,hK,⟨w,st,hr1.auc⟩,a1.pen⟩⟩
/-- x = e, where x is to be changed later -/
def Zt(qe:aH->PM PV)(j:Nat):aH->PMS:=fun r i Q=>qe r i (fun x i1=>match x with
 |.ow (.lst ds)=>Q (.nx (r.set j (some (.ow (.lst ds))))) i1
 |.ow (.dic ds)=>Q (.nx (r.set j (some (.ow (.dic ds))))) i1
 |_=>False) (fun c fs i1=>Q (.xc c fs r) i1)
theorem BX(he:dI g A0 me qe):iZ g A0 (d9 me (gN j)) (Zt qe j):=⟨fun w S ρ r i a hr Q q=>
 wu a hr (he.run w S ρ r i a hr) q fun v S1 pv i1 hv hK a1 hr1 e1 st=>by
  show PS g A0 w S Q (.nx (ρ.set j (some v))) S1
  split at hK
  ·obtain⟨n,rfl,hn,hd⟩:=hv
   obtain⟨h1,h2⟩:=hr.aj7 (j:=j) a a1.pen e1 hn hd rfl
   exact⟨_,i1,hK,⟨_,h2,h1⟩,a1.pen⟩
  ·obtain⟨n,rfl,hn,hd⟩:=hv
   obtain⟨h1,h2⟩:=hr.aj7 (j:=j) a a1.pen e1 hn hd rfl
   exact⟨_,i1,hK,⟨_,h2,h1⟩,a1.pen⟩
  ·exact hK.elim⟩
/-- from here on x is never changed -/
def aeA(j:Nat)(q:aH->PMS):aH->PMS:=fun r i Q=>match r[j]? with
 |some (some (.ow d))=>q (r.set j (some (.fr d))) i Q
 |_=>False
theorem cU.frz(h:cU g A0 w S ρ r)(hj:r[j]?=some (some (.ow d))):cU g A0 (pJ w j none) S ρ (r.set j (some (.fr d))):=by
 obtain⟨v,h1,n,rfl,h2,_,h3⟩:=h.at_ j _ hj
 have k:∀m,Ow A0 (pJ w j none) m->Ow A0 w m:=Ow.none
 have hn:¬Ow A0 (pJ w j none) n:=fun z=>z.elim (h.out j n h2).1 fun⟨l,el⟩=>by
  by_cases hl:l=j
  ·subst hl;rw[aO]at el;cases el
  ·rw[bf hl]at el;exact hl (h.inj l j n el h2)
 have key:=h.put (j:=j) (o:=none) (pv:=.fr d) (v:=.ref n) ((h3.mono (Kp.less k) fun _ e=>e).dv hn) (fun _ e=>nomatch e) (Kp.less k) (fun _ e=>nomatch e)
 have e:ρ.set j (some (.ref n))=ρ:=by
  apply List.ext_getElem?
  intro l
  by_cases hl:j=l
  ·subst hl;rw[br,if_pos rfl,if_pos (aa.mp h1).1,h1]
  ·rw[ah hl]
 rw[e]at key
 exact key
theorem FZ(h1:iZ g A0 m1 q1):iZ g A0 m1 (aeA j q1):=⟨fun w S ρ r i a hr Q q=>by
 unfold aeA at q
 split at q
 ·rename_i d hj
  exact(h1.run _ S ρ _ i a (hr.frz hj) Q q).imp (fun cf S2 h=>h.trans Stp.drop) fun _ _ _ z=>z
 ·exact q.elim⟩
/-- x.append(e) -/
def aks(j:Nat)(qe:aH->PM PV):aH->PMS:=fun r i Q=>match r[j]? with
 |some (some (.ow (.lst ds)))=>qe r i (fun x i1=>match x.frz with
  |some d=>gd (ds.length<sizeLine) (Q (.nx (r.set j (some (.ow (.lst (ds++[d])))))) i1)
  |none=>False) (fun c fs i1=>Q (.xc c fs r) i1)
 |_=>False
/-- what a name owns is changed -/
theorem cU.chg(h:cU g A0 w S ρ r)(a:Amb g A0 i S)(hj:r[j]?=some (some (.ow d))){o:CO}(hw:w j=some n)(hd:DO (Ow A0 w) (S.set n o) n e)(hob:e.isObj=true->d.isObj=true):cU g A0 w (S.set n o) ρ (r.set j (some (.ow e)))/\Stp g w S w (S.set n o)/\jY g.p g.c g.cells i (S.set n o):=by
 have hn:=h.out j n hw
 have np:n≠g.p:=fun z=>hn.1 (z▸a.pin)
 have ki:Kp (Ow A0 w) S (Ow A0 w) (S.set n o):=fun m o' hm e=>⟨by rw[ah (fun z=>hm (.inr ⟨j,by rw[hw,z]⟩))];exact e,hm⟩
 have hnc:n≠g.c:=fun z=>hn.1 (z▸a.pic)
 refine⟨⟨by rw[a8,h.len],fun k pk hk'=>?_,h.inj,fun k m ek=>⟨(h.out k m ek).1,by rw[a8];exact(h.out k m ek).2⟩,h.new,h.fin⟩,⟨fun m o' hm hw' e=>by rw[ah (fun z=>hw' j (by rw[hw,z]))];exact e,fun k m ek=>.inl ⟨k,ek⟩,by rw[a8];exact ba _⟩,?_⟩
 ·by_cases hjk:j=k
  ·subst hjk
   rw[br,if_pos rfl,if_pos (aa.mp hj).1]at hk'
   cases hk'
   obtain⟨v,h1,m,h2,h3,ho,h4⟩:=h.at_ j _ hj
   rw[hw]at h3
   cases h3
   exact⟨v,h1,n,h2,hw,fun z=>ho (hob z),hd⟩
  ·rw[ah hjk]at hk'
   obtain⟨u,h1,h2⟩:=h.at_ k pk hk'
   refine⟨u,h1,?_⟩
   cases pk with
   |fr d=>exact DV.mono ki h2
   |ow d=>
    obtain⟨m,e1,e2,eo,r⟩:=h2
    refine⟨m,e1,e2,eo,DO.mono ki (fun o' eo=>?_) r⟩
    rw[ah (fun z=>hjk (h.inj j k n hw (by rw[e2,z])))];exact eo
   |bo d=>
    obtain⟨m,e1,e2,e3,r⟩:=h2
    refine⟨m,e1,e2,e3,TB.mono ki (fun o' eo=>?_) r⟩
    rw[ah (fun z=>e3 j (by rw[hw,z]))];exact eo
   |pen=>exact h2
 ·obtain⟨t,s,e1,e2,e3⟩:=a.pen
  exact⟨t,s,by rw[ah np];exact e1,by rw[ah hnc];exact e2,e3⟩
theorem cU.own(h:cU g A0 w S ρ r)(hj:r[j]?=some (some (.ow d))):∃n,ρ[j]?=some (some (.ref n))/\w j=some n/\DO (Ow A0 w) S n d:=by
 obtain⟨v,h1,n,rfl,h2,_,h3⟩:=h.at_ j _ hj
 exact⟨n,h1,h2,h3⟩
theorem Q8(he:dI g A0 me qe):iZ g A0 (Ny (mBM "list" rB (aK j) (au me aN))) (aks j qe):=⟨fun w S ρ r i a hr Q q=>by
 unfold aks at q
 split at q
 ·rename_i ds hj
  obtain⟨n,h1,h2,xs,h3,h4⟩:=hr.own hj
  rw[Aj,akg,xU,h1]
  dsimp only
  have ty:tyB S (.ref n)=some "list":=by unfold tyB;dsimp only;rw[h3]
  rw[if_pos ty,yu]
  have key:=he.run w S ρ r i a hr _ _ q
  refine key.imp (fun v S1 ⟨pv,i1,hq,hv,hp,e1⟩=>?_) fun c fs S1 ⟨gs,i1,k1,k2,k3,k4⟩=>?_
  ·have a1:=a.next hp e1
   have hr1:=hr.ext a hp e1
   dsimp only at hq
   cases ef:pv.frz with
   |none=>rw[ef]at hq;exact hq.elim
   |some d=>
    rw[ef]at hq
    obtain⟨hl,hq⟩:=cQ.mp hq
    have hd:DV (Ow A0 w) S1 v d:=VR.frz (hr.lt a) hv ef
    obtain⟨n',g1,g2,xs',g3,g4⟩:=hr1.own hj
    rw[h2]at g2
    cases g2
    rw[G7]
    have ea:rB (.ref n) [v] S1=.ok .non (S1.set n (.lst (xs'++[v]))):=by
     unfold rB
     dsimp only
     rw[g3]
     dsimp only
     rw[if_pos (by rw[g4.length];exact hl)]
    rw[ea]
    have hn:=(aa.mp g3).1
    have ki:Kp (Ow A0 w) S1 (Ow A0 w) (S1.set n (.lst (xs'++[v]))):=fun m o' hm e=>⟨by rw[ah (fun z=>hm (.inr ⟨j,by rw[h2,z]⟩))];exact e,hm⟩
    obtain⟨k1,k2,k3⟩:=hr1.chg (e:=.lst (ds++[d])) (o:=.lst (xs'++[v])) a1 hj h2 ⟨_,aE hn,DVs.append (.cons (hd.mono ki) .nil) (g4.mono ki)⟩ (fun z=>nomatch z)
    exact⟨_,i1,hq,⟨w,(Stp.of a hp e1).trans k2,k1⟩,k3⟩
  ·exact⟨.xc c gs r,i1,k1,⟨rfl,w,Stp.of a k3 k4,hr.ext a k3 k4,k2⟩,k3⟩
 ·exact q.elim⟩
def aox:List Nat->List D->aH->Option aH
 | [],[],r=>some r
 |j::js,d::ds,r=>aox js ds (r.set j (some (.fr d)))
 |_,_,_=>none
theorem ah3:∀{js:List Nat}{w:Nat->Option Nat}{xs:List CV}{ds:List D}{ρ:Rho}{r r':aH},cU g A0 w S ρ r->DVs (Ow A0 w) S xs ds->aox js ds r=some r'->∃ρ',gNs js xs ρ=some ρ'/\cU g A0 w S ρ' r'
 | [],w,_,_,ρ,r,r',h,.nil,e=>by cases e;exact⟨ρ,rfl,h⟩
 |j::js,w,_,_,ρ,r,r',h,.cons hv hs,e=>by
  obtain⟨ρ',h1,h2⟩:=ah3 (js:=js) (h.Tp (j:=j) hv) hs e
  exact⟨ρ',h1,h2⟩
 | [],_,_,_,_,_,_,_,.cons _ _,e=>by cases e
 |_::_,_,_,_,_,_,_,_,.nil,e=>by cases e
/-- x, y = e -/
def acY(qe:aH->PM PV)(js:List Nat):aH->PMS:=fun r i Q=>qe r i (fun x i1=>match x with
 |.fr (.tup ds)=>match aox js ds r with
  |some r'=>Q (.nx r') i1
  |none=>False
 |_=>False) (fun c fs i1=>Q (.xc c fs r) i1)
theorem Jh{js:List Nat}(he:dI g A0 me qe):iZ g A0 (d9 me (gT js)) (acY qe js):=⟨fun w S ρ r i a hr Q q=>
 wu a hr (he.run w S ρ r i a hr) q fun v S1 pv i1 hv hK a1 hr1 e1 st=>by
  split at hK
  ·cases hv with
   |tup hs=>
    split at hK
    ·rename_i r' er
     obtain⟨ρ',h1,h2⟩:=ah3 hr1 hs er
     unfold gT
     dsimp only
     rw[h1]
     exact⟨_,i1,hK,⟨w,st,h2⟩,a1.pen⟩
    ·exact hK.elim
  ·exact hK.elim⟩
/-- self.f = e -/
def aku(f:Str)(tbl:List Str)(j:Nat)(qe:aH->PM PV):aH->PMS:=fun r i Q=>qe r i (fun x i1=>match x.frz,r[j]? with
 |some d,some (some (.ow (.obj c gs)))=>gd (c∈tbl/\gs.length<1000) (Q (.nx (r.set j (some (.ow (.obj c (putD f d gs)))))) i1)
 |_,_=>False) (fun c fs i1=>Q (.xc c fs r) i1)
theorem Lf{f:Str}{tbl:List Str}(he:dI g A0 me qe):iZ g A0 (Qi f tbl (aK j) me) (aku f tbl j qe):=⟨fun w S ρ r i a hr Q q=>
 wu a hr (he.run w S ρ r i a hr) q fun v S1 pv i1 hv hK a1 hr1 e1 st=>by
  split at hK
  ·rename_i d c gs ef hj
   obtain⟨hc,hK⟩:=cQ.mp hK
   obtain⟨n,h1,h2,fs,h3,h4⟩:=hr1.own hj
   have hd:DV (Ow A0 w) S1 v d:=VR.frz (hr.lt a) hv ef
   rw[jL,xU,h1]
   dsimp only
   rw[jL]
   have es:akx f tbl (.ref n) v S1=.ok () (S1.set n (.ins c (JD f v fs))):=by
    unfold akx
    dsimp only
    rw[h3]
    dsimp only
    rw[if_pos ⟨hc.1,by rw[h4.length];exact hc.2⟩]
   rw[es]
   have hn:=(aa.mp h3).1
   have ki:Kp (Ow A0 w) S1 (Ow A0 w) (S1.set n (.ins c (JD f v fs))):=fun m o' hm e=>⟨by rw[ah (fun z=>hm (.inr ⟨j,by rw[h2,z]⟩))];exact e,hm⟩
   obtain⟨k1,k2,k3⟩:=hr1.chg (e:=.obj c (putD f d gs)) (o:=.ins c (JD f v fs)) a1 hj h2 ⟨_,aE hn,(h4.mono ki).put (hd.mono ki)⟩ (fun _=>rfl)
   exact⟨_,i1,hK,⟨w,st.trans k2,k1⟩,k3⟩
  ·exact hK.elim⟩
/-- raise C(..) -/
def Ue(c:Str)(fs:List Str)(qs:aH->PM (List PV)):aH->PMS:=fun r i Q=>qs r i (fun ps i1=>match frzs ps with
 |some ds=>gd (ds.length=fs.length) (Q (.xc c (fs.zip ds).reverse r) i1)
 |none=>False) (fun c fs i1=>Q (.xc c fs r) i1)
theorem DVf.zip{fs:List Str}:∀{xs:List CV}{ds:List D},DVs A S xs ds->DVf A S (fs.zip xs) (fs.zip ds):=by
 induction fs with
 |nil=>intro xs ds _;exact .nil
 |cons f fs ih=>
  intro xs ds h
  cases h with
  |nil=>exact .nil
  |cons h1 h2=>exact .cons h1 (ih h2)
theorem DVf.append{ys:List (Str×CV)}{es:List (Str×D)}(r':DVf A S ys es):∀{xs:List (Str×CV)}{ds:List (Str×D)},DVf A S xs ds->DVf A S (xs++ys) (ds++es)
 |_,_,.nil=>r'
 |_,_,.cons h r=>.cons h (DVf.append r' r)
theorem DVf.rev:∀{xs:List (Str×CV)}{ds:List (Str×D)},DVf A S xs ds->DVf A S xs.reverse ds.reverse
 |_,_,.nil=>.nil
 |_,_,.cons h r=>by rw[cB,cB];exact DVf.append (.cons h .nil) (DVf.rev r)
theorem Bt{c:Str}{fs:List Str}(hs:Oh g A0 ms qs):iZ g A0 (BW c fs ms) (Ue c fs qs):=⟨fun w S ρ r i a hr Q q=>
 wu a hr (hs.run w S ρ r i a hr) q fun v S1 pv i1 hv hK a1 hr1 e1 st=>by
  split at hK
  ·rename_i ds ef
   have hd:=hv.frzs (hr.lt a) ef
   rw[cQ]at hK
   rw[if_pos (by rw[hd.length];exact hK.1)]
   exact⟨_,i1,hK.2,⟨rfl,w,st,hr1,DVf.rev (DVf.zip hd)⟩,a1.pen⟩
  ·exact hK.elim⟩
/-- try: .. except C as i: j = i -/
def asJ(tbl:List (Str×Bool))(j k:Nat)(Q:PC->Int->Prop):PC->Int->Prop
 |.xc c fs r,i=>(match tbl.lookup c with
  |some true=>Q (.nx (((r.set j (some (.fr (.exn c fs)))).set k (some (.fr (.exn c fs)))).set j none)) i
  |some false=>Q (.xc c fs r) i
  |none=>False)
 |.nx r,i=>Q (.nx r) i
 |.rt d,i=>Q (.rt d) i
 |.bk r,i=>Q (.bk r) i
 |.ct r,i=>Q (.ct r) i
def ax6(tbl:List (Str×Bool))(j k:Nat)(q:aH->PMS):aH->PMS:=fun r i Q=>q r i (asJ tbl j k Q)
theorem cU.wipe(h:cU g A0 w S ρ r):cU g A0 w S (ρ.set j none) (r.set j none):=by
 refine⟨by rw[a8,a8,h.len],fun k pk hk=>?_,h.inj,h.out,h.new,h.fin⟩
 by_cases hj:j=k
 ·subst hj
  rw[br,if_pos rfl]at hk
  split at hk<;>cases hk
 ·rw[ah hj]at hk ⊢
  exact h.at_ k pk hk
theorem arn{tbl:List (Str×Bool)}(h1:iZ g A0 m1 q1):iZ g A0 (vZ tbl j k m1) (ax6 tbl j k q1):=⟨fun w S ρ r i a hr Q q=>by
 rw[W9]
 refine(h1.run w S ρ r i a hr _ q).imp (fun cf S1 ⟨pc,i1,hq,hc,hp⟩=>?_) fun _ _ _ z=>z
 cases cf with
 |xc c fs ρ1=>
  cases pc with
  |xc c' gs r1=>
   obtain⟨rfl,w1,st,hr1,hf⟩:=hc
   unfold arG
   unfold asJ at hq
   dsimp only at hq ⊢
   cases e:tbl.lookup c with
   |none=>rw[e]at hq;exact hq.elim
   |some b=>
    rw[e]at hq
    cases b with
    |true=>
     have k1:=hr1.Tp (j:=j) (DV.exn (c:=c) hf)
     have k2:=k1.Tp (j:=k) (DV.exn (c:=c) hf)
     exact⟨_,i1,hq,⟨_,st,k2.wipe⟩,hp⟩
    |false=>exact⟨_,i1,hq,⟨rfl,w1,st,hr1,hf⟩,hp⟩
  |_=>exact hc.elim
 |_=>cases pc<;>first|exact hc.elim|exact⟨_,i1,hq,hc,hp⟩⟩
end
/-- what is gone through stays -/
def Stable(A:AS)(S:Sto):List (Nat×CO)->Prop
 | []=>True
 | [(n,c)]=>S[n]?=some c/\¬A n
 |(n,c)::l=>(S[n]?=some c/\¬A n)/\Stable A S l
def RI(A:AS)(S:Sto)(src:Src)(ds:List D):Prop:=DVs A S src.items ds/\Stable A S src.at'
structure ad6 [Tabs](g:Gh)(A0:AS)(m:Rho->M Src)(q:aH->PM (List D)):Prop where
 run:∀w S ρ r i,Amb g A0 i S->cU g A0 w S ρ r->Rn g (Ow A0 w) (RI (Ow A0 w)) S (m ρ S) (q r i)
def acw(x:Str):List D:=x.cps.toList.map fun c=>D.str ⟨#[c]⟩
def an1(lo:Int)(n:Nat):List D:=(cq n).map fun(i:Nat)=>D.int (lo+(i:Int))
section
variable [Tabs]{α β:Type}{g:Gh}{A A' A0:AS}{S S' S1 S2:Sto}{v u:CV}{d e:D}{xs:List CV}{ds:List D}{ps:List PV}{n p n0 j k:Nat}{i i':Int}{pv:PV}{w w' w1 w2:Nat->Option Nat}{ρ ρ':Rho}{r r':aH}{cf:CF}{pc:PC}{Q:PC->Int->Prop}
variable {ma mb mc me:Rho->M CV}{qa qb qc qe:aH->PM PV}{mt mu:Rho->M Bool}{qt qu:aH->PM Bool}{ms:Rho->M (List CV)}{qs:aH->PM (List PV)}{m1 m2:Rho->M CF}{q1 q2:aH->PMS}{mi:Rho->M Src}{qi:aH->PM (List D)}
theorem Stable.mono{o:List (Nat×CO)}(k:Kp A S A' S')(h:Stable A S o):Stable A' S' o:=by
 match o,h with
 | [],_=>trivial
 | [_],h=>exact k _ _ h.2 h.1
 |_::q::l,h=>exact⟨k _ _ h.1.2 h.1.1,Stable.mono (o:=q::l) k h.2⟩
theorem Stable.akk:∀{o:List (Nat×CO)},Stable A S o->MW.akk S o=true
 | [],_=>rfl
 | [_],h=>decide_eq_true h.1
 |(n,c)::q::l,h=>by
  show(decide (S[n]?=some c)&&MW.akk S (q::l))=true
  rw[decide_eq_true h.1.1,Stable.akk (o:=q::l) h.2];rfl
theorem Stable.chk{src:Src}(h:Stable A S src.at'):src.chk S=true:=Stable.akk h
theorem aiw{x:Str}:DVs A S (Gn x) (acw x):=by
 unfold Gn acw
 induction x.cps.toList with
 |nil=>exact .nil
 |cons c l ih=>exact .cons (.str _) ih
theorem ara{lo:Int}:DVs A S (nU lo n) (an1 lo n):=by
 unfold nU an1
 induction cq n with
 |nil=>exact .nil
 |cons c l ih=>exact .cons (.int _) ih
def ab7(qe:aH->PM PV):aH->PM (List D):=fun r i Q E=>qe r i (fun x i1=>match x with
 |.fr (.tup ds)=>Q ds i1
 |.fr (.str z)=>Q (acw z) i1
 |.fr (.lst ds)=>Q ds i1
 |.ow (.lst ds)=>Q ds i1
 |_=>False) E
theorem v8(he:dI g A0 me qe):ad6 g A0 (Yx me) (ab7 qe):=⟨fun w S ρ r i a hr=>by
 refine(Rn.bnd (q':=fun(x:PV) i1 (Q:List D->Int->Prop) (E:XP)=>match x with
  |.fr (.tup ds)=>Q ds i1
  |.fr (.str z)=>Q (acw z) i1
  |.fr (.lst ds)=>Q ds i1
  |.ow (.lst ds)=>Q ds i1
  |_=>False) (hr.amb a) (he.run w S ρ r i a hr) fun x S1 px i1 hx a1 e1=>?_:Rn g (Ow A0 w) _ S _ _)
 split
 ·cases hx with
  |tup h=>exact Rn.ret a1.pen ⟨h,trivial⟩
 ·cases hx;exact Rn.ret a1.pen ⟨aiw,trivial⟩
 ·cases hx with
  |lst h1 h2 h3=>
   unfold aeS
   dsimp only
   rw[h1]
   exact Rn.ret a1.pen ⟨h3,h1,h2⟩
 ·obtain⟨n,rfl,hn,xs,h1,h2⟩:=hx
  unfold aeS
  dsimp only
  rw[h1]
  exact Rn.ret a1.pen ⟨h2.mono (Kp.less fun _ h=>.inl h),h1,fun z=>by have:=hr.lt a n z;omega⟩
 ·exact Rn.no⟩
def GD(qs:aH->PM (List PV)):aH->PM (List D):=fun r i Q E=>qs r i (fun x i1=>match x with
 | [.fr (.int j)]=>gd (-(2 ^ 62)<=j/\j<2 ^ 62) (Q (an1 0 j.toNat) i1)
 |_=>False) E
theorem yC(hs:Oh g A0 ms qs):ad6 g A0 (Av ms) (GD qs):=⟨fun w S ρ r i a hr=>by
 refine(Rn.bnd (q':=fun(x:List PV) i1 (Q:List D->Int->Prop) (E:XP)=>match x with
  | [.fr (.int j)]=>gd (-(2 ^ 62)<=j/\j<2 ^ 62) (Q (an1 0 j.toNat) i1)
  |_=>False) (hr.amb a) (hs.run w S ρ r i a hr) fun x S1 px i1 hx a1 e1=>?_:Rn g (Ow A0 w) _ S _ _)
 split
 ·rename_i j
  cases hx with
  |cons h1 h2=>
   cases h2
   cases h1
   intro Q E hq0
   obtain⟨h1,h2⟩:=cQ.mp hq0
   unfold asR
   dsimp only
   rw[if_pos h1]
   exact Rn.ret (R:=RI (Ow A0 w)) a1.pen (show RI (Ow A0 w) S1 ⟨_,[]⟩ _ from⟨ara,trivial⟩) Q E h2
 ·exact Rn.no⟩
structure ar0(m:CV->Rho->M Rho)(t:D->aH->Option aH):Prop where
 run:∀g A0 w S ρ r v d r',cU g A0 w S ρ r->DV (Ow A0 w) S v d->t d r=some r'->∃ρ',m v ρ S=.ok ρ' S/\cU g A0 w S ρ' r'
def tN(j:Nat):D->aH->Option aH:=fun d r=>some (r.set j (some (.fr d)))
theorem YZ:ar0 (gN j) (tN j):=⟨fun g A0 w S ρ r v d r' hr hv e=>by cases e;exact⟨_,rfl,hr.Tp hv⟩⟩
def pFK(next:aH->Int->Prop)(Q:PC->Int->Prop):PC->Int->Prop
 |.nx r,i=>next r i
 |.ct r,i=>next r i
 |.bk r,i=>Q (.nx r) i
 |.rt d,i=>Q (.rt d) i
 |.xc c fs r,i=>Q (.xc c fs r) i
def qY(t:D->aH->Option aH)(b:aH->PMS):List D->aH->PMS
 | []=>fun r i Q=>Q (.nx r) i
 |d::ds=>fun r i Q=>match t d r with
  |some r1=>b r1 i (pFK (fun r2 i2=>qY t b ds r2 i2 Q) Q)
  |none=>False
theorem abU{mg:CV->Rho->M Rho}{t:D->aH->Option aH}{o:List (Nat×CO)}{chk:Sto->Bool}(hg:ar0 mg t)(hb:iZ g A0 m1 q1)(hchk:∀{A S},Stable A S o->chk S=true):∀{ds:List D}{xs:List CV}{w:Nat->Option Nat}{S:Sto}{ρ:Rho}{r:aH}{i:Int},
    Amb g A0 i S->cU g A0 w S ρ r->DVs (Ow A0 w) S xs ds->Stable (Ow A0 w) S o->∀Q,qY t q1 ds r i Q->Wp (xY chk mg m1 xs ρ S) (PS g A0 w S Q) NoE
  | [],_,w,S,ρ,r,i,a,hr,.nil,hs,Q,q=>by
    rw[arN,if_pos (hchk hs)]
    exact⟨.nx r,i,q,⟨w,Stp.refl,hr⟩,a.pen⟩
  |d::ds,_,w,S,ρ,r,i,a,hr,.cons (v:=v) hv hx,hs,Q,q=>by
   rw[arO,if_pos (hchk hs)]
   unfold qY at q
   cases er:t d r with
   |none=>rw[er]at q;exact q.elim
   |some r1=>
    rw[er]at q
    obtain⟨ρ1,h1,h2⟩:=hg.run g A0 w S ρ r v d r1 hr hv er
    rw[h1]
    refine(hb.run w S ρ1 r1 i a h2 _ q).imp (fun cf S2 ⟨pc,i2,hq,hc,hp⟩=>?_) fun _ _ _ z=>z
    have go:∀{w2:Nat->Option Nat}{ρ2:Rho}{r2:aH},Stp g w S w2 S2->cU g A0 w2 S2 ρ2 r2->qY t q1 ds r2 i2 Q->Wp (xY chk mg m1 _ ρ2 S2) (PS g A0 w S Q) NoE:=fun {w2 ρ2 r2} st hr2 hq=>by
        have kp2:=st.kp a.pin
        exact(abU hg hb hchk (a.stp hr hp st) hr2 (hx.mono kp2) (hs.mono kp2) Q hq).imp (fun cf S3 h=>h.trans st) fun _ _ _ z=>z
    cases cf with
    |nx ρ2=>cases pc with
     |nx r2=>obtain⟨w2,st,hr2⟩:=hc;exact go st hr2 hq
     |_=>exact hc.elim
    |ct ρ2=>cases pc with
     |ct r2=>obtain⟨w2,st,hr2⟩:=hc;exact go st hr2 hq
     |_=>exact hc.elim
    |bk ρ2=>cases pc with
     |bk r2=>obtain⟨w2,st,hr2⟩:=hc;exact⟨.nx r2,i2,hq,⟨w2,st,hr2⟩,hp⟩
     |_=>exact hc.elim
    |rt v2=>cases pc with
     |rt d2=>exact⟨.rt d2,i2,hq,hc,hp⟩
     |_=>exact hc.elim
    |xc c fs ρ2=>cases pc with
     |xc c' gs r2=>exact⟨.xc c' gs r2,i2,hq,hc,hp⟩
     |_=>exact hc.elim
/-- a place where a run stops -/
structure Opq(P:Prop):Prop where
 run:P
def Zu(W:Prop->Prop)(qi:aH->PM (List D))(t:D->aH->Option aH)(b:aH->PMS):aH->PMS:=fun r i Q=>qi r i (fun ds i1=>W (qY t b ds r i1 Q)) (fun c fs i1=>Q (.xc c fs r) i1)
theorem Qm{W:Prop->Prop}(hW:∀{P},W P->P){mg:CV->Rho->M Rho}{t:D->aH->Option aH}(hi:ad6 g A0 mi qi)(hg:ar0 mg t)(hb:iZ g A0 m1 q1):iZ g A0 (aeM mi mg m1) (Zu W qi t q1):=⟨fun w S ρ r i a hr Q q=>
 wu a hr (hi.run w S ρ r i a hr) q fun src S1 ds i1 hv hK a1 hr1 e1 st=>
  (abU (o:=src.at') (chk:=src.chk) hg hb (fun h=>h.chk) a1 hr1 hv.1 hv.2 Q (hW hK)).imp (fun cf S2 h=>h.trans st) fun _ _ _ z=>z⟩
def Zw(r:aH):List Nat->aH
 | []=>r
 |v::vs=>(Zw r vs).set v none
theorem cU.aoF(h:cU g A0 w S ρ r):∀vs:List Nat,cU g A0 w S (pB ρ vs) (Zw r vs)
 | []=>h
 |v::vs=>(cU.aoF h vs).wipe
abbrev NoX:XP:=fun _ _ _=>False
def Ay(t:D->aH->Option aH)(qt:aH->PM Bool)(qe:aH->PM PV)(r:aH):List D->List D->Int->(List D->Int->Prop)->Prop
 | []=>fun acc i Q=>Q acc i
 |d::ds=>fun acc i Q=>match t d r with
  |some r1=>qt r1 i (fun b i1=>cond b (qe r1 i1 (fun x i2=>match x.frz with
   |some y=>gd (acc.length<sizeLine) (Ay t qt qe r ds (acc++[y]) i2 Q)
   |none=>False) NoX) (Ay t qt qe r ds acc i1 Q)) NoX
  |none=>False
structure ad5(m:CV->Rho->Option Rho)(t:D->aH->Option aH):Prop where
 run:∀g A0 w S ρ r v d r',cU g A0 w S ρ r->DV (Ow A0 w) S v d->t d r=some r'->∃ρ',m v ρ=some ρ'/\cU g A0 w S ρ' r'
theorem gM:ad5 (cN j) (tN j):=⟨fun g A0 w S ρ r v d r' hr hv e=>by cases e;exact⟨_,rfl,hr.Tp hv⟩⟩
/-- an address more that is owned, by no name -/
theorem cU.more(h:cU g A0 w S ρ r)(a:Amb g A0 i S){o:CO}(hJ:r.length<=j)(hw:w j=none):cU g A0 (pJ w j (some S.length)) (S++[o]) ρ r:=by
 have no:∀k n,w k=some n->n≠S.length:=fun k n e=>by have:=(h.out k n e).2;omega
 have ki:Kp (Ow A0 w) S (Ow A0 (pJ w j (some S.length))) (S++[o]):=fun m o' hm e=>⟨iK e,fun z=>z.elim (fun z=>hm (.inl z)) fun⟨k,ek⟩=>by
  by_cases hk:k=j
  ·subst hk;rw[aO]at ek;cases ek;have:=(aa.mp e).1;omega
  ·rw[bf hk]at ek;exact hm (.inr ⟨k,ek⟩)⟩
 refine⟨h.len,fun k pk hk=>?_,fun k l n ek el=>?_,fun k n ek=>?_,fun k n ek=>?_,yD h.fin⟩
 ·obtain⟨v,h1,h2⟩:=h.at_ k pk hk
  have hkj:k≠j:=fun z=>by have:=(aa.mp hk).1;omega
  refine⟨v,h1,?_⟩
  cases pk with
  |fr d=>exact DV.mono ki h2
  |ow d=>
   obtain⟨m,e1,e2,eo,r⟩:=h2
   exact⟨m,e1,by rw[bf hkj];exact e2,eo,DO.mono ki (fun o eo=>iK eo) r⟩
  |bo d=>
   obtain⟨m,e1,e2,e3,r⟩:=h2
   refine⟨m,e1,e2,fun l el=>?_,TB.mono ki (fun o eo=>iK eo) r⟩
   by_cases hl:l=j
   ·subst hl;rw[aO]at el;cases el;have:=r.lt;omega
   ·rw[bf hl]at el;exact e3 l el
  |pen=>exact h2
 ·by_cases hk:k=j
  ·by_cases hl:l=j
   ·rw[hk,hl]
   ·subst hk
    rw[aO]at ek;rw[bf hl]at el;cases ek
    exact absurd rfl (no l _ el)
  ·rw[bf hk]at ek
   by_cases hl:l=j
   ·subst hl
    rw[aO]at el;cases el
    exact absurd rfl (no k _ ek)
   ·rw[bf hl]at el;exact h.inj k l n ek el
 ·rw[bg]
  by_cases hk:k=j
  ·subst hk;rw[aO]at ek;cases ek
   exact⟨fun z=>by have:=a.lt _ z;omega,by simp⟩
  ·rw[bf hk]at ek
   have:=h.out k n ek
   exact⟨this.1,by omega⟩
 ·by_cases hk:k=j
  ·subst hk;rw[aO]at ek;cases ek
   exact a.ext.len a.pen.lt
  ·rw[bf hk]at ek;exact h.new k n ek
/-- what such an address holds is changed -/
theorem cU.axI(h:cU g A0 w S ρ r)(a:Amb g A0 i S)(hJ:r.length<=j)(hw:w j=some n){o:CO}:cU g A0 w (S.set n o) ρ r/\Kp (Ow A0 w) S (Ow A0 w) (S.set n o)/\Amb g A0 i (S.set n o):=by
 have hn:=h.out j n hw
 have np:n≠g.p:=fun z=>hn.1 (z▸a.pin)
 have nc:n≠g.c:=fun z=>hn.1 (z▸a.pic)
 have ki:Kp (Ow A0 w) S (Ow A0 w) (S.set n o):=fun m o' hm e=>⟨by rw[ah (fun z=>hm (.inr ⟨j,by rw[hw,z]⟩))];exact e,hm⟩
 refine⟨⟨h.len,fun k pk hk=>?_,h.inj,fun k m ek=>⟨(h.out k m ek).1,by rw[a8];exact(h.out k m ek).2⟩,h.new,h.fin⟩,ki,⟨?_,a.pin,a.pic,fun m hm=>by rw[a8];exact a.lt m hm,fun m o' hm e=>?_,a.tab⟩⟩
 ·obtain⟨v,h1,h2⟩:=h.at_ k pk hk
  have hkj:k≠j:=fun z=>by have:=(aa.mp hk).1;omega
  refine⟨v,h1,?_⟩
  cases pk with
  |fr d=>exact DV.mono ki h2
  |ow d=>
   obtain⟨m,e1,e2,eo,r⟩:=h2
   refine⟨m,e1,e2,eo,DO.mono ki (fun o' eo=>?_) r⟩
   rw[ah (fun z=>hkj (h.inj k j n (by rw[e2,z]) hw))];exact eo
  |bo d=>
   obtain⟨m,e1,e2,e3,r⟩:=h2
   refine⟨m,e1,e2,e3,TB.mono ki (fun o' eo=>?_) r⟩
   rw[ah (fun z=>e3 j (by rw[hw,z]))];exact eo
  |pen=>exact h2
 ·obtain⟨t,s,e1,e2,e3⟩:=a.pen
  exact⟨t,s,by rw[ah np];exact e1,by rw[ah nc];exact e2,e3⟩
 ·have:=h.new j n hw
  have:=(aa.mp e).1
  rw[ah (by omega)]
  exact a.ext m o' hm e
theorem agU{mg:CV->Rho->Option Rho}{t:D->aH->Option aH}{o:List (Nat×CO)}{chk:Sto->Bool}{S0:Sto}{E:Str->List (Str×CV)->Sto->Prop}(hg:ad5 mg t)(ht:G9 g A0 mt qt)(he:dI g A0 me qe)(hchk:∀{A S},Stable A S o->chk S=true)(hJ:r.length<=j)(hw:w j=some n)(hn:S0.length<=n):∀{ds:List D}{xs:List CV}{S:Sto}{acc:List CV}{ad:List D}{i:Int},
    Amb g A0 i S->cU g A0 w S ρ r->DVs (Ow A0 w) S xs ds->Stable (Ow A0 w) S o->S[n]?=some (.lst acc)->DVs (Ow A0 w) S acc ad->Ext g.p S0 S->∀Q,Ay t qt qe r ds ad i Q->
    Wp (Om chk n mg mt me ρ xs S) (fun _ S'=>∃ds' i',Q ds' i'/\(∃acc',S'[n]?=some (.lst acc')/\DVs (Ow A0 w) S' acc' ds')/\jY g.p g.c g.cells i' S'/\Ext g.p S0 S') E
  | [],_,S,acc,ad,i,a,hr,.nil,hs,ha,hd,ex,Q,q=>by
    rw[auP,if_pos (hchk hs)]
    exact⟨ad,i,q,⟨acc,ha,hd⟩,a.pen,ex⟩
  |d::ds,_,S,acc,ad,i,a,hr,.cons (v:=v) hv hx,hs,ha,hd,ex,Q,q=>by
   rw[auQ,if_pos (hchk hs)]
   unfold Ay at q
   cases er:t d r with
   |none=>rw[er]at q;exact q.elim
   |some r1=>
    rw[er]at q
    obtain⟨ρ1,h1,h2⟩:=hg.run g A0 w S ρ r v d r1 hr hv er
    rw[h1]
    dsimp only
    refine(ht.run w S ρ1 r1 i a h2 _ _ q).imp (fun b S1 ⟨b',i1,hq,hb,hp,e1⟩=>?_) fun c fs S1 ⟨gs,i1,hz,_⟩=>hz.elim
    subst hb
    have a1:=a.next hp e1
    have k1:=hr.kp a e1
    have np:n≠g.p:=fun z=>(hr.out j n hw).1 (z▸a.pin)
    cases b with
    |false=>
     rw[if_neg (by decide)]
     exact agU hg ht he hchk hJ hw hn a1 (hr.ext a hp e1) (hx.mono k1) (hs.mono k1) (e1 _ _ np ha) (hd.mono k1) (ex.trans e1) Q hq
    |true=>
     rw[if_pos rfl]
     refine(he.run w S1 ρ1 r1 i1 a1 (h2.ext a hp e1) _ _ hq).imp (fun y S2 ⟨py,i2,hq,hy,hp2,e2⟩=>?_) fun c fs S1 ⟨gs,i1,hz,_⟩=>hz.elim
     have a2:=a1.next hp2 e2
     have hr1:=hr.ext a hp e1
     have hr2:=hr1.ext a1 hp2 e2
     have k2:=hr1.kp a1 e2
     have ha2:=e2 _ _ np (e1 _ _ np ha)
     rw[ha2]
     dsimp only at hq ⊢
     cases ef:py.frz with
     |none=>rw[ef]at hq;exact hq.elim
     |some yd=>
      rw[ef]at hq
      replace hq:=cQ.mp hq
      have hyd:DV (Ow A0 w) S2 y yd:=VR.frz (hr1.lt a1) hy ef
      have hd2:=(hd.mono k1).mono k2
      rw[if_pos (by rw[hd2.length];exact hq.1)]
      obtain⟨c1,c2,c3⟩:=hr2.axI a2 hJ hw (o:=.lst (acc++[y]))
      have hlt:=(aa.mp ha2).1
      have ex3:Ext g.p S0 (S2.set n (.lst (acc++[y]))):=fun m o' hm e=>by
            have:=(aa.mp e).1
            rw[ah (by omega)]
            exact e2 _ _ hm (e1 _ _ hm (ex m o' hm e))
      exact agU hg ht he hchk hJ hw hn c3 c1 (((hx.mono k1).mono k2).mono c2) (((hs.mono k1).mono k2).mono c2) (aE hlt) (DVs.append (.cons (hyd.mono c2) .nil) (hd2.mono c2)) ex3 Q hq.2
def pLc(qi:aH->PM (List D))(t:D->aH->Option aH)(qt:aH->PM Bool)(qe:aH->PM PV)(vs:List Nat):aH->PM PV:=fun r i Q E=>qi r i (fun ds i1=>Ay t qt qe (Zw r vs) ds [] i1 (fun ds' i2=>Q (.ow (.lst ds')) i2)) E
theorem Br:∀vs:List Nat,(Zw r vs).length=r.length
 | []=>rfl
 |v::vs=>by unfold Zw;rw[a8,Br vs]
def Af(W:Prop->Prop)(qi:aH->PM (List D))(t:D->aH->Option aH)(qt:aH->PM Bool)(qe:aH->PM PV)(vs:List Nat):aH->PM PV:=fun r i Q E=>qi r i (fun ds i1=>W (Ay t qt qe (Zw r vs) ds [] i1 (fun ds' i2=>Q (.ow (.lst ds')) i2))) E
theorem anD{W:Prop->Prop}(hW:∀{P},W P->P){mg:CV->Rho->Option Rho}{t:D->aH->Option aH}{vs:List Nat}(a:Amb g A0 i S)(hr:cU g A0 w S ρ r)(hi:Rn g (Ow A0 w) (RI (Ow A0 w)) S (mi ρ S) (qi r i))(hg:ad5 mg t)(ht:G9 g A0 mt qt)(he:dI g A0 me qe):Rn g (Ow A0 w) (fun S'=>VR g (Ow A0 w) S.length S') S (mLc mi mg mt me vs ρ S) (Af W qi t qt qe vs r i):=fun Q E q=>by
 rw[axA]
 refine(hi _ _ q).imp (fun src S1 ⟨ds,i1,hq,⟨hs,hst⟩,hp,e1⟩=>?_) fun _ _ _ z=>z
 have a1:=a.next hp e1
 have hr1:=hr.ext a hp e1
 have l1:=a.len hp e1
 obtain⟨K,hK⟩:=hr1.fin
 have hw:w (max K r.length)=none:=hK _ (iu _ _)
 have hr2:=((hr1.aoF vs).more (j:=max K r.length) (o:=.lst []) a1 (by rw[Br];exact fk _ _) hw)
 have a2:Amb g A0 i1 (S1++[.lst []]):=a1.app
 have ki:Kp (Ow A0 w) S1 (Ow A0 (pJ w (max K r.length) (some S1.length))) (S1++[.lst []]):=fun m o' hm e=>⟨iK e,fun z=>z.elim (fun z=>hm (.inl z)) fun⟨k,ek⟩=>by
  by_cases hk:k=max K r.length
  ·subst hk;rw[aO]at ek;cases ek;have:=(aa.mp e).1;omega
  ·rw[bf hk]at ek;exact hm (.inr ⟨k,ek⟩)⟩
 refine(agU (S0:=S) (o:=src.at') hg ht he (fun h=>h.chk) (j:=max K r.length) (n:=S1.length) (by rw[Br];exact fk _ _) aO l1 a2 hr2 (hs.mono ki) (hst.mono ki) pq .nil (e1.trans Ext.app) _ (hW hq)).imp (fun _ S2 ⟨ds',i2,k1,⟨acc,k2,k3⟩,k4,k5⟩=>?_) fun _ _ _ z=>z
 refine⟨_,i2,k1,⟨_,rfl,l1,acc,k2,k3.mono (Kp.less fun m hm=>?_)⟩,k4,k5⟩
 rcases hm with(hm|⟨k,ek⟩)|rfl
 ·exact .inl hm
 ·refine .inr ⟨k,?_⟩
  rw[bf (fun z=>by rw[z,hw]at ek;cases ek)];exact ek
 ·exact .inr ⟨_,aO⟩
theorem rN{W:Prop->Prop}(hW:∀{P},W P->P){mg:CV->Rho->Option Rho}{t:D->aH->Option aH}{vs:List Nat}(hi:ad6 g A0 mi qi)(hg:ad5 mg t)(ht:G9 g A0 mt qt)(he:dI g A0 me qe):dI g A0 (mLc mi mg mt me vs) (Af W qi t qt qe vs):=⟨fun w S ρ r i a hr=>anD hW a hr (hi.run w S ρ r i a hr) hg ht he⟩
theorem an5{mg:CV->Rho->Option Rho}{t:D->aH->Option aH}{vs:List Nat}(hi:ad6 g A0 mi qi)(hg:ad5 mg t)(ht:G9 g A0 mt qt)(he:dI g A0 me qe):dI g A0 (mLc mi mg mt me vs) (pLc qi t qt qe vs):=rN (W:=id) (fun h=>h) hi hg ht he
end
def ahW(Q:D->Int->Prop)(E:XP):PC->Int->Prop
 |.nx _,i=>Q .non i
 |.rt d,i=>Q d i
 |.xc c fs _,i=>E c fs i
 |_,_=>False
def startP(n:Nat)(ps:List PV):aH:=ps.map some++bN (n-ps.length) none
/-- a def of k parameters and n names -/
def DR(n k:Nat)(q:aH->PMS):List PV->PM D:=fun ps i Q E=>gd (ps.length=k) (q (startP n ps) i (ahW Q E))
section
variable [Tabs]{α β:Type}{g:Gh}{A A' A0:AS}{S S' S1 S2:Sto}{v u:CV}{d e:D}{xs:List CV}{ds:List D}{ps:List PV}{n p n0 j k:Nat}{i i':Int}{pv:PV}{w w' w1 w2:Nat->Option Nat}{ρ ρ':Rho}{r r':aH}{cf:CF}{pc:PC}{Q:PC->Int->Prop}
variable {ma mb mc me mo:Rho->M CV}{qa qb qc qe qo:aH->PM PV}{mt mu:Rho->M Bool}{qt qu:aH->PM Bool}{ms:Rho->M (List CV)}{qs:aH->PM (List PV)}{m1 m2:Rho->M CF}{q1 q2:aH->PMS}{m:List CV->M CV}{q:List PV->PM D}
theorem VRs.at:∀{j:Nat}{xs:List CV}{ps:List PV},VRs g A n0 S xs ps->ps[j]?=some pv->∃v,xs[j]?=some v/\VR g A n0 S v pv
 |_,_,_,.nil,h=>by cases h
 |0,_,_,.cons x r,h=>by cases h;exact⟨_,rfl,x⟩
 |j+1,_,_,.cons x r,h=>by
  obtain⟨v,h1,h2⟩:=VRs.at (j:=j) r h
  exact⟨v,h1,h2⟩
theorem w0:∀m,Ow A (fun _=>none) m->A m:=fun m h=>h.elim id fun⟨_,e⟩=>nomatch e
/-- the start of a frame -/
theorem cU.start{g':Gh}(hg:g'.p=g.p)(h:VRs g A S.length S xs ps)(hbn:∀k m,g'.bn k≠some m:=by intro _ _ z;cases z):cU g' A (fun _=>none) S (iG n xs) (startP n ps):=by
 have hl:=h.length
 refine⟨by simp[iG,startP,hl],fun j pv hj=>?_,fun _ _ _ e=>(nomatch e),fun _ _ e=>(nomatch e),fun _ _ e=>(nomatch e),⟨0,fun _ _=>rfl⟩⟩
 unfold startP at hj
 unfold iG
 by_cases hlt:j<ps.length
 ·rw[az (by simpa using hlt),bu]at hj
  rw[az (by simpa[hl]using hlt),bu]
  cases ej:ps[j]? with
  |none=>rw[ej]at hj;cases hj
  |some pv'=>
   rw[ej]at hj
   cases hj
   obtain⟨v,h1,h2⟩:=h.at ej
   refine⟨v,by rw[h1];rfl,?_⟩
   cases pv with
   |fr d=>exact DV.mono (Kp.less w0) h2
   |ow d=>
    obtain⟨n,e1,e2,e3⟩:=h2
    have:=e3.lt;omega
   |bo d=>
    obtain⟨n,e1,e2,e3⟩:=h2
    exact⟨n,e1,by rw[hg];exact e2,fun k ek=>(nomatch ek),⟨fun m z=>absurd z (hbn _ _),DB.mono (Kp.less w0) (fun _ e=>e) e3⟩⟩
   |pen=>exact(by rw[hg];exact h2:v=.ref g'.p)
 ·rw[aL (by simpa using hlt),fA]at hj
  split at hj<;>cases hj
theorem Stp.anq(h:Stp g (fun _=>none) S w' S'):Ext g.p S S':=fun n o hn e=>h.ext n o hn (fun _ e=>nomatch e) e
theorem iV(h:∀{g A0},iZ g A0 m1 q1):dJ (nR n m1) (DR n k q1):=⟨fun g A S xs ps i a hx Q E hq0=>by
 obtain⟨hl,hq⟩:=cQ.mp hq0
 rw[wp_run]
 refine(h.run (g:=g.at S) (A0:=A) (fun _=>none) S (iG n xs) (startP n ps) i a.at (cU.start (g:=g) (g':=g.at S) rfl hx) _ hq).imp (fun cf S1 ⟨pc,i1,h1,h2,h3⟩=>?_) fun _ _ _ z=>z
 cases cf with
 |nx ρ=>cases pc with
  |nx r=>
   obtain⟨w',st,hr⟩:=h2
   exact⟨.non,i1,h1,.non,h3,st.anq⟩
  |_=>exact h2.elim
 |rt v=>cases pc with
  |rt d=>
   obtain⟨hd,w',st⟩:=h2
   exact⟨d,i1,h1,hd,h3,st.anq⟩
  |_=>exact h2.elim
 |xc c fs ρ=>cases pc with
  |xc c' gs r=>
   obtain⟨rfl,w',st,hr,hf⟩:=h2
   exact⟨gs,i1,h1,hf.mono (Kp.less fun _ h=>.inl h),h3,st.anq⟩
  |_=>exact h2.elim
 |_=>cases pc<;>first|exact h2.elim|exact h1.elim⟩
theorem fK(h:dJ m (DR n k q1)):dJ (app k m) (DR n k q1):=⟨fun g A S xs ps i a hx Q E hq=>by
 rw[Ck,if_pos (by rw[hx.length];exact(cQ.mp hq).1)]
 exact h.run g A S xs ps i a hx Q E hq⟩
/-- a call -/
def dM(q:List PV->PM D)(qs:aH->PM (List PV)):aH->PM PV:=fun r i Q E=>qs r i (fun ps i1=>q (ps.map PV.arg) i1 (fun d i2=>Q (.fr d) i2) E) E
theorem Ql(h:dJ m q)(ha:Oh g A0 ms qs):dI g A0 (fun ρ=>bnd (ms ρ) m) (dM q qs):=⟨fun w S ρ r i a hr=>by
 refine(Rn.bnd (q':=fun(ps:List PV) i1 (Q:PV->Int->Prop) (E:XP)=>q (ps.map PV.arg) i1 (fun d i2=>Q (.fr d) i2) E) (hr.amb a) (ha.run w S ρ r i a hr) fun x S1 px i1 hx a1 e1=>?_:Rn g (Ow A0 w) _ S _ _)
 exact Rn.frd (h.run g (Ow A0 w) S1 x (px.map PV.arg) i1 a1 (hx.arg (hr.lt a)))⟩
/-- making an instance -/
def asH(Q:D->Int->Prop)(E:XP):PC->Int->Prop
 |.nx r,i=>(match r[0]? with
  |some (some (PV.ow (D.obj c gs)))=>Q (.obj c gs) i
  |_=>False)
 |.xc c fs _,i=>E c fs i
 |_,_=>False
def ax3(c:Str)(n k:Nat)(q:aH->PMS):List PV->PM D:=fun ps i Q E=>gd (ps.length+1=k) (q (startP n (.ow (.obj c [])::ps)) i (asH Q E))
theorem cU.auu{c:Str}(a:Amb g A i S)(h:VRs g A S.length S xs ps):cU {g with b:=S,slf:=S.length,bn:=fun _=>none} A (pJ (fun _=>none) 0 (some S.length)) (S++[.ins c []]) (iG n (.ref S.length::xs)) (startP n (.ow (.obj c [])::ps)):=by
 have hl:=h.length
 have ki:Kp A S (Ow A (pJ (fun _=>none) 0 (some S.length))) (S++[.ins c []]):=fun m o hm e=>⟨iK e,fun z=>z.elim hm fun⟨k,ek⟩=>by
  by_cases hk:k=0
  ·subst hk;rw[aO]at ek;cases ek;have:=(aa.mp e).1;omega
  ·rw[bf hk]at ek;cases ek⟩
 refine⟨by simp[iG,startP,hl],fun j pv hj=>?_,fun j k m ej ek=>?_,fun j m ej=>?_,fun j m ej=>?_,yD ⟨0,fun _ _=>rfl⟩⟩
 ·cases j with
  |zero=>
   cases hj
   exact⟨_,rfl,S.length,rfl,aO,fun _=>rfl,[],pq,.nil⟩
  |succ j=>
   unfold startP at hj
   unfold iG
   rw[ax,c9,bS]at hj ⊢
   by_cases hlt:j<ps.length
   ·rw[az (by simpa using hlt),bu]at hj
    rw[az (by simpa[hl]using hlt),bu]
    cases ej:ps[j]? with
    |none=>rw[ej]at hj;cases hj
    |some pv'=>
     rw[ej]at hj
     cases hj
     obtain⟨v,h1,h2⟩:=h.at ej
     refine⟨v,by rw[h1];rfl,?_⟩
     cases pv with
     |fr d=>exact DV.mono ki h2
     |ow d=>
      obtain⟨n,e1,e2,e3⟩:=h2
      have:=e3.lt;omega
     |bo d=>
      obtain⟨n,e1,e2,e3⟩:=h2
      refine⟨n,e1,e2,fun k ek=>?_,⟨fun m z=>(nomatch z),DB.mono ki (fun _ e=>iK e) e3⟩⟩
      by_cases hk:k=0
      ·subst hk;rw[aO]at ek;cases ek;have:=e3.lt;omega
      ·rw[bf hk]at ek;cases ek
     |pen=>exact h2
   ·rw[aL (by simpa using hlt),fA]at hj
    split at hj<;>cases hj
 ·by_cases hj:j=0
  ·by_cases hk:k=0
   ·rw[hj,hk]
   ·rw[bf hk]at ek;cases ek
  ·rw[bf hj]at ej;cases ej
 ·by_cases hj:j=0
  ·subst hj;rw[aO]at ej;cases ej
   exact⟨fun z=>by have:=a.lt _ z;omega,by simp⟩
  ·rw[bf hj]at ej;cases ej
 ·by_cases hj:j=0
  ·subst hj;rw[aO]at ej;cases ej
   exact ba _
  ·rw[bf hj]at ej;cases ej
theorem anx{o:CO}{m:Nat}(e:S[m]?=some o):∀j,pJ (fun _=>none) 0 (some S.length) j≠some m:=fun j ej=>by
 by_cases hj:j=0
 ·subst hj;rw[aO]at ej;cases ej;have:=(aa.mp e).1;omega
 ·rw[bf hj]at ej;cases ej
theorem ari{c:Str}(h:∀{g A0},iZ g A0 m1 q1):dJ (yQ c k (nR n m1)) (ax3 c n k q1):=⟨fun g A S xs ps i a hx Q E hq0=>by
 obtain⟨hl,hq⟩:=cQ.mp hq0
 rw[amV,Ck,if_pos (by rw[ai,hx.length];exact hl),wp_run]
 have am:Amb {g with b:=S,slf:=S.length,bn:=fun _=>none} A i (S++[.ins c []]):=⟨a.pen.app,a.pin,a.pic,fun m hm=>by have:=a.lt m hm;simp;omega,Ext.app,fun k x h=>⟨(a.tab k x h).1,a.ext _ _ (a.tab k x h).1 (a.tab k x h).2⟩⟩
 refine(h.run (g:={g with b:=S,slf:=S.length,bn:=fun _=>none}) (A0:=A) _ _ _ _ i am (cU.auu a hx) _ hq).imp (fun cf S1 ⟨pc,i1,h1,h2,h3⟩=>?_) fun _ _ _ z=>z
 cases cf with
 |nx ρ=>cases pc with
  |nx r=>
   obtain⟨w',st,hr⟩:=h2
   unfold asH at h1
   dsimp only at h1
   split at h1
   ·rename_i c' gs hj
    obtain⟨v,e1,m,rfl,e2,e3,e4⟩:=hr.at_ 0 _ hj
    have em:m=S.length:=e3 rfl
    subst em
    refine⟨_,i1,h1,?_,h3,(fun m o hm e=>st.ext m o hm (anx e) (iK e))⟩
    exact(e4.mono (Kp.less fun _ h=>.inl h) fun _ e=>e).dv fun z=>by have:=a.lt _ z;omega
   ·exact h1.elim
  |_=>exact h2.elim
 |xc c fs ρ=>cases pc with
  |xc c' gs r=>
   obtain⟨rfl,w',st,hr,hf⟩:=h2
   exact⟨gs,i1,h1,hf.mono (Kp.less fun _ h=>.inl h),h3,(fun m o hm e=>st.ext m o hm (anx e) (iK e))⟩
  |_=>exact h2.elim
 |_=>cases pc<;>first|exact h2.elim|exact h1.elim⟩
theorem VRs.append{ys:List CV}{ps':List PV}(r':VRs g A n0 S ys ps'):∀{xs:List CV}{ps:List PV},VRs g A n0 S xs ps->VRs g A n0 S (xs++ys) (ps++ps')
 |_,_,.nil=>r'
 |_,_,.cons h r=>.cons h (VRs.append r' r)
theorem VRs.out(h:VRs g A n0 S xs ps)(hj:ps[j]?=none):xs[j]?=none:=by
 rw[gZ]at hj ⊢
 rw[h.length];exact hj
theorem VRs.sel(h:VRs g A n0 S xs ps):∀ix:List Nat,VRs g A n0 S (sel ix xs) (sel ix ps)
 | []=>.nil
 |j::ix=>by
  have ih:=VRs.sel h ix
  unfold MW.sel at ih ⊢
  rw[bc,bc]
  cases e:ps[j]? with
  |none=>rw[h.out e];exact ih
  |some pv=>
   obtain⟨v,h1,h2⟩:=h.at e
   rw[h1];exact .cons h2 ih
def pKw(nk:Nat)(ix:List Nat)(q:List PV->PM D):List PV->PM D:=fun ps i Q E=>gd (ps.length=nk) (q (sel ix ps) i Q E)
theorem aun{ix:List Nat}{nk:Nat}(h:dJ (app k m) q):dJ (abO k 0 nk ix m []) (pKw nk ix q):=⟨fun g A S xs ps i a hx Q E hq0=>by
 obtain⟨hl,hq⟩:=cQ.mp hq0
 unfold abO
 rw[if_pos ⟨rfl,by rw[hx.length];exact hl⟩]
 exact h.run g A S _ _ i a (hx.sel ix) Q E hq⟩
theorem aeN{x:α}{l:List α}:∀{ix:List Nat},(∀j∈ix,0<j)->sel ix (x::l)=sel (ix.map (· -1)) l
 | [],_=>rfl
 |j::ix,h=>by
  obtain⟨j,rfl⟩:∃m,j=m+1:=⟨j-1,by have:=h j af;omega⟩
  have ih:=aeN (x:=x) (l:=l) (ix:=ix) fun m hm=>h m (ag _ hm)
  unfold MW.sel at ih ⊢
  rw[ax,bc,bc,ih];rfl
inductive zV{α β:Type}(R:α->β->Prop):List (Str×α)->List (Str×β)->Prop where
 |nil:zV R [] []
 |cons {c:Str} {a:α} {b:β} {l:List (Str×α)} {l':List (Str×β)} (h:R a b) (t:zV R l l'):zV R ((c,a)::l) ((c,b)::l')
theorem zV.look{α β:Type}{R:α->β->Prop}{c:Str}:∀{l:List (Str×α)}{l':List (Str×β)},zV R l l'->match l'.lookup c with
    |some b=>∃a,l.lookup c=some a/\R a b
    |none=>l.lookup c=none
  |_,_,.nil=>rfl
  |_,_,.cons (c:=c') h t=>by
   unfold dS
   by_cases e:(c==c')=true
   · rw[e];exact⟨_,rfl,h⟩
   · rw[hM]at e
     rw[e];exact zV.look t
inductive PK where
 |meth (q:List PV->PM D)|ar9 (q:List PV->PM D)|asV (q:List PV->PM D)
theorem VR.arg1(hA:∀n,A n->n<n0)(h:VR g A n0 S v pv):VR g A S.length S v pv.arg:=by
 have:=VRs.arg hA (.cons h .nil)
 cases this with|cons h r=>exact h
theorem look_none{fs:List (Str×CV)}{gs:List (Str×D)}{f:Str}(r:DVf A S fs gs):(fs.lookup f).isNone=(gs.lookup f).isNone:=by
 have:=r.look (f:=f)
 cases e:gs.lookup f with
 |none=>rw[e]at this;rw[this];rfl
 |some d=>rw[e]at this;obtain⟨v,h,_⟩:=this;rw[h];rfl
end
/-- what only reads, and comes to a plain value -/
structure Rd1(m:CV->M CV)(f:D->Option D):Prop where
 ok:∀{S v d e},RD S v d->f d=some e->∃c,m v S=.ok c S/\∀A,DV A S c e
structure Rd2(m:CV->CV->M CV)(f:D->D->Option D):Prop where
 ok:∀{S v u d1 d2 e},RD S v d1->RD S u d2->f d1 d2=some e->∃c,m v u S=.ok c S/\∀A,DV A S c e
def p1(f:D->Option D):PV->PM PV:=fun x i Q _=>match x.rd with
 |some d=>(match f d with
  |some e=>Q (.fr e) i
  |none=>False)
 |none=>False
def p2(f:D->D->Option D):PV->PV->PM PV:=fun x y i Q _=>match x.rd,y.rd with
 |some d,some d'=>(match f d d' with
  |some e=>Q (.fr e) i
  |none=>False)
 |_,_=>False
section
variable [Tabs]{α β:Type}{g:Gh}{A A' A0:AS}{S S' S1 S2:Sto}{v u:CV}{d e:D}{xs:List CV}{ds:List D}{ps:List PV}{n p n0 j k:Nat}{i i':Int}{pv:PV}{w w' w1 w2:Nat->Option Nat}{ρ ρ':Rho}{r r':aH}
variable {ma mb mc me mo:Rho->M CV}{qa qb qc qe qo:aH->PM PV}{mt mu:Rho->M Bool}{qt qu:aH->PM Bool}{ms:Rho->M (List CV)}{qs:aH->PM (List PV)}{m1 m2:Rho->M CF}{q1 q2:aH->PMS}{m:List CV->M CV}{q:List PV->PM D}
theorem Pr{m:CV->M CV}{f:D->Option D}(h:Rd1 m f):Fo m (p1 f):=⟨fun g A n0 S x px i a _ _ _ hx=>by
 unfold p1
 cases e1:px.rd with
 |none=>exact Rn.no
 |some d=>
  dsimp only
  cases e2:f d with
  |none=>exact Rn.no
  |some e=>
   obtain⟨c,h1,h2⟩:=h.ok (hx.read e1) e2
   rw[h1]
   exact Rn.ret (b:=PV.fr e) a.pen (h2 A)⟩
theorem pZ{m:CV->CV->M CV}{f:D->D->Option D}(h:Rd2 m f):dO m (p2 f):=⟨fun g A n0 S x y px py i a _ _ _ hx hy=>by
 unfold p2
 cases e1:px.rd with
 |none=>exact Rn.no
 |some d=>
  cases e2:py.rd with
  |none=>exact Rn.no
  |some d'=>
   dsimp only
   cases e3:f d d' with
   |none=>exact Rn.no
   |some e=>
    obtain⟨c,h1,h2⟩:=h.ok (hx.read e1) (hy.read e2) e3
    rw[h1]
    exact Rn.ret (b:=PV.fr e) a.pen (h2 A)⟩
def asz:D->Option D
 |.int i=>some (.int (-i))
 |_=>none
theorem an9:Fo negC (p1 asz):=Pr ⟨fun {S v d e} h he=>by
 unfold asz at he
 split at he
 ·cases h;cases he;exact⟨_,rfl,fun A=>.int _⟩
 ·cases he⟩
def aqN(f:Int->Int->Bool)(h:List Nat->List Nat->Bool):D->D->Option D
 |.int i,.int j=>some (.bl (f i j))
 |.str a,.str b=>some (.bl (h a.cps.toList b.cps.toList))
 |_,_=>none
theorem an0{f:Int->Int->Bool}{h:List Nat->List Nat->Bool}:Rd2 (akr f h) (aqN f h):=⟨fun {S v u d1 d2 e} h1 h2 he=>by
 unfold aqN at he
 split at he
 ·cases h1;cases h2;cases he;exact⟨_,rfl,fun A=>.bl _⟩
 ·cases h1;cases h2;cases he;exact⟨_,rfl,fun A=>.bl _⟩
 ·cases he⟩
def leD:=aqN (fun i j=>decide (i<=j)) fun a b=>!decide (b<a)
def gtD:=aqN (fun i j=>decide (j<i)) fun a b=>decide (b<a)
def ltD:=aqN (fun i j=>decide (i<j)) fun a b=>decide (a<b)
theorem Zy:dO leC (p2 leD):=pZ an0
theorem aoC:dO gtC (p2 gtD):=pZ an0
def akn(neg:Bool):D->D->Option D
 |.non,.non=>some (.bl (!neg))
 |_,.non=>some (.bl neg)
 |_,_=>none
theorem ahF(h:RD S v d):tE v=(match d with|.non=>true|_=>false):=by cases h<;>rfl
theorem aur:dO ap7 (p2 (akn false)):=pZ ⟨fun {S v u d1 d2 e} h1 h2 he=>by
 unfold akn at he
 split at he
 ·cases h1;cases h2;cases he;exact⟨_,rfl,fun A=>.bl _⟩
 ·rename_i hn
  cases h2;cases he
  refine⟨.bl (tE v),rfl,fun A=>?_⟩
  rw[ahF h1]
  split
  ·exact absurd rfl hn
  ·exact .bl _
 ·cases he⟩
theorem aeQ:dO Kl (p2 (akn true)):=pZ ⟨fun {S v u d1 d2 e} h1 h2 he=>by
 unfold akn at he
 split at he
 ·cases h1;cases h2;cases he;exact⟨_,rfl,fun A=>.bl _⟩
 ·rename_i hn
  cases h2;cases he
  refine⟨.bl (!tE v),rfl,fun A=>?_⟩
  rw[ahF h1]
  split
  ·exact absurd rfl hn
  ·exact .bl _
 ·cases he⟩
def tdP:Nat->D->Option PyData
 |0,_=>none
 |n+1,x=>match x with
  |.non=>some .none
  |.bl b=>some (.bool b)
  |.int i=>some (.int i)
  |.str y=>some (.str y)
  |.tup xs=>(xs.mapM (tdP n)).map .tuple
  |.lst xs=>(xs.mapM (tdP n)).map .list
  |_=>none
theorem Ku{f:CV->Option β}{h:D->Option β}(hf:∀v d,DV A S v d->f v=h d):∀{xs:List CV}{ds:List D},DVs A S xs ds->xs.mapM f=ds.mapM h
 |_,_,.nil=>rfl
 |_,_,.cons h1 r=>by rw[bb,bb,hf _ _ h1,Ku hf r]
theorem ag5:∀{n:Nat}{v:CV}{d:D},RD S v d->toD S n v=tdP n d
 |0,_,_,_=>rfl
 |n+1,_,_,h=>by
  have ih:∀v d,RD S v d->toD S n v=tdP n d:=fun v d h=>ag5 h
  unfold toD tdP
  cases h with
  |tup r=>dsimp only;rw[Ku ih r]
  |lst h1 h2 r=>dsimp only;rw[h1];dsimp only;rw[Ku ih r]
  |dic h1 h2 r=>rcases h1 with h1|h1<;>(dsimp only;rw[h1])
  |obj h1 h2 r=>dsimp only;rw[h1]
  |odd h1 h2 r=>dsimp only;rw[h1]
  |_=>rfl
def apy(x y:D):Option Bool:=match tdP 40 x,tdP 40 y with
 |some d,some e=>if SeqAt.shaped d&&SeqAt.shaped e then some (PyData.eqv d e) else none
 |_,_=>none
theorem atb(h1:RD S v d)(h2:RD S u e):eqD S v u=apy d e:=by
 unfold eqD apy
 rw[ag5 h1,ag5 h2]<;>(cases tdP 40 d<;>cases tdP 40 e<;>rfl)
def U5(x y:D):Option Bool:=match x,y with
 |.str a,.str b=>some (a==b)
 |_,_=>apy x y
def jM(neg:Bool)(x y:D):Option D:=(U5 x y).map fun b=>.bl (neg !=b)
theorem ata{b:Bool}(hn:∀a b,v=.str a->u=.str b->False)(h:eqD S v u=some b):eqC v u S=.ok (.bl b) S/\neC v u S=.ok (.bl (!b)) S:=by
 constructor
 ·unfold eqC
  split
  ·exact(hn _ _ rfl rfl).elim
  ·rw[h]
 ·unfold neC
  split
  ·exact(hn _ _ rfl rfl).elim
  ·rw[h]
theorem ano{b:Bool}(h1:RD S v d)(h2:RD S u e)(h:U5 d e=some b):eqC v u S=.ok (.bl b) S/\neC v u S=.ok (.bl (!b)) S:=by
 unfold U5 at h
 split at h
 ·cases h1;cases h2;cases h;exact⟨rfl,rfl⟩
 ·rename_i hn
  have e1:=atb h1 h2
  rw[h]at e1
  refine ata (fun a b e1 e2=>?_) e1
  subst e1;subst e2
  cases h1;cases h2
  exact hn _ _ rfl rfl
theorem qR:dO eqC (p2 (jM false)):=pZ ⟨fun {S v u d1 d2 e} h1 h2 he=>by
 unfold jM at he
 cases eb:U5 d1 d2 with
 |none=>rw[eb]at he;cases he
 |some b=>rw[eb]at he;cases he;exact⟨_,(ano h1 h2 eb).1,fun A=>by cases b<;>exact .bl _⟩⟩
theorem yr:dO neC (p2 (jM true)):=pZ ⟨fun {S v u d1 d2 e} h1 h2 he=>by
 unfold jM at he
 cases eb:U5 d1 d2 with
 |none=>rw[eb]at he;cases he
 |some b=>rw[eb]at he;cases he;exact⟨_,(ano h1 h2 eb).2,fun A=>by cases b<;>exact .bl _⟩⟩
def ajD:D->Bool
 |.non|.bl _|.int _|.str _=>true
 |_=>false
def au3:D->D->Bool
 |.non,.non=>true
 |.bl a,.bl b=>a==b
 |.bl a,.int b=>(if a then 1 else 0)==b
 |.int a,.bl b=>a==(if b then 1 else 0)
 |.int a,.int b=>a==b
 |.str a,.str b=>a==b
 |_,_=>false
def anz:D->Bool
 |.str _=>true
 |_=>false
def anN:D->Bool
 |.tup _|.lst _|.dic _=>true
 |_=>false
def BL(x:D)(ys:List D):Option Bool:=if ajD x&&ys.all ajD then some (ys.any fun y=>au3 y x) else if anN x&&ys.all anz then some false else none
theorem ahv(h:DV A S v d):Sv v=ajD d:=by cases h<;>rfl
theorem alM(h:DV A S v d):agS v=anz d:=by cases h<;>rfl
theorem al0(h:DV A S v d):Ub S v=anN d:=by
 cases h<;>first|rfl|(rename_i h1 _ _;unfold Ub;dsimp only;rw[h1];rfl)|(rename_i h1 _ _;unfold Ub;rcases h1 with h1|h1<;>(dsimp only;rw[h1];rfl))
theorem atc(h:DV A S v d)(h':DV A S u e):eqF v u=au3 d e:=by cases h<;>cases h'<;>rfl
theorem agH{f:CV->Bool}{h:D->Bool}(hf:∀v d,DV A S v d->f v=h d):∀{xs:List CV}{ds:List D},DVs A S xs ds->xs.all f=ds.all h
 |_,_,.nil=>rfl
 |_,_,.cons h1 r=>by rw[cE,cE,hf _ _ h1,agH hf r]
theorem ana{f:CV->Bool}{h:D->Bool}(hf:∀v d,DV A S v d->f v=h d):∀{xs:List CV}{ds:List D},DVs A S xs ds->xs.any f=ds.any h
 |_,_,.nil=>rfl
 |_,_,.cons h1 r=>by rw[dz,dz,hf _ _ h1,ana hf r]
theorem aek(h:DV A S v d)(hs:DVs A S xs ds):S8 S v xs=BL d ds:=by
 unfold S8 BL
 rw[ahv h,al0 h,agH (fun _ _ h=>ahv h) hs,agH (fun _ _ h=>alM h) hs,ana (fun _ _ h'=>atc h' h) hs]
def inD(neg:Bool)(x y:D):Option D:=match y with
 |.tup ys=>(BL x ys).map fun b=>.bl (neg !=b)
 |.lst ys=>(BL x ys).map fun b=>.bl (neg !=b)
 |.str j=>(match x with
  |.str i=>some (.bl (neg !=acI i j))
  |_=>none)
 |_=>none
theorem TV{neg:Bool}:dO (inC neg) (p2 (inD neg)):=pZ ⟨fun {S v u d1 d2 e} h1 h2 he=>by
 unfold inD at he
 have nb:∀b:Bool,(if neg=true then !b else b)=(neg !=b):=by cases neg<;>intro b<;>cases b<;>rfl
 split at he
 ·cases h2 with
  |tup r=>
   have:=aek h1 r
   rename_i ys xs
   cases eb:BL d1 ys with
   |none=>rw[eb]at he;cases he
   |some b=>
    rw[eb]at he this;cases he
    exact⟨.bl (neg !=b),by unfold inC;dsimp only;rw[this];dsimp only;rw[nb],fun A=>.bl _⟩
 ·cases h2 with
  |lst h3 h4 r=>
   have:=aek h1 r
   rename_i ys n xs
   cases eb:BL d1 ys with
   |none=>rw[eb]at he;cases he
   |some b=>
    rw[eb]at he this;cases he
    exact⟨.bl (neg !=b),by unfold inC;dsimp only;rw[h3];dsimp only;rw[this];dsimp only;rw[nb],fun A=>.bl _⟩
 ·cases h2
  split at he
  ·rename_i j _ i
   cases h1;cases he
   exact⟨.bl (neg !=acI i j),by unfold inC;dsimp only;cases neg<;>simp,fun A=>.bl _⟩
  ·cases he
 ·cases he⟩
end
section
variable [Tabs]{α β:Type}{g:Gh}{A A' A0:AS}{S S' S1 S2:Sto}{v u:CV}{d e:D}{xs:List CV}{ds:List D}{ps:List PV}{n p n0 j k:Nat}{i i':Int}{pv:PV}{w w' w1 w2:Nat->Option Nat}{ρ ρ':Rho}{r r':aH}
variable {ma mb mc me mo:Rho->M CV}{qa qb qc qe qo:aH->PM PV}{mt mu:Rho->M Bool}{qt qu:aH->PM Bool}{ms:Rho->M (List CV)}{qs:aH->PM (List PV)}{m1 m2:Rho->M CF}{q1 q2:aH->PMS}{m:List CV->M CV}{q:List PV->PM D}
def Q6:PV->PV->PM PV:=fun x y i Q _=>match x.rd,y.rd with
 |some (.int a),some (.int b)=>Q (.fr (.int (a+b))) i
 |some (.str a),some (.str b)=>gd (a.length+b.length<=sizeLine) (Q (.fr (.str (a++b))) i)
 |some (.lst a),some (.lst b)=>gd (a.length+b.length<=sizeLine) (Q (.ow (.lst (a++b))) i)
 |some (.tup a),some (.tup b)=>gd (a.isEmpty=false/\a.length+b.length<=sizeLine) (Q (.fr (.tup (a++b))) i)
 |_,_=>False
theorem tH:dO sV Q6:=⟨fun g A n0 S x y px py i a h0 hA hn hx hy=>by
 intro Q E q
 unfold Q6 at q
 simp only[cQ]at q
 split at q
 ·rename_i ia ib e1 e2
  have h1:=hx.read e1;have h2:=hy.read e2
  cases h1;cases h2
  exact⟨_,i,q,DV.int _,a.pen,Ext.refl⟩
 ·rename_i ia ib e1 e2
  have h1:=hx.read e1;have h2:=hy.read e2
  cases h1;cases h2
  unfold sV
  dsimp only
  rw[if_pos q.1]
  exact⟨_,i,q.2,DV.str _,a.pen,Ext.refl⟩
 ·rename_i ia ib e1 e2
  obtain⟨n,xs,rfl,h3,h4⟩:=hx.items e1
  obtain⟨n',ys,rfl,h5,h6⟩:=hy.items e2
  unfold sV
  dsimp only
  rw[h3,h5]
  dsimp only
  rw[if_pos (by rw[h4.length,h6.length];exact q.1)]
  exact⟨_,i,q.2,VR.newL (DVs.append h6 h4) hn,a.pen.app,Ext.app⟩
 ·rename_i ia ib e1 e2
  obtain⟨xs,rfl,h4⟩:=hx.tup e1
  obtain⟨ys,rfl,h6⟩:=hy.tup e2
  unfold sV
  dsimp only
  have he:xs.isEmpty=ia.isEmpty:=by cases h4<;>rfl
  rw[if_pos (by rw[h4.length,h6.length,he];exact q.1)]
  exact⟨_,i,q.2,DV.tup (DVs.append h6 h4),a.pen,Ext.refl⟩
 ·exact q.elim⟩
theorem DVs.flat(h:DVs A S xs ds):∀k,DVs A S (bN k xs).flatten (bN k ds).flatten
 |0=>.nil
 |k+1=>by
  rw[bP,bP,gb,gb]
  exact DVs.append (DVs.flat h k) h
def aqS:PV->PV->PM PV:=fun x y i Q _=>match x.rd,y.rd with
 |some (.int a),some (.int b)=>gd ((-(2 ^ 64)<a/\a<2 ^ 64)\/(-(2 ^ 64)<b/\b<2 ^ 64)) (Q (.fr (.int (a*b))) i)
 |some (.lst a),some (.int b)=>gd (-(2 ^ 63)<=b/\b<2 ^ 63/\a.length*b.toNat<=sizeLine) (Q (.ow (.lst (bN b.toNat a).flatten)) i)
 |some (.str a),some (.int b)=>gd (0<=b/\b<=1000/\a.length<=1000) (Q (.fr (.str (Txt.mul a b))) i)
 |_,_=>False
theorem aus:dO mulC aqS:=⟨fun g A n0 S x y px py i a h0 hA hn hx hy=>by
 intro Q E q
 unfold aqS at q
 simp only[cQ]at q
 split at q
 ·rename_i ia ib e1 e2
  have h1:=hx.read e1;have h2:=hy.read e2
  cases h1;cases h2
  unfold mulC
  dsimp only
  rw[if_pos q.1]
  exact⟨_,i,q.2,DV.int _,a.pen,Ext.refl⟩
 ·rename_i ia ib e1 e2
  obtain⟨n,xs,rfl,h3,h4⟩:=hx.items e1
  have h2:=hy.read e2
  cases h2
  unfold mulC
  dsimp only
  rw[h3]
  dsimp only
  rw[if_pos (by rw[h4.length];exact q.1)]
  exact⟨_,i,q.2,VR.newL (DVs.flat h4 _) hn,a.pen.app,Ext.app⟩
 ·rename_i ia ib e1 e2
  have h1:=hx.read e1;have h2:=hy.read e2
  cases h1;cases h2
  unfold mulC
  dsimp only
  rw[if_pos q.1]
  exact⟨_,i,q.2,DV.str _,a.pen,Ext.refl⟩
 ·exact q.elim⟩
theorem DVs.atx(h:DVs A S xs ds){i:Int}(e:atI ds i=some d):∃v,atI xs i=some v/\DV A S v d:=by
 unfold atI at e ⊢
 rw[h.length]
 cases hx:ixN ds.length i with
 |none=>rw[hx]at e;cases e
 |some m=>rw[hx]at e;exact h.get e
def pIx:PV->PV->PM PV:=fun x y i Q _=>match x.rd,y.rd with
 |some (.tup a),some (.int b)=>(match atI a b with
  |some d=>Q (.fr d) i
  |none=>False)
 |some (.lst a),some (.int b)=>(match atI a b with
  |some d=>Q (.fr d) i
  |none=>False)
 |some (.str z),some (.int b)=>gd (z.length<=sizeLine) (match atI z.cps.toList b with
  |some c=>Q (.fr (.str ⟨#[c]⟩)) i
  |none=>False)
 |_,_=>False
theorem nu:dO ixC pIx:=⟨fun g A n0 S x y px py i a h0 hA hn hx hy=>by
 intro Q E q
 unfold pIx at q
 split at q
 ·rename_i ia ib e1 e2
  obtain⟨xs,rfl,h4⟩:=hx.tup e1
  have h2:=hy.read e2
  cases h2
  split at q
  ·rename_i d ed
   obtain⟨v,h5,h6⟩:=h4.atx ed
   unfold ixC
   dsimp only
   rw[h5]
   exact⟨_,i,q,h6,a.pen,Ext.refl⟩
  ·exact q.elim
 ·rename_i ia ib e1 e2
  obtain⟨n,xs,rfl,h3,h4⟩:=hx.items e1
  have h2:=hy.read e2
  cases h2
  split at q
  ·rename_i d ed
   obtain⟨v,h5,h6⟩:=h4.atx ed
   unfold ixC
   dsimp only
   rw[h3]
   dsimp only
   rw[h5]
   exact⟨_,i,q,h6,a.pen,Ext.refl⟩
  ·exact q.elim
 ·rename_i ia ib e1 e2
  have h1:=hx.read e1;have h2:=hy.read e2
  cases h1;cases h2
  obtain⟨hl,q⟩:=cQ.mp q
  split at q
  ·rename_i d ed
   unfold ixC
   dsimp only
   rw[if_pos hl,ed]
   exact⟨_,i,q,DV.str _,a.pen,Ext.refl⟩
  ·exact q.elim
 ·exact q.elim⟩
structure ar3(g:Gh)(A0:AS)(m:Rho->M (Option Int))(q:aH->PM (Option Int)):Prop where
 run:∀w S ρ r i,Amb g A0 i S->cU g A0 w S ρ r->Rn g (Ow A0 w) (fun _=>Eq) S (m ρ S) (q r i)
def Zv(qe:aH->PM PV):aH->PM (Option Int):=fun r i Q E=>qe r i (fun x i1=>match x with
 |.fr (.int b)=>Q (some b) i1
 |_=>False) E
def FP:aH->PM (Option Int):=fun _ i Q _=>Q none i
theorem Ca(he:dI g A0 me qe):ar3 g A0 (Nu me) (Zv qe):=⟨fun w S ρ r i a hr=>by
 refine(Rn.bnd (q':=fun(x:PV) i1 (Q:Option Int->Int->Prop) (_:XP)=>match x with
  |.fr (.int b)=>Q (some b) i1
  |_=>False) (hr.amb a) (he.run w S ρ r i a hr) fun x S1 px i1 hx a1 e1=>?_:Rn g (Ow A0 w) _ S _ _)
 cases px with
 |fr d=>cases d with
  |int b=>cases hx;exact Rn.ret a1.pen rfl
  |_=>exact Rn.no
 |_=>exact Rn.no⟩
theorem uX:ar3 g A0 vW FP:=⟨fun w S ρ r i a _=>Rn.ret a.pen rfl⟩
theorem DVs.cut(h:DVs A S xs ds){lo hi:Option Int}:DVs A S (yE xs lo hi) (yE ds lo hi):=by
 unfold yE
 rw[h.length]
 exact(h.drop).take
def slD(x:PV)(lo hi:Option Int)(i:Int)(Q:PV->Int->Prop):Prop:=match x.rd with
 |some (.str z)=>gd (z.length<=sizeLine) (Q (.fr (.str (cutS z lo hi))) i)
 |some (.lst a)=>Q (.ow (.lst (yE a lo hi))) i
 |some (.tup a)=>gd (¬(jz a.length 0 lo=0/\jz a.length a.length hi=a.length)) (Q (.fr (.tup (yE a lo hi))) i)
 |_=>False
def pSl(qe:aH->PM PV)(ql qh:aH->PM (Option Int)):aH->PM PV:=fun r i Q E=>qe r i (fun x i1=>ql r i1 (fun l i2=>qh r i2 (fun h i3=>slD x l h i3 Q) E) E) E
theorem Uj{ml mh:Rho->M (Option Int)}{ql qh:aH->PM (Option Int)}(he:dI g A0 me qe)(hl:ar3 g A0 ml ql)(hh:ar3 g A0 mh qh):dI g A0 (mSl me ml mh) (pSl qe ql qh):=⟨fun w S ρ r i a hr=>by
 have hp0:=a.lt _ a.pin
 refine Rn.bnd (q':=fun x i1 Q E=>ql r i1 (fun l i2=>qh r i2 (fun h i3=>slD x l h i3 Q) E) E) (hr.amb a) (he.run w S ρ r i a hr) fun x S1 px i1 hx a1 e1=>?_
 have a01:=a.next a1.pen e1
 have hr1:=hr.ext a a1.pen e1
 refine Rn.bnd (q':=fun l i2 Q E=>qh r i2 (fun h i3=>slD px l h i3 Q) E) a1 (hl.run w S1 ρ r i1 a01 hr1) fun l S2 l' i2 hl a2 e2=>?_
 subst hl
 have a02:=a01.next a2.pen e2
 have hr2:=hr1.ext a01 a2.pen e2
 refine Rn.bnd (q':=fun h i3 Q E=>slD px l h i3 Q) a2 (hh.run w S2 ρ r i2 a02 hr2) fun h S3 h' i3 hh a3 e3=>?_
 subst hh
 have hx3:=(hx.ext a1 e2 hp0).ext a2 e3 hp0
 have l3:S.length<=S3.length:=a9 (a.len a1.pen e1) (a9 (a01.len a2.pen e2) (a02.len a3.pen e3))
 intro Q E q
 unfold slD at q
 simp only[cQ]at q
 split at q
 ·rename_i z ez
  have h1:=hx3.read ez
  cases h1
  unfold slC
  dsimp only
  rw[if_pos q.1]
  exact⟨_,i3,q.2,DV.str _,a3.pen,Ext.refl⟩
 ·rename_i z ez
  obtain⟨n,xs,rfl,h3,h4⟩:=hx3.items ez
  unfold slC
  dsimp only
  rw[h3]
  exact⟨_,i3,q,VR.newL h4.cut l3,a3.pen.app,Ext.app⟩
 ·rename_i z ez
  obtain⟨xs,rfl,h4⟩:=hx3.tup ez
  unfold slC
  dsimp only
  rw[if_neg (by rw[h4.length];exact q.1)]
  exact⟨_,i3,q.2,DV.tup h4.cut,a3.pen,Ext.refl⟩
 ·exact q.elim⟩
def avc:PV->PM PV:=fun x i Q _=>match x.rd with
 |some (.str z)=>gd (z.length<=sizeLine) (Q (.fr (.str ⟨z.cps.toList.reverse.toArray⟩)) i)
 |some (.lst a)=>Q (.ow (.lst a.reverse)) i
 |_=>False
theorem auz:Fo akv avc:=⟨fun g A n0 S x px i a h0 hA hn hx=>by
 intro Q E q
 unfold avc at q
 simp only[cQ]at q
 split at q
 ·rename_i z ez
  have h1:=hx.read ez
  cases h1
  unfold akv
  dsimp only
  rw[if_pos q.1]
  exact⟨_,i,q.2,DV.str _,a.pen,Ext.refl⟩
 ·rename_i z ez
  obtain⟨n,xs,rfl,h3,h4⟩:=hx.items ez
  unfold akv
  dsimp only
  rw[h3]
  exact⟨_,i,q,VR.newL h4.rev hn,a.pen.app,Ext.app⟩
 ·exact q.elim⟩
def pF1(q:PV->PM PV):List PV->PM PV
 | [x]=>q x
 |_=>fun _ _ _=>False
theorem G5{m:List CV->M CV}{q:PV->PM PV}(h:Fo (fun x=>m [x]) q):Bc m (pF1 q):=⟨fun g A n0 S xs ps i a h0 hA hn hx=>by
 unfold pF1
 split
 ·cases hx with
  |cons h1 h2=>cases h2;exact h.run g A n0 S _ _ i a h0 hA hn h1
 ·exact Rn.no⟩
def Oo:D->Option D
 |.str y=>if y.length<=sizeLine then some (.int y.length) else none
 |.tup xs=>some (.int xs.length)
 |.lst xs=>some (.int xs.length)
 |_=>none
theorem u5:Bc DQ (pF1 (p1 Oo)):=G5 (Pr ⟨fun {S v d e} h he=>by
 unfold Oo at he
 split at he
 ·split at he
  ·rename_i hl;cases h;cases he;exact⟨_,if_pos hl,fun A=>.int _⟩
  ·cases he
 ·cases he
  cases h with|tup r=>exact⟨.int _,rfl,fun A=>by rw[r.length];exact .int _⟩
 ·cases he
  cases h with|lst h1 h2 r=>exact⟨.int _,by unfold DQ;dsimp only;rw[h1],fun A=>by rw[r.length];exact .int _⟩
 ·cases he⟩)
def intD:D->Option D
 |.int i=>some (.int i)
 |.bl k=>some (.int (if k then 1 else 0))
 |.str a=>(match iB a with
  |some n=>if a.length<=640 then some (.int n) else none
  |none=>none)
 |_=>none
theorem Ul:Bc Hg (pF1 (p1 intD)):=G5 (Pr ⟨fun {S v d e} h he=>by
 unfold intD at he
 split at he
 ·cases h;cases he;exact⟨_,rfl,fun A=>.int _⟩
 ·cases h;cases he;exact⟨_,rfl,fun A=>.int _⟩
 ·cases h
  split at he
  ·rename_i n en
   split at he
   ·rename_i hl
    cases he
    exact⟨.int n,by unfold Hg;dsimp only;rw[en];exact if_pos hl,fun A=>.int _⟩
   ·cases he
  ·cases he
 ·cases he⟩)
def akd:D->Option D
 |.int i=>if i.natAbs.log2<1920 then some (.str (toString i)) else none
 |_=>none
theorem aq4:Rd1 (fun x=>Rb [x]) akd:=⟨fun {S v d e} h he=>by
 unfold akd at he
 split at he
 ·split at he
  ·rename_i hl
   cases h;cases he
   exact⟨.str _,if_pos hl,fun A=>.str _⟩
  ·cases he
 ·cases he⟩
def aj0:PV->PM PV:=fun x i Q _=>match x.rd with
 |some (.tup a)=>Q (.ow (.lst a)) i
 |some (.lst a)=>Q (.ow (.lst a)) i
 |_=>False
theorem aik:Bc PN (pF1 aj0):=G5 ⟨fun g A n0 S x px i a h0 hA hn hx=>by
 intro Q E q
 unfold aj0 at q
 split at q
 ·rename_i z ez
  obtain⟨xs,rfl,h4⟩:=hx.tup ez
  exact⟨_,i,q,VR.newL h4 hn,a.pen.app,Ext.app⟩
 ·rename_i z ez
  obtain⟨n,xs,rfl,h3,h4⟩:=hx.items ez
  unfold PN
  dsimp only
  rw[h3]
  exact⟨_,i,q,VR.newL h4 hn,a.pen.app,Ext.app⟩
 ·exact q.elim⟩
def KJ:PV->PM PV:=fun x i Q _=>match x.rd with
 |some (.tup a)=>Q (.fr (.tup a)) i
 |some (.lst a)=>Q (.fr (.tup a)) i
 |_=>False
theorem Ce:Bc Cg (pF1 KJ):=G5 ⟨fun g A n0 S x px i a h0 hA hn hx=>by
 intro Q E q
 unfold KJ at q
 split at q
 ·rename_i z ez
  obtain⟨xs,rfl,h4⟩:=hx.tup ez
  exact⟨_,i,q,DV.tup h4,a.pen,Ext.refl⟩
 ·rename_i z ez
  obtain⟨n,xs,rfl,h3,h4⟩:=hx.items ez
  unfold Cg
  dsimp only
  rw[h3]
  exact⟨_,i,q,DV.tup h4,a.pen,Ext.refl⟩
 ·exact q.elim⟩
def uZ:List D->Option (List Str)
 | []=>some []
 |.str y::r=>(uZ r).map (y:: ·)
 |_::_=>none
def Jv:List D->Option (List Int)
 | []=>some []
 |.int i::l=>(Jv l).map (i:: ·)
 |_=>none
def T6:List D->Option (List Bool)
 | []=>some []
 |.bl b::l=>(T6 l).map (b:: ·)
 |_::_=>none
theorem Rf:∀{xs:List CV}{ds:List D},DVs A S xs ds->strsOf xs=uZ ds
 |_,_,.nil=>rfl
 |_,_,.cons h r=>by cases h<;>first|rfl|(unfold strsOf uZ;rw[Rf r])
theorem abZ:∀{xs:List CV}{ds:List D},DVs A S xs ds->intsOf xs=Jv ds
 |_,_,.nil=>rfl
 |_,_,.cons h r=>by cases h<;>first|rfl|(unfold intsOf Jv;rw[abZ r])
theorem ad8:∀{xs:List CV}{ds:List D},DVs A S xs ds->bools xs=T6 ds
 |_,_,.nil=>rfl
 |_,_,.cons h r=>by cases h<;>first|rfl|(unfold bools T6;rw[ad8 r])
theorem Qq:∀zs:List Str,DVs A S (zs.map .str) (zs.map .str)
 | []=>.nil
 |z::zs=>.cons (.str z) (Qq zs)
theorem Xg:∀zs:List Int,DVs A S (zs.map .int) (zs.map .int)
 | []=>.nil
 |z::zs=>.cons (.int z) (Xg zs)
def FQ:PV->PM PV:=fun x i Q _=>match x.rd with
 |some (.lst a)=>(match uZ a,Jv a with
  |some zs,_=>gd (zs.length<1000000) (Q (.ow (.lst ((sJ leS zs).map .str))) i)
  |none,some is=>gd (is.length<1000000) (Q (.ow (.lst ((sJ leI is).map .int))) i)
  |none,none=>False)
 |_=>False
theorem aje:Bc Q9 (pF1 FQ):=G5 ⟨fun g A n0 S x px i a h0 hA hn hx=>by
 intro Q E q
 unfold FQ at q
 simp only[cQ]at q
 split at q
 ·rename_i z ez
  obtain⟨n,xs,rfl,h3,h4⟩:=hx.items ez
  unfold Q9
  dsimp only
  rw[h3]
  dsimp only
  rw[Rf h4,abZ h4]
  cases e1:uZ z with
  |some zs=>
   rw[e1]at q
   dsimp only at q ⊢
   rw[if_pos q.1]
   exact⟨_,i,q.2,VR.newL (Qq _) hn,a.pen.app,Ext.app⟩
  |none=>
   rw[e1]at q
   cases e2:Jv z with
   |none=>rw[e2]at q;exact q.elim
   |some zs=>
    rw[e2]at q
    dsimp only at q ⊢
    rw[if_pos q.1]
    exact⟨_,i,q.2,VR.newL (Xg _) hn,a.pen.app,Ext.app⟩
 ·exact q.elim⟩
def abM:D->Option D
 |.lst a=>(match T6 a with
  |some bs=>some (.bl (bs.all id))
  |none=>none)
 |_=>none
theorem Y8:Bc ae9 (pF1 (p1 abM)):=G5 (Pr ⟨fun {S v d e} h he=>by
 unfold abM at he
 split at he
 ·cases h with
  |lst h1 h2 r=>
   have:=ad8 r
   split at he
   ·rename_i bs eb
    rw[eb]at this
    cases he
    exact⟨.bl (bs.all id),by unfold ae9;dsimp only;rw[h1];dsimp only;rw[this],fun A=>.bl _⟩
   ·cases he
 ·cases he⟩)
def asY:D->Option PyData
 |.int i=>some (.int i)
 |.str x=>some (.str x)
 |_=>none
def arF:D->Option PyData
 |.int i=>some (.int i)
 |.str x=>some (.str x)
 |.tup cs=>(cs.mapM asY).map .tuple
 |_=>none
def Qh(f:D->Option PyData)(p:D×D):Option (PyData×PyData):=match arF p.1,f p.2 with
 |some k,some d=>some (k,d)
 |_,_=>none
def trP:Nat->D->Option PyData
 |0,_=>none
 |n+1,x=>match x with
  |.non=>some .none
  |.bl b=>some (.bool b)
  |.int i=>some (.int i)
  |.str y=>some (.str y)
  |.tup xs=>(xs.mapM (trP n)).map .tuple
  |.lst xs=>(xs.mapM (trP n)).map .list
  |.dic kvs=>(kvs.mapM (Qh (trP n))).map .dict
  |_=>none
theorem arE(h:DV A S v d):aob v=asY d:=by cases h<;>rfl
theorem auC(h:DV A S v d):toK v=arF d:=by
 cases h with
 |tup r=>unfold toK arF;dsimp only;rw[Ku (fun _ _ h=>arE h) r]
 |_=>rfl
theorem aes{f:CV->Option PyData}{h:D->Option PyData}(hf:∀v d,DV A S v d->f v=h d):∀{xs:List (CV×CV)}{ds:List (D×D)},DVp A S xs ds->xs.mapM (Az f)=ds.mapM (Qh h)
 |_,_,.nil=>rfl
 |_,_,.cons hk h1 r=>by
  rw[bb,bb,aes hf r]
  have e:∀{k v e d},toK k=arF e->f v=h d->Az f (k,v)=Qh h (e,d):=fun {k v e d} e1 e2=>by
   unfold Az Qh
   dsimp only
   rw[e1,e2]<;>rfl
  rw[e (auC hk) (hf _ _ h1)]
theorem aoc:∀{n:Nat}{v:CV}{d:D},RD S v d->toR S n v=trP n d
 |0,_,_,_=>rfl
 |n+1,_,_,h=>by
  have ih:∀v d,RD S v d->toR S n v=trP n d:=fun v d h=>aoc h
  unfold toR trP
  cases h with
  |tup r=>dsimp only;rw[Ku ih r]
  |lst h1 h2 r=>dsimp only;rw[h1];dsimp only;rw[Ku ih r]
  |dic h1 h2 r=>rcases h1 with h1|h1<;>(dsimp only;rw[h1];dsimp only;rw[aes ih r])
  |obj h1 h2 r=>dsimp only;rw[h1]
  |odd h1 h2 r=>dsimp only;rw[h1]
  |_=>rfl
def asl:D->Bool
 |.tup _|.lst _|.dic _|.obj _ _=>true
 |_=>false
def wL(x:D):Option D:=if asl x then (match trP 40 x with
 |some d=>if d.showable&&decide (d.depth<=60)&&decide (d.shown.length<=sizeLine) then some (.str d.shown) else none
 |none=>none) else none
theorem W6:Bc WT (pF1 (p1 wL)):=G5 (Pr ⟨fun {S v d e} h he=>by
 unfold wL at he
 split at he
 ·rename_i hb
  cases er:trP 40 d with
  |none=>rw[er]at he;cases he
  |some y=>
   rw[er]at he
   dsimp only at he
   split at he
   ·rename_i hg
    cases he
    have e1:=aoc (n:=40) h
    rw[er]at e1
    refine⟨.str y.shown,?_,fun A=>.str _⟩
    unfold WT
    cases h with
    |tup r=>simp only[e1];rw[if_pos hg]
    |lst h1 h2 r=>simp only[e1];rw[if_pos hg]
    |dic h1 h2 r=>simp only[e1];rw[if_pos hg]
    |obj h1 h2 r=>simp only[e1];rw[if_pos hg]
    |odd h1 h2 r=>simp only[e1];rw[if_pos hg]
    |_=>cases hb
   ·cases he
 ·cases he⟩)
def aef:D->Option D
 |.str y=>if y.length<=sizeLine then some (.str y) else none
 |.int i=>if i.natAbs.log2<1920 then some (.str (toString i)) else none
 |_=>none
theorem Uk:Fo aee (p1 aef):=Pr ⟨fun {S v d e} h he=>by
 unfold aef at he
 split at he
 ·split at he
  ·rename_i hl;cases h;cases he;exact⟨.str _,if_pos hl,fun A=>.str _⟩
  ·cases he
 ·split at he
  ·rename_i hl;cases h;cases he;exact⟨.str _,if_pos hl,fun A=>.str _⟩
  ·cases he
 ·cases he⟩
structure aye(g:Gh)(A0:AS)(m:Rho->M Str)(q:aH->PM Str):Prop where
 run:∀w S ρ r i,Amb g A0 i S->cU g A0 w S ρ r->Rn g (Ow A0 w) (fun _=>Eq) S (m ρ S) (q r i)
def pJs:List (aH->PM PV)->Str->aH->PM Str
 | [],acc=>fun _ i Q _=>Q acc i
 |q::ql,acc=>fun r i Q E=>q r i (fun x i1=>match x with
  |.fr (.str y)=>gd ((acc++y).length<=sizeLine) (pJs ql (acc++y) r i1 Q E)
  |_=>False) E
inductive apj(g:Gh)(A0:AS):List (Rho->M CV)->List (aH->PM PV)->Prop where
 |nil:apj g A0 [] []
 |cons {m:Rho->M CV} {q:aH->PM PV} {ml:List (Rho->M CV)} {ql:List (aH->PM PV)} (h:dI g A0 m q) (r:apj g A0 ml ql):apj g A0 (m::ml) (q::ql)
theorem an4:∀{ml:List (Rho->M CV)}{ql:List (aH->PM PV)}{acc:Str},apj g A0 ml ql->aye g A0 (mJs ml acc) (pJs ql acc)
 |_,_,acc,.nil=>⟨fun w S ρ r i a hr=>Rn.ret a.pen rfl⟩
 |_,_,acc,.cons (q:=q) (ql:=ql) h t=>⟨fun w S ρ r i a hr=>by
  refine(Rn.bnd (q':=fun(x:PV) i1 (Q:Str->Int->Prop) (E:XP)=>match x with
   |.fr (.str y)=>gd ((acc++y).length<=sizeLine) (pJs ql (acc++y) r i1 Q E)
   |_=>False) (hr.amb a) (h.run w S ρ r i a hr) fun x S1 px i1 hx a1 e1=>?_:Rn g (Ow A0 w) _ S _ _)
  cases px with
  |fr d=>cases d with
   |str y=>
    cases hx
    intro Q E hq0
    obtain⟨hl,hq⟩:=cQ.mp hq0
    dsimp only
    rw[if_pos hl]
    exact(an4 t).run w S1 ρ r i1 (a.next a1.pen e1) (hr.ext a a1.pen e1) Q E hq
   |_=>exact Rn.no
  |_=>exact Rn.no⟩
def Q7(ql:List (aH->PM PV)):aH->PM PV:=fun r i Q E=>pJs ql Str.empty r i (fun y i1=>Q (.fr (.str y)) i1) E
theorem NK{ml:List (Rho->M CV)}{ql:List (aH->PM PV)}(h:apj g A0 ml ql):dI g A0 (Kr ml) (Q7 ql):=⟨fun w S ρ r i a hr=>by
 refine(Rn.bnd (q':=fun(y:Str) i1 (Q:PV->Int->Prop) (_:XP)=>Q (.fr (.str y)) i1) (hr.amb a) ((an4 h).run w S ρ r i a hr) fun x S1 px i1 hx a1 e1=>?_:Rn g (Ow A0 w) _ S _ _)
 subst hx
 exact Rn.ret a1.pen (DV.str _)⟩
def pBM(c:PV->Bool)(q:PV->List PV->PM PV)(qo:aH->PM PV)(qs:aH->PM (List PV)):aH->PM PV:=fun r i Q E=>qo r i (fun x i1=>gd (c x=true) (qs r i1 (fun ps i2=>q x ps i2 Q E) E)) E
theorem ag1{T:String}{c:PV->Bool}{mm:CV->List CV->M CV}{q:PV->List PV->PM PV}(hc:∀{g A n0 S v pv},VR g A n0 S v pv->c pv=true->tyB S v=some T)
    (h:∀g A n0 S x px xs ps i,Amb g A i S->g.p<n0->(∀n,A n->n<n0)->n0<=S.length->VR g A n0 S x px->VRs g A n0 S xs ps->Rn g A (fun S'=>VR g A n0 S') S (mm x xs S) (q px ps i))(ho:dI g A0 mo qo)(hs:Oh g A0 ms qs):dI g A0 (mBM T mm mo ms) (pBM c q qo qs):=⟨fun w S ρ r i a hr Q E hq=>by
  rw[akg]
  have hp0:=a.lt _ a.pin
  refine(ho.run w S ρ r i a hr _ _ hq).imp (fun x S1 ⟨px,i1,hq0,hx,hp,e1⟩=>?_) fun _ _ _ z=>z
  obtain⟨hcx,hq⟩:=cQ.mp hq0
  have a1:=a.next hp e1
  have hr1:=hr.ext a hp e1
  have l1:=a.len hp e1
  rw[if_pos (hc hx hcx)]
  refine(hs.run w S1 ρ r i1 a1 hr1 _ _ hq).imp (fun xs S2 ⟨ps,i2,hq,hx2,hp2,e2⟩=>?_) fun c fs S2 ⟨gs,i2,k1,k2,k3,k4⟩=>⟨gs,i2,k1,k2,k3,e1.trans k4⟩
  have a2:=(hr1.amb a1).next hp2 e2
  have l2:=a9 l1 (a1.len hp2 e2)
  exact(h g (Ow A0 w) S.length S2 x px xs ps i2 a2 hp0 (hr.lt a) l2 (hx.ext (hr1.amb a1) e2 hp0) (hx2.base l1) Q E hq).imp (fun v S3 ⟨d,i3,k1,k2,k3,k4⟩=>⟨d,i3,k1,k2,k3,(e1.trans e2).trans k4⟩) fun c fs S3 ⟨gs,i3,k1,k2,k3,k4⟩=>⟨gs,i3,k1,k2,k3,(e1.trans e2).trans k4⟩⟩
def uM:PV->Bool
 |.fr (.str _)=>true
 |_=>false
theorem Rq(h:VR g A n0 S v pv)(hc:uM pv=true):tyB S v=some "str":=by
 unfold uM at hc
 split at hc
 ·cases h;rfl
 ·cases hc
structure am4(mm:CV->List CV->M CV)(q:PV->List PV->PM PV):Prop where
 run:∀g A n0 S x px xs ps i,Amb g A i S->g.p<n0->(∀n,A n->n<n0)->n0<=S.length->VR g A n0 S x px->VRs g A n0 S xs ps->Rn g A (fun S'=>VR g A n0 S') S (mm x xs S) (q px ps i)
def GF:PV->List PV->PM PV:=fun x ps i Q _=>match x,ps with
 |.fr (.str a),[.fr (.str b)]=>gd ((b.length==0)=false/\a.length+2<=sizeLine) (Q (.ow (.lst ((Txt.split a b).map .str))) i)
 |_,_=>False
theorem aeP:am4 zP GF:=⟨fun g A n0 S x px xs ps i a h0 hA hn hx hxs=>by
 intro Q E q
 unfold GF at q
 simp only[cQ]at q
 split at q
 ·cases hx
  cases hxs with
  |cons h1 h2=>
   cases h1;cases h2
   unfold zP
   dsimp only
   rw[if_pos q.1]
   exact⟨_,i,q.2,VR.newL (Qq _) hn,a.pen.app,Ext.app⟩
 ·exact q.elim⟩
theorem ajd(ho:dI g A0 mo qo)(hs:Oh g A0 ms qs):dI g A0 (mBM "str" zP mo ms) (pBM uM GF qo qs):=ag1 Rq aeP.run ho hs
def ac1:PV->List PV->PM PV:=fun x ps i Q _=>match x,ps with
 |.fr (.str a),[y]=>(match y.rd with
  |some (.lst zs)=>(match uZ zs with
   |some ys=>gd ((ys.map (·.length)).sum+ys.length*a.length<=16777216) (Q (.fr (.str (Txt.join a ys))) i)
   |none=>False)
  |_=>False)
 |_,_=>False
theorem arp:am4 afA ac1:=⟨fun g A n0 S x px xs ps i a h0 hA hn hx hxs=>by
 intro Q E q
 unfold ac1 at q
 simp only[cQ]at q
 split at q
 ·cases hx
  cases hxs with
  |cons h1 h2=>
   cases h2
   split at q
   ·rename_i zs ez
    obtain⟨n,xs,rfl,h3,h4⟩:=h1.items ez
    split at q
    ·rename_i ys ey
     unfold afA
     dsimp only
     rw[h3]
     dsimp only
     rw[Rf h4,ey]
     dsimp only
     rw[if_pos q.1]
     exact⟨_,i,q.2,DV.str _,a.pen,Ext.refl⟩
    ·exact q.elim
   ·exact q.elim
 ·exact q.elim⟩
end
section
variable [Tabs]{α β:Type}{g:Gh}{A A' A0:AS}{S S' S1 S2:Sto}{v u:CV}{d e:D}{xs:List CV}{ds:List D}{ps:List PV}{n p n0 j k:Nat}{i i':Int}{pv:PV}{w w' w1 w2:Nat->Option Nat}{ρ ρ':Rho}{r r':aH}
variable {ma mb mc me mo:Rho->M CV}{qa qb qc qe qo:aH->PM PV}{mt mu:Rho->M Bool}{qt qu:aH->PM Bool}{ms:Rho->M (List CV)}{qs:aH->PM (List PV)}{m1 m2:Rho->M CF}{q1 q2:aH->PMS}{m:List CV->M CV}{q:List PV->PM D}
inductive PAK where
 |fld|prop (q:List PV->PM D)|con (d:D)
inductive AKR:AK->PAK->Prop where
 |fld:AKR .fld .fld
 |prop {m:List CV->M CV} {q:List PV->PM D} (h:dJ m q):AKR (.prop m) (.prop q)
 |con {c:CV} (h:aor c=true):AKR (.con c) (.con (cD c))
def Hr(f:Str)(tbl:List (Str×PAK)):PV->PM PV:=fun x i Q E=>match x.rd with
 |some (.obj c fs)=>(match tbl.lookup c with
  |some .fld=>(match fs.lookup f with
   |some d=>Q (.fr d) i
   |none=>False)
  |some (.prop q)=>q [x.arg] i (fun d i1=>Q (.fr d) i1) NoX
  |some (.con d)=>(match fs.lookup f with
   |none=>Q (.fr d) i
   |some _=>False)
  |none=>False)
 |some (.cls c)=>(match tbl.lookup c with
  |some (.con d)=>Q (.fr d) i
  |_=>False)
 |_=>False
theorem amI{r:Res α}{Q:α->Sto->Prop}{E:Str->List (Str×CV)->Sto->Prop}(h:Wp r Q NoE):Wp (V3 r) Q E:=by rw[Ai];exact h
theorem nH{f:Str}{tm:List (Str×AK)}{tp:List (Str×PAK)}(ht:zV AKR tm tp):Fo (uo f tm) (Hr f tp):=⟨fun g A n0 S x px i a h0 hA hn hx=>by
 intro Q E q
 unfold Hr at q
 split at q
 ·rename_i c fs ex
  obtain⟨n,gs,rfl,h3,h4⟩:=hx.fields ex
  have hl:=ht.look (c:=c)
  have hf:=h4.look (f:=f)
  split at q
  ·rename_i et
   rw[et]at hl
   obtain⟨ak,e1,hk⟩:=hl
   cases hk
   split at q
   ·rename_i d ed
    rw[ed]at hf
    obtain⟨v,e2,hv⟩:=hf
    unfold uo
    dsimp only
    rw[h3]
    dsimp only
    rw[e1]
    dsimp only
    rw[e2]
    exact⟨_,i,q,hv,a.pen,Ext.refl⟩
   ·exact q.elim
  ·rename_i q' et
   rw[et]at hl
   obtain⟨ak,e1,hk⟩:=hl
   cases hk with
   |prop h=>
    unfold uo
    dsimp only
    rw[h3]
    dsimp only
    rw[e1]
    dsimp only
    refine amI ?_
    have key:=h.run g A S [.ref n] [px.arg] i a (.cons (hx.arg1 hA) .nil) _ _ q
    exact key.imp (fun v S1 ⟨d,i1,k1,k2,k3⟩=>⟨.fr d,i1,k1,k2,k3⟩) fun c fs S1 ⟨gs,i1,hz,_⟩=>hz.elim
  ·rename_i d' et
   rw[et]at hl
   obtain⟨ak,e1,hk⟩:=hl
   cases hk with
   |con h=>
    split at q
    ·rename_i ed
     rw[ed]at hf
     unfold uo
     dsimp only
     rw[h3]
     dsimp only
     rw[e1]
     dsimp only
     rw[hf]
     exact⟨_,i,q,agK h,a.pen,Ext.refl⟩
    ·exact q.elim
  ·exact q.elim
 ·rename_i c ex
  have hc:=hx.read ex
  cases hc
  have hl:=ht.look (c:=c)
  split at q
  ·rename_i d et
   rw[et]at hl
   obtain⟨ak,e1,hk⟩:=hl
   cases hk with
   |con h=>
    unfold uo
    dsimp only
    rw[e1]
    exact⟨_,i,q,agK h,a.pen,Ext.refl⟩
  ·exact q.elim
 ·exact q.elim⟩
/-- of exceptions, too -/
def ajZ(f:Str)(tbl:List Str)(q:PV->PM PV):PV->PM PV:=fun x i Q E=>match x with
 |.fr (.exn c fs)=>gd (c∈tbl) (match fs.lookup f with
  |some d=>Q (.fr d) i
  |none=>False)
 |_=>q x i Q E
theorem aij{f:Str}{tbl:List Str}{mm:CV->M CV}{qq:PV->PM PV}(h:Fo mm qq):Fo (abQ f tbl mm) (ajZ f tbl qq):=⟨fun g A n0 S x px i a h0 hA hn hx=>by
 intro Q E q
 unfold ajZ at q
 split at q
 ·rename_i c fs
  cases hx with
  |exn r=>
   have hf:=r.look (f:=f)
   obtain⟨hc,q⟩:=cQ.mp q
   split at q
   ·rename_i d ed
    rw[ed]at hf
    obtain⟨v,e2,hv⟩:=hf
    unfold abQ
    dsimp only
    rw[if_pos hc,e2]
    exact⟨_,i,q,hv,a.pen,Ext.refl⟩
   ·exact q.elim
 ·rename_i hne
  have e:abQ f tbl mm x S=mm x S:=by
   unfold abQ
   split
   ·rename_i c fs
    cases px with
    |fr d=>cases hx;exact absurd rfl (hne _ _)
    |ow d=>obtain⟨n,e,_⟩:=hx;cases e
    |bo d=>obtain⟨n,e,_⟩:=hx;cases e
    |pen=>cases hx
   ·rfl
  rw[e]
  exact h.run g A n0 S x px i a h0 hA hn hx Q E q⟩
abbrev OwR(n:Nat):(List CV->M CV)->(List PV->PM D)->Prop:=fun m q=>dJ (app n m) q
def Q5(tbl:List (Str×(List PV->PM D)))(x:PV):Option (List PV->PM D):=match x.rd with
 |some (.obj c _)=>tbl.lookup c
 |_=>none
theorem KD{R:(List CV->M CV)->(List PV->PM D)->Prop}{tm:List (Str×(List CV->M CV))}{tp:List (Str×(List PV->PM D))}(ht:zV R tm tp)(hx:VR g A n0 S v pv)(hp:pv.rd≠none):match Q5 tp pv with
    |some q=>∃m,ownAt tm v S=some m/\R m q
    |none=>ownAt tm v S=none:=by
  cases ex:pv.rd with
  |none=>exact absurd ex hp
  |some d=>
   have h:=hx.read ex
   unfold Q5
   rw[ex]
   cases h with
   |obj h1 h2 r=>
    rename_i n c fs gs
    have:=ht.look (c:=c)
    dsimp only
    unfold ownAt
    dsimp only
    rw[h1]
    dsimp only
    cases e:tp.lookup c with
    |none=>rw[e]at this;exact this
    |some q=>rw[e]at this;exact this
   |lst h1 h2 r=>show ownAt tm _ S=none;unfold ownAt;dsimp only;rw[h1]
   |odd h1 h2 r=>show ownAt tm _ S=none;unfold ownAt;dsimp only;rw[h1]
   |dic h1 h2 r=>show ownAt tm _ S=none;unfold ownAt;rcases h1 with h1|h1<;>(dsimp only;rw[h1])
   |_=>rfl
def Yr:D->Option String
 |.non=>some "NoneType"
 |.bl _=>some "bool"
 |.int _=>some "int"
 |.str _=>some "str"
 |.tup _=>some "tuple"
 |.lst _=>some "list"
 |.dic _=>some "dict"
 |_=>none
def acN:D->Option Str
 |.obj c _=>some c
 |_=>none
theorem Xi(h:DV A S v d):kindB S v=Yr d:=by
 cases h<;>first|rfl|(rename_i h1 _ _;unfold kindB;dsimp only;rw[h1];rfl)|(rename_i h1 _ _;unfold kindB;rcases h1 with h1|h1<;>(dsimp only;rw[h1];rfl))
theorem aem(h:DV A S v d):lg S v=acN d:=by
 cases h<;>first|rfl|(rename_i h1 _ _;unfold lg;dsimp only;rw[h1];rfl)|(rename_i h1 _ _;unfold lg;rcases h1 with h1|h1<;>(dsimp only;rw[h1];rfl))
def au5(cs:List (Str×Str))(bs:List Str)(c:Str)(y:D):Bool:=match Yr y,acN y with
 |some _,_=>decide (c∈bs)
 |none,some d=>decide ((c,d)∈cs)
 |none,none=>false
def cC(tbl:List (Str×(List PV->PM D)))(cs:List (Str×Str))(bs:List Str)(fin:Bool->Bool)(other:PV->PV->PM PV):PV->PV->PM PV:=fun x y i Q E=>match x.rd,y.rd with
 |some (.obj c fs),some dy=>(match tbl.lookup c with
  |some q=>gd (au5 cs bs c dy=true) (q [x.arg,y.arg] i (fun d i1=>match d with
   |.bl b=>Q (.fr (.bl (fin b))) i1
   |_=>False) E)
  |none=>other x y i Q E)
 |some _,some _=>other x y i Q E
 |_,_=>False
theorem cH{tm:List (Str×(List CV->M CV))}{tp:List (Str×(List PV->PM D))}{cs:List (Str×Str)}{bs:List Str}{fin:Bool->Bool}{mm:CV->CV->M CV}{qq:PV->PV->PM PV}(ht:zV (OwR 2) tm tp)(h:dO mm qq):dO (cP tm cs bs fin mm) (cC tp cs bs fin qq):=⟨fun g A n0 S x y px py i a h0 hA hn hx hy=>by
 intro Q E q
 unfold cC at q
 unfold cP
 split at q
 ·rename_i c fs dy ex ey
  have key:=KD ht hx (by rw[ex];exact fun z=>nomatch z)
  obtain⟨n,gs,rfl,h3,h4⟩:=hx.fields ex
  have ko:lg S (.ref n)=some c:=by unfold lg;dsimp only;rw[h3]
  have eo:Q5 tp px=tp.lookup c:=by unfold Q5;rw[ex]
  rw[eo]at key
  split at q
  ·rename_i q' eq
   rw[eq]at key
   obtain⟨m,e1,hm⟩:=key
   rw[e1,ko]
   dsimp only
   obtain⟨hmay,q⟩:=cQ.mp q
   have em:anJ cs bs c S y=true:=by
    have:=hy.read ey
    unfold anJ
    rw[Xi this,aem this]
    exact hmay
   rw[if_pos em,jX]
   refine(dJ.run hm g A S [.ref n,y] [px.arg,py.arg] i a (.cons (hx.arg1 hA) (.cons (hy.arg1 hA) .nil)) _ _ q).imp (fun v S1 ⟨d,i1,k1,k2,k3,k4⟩=>?_) fun _ _ _ z=>z
   dsimp only at k1
   split at k1
   ·cases k2
    exact⟨_,i1,k1,DV.bl _,k3,k4⟩
   ·exact k1.elim
  ·rename_i eq
   rw[eq]at key
   rw[key]
   exact h.run g A n0 S _ y px py i a h0 hA hn hx hy Q E q
 ·rename_i dx dy hno ex ey
  have key:=KD ht hx (by rw[ex];exact fun z=>nomatch z)
  have eo:Q5 tp px=none:=by
   unfold Q5
   rw[ex]
   split
   ·rename_i c' fs' e'
    cases e'
    exact absurd rfl (hno _ _)
   ·rfl
  rw[eo]at key
  rw[key]
  exact h.run g A n0 S x y px py i a h0 hA hn hx hy Q E q
 ·exact q.elim⟩
def U7(tbl:List (Str×(List PV->PM D))):PV->PM PV:=fun x i Q E=>match x.rd with
 |some (.obj c _)=>(match tbl.lookup c with
  |some q=>q [x.arg] i (fun d i1=>match d with
   |.str b=>Q (.fr (.str b)) i1
   |_=>False) E
  |none=>False)
 |some (.str y)=>Q (.fr (.str y)) i
 |some (.int y)=>p1 akd x i Q E
 |_=>False
theorem G6{tm:List (Str×(List CV->M CV))}{tp:List (Str×(List PV->PM D))}(ht:zV (OwR 1) tm tp):Bc (Jm tm) (pF1 (U7 tp)):=G5 ⟨fun g A n0 S x px i a h0 hA hn hx=>by
 intro Q E q
 unfold U7 at q
 unfold Jm
 dsimp only
 split at q
 ·rename_i c fs ex
  have key:=KD ht hx (by rw[ex];exact fun z=>nomatch z)
  have eo:Q5 tp px=tp.lookup c:=by unfold Q5;rw[ex]
  rw[eo]at key
  split at q
  ·rename_i q' eq
   rw[eq]at key
   obtain⟨m,e1,hm⟩:=key
   rw[e1]
   dsimp only
   rw[jX]
   refine(dJ.run hm g A S [x] [px.arg] i a (.cons (hx.arg1 hA) .nil) _ _ q).imp (fun v S1 ⟨d,i1,k1,k2,k3,k4⟩=>?_) fun _ _ _ z=>z
   dsimp only at k1
   split at k1
   ·cases k2
    exact⟨_,i1,k1,DV.str _,k3,k4⟩
   ·exact k1.elim
  ·exact q.elim
 ·rename_i y ex
  have:=hx.read ex
  cases this
  exact⟨_,i,q,DV.str _,a.pen,Ext.refl⟩
 ·rename_i y ex
  have h:=hx.read ex
  cases h
  exact(Pr aq4).run g A n0 S _ px i a h0 hA hn hx Q E q
 ·exact q.elim⟩
def ab0(tN:List Str)(tO:List ((Str×Str)×Bool))(tB:List ((Str×String)×Bool))(x t:D):Option D:=match t with
 |.ty T=>(match Yr x with
  |some t=>if T∈mH then some (.bl (nj t T)) else none
  |none=>(match acN x with
   |some c=>(tB.lookup (c,T)).map .bl
   |none=>none))
 |.cls d=>(match Yr x with
  |some _=>if d∈tN then some (.bl false) else none
  |none=>(match acN x with
   |some c=>(tO.lookup (c,d)).map .bl
   |none=>none))
 |_=>none
def pF2(q:PV->PV->PM PV):List PV->PM PV
 | [x,y]=>q x y
 |_=>fun _ _ _=>False
theorem BZ{m:List CV->M CV}{q:PV->PV->PM PV}(h:dO (fun x y=>m [x,y]) q):Bc m (pF2 q):=⟨fun g A n0 S xs ps i a h0 hA hn hx=>by
 unfold pF2
 split
 ·cases hx with
  |cons h1 h2=>cases h2 with
   |cons h2 h3=>cases h3;exact h.run g A n0 S _ _ _ _ i a h0 hA hn h1 h2
 ·exact Rn.no⟩
theorem GX{tN:List Str}{tO:List ((Str×Str)×Bool)}{tB:List ((Str×String)×Bool)}:Rd2 (fun x y=>Hh tN tO tB [x,y]) (ab0 tN tO tB):=⟨fun {S v u d1 d2 e} h1 h2 he=>by
 have k1:=Xi h1
 have k2:=aem h1
 unfold ab0 at he
 split at he
 ·rename_i T
  cases h2
  split at he
  ·rename_i t et
   split at he
   ·rename_i hT
    cases he
    rw[et]at k1
    exact⟨.bl (nj t T),by show Hh tN tO tB [v,.ty T] S=_;unfold Hh;dsimp only;rw[k1];dsimp only;rw[if_pos hT],fun A=>.bl _⟩
   ·cases he
  ·rename_i et
   rw[et]at k1
   split at he
   ·rename_i c ec
    rw[ec]at k2
    cases el:tB.lookup (c,T) with
    |none=>rw[el]at he;cases he
    |some b=>
     rw[el]at he;cases he
     exact⟨.bl b,by show Hh tN tO tB [v,.ty T] S=_;unfold Hh;dsimp only;rw[k1];dsimp only;rw[k2];dsimp only;rw[el],fun A=>.bl _⟩
   ·cases he
 ·rename_i T
  cases h2
  split at he
  ·rename_i t et
   split at he
   ·rename_i hT
    cases he
    rw[et]at k1
    exact⟨.bl false,by show Hh tN tO tB [v,.cls T] S=_;unfold Hh;dsimp only;rw[k1];dsimp only;rw[if_pos hT],fun A=>.bl _⟩
   ·cases he
  ·rename_i et
   rw[et]at k1
   split at he
   ·rename_i c ec
    rw[ec]at k2
    cases el:tO.lookup (c,T) with
    |none=>rw[el]at he;cases he
    |some b=>
     rw[el]at he;cases he
     exact⟨.bl b,by show Hh tN tO tB [v,.cls T] S=_;unfold Hh;dsimp only;rw[k1];dsimp only;rw[k2];dsimp only;rw[el],fun A=>.bl _⟩
   ·cases he
 ·cases he⟩
def ab1(tO:List ((Str×Str)×Bool))(tB:List ((Str×String)×Bool))(f:D->D->Option D)(x t:D):Option D:=match x,t with
 |.exn c _,.cls d=>(tO.lookup (c,d)).map .bl
 |.exn c _,.ty T=>(tB.lookup (c,T)).map .bl
 |_,_=>f x t
theorem GZ{tO:List ((Str×Str)×Bool)}{tB:List ((Str×String)×Bool)}{mm:List CV->M CV}{f:D->D->Option D}(h:Rd2 (fun x y=>mm [x,y]) f):Rd2 (fun x y=>Aa tO tB mm [x,y]) (ab1 tO tB f):=⟨fun {S v u d1 d2 e} h1 h2 he=>by
 unfold ab1 at he
 split at he
 ·rename_i c fs T
  cases h1;cases h2
  cases el:tO.lookup (c,T) with
  |none=>rw[el]at he;cases he
  |some b=>
   rw[el]at he;cases he
   exact⟨.bl b,by show Aa tO tB mm [.exn c _,.cls T] S=_;unfold Aa;dsimp only;rw[el],fun A=>.bl _⟩
 ·rename_i c fs T
  cases h1;cases h2
  cases el:tB.lookup (c,T) with
  |none=>rw[el]at he;cases he
  |some b=>
   rw[el]at he;cases he
   exact⟨.bl b,by show Aa tO tB mm [.exn c _,.ty T] S=_;unfold Aa;dsimp only;rw[el],fun A=>.bl _⟩
 ·rename_i n1 n2
  obtain⟨c,hc,hd⟩:=h.ok h1 h2 he
  refine⟨c,?_,hd⟩
  rw[<-hc]
  show Aa tO tB mm [v,u] S=_
  unfold Aa
  split
  ·rename_i e;cases e;cases h1;cases h2;exact absurd rfl (n1 _ _ _ rfl)
  ·rename_i e;cases e;cases h1;cases h2;exact absurd rfl (n2 _ _ _ rfl)
  ·rfl⟩
structure ar4(g:Gh)(A:AS)(th:M CV)(qth:PM D):Prop where
 run:∀(B:AS) S i,(∀n,B n->A n\/g.b.length<=n)->(∀n,A n->B n)->Amb g B i S->Rn g B (fun S'=>DV B S') S (th S) (qth i)
def ava(qth:PM D):aH->PM PV:=fun r i Q E=>match r[0]? with
 |some (some (PV.fr D.non))=>qth i (fun d i1=>Q (.fr d) i1) E
 |_=>False
theorem arf{th:M CV}{qth:PM D}(h:ar4 g A0 th qth):dI g A0 (ahN 0 .non th) (ava qth):=⟨fun w S ρ r i a hr Q E q=>by
 unfold ava at q
 split at q
 ·rename_i e0
  obtain⟨v,h1,h2⟩:=hr.at_ 0 _ e0
  cases h2
  rw[auH h1]
  exact Rn.frd (h.run (Ow A0 w) S i (fun n hn=>hn.elim .inl fun⟨j,ej⟩=>.inr (hr.new j n ej)) (fun n hn=>.inl hn) (hr.amb a)) Q E q
 ·exact q.elim⟩
/-- a def that takes one thing and calls it -/
structure aki(m:M CV->M CV)(q:PM D->PM D):Prop where
 run:∀g A S i th qth,Amb g A i S->ar4 (g.at S) A th qth->Rn g A (fun S'=>DV A S') S (m th S) (q qth i)
theorem amo{n:Nat}{mm:CV->M CV->Rho->M CF}{qq:PM D->aH->PMS}(h:∀{g A0 th qth},ar4 g A0 th qth->iZ g A0 (mm .non th) (qq qth)):aki (fun th=>nR n (mm .non th) [.non]) (fun qth i Q E=>qq qth (startP n [.fr .non]) i (ahW Q E)):=⟨fun g A S i th qth a ht Q E hq=>by
 rw[wp_run]
 refine((h ht).run (fun _=>none) S (iG n [.non]) (startP n [.fr .non]) i a.at (cU.start (g:=g) (g':=g.at S) rfl (.cons (pv:=.fr .non) DV.non .nil)) _ hq).imp (fun cf S1 ⟨pc,i1,h1,h2,h3⟩=>?_) fun _ _ _ z=>z
 cases cf with
 |nx ρ=>cases pc with
  |nx r=>
   obtain⟨w',st,hr⟩:=h2
   exact⟨.non,i1,h1,.non,h3,st.anq⟩
  |_=>exact h2.elim
 |rt v=>cases pc with
  |rt d=>
   obtain⟨hd,w',st⟩:=h2
   exact⟨d,i1,h1,hd,h3,st.anq⟩
  |_=>exact h2.elim
 |xc c fs ρ=>cases pc with
  |xc c' gs r=>
   obtain⟨rfl,w',st,hr,hf⟩:=h2
   exact⟨gs,i1,h1,hf.mono (Kp.less fun _ h=>.inl h),h3,st.anq⟩
  |_=>exact h2.elim
 |_=>cases pc<;>first|exact h2.elim|exact h1.elim⟩
/-- f(lambda: e) -/
def afO(q:PM D->PM D)(qe:aH->PM PV):aH->PM PV:=fun r i Q E=>q (fun i1 Q1 E1=>qe r i1 (fun x i2=>match x.frz with
 |some d=>Q1 d i2
 |none=>False) E1) i (fun d i1=>Q (.fr d) i1) E
theorem Ah{mI:M CV->M CV}{qI:PM D->PM D}{t:Nat}{xd:Str}(hI:aki mI qI)(ht:Tabs.l[t]?=some xd)(he:∀{A0},dI g A0 me qe):dI g A0 (Ar t xd mI me) (afO qI qe):=⟨fun w S ρ r i a hr Q E hq=>by
 have am:=hr.amb a
 rw[arT (am.tabAt ht)]
 refine Rn.frd (hI.run g (Ow A0 w) S i (me ρ) _ am ⟨fun B S1 i1 hB1 hB2 a1=>?_⟩) Q E hq
 -- the frame of the lambda, with what the callee owns left out
 have eB:∀n,Ow (fun n=>B n/\∀j,w j≠some n) w n↔B n:=fun n=>⟨fun z=>z.elim (·.1) fun⟨j,ej⟩=>hB2 n (.inr ⟨j,ej⟩),fun z=>by
  by_cases h:∃j,w j=some n
  ·exact .inr h
  ·exact .inl ⟨z,fun j ej=>h ⟨j,ej⟩⟩⟩
 have wn:∀j,w j≠some g.p:=fun j ej=>(hr.out j _ ej).1 a.pin
 have wc:∀j,w j≠some g.c:=fun j ej=>(hr.out j _ ej).1 a.pic
 have ex:Ext g.p S S1:=a1.ext
 have kp:Kp (Ow A0 w) S (Ow (fun n=>B n/\∀j,w j≠some n) w) S1:=fun n o hn e=>by
  refine⟨ex n o (fun z=>hn (.inl (z▸a.pin))) e,fun z=>?_⟩
  rcases hB1 n ((eB n).mp z) with h|h
  ·exact hn h
  ·have:S.length<=n:=h
   have:=(aa.mp e).1;omega
 have am1:Amb g (fun n=>B n/\∀j,w j≠some n) i1 S1:=⟨a1.pen,⟨hB2 _ (.inl a.pin),wn⟩,⟨hB2 _ (.inl a.pic),wc⟩,fun n hn=>a1.lt n hn.1,a.ext.trans ex,a.tab⟩
 have hr1:cU g (fun n=>B n/\∀j,w j≠some n) w S1 ρ r:=by
  refine⟨hr.len,fun j pv hj=>?_,hr.inj,fun j n ej=>⟨fun z=>z.2 j ej,a1.lt n (hB2 n (.inr ⟨j,ej⟩))⟩,hr.new,hr.fin⟩
  obtain⟨v,h1,h2⟩:=hr.at_ j pv hj
  refine⟨v,h1,?_⟩
  cases pv with
  |fr d=>exact DV.mono kp h2
  |ow d=>
   obtain⟨n,e1,e2,eo,r⟩:=h2
   exact⟨n,e1,e2,eo,DO.mono kp (fun o eo=>ex n o (fun z=>wn j (z▸e2)) eo) r⟩
  |bo d=>
   obtain⟨n,e1,e2,e3,r⟩:=h2
   exact⟨n,e1,e2,e3,TB.mono kp (fun o eo=>ex n o e2 eo) r⟩
  |pen=>exact h2
 intro Q1 E1 hq1
 have hl:=hr1.lt am1
 refine(he.run w S1 ρ r i1 am1 hr1 _ _ hq1).imp (fun v S2 ⟨pv,i2,k1,k2,k3,k4⟩=>?_) fun c fs S2 ⟨gs,i2,k1,k2,k3,k4⟩=>⟨gs,i2,k1,k2.mono (Kp.less fun n hn=>(eB n).mpr hn),k3,k4⟩
 dsimp only at k1
 cases ef:pv.frz with
 |none=>rw[ef]at k1;exact k1.elim
 |some d=>
  rw[ef]at k1
  exact⟨d,i2,k1,(VR.frz hl k2 ef).mono (Kp.less fun n hn=>(eB n).mpr hn),k3,k4⟩⟩
end
section
variable [Tabs]{α β:Type}{g:Gh}{A A' A0:AS}{S S' S1 S2:Sto}{v u:CV}{d e:D}{xs:List CV}{ds:List D}{ps:List PV}{n p n0 j k:Nat}{i i':Int}{pv:PV}{w w' w1 w2:Nat->Option Nat}{ρ ρ':Rho}{r r':aH}
variable {ma mb mc me mo:Rho->M CV}{qa qb qc qe qo:aH->PM PV}{ms:Rho->M (List CV)}{qs:aH->PM (List PV)}{m1 m2:Rho->M CF}{q1 q2:aH->PMS}{m:List CV->M CV}{q:List PV->PM D}
/-- a number below many -/
def ac0:List PV->PM D:=fun ps i Q _=>match ps with
 | [.pen,.fr (.int n)]=>gd (i<1048576/\0<n/\n<1606938044258990275541962092341162602522202993782792835301376) (∀d:Int,0<=d->d<n->Q (.int d) (i+1))
 |_=>False
theorem amm(h:∀{S:Sto}{p c:Nat}{T n:Int}{cells:List Int},jY p c cells T S->T<2 ^ 20->0<n->n<1606938044258990275541962092341162602522202993782792835301376->
    Wp (m [.ref p,.int n] S) (fun v S'=>∃d,v=.int d/\0<=d/\d<n/\jY p c cells (T+1) S'/\Ext p S S') NoE):dJ m ac0:=⟨fun g A S xs ps i a hx Q E hq=>by
  unfold ac0 at hq
  split at hq
  · obtain⟨⟨h1,h2,h3⟩,hq⟩:=cQ.mp hq
    cases hx with
    |cons x1 hx=>cases hx with
     |cons x2 hx=>
      cases hx
      cases x1
      cases x2
      exact(h a.pen h1 h2 h3).imp (fun v S1 ⟨d,e,k1,k2,k3,k4⟩=>⟨.int d,i+1,hq d k1 k2,by subst e;exact .int d,k3,k4⟩) fun _ _ _ z=>z.elim
  · exact hq.elim⟩
theorem amk(h:dJ m q)(hl:∀{ps i Q E},q ps i Q E->ps.length=k):dJ (app k m) q:=⟨fun g A S xs ps i a hx Q E hq=>by
 rw[Ck,if_pos (by rw[hx.length];exact hl hq)]
 exact h.run g A S xs ps i a hx Q E hq⟩
theorem alm{i:Int}{Q:D->Int->Prop}{E:XP}(h:ac0 ps i Q E):ps.length=2:=by
 unfold ac0 at h
 split at h
 ·rfl
 ·exact h.elim
theorem arh{c:Str}(h:dJ m q)(ha:Oh g A0 ms qs):dI g A0 (aqw c m (mC (.cls c)) ms) (dM q qs):=⟨fun w S ρ r i a hr Q E hq=>by
 rw[aod]
 have:=(Ql h ha).run w S ρ r i a hr Q E hq
 rw[show Wp (bnd (ms ρ) m S) _ _=_ from bW]at this
 exact this⟩
theorem pY{c:Str}(h:dJ (yQ c k m) q)(ha:Oh g A0 ms qs):dI g A0 (mMk c k m ms) (dM q qs):=Ql h ha
theorem arj{c:Str}{nk:Nat}{ix:List Nat}(h:dJ (Pb c k nk ix m) q)(ha:Oh g A0 ms qs):dI g A0 (au4 c k nk ix m ms) (dM q qs):=Ql h ha
theorem ai9{c:Str}{ix ix':List Nat}{nk:Nat}(h:dJ (yQ c k m) q)(hx0:(ix.all fun j=>decide (0<j))=true)(hix:ix.map (· -1)=ix'):dJ (Pb c k nk (0::ix) m) (pKw nk ix' q):=⟨fun g A S xs ps i a hx Q E hq0=>by
 obtain⟨hl,hq⟩:=cQ.mp hq0
 have hp:∀j∈ix,0<j:=fun j hj=>of_decide_eq_true (cg.mp hx0 j hj)
 have e:Pb c k nk (0::ix) m xs S=yQ c k m (sel ix' xs) S:=by
  unfold Pb yQ abO
  rw[if_pos ⟨rfl,by rw[hx.length];exact hl⟩]
  show(app k m (CV.ref S.length::sel ix (CV.ref S.length::xs)) _).bnd _=_
  rw[aeN hp,hix]<;>rfl
 rw[e]
 exact h.run g A S _ _ i a (hx.sel _) Q E hq⟩
theorem dN(h:dJ (app k m) q)(ha:Oh g A0 ms qs):dI g A0 (mAp k m ms) (dM q qs):=Ql h ha
inductive am6:List (Str×Nat×(List CV->M CV))->List (Str×(List PV->PM D))->Prop where
 |nil:am6 [] []
 |cons {c:Str} {k:Nat} {m:List CV->M CV} {q:List PV->PM D} {l:List (Str×Nat×(List CV->M CV))} {l':List (Str×(List PV->PM D))} (h:dJ (yQ c k m) q) (t:am6 l l'):am6 ((c,k,m)::l) ((c,q)::l')
theorem am6.look{c:Str}:∀{l:List (Str×Nat×(List CV->M CV))}{l':List (Str×(List PV->PM D))},am6 l l'->match l'.lookup c with|some q=>∃x,l.lookup c=some x/\dJ (yQ c x.1 x.2) q|none=>True
 |_,_,.nil=>trivial
 |_,_,.cons (c:=c') h t=>by
  unfold dS
  by_cases e:(c==c')=true
  ·rw[e];exact⟨_,rfl,by rw[eq_of_beq e];exact h⟩
  ·rw[hM]at e
   rw[e];exact am6.look t
end
/-- the pen of the law is made; the law runs -/
theorem alQ(tabs:List Str){N:Nat}{mp:List CV->M CV}{m1:Rho->M CF}{q1:aH->PMS}{ns:List Int}(ays:letI:Tabs:=⟨tabs⟩; ∀{g A0},iZ g A0 m1 q1)
    (U6:∀S:Sto,∃cells:List Int,cells.length<=63/\mp [.scr ns] S=.ok (.ref (S.length+2)) (S++[.lst (cells.map .int),.lst (cells.map .int),.lst [.ref (S.length+1),.int 0,.int 0]]))
    (hq:q1 (startP N [.fr (.scr ns),.pen]) 0 (ahW (fun d _=>d=.bl true) NoX))(hN:2<=N):
    ∃S',nR N (cJ (d9 (mAp 1 mp (au (aK 0) aN)) (gN 1)) m1) [.scr ns] (tabs.map .tab)=.ok (.bl true) S':=by
  letI:Tabs:=⟨tabs⟩
  obtain⟨cells,hc,he⟩:=U6 (tabs.map .tab)
  have key:Wp (nR N (cJ (d9 (mAp 1 mp (au (aK 0) aN)) (gN 1)) m1) [.scr ns] (tabs.map .tab)) (fun v _=>v=.bl true) NoE:=by
    rw[wp_run,wp_seq,Ln,ZC,yu,xU]
    have e0:(iG N [.scr ns])[0]?=some (some (.scr ns)):=rfl
    rw[e0]
    dsimp only
    rw[G7,Ck,if_pos (show[CV.scr ns].length=1 from rfl),he,T5,ZD,FW]
    have hl:(tabs.map CO.tab).length=tabs.length:=by simp
    generalize eS:(tabs.map CO.tab)++[.lst (cells.map .int),.lst (cells.map .int),.lst [.ref ((tabs.map CO.tab).length+1),.int 0,.int 0]]=S
    rw[hl]
    rw[hl]at eS
    have sl:S.length=tabs.length+3:=by rw[<-eS];simp
    have g1:S[tabs.length+1]?=some (.lst (cells.map .int)):=by rw[<-eS, <-hl];exact Qc (k:=1)
    have g2:S[tabs.length+2]?=some (.lst [.ref (tabs.length+1),.int 0,.int 0]):=by rw[<-eS, <-hl];exact Qc (k:=2)
    let g:Gh:=⟨tabs.length+2,tabs.length+1,cells,S,0,fun _=>none⟩
    have a:Amb g (fun n=>n=tabs.length+2\/n=tabs.length+1) 0 S:=by
      refine⟨⟨0,0,g2,g1,by omega,by omega,by omega,by show tabs.length+2≠tabs.length+1;omega,hc⟩,.inl rfl,.inr rfl,fun n hn=>by rcases hn with rfl|rfl<;>omega,Ext.refl,fun k x hk=>?_⟩
      have hk':tabs[k]?=some x:=hk
      have hlt:=(aa.mp hk').1
      refine⟨by show k≠tabs.length+2;omega,?_⟩
      show S[k]?=_
      rw[<-eS]
      refine iK ?_
      rw[bu,hk'];rfl
    have hr:cU g (fun n=>n=tabs.length+2\/n=tabs.length+1) (fun _=>none) S ((iG N [.scr ns]).set 1 (some (.ref (tabs.length+2)))) (startP N [.fr (.scr ns),.pen]):=by
      have k1:iG N [.scr ns]=some (.scr ns)::none::bN (N-2) none:=by
        unfold iG
        obtain⟨M,rfl⟩:∃M,N=M+2:=⟨N-2,by omega⟩
        rfl
      have k2:startP N [.fr (.scr ns),.pen]=some (.fr (.scr ns))::some .pen::bN (N-2) none:=rfl
      rw[k1,k2]
      refine⟨by simp,fun j pv hj=>?_,fun _ _ _ e=>(nomatch e),fun _ _ e=>(nomatch e),fun _ _ e=>(nomatch e),⟨0,fun _ _=>rfl⟩⟩
      match j,hj with
      |0,hj=>cases hj;exact⟨_,rfl,DV.scr ns⟩
      |1,hj=>cases hj;exact⟨_,rfl,rfl⟩
      |j+2,hj=>
       rw[bS,bS,fA]at hj
       split at hj<;>cases hj
    refine(ays.run _ S _ _ 0 a hr _ hq).imp (fun cf S1 ⟨pc,i1,h1,h2,h3⟩=>?_) fun _ _ _ z=>z
    cases cf with
    |nx ρ=>cases pc with
     |nx r=>exact(nomatch h1)
     |_=>exact h2.elim
    |rt v=>cases pc with
     |rt d=>
      obtain⟨hd,w',st⟩:=h2
      have:d=.bl true:=h1
      subst this
      cases hd;rfl
     |_=>exact h2.elim
    |xc c fs ρ=>cases pc with
     |xc c' gs r=>exact(h1:False).elim
     |_=>exact h2.elim
    |_=>cases pc<;>first|exact h2.elim|exact(h1:False).elim
  obtain⟨v,S',e,rfl⟩:=key.ex
  exact⟨S',e⟩
section
variable [Tabs]{g:Gh}{A0 A:AS}{S:Sto}{v:CV}{d:D}{n0:Nat}
theorem DVs.sel{xs:List CV}{ds:List D}(h:DVs A S xs ds):∀ix:List Nat,DVs A S (sel ix xs) (sel ix ds)
 | []=>.nil
 |j::ix=>by
  have ih:=DVs.sel h ix
  unfold MW.sel at ih ⊢
  rw[bc,bc]
  cases e:ds[j]? with
  |none=>
   have:xs[j]?=none:=by
    rw[gZ]at e ⊢
    rw[h.length];exact e
   rw[this];exact ih
  |some d=>
   obtain⟨v,hv,hd⟩:=h.get e
   rw[hv];exact .cons hd ih
theorem DVs.pairUp:∀{xs:List CV}{ds:List D},DVs A S xs ds->DVp A S (pairUp xs) (pairUp ds)
 |_,_,.nil=>.nil
 |_,_,.cons _ .nil=>.nil
 |_,_,.cons h1 (.cons h2 r)=>.cons h1 h2 (DVs.pairUp r)
def axJ:D->Option Key
 |.int i=>some (.inl i)
 |.str x=>some (.inr x)
 |_=>none
theorem aps(h:DV A S v d):ckey v=axJ d:=by cases h<;>rfl
def acB(kvs:List (D×D)):Option (List Key):=kvs.mapM fun p=>axJ p.1
theorem aec:∀{xs:List (CV×CV)}{ds:List (D×D)},DVp A S xs ds->acA xs=acB ds
 |_,_,.nil=>rfl
 |_,_,.cons h1 h2 r=>by
  have ih:=aec r
  unfold acA acB at ih ⊢
  rw[bb,bb,ih,aps h1]
def aol(ds:List D):Option Bool:=(acB (pairUp ds)).map keysOk
def Jz(qs:aH->PM (List PV)):aH->PM PV:=fun r i Q E=>qs r i (fun x i1=>match frzs x with|some ds=>gd (aol ds=some true) (Q (.ow (.dic (pairUp ds))) i1)|none=>False) E
theorem VR.newD{xs:List (CV×CV)}{ds:List (D×D)}(hx:DVp A S xs ds)(hn:n0<=S.length):VR g A n0 (S++[.dic xs]) (.ref S.length) (.ow (.dic ds)):=
 ⟨_,rfl,hn,xs,pq,hx.mono ((Kp.fresh (ba _)).trans Kp.app)⟩
theorem oY{ms:Rho->M (List CV)}{qs:aH->PM (List PV)}(ha:Oh g A0 ms qs):dI g A0 (Aq ms) (Jz qs):=⟨fun w S ρ r i a hr=>by
 refine(Rn.bnd (q':=fun(x:List PV) i1 (Q:PV->Int->Prop) (_:XP)=>match frzs x with|some ds=>gd (aol ds=some true) (Q (.ow (.dic (pairUp ds))) i1)|none=>False) (hr.amb a) (ha.run w S ρ r i a hr) fun x S1 px i1 hx a1 e1=>?_:Rn g (Ow A0 w) _ S _ _)
 cases e:frzs px with
 |none=>exact Rn.no
 |some ds=>
  have hd:=hx.frzs (hr.lt a) e
  intro Q E hq0
  obtain⟨h1,h2⟩:=cQ.mp hq0
  unfold acR
  rw[aec hd.pairUp]
  unfold aol at h1
  cases ek:acB (pairUp ds) with
  |none=>rw[ek]at h1;cases h1
  |some ks=>
   rw[ek]at h1
   cases h1':keysOk ks with
   |false=>rw[Option.map_some,h1']at h1;cases h1
   |true=>
    dsimp only
    rw[if_pos h1']
    exact Rn.new (R:=fun S'=>VR g (Ow A0 w) S.length S') a1.pen (VR.newD hd.pairUp (a.len a1.pen e1)) Q E h2⟩
end
/-- what bears this is not looked into -/
structure Frz{α:Type}(a:α):Type where
abbrev aym{α:Type}{a:α}:Frz a:=Frz.mk
def ayl(r:aH)(F:aH->Prop)(fz:Frz F:=aym):Prop:=F r
theorem Qv{r:aH}{i:Int}{K:PC->Int->Prop}{j:Nat}{b:aH->PMS}{d:D}{ds:List D}:qY (tN j) b (d::ds) r i K=ayl (r.set j (some (.fr d))) fun r=>b r i (pFK (fun r2 i2=>qY (tN j) b ds r2 i2 K) K):=rfl
theorem mapM_some{α β:Type}{f g:α->Option β}:∀{xs:List α}{ys:List β},xs.mapM f=some ys->(∀x∈xs,∀y,f x=some y->g x=some y)->xs.mapM g=some ys
 | [],ys,h,_=>by rw[List.mapM_nil]at h ⊢;exact h
 |x::xs,ys,h,k=>by
  rw[bb]at h ⊢
  cases e:f x with
  |none=>rw[e]at h;cases h
  |some y=>
   rw[e]at h
   rw[k x af y e]
   cases e2:xs.mapM f with
   |none=>rw[e2]at h;cases h
   |some l=>
    rw[e2]at h
    rw[mapM_some e2 fun z hz=>k z (ag _ hz)]
    exact h
theorem Xw:∀{n m:Nat}{d:D}{y:PyData},trP n d=some y->n<=m->trP m d=some y
 |0,m,d,y,h,_=>by cases h
 |n+1,0,d,y,h,hl=>by omega
 |n+1,m+1,d,y,h,hl=>by
  have ih:∀{d:D}{y:PyData},trP n d=some y->trP m d=some y:=fun h=>Xw h (by omega)
  unfold trP at h ⊢
  cases d<;>dsimp only at h ⊢ <;>first|exact h|skip
  ·rename_i xs
   cases e:xs.mapM (trP n) with
   |none=>rw[e]at h;cases h
   |some l=>rw[e]at h;rw[mapM_some e fun x _ y hy=>ih hy];exact h
  ·rename_i xs
   cases e:xs.mapM (trP n) with
   |none=>rw[e]at h;cases h
   |some l=>rw[e]at h;rw[mapM_some e fun x _ y hy=>ih hy];exact h
  ·rename_i xs
   cases e:xs.mapM (Qh (trP n)) with
   |none=>rw[e]at h;cases h
   |some l=>
    rw[e]at h
    rw[mapM_some e fun x _ y hy=>?_];exact h
    unfold Qh at hy ⊢
    cases e1:arF x.1 with
    |none=>rw[e1]at hy;cases hy
    |some k=>
     cases e2:trP n x.2 with
     |none=>rw[e1,e2]at hy;cases hy
     |some z=>rw[e1,e2]at hy;rw[ih e2];exact hy
/-- d can be written out, at most e deep, with at most k signs -/
structure SmP(e k:Nat)(d:D):Prop where
 ex:∃y,trP e d=some y/\smB e k y=true
def aya(e k:Nat)(d:D):Bool:=match trP e d with
 |some y=>smB e k y
 |none=>false
theorem SmP.of{e k:Nat}{d:D}(h:aya e k d=true):SmP e k d:=by
 unfold aya at h
 cases e1:trP e d with
 |none=>rw[e1]at h;cases h
 |some y=>rw[e1]at h;exact⟨y,e1,h⟩
theorem SmP.mono{e k e' k':Nat}{d:D}(h:SmP e k d)(he:e<=e')(hk:k<=k'):SmP e' k' d:=by
 obtain⟨y,h1,h2⟩:=h
 exact⟨y,Xw h1 he,aib h2 he hk⟩
theorem SmP.all{e k:Nat}:∀{xs:List D},(∀x∈xs,SmP e k x)->∃ys,xs.mapM (trP e)=some ys/\ys.length=xs.length/\∀y∈ys,smB e k y=true
 | [],_=>⟨[],rfl,rfl,fun _ h=>nomatch h⟩
 |x::xs,h=>by
  obtain⟨ys,h1,h2,h3⟩:=SmP.all fun z hz=>h z (ag _ hz)
  obtain⟨y,k1,k2⟩:=h x af
  refine⟨y::ys,by rw[bb,k1,h1];rfl,by simp[h2],fun z hz=>?_⟩
  rcases av.mp hz with rfl|hz
  ·exact k2
  ·exact h3 z hz
theorem SmP.tup{e k n:Nat}{xs:List D}(h:∀x∈xs,SmP e k x)(hn:xs.length<=n):SmP (e+1) (k*n+2*n+3) (.tup xs):=by
 obtain⟨ys,h1,h2,h3⟩:=SmP.all h
 exact⟨.tuple ys,by show(xs.mapM (trP e)).map _=_;rw[h1];rfl,auq h3 (by omega)⟩
theorem SmP.lst{e k n:Nat}{xs:List D}(h:∀x∈xs,SmP e k x)(hn:xs.length<=n):SmP (e+1) (k*n+2*n+3) (.lst xs):=by
 obtain⟨ys,h1,h2,h3⟩:=SmP.all h
 exact⟨.list ys,by show(xs.mapM (trP e)).map _=_;rw[h1];rfl,aup h3 (by omega)⟩
theorem SmP.repr{e k:Nat}{d:D}(h:SmP e k d)(hb:asl d=true)(he:e<=40)(hk:k<=16777216):∃s,wL d=some (.str s):=by
 obtain⟨y,h1,h2⟩:=h
 refine⟨y.shown,?_⟩
 unfold wL
 rw[if_pos hb,Xw h1 he]
 dsimp only
 rw[if_pos (axb h2 (by omega) hk)]
theorem Pn.ok{k:Nat}{s:Str}(h:Pn k s):PyData.strOk s=true:=by
 show s.cps.all (· <0x110000)=true
 rw[<-lj,cg]
 intro c hc
 have:=h.chs c hc
 exact decide_eq_true (by omega)
theorem V9{c:Prop}[Decidable c]{p:Prop}(h:c):gd c p=p:=aop.trans (propext ⟨fun z=>z.2,fun z=>⟨h,z⟩⟩)
theorem wF{c:Prop}[Decidable c]{p:Prop}(h:c)(hp:p):gd c p:=(V9 h).mpr hp
/-- a draw -/
theorem dr{n i:Int}{Q:D->Int->Prop}{E:XP}(hi:i<1048576)(h0:0<n)(h1:n<1606938044258990275541962092341162602522202993782792835301376)(h:∀d:Int,0<=d->d<n->Q (.int d) (i+1)):ac0 [.pen,.fr (.int n)] i Q E:=wF ⟨hi,h0,h1⟩ h
theorem Pn.shown{k:Nat}{s:Str}(h:Pn k s):(reprText s).length<=10*k+2:=by
 have:=StrLaws.reprText_len s fun c hc=>by have:=h.chs c hc;omega
 have:=h.len
 omega
theorem SmP.str{k:Nat}{s:Str}(h:Pn k s):SmP 1 (10*k+2) (.str s):=
 ⟨.str s,rfl,v9.mpr ⟨by simp[PyData.showable],by simp[PyData.depth],by simp only[PyData.shown];exact h.shown⟩⟩
theorem SmP.int{k:Nat}{d:Int}(hk:0<k)(hk2:k<=400)(h:d.natAbs<10 ^ k):SmP 1 (k+1) (.int d):=by
 refine⟨.int d,rfl,v9.mpr ⟨?_,?_,?_⟩⟩
 ·simp only[PyData.showable,decide_eq_true_eq]
  by_cases h0:d.natAbs=0
  ·rw[h0];decide
  ·refine(Nat.log2_lt h0).mpr (cL h ?_)
   refine a9 (iF (by decide) hk2) ?_
   exact kG (by decide+kernel)
 ·simp[PyData.depth]
 ·simp only[PyData.shown]
  have h2:=int_text_length_le10 (a:=d) hk h
  rw[PySem.ofString_length];exact h2
theorem SmP.bl{b:Bool}:SmP 1 5 (.bl b):=by cases b<;>exact SmP.of (by decide+kernel)
theorem SmP.non:SmP 1 5 .non:=SmP.of (by decide+kernel)
def ab8(k:Nat)(s:Str):Bool:=decide (s.length<=k)&&s.cps.toList.all fun c=>decide (c<128)
theorem Pn.of{k:Nat}{s:Str}(h:ab8 k s=true):Pn k s:=by
 unfold ab8 at h
 simp only[aB,decide_eq_true_eq,cg]at h
 exact⟨h.1,h.2⟩
section
variable [Tabs]{g:Gh}{A A0:AS}{S S1:Sto}{me:Rho->M CV}{qe:aH->PM PV}{ms:Rho->M (List CV)}{qs:aH->PM (List PV)}{m:List CV->M CV}{q:List PV->PM D}
theorem VRs.app{n0:Nat}{xs ys:List CV}{ps qs:List PV}(h:VRs g A n0 S ys qs):∀{xs:List CV}{ps:List PV},VRs g A n0 S xs ps->VRs g A n0 S (xs++ys) (ps++qs)
 |_,_,.nil=>h
 |_,_,.cons x r=>.cons x (VRs.app (xs:=ys) (ps:=qs) h r)
end
variable [Tabs]
theorem dJ.weak{m:List CV->M CV}{p s:List PV->PM D}(h:dJ m p)(w:∀ps i Q E,s ps i Q E->p ps i Q E):dJ m s:=
 ⟨fun g A S xs ps i a hx Q E q=>h.run g A S xs ps i a hx Q E (w ps i Q E q)⟩
theorem dO.weak{m:CV->CV->M CV}{p s:PV->PV->PM PV}(h:dO m p)(w:∀x y i Q E,s x y i Q E->p x y i Q E):dO m s:=
 ⟨fun g A n0 S x y px py i a h0 hA hn hx hy Q E q=>h.run g A n0 S x y px py i a h0 hA hn hx hy Q E (w px py i Q E q)⟩
theorem Fo.weak{m:CV->M CV}{p s:PV->PM PV}(h:Fo m p)(w:∀x i Q E,s x i Q E->p x i Q E):Fo m s:=
 ⟨fun g A n0 S x px i a h0 hA hn hx Q E q=>h.run g A n0 S x px i a h0 hA hn hx Q E (w px i Q E q)⟩
/-- a word: 1 to 8 letters -/
structure axE(w:Str):Prop where
 pos:1<=w.length
 len:w.length<=8
 chs:∀c∈w.cps.toList,97<=c/\c<=122
variable [Tabs]
def oq(p:List PV->PM D):List PV->PM D:=fun ps i Q E=>Opq (p ps i Q E)
def oqO(p:PV->PV->PM PV):PV->PV->PM PV:=fun x y i Q E=>Opq (p x y i Q E)
def oqU(p:PV->PM PV):PV->PM PV:=fun x i Q E=>Opq (p x i Q E)
def oqB(p:PV->List PV->PM PV):PV->List PV->PM PV:=fun x ps i Q E=>Opq (p x ps i Q E)
/-- a place between statements -/
def jh(q:aH->PMS):aH->PMS:=fun r i Q=>Opq (q r i Q)
theorem bR{g:Gh}{A0:AS}{m:Rho->M CF}{q:aH->PMS}(h:iZ g A0 m q):iZ g A0 m (jh q):=⟨fun w S ρ r i a hr Q z=>h.run w S ρ r i a hr Q z.run⟩
theorem dJ.oq{m:List CV->M CV}{p:List PV->PM D}(h:dJ m p):dJ m (oq p):=h.weak fun _ _ _ _ z=>z.run
theorem dO.oq{m:CV->CV->M CV}{p:PV->PV->PM PV}(h:dO m p):dO m (oqO p):=h.weak fun _ _ _ _ _ z=>z.run
theorem Fo.oq{m:CV->M CV}{p:PV->PM PV}(h:Fo m p):Fo m (oqU p):=h.weak fun _ _ _ _ z=>z.run
theorem am4.oq{m:CV->List CV->M CV}{p:PV->List PV->PM PV}(h:am4 m p):am4 m (oqB p):=⟨fun g A n0 S x px xs ps i a h0 hA hn hx hxs Q E hq=>h.run g A n0 S x px xs ps i a h0 hA hn hx hxs Q E hq.run⟩
theorem NP{g:Gh}{A0:AS}{mo:Rho->M CV}{ms:Rho->M (List CV)}{qo:aH->PM PV}{qs:aH->PM (List PV)}(ho:dI g A0 mo qo)(hs:Oh g A0 ms qs):dI g A0 (mBM "str" zP mo ms) (pBM uM (oqB GF) qo qs):=ag1 Rq aeP.oq.run ho hs
theorem Bc.oq1{m:List CV->M CV}{q:PV->PM PV}(h:Bc m (pF1 q)):Bc m (pF1 (oqU q)):=⟨fun g A n0 S xs ps i a h0 hA hn hx Q E hq=>h.run g A n0 S xs ps i a h0 hA hn hx Q E (by
 unfold pF1 at hq ⊢
 split at hq
 ·exact hq.run
 ·exact hq)⟩
section
variable {Q:PV->Int->Prop}{E:XP}{i:Int}
theorem Xp{x:PV}{d:D}(hx:x.rd=some d)(hz:∃s,wL d=some (.str s))(k:∀s,wL d=some (.str s)->Q (.fr (.str s)) i):p1 wL x i Q E:=by
 obtain⟨s,h⟩:=hz
 unfold p1
 rw[hx]
 dsimp only
 rw[h]
 exact k s h
theorem ah1{x:PV}{d:D}{s:Str}(hz:wL d=some (.str s))(hx:x.rd=some d)(k:Q (.fr (.str s)) i):p1 wL x i Q E:=by
 unfold p1
 rw[hx]
 dsimp only
 rw[hz]
 exact k
theorem Qw{y:Str}(h:y.length<=sizeLine)(k:Q (.fr (.str y)) i):p1 aef (.fr (.str y)) i Q E:=by
 show(match (if y.length<=sizeLine then some (D.str y) else none) with|some e=>Q (.fr e) i|none=>False)
 rw[if_pos h];exact k
/-- the text of a number -/
def iT(n:Int):Str:=(toString n:String)
theorem log2_small{n:Int}(h:n.natAbs<2 ^ 1900):n.natAbs.log2<1920:=by
 by_cases h0:n.natAbs=0
 ·rw[h0];decide
 ·exact(Nat.log2_lt h0).mpr (cL h (iF (by decide) (by decide)))
theorem apH{n:Int}(h:n.natAbs<2 ^ 1900)(k:Q (.fr (.str (iT n))) i):p1 aef (.fr (.int n)) i Q E:=by
 show(match (if n.natAbs.log2<1920 then some (D.str (iT n)) else none) with|some e=>Q (.fr e) i|none=>False)
 rw[if_pos (log2_small h)];exact k
theorem amx{n:Int}(h:n.natAbs<2 ^ 1900)(k:Q (.fr (.str (iT n))) i):p1 akd (.fr (.int n)) i Q E:=by
 show(match (if n.natAbs.log2<1920 then some (D.str (iT n)) else none) with|some e=>Q (.fr e) i|none=>False)
 rw[if_pos (log2_small h)];exact k
theorem str_int{tbl:List (Str×(List PV->PM D))}{n:Int}(h:n.natAbs<2 ^ 1900)(k:Q (.fr (.str (iT n))) i):U7 tbl (.fr (.int n)) i Q E:=amx (E:=E) h k
theorem ahc{α:Type}{l:List α}{d:Int}(h0:0<=d)(h1:d<l.length):∃x,x∈l/\atI l d=some x:=by
 obtain⟨n,rfl⟩:∃n:Nat,d=n:=⟨d.toNat,by omega⟩
 have hn:n<l.length:=by omega
 refine⟨l[n],List.getElem_mem hn,?_⟩
 rw[atI_nat h0 h1,eP]
 exact ay hn
theorem atH{a:PV}{ds:List D}{d:Int}(ha:a.rd=some (.lst ds))(h0:0<=d)(h1:d<ds.length)(k:∀x∈ds,Q (.fr x) i):pIx a (.fr (.int d)) i Q E:=by
 obtain⟨x,hx,e⟩:=ahc h0 h1
 unfold pIx
 rw[ha,show PV.rd (.fr (.int d))=some (.int d) from rfl]
 dsimp only
 rw[e]
 exact k x hx
theorem Xr{a b:Str}(hb:(b.length==0)=false)(ha:a.length+2<=sizeLine)(k:Q (.ow (.lst ((Txt.split a b).map .str))) i):GF (.fr (.str a)) [.fr (.str b)] i Q E:=wF ⟨hb,ha⟩ k
theorem ahG{x:PV}{a:Str}{zs:List D}{ys:List Str}(hx:x.rd=some (.lst zs))(hz:uZ zs=some ys)(hl:(ys.map (·.length)).sum+ys.length*a.length<=16777216)(k:Q (.fr (.str (Txt.join a ys))) i):ac1 (.fr (.str a)) [x] i Q E:=by
 unfold ac1
 dsimp only
 rw[hx]
 dsimp only
 rw[hz]
 exact wF hl k
variable {tbl:List (Str×(List PV->PM D))}{cs:List (Str×Str)}{bs:List Str}
theorem apE{a b:Str}(h:a=b)(k:Q (.fr (.bl true)) i):cC tbl cs bs id (p2 (jM false)) (.fr (.str a)) (.fr (.str b)) i Q E:=by
 subst h
 show Q (.fr (.bl (false !=(a==a)))) i
 rw[beq_self_eq_true];exact k
theorem QW{a b:Str}{f:Bool->Bool}(h:a=b)(k:Q (.fr (.bl false)) i):cC tbl cs bs f (p2 (jM true)) (.fr (.str a)) (.fr (.str b)) i Q E:=by
 subst h
 show Q (.fr (.bl (true !=(a==a)))) i
 rw[beq_self_eq_true];exact k
def noObj:D->Bool
 |.obj _ _=>false
 |_=>true
theorem O7{x y:PV}{d e:D}{b:Bool}(hx:x.rd=some d)(hy:y.rd=some e)(hn:noObj d=true)(h:U5 d e=some b)(k:Q (.fr (.bl b)) i):cC tbl cs bs id (p2 (jM false)) x y i Q E:=by
 unfold cC p2 jM
 rw[hx,hy]
 cases d with
 |obj _ _=>cases hn
 |_=>dsimp only;rw[h];cases b<;>exact k
theorem zK{x y:PV}{d e:D}{b:Bool}{f:Bool->Bool}(hx:x.rd=some d)(hy:y.rd=some e)(hn:noObj d=true)(h:U5 d e=some b)(k:Q (.fr (.bl (!b))) i):cC tbl cs bs f (p2 (jM true)) x y i Q E:=by
 unfold cC p2 jM
 rw[hx,hy]
 cases d with
 |obj _ _=>cases hn
 |_=>dsimp only;rw[h];cases b<;>exact k
end
def zp(t:D->aH->Option aH)(qt:aH->PM Bool)(qe:aH->PM PV)(r:aH)(d:D)(j:Int)(K:Option D->Int->Prop):Prop:=match t d r with
 |some r1=>qt r1 j (fun b i1=>cond b (qe r1 i1 (fun x i2=>match x.frz with
  |some y=>K (some y) i2
  |none=>False) NoX) (K none i1)) NoX
 |none=>False
section
variable {t:D->aH->Option aH}{qt:aH->PM Bool}{qe:aH->PM PV}{r:aH}
theorem ahL{d:D}{ds acc:List D}{i:Int}{Q:List D->Int->Prop}:Ay t qt qe r (d::ds) acc i Q=zp t qt qe r d i fun o i2=>match o with
    |some y=>gd (acc.length<sizeLine) (Ay t qt qe r ds (acc++[y]) i2 Q)
    |none=>Ay t qt qe r ds acc i2 Q:=rfl
/-- each turn draws, at most c times -/
theorem asp{P:D->Prop}{c i0 i1:Int}{Q:List D->Int->Prop}(hc:0<=c):∀{ds acc:List D}{i:Int},acc.length+ds.length<=1000000->i0<=i->i+c*ds.length<=i1->
    (∀d∈ds,∀j,i0<=j->j+c<=i1->∀K:Option D->Int->Prop,(∀x j2,P x->j<=j2->j2<=j+c->K (some x) j2)->zp t qt qe r d j K)->
    (∀xs j2,xs.length=ds.length->(∀x∈xs,P x)->i<=j2->j2<=i1->Q (acc++xs) j2)->Ay t qt qe r ds acc i Q
  | [],acc,i,hl,h0,h1,h,k=>by
    have:=k [] i rfl (fun x hx=>nomatch hx) (Int.le_refl _) (by simpa using h1)
    rw[aT]at this
    exact this
  |d::ds,acc,i,hl,h0,h1,h,k=>by
   rw[ai]at hl h1
   have hm:c*((ds.length+1:Nat):Int)=c*ds.length+c:=by rw[Int.natCast_add,Int.mul_add];simp
   have hp:0<=c*(ds.length:Int):=Int.mul_nonneg hc (by omega)
   rw[ahL]
   refine h d af i h0 (by omega) _ fun x j2 hx hj hj2=>?_
   refine wF (by unfold sizeLine;omega) (asp hc (by rw[bg,cK];omega) (by omega) (by omega) (fun x hx=>h x (ag _ hx)) fun xs j3 h4 h5 h6 h7=>?_)
   rw[a7]
   exact k (x::xs) j3 (by rw[ai,h4,ai]) (fun y hy=>by
      rcases av.mp hy with rfl|hy
      · exact hx
      · exact h5 y hy) (by omega) h7
end
theorem wg{b:Bool}{X Y:Prop}(h1:b=true->X)(h2:b=false->Y):cond b X Y:=by
 cases b
 ·exact h2 rfl
 ·exact h1 rfl
theorem acy{b:Bool}{X Y:Prop}(h:b=true)(h1:X):cond b X Y:=by rw[h];exact h1
theorem anh{b:Bool}{X Y:Prop}(h:b=false)(h1:Y):cond b X Y:=by rw[h];exact h1
theorem lV{c:Prop}{d:Decidable c}{p:Prop}(h:c)(hp:p):@gd c d p:=wF h hp
set_option maxHeartbeats 1000000
theorem sl_le{n:Nat}(h:n<=1000000):n<=sizeLine:=by unfold sizeLine;omega
theorem JT(a b:Str):(a++b).length=a.length+b.length:=by
 show(a++b).cps.size=a.cps.size+b.cps.size
 exact kU
theorem len_cat{a b:Str}{m n:Nat}(h1:a.length<=m)(h2:b.length<=n):(a++b).length<=m+n:=by rw[JT];omega
theorem ayu:∀n:Nat,n<12->(iT n).length<=2/\1<=(iT n).length/\32∉k6 (iT n):=by decide+kernel
theorem acT{e:Int}(h:0<=e):∃n:Nat,e=n:=⟨e.toNat,by omega⟩
theorem ako{e:Int}(h:0<=e)(h2:e<=11):(iT e).length<=2/\1<=(iT e).length/\32∉k6 (iT e):=by
 obtain⟨n,rfl⟩:=acT h
 exact ayu n (by omega)
theorem small{e:Int}(h:0<=e)(h2:e<=1000000):e.natAbs<2 ^ 1900:=cL (show e.natAbs<2 ^ 20 by omega) (iF (by decide) (by decide))
theorem atF:∀n:Nat,n<12->∀m:Nat,m<12->iT n=iT m->n=m:=by decide+kernel
theorem axE.pn{w:Str}(h:axE w):Pn 8 w:=⟨h.len,fun c hc=>by have:=h.chs c hc;omega⟩
theorem ag3{n:Int}(h:0<=n)(h2:n<=1000):SmP 1 100 (.int n):=(SmP.int (k:=4) (by omega) (by omega) (by omega)).mono (by omega) (by omega)
theorem auh{xs:List D}(h:∀x∈xs,SmP 1 100 x)(hn:xs.length<=10):∃s,wL (.lst xs)=some (.str s):=(SmP.lst (n:=10) h hn).repr rfl (by omega) (by omega)
theorem zW{α:Type}{P:α->Prop}{x:α}{l:List α}(h:P x)(hl:∀y∈l,P y):∀y∈x::l,P y:=fun y hy=>by
 rcases av.mp hy with rfl|hy
 ·exact h
 ·exact hl y hy
theorem VP{α:Type}{P:α->Prop}:∀y∈([]:List α),P y:=fun y hy=>nomatch hy
theorem aie{n:Nat}{w:Str}(h:Pn n w):PyData.strOk w=true:=by
 show w.cps.all (· <0x110000)=true
 rw[<-lj,cg]
 intro c hc
 have:=h.chs c hc
 exact decide_eq_true (by omega)
theorem agR{a b:Int}:U5 (.int a) (.int b)=some (a==b):=rfl
theorem sum_le{n:Nat}{l:List Str}(h:∀x∈l,x.length<=n):(l.map (·.length)).sum<=n*l.length:=by
 induction l with
 |nil=>simp
 |cons x l ih=>
  have:=ih fun y hy=>h y (ag _ hy)
  have:=h x af
  simp only[ax,ku,ai]
  rw[j0]
  omega
theorem strs_map:∀l:List Str,uZ (l.map .str)=some l
 | []=>rfl
 |x::l=>by rw[ax,uZ,strs_map l];rfl
variable [Tabs]
section
variable {Q:PV->Int->Prop}{E:XP}{i:Int}
theorem rp{x:PV}(xs:List D)(h:∀x∈xs,SmP 1 100 x)(hn:xs.length<=10)(hx:x.rd=some (.lst xs))(k:∀s,wL (.lst xs)=some (.str s)->Q (.fr (.str s)) i):p1 wL x i Q E:=Xp hx (auh h hn) k
theorem KZ{x y:PV}{d e:D}{b:Bool}(hx:x.rd=some d)(hy:y.rd=some e)(h:U5 d e=some b)(k:Q (.fr (.bl b)) i):p2 (jM false) x y i Q E:=by
 unfold p2 jM
 rw[hx,hy]
 dsimp only
 rw[h]
 cases b<;>exact k
theorem aqY{x y:PV}{d e:D}{b:Bool}(hx:x.rd=some d)(hy:y.rd=some e)(h:U5 d e=some b)(k:Q (.fr (.bl (!b))) i):p2 (jM true) x y i Q E:=by
 unfold p2 jM
 rw[hx,hy]
 dsimp only
 rw[h]
 cases b<;>exact k
theorem Cd{a b:Str}{c:Bool}(h:(a==b)=c):U5 (.str a) (.str b)=some c:=by rw[<-h];rfl
theorem Wn{x:PV}{l:List D}(hx:x.rd=some (.lst l))(k:Q (.fr (.int l.length)) i):p1 Oo x i Q E:=by
 unfold p1
 rw[hx]
 exact k
theorem ix_str{z:Str}{d:Int}(hz:z.length<=1000)(h0:0<=d)(h1:d<z.length)(k:∀c∈z.cps.toList,Q (.fr (.str ⟨#[c]⟩)) i):pIx (.fr (.str z)) (.fr (.int d)) i Q E:=by
 have hl:z.cps.toList.length=z.length:=rfl
 obtain⟨x,hx,e⟩:=ahc (l:=z.cps.toList) h0 (by rw[hl];exact h1)
 refine wF (sl_le (by omega)) ?_
 rw[e]
 exact k x hx
theorem avy{x:PV}{l:List D}{n:Nat}{d:D}(hx:x.rd=some (.lst l))(h:l[n]?=some d)(k:Q (.fr d) i):pIx x (.fr (.int (n:Int))) i Q E:=by
 have hn:n<l.length:=(aa.mp h).1
 unfold pIx
 rw[hx,show PV.rd (.fr (.int (n:Int)))=some (.int (n:Int)) from rfl]
 dsimp only
 rw[atI_nat (by omega) (by omega),eP,h]
 exact k
theorem js{q:aH->PM PV}{ql:List (aH->PM PV)}{acc:Str}{r:aH}{Q:Str->Int->Prop}(y:Str)(n m:Nat)(ha:acc.length<=n)(hy:y.length<=m)(hl:n+m<=1000)(h:∀K:PV->Int->Prop,K (.fr (.str y)) i->q r i K E)(k:(acc++y).length<=n+m->pJs ql (acc++y) r i Q E):pJs (q::ql) acc r i Q E:=by
 unfold pJs
 have h1:=len_cat ha hy
 exact h _ (wF (sl_le (by omega)) (k h1))
theorem anA{acc:Str}{r:aH}{Q:Str->Int->Prop}(k:Q acc i):pJs [] acc r i Q E:=k
theorem V1{α:Type}(f:α->Bool):∀l:List α,T6 (l.map fun d=>D.bl (f d))=some (l.map f)
 | []=>rfl
 |x::l=>by rw[ax,T6,V1 f l];rfl
theorem Gg{x:PV}{l:List Bool}(hx:x.rd=some (.lst (l.map .bl)))(k:Q (.fr (.bl (l.all id))) i):p1 abM x i Q E:=by
 have e:abM (.lst (l.map .bl))=some (.bl (l.all id)):=by
  unfold abM
  dsimp only
  rw[V1 (fun b=>b) l]
  simp
 unfold p1
 rw[hx]
 dsimp only
 rw[e]
 exact k
end
/-- None, numbers, texts, lists and tuples of these -/
inductive Cl:Nat->D->Prop where
 |non {n:Nat}:Cl n .non
 |int {n:Nat} {i:Int}:Cl n (.int i)
 |str {n:Nat} {w:Str} (h:PyData.strOk w=true):Cl n (.str w)
 |tup {n:Nat} {l:List D} (h:∀x∈l,Cl n x):Cl (n+1) (.tup l)
 |lst {n:Nat} {l:List D} (h:∀x∈l,Cl n x):Cl (n+1) (.lst l)
theorem Cl.mono{n m:Nat}{d:D}(h:Cl n d)(hl:n<=m):Cl m d:=by
 induction h generalizing m with
 |non=>exact .non
 |int=>exact .int
 |str h=>exact .str h
 |tup h ih=>
  cases m with
  |zero=>omega
  |succ m=>exact .tup fun x hx=>ih x hx (by omega)
 |lst h ih=>
  cases m with
  |zero=>omega
  |succ m=>exact .lst fun x hx=>ih x hx (by omega)
theorem Xv:∀{n m:Nat}{d:D}{y:PyData},tdP n d=some y->n<=m->tdP m d=some y
 |0,m,d,y,h,_=>by cases h
 |n+1,0,d,y,h,hl=>by omega
 |n+1,m+1,d,y,h,hl=>by
  have ih:∀{d:D}{y:PyData},tdP n d=some y->tdP m d=some y:=fun h=>Xv h (by omega)
  unfold tdP at h ⊢
  cases d<;>dsimp only at h ⊢ <;>first|exact h|skip
  ·rename_i xs
   cases e:xs.mapM (tdP n) with
   |none=>rw[e]at h;cases h
   |some l=>rw[e]at h;rw[mapM_some e fun x _ y hy=>ih hy];exact h
  ·rename_i xs
   cases e:xs.mapM (tdP n) with
   |none=>rw[e]at h;cases h
   |some l=>rw[e]at h;rw[mapM_some e fun x _ y hy=>ih hy];exact h
/-- the list of the parts -/
theorem ac9{n:Nat}(ih:∀d,Cl n d->∃y,tdP (n+1) d=some y/\y.canLay0=true/\y.depth<=n):∀{l:List D},(∀x∈l,Cl n x)->∃ys,l.mapM (tdP (n+1))=some ys/\PyData.canLayAll0 ys=true/\PyData.depthAll ys<=n
 | [],_=>⟨[],rfl,rfl,c4 _⟩
 |x::l,h=>by
  obtain⟨y,h1,h2,h3⟩:=ih x (h x af)
  obtain⟨ys,h4,h5,h6⟩:=ac9 ih (l:=l) fun z hz=>h z (ag _ hz)
  refine⟨y::ys,by rw[bb,h1,h4];rfl,?_,?_⟩
  ·rw[PyData.canLayAll0,h2,h5];rfl
  ·rw[PyData.depthAll];omega
theorem Cl.td:∀{n:Nat}(d:D),Cl n d->∃y,tdP (n+1) d=some y/\y.canLay0=true/\y.depth<=n
 |n,_,.non=>⟨_,rfl,rfl,c4 _⟩
 |n,_,.int=>⟨_,rfl,rfl,c4 _⟩
 |n,_,.str h=>⟨_,rfl,h,c4 _⟩
 |n+1,.tup l,.tup h=>by
  obtain⟨ys,h1,h2,h3⟩:=ac9 (fun d hd=>Cl.td d hd) h
  refine⟨.tuple ys,?_,h2,?_⟩
  ·unfold tdP;dsimp only;rw[h1];rfl
  ·rw[PyData.depth];omega
 |n+1,.lst l,.lst h=>by
  obtain⟨ys,h1,h2,h3⟩:=ac9 (fun d hd=>Cl.td d hd) h
  refine⟨.list ys,?_,h2,?_⟩
  ·unfold tdP;dsimp only;rw[h1];rfl
  ·rw[PyData.depth];omega
theorem ahu{n:Nat}(ih:∀d e y z,Cl n d->Cl n e->tdP (n+1) d=some y->tdP (n+1) e=some z->(PyData.eqv y z=true↔d=e)):∀{l k:List D}{ys zs:List PyData},(∀x∈l,Cl n x)->(∀x∈k,Cl n x)->l.mapM (tdP (n+1))=some ys->k.mapM (tdP (n+1))=some zs->(PyData.eqvAll ys zs=true↔l=k)
 | [],[],ys,zs,_,_,h1,h2=>by cases h1;cases h2;simp[PyData.eqvAll]
 | [],x::k,ys,zs,_,hk,h1,h2=>by
  cases h1
  rw[bb]at h2
  cases e1:tdP (n+1) x with
  |none=>rw[e1]at h2;cases h2
  |some z=>cases e2:k.mapM (tdP (n+1)) with
   |none=>rw[e1,e2]at h2;cases h2
   |some zs'=>rw[e1,e2]at h2;cases h2;simp[PyData.eqvAll]
 |x::l,[],ys,zs,_,hk,h1,h2=>by
  cases h2
  rw[bb]at h1
  cases e1:tdP (n+1) x with
  |none=>rw[e1]at h1;cases h1
  |some z=>cases e2:l.mapM (tdP (n+1)) with
   |none=>rw[e1,e2]at h1;cases h1
   |some zs'=>rw[e1,e2]at h1;cases h1;simp[PyData.eqvAll]
 |x::l,x'::k,ys,zs,hl,hk,h1,h2=>by
  rw[bb]at h1 h2
  cases e1:tdP (n+1) x with
  |none=>rw[e1]at h1;cases h1
  |some y=>cases e2:l.mapM (tdP (n+1)) with
   |none=>rw[e1,e2]at h1;cases h1
   |some ys'=>
    rw[e1,e2]at h1;cases h1
    cases e3:tdP (n+1) x' with
    |none=>rw[e3]at h2;cases h2
    |some z=>cases e4:k.mapM (tdP (n+1)) with
     |none=>rw[e3,e4]at h2;cases h2
     |some zs'=>
      rw[e3,e4]at h2;cases h2
      have a:=ih x x' y z (hl x af) (hk x' af) e1 e3
      have b:=ahu ih (fun w hw=>hl w (ag _ hw)) (fun w hw=>hk w (ag _ hw)) e2 e4
      rw[PyData.eqvAll,aB,a,b,List.cons.injEq]
theorem Cl.eqv:∀(n:Nat)(d e:D)(y z:PyData),Cl n d->Cl n e->tdP (n+1) d=some y->tdP (n+1) e=some z->(PyData.eqv y z=true↔d=e)
 |0,d,e,y,z,hd,he,h1,h2=>by
  cases hd<;>cases he<;>(cases h1;cases h2;simp[PyData.eqv])
 |n+1,d,e,y,z,hd,he,h1,h2=>by
  have key:∀{l k:List D}{ys zs:List PyData},(∀x∈l,Cl n x)->(∀x∈k,Cl n x)->l.mapM (tdP (n+1))=some ys->k.mapM (tdP (n+1))=some zs->(PyData.eqvAll ys zs=true↔l=k):=ahu (Cl.eqv n)
  have lst:∀{l:List D},(∀x∈l,Cl n x)->∃ys,l.mapM (tdP (n+1))=some ys:=fun h=>let ⟨ys,h,_⟩:=ac9 (fun d hd=>Cl.td d hd) h;⟨ys,h⟩
  cases hd with
  |non=>cases he with
   |non=>cases h1;cases h2;simp[PyData.eqv]
   |int=>cases h1;cases h2;simp[PyData.eqv]
   |str=>cases h1;cases h2;simp[PyData.eqv]
   |tup h=>obtain⟨zs,hz⟩:=lst h;unfold tdP at h2;dsimp only at h2;rw[hz]at h2;cases h1;cases h2;simp[PyData.eqv]
   |lst h=>obtain⟨zs,hz⟩:=lst h;unfold tdP at h2;dsimp only at h2;rw[hz]at h2;cases h1;cases h2;simp[PyData.eqv]
  |int=>cases he with
   |non=>cases h1;cases h2;simp[PyData.eqv]
   |int=>cases h1;cases h2;simp[PyData.eqv]
   |str=>cases h1;cases h2;simp[PyData.eqv]
   |tup h=>obtain⟨zs,hz⟩:=lst h;unfold tdP at h2;dsimp only at h2;rw[hz]at h2;cases h1;cases h2;simp[PyData.eqv]
   |lst h=>obtain⟨zs,hz⟩:=lst h;unfold tdP at h2;dsimp only at h2;rw[hz]at h2;cases h1;cases h2;simp[PyData.eqv]
  |str=>cases he with
   |non=>cases h1;cases h2;simp[PyData.eqv]
   |int=>cases h1;cases h2;simp[PyData.eqv]
   |str=>cases h1;cases h2;simp[PyData.eqv]
   |tup h=>obtain⟨zs,hz⟩:=lst h;unfold tdP at h2;dsimp only at h2;rw[hz]at h2;cases h1;cases h2;simp[PyData.eqv]
   |lst h=>obtain⟨zs,hz⟩:=lst h;unfold tdP at h2;dsimp only at h2;rw[hz]at h2;cases h1;cases h2;simp[PyData.eqv]
  |tup h=>
   obtain⟨ys,hy⟩:=lst h
   unfold tdP at h1;dsimp only at h1;rw[hy]at h1;cases h1
   cases he with
   |non=>cases h2;simp[PyData.eqv]
   |int=>cases h2;simp[PyData.eqv]
   |str=>cases h2;simp[PyData.eqv]
   |tup h'=>obtain⟨zs,hz⟩:=lst h';unfold tdP at h2;dsimp only at h2;rw[hz]at h2;cases h2;rw[PyData.eqv,key h h' hy hz,D.tup.injEq]
   |lst h'=>obtain⟨zs,hz⟩:=lst h';unfold tdP at h2;dsimp only at h2;rw[hz]at h2;cases h2;simp[PyData.eqv]
  |lst h=>
   obtain⟨ys,hy⟩:=lst h
   unfold tdP at h1;dsimp only at h1;rw[hy]at h1;cases h1
   cases he with
   |non=>cases h2;simp[PyData.eqv]
   |int=>cases h2;simp[PyData.eqv]
   |str=>cases h2;simp[PyData.eqv]
   |tup h'=>obtain⟨zs,hz⟩:=lst h';unfold tdP at h2;dsimp only at h2;rw[hz]at h2;cases h2;simp[PyData.eqv]
   |lst h'=>obtain⟨zs,hz⟩:=lst h';unfold tdP at h2;dsimp only at h2;rw[hz]at h2;cases h2;rw[PyData.eqv,key h h' hy hz,D.lst.injEq]
/-- are they the same -/
noncomputable def eqB{α:Type}(d e:α):Bool:=@decide (d=e) (di _)
theorem acE{α:Type}{d e:α}(h:d=e):eqB d e=true:=by unfold eqB;exact @decide_eq_true _ (di _) h
theorem aom{α:Type}{d e:α}(h:d≠e):eqB d e=false:=by unfold eqB;exact @decide_eq_false _ (di _) h
theorem Cl.eqP{n:Nat}{d e:D}(hd:Cl n d)(he:Cl n e)(hn:n<=39):U5 d e=some (eqB d e):=by
 obtain⟨y,h1,h2,h3⟩:=hd.td
 obtain⟨z,h4,h5,h6⟩:=he.td
 have key:=Cl.eqv n d e y z hd he h1 h4
 have hb:PyData.eqv y z=eqB d e:=by
  by_cases h:d=e
  ·rw[acE h];exact key.mpr h
  ·rw[aom h];exact lh.mpr fun k=>h (key.mp k)
 by_cases hs:∃a b,d=.str a/\e=.str b
 ·obtain⟨a,b,rfl,rfl⟩:=hs
  show some (a==b)=_
  by_cases h:a=b
  ·rw[acE (by rw[h]),h,beq_self_eq_true]
  ·rw[aom (by intro z;cases z;exact h rfl),beq_false_of_ne h]
 ·have e1:U5 d e=apy d e:=by
   unfold U5
   split
   ·exact absurd ⟨_,_,rfl,rfl⟩ hs
   ·rfl
  rw[e1]
  unfold apy
  rw[Xv h1 (show n+1<=40 by omega),Xv h4 (show n+1<=40 by omega)]
  dsimp only
  have s1:SeqAt.shaped y=true:=by unfold SeqAt.shaped;rw[h2];simp;omega
  have s2:SeqAt.shaped z=true:=by unfold SeqAt.shaped;rw[h5];simp;omega
  rw[s1,s2,hb];rfl
theorem Cl.strs{n:Nat}{l:List Str}(h:∀w∈l,PyData.strOk w=true):Cl (n+1) (.lst (l.map .str)):=.lst fun x hx=>by
 obtain⟨w,hw,rfl⟩:=aw.mp hx
 exact .str (h w hw)
set_option maxHeartbeats 400000
/-- a dict is locked, or free again -/
structure Lk1(n:Nat)(S S':Sto):Prop where
 len:S'.length=S.length
 ne:∀m,m≠n->S'[m]?=S[m]?
 at_:∃kvs,(S[n]?=some (.dic kvs)/\S'[n]?=some (.frz (.dic kvs)))\/(S[n]?=some (.frz (.dic kvs))/\S'[n]?=some (.dic kvs))
section
variable {A:AS}{n:Nat}{S S':Sto}
theorem Lk1.dic(l:Lk1 n S S'){m:Nat}{xs:List (CV×CV)}(h:S[m]?=some (.dic xs)\/S[m]?=some (.frz (.dic xs))):S'[m]?=some (.dic xs)\/S'[m]?=some (.frz (.dic xs)):=by
 by_cases hm:m=n
 ·subst hm
  obtain⟨kvs,⟨h1,h2⟩|⟨h1,h2⟩⟩:=l.at_
  ·rcases h with h|h
   ·rw[h1]at h;cases h;exact .inr h2
   ·rw[h1]at h;cases h
  ·rcases h with h|h
   ·rw[h1]at h;cases h
   ·rw[h1]at h;cases h;exact .inl h2
 ·rw[l.ne m hm];exact h
theorem Lk1.oth(l:Lk1 n S S'){m:Nat}{o:CO}(h:S[m]?=some o)(h1:∀kvs,o≠ .dic kvs)(h2:∀kvs,o≠ .frz (.dic kvs)):S'[m]?=some o:=by
 by_cases hm:m=n
 ·subst hm
  obtain⟨kvs,⟨e1,_⟩|⟨e1,_⟩⟩:=l.at_
  ·rw[e1]at h;cases h;exact absurd rfl (h1 _)
  ·rw[e1]at h;cases h;exact absurd rfl (h2 _)
 ·rw[l.ne m hm];exact h
mutual
theorem DV.lk(l:Lk1 n S S'):∀{v:CV}{d:D},DV A S v d->DV A S' v d
 |_,_,.non=>.non
 |_,_,.bl b=>.bl b
 |_,_,.int b=>.int b
 |_,_,.str b=>.str b
 |_,_,.cls b=>.cls b
 |_,_,.ty b=>.ty b
 |_,_,.scr b=>.scr b
 |_,_,.tup r=>.tup (DVs.lk l r)
 |_,_,.exn r=>.exn (DVf.lk l r)
 |_,_,.lst h hn r=>.lst (l.oth h (fun _ z=>nomatch z) (fun _ z=>nomatch z)) hn (DVs.lk l r)
 |_,_,.odd h hn r=>.odd (l.oth h (fun _ z=>nomatch z) (fun _ z=>nomatch z)) hn (DVs.lk l r)
 |_,_,.dic h hn r=>.dic (l.dic h) hn (DVp.lk l r)
 |_,_,.obj h hn r=>.obj (l.oth h (fun _ z=>nomatch z) (fun _ z=>nomatch z)) hn (DVf.lk l r)
theorem DVs.lk(l:Lk1 n S S'):∀{v:List CV}{d:List D},DVs A S v d->DVs A S' v d
 |_,_,.nil=>.nil
 |_,_,.cons h r=>.cons (DV.lk l h) (DVs.lk l r)
theorem DVf.lk(l:Lk1 n S S'):∀{v:List (Str×CV)}{d:List (Str×D)},DVf A S v d->DVf A S' v d
 |_,_,.nil=>.nil
 |_,_,.cons h r=>.cons (DV.lk l h) (DVf.lk l r)
theorem DVp.lk(l:Lk1 n S S'):∀{v:List (CV×CV)}{d:List (D×D)},DVp A S v d->DVp A S' v d
 |_,_,.nil=>.nil
 |_,_,.cons hk h r=>.cons (DV.lk l hk) (DV.lk l h) (DVp.lk l r)
end
theorem DO.lk{m:Nat}{d:D}(l:Lk1 n S S')(h:DO A S m d)(he:∀kvs,S[m]?=some (.dic kvs)->S'[m]?=some (.dic kvs)):DO A S' m d:=by
 cases d<;>first|exact h.elim|skip
 ·obtain⟨xs,h1,h2⟩:=h;exact⟨xs,l.oth h1 (fun _ z=>nomatch z) (fun _ z=>nomatch z),h2.lk l⟩
 ·obtain⟨xs,h1,h2⟩:=h;exact⟨xs,he _ h1,h2.lk l⟩
 ·obtain⟨xs,h1,h2⟩:=h;exact⟨xs,l.oth h1 (fun _ z=>nomatch z) (fun _ z=>nomatch z),h2.lk l⟩
 ·obtain⟨xs,h1,h2⟩:=h;exact⟨xs,l.oth h1 (fun _ z=>nomatch z) (fun _ z=>nomatch z),h2.lk l⟩
theorem DB.lk{m:Nat}{d:D}(l:Lk1 n S S')(h:DB A S m d):DB A S' m d:=by
 cases d with
 |dic ds=>obtain⟨xs,h1,h2⟩:=h;exact⟨xs,l.dic h1,h2.lk l⟩
 |lst ds=>exact DO.lk (d:=.lst ds) l h fun kvs z=>by obtain⟨xs,h1,_⟩:=h;rw[h1]at z;cases z
 |odd ds=>exact DO.lk (d:=.odd ds) l h fun kvs z=>by obtain⟨xs,h1,_⟩:=h;rw[h1]at z;cases z
 |obj c gs=>exact DO.lk (d:=.obj c gs) l h fun kvs z=>by obtain⟨xs,h1,_⟩:=h;rw[h1]at z;cases z
 |_=>exact h.elim
theorem Lk1.pen(l:Lk1 n S S'){p c:Nat}{cells:List Int}{i:Int}(h:jY p c cells i S):jY p c cells i S':=by
 obtain⟨t,r,h1,h2,h3⟩:=h.ex
 exact⟨t,r,l.oth h1 (fun _ z=>nomatch z) (fun _ z=>nomatch z),l.oth h2 (fun _ z=>nomatch z) (fun _ z=>nomatch z),h3⟩
theorem Lk1.lock{kvs:List (CV×CV)}(h:S[n]?=some (.dic kvs)):Lk1 n S (S.set n (.frz (.dic kvs))):=
 ⟨a8,fun m hm=>ah (eW hm),kvs,.inl ⟨h,aE (aa.mp h).1⟩⟩
theorem Lk1.free{kvs:List (CV×CV)}(h:S[n]?=some (.frz (.dic kvs))):Lk1 n S (S.set n (.dic kvs)):=
 ⟨a8,fun m hm=>ah (eW hm),kvs,.inr ⟨h,aE (aa.mp h).1⟩⟩
end
/-- no name stands for a dict that another name has -/
def akq(_:aH):Bool:=true
def afH:aH->Bool
 | []=>true
 |some (.bo (.dic _))::_=>false
 |_::r=>afH r
theorem aqD{r:aH}(h:afH r=true){j:Nat}{ds:List (D×D)}(e:r[j]?=some (some (.bo (.dic ds)))):False:=by
 induction r generalizing j with
 |nil=>cases e
 |cons x r ih=>
  cases j with
  |zero=>cases e;cases h
  |succ j=>
   refine ih ?_ e
   unfold afH at h
   split at h
   ·rename_i z;cases z
   ·cases h
   ·rename_i z;cases z;exact h
def dh:List (D×D)->Bool
 | []=>true
 |(.int _,_)::r=>dh r
 |(.str _,_)::r=>dh r
 |_=>false
theorem dY{A:AS}{S:Sto}:∀{kvs:List (CV×CV)}{ds:List (D×D)},DVp A S kvs ds->dh ds=true->fX kvs=true
 |_,_,.nil,_=>rfl
 |_,_,.cons (k:=k) (e:=e) (vs:=vs) (ds:=ds) hk h r,hf=>by
  unfold fX
  rw[cE,aB]
  cases hk with
  |int i=>exact⟨rfl,dY r hf⟩
  |str i=>exact⟨rfl,dY r hf⟩
  |_=>cases hf
section
variable [Tabs]{g:Gh}{A A0:AS}{S S' S1:Sto}{n:Nat}{i i':Int}{w w':Nat->Option Nat}{ρ ρ':Rho}{r r':aH}{kvs:List (CV×CV)}{ds:List (D×D)}
def Gh.lk(g:Gh)(n:Nat)(kvs:List (CV×CV)):Gh:={g with b:=g.b.set n (.frz (.dic kvs))}
theorem cU.lk{g':Gh}(h:cU g A0 w S ρ r)(l:Lk1 n S S')(e1:g'.p=g.p)(e2:g'.slf=g.slf)(e3:g'.b.length=g.b.length)
    (ho:∀(j m:Nat),w j=some m->∀kvs,S[m]?=some (CO.dic kvs)->S'[m]?=some (CO.dic kvs))(e4:g'.bn=g.bn:=by rfl):cU g' A0 w S' ρ r:=by
  refine⟨h.len,fun j pv hj=>?_,h.inj,fun j n hj=>⟨(h.out j n hj).1,by rw[l.len];exact(h.out j n hj).2⟩,fun j n hj=>by rw[e3];exact h.new j n hj,h.fin⟩
  obtain⟨v,h1,h2⟩:=h.at_ j pv hj
  refine⟨v,h1,?_⟩
  cases pv with
  |fr d=>exact DV.lk l h2
  |ow d=>
   obtain⟨n,e1,e4,eo,r⟩:=h2
   exact⟨n,e1,e4,fun z=>(eo z).trans e2.symm,DO.lk l r (ho j n e4)⟩
  |bo d=>
   obtain⟨n,e5,e6,e7,r⟩:=h2
   exact⟨n,e5,by rw[e1];exact e6,e7,fun m z=>r.tie m (by rw[<-e4];exact z),r.db.lk l⟩
  |pen=>rw[show VS g' A0 w j S' v .pen=(v=.ref g'.p) from rfl,e1];exact h2
theorem jY.ne{p c:Nat}{cells:List Int}(h:jY p c cells i S)(e:S[n]?=some (.dic kvs)):n≠p/\n≠c:=by
 obtain⟨t,r,h1,h2,_⟩:=h.ex
 exact⟨fun z=>(by subst z;rw[e]at h1;cases h1),fun z=>(by subst z;rw[e]at h2;cases h2)⟩
theorem Amb.lk(a:Amb g A i S)(h:S[n]?=some (.dic kvs)):Amb (g.lk n kvs) A i (S.set n (.frz (.dic kvs))):=by
 have l:=Lk1.lock h
 have hp:=(a.pen.ne h).1
 refine⟨l.pen a.pen,a.pin,a.pic,fun m hm=>by rw[l.len];exact a.lt m hm,fun m o hm e=>?_,fun k x hk=>?_⟩
 ·by_cases z:m=n
  ·subst z
   have e:(g.b.set m (.frz (.dic kvs)))[m]?=some o:=e
   rw[br]at e
   rw[if_pos rfl]at e
   split at e
   ·cases e;exact aE (aa.mp h).1
   ·cases e
  ·have e:(g.b.set n (.frz (.dic kvs)))[m]?=some o:=e
   rw[ah (eW z)]at e
   rw[ah (eW z)]
   exact a.ext m o hm e
 ·obtain⟨h1,h2⟩:=a.tab k x hk
  refine⟨h1,?_⟩
  show(g.b.set n (.frz (.dic kvs)))[k]?=_
  rw[ah (fun z=>?_)]
  ·exact h2
  ·subst z
   have:=a.ext _ _ h1 h2
   rw[h]at this;cases this
end
structure Path(me:Rho->M CV):Prop where
 still:∀ρ S x S1,me ρ S=.ok x S1->S1=S
 lock:∀ρ S n kvs x,S[n]?=some (.dic kvs)->me ρ S=.ok x S->me ρ (S.set n (.frz (.dic kvs)))=.ok x (S.set n (.frz (.dic kvs)))
/-- what may be walked: a dict that nobody changes -/
def ax4(qe:aH->PM PV)(r:aH)(i:Int)(K:List (D×D)->Prop):Prop:=qe r i (fun pv _=>match pv with
 |.fr (.dic ds)=>gd (dh ds=true/\akq r=true) (K ds)
 |_=>False) (fun _ _ _=>False)
def anO(Q:PC->Int->Prop):PC->Int->Prop
 |.xc _ _ _,_=>False
 |pc,i=>Q pc i
def anW(qe:aH->PM PV)(q:List (D×D)->aH->PM PV):aH->PM PV:=fun r i Q E=>ax4 qe r i fun ds=>q ds r i Q (fun _ _ _=>False)
section
variable [Tabs]{g:Gh}{A A0:AS}{S S' S1:Sto}{n:Nat}{i i':Int}{w w':Nat->Option Nat}{ρ ρ':Rho}{r r':aH}{kvs:List (CV×CV)}{ds:List (D×D)}{ch me:Rho->M CV}{m:Rho->M CF}{qe qm:aH->PM PV}
theorem atO(hp:Path ch)(he:dI g A0 ch qe){K:List (D×D)->Prop}(a:Amb g A0 i S)(hr:cU g A0 w S ρ r)(h:ax4 qe r i K):
    ∃n kvs ds,ch ρ S=.ok (.ref n) S/\(S[n]?=some (.dic kvs)\/S[n]?=some (.frz (.dic kvs)))/\(∀k,w k≠some n)/\DVp (Ow A0 w) S kvs ds/\dh ds=true/\K ds:=by
  have h1:=he.run w S ρ r i a hr _ _ h
  cases e:ch ρ S with
  |bad=>rw[e]at h1;exact h1.elim
  |exc c fs S1=>rw[e]at h1;obtain⟨_,_,z,_⟩:=h1;exact z.elim
  |ok x S1=>
   rw[e]at h1
   obtain⟨pv,i1,hq,hv,_⟩:=h1
   obtain rfl:=hp.still _ _ _ _ e
   split at hq
   · rename_i ds
     obtain⟨⟨h1,h2⟩,h3⟩:=cQ.mp hq
     cases hv with
     |dic h hn rr=>exact⟨_,_,ds,rfl,h,fun k z=>hn (.inr ⟨k,z⟩),rr,h1,h3⟩
   · exact hq.elim
theorem anG(a:Amb g A0 i S)(hr:cU g A0 w S ρ r)(h:S[n]?=some (.dic kvs))(hn:∀k,w k≠some n):cU (g.lk n kvs) A0 w (S.set n (.frz (.dic kvs))) ρ r:=
 hr.lk (Lk1.lock h) rfl rfl (by simp[Gh.lk]) fun j m e kvs' e'=>by rw[ah (fun z=>hn j (by rw[z];exact e))];exact e'
theorem acO{w1:Nat->Option Nat}{g':Gh}(hg:g'.p=g.p)(h:S[n]?=some (.dic kvs))(st:Stp g' w (S.set n (.frz (.dic kvs))) w1 S')(hp:n≠g.p)(hn:∀k,w k≠some n):S'[n]?=some (.frz (.dic kvs))/\Stp g w S w1 (S'.set n (.dic kvs)):=by
 have l:=Lk1.lock h
 have hlt:=(aa.mp h).1
 have e:S'[n]?=some (.frz (.dic kvs)):=st.ext n _ (by rw[hg];exact hp) hn (aE hlt)
 have hlt':=(aa.mp e).1
 refine⟨e,fun m o h1 h2 h3=>?_,fun j m z=>?_,by rw[a8];have:=st.len;rw[l.len]at this;exact this⟩
 ·by_cases z:m=n
  ·subst z;rw[h]at h3;cases h3;exact aE hlt'
  ·rw[ah (eW z)]
   exact st.ext m o (by rw[hg];exact h1) h2 (by rw[ah (eW z)];exact h3)
 ·have:=st.wx j m z
  rw[l.len]at this;exact this
theorem Xd{g':Gh}(hr:cU g' A0 w' S' ρ' r')(e:S'[n]?=some (.frz (.dic kvs)))(e1:g.p=g'.p)(e2:g.slf=g'.slf)(e3:g.b.length=g'.b.length)(e4:g.bn=g'.bn:=by rfl):cU g A0 w' (S'.set n (.dic kvs)) ρ' r':=
 hr.lk (Lk1.free e) e1 e2 e3 (fun j m _ kvs' e'=>by rw[ah (fun z=>by subst z;rw[e]at e';cases e')];exact e') e4
/-- a body over the dict ds, which is locked -/
structure AtS(ch:Rho->M CV)(m:Rho->M CF)(q:List (D×D)->aH->PMS):Prop where
 run:∀(g:Gh)(A0:AS) w S ρ r i n kvs ds,Amb g A0 i S->cU g A0 w S ρ r->ch ρ S=.ok (.ref n) S->S[n]?=some (.frz (.dic kvs))->DVp (Ow A0 w) S kvs ds->∀Q,q ds r i Q->Wp (m ρ S) (PS g A0 w S Q) NoE
structure AtE(ch:Rho->M CV)(m:Rho->M CV)(q:List (D×D)->aH->PM PV):Prop where
 run:∀(g:Gh)(A0:AS) w S ρ r i n kvs ds,Amb g A0 i S->cU g A0 w S ρ r->ch ρ S=.ok (.ref n) S->S[n]?=some (.frz (.dic kvs))->DVp (Ow A0 w) S kvs ds->Rn g (Ow A0 w) (fun S'=>VR g (Ow A0 w) S.length S') S (m ρ S) (q ds r i)
theorem Ru{q:List (D×D)->aH->PMS}{Q:PC->Int->Prop}(hp:Path ch)(hm:AtS ch m q)(a:Amb g A0 i S)(hr:cU g A0 w S ρ r)(hc:ch ρ S=.ok (.ref n) S)(hS:S[n]?=some (.dic kvs)\/S[n]?=some (.frz (.dic kvs)))(hn:∀k,w k≠some n)(hd:DVp (Ow A0 w) S kvs ds)(hf:dh ds=true)(hK:q ds r i (anO Q)):Wp (ac7 ch m ρ S) (PS g A0 w S Q) NoE:=by
 unfold ac7
 rw[hc]
 dsimp only
 rcases hS with h|h
 ·rw[h]
  dsimp only
  rw[if_pos (dY hd hf)]
  have l:=Lk1.lock h
  have hpn:=(a.pen.ne h).1
  have run:=hm.run (g.lk n kvs) A0 w _ ρ r i n kvs ds (a.lk h) (anG a hr h hn) (hp.lock _ _ _ _ _ h hc) (aE (aa.mp h).1) (hd.lk l) _ hK
  cases e:m ρ (S.set n (.frz (.dic kvs))) with
  |bad=>rw[e]at run;exact run.elim
  |exc _ _ _=>rw[e]at run;exact run.elim
  |ok cf S1=>
   rw[e]at run
   obtain⟨pc,i1,hq1,hcf,U6⟩:=run
   cases cf with
   |nx ρ1=>
    cases pc<;>first|exact hcf.elim|skip
    obtain⟨w1,st,hr1⟩:=hcf
    obtain⟨e1,st1⟩:=acO (g:=g) (g':=g.lk n kvs) rfl h st hpn hn
    exact⟨_,i1,hq1,⟨w1,st1,Xd hr1 e1 rfl rfl (by simp[Gh.lk])⟩,(Lk1.free e1).pen U6⟩
   |bk ρ1=>
    cases pc<;>first|exact hcf.elim|skip
    obtain⟨w1,st,hr1⟩:=hcf
    obtain⟨e1,st1⟩:=acO (g:=g) (g':=g.lk n kvs) rfl h st hpn hn
    exact⟨_,i1,hq1,⟨w1,st1,Xd hr1 e1 rfl rfl (by simp[Gh.lk])⟩,(Lk1.free e1).pen U6⟩
   |ct ρ1=>
    cases pc<;>first|exact hcf.elim|skip
    obtain⟨w1,st,hr1⟩:=hcf
    obtain⟨e1,st1⟩:=acO (g:=g) (g':=g.lk n kvs) rfl h st hpn hn
    exact⟨_,i1,hq1,⟨w1,st1,Xd hr1 e1 rfl rfl (by simp[Gh.lk])⟩,(Lk1.free e1).pen U6⟩
   |rt v=>
    cases pc<;>first|exact hcf.elim|skip
    obtain⟨hv,w1,st⟩:=hcf
    obtain⟨e1,st1⟩:=acO (g:=g) (g':=g.lk n kvs) rfl h st hpn hn
    exact⟨_,i1,hq1,⟨hv.lk (Lk1.free e1),w1,st1⟩,(Lk1.free e1).pen U6⟩
   |xc c fs ρ1=>
    cases pc<;>first|exact hcf.elim|skip
    exact hq1.elim
 ·rw[h]
  dsimp only
  refine(hm.run g A0 w S ρ r i n kvs ds a hr hc h hd _ hK).imp (fun cf S1 ⟨pc,i1,hq1,hcf,U6⟩=>⟨pc,i1,?_,hcf,U6⟩) fun _ _ _ z=>z
  cases pc<;>first|exact hq1|exact hq1.elim
theorem Jw{q:List (D×D)->aH->PM PV}{Q:PV->Int->Prop}{E:XP}(hp:Path ch)(hm:AtE ch me q)(a:Amb g A0 i S)(hr:cU g A0 w S ρ r)(hc:ch ρ S=.ok (.ref n) S)(hS:S[n]?=some (.dic kvs)\/S[n]?=some (.frz (.dic kvs)))(hn:∀k,w k≠some n)(hd:DVp (Ow A0 w) S kvs ds)(hf:dh ds=true)(hK:q ds r i Q fun _ _ _=>False):Wp (uP ch me ρ S) (PQ g S (fun S'=>VR g (Ow A0 w) S.length S') Q) (PXc g (Ow A0 w) S E):=by
 unfold uP
 rw[hc]
 dsimp only
 rcases hS with h|h
 ·rw[h]
  dsimp only
  rw[if_pos (dY hd hf)]
  have l:=Lk1.lock h
  have hpn:=(a.pen.ne h).1
  have hlt:=(aa.mp h).1
  have run:=hm.run (g.lk n kvs) A0 w _ ρ r i n kvs ds (a.lk h) (anG a hr h hn) (hp.lock _ _ _ _ _ h hc) (aE hlt) (hd.lk l) _ _ hK
  cases e:me ρ (S.set n (.frz (.dic kvs))) with
  |bad=>rw[e]at run;exact run.elim
  |exc _ _ _=>rw[e]at run;obtain⟨_,_,z,_⟩:=run;exact z.elim
  |ok c S1=>
   rw[e]at run
   obtain⟨pv,i1,hq1,hv,U6,ex⟩:=run
   have e1:S1[n]?=some (.frz (.dic kvs)):=ex n _ hpn (aE hlt)
   have hlt1:=(aa.mp e1).1
   have lf:=Lk1.free e1
   have ate:∀(m:Nat) kvs',S1[m]?=some (CO.dic kvs')->(S1.set n (CO.dic kvs))[m]?=some (CO.dic kvs'):=fun m kvs' e'=>by
    rw[ah (fun z=>by subst z;rw[e1]at e';cases e')];exact e'
   refine⟨pv,i1,hq1,?_,lf.pen U6,fun m o hm h3=>?_⟩
   ·cases pv with
    |fr d=>exact DV.lk lf hv
    |ow d=>
     obtain⟨m,e2,e3,r⟩:=hv
     exact⟨m,e2,by rw[l.len]at e3;exact e3,DO.lk lf r (ate m)⟩
    |bo d=>
     obtain⟨m,e2,e3,r⟩:=hv
     exact⟨m,e2,e3,DB.lk lf r⟩
    |pen=>exact hv
   ·by_cases z:m=n
    ·subst z;rw[h]at h3;cases h3;exact aE hlt1
    ·rw[ah (eW z)]
     exact ex m o hm (by rw[ah (eW z)];exact h3)
 ·rw[h]
  dsimp only
  refine(hm.run g A0 w S ρ r i n kvs ds a hr hc h hd _ _ hK).imp (fun cf S1 z=>z) fun _ _ _ ⟨_,_,z,_⟩=>z.elim
theorem aja{q:List (D×D)->aH->PM PV}(hp:Path ch)(he:dI g A0 ch qe)(hm:AtE ch me q):dI g A0 (uP ch me) (anW qe q):=⟨fun w S ρ r i a hr Q E hq=>by
 obtain⟨n,kvs,ds,hc,hS,hn,hd,hf,hK⟩:=atO hp he a hr hq
 exact Jw hp hm a hr hc hS hn hd hf hK⟩
def sdK(ds:List (D×D)):List D:=ds.map (·.1)
def sdV(ds:List (D×D)):List D:=ds.map (·.2)
structure Sel(s:List (CV×CV)->List CV)(t:List (D×D)->List D):Prop where
 run:∀A S kvs ds,DVp A S kvs ds->DVs A S (s kvs) (t ds)
theorem zm:Sel wkK sdK:=⟨fun A S kvs ds h=>by
 induction ds generalizing kvs with
 |nil=>cases h;exact .nil
 |cons d ds ih=>cases h with|cons hk h r=>exact .cons hk (ih _ r)⟩
theorem axa:Sel wkV sdV:=⟨fun A S kvs ds h=>by
 induction ds generalizing kvs with
 |nil=>cases h;exact .nil
 |cons d ds ih=>cases h with|cons hk h r=>exact .cons h (ih _ r)⟩
theorem arv{s:List (CV×CV)->List CV}(hc:ch ρ S=.ok (.ref n) S)(h:S[n]?=some (.frz (.dic kvs))):qQ s ch ρ S=.ok ⟨s kvs,[]⟩ S:=by
 show(ch ρ S).bnd (Zz s)=_
 rw[hc]
 show Zz s (.ref n) S=_
 unfold Zz
 dsimp only
 rw[h]
end
def pDs(ds:List D):aH->PM (List D):=fun _ i Q _=>Q ds i
section
variable [Tabs]{g:Gh}{A A0:AS}{S S' S1:Sto}{n j:Nat}{i i':Int}{w w':Nat->Option Nat}{ρ ρ':Rho}{r r':aH}{kvs:List (CV×CV)}{ds:List (D×D)}{ch me:Rho->M CV}{m m1:Rho->M CF}{qe qm:aH->PM PV}{q1:aH->PMS}{Q:PC->Int->Prop}{mt:Rho->M Bool}{qt:aH->PM Bool}
variable {s:List (CV×CV)->List CV}{sd:List (D×D)->List D}
theorem ace(a:Amb g A i S)(hs:Sel s sd)(hc:ch ρ S=.ok (.ref n) S)(h:S[n]?=some (.frz (.dic kvs)))(hd:DVp A S kvs ds):Rn g A (RI A) S (qQ s ch ρ S) (pDs (sd ds) r i):=by
 rw[arv hc h]
 exact Rn.ret a.pen ⟨hs.run _ _ _ _ hd,trivial⟩
theorem as5{W:Prop->Prop}(hW:∀{P},W P->P){mg:CV->Rho->M Rho}{t:D->aH->Option aH}(hs:Sel s sd)(hg:ar0 mg t)(hb:∀{g A0},iZ g A0 m1 q1):AtS ch (aeM (qQ s ch) mg m1) (fun ds=>Zu W (pDs (sd ds)) t q1):=⟨fun g A0 w S ρ r i n kvs ds a hr hc h hd Q q=>
 wu a hr (ace (r:=r) (hr.amb a) hs hc h hd) q fun src S1 ds i1 hv hK a1 hr1 e1 st=>
  (abU (o:=src.at') (chk:=src.chk) hg hb (fun h=>h.chk) a1 hr1 hv.1 hv.2 Q (hW hK)).imp (fun cf S2 h=>h.trans st) fun _ _ _ z=>z⟩
theorem Jp{W:Prop->Prop}(hW:∀{P},W P->P){mg:CV->Rho->Option Rho}{t:D->aH->Option aH}{vs:List Nat}(hs:Sel s sd)(hg:ad5 mg t)(ht:∀{g A0},G9 g A0 mt qt)(he:∀{g A0},dI g A0 me qe):AtE ch (mLc (qQ s ch) mg mt me vs) (fun ds=>Af W (pDs (sd ds)) t qt qe vs):=⟨fun g A0 w S ρ r i n kvs ds a hr hc h hd=>
 anD hW a hr (ace (r:=r) (hr.amb a) hs hc h hd) hg ht he⟩
end
structure OSt(g:CV->M CV):Prop where
 run:∀x S v S1,g x S=.ok v S1->S1=S/\∀n kvs,S[n]?=some (.dic kvs)->g x (S.set n (.frz (.dic kvs)))=.ok v (S.set n (.frz (.dic kvs)))
section
variable {me ma:Rho->M CV}{g:CV->M CV}{h2:CV->CV->M CV}{j:Nat}{f:Str}
theorem yx:Path (aK j):=by
 refine⟨fun ρ S x S1 h=>?_,fun ρ S n kvs x hS h=>?_⟩
 ·unfold aK at h
  split at h
  ·cases h;rfl
  ·cases h
 ·unfold aK at h ⊢
  split at h
  ·cases h;rfl
  ·cases h
theorem anc{α β:Type}{r:Res α}{f:α->M β}{y:β}{S1:Sto}(h:r.bnd f=.ok y S1):∃x S,r=.ok x S/\f x S=.ok y S1:=by
 cases r with
 |ok x S=>exact⟨x,S,rfl,h⟩
 |exc _ _ _=>cases h
 |bad=>cases h
theorem aqU(hg:OSt g)(hp:Path me):Path (mUn g me):=by
 refine⟨fun ρ S x S1 h=>?_,fun ρ S n kvs x hS h=>?_⟩
 ·obtain⟨y,S2,e,h1⟩:=anc (show(me ρ S).bnd g=.ok x S1 from h)
  obtain rfl:=hp.still _ _ _ _ e
  exact(hg.run _ _ _ _ h1).1
 ·obtain⟨y,S2,e,h1⟩:=anc (show(me ρ S).bnd g=.ok x S from h)
  obtain rfl:=hp.still _ _ _ _ e
  show(me ρ _).bnd g=_
  rw[hp.lock _ _ _ _ _ hS e]
  exact(hg.run _ _ _ _ h1).2 n kvs hS
/-- the attribute is a field, or a constant, of each class -/
def aco:List (Str×AK)->Bool
 | []=>true
 |(_,.fld)::r=>aco r
 |(_,.con _)::r=>aco r
 |_=>false
theorem Rh:∀{tbl:List (Str×AK)}{c:Str}{k:AK},aco tbl=true->tbl.lookup c=some k->k=.fld\/∃v,k=.con v
 | [],_,_,_,h=>by cases h
 |(d,k')::r,c,k,hf,h=>by
  unfold dS at h
  cases k' with
  |fld=>
   split at h
   ·cases h;exact .inl rfl
   ·exact Rh (tbl:=r) hf h
  |con v=>
   split at h
   ·cases h;exact .inr ⟨_,rfl⟩
   ·exact Rh (tbl:=r) hf h
  |_=>cases hf
theorem aqO{tbl:List (Str×AK)}(hf:aco tbl=true):OSt (uo f tbl):=⟨fun x S v S1 h=>by
 unfold uo at h ⊢
 cases x with
 |ref k=>
  dsimp only at h ⊢
  split at h
  ·rename_i c fs ek
   split at h
   ·rename_i el
    split at h
    ·rename_i ev
     cases h
     refine⟨rfl,fun n kvs hS=>?_⟩
     rw[ah (fun z=>by subst z;rw[hS]at ek;cases ek),ek]
     dsimp only
     rw[el]
     dsimp only
     rw[ev]
    ·cases h
   ·rename_i el
    rcases Rh hf el with z|⟨_,z⟩<;>cases z
   ·rename_i el
    split at h
    ·rename_i ev
     cases h
     refine⟨rfl,fun n kvs hS=>?_⟩
     rw[ah (fun z=>by subst z;rw[hS]at ek;cases ek),ek]
     dsimp only
     rw[el]
     dsimp only
     rw[ev]
    ·cases h
   ·cases h
  ·cases h
 |cls c=>
  dsimp only at h ⊢
  split at h
  ·cases h;exact⟨rfl,fun n kvs hS=>rfl⟩
  ·cases h
 |_=>cases h⟩
end
def keyD:D->Option Key
 |.int i=>some (.inl i)
 |.str x=>some (.inr x)
 |_=>none
def mF(k:Key)(p:D×D):Bool:=match keyD p.1 with
 |some j=>decide (j=k)
 |none=>false
def j5:List (D×D)->Key->Option D
 | [],_=>none
 |p::r,k=>cond (mF k p) (some p.2) (j5 r k)
def pA(ds:List (D×D))(e:D)(k:Key)(d:D):List (D×D):=cond (ds.any (mF k)) (ds.map fun p=>cond (mF k p) (p.1,d) p) (ds++[(e,d)])
def Ko(q:PV->PV->PM PV):PV->PV->PM PV:=fun x y i Q E=>match x.rd with
 |some (.dic ds)=>(match y with
  |.fr e=>(match keyD e with
   |some k=>gd (dh ds=true) (match j5 ds k with
    |some d=>Q (.fr d) i
    |none=>False)
   |none=>False)
  |_=>False)
 |_=>q x y i Q E
def anw(neg:Bool)(q:PV->PV->PM PV):PV->PV->PM PV:=fun x y i Q E=>match y.rd with
 |some (.dic ds)=>(match x with
  |.fr e=>(match keyD e with
   |some k=>gd (dh ds=true) (Q (.fr (.bl (neg !=(j5 ds k).isSome))) i)
   |none=>False)
  |_=>False)
 |_=>q x y i Q E
/-- x[k] = v -/
def ahX(j:Nat)(qv qk:aH->PM PV):aH->PMS:=fun r i Q=>match r[j]? with
 |some (some (.ow (.dic ds)))=>qv r i (fun x i1=>match x.frz with
  |some d=>qk r i1 (fun y i2=>match y with
   |.fr e=>(match keyD e with
    |some k=>gd (dh ds=true/\ds.length<sizeLine) (Q (.nx (r.set j (some (.ow (.dic (pA ds e k d)))))) i2)
    |none=>False)
   |_=>False) (fun c fs i2=>Q (.xc c fs r) i2)
  |none=>False) (fun c fs i1=>Q (.xc c fs r) i1)
 |_=>False
section
variable [Tabs]{g:Gh}{A A0:AS}{S S' S1:Sto}{n j n0:Nat}{i i':Int}{w w':Nat->Option Nat}{ρ ρ':Rho}{r r':aH}{kvs:List (CV×CV)}{ds:List (D×D)}{ch me mk:Rho->M CV}{m m1:Rho->M CF}{qe qm qv qk:aH->PM PV}{v c:CV}{d e:D}{k:Key}{pv:PV}
theorem xK(h:DV A S c e)(hk:keyD e=some k):ckey c=some k:=by
 cases h<;>first|exact hk|cases hk
theorem W3{p:CV×CV}{q:D×D}(h:DV A S p.1 q.1)(hf:(keyD q.1).isSome=true):Es k p=mF k q:=by
 unfold mF Es
 cases e:keyD q.1 with
 |none=>rw[e]at hf;cases hf
 |some j=>rw[xK h e]
theorem vU{p:D×D}(hf:dh (p::ds)=true):(keyD p.1).isSome=true/\dh ds=true:=by
 obtain⟨a,b⟩:=p
 cases a<;>first|exact⟨rfl,hf⟩|cases hf
theorem QV(h:DVp A S kvs ds)(hf:dh ds=true):match j5 ds k with
    |some d=>∃c,o9 kvs k=some c/\DV A S c d
    |none=>o9 kvs k=none:=by
  induction ds generalizing kvs with
  |nil=>cases h;rfl
  |cons p ds ih=>
   obtain⟨h1,h2⟩:=vU hf
   cases h with
   | @cons k0 v0 e0 d0 vs _ hk hv hr=>
     have es:Es k (k0,v0)=mF k (e0,d0):=W3 (p:=(k0,v0)) (q:=(e0,d0)) hk h1
     unfold j5
     cases b:mF k (e0,d0) with
     |true=>
      rw[b]at es
      exact⟨v0,by unfold o9;rw[kA es];rfl,hv⟩
     |false=>
      rw[b]at es
      have e1:o9 ((k0,v0)::vs) k=o9 vs k:=by unfold o9;rw[kB (by rw[es];decide)]
      rw[e1]
      exact ih hr h2
theorem apn(h:DVp A S kvs ds)(hf:dh ds=true):kvs.any (Es k)=ds.any (mF k):=by
 induction ds generalizing kvs with
 |nil=>cases h;rfl
 |cons p ds ih=>
  obtain⟨h1,h2⟩:=vU hf
  cases h with
  |cons hk hv hr=>rw[dz,dz,ih hr h2,W3 hk h1]
theorem ag0(h:DVp A S kvs ds)(hf:dh ds=true)(hk:DV A S c e)(hv:DV A S v d):DVp A S (Ba kvs c k v) (pA ds e k d):=by
 unfold Ba pA
 rw[apn h hf]
 cases ds.any (mF k) with
 |true=>
  rw[if_pos rfl]
  show DVp A S _ (ds.map _)
  induction ds generalizing kvs with
  |nil=>cases h;exact .nil
  |cons p ds ih=>
   obtain⟨h1,h2⟩:=vU hf
   cases h with
   | @cons k0 v0 e0 d0 vs _ hk0 hv0 hr=>
    have es:Es k (k0,v0)=mF k (e0,d0):=W3 (p:=(k0,v0)) (q:=(e0,d0)) hk0 h1
    rw[ax,ax,es]
    cases mF k (e0,d0) with
    |true=>exact .cons hk0 hv (ih hr h2)
    |false=>exact .cons hk0 hv0 (ih hr h2)
 |false=>
  rw[if_neg (by decide)]
  show DVp A S _ (ds++_)
  induction ds generalizing kvs with
  |nil=>cases h;exact .cons hk hv .nil
  |cons p ds ih=>
   obtain⟨h1,h2⟩:=vU hf
   cases h with
   |cons hk0 hv0 hr=>exact .cons hk0 hv0 (ih hr h2)
theorem vQ{xs:List (CV×CV)}(h:S[n]?=some (.dic xs)\/S[n]?=some (.frz (.dic xs))):xX S n=some xs:=by
 unfold xX
 rcases h with h|h<;>rw[h]
/-- what is no dict on trees is none in the store -/
theorem VR.Zr(a:Amb g A i S)(h:VR g A n0 S v pv)(hd:∀ds,pv.rd≠some (.dic ds)):∀n,v=.ref n->xX S n=none:=by
 intro n hn
 subst hn
 have key:∀o,S[n]?=some o->(∀kvs,o≠ .dic kvs)->(∀kvs,o≠ .frz (.dic kvs))->(∀kvs,o≠ .mdc kvs)->xX S n=none:=fun o h h1 h2 h3=>by
  unfold xX
  rw[h]
  cases o with
  |dic kvs=>exact absurd rfl (h1 kvs)
  |frz o=>cases o with
   |dic kvs=>exact absurd rfl (h2 kvs)
   |_=>rfl
  |mdc kvs=>exact absurd rfl (h3 kvs)
  |_=>rfl
 have ob:∀{A:AS}{d:D},DB A S n d->(∀ds,d≠ .dic ds)->xX S n=none:=fun {A d} h hd=>by
  cases d<;>first|exact h.elim|skip
  ·obtain⟨xs,h1,_⟩:=h;exact key _ h1 (fun _ z=>nomatch z) (fun _ z=>nomatch z) (fun _ z=>nomatch z)
  ·exact absurd rfl (hd _)
  ·obtain⟨xs,h1,_⟩:=h;exact key _ h1 (fun _ z=>nomatch z) (fun _ z=>nomatch z) (fun _ z=>nomatch z)
  ·obtain⟨xs,h1,_⟩:=h;exact key _ h1 (fun _ z=>nomatch z) (fun _ z=>nomatch z) (fun _ z=>nomatch z)
 cases pv with
 |fr d=>
  cases h with
  |lst h1 _ _=>exact key _ h1 (fun _ z=>nomatch z) (fun _ z=>nomatch z) (fun _ z=>nomatch z)
  |dic h1 _ _=>exact absurd rfl (hd _)
  |obj h1 _ _=>exact key _ h1 (fun _ z=>nomatch z) (fun _ z=>nomatch z) (fun _ z=>nomatch z)
  |odd h1 _ _=>exact key _ h1 (fun _ z=>nomatch z) (fun _ z=>nomatch z) (fun _ z=>nomatch z)
 |ow d=>
  obtain⟨m,e,_,r⟩:=h
  cases e
  exact ob r.db fun ds z=>hd ds (by rw[z];rfl)
 |bo d=>
  obtain⟨m,e,_,r⟩:=h
  cases e
  exact ob r fun ds z=>hd ds (by rw[z];rfl)
 |pen=>
  cases h
  obtain⟨t,s,h1,_⟩:=a.pen.ex
  exact key _ h1 (fun _ z=>nomatch z) (fun _ z=>nomatch z) (fun _ z=>nomatch z)
theorem mU{m:CV->CV->M CV}{q:PV->PV->PM PV}(h:dO m q):dO (Bj m) (Ko q):=⟨fun g A n0 S x y px py i a hp hA hn hx hy Q E hq=>by
 unfold Ko at hq
 split at hq
 ·rename_i ds hd
  split at hq
  ·rename_i e
   split at hq
   ·rename_i k hk
    obtain⟨hf,hq⟩:=cQ.mp hq
    obtain⟨n,fs,rfl,hS,hr⟩:=hx.pairs hd
    have l:=QV (k:=k) hr hf
    split at hq
    ·rename_i d hl
     rw[hl]at l
     obtain⟨c,h1,h2⟩:=l
     have ev:Bj m (.ref n) y S=.ok c S:=by
      unfold Bj
      dsimp only
      rw[vQ hS]
      dsimp only
      rw[xK hy hk]
      dsimp only
      rw[if_pos (dY hr hf),h1]
     rw[ev]
     exact⟨_,i,hq,h2,a.pen,Ext.refl⟩
    ·exact hq.elim
   ·exact hq.elim
  ·exact hq.elim
 ·rename_i hd
  have ev:Bj m x y S=m x y S:=by
   unfold Bj
   cases x with
   |ref n=>dsimp only;rw[hx.Zr a (fun ds z=>hd ds z) n rfl]
   |_=>rfl
  rw[ev]
  exact h.run g A n0 S x y px py i a hp hA hn hx hy Q E hq⟩
theorem ah5{neg:Bool}{m:CV->CV->M CV}{q:PV->PV->PM PV}(h:dO m q):dO (afy neg m) (anw neg q):=⟨fun g A n0 S x y px py i a hp hA hn hx hy Q E hq=>by
 unfold anw at hq
 split at hq
 ·rename_i ds hd
  split at hq
  ·rename_i e
   split at hq
   ·rename_i k hk
    obtain⟨hf,hq⟩:=cQ.mp hq
    obtain⟨n,fs,rfl,hS,hr⟩:=hy.pairs hd
    have l:=QV (k:=k) hr hf
    have es:(o9 fs k).isSome=(j5 ds k).isSome:=by
     cases hl:j5 ds k with
     |none=>rw[hl]at l;rw[l];rfl
     |some d=>rw[hl]at l;obtain⟨c,h1,_⟩:=l;rw[h1];rfl
    have ev:afy neg m x (.ref n) S=.ok (.bl (neg !=(o9 fs k).isSome)) S:=by
     unfold afy
     dsimp only
     rw[vQ hS]
     dsimp only
     rw[xK hx hk]
     dsimp only
     rw[if_pos (dY hr hf)]
    rw[ev,es]
    exact⟨_,i,hq,.bl _,a.pen,Ext.refl⟩
   ·exact hq.elim
  ·exact hq.elim
 ·rename_i hd
  have ev:afy neg m x y S=m x y S:=by
   unfold afy
   cases y with
   |ref n=>dsimp only;rw[hy.Zr a (fun ds z=>hd ds z) n rfl]
   |_=>rfl
  rw[ev]
  exact h.run g A n0 S x y px py i a hp hA hn hx hy Q E hq⟩
theorem Lh(hv:dI g A0 me qv)(hk:dI g A0 mk qk):iZ g A0 (d9 me (wU (aK j) mk)) (ahX j qv qk):=⟨fun w S ρ r i a hr Q q=>by
 unfold ahX at q
 split at q
 ·rename_i ds hj
  rw[Ln]
  refine(hv.run w S ρ r i a hr _ _ q).imp (fun v S1 ⟨pv,i1,hq,hvv,hp,e1⟩=>?_) fun c fs S1 ⟨gs,i1,k1,k2,k3,k4⟩=>⟨.xc c gs r,i1,k1,⟨rfl,w,Stp.of a k3 k4,hr.ext a k3 k4,k2⟩,k3⟩
  have a1:=a.next hp e1
  have hr1:=hr.ext a hp e1
  dsimp only at hq
  split at hq
  ·rename_i d ef
   have hd:DV (Ow A0 w) S1 v d:=VR.frz (hr.lt a) hvv ef
   obtain⟨n,h1,h2,xs,h3,h4⟩:=hr1.own hj
   show Wp (bnd (aK j ρ) (fun x=>bnd (mk ρ) fun i=>bnd (rM x i v) fun _=>ret ρ) S1) _ _
   rw[bW,xU,h1]
   dsimp only
   rw[bW]
   refine(hk.run w S1 ρ r i1 a1 hr1 _ _ hq).imp (fun y S2 ⟨py,i2,hq2,hy,hp2,e2⟩=>?_) fun c fs S2 ⟨gs,i2,k1,k2,k3,k4⟩=>⟨.xc c gs r,i2,k1,⟨rfl,w,(Stp.of a hp e1).trans (Stp.of a1 k3 k4),hr1.ext a1 k3 k4,k2⟩,k3⟩
   have a2:=a1.next hp2 e2
   have hr2:=hr1.ext a1 hp2 e2
   dsimp only at hq2
   split at hq2
   ·rename_i e
    split at hq2
    ·rename_i k hk
     obtain⟨⟨hf,hl⟩,hq2⟩:=cQ.mp hq2
     obtain⟨n',g1,g2,xs',g3,g4⟩:=hr2.own hj
     rw[h2]at g2
     cases g2
     have hy:DV (Ow A0 w) S2 y e:=hy
     have ea:rM (.ref n) y v S2=.ok () (S2.set n (.dic (Ba xs' y k v))):=by
      unfold rM
      dsimp only
      rw[g3]
      dsimp only
      rw[xK hy hk]
      dsimp only
      rw[if_pos ⟨dY g4 hf,by rw[g4.length];exact hl⟩]
     rw[bW,ea]
     have ki:Kp (Ow A0 w) S2 (Ow A0 w) (S2.set n (.dic (Ba xs' y k v))):=fun m o' hm e=>⟨by rw[ah (fun z=>hm (.inr ⟨j,by rw[h2,z]⟩))];exact e,hm⟩
     have hn:=(aa.mp g3).1
     obtain⟨k1,k2,k3⟩:=hr2.chg (e:=.dic (pA ds e k d)) (o:=.dic (Ba xs' y k v)) a2 hj h2 ⟨_,aE hn,ag0 (g4.mono ki) hf (hy.mono ki) ((hd.mono (hr1.kp a1 e2)).mono ki)⟩ (fun z=>nomatch z)
     exact⟨_,i2,hq2,⟨w,((Stp.of a hp e1).trans (Stp.of a1 hp2 e2)).trans k2,k1⟩,k3⟩
    ·exact hq2.elim
   ·exact hq2.elim
  ·exact hq.elim
 ·exact q.elim⟩
end
def yS(t:D->aH->Option aH)(qt:aH->PM Bool)(qk qv:aH->PM PV)(r:aH):List D->List (D×D)->Int->(List (D×D)->Int->Prop)->Prop
 | []=>fun acc i Q=>Q acc i
 |d::ds=>fun acc i Q=>match t d r with
  |some r1=>qt r1 i (fun b i1=>cond b (qk r1 i1 (fun x i2=>match x with
   |.fr e=>(match keyD e with
    |some k=>qv r1 i2 (fun y i3=>match y.frz with
     |some v=>gd (dh acc=true/\acc.length<sizeLine) (yS t qt qk qv r ds (pA acc e k v) i3 Q)
     |none=>False) NoX
    |none=>False)
   |_=>False) NoX) (yS t qt qk qv r ds acc i1 Q)) NoX
  |none=>False
def akt(W:Prop->Prop)(qi:aH->PM (List D))(t:D->aH->Option aH)(qt:aH->PM Bool)(qk qv:aH->PM PV)(vs:List Nat):aH->PM PV:=fun r i Q E=>qi r i (fun ds i1=>W (yS t qt qk qv (Zw r vs) ds [] i1 (fun ds' i2=>Q (.ow (.dic ds')) i2))) E
section
variable [Tabs]{g:Gh}{A A0:AS}{S S' S1:Sto}{n j n0:Nat}{i i':Int}{w w':Nat->Option Nat}{ρ ρ':Rho}{r r':aH}{kvs:List (CV×CV)}{ch me mk mv:Rho->M CV}{m m1:Rho->M CF}{qe qm qv qk:aH->PM PV}{mt:Rho->M Bool}{qt:aH->PM Bool}{mi:Rho->M Src}{qi:aH->PM (List D)}
variable {s:List (CV×CV)->List CV}{sd:List (D×D)->List D}
theorem auJ{chk:Sto->Bool}{g:CV->Rho->Option Rho}{Q:Unit->Sto->Prop}{E:Str->List (Str×CV)->Sto->Prop}:Wp (Oj chk n g mt mk mv ρ [] S) Q E=(if chk S=true then Q () S else False):=by
 unfold Oj;split<;>rfl
theorem auK{chk:Sto->Bool}{g:CV->Rho->Option Rho}{x:CV}{xs:List CV}{Q:Unit->Sto->Prop}{E:Str->List (Str×CV)->Sto->Prop}:Wp (Oj chk n g mt mk mv ρ (x::xs) S) Q E=(if chk S=true then (match g x ρ with
    |some ρ1=>Wp (mt ρ1 S) (fun b S2=>if b=true then Wp (mk ρ1 S2) (fun y S3=>Wp (mv ρ1 S3) (fun z S4=>Wp (putAt n y z S4) (fun _ S5=>Wp (Oj chk n g mt mk mv ρ xs S5) Q E) NoE) NoE) NoE else Wp (Oj chk n g mt mk mv ρ xs S2) Q E) NoE
    |none=>False) else False):=by
  rw[Oj]
  split
  · cases g x ρ with
    |none=>rfl
    |some ρ1=>
     dsimp only
     cases mt ρ1 S with
     |bad=>rfl
     |exc _ _ _=>rfl
     |ok b S2=>
      cases b with
      |false=>rfl
      |true=>
       dsimp only[Wp]
       rw[if_pos rfl,if_pos rfl]
       cases mk ρ1 S2 with
       |bad=>rfl
       |exc _ _ _=>rfl
       |ok y S3=>
        dsimp only[Wp]
        cases mv ρ1 S3 with
        |bad=>rfl
        |exc _ _ _=>rfl
        |ok z S4=>
         dsimp only[Wp]
         cases putAt n y z S4 with
         |bad=>rfl
         |exc _ _ _=>rfl
         |ok u S5=>rfl
  · rfl
theorem axz{g:CV->Rho->Option Rho}{vs:List Nat}{Q:CV->Sto->Prop}{E:Str->List (Str×CV)->Sto->Prop}:Wp (mDc mi g mt mk mv vs ρ S) Q E=Wp (mi ρ S) (fun src S1=>Wp (Oj src.chk S1.length g mt mk mv (pB ρ vs) src.items (S1++[.dic []])) (fun _ S2=>Q (.ref S1.length) S2) E) E:=by
 unfold mDc;rw[bW];congr;funext src S1;rw[jX];rfl
theorem agL{mg:CV->Rho->Option Rho}{t:D->aH->Option aH}{o:List (Nat×CO)}{chk:Sto->Bool}{S0:Sto}{E:Str->List (Str×CV)->Sto->Prop}(hg:ad5 mg t)(ht:G9 g A0 mt qt)(hk:dI g A0 mk qk)(hv:dI g A0 mv qv)(hchk:∀{A S},Stable A S o->chk S=true)(hJ:r.length<=j)(hw:w j=some n)(hn:S0.length<=n):∀{ds:List D}{xs:List CV}{S:Sto}{acc:List (CV×CV)}{ad:List (D×D)}{i:Int},
    Amb g A0 i S->cU g A0 w S ρ r->DVs (Ow A0 w) S xs ds->Stable (Ow A0 w) S o->S[n]?=some (.dic acc)->DVp (Ow A0 w) S acc ad->Ext g.p S0 S->∀Q,yS t qt qk qv r ds ad i Q->
    Wp (Oj chk n mg mt mk mv ρ xs S) (fun _ S'=>∃ds' i',Q ds' i'/\(∃acc',S'[n]?=some (.dic acc')/\DVp (Ow A0 w) S' acc' ds')/\jY g.p g.c g.cells i' S'/\Ext g.p S0 S') E
  | [],_,S,acc,ad,i,a,hr,.nil,hs,ha,hd,ex,Q,q=>by
    rw[auJ,if_pos (hchk hs)]
    exact⟨ad,i,q,⟨acc,ha,hd⟩,a.pen,ex⟩
  |d::ds,_,S,acc,ad,i,a,hr,.cons (v:=v) hvv hx,hs,ha,hd,ex,Q,q=>by
   rw[auK,if_pos (hchk hs)]
   unfold yS at q
   cases er:t d r with
   |none=>rw[er]at q;exact q.elim
   |some r1=>
    rw[er]at q
    obtain⟨ρ1,h1,h2⟩:=hg.run g A0 w S ρ r v d r1 hr hvv er
    rw[h1]
    dsimp only
    refine(ht.run w S ρ1 r1 i a h2 _ _ q).imp (fun b S1 ⟨b',i1,hq,hb,hp,e1⟩=>?_) fun c fs S1 ⟨gs,i1,hz,_⟩=>hz.elim
    subst hb
    have a1:=a.next hp e1
    have k1:=hr.kp a e1
    have np:n≠g.p:=fun z=>(hr.out j n hw).1 (z▸a.pin)
    have hr1:=hr.ext a hp e1
    cases b with
    |false=>
     rw[if_neg (by decide)]
     exact agL hg ht hk hv hchk hJ hw hn a1 hr1 (hx.mono k1) (hs.mono k1) (e1 _ _ np ha) (hd.mono k1) (ex.trans e1) Q hq
    |true=>
     rw[if_pos rfl]
     have h21:=h2.ext a hp e1
     refine(hk.run w S1 ρ1 r1 i1 a1 h21 _ _ hq).imp (fun y S2 ⟨py,i2,hq,hy,hp2,e2⟩=>?_) fun c fs S1 ⟨gs,i1,hz,_⟩=>hz.elim
     have a2:=a1.next hp2 e2
     have hr2:=hr1.ext a1 hp2 e2
     have k2:=hr1.kp a1 e2
     dsimp only at hq
     split at hq
     · rename_i e
       split at hq
       · rename_i k hkd
         have hy:DV (Ow A0 w) S2 y e:=hy
         refine(hv.run w S2 ρ1 r1 i2 a2 (h21.ext a1 hp2 e2) _ _ hq).imp (fun z S3 ⟨pz,i3,hq,hz,hp3,e3⟩=>?_) fun c fs S1 ⟨gs,i1,hz,_⟩=>hz.elim
         have a3:=a2.next hp3 e3
         have hr3:=hr2.ext a2 hp3 e3
         have k3:=hr2.kp a2 e3
         have ha3:=e3 _ _ np (e2 _ _ np (e1 _ _ np ha))
         dsimp only at hq
         cases ef:pz.frz with
         |none=>rw[ef]at hq;exact hq.elim
         |some zd=>
          rw[ef]at hq
          obtain⟨⟨hf,hl⟩,hq⟩:=cQ.mp hq
          have hzd:DV (Ow A0 w) S3 z zd:=VR.frz (hr2.lt a2) hz ef
          have hd3:=((hd.mono k1).mono k2).mono k3
          have hy3:=hy.mono k3
          have ea:putAt n y z S3=.ok () (S3.set n (.dic (Ba acc y k z))):=by
                unfold putAt
                rw[ha3]
                dsimp only
                rw[xK hy3 hkd]
                dsimp only
                rw[if_pos ⟨dY hd3 hf,by rw[hd3.length];exact hl⟩]
          rw[ea]
          obtain⟨c1,c2,c3⟩:=hr3.axI a3 hJ hw (o:=.dic (Ba acc y k z))
          have hlt:=(aa.mp ha3).1
          have ex3:Ext g.p S0 (S3.set n (.dic (Ba acc y k z))):=fun m o' hm e=>by
                have:=(aa.mp e).1
                rw[ah (by omega)]
                exact e3 _ _ hm (e2 _ _ hm (e1 _ _ hm (ex m o' hm e)))
          exact agL hg ht hk hv hchk hJ hw hn c3 c1 ((((hx.mono k1).mono k2).mono k3).mono c2) ((((hs.mono k1).mono k2).mono k3).mono c2) (aE hlt) (ag0 (hd3.mono c2) hf (hy3.mono c2) (hzd.mono c2)) ex3 Q hq
       · exact hq.elim
     · exact hq.elim
theorem ank{W:Prop->Prop}(hW:∀{P},W P->P){mg:CV->Rho->Option Rho}{t:D->aH->Option aH}{vs:List Nat}(a:Amb g A0 i S)(hr:cU g A0 w S ρ r)(hi:Rn g (Ow A0 w) (RI (Ow A0 w)) S (mi ρ S) (qi r i))(hg:ad5 mg t)(ht:G9 g A0 mt qt)(hk:dI g A0 mk qk)(hv:dI g A0 mv qv):Rn g (Ow A0 w) (fun S'=>VR g (Ow A0 w) S.length S') S (mDc mi mg mt mk mv vs ρ S) (akt W qi t qt qk qv vs r i):=fun Q E q=>by
 rw[axz]
 refine(hi _ _ q).imp (fun src S1 ⟨ds,i1,hq,⟨hs,hst⟩,hp,e1⟩=>?_) fun _ _ _ z=>z
 have a1:=a.next hp e1
 have hr1:=hr.ext a hp e1
 have l1:=a.len hp e1
 obtain⟨K,hK⟩:=hr1.fin
 have hw:w (max K r.length)=none:=hK _ (iu _ _)
 have hr2:=((hr1.aoF vs).more (j:=max K r.length) (o:=.dic []) a1 (by rw[Br];exact fk _ _) hw)
 have a2:Amb g A0 i1 (S1++[.dic []]):=a1.app
 have ki:Kp (Ow A0 w) S1 (Ow A0 (pJ w (max K r.length) (some S1.length))) (S1++[.dic []]):=fun m o' hm e=>⟨iK e,fun z=>z.elim (fun z=>hm (.inl z)) fun⟨k,ek⟩=>by
  by_cases hk:k=max K r.length
  ·subst hk;rw[aO]at ek;cases ek;have:=(aa.mp e).1;omega
  ·rw[bf hk]at ek;exact hm (.inr ⟨k,ek⟩)⟩
 refine(agL (S0:=S) (o:=src.at') hg ht hk hv (fun h=>h.chk) (j:=max K r.length) (n:=S1.length) (by rw[Br];exact fk _ _) aO l1 a2 hr2 (hs.mono ki) (hst.mono ki) pq .nil (e1.trans Ext.app) _ (hW hq)).imp (fun _ S2 ⟨ds',i2,k1,⟨acc,k2,k3⟩,k4,k5⟩=>?_) fun _ _ _ z=>z
 refine⟨_,i2,k1,⟨_,rfl,l1,acc,k2,k3.mono (Kp.less fun m hm=>?_)⟩,k4,k5⟩
 rcases hm with(hm|⟨k,ek⟩)|rfl
 ·exact .inl hm
 ·refine .inr ⟨k,?_⟩
  rw[bf (fun z=>by rw[z,hw]at ek;cases ek)];exact ek
 ·exact .inr ⟨_,aO⟩
theorem ah4{W:Prop->Prop}(hW:∀{P},W P->P){mg:CV->Rho->Option Rho}{t:D->aH->Option aH}{vs:List Nat}(hi:ad6 g A0 mi qi)(hg:ad5 mg t)(ht:G9 g A0 mt qt)(hk:dI g A0 mk qk)(hv:dI g A0 mv qv):dI g A0 (mDc mi mg mt mk mv vs) (akt W qi t qt qk qv vs):=⟨fun w S ρ r i a hr=>ank hW a hr (hi.run w S ρ r i a hr) hg ht hk hv⟩
theorem ar6{W:Prop->Prop}(hW:∀{P},W P->P){mg:CV->Rho->Option Rho}{t:D->aH->Option aH}{vs:List Nat}(hs:Sel s sd)(hg:ad5 mg t)(ht:∀{g A0},G9 g A0 mt qt)(hk:∀{g A0},dI g A0 mk qk)(hv:∀{g A0},dI g A0 mv qv):AtE ch (mDc (qQ s ch) mg mt mk mv vs) (fun ds=>akt W (pDs (sd ds)) t qt qk qv vs):=⟨fun g A0 w S ρ r i n kvs ds a hr hc h hd=>
 ank hW a hr (ace (r:=r) (hr.amb a) hs hc h hd) hg ht hk hv⟩
end
def pCs(xs:List Str):aH->PM PV:=fun _ i Q _=>Q (.fr (.tup (xs.map D.str))) i
def aov(f:Int->Int->Int)(j:Nat)(qe:aH->PM PV):aH->PMS:=fun r i Q=>match r[j]? with
 |some (some (.fr (.int a)))=>qe r i (fun y i1=>match y with
  |.fr (.int b)=>Q (.nx (r.set j (some (.fr (.int (f a b)))))) i1
  |_=>False) (fun c fs i1=>Q (.xc c fs r) i1)
 |_=>False
section
variable [Tabs]{g:Gh}{A A0:AS}{S S' S1:Sto}{n j n0:Nat}{i i':Int}{w w':Nat->Option Nat}{ρ ρ':Rho}{r r':aH}{me:Rho->M CV}{ms:Rho->M (List CV)}{qe:aH->PM PV}{qs:aH->PM (List PV)}{v:CV}{pv:PV}{ds:List D}{f:Int->Int->Int}
theorem aeU:∀{xs:List Str},DVs A S (xs.map CV.str) (xs.map D.str)
 | []=>.nil
 |x::xs=>.cons (.str x) aeU
theorem aum{xs:List Str}:dI g A0 (mC (.tup (xs.map CV.str))) (pCs xs):=⟨fun w S ρ r i a _=>Rn.ret a.pen (DV.tup aeU)⟩
theorem aml(he:dI g A0 me qe):iZ g A0 (afV f j me) (aov f j qe):=⟨fun w S ρ r i a hr Q q=>by
 unfold aov at q
 unfold afV
 split at q
 ·rename_i x hj
  obtain⟨v,h1,h2⟩:=hr.at_ j _ hj
  cases h2
  rw[h1]
  dsimp only
  refine wu a hr (he.run w S ρ r i a hr) q fun v S1 pv i1 hv hK a1 hr1 e1 st=>?_
  split at hK
  ·cases hv
   exact⟨_,i1,hK,⟨w,st,hr1.Tp (.int _)⟩,a1.pen⟩
  ·exact hK.elim
 ·exact q.elim⟩
end
def YH:List D->Option (List (D×D))
 | []=>some []
 |.tup [k,v]::r=>(match keyD k with
  |some _=>(YH r).map ((k,v):: ·)
  |none=>none)
 |_=>none
def agV(acc:List (D×D))(ps:List (D×D)):List (D×D):=ps.foldl (fun acc p=>match keyD p.1 with
 |some k=>pA acc p.1 k p.2
 |none=>acc) acc
def agM:PV->Option (List D)
 |.fr (.lst ys)=>some ys
 |.ow (.lst ys)=>some ys
 |_=>none
def zL:List PV->PM PV:=fun xs i Q _=>match xs with
 | [x]=>(match x.rd with
  |some (.dic ds)=>gd (dh ds=true) (Q (.ow (.dic ds)) i)
  |_=>(match agM x with
   |some ys=>(match YH ys with
    |some ds=>Q (.ow (.dic (agV [] ds))) i
    |none=>False)
   |none=>False))
 |_=>False
def ac2(q:List PV->PM PV):List PV->PM PV:=fun xs i Q E=>match xs with
 | [x]=>(match x.rd with
  |some (.dic ds)=>gd (dh ds=true) (Q (.ow (.lst (sdK ds))) i)
  |_=>q [x] i Q E)
 |_=>False
section
variable [Tabs]{g:Gh}{A A0:AS}{S S' S1:Sto}{n j k l n0:Nat}{i i':Int}{w w':Nat->Option Nat}{ρ ρ':Rho}{r r':aH}{me:Rho->M CV}{ms:Rho->M (List CV)}{qe:aH->PM PV}{qs:aH->PM (List PV)}{v:CV}{pv:PV}{ds:List (D×D)}{kvs:List (CV×CV)}
theorem aeB:∀{ys:List CV}{es:List D}{ds:List (D×D)},DVs A S ys es->YH es=some ds->∃ps,Pq ys=some ps/\DVp A S ps ds/\dh ds=true
 | [],_,_,.nil,h=>by cases h;exact⟨[],rfl,.nil,rfl⟩
 |y::ys,e::es,ds,.cons ry rr,h=>by
  unfold YH at h
  split at h
  ·rename_i e;cases e
  ·rename_i k v r e
   cases e
   split at h
   ·rename_i kk hk
    cases e2:YH es with
    |none=>rw[e2]at h;cases h
    |some ds'=>
     rw[e2]at h
     cases h
     obtain⟨ps,h1,h2,h3⟩:=aeB rr e2
     cases ry with
     |tup r2=>
      cases r2 with
      |cons rk r2=>cases r2 with
       |cons rv r2=>
        cases r2
        refine⟨_,?_,.cons rk rv h2,?_⟩
        ·unfold Pq
         rw[if_pos (by rw[xK rk hk];rfl),h1];rfl
        ·cases k<;>first|exact h3|cases hk
   ·cases h
  ·cases h
theorem aiU{e d:D}{k:Key}(hf:dh ds=true)(hk:keyD e=some k):dh (pA ds e k d)=true:=by
 unfold pA
 cases ds.any (mF k) with
 |true=>
  show dh (ds.map _)=true
  induction ds with
  |nil=>rfl
  |cons p ds ih=>
   obtain⟨p1,p2⟩:=p
   have h2:=(vU hf).2
   rw[ax]
   cases p1<;>first|cases hf|skip
   all_goals (cases mF k _<;>exact ih h2)
 |false=>
  show dh (ds++_)=true
  induction ds with
  |nil=>cases e<;>first|rfl|cases hk
  |cons p ds ih=>
   obtain⟨p1,p2⟩:=p
   have h2:=(vU hf).2
   cases p1<;>first|cases hf|exact ih h2
theorem aeu:∀{ps:List (CV×CV)}{ds:List (D×D)}{acc:List (CV×CV)}{ad:List (D×D)},DVp A S acc ad->dh ad=true->DVp A S ps ds->dh ds=true->DVp A S (Pa acc ps) (agV ad ds)
 |_,_,_,_,ra,_,.nil,_=>ra
 |_,_,acc,ad,ra,fa,.cons (k:=k) (v:=v) (e:=e) (d:=d) (vs:=ps) (ds:=ds) hk hv hr,hf=>by
  obtain⟨h1,h2⟩:=vU hf
  obtain⟨kk,ek⟩:=jS.mp h1
  have ek:keyD e=some kk:=ek
  unfold Pa agV
  rw[gC,gC]
  dsimp only
  rw[ek,xK hk ek]
  exact aeu (ag0 ra fa hk hv) (aiU fa ek) hr h2
theorem aiE{ys:List D}(hA:∀n,A n->n<n0)(h:VR g A n0 S v pv)(hd:agM pv=some ys):∃n xs,v=.ref n/\S[n]?=some (.lst xs)/\DVs A S xs ys:=by
 unfold agM at hd
 split at hd
 ·cases hd;cases h with|lst h1 _ r=>exact⟨_,_,rfl,h1,r⟩
 ·cases hd
  have h':=VR.frz (pv:=.ow (.lst ys)) hA h rfl
  cases h' with|lst h1 _ r=>exact⟨_,_,rfl,h1,r⟩
 ·cases hd
theorem Lj:Bc tY zL:=⟨fun g A n0 S xs ps i a hp hA hn hx Q E hq=>by
 unfold zL at hq
 split at hq
 ·rename_i px
  cases hx with
  |cons hx hr=>
   cases hr
   split at hq
   ·rename_i ds hd
    obtain⟨hf,hq⟩:=cQ.mp hq
    obtain⟨n,fs,rfl,hS,hr⟩:=hx.pairs hd
    have ev:tY [.ref n] S=.ok (.ref S.length) (S++[.dic fs]):=by
     unfold tY
     dsimp only
     rw[vQ hS]
     dsimp only
     rw[if_pos (dY hr hf)]
    rw[ev]
    exact Rn.new (R:=fun S'=>VR g A n0 S') a.pen (VR.newD hr hn) Q E hq
   ·rename_i hnd
    split at hq
    ·rename_i ys hy
     split at hq
     ·rename_i ds hds
      obtain⟨n,xs,rfl,hS,hr⟩:=aiE hA hx hy
      obtain⟨ps,h1,h2,h3⟩:=aeB hr hds
      have ev:tY [.ref n] S=.ok (.ref S.length) (S++[.dic (Pa [] ps)]):=by
       unfold tY
       dsimp only
       rw[hx.Zr a (fun ds z=>hnd ds z) n rfl]
       dsimp only
       rw[hS]
       dsimp only
       rw[h1]
      rw[ev]
      exact Rn.new (R:=fun S'=>VR g A n0 S') a.pen (VR.newD (aeu .nil rfl h2 h3) hn) Q E hq
     ·exact hq.elim
    ·exact hq.elim
 ·exact hq.elim⟩
theorem aeV{m:List CV->M CV}{q:List PV->PM PV}(h:Bc m q):Bc (Gv m) (ac2 q):=⟨fun g A n0 S xs ps i a hp hA hn hx Q E hq=>by
 unfold ac2 at hq
 split at hq
 ·rename_i px
  cases hx with
  | @cons c _ _ _ hx hr=>
   cases hr
   split at hq
   ·rename_i ds hd
    obtain⟨hf,hq⟩:=cQ.mp hq
    obtain⟨n,fs,rfl,hS,hr⟩:=hx.pairs hd
    have ev:Gv m [.ref n] S=.ok (.ref S.length) (S++[.lst (wkK fs)]):=by
     unfold Gv
     dsimp only
     rw[vQ hS]
     dsimp only
     rw[if_pos (dY hr hf)]
    rw[ev]
    exact Rn.new (R:=fun S'=>VR g A n0 S') a.pen (VR.newL (zm.run _ _ _ _ hr) hn) Q E hq
   ·rename_i hnd
    have ev:Gv m [c] S=m [c] S:=by
     unfold Gv
     cases c with
     |ref n=>dsimp only;rw[hx.Zr a (fun ds z=>hnd ds z) n rfl]
     |_=>rfl
    rw[ev]
    exact h.run g A n0 S [c] [px] i a hp hA hn (.cons hx .nil) Q E hq
 ·exact hq.elim⟩
end
/-- e does not look at the name i, and ends in a value -/
structure Quiet(i:Nat)(e:Rho->M CV):Prop where
 run:∀ρ v S,∃c S',e ρ S=.ok c S'/\e (ρ.set i v) S=.ok c S'
theorem aq0{i:Nat}{c:CV}:Quiet i (mC c):=⟨fun ρ v S=>⟨_,_,rfl,rfl⟩⟩
theorem aqT{i j:Nat}{e1 e2:Rho->M CV}(h:Quiet i e2):aar i j (au e1 (au e2 aN))=cJ (d9 e1 (gN i)) (d9 e2 (gN j)):=by
 funext ρ S
 have a1:au e1 (au e2 aN) ρ S=(e1 ρ S).bnd fun x S1=>(au e2 aN ρ S1).bnd fun xs=>ret (x::xs):=rfl
 have a2:aar i j (au e1 (au e2 aN)) ρ S=lft ρ (au e1 (au e2 aN) ρ S) fun xs S1=>match xs with
  | [x,y]=>.ok (.nx ((ρ.set i (some x)).set j (some y))) S1
  |_=>.bad:=rfl
 rw[a2,a1]
 unfold cJ d9
 cases e:e1 ρ S with
 |bad=>rfl
 |exc c fs S1=>rfl
 |ok x S1=>
  obtain⟨c,S2,h1,h2⟩:=h.run ρ (some x) S1
  have b1:au e2 aN ρ S1=.ok [c] S2:=by
   show(e2 ρ S1).bnd _=_
   rw[h1];rfl
  show lft ρ ((au e2 aN ρ S1).bnd fun xs=>ret (x::xs)) _=lft (ρ.set i (some x)) (e2 (ρ.set i (some x)) S1) _
  rw[b1,h2]
  rfl
section
variable [Tabs]{g:Gh}{A0:AS}{i j:Nat}{e1 e2:Rho->M CV}{q:aH->PMS}
theorem ams(h:Quiet i e2)(hs:iZ g A0 (cJ (d9 e1 (gN i)) (d9 e2 (gN j))) q):iZ g A0 (aar i j (au e1 (au e2 aN))) q:=by
 rw[aqT h];exact hs
end
def IW:PV->PM PV:=fun x i Q _=>match x.rd with
 |some (.lst a)=>(match uZ a,Jv a with
  |some zs,_=>gd (zs.length<4000) (Q (.ow (.lst ((sJ leS (ddL zs)).map .str))) i)
  |none,some is=>gd (is.length<4000) (Q (.ow (.lst ((sJ leI (ddL is)).map .int))) i)
  |none,none=>False)
 |_=>False
section
variable [Tabs]
theorem agj:Fo Jj IW:=⟨fun g A n0 S x px i a h0 hA hn hx=>by
 intro Q E q
 unfold IW at q
 simp only[cQ]at q
 split at q
 ·rename_i z ez
  obtain⟨n,xs,rfl,h3,h4⟩:=hx.items ez
  unfold Jj
  dsimp only
  rw[h3]
  dsimp only
  rw[Rf h4,abZ h4]
  cases e1:uZ z with
  |some zs=>
   rw[e1]at q
   dsimp only at q ⊢
   rw[if_pos q.1]
   exact⟨_,i,q.2,VR.newL (Qq _) hn,a.pen.app,Ext.app⟩
  |none=>
   rw[e1]at q
   cases e2:Jv z with
   |none=>rw[e2]at q;exact q.elim
   |some zs=>
    rw[e2]at q
    dsimp only at q ⊢
    rw[if_pos q.1]
    exact⟨_,i,q.2,VR.newL (Xg _) hn,a.pen.app,Ext.app⟩
 ·exact q.elim⟩
end
def Zk:D->D->Option Bool
 |.str a,.str b=>some (a==b)
 |.int a,.int b=>some (a==b)
 |.str _,.int _=>some false
 |.int _,.str _=>some false
 |_,_=>none
def uL(ls:List (D×D)):List (D×D)->Option Bool
 | []=>some true
 |p::r=>match keyD p.1 with
  |none=>none
  |some k=>match j5 ls k with
   |none=>some false
   |some d=>match Zk p.2 d,uL ls r with
    |some e,some b=>some (e&&b)
    |_,_=>none
theorem yP{ls r:List (D×D)}{p:D×D}:uL ls (p::r)=(match keyD p.1 with
    |none=>none
    |some k=>match j5 ls k with
     |none=>some false
     |some d=>match Zk p.2 d,uL ls r with
      |some e,some b=>some (e&&b)
      |_,_=>none):=rfl
theorem afx{ls r:List (CV×CV)}{p:CV×CV}:Zm ls (p::r)=(match ckey p.1 with
    |none=>none
    |some k=>match o9 ls k with
     |none=>some false
     |some d=>match apA p.2 d,Zm ls r with
      |some e,some b=>some (e&&b)
      |_,_=>none):=rfl
def afi(neg:Bool)(q:PV->PV->PM PV):PV->PV->PM PV:=fun x y i Q E=>match x.rd,y.rd with
 |some (.dic ks),some (.dic ls)=>gd (dh ks=true/\dh ls=true) (match uL ls ks with
  |some r=>Q (.fr (.bl (neg !=((ks.length==ls.length)&&r)))) i
  |none=>False)
 |_,_=>q x y i Q E
section
variable [Tabs]{A:AS}{S:Sto}
theorem apC{c u:CV}{d e:D}(h1:DV A S c d)(h2:DV A S u e){r:Bool}(h:Zk d e=some r):apA c u=some r:=by
 cases h1<;>cases h2<;>first|exact h|(exfalso;revert h;unfold Zk;simp)
theorem DVp.len:∀{ks:List (CV×CV)}{ds:List (D×D)},DVp A S ks ds->ks.length=ds.length
 |_,_,.nil=>rfl
 |_,_,.cons _ _ r=>by rw[ai,ai,DVp.len r]
theorem aej{ls:List (CV×CV)}{dl:List (D×D)}(hl:DVp A S ls dl)(hf:dh dl=true):∀{ks:List (CV×CV)}{dk:List (D×D)}{r:Bool},DVp A S ks dk->uL dl dk=some r->Zm ls ks=some r
 | [],[],r,.nil,h=>h
 |p::ks,q::dk,r,.cons h1 h2 t,h=>by
  rw[yP]at h
  rw[afx]
  split at h
  ·cases h
  ·rename_i k ek
   rw[xK h1 ek]
   dsimp only
   have l:=QV (k:=k) hl hf
   split at h
   ·rename_i el
    rw[el]at l
    rw[l]
    exact h
   ·rename_i d el
    rw[el]at l
    obtain⟨c,l1,l2⟩:=l
    rw[l1]
    dsimp only
    split at h
    ·rename_i e b e2 e3
     rw[apC h2 l2 e2,aej hl hf t e3]
     exact h
    ·cases h
theorem amn{neg:Bool}{m:CV->CV->M CV}{q:PV->PV->PM PV}(h:dO m q):dO (V6 neg m) (afi neg q):=⟨fun g A n0 S x y px py i a hp hA hn hx hy Q E hq=>by
 unfold afi at hq
 split at hq
 ·rename_i ks ls hk hl
  obtain⟨⟨f1,f2⟩,hq⟩:=cQ.mp hq
  split at hq
  ·rename_i r er
   obtain⟨n,xs,rfl,hS,h1⟩:=hx.pairs hk
   obtain⟨m',ys,rfl,hS2,h2⟩:=hy.pairs hl
   have ev:V6 neg m (.ref n) (.ref m') S=.ok (.bl (neg !=((ks.length==ls.length)&&r))) S:=by
    unfold V6
    dsimp only
    rw[vQ hS,vQ hS2]
    dsimp only
    rw[dY h1 f1,dY h2 f2,aej h2 f2 h1 er,h1.len,h2.len]
    rfl
   rw[ev]
   exact⟨_,i,hq,.bl _,a.pen,Ext.refl⟩
  ·exact hq.elim
 ·rename_i hd
  have ev:V6 neg m x y S=m x y S:=by
   unfold V6
   by_cases hxd:∃ds,px.rd=some (.dic ds)
   ·obtain⟨ds,e1⟩:=hxd
    have e2:=hy.Zr a (fun es z=>hd ds es e1 z)
    cases x with
    |ref n=>cases y with
     |ref m'=>
      dsimp only
      rw[e2 m' rfl]
      cases xX S n<;>rfl
     |_=>rfl
    |_=>rfl
   ·have e2:=hx.Zr a (fun es z=>hxd ⟨es,z⟩)
    cases x with
    |ref n=>cases y with
     |ref m'=>dsimp only;rw[e2 n rfl]
     |_=>rfl
    |_=>rfl
  rw[ev]
  exact h.run g A n0 S x y px py i a hp hA hn hx hy Q E hq⟩
end
set_option maxHeartbeats 1000000
variable [Tabs]
section
variable {t:D->aH->Option aH}{qt:aH->PM Bool}{qe qk qv:aH->PM PV}{r:aH}{i:Int}
theorem Wm{α:Type}{g:α->D}{f:α->Option D}{Q:List D->Int->Prop}:∀{l:List α}{acc:List D},acc.length+l.length<=1000000->(∀x∈l,∀K:Option D->Int->Prop,K (f x) i->zp t qt qe r (g x) i K)->Q (acc++l.filterMap f) i->Ay t qt qe r (l.map g) acc i Q
 | [],acc,hl,h,k=>by rw[List.filterMap_nil,aT]at k;exact k
 |x::l,acc,hl,h,k=>by
  rw[ai]at hl
  rw[ax,ahL]
  refine h x af _ ?_
  rw[bc]at k
  cases e:f x with
  |none=>
   rw[e]at k
   exact Wm (by omega) (fun y hy=>h y (ag _ hy)) k
  |some y=>
   rw[e]at k
   refine wF (by unfold sizeLine;omega) (Wm (by rw[bg,cK];omega) (fun y hy=>h y (ag _ hy)) ?_)
   rw[a7];exact k
theorem ahx{α β:Type}{f:α->β}:∀{l:List α},l.filterMap (fun x=>some (f x))=l.map f
 | []=>rfl
 |x::l=>by rw[bc,ahx];rfl
/-- each turn tells f -/
theorem Ab{α:Type}{g:α->D}{f:α->D}{Q:List D->Int->Prop}{l:List α}(hl:l.length<=1000000)(h:∀x∈l,∀K:Option D->Int->Prop,K (some (f x)) i->zp t qt qe r (g x) i K)(k:Q (l.map f) i):Ay t qt qe r (l.map g) [] i Q:=
 Wm (f:=fun x=>some (f x)) (by simpa using hl) h (by rw[cc,ahx];exact k)
theorem QT{α:Type}{g:α->D}{f:α->D}{p:α->Bool}{Q:List D->Int->Prop}{l:List α}(hl:l.length<=1000000)(h:∀x∈l,∀K:Option D->Int->Prop,K (if p x then some (f x) else none) i->zp t qt qe r (g x) i K)(k:Q ((l.filter p).map f) i):Ay t qt qe r (l.map g) [] i Q:=
 Wm (f:=fun x=>if p x then some (f x) else none) (by simpa using hl) h (by
  rw[cc]
  have:∀l:List α,l.filterMap (fun x=>if p x then some (f x) else none)=(l.filter p).map f:=fun l=>by
   induction l with
   |nil=>rfl
   |cons x l ih=>
    rw[bc,dC,ih]
    cases p x<;>rfl
  rw[this];exact k)
def O6(t:D->aH->Option aH)(qt:aH->PM Bool)(qk qv:aH->PM PV)(r:aH)(d:D)(j:Int)(K:Option (D×D)->Int->Prop):Prop:=match t d r with
 |some r1=>qt r1 j (fun b i1=>cond b (qk r1 i1 (fun x i2=>match x with
  |.fr e=>(match keyD e with
   |some k=>qv r1 i2 (fun y i3=>match y.frz with
    |some v=>K (some (e,v)) i3
    |none=>False) NoX
   |none=>False)
  |_=>False) NoX) (K none i1)) NoX
 |none=>False
/-- rows of numbers and values -/
def cX{α:Type}(k:α->Int)(v:α->D)(l:List α):List (D×D):=l.map fun x=>(.int (k x),v x)
theorem aM{α:Type}{k:α->Int}{v:α->D}:∀{l:List α},dh (cX k v l)=true
 | []=>rfl
 |x::l=>aM (l:=l)
theorem v7{α:Type}{k:α->Int}{v:α->D}{l:List α}:sdK (cX k v l)=l.map fun x=>D.int (k x):=by
 unfold sdK cX;rw[bp];rfl
theorem BR{α:Type}{k:α->Int}{v:α->D}{l:List α}:(cX k v l).length=l.length:=by unfold cX;rw[ar]
/-- the keys as4 -/
def UpK{α:Type}(k:α->Int)(l:List α):Prop:=l.Pairwise fun x y=>k x<k y
theorem UpK.fil{α:Type}{k:α->Int}{l:List α}{p:α->Bool}(h:UpK k l):UpK k (l.filter p):=h.filter p
theorem same_int{j:Int}{k:Int}{d:D}:mF (.inl j) (.int k,d)=decide (k=j):=by
 show decide ((kM k:Key)=.inl j)=_
 by_cases h:k=j
 ·rw[h];simp
 ·rw[decide_eq_false h,decide_eq_false (fun z=>h (by cases z;rfl))]
theorem cM{α:Type}{k:α->Int}{v:α->D}{x:α}:∀{l:List α},UpK k l->x∈l->j5 (cX k v l) (.inl (k x))=some (v x)
 |y::l,h,hx=>by
  show cond (mF (.inl (k x)) (.int (k y),v y)) (some (v y)) (j5 (cX k v l) (.inl (k x)))=_
  obtain⟨h1,h2⟩:=bC.mp h
  rw[same_int]
  rcases av.mp hx with rfl|hx
  ·rw[decide_eq_true rfl];rfl
  ·have:=h1 x hx
   rw[decide_eq_false (by omega)]
   exact cM h2 hx
theorem Xk{α:Type}{k:α->Int}{v:α->D}{j:Int}:∀{l:List α},(∀x∈l,k x≠j)->j5 (cX k v l) (.inl j)=none
 | [],_=>rfl
 |y::l,h=>by
  show cond (mF (.inl j) (.int (k y),v y)) (some (v y)) (j5 (cX k v l) (.inl j))=_
  rw[same_int,decide_eq_false (h y af)]
  exact Xk fun x hx=>h x (ag _ hx)
theorem agI{α:Type}{k:α->Int}{v:α->D}{j:Int}:∀{l:List α},(∀x∈l,k x≠j)->(cX k v l).any (mF (.inl j))=false
 | [],_=>rfl
 |y::l,h=>by
  show(mF (.inl j) (.int (k y),v y)||(cX k v l).any (mF (.inl j)))=false
  rw[same_int,decide_eq_false (h y af),agI fun x hx=>h x (ag _ hx)]
  rfl
theorem aeL{α:Type}{k:α->Int}{v:α->D}{l:List α}{x:α}(h:∀y∈l,k y<k x):pA (cX k v l) (.int (k x)) (.inl (k x)) (v x)=cX k v (l++[x]):=by
 unfold pA
 rw[agI fun y hy=>by have:=h y hy;omega]
 show cX k v l++[(.int (k x),v x)]=_
 unfold cX
 rw[il];rfl
theorem V5{α:Type}{g:α->D}{p:α->Bool}{k:α->Int}{v:α->D}{Q:List (D×D)->Int->Prop}:∀{l acc:List α},acc.length+l.length<=1000000->UpK k (acc++l)->(∀x∈l,∀K:Option (D×D)->Int->Prop,K (if p x then some (.int (k x),v x) else none) i->O6 t qt qk qv r (g x) i K)->Q (cX k v (acc++l.filter p)) i->yS t qt qk qv r (l.map g) (cX k v acc) i Q
 | [],acc,hl,hu,h,q=>by rw[List.filter_nil,aT]at q;exact q
 |x::l,acc,hl,hu,h,q=>by
  rw[ai]at hl
  rw[ax]
  have st:yS t qt qk qv r (g x::l.map g) (cX k v acc) i Q=O6 t qt qk qv r (g x) i fun o i2=>match o with
   |some e=>(match keyD e.1 with
    |some j=>gd (dh (cX k v acc)=true/\(cX k v acc).length<sizeLine) (yS t qt qk qv r (l.map g) (pA (cX k v acc) e.1 j e.2) i2 Q)
    |none=>False)
   |none=>yS t qt qk qv r (l.map g) (cX k v acc) i2 Q:=by
   show(match t (g x) r with
    |some r1=>qt r1 i (fun b i1=>cond b (qk r1 i1 (fun x i2=>match x with
     |.fr e=>(match keyD e with
      |some j=>qv r1 i2 (fun y i3=>match y.frz with
       |some v'=>gd (dh (cX k v acc)=true/\(cX k v acc).length<sizeLine) (yS t qt qk qv r (l.map g) (pA (cX k v acc) e j v') i3 Q)
       |none=>False) NoX
      |none=>False)
     |_=>False) NoX) (yS t qt qk qv r (l.map g) (cX k v acc) i1 Q)) NoX
    |none=>False)=_
   unfold O6
   congr 1
   funext r1
   congr 1
   funext b i1
   congr 1
   congr 1
   funext x i2
   split
   ·split
    ·rename_i e j ej
     simp only[ej]
    ·rfl
   ·rfl
  rw[st]
  refine h x af _ ?_
  rw[dC]at q
  cases e:p x with
  |false=>
   rw[e]at q
   rw[if_neg (by decide)]
   refine V5 (by omega) ?_ (fun y hy=>h y (ag _ hy)) q
   exact List.Pairwise.sublist (List.Sublist.append (List.Sublist.refl acc) (List.sublist_cons_self x l)) hu
  |true=>
   rw[e]at q
   rw[if_pos rfl]
   refine wF ⟨aM,by rw[BR];unfold sizeLine;omega⟩ ?_
   show yS t qt qk qv r (l.map g) (pA (cX k v acc) (.int (k x)) (.inl (k x)) (v x)) i Q
   rw[aeL fun y hy=>(iC.mp hu).2.2 y hy x af]
   refine V5 (by rw[bg,cK];omega) (by rw[a7];exact hu) (fun y hy=>h y (ag _ hy)) ?_
   rw[a7];exact q
theorem Ye{α:Type}{g:α->D}{k:α->Int}{v:α->D}{Q:List (D×D)->Int->Prop}{l:List α}(hl:l.length<=1000000)(hu:UpK k l)(h:∀x∈l,∀K:Option (D×D)->Int->Prop,K (some (.int (k x),v x)) i->O6 t qt qk qv r (g x) i K)(q:Q (cX k v l) i):yS t qt qk qv r (l.map g) [] i Q:=
 V5 (acc:=[]) (p:=fun _=>true) (by simpa using hl) hu (fun x hx K hK=>h x hx K (by simpa using hK)) (by rw[cc,List.filter_eq_self.mpr (fun _ _=>rfl)];exact q)
theorem as9{α:Type}{g:α->D}{p:α->Bool}{k:α->Int}{v:α->D}{Q:List (D×D)->Int->Prop}{l:List α}(hl:l.length<=1000000)(hu:UpK k l)(h:∀x∈l,∀K:Option (D×D)->Int->Prop,K (if p x then some (.int (k x),v x) else none) i->O6 t qt qk qv r (g x) i K)(q:Q (cX k v (l.filter p)) i):yS t qt qk qv r (l.map g) [] i Q:=
 V5 (acc:=[]) (p:=p) (by simpa using hl) hu h q
end
section
variable {Q:PV->Int->Prop}{E:XP}{i:Int}{o:PV->PV->PM PV}
theorem mJ{x:PV}{ds:List (D×D)}{k:Int}{d:D}(hx:x.rd=some (.dic ds))(hf:dh ds=true)(hd:j5 ds (.inl k)=some d)(q:Q (.fr d) i):Ko o x (.fr (.int k)) i Q E:=by
 unfold Ko
 rw[hx]
 dsimp only[keyD]
 refine wF hf ?_
 rw[hd]
 exact q
theorem agQ{x:PV}{ds:List (D×D)}{k:Int}{neg b:Bool}(hx:x.rd=some (.dic ds))(hf:dh ds=true)(hb:(j5 ds (.inl k)).isSome=b)(q:Q (.fr (.bl (neg !=b))) i):anw neg o (.fr (.int k)) x i Q E:=by
 unfold anw
 rw[hx]
 dsimp only[keyD]
 refine wF hf ?_
 rw[hb]
 exact q
/-- == of rows with the same keys -/
theorem Z9{α:Type}{k:α->Int}{v w:α->Str}{ls:List (D×D)}:∀{l:List α},(∀x∈l,j5 ls (.inl (k x))=some (.str (w x)))->uL ls (cX k (fun x=>.str (v x)) l)=some (l.all fun x=>v x==w x)
 | [],_=>rfl
 |x::l,h=>by
  show uL ls ((.int (k x),.str (v x))::cX k (fun x=>.str (v x)) l)=_
  rw[yP]
  show(match j5 ls (.inl (k x)) with
   |none=>some false
   |some d=>match Zk (.str (v x)) d,uL ls (cX k (fun x=>.str (v x)) l) with
    |some e,some b=>some (e&&b)
    |_,_=>none)=_
  rw[h x af,Z9 fun y hy=>h y (ag _ hy)]
  rfl
theorem atd{x y:PV}{ks ls:List (D×D)}{neg r:Bool}(hx:x.rd=some (.dic ks))(hy:y.rd=some (.dic ls))(h1:dh ks=true)(h2:dh ls=true)(hr:uL ls ks=some r)(q:Q (.fr (.bl (neg !=((ks.length==ls.length)&&r)))) i):afi neg o x y i Q E:=by
 unfold afi
 rw[hx,hy]
 dsimp only
 refine wF ⟨h1,h2⟩ ?_
 rw[hr]
 exact q
theorem ad7{w:Str}:∀l:List Str,(l.map D.str).any (fun y=>au3 y (.str w))=decide (w∈l)
 | []=>rfl
 |y::l=>by
  rw[ax,dz,ad7 l]
  show((y==w)||decide (w∈l))=_
  by_cases h:y=w
  ·rw[h,beq_self_eq_true,decide_eq_true af];rfl
  ·rw[beq_false_of_ne h]
   by_cases h2:w∈l
   ·rw[decide_eq_true h2,decide_eq_true (ag _ h2)];rfl
   ·rw[decide_eq_false h2,decide_eq_false (fun z=>(av.mp z).elim (fun e=>h e.symm) h2)];rfl
theorem Wj{w:Str}{l:List Str}:BL (.str w) (l.map D.str)=some (decide (w∈l)):=by
 have h1:(l.map D.str).all ajD=true:=by
  rw[List.all_map];exact cg.mpr fun _ _=>rfl
 unfold BL
 rw[h1,if_pos (by rfl),ad7]
/-- a text in a list or a tuple of texts -/
theorem ahB{x:PV}{w:Str}{neg:Bool}{l:List Str}(hx:x.rd=some (.lst (l.map .str))\/x.rd=some (.tup (l.map .str)))(k:Q (.fr (.bl (neg !=decide (w∈l)))) i):p2 (inD neg) (.fr (.str w)) x i Q E:=by
 unfold p2
 rcases hx with hx|hx
 ·rw[hx]
  show(match (BL (.str w) (l.map D.str)).map fun b=>D.bl (neg !=b) with|some e=>Q (.fr e) i|none=>False)
  rw[Wj];exact k
 ·rw[hx]
  show(match (BL (.str w) (l.map D.str)).map fun b=>D.bl (neg !=b) with|some e=>Q (.fr e) i|none=>False)
  rw[Wj];exact k
theorem aeR{α:Type}{k:α->Int}:∀{l:List α},UpK k l->sJ leI (l.map k)=l.map k
 | [],_=>rfl
 |x::l,h=>by
  obtain⟨h1,h2⟩:=bC.mp h
  show aac leI (k x) (sJ leI (l.map k))=k x::l.map k
  rw[aeR h2]
  cases l with
  |nil=>rfl
  |cons y m=>
   show(if leI (k x) (k y) then k x::k y::m.map k else k y::aac leI (k x) (m.map k))=_
   rw[if_pos (by unfold leI;exact decide_eq_true (by have:=h1 y af;omega))]
   rfl
theorem ints_map{α:Type}{k:α->Int}:∀{l:List α},Jv (l.map fun x=>D.int (k x))=some (l.map k)
 | []=>rfl
 |x::l=>by rw[ax,Jv,ints_map];rfl
theorem aau{α:Type}{k:α->Int}{l:List α}{x:PV}(hx:x.rd=some (.lst (l.map fun x=>D.int (k x))))(hu:UpK k l)(hl:l.length<1000000)(q:Q (.ow (.lst (l.map fun x=>D.int (k x)))) i):FQ x i Q E:=by
 unfold FQ
 rw[hx]
 cases l with
 |nil=>exact wF (by decide) q
 |cons y m=>
  show(match uZ (D.int (k y)::m.map fun x=>D.int (k x)),Jv ((y::m).map fun x=>D.int (k x)) with
   |some zs,_=>gd (zs.length<1000000) (Q (.ow (.lst ((sJ leS zs).map .str))) i)
   |none,some is=>gd (is.length<1000000) (Q (.ow (.lst ((sJ leI is).map .int))) i)
   |none,none=>False)
  rw[ints_map,show uZ (D.int (k y)::m.map fun x=>D.int (k x))=none from rfl]
  dsimp only
  refine wF (by rw[ar];exact hl) ?_
  rw[aeR hu,bp]
  exact q
theorem all_true{α:Type}{l:List α}{x:PV}(hx:x.rd=some (.lst (l.map fun _=>D.bl true)))(q:Q (.fr (.bl true)) i):p1 abM x i Q E:=by
 refine Gg (l:=l.map fun _=>true) (by rw[bp];exact hx) ?_
 have:List.all (l.map fun _=>true) id=true:=by simp
 rw[this];exact q
end
section
variable {t:D->aH->Option aH}{qt:aH->PM Bool}{qe qk qv:aH->PM PV}{r:aH}{i:Int}{α:Type}{k:α->Int}{v:α->D}{l:List α}
theorem mQ{f:α->D}{Q:List D->Int->Prop}(hl:l.length<=1000000)(h:∀x∈l,∀K:Option D->Int->Prop,K (some (f x)) i->zp t qt qe r (.int (k x)) i K)(q:Q (l.map f) i):Ay t qt qe r (sdK (cX k v l)) [] i Q:=by
 rw[v7];exact Ab hl h q
theorem aep{f:α->D}{p:α->Bool}{Q:List D->Int->Prop}(hl:l.length<=1000000)(h:∀x∈l,∀K:Option D->Int->Prop,K (if p x then some (f x) else none) i->zp t qt qe r (.int (k x)) i K)(q:Q ((l.filter p).map f) i):Ay t qt qe r (sdK (cX k v l)) [] i Q:=by
 rw[v7];exact QT hl h q
theorem apv{w:α->D}{Q:List (D×D)->Int->Prop}(hl:l.length<=1000000)(hu:UpK k l)(h:∀x∈l,∀K:Option (D×D)->Int->Prop,K (some (.int (k x),w x)) i->O6 t qt qk qv r (.int (k x)) i K)(q:Q (cX k w l) i):yS t qt qk qv r (sdK (cX k v l)) [] i Q:=by
 rw[v7];exact Ye hl hu h q
theorem alj{w:α->D}{p:α->Bool}{Q:List (D×D)->Int->Prop}(hl:l.length<=1000000)(hu:UpK k l)(h:∀x∈l,∀K:Option (D×D)->Int->Prop,K (if p x then some (.int (k x),w x) else none) i->O6 t qt qk qv r (.int (k x)) i K)(q:Q (cX k w (l.filter p)) i):yS t qt qk qv r (sdK (cX k v l)) [] i Q:=by
 rw[v7];exact as9 hl hu h q
end
theorem aad{c:Nat}{S:List Nat}:∀{l:List (List Nat)},c∈jI S l->c∈S\/∃x∈l,c∈x
 | [],h=>nomatch h
 | [p],h=>.inr ⟨p,af,h⟩
 |p::q::r,h=>by
  rw[jI,ck,ck]at h
  rcases h with h|h|h
  ·exact .inr ⟨p,af,h⟩
  ·exact .inl h
  ·rcases aad h with h|⟨x,hx,h⟩
   ·exact .inl h
   ·exact .inr ⟨x,ag _ hx,h⟩
theorem ael{n m:Nat}{S:List Nat}(hS:S.length<=m):∀{l:List (List Nat)},(∀x∈l,x.length<=n)->(jI S l).length<=(n+m)*l.length
 | [],_=>c4 _
 | [p],h=>by have:=h p af;simp only[jI,ai,dn];omega
 |p::q::r,h=>by
  have h1:=h p af
  have h2:=ael hS (l:=q::r) fun x hx=>h x (ag _ hx)
  rw[jI,bg,bg,ai,j0]
  omega
theorem ah0{n m:Nat}{s:Str}{l:List Str}(hs:Pn m s)(h:∀x∈l,Pn n x):Pn ((n+m)*l.length) (Txt.join s l):=by
 have e:k6 (Txt.join s l)=jI (k6 s) (l.map k6):=by rw[TL.join_eq,TL.tl_join]
 refine⟨?_,fun c hc=>?_⟩
 ·show(k6 (Txt.join s l)).length<=_
  rw[e]
  have:=ael (n:=n) (m:=m) (S:=k6 s) hs.len (l:=l.map k6) fun x hx=>by
   obtain⟨y,hy,rfl⟩:=aw.mp hx
   exact(h y hy).len
  rw[ar]at this
  exact this
 ·have hc:c∈k6 (Txt.join s l):=hc
  rw[e]at hc
  rcases aad hc with hc|⟨x,hx,hc⟩
  ·exact hs.chs c hc
  ·obtain⟨y,hy,rfl⟩:=aw.mp hx
   exact(h y hy).chs c hc
theorem zp.joined{t:D->aH->Option aH}{ql:List (aH->PM PV)}{r r1:aH}{d:D}{i:Int}{K:Option D->Int->Prop}(h:t d r=some r1)(k:pJs ql Str.empty r1 i (fun y i2=>K (some (.str y)) i2) NoX):zp t Bs (Q7 ql) r d i K:=by
 unfold zp
 rw[h]
 exact k
theorem UpK.inj{α:Type}{k:α->Int}{x y:α}:∀{l:List α},UpK k l->x∈l->y∈l->k x=k y->x=y
 |z::l,h,hx,hy,e=>by
  obtain⟨h1,h2⟩:=bC.mp h
  rcases av.mp hx with a|a<;>rcases av.mp hy with b|b
  ·rw[a,b]
  ·subst a;have:=h1 y b;omega
  ·subst b;have:=h1 x a;omega
  ·exact UpK.inj h2 a b e
/-- a walk that stops at the first item that is not c -/
theorem ahy{α:Type}{t:D->aH->Option aH}{b:aH->PMS}{g:α->D}{c:α->Bool}{I:aH->Prop}{i:Int}{Q:PC->Int->Prop}{e:D}:∀{l:List α}{r:aH},
    (∀x∈l,∀r,I r->∃r1,t (g x) r=some r1/\∀K:PC->Int->Prop,(c x=true->∀r2,I r2->K (.nx r2) i)->(c x=false->K (.rt e) i)->b r1 i K)->
    I r->(l.all c=true->∀r,I r->Q (.nx r) i)->(l.all c=false->Q (.rt e) i)->qY t b (l.map g) r i Q
  | [],r,h,hr,k1,k2=>k1 rfl r hr
  |x::l,r,h,hr,k1,k2=>by
   obtain⟨r1,e1,hb⟩:=h x af r hr
   show(match t (g x) r with
      |some r1=>b r1 i (pFK (fun r2 i2=>qY t b (l.map g) r2 i2 Q) Q)
      |none=>False)
   rw[e1]
   rw[cE]at k1 k2
   refine hb _ (fun hc r2 hr2=>?_) fun hc=>?_
   · rw[hc,fE]at k1 k2
     exact ahy (fun y hy=>h y (ag _ hy)) hr2 k1 k2
   · rw[hc,de]at k2
     exact k2 rfl
def oqI(q:aH->PM (List D)):aH->PM (List D):=fun r i Q E=>Opq (q r i Q E)
theorem ad6.oq{g:Gh}{A0:AS}{m:Rho->M Src}{q:aH->PM (List D)}(h:ad6 g A0 m q):ad6 g A0 m (oqI q):=⟨fun w S ρ r i a hr Q E z=>h.run w S ρ r i a hr Q E z.run⟩
theorem an2{n:Nat}(h:n<=1000000): -(2 ^ 62)<=(n:Int)/\(n:Int)<2 ^ 62:=by
 have:(2:Int) ^ 62=4611686018427387904:=by decide+kernel
 omega
theorem aea{qa:aH->PM PV}{r:aH}{i:Int}{K:List PV->Int->Prop}{E:XP}:aC qa bh r i K E=qa r i (fun x i1=>K [x] i1) E:=rfl
theorem K6{qa:aH->PM PV}{n:Nat}{r:aH}{i:Int}{Q:List D->Int->Prop}{E:XP}(h:∀K:PV->Int->Prop,K (.fr (.int (n:Int))) i->qa r i K E)(hn:n<=1000000)(k:Q ((cq n).map fun n:Nat=>D.int (0+(n:Int))) i):GD (aC qa bh) r i Q E:=by
 unfold GD
 rw[aea]
 refine h _ ?_
 dsimp only
 have e2:an1 0 ((n:Int).toNat)=(cq n).map fun n:Nat=>D.int (0+(n:Int)):=by rw[eP];rfl
 rw[e2,V9 (an2 hn)]
 exact k
def oqV(q:List PV->PM PV):List PV->PM PV:=fun xs i Q E=>Opq (q xs i Q E)
theorem Bc.oqv{m:List CV->M CV}{q:List PV->PM PV}(h:Bc m q):Bc m (oqV q):=⟨fun g A n0 S xs ps i a h0 hA hn hx Q E hq=>h.run g A n0 S xs ps i a h0 hA hn hx Q E hq.run⟩
set_option maxHeartbeats 400000
def Gz:PV->List PV->PM PV:=fun x ps i Q E=>match x,ps with
 |.fr (.str a),[.fr (.tup zs)]=>(match uZ zs with
  |some ys=>gd ((ys.map (·.length)).sum+ys.length*a.length<=16777216) (Q (.fr (.str (Txt.join a ys))) i)
  |none=>False)
 |x,ps=>ac1 x ps i Q E
section
variable [Tabs]{g:Gh}{A0:AS}{mo:Rho->M CV}{ms:Rho->M (List CV)}{qo:aH->PM PV}{qs:aH->PM (List PV)}
theorem amt:am4 wj Gz:=⟨fun g A n0 S x px xs ps i a h0 hA hn hx hxs=>by
 intro Q E q
 unfold Gz at q
 split at q
 ·rename_i b zs
  cases hx
  cases hxs with
  |cons h1 h2=>
   cases h2
   cases h1 with
   |tup h4=>
    split at q
    ·rename_i ys ey
     obtain⟨h5,q⟩:=cQ.mp q
     unfold wj
     dsimp only
     rw[Rf h4,ey]
     dsimp only
     rw[if_pos h5]
     exact⟨_,i,q,DV.str _,a.pen,Ext.refl⟩
    ·exact q.elim
 ·have ev:wj x xs S=afA x xs S\/∃b zs,x=.str b/\xs=[.tup zs]:=by
   unfold wj
   split
   ·exact .inr ⟨_,_,rfl,rfl⟩
   ·exact .inl rfl
  rcases ev with ev|⟨b,zs,rfl,rfl⟩
  ·rw[ev]
   exact arp.run g A n0 S x px xs ps i a h0 hA hn hx hxs Q E q
  ·exfalso
   unfold ac1 at q
   split at q
   ·rename_i a' y _
    split at q
    ·rename_i zs' ez
     cases hxs with
     |cons h1 h2=>
      obtain⟨n,ys,e,_⟩:=h1.items ez
      cases e
    ·exact q
   ·exact q⟩
theorem yq(ho:dI g A0 mo qo)(hs:Oh g A0 ms qs):dI g A0 (mBM "str" wj mo ms) (pBM uM (oqB Gz) qo qs):=ag1 Rq amt.oq.run ho hs
end
section
variable [Tabs]{Q:PV->Int->Prop}{E:XP}{i:Int}
theorem QJ{x:PV}{a:Str}{zs:List D}{ys:List Str}(hx:x=.fr (.lst zs)\/x=.ow (.lst zs))(hz:uZ zs=some ys)(hl:(ys.map (·.length)).sum+ys.length*a.length<=16777216)(k:Q (.fr (.str (Txt.join a ys))) i):Gz (.fr (.str a)) [x] i Q E:=by
 rcases hx with rfl|rfl
 ·exact ahG (E:=E) (x:=.fr (.lst zs)) rfl hz hl k
 ·exact ahG (E:=E) (x:=.ow (.lst zs)) rfl hz hl k
end
def maxD:D->D->Option D
 |.int i,.int j=>some (.int (if j>i then j else i))
 |_,_=>none
def Bx:List (D×D)->Key->List (D×D)
 | [],_=>[]
 |p::r,k=>cond (mF k p) (Bx r k) (p::Bx r k)
def avb(j:Nat)(qk:aH->PM PV):aH->PMS:=fun r i Q=>match r[j]? with
 |some (some (.ow (.dic ds)))=>qk r i (fun y i1=>match y with
  |.fr e=>(match keyD e with
   |some k=>gd (dh ds=true) (match j5 ds k with
    |some _=>Q (.nx (r.set j (some (.ow (.dic (Bx ds k)))))) i1
    |none=>False)
   |none=>False)
  |_=>False) (fun c fs i1=>Q (.xc c fs r) i1)
 |_=>False
section
variable [Tabs]{g:Gh}{A A0:AS}{S:Sto}{j:Nat}{k:Key}{kvs:List (CV×CV)}{ds:List (D×D)}{me mk:Rho->M CV}{qv qk:aH->PM PV}{q q2:aH->PMS}{c1 c2 k1 k2:CV}
theorem auA:Bc asv (pF2 (p2 maxD)):=BZ (pZ ⟨fun {S v u d1 d2 e} h1 h2 he=>by
 unfold maxD at he
 split at he
 ·cases h1;cases h2;cases he;exact⟨_,rfl,fun A=>.int _⟩
 ·cases he⟩)
theorem apw(h:DVp A S kvs ds)(hf:dh ds=true):DVp A S (Gp kvs k) (Bx ds k):=by
 induction ds generalizing kvs with
 |nil=>cases h;exact .nil
 |cons p ds ih=>
  obtain⟨h1,h2⟩:=vU hf
  cases h with
  | @cons k0 v0 e0 d0 vs _ hk0 hv0 hr=>
   have es:Es k (k0,v0)=mF k (e0,d0):=W3 (p:=(k0,v0)) (q:=(e0,d0)) hk0 h1
   unfold Gp Bx
   rw[dC,es]
   cases mF k (e0,d0) with
   |true=>exact ih hr h2
   |false=>exact .cons hk0 hv0 (ih hr h2)
theorem arl(hk:dI g A0 mk qk):iZ g A0 (Ny (mBM "dict" ac6 (aK j) (au mk aN))) (avb j qk):=⟨fun w S ρ r i a hr Q q=>by
 unfold avb at q
 split at q
 ·rename_i ds hj
  obtain⟨n,h1,h2,xs,h3,h4⟩:=hr.own hj
  rw[Aj,akg,xU,h1]
  dsimp only
  have ty:tyB S (.ref n)=some "dict":=by unfold tyB;dsimp only;rw[h3]
  rw[if_pos ty,yu]
  have key:=hk.run w S ρ r i a hr _ _ q
  refine key.imp (fun y S1 ⟨py,i1,hq,hy,hp,e1⟩=>?_) fun c fs S1 ⟨gs,i1,k1,k2,k3,k4⟩=>?_
  ·have a1:=a.next hp e1
   have hr1:=hr.ext a hp e1
   dsimp only at hq
   split at hq
   ·rename_i e
    split at hq
    ·rename_i k hk
     obtain⟨hf,hq⟩:=cQ.mp hq
     obtain⟨n',g1,g2,xs',g3,g4⟩:=hr1.own hj
     rw[h2]at g2
     cases g2
     have hy:DV (Ow A0 w) S1 y e:=hy
     have l:=QV (k:=k) g4 hf
     split at hq
     ·rename_i d hl
      rw[hl]at l
      obtain⟨c,l1,l2⟩:=l
      rw[G7]
      have ea:ac6 (.ref n) [y] S1=.ok c (S1.set n (.dic (Gp xs' k))):=by
       unfold ac6
       dsimp only
       rw[g3]
       dsimp only
       rw[xK hy hk]
       dsimp only
       rw[if_pos (dY g4 hf),l1]
      rw[ea]
      have hn:=(aa.mp g3).1
      have ki:Kp (Ow A0 w) S1 (Ow A0 w) (S1.set n (.dic (Gp xs' k))):=fun m o' hm e=>⟨by rw[ah (fun z=>hm (.inr ⟨j,by rw[h2,z]⟩))];exact e,hm⟩
      obtain⟨k1,k2,k3⟩:=hr1.chg (e:=.dic (Bx ds k)) (o:=.dic (Gp xs' k)) a1 hj h2 ⟨_,aE hn,apw (g4.mono ki) hf⟩ (fun z=>nomatch z)
      exact⟨_,i1,hq,⟨w,(Stp.of a hp e1).trans k2,k1⟩,k3⟩
     ·exact hq.elim
    ·exact hq.elim
   ·exact hq.elim
  ·exact⟨.xc c gs r,i1,k1,⟨rfl,w,Stp.of a k3 k4,hr.ext a k3 k4,k2⟩,k3⟩
 ·exact q.elim⟩
theorem amh{x i v:CV}{S:Sto}:∀c fs S',rM x i v S≠ .exc c fs S':=fun c fs S' h=>by
 unfold rM at h
 repeat' split at h
 all_goals cases h
/-- e does not look at the name i, and raises nothing -/
structure Quiet2(i:Nat)(e:Rho->M CV):Prop where
 run:∀ρ v S,e (ρ.set i v) S=e ρ S/\∀c fs S',e ρ S≠ .exc c fs S'
theorem aiF{x:CV}{S:Sto}:∀c fs S',tY [x] S≠ .exc c fs S':=fun c fs S' h=>by
 unfold tY at h
 repeat' split at h
 all_goals cases h
theorem afS{i j:Nat}(h:i≠j):Quiet2 i (mFn tY (au (aK j) aN)):=⟨fun ρ v S=>by
 have e1:∀ρ:Rho,mFn tY (au (aK j) aN) ρ S=(aK j ρ S).bnd fun x S1=>tY [x] S1:=fun ρ=>by
  show((aK j ρ S).bnd fun x S1=>(Res.ok [] S1).bnd fun xs=>ret (x::xs)).bnd _=_
  cases aK j ρ S<;>rfl
 have e2:aK j (ρ.set i v) S=aK j ρ S:=by unfold aK;rw[ah h]
 refine⟨by rw[e1,e1,e2],fun c fs S' he=>?_⟩
 rw[e1]at he
 have e0:(∃x,aK j ρ S=.ok x S)\/aK j ρ S=.bad:=by
  unfold aK
  split
  ·exact .inl ⟨_,rfl⟩
  ·exact .inr rfl
 rcases e0 with⟨x,e0⟩|e0
 ·rw[e0]at he;exact aiF _ _ _ he
 ·rw[e0]at he;cases he⟩
theorem al8{i j:Nat}{e1 e2:Rho->M CV}(h:Quiet2 i e2):aar i j (au e1 (au e2 aN))=cJ (d9 e1 (gN i)) (d9 e2 (gN j)):=by
 funext ρ S
 have a1:au e1 (au e2 aN) ρ S=(e1 ρ S).bnd fun x S1=>(au e2 aN ρ S1).bnd fun xs=>ret (x::xs):=rfl
 have a2:aar i j (au e1 (au e2 aN)) ρ S=lft ρ (au e1 (au e2 aN) ρ S) fun xs S1=>match xs with
  | [x,y]=>.ok (.nx ((ρ.set i (some x)).set j (some y))) S1
  |_=>.bad:=rfl
 rw[a2,a1]
 unfold cJ d9
 cases e:e1 ρ S with
 |bad=>rfl
 |exc c fs S1=>rfl
 |ok x S1=>
  obtain⟨h1,h2⟩:=h.run ρ (some x) S1
  show lft ρ (((e2 ρ S1).bnd fun y S2=>(Res.ok [] S2).bnd fun xs=>ret (y::xs)).bnd fun xs=>ret (x::xs)) _=lft (ρ.set i (some x)) (e2 (ρ.set i (some x)) S1) _
  rw[h1]
  cases e3:e2 ρ S1 with
  |ok y S2=>rfl
  |exc c fs S2=>exact(h2 _ _ _ e3).elim
  |bad=>rfl
theorem amr{i j:Nat}{e1 e2:Rho->M CV}(h:Quiet2 i e2)(hs:iZ g A0 (cJ (d9 e1 (gN i)) (d9 e2 (gN j))) q):iZ g A0 (aar i j (au e1 (au e2 aN))) q:=by
 rw[al8 h];exact hs
/-- tuple(d) -/
def aj2(q:List PV->PM PV):List PV->PM PV:=fun xs i Q E=>match xs with
 | [x]=>(match x.rd with
  |some (.dic ds)=>gd (dh ds=true) (Q (.fr (.tup (sdK ds))) i)
  |_=>q [x] i Q E)
 |_=>False
theorem ain{m:List CV->M CV}{q:List PV->PM PV}(h:Bc m q):Bc (yt m) (aj2 q):=⟨fun g A n0 S xs ps i a hp hA hn hx Q E hq=>by
 unfold aj2 at hq
 split at hq
 ·rename_i px
  cases hx with
  | @cons c _ _ _ hx hr=>
   cases hr
   split at hq
   ·rename_i ds hd
    obtain⟨hf,hq⟩:=cQ.mp hq
    obtain⟨n,fs,rfl,hS,hr⟩:=hx.pairs hd
    have ev:yt m [.ref n] S=.ok (.tup (wkK fs)) S:=by
     unfold yt
     dsimp only
     rw[vQ hS]
     dsimp only
     rw[if_pos (dY hr hf)]
    rw[ev]
    exact⟨_,i,hq,DV.tup (zm.run _ _ _ _ hr),a.pen,Ext.refl⟩
   ·rename_i hnd
    have ev:yt m [c] S=m [c] S:=by
     unfold yt
     cases c with
     |ref n=>dsimp only;rw[hx.Zr a (fun ds z=>hnd ds z) n rfl]
     |_=>rfl
    rw[ev]
    exact h.run g A n0 S [c] [px] i a hp hA hn (.cons hx .nil) Q E hq
 ·exact hq.elim⟩
end
def axW(ds:List (D×D))(y d:PV)(i:Int)(Q:PV->Int->Prop):Prop:=match y with
 |.fr e=>(match keyD e with
  |some k=>(match j5 ds k with
   |some z=>Q (.fr z) i
   |none=>Q d i)
  |none=>False)
 |_=>False
section
variable [Tabs]{g:Gh}{A0:AS}{mo mk md:Rho->M CV}{qo qk qd:aH->PM PV}
theorem Wc{A:AS}{n0:Nat}{S:Sto}{x y d:CV}{px py pd:PV}{ds:List (D×D)}{i:Int}(a:Amb g A i S)(hx:VR g A n0 S x px)(hd:px.rd=some (.dic ds))(hf:dh ds=true)(hy:VR g A n0 S y py)(hdd:VR g A n0 S d pd):Rn g A (fun S'=>VR g A n0 S') S (afv x y d S) (fun Q _=>axW ds py pd i Q):=by
 intro Q E hq
 obtain⟨n,fs,rfl,hS,hr⟩:=hx.pairs hd
 unfold axW at hq
 split at hq
 ·rename_i e
  split at hq
  ·rename_i k hk
   have l:=QV (k:=k) hr hf
   have ef:agN S (.ref n)=some fs:=by
    unfold agN
    dsimp only
    rw[vQ hS]
    dsimp only
    rw[if_pos (dY hr hf)]
   split at hq
   ·rename_i z hl
    rw[hl]at l
    obtain⟨c,h1,h2⟩:=l
    have ev:afv (.ref n) y d S=.ok c S:=by
     unfold afv
     rw[ef]
     dsimp only
     rw[xK hy hk]
     dsimp only
     rw[h1]
    rw[ev]
    exact⟨_,i,hq,h2,a.pen,Ext.refl⟩
   ·rename_i hl
    rw[hl]at l
    have ev:afv (.ref n) y d S=.ok d S:=by
     unfold afv
     rw[ef]
     dsimp only
     rw[xK hy hk]
     dsimp only
     rw[l]
    rw[ev]
    exact⟨_,i,hq,hdd,a.pen,Ext.refl⟩
  ·exact hq.elim
 ·exact hq.elim
end
abbrev XQ:=Str->List (Str×D)->aH->Int->Prop
abbrev PMX:=aH->Int->(D->aH->Int->Prop)->XQ->Prop
section
variable [Tabs]{g:Gh}{A A0:AS}{S S' S1:Sto}{j k n:Nat}{me mk mx:Rho->M CV}{mi:Rho->M Src}{qe qk qv:aH->PM PV}{qi:aH->PM (List D)}{qx:PMX}{w:Nat->Option Nat}{ρ ρ1:Rho}{r r1:aH}{xs:List CV}{ds:List D}{d:D}
theorem DVs.erase{k:Nat}(h:DVs A S xs ds):DVs A S (xs.eraseIdx k) (ds.eraseIdx k):=by
 induction k generalizing xs ds with
 |zero=>cases h with
  |nil=>exact .nil
  |cons h r=>exact r
 |succ k ih=>cases h with
  |nil=>exact .nil
  |cons h r=>exact .cons h (ih r)
end
inductive am7 [Tabs]:List (Str×(List CV->M CV))->List (Str×(List PV->PM D))->Prop where
 |nil:am7 [] []
 |cons {c:Str} {m:List CV->M CV} {q:List PV->PM D} {l:List (Str×(List CV->M CV))} {l':List (Str×(List PV->PM D))} (h:dJ (anK c m) q) (t:am7 l l'):am7 ((c,m)::l) ((c,q)::l')
section
variable [Tabs]{g:Gh}{A A0:AS}{S:Sto}{j:Nat}{ms:Rho->M (List CV)}{qs:aH->PM (List PV)}{m:List CV->M CV}{q:List PV->PM D}
theorem am7.look{c:Str}:∀{l:List (Str×(List CV->M CV))}{l':List (Str×(List PV->PM D))},am7 l l'->match l'.lookup c with|some q=>∃x,l.lookup c=some x/\dJ (anK c x) q|none=>True
 |_,_,.nil=>trivial
 |_,_,.cons (c:=c') h t=>by
  unfold dS
  by_cases e:(c==c')=true
  ·rw[e];exact⟨_,rfl,by rw[eq_of_beq e];exact h⟩
  ·rw[hM]at e
   rw[e];exact am7.look t
end
abbrev PBd:=aH->List (D×D)->Int->(List (D×D)->Int->Prop)->Prop
section
variable [Tabs]{g:Gh}{A0:AS}{n j:Nat}{w:Nat->Option Nat}{ρ:Rho}{r:aH}{mt mt1:Rho->M Bool}{qt qt1:aH->PM Bool}{mk mv:Rho->M CV}{qk qv:aH->PM PV}{mi mi1:Rho->M Src}{qi qi1:aH->PM (List D)}{mb:Rho->M Unit}{pb:PBd}
/-- what stands behind a piece of the work at the dict n, which w holds at j -/
structure Aft(g:Gh)(A0:AS)(w:Nat->Option Nat)(n j:Nat)(S0 S:Sto)(ad':List (D×D))(i':Int)(S':Sto):Prop where
 at_:∃acc',S'[n]?=some (.dic acc')/\DVp (Ow A0 w) S' acc' ad'
 ext:Ext g.p S0 S'
 amb:Amb g A0 i' S'
 kp:Kp (Ow A0 w) S (Ow A0 w) S'
 env:∀ρ0 r0,r0.length<=j->cU g A0 w S ρ0 r0->cU g A0 w S' ρ0 r0
theorem Aft.trans{S0 S S1 S2:Sto}{a1 a2:List (D×D)}{i1 i2:Int}(h1:Aft g A0 w n j S0 S a1 i1 S1)(h2:Aft g A0 w n j S0 S1 a2 i2 S2):Aft g A0 w n j S0 S a2 i2 S2:=
 ⟨h2.at_,h2.ext,h2.amb,h1.kp.trans h2.kp,fun ρ0 r0 hl h=>h2.env ρ0 r0 hl (h1.env ρ0 r0 hl h)⟩
end
section
variable [Tabs]{g:Gh}{A:AS}{n0:Nat}{S S':Sto}{v:CV}{d dx dy:D}{x y:CV}{px py:PV}{i:Int}{tm:List (Str×(List CV->M CV))}{tp:List (Str×(List PV->PM D))}{cs:List (Str×Str)}{bs:List Str}
theorem alL{A:AS}(h:DV A S v d):acJ S v=d.isObj:=by
 cases h<;>first|rfl|(rename_i h1 _ _;unfold acJ;dsimp only;rw[h1];rfl)|(rename_i h1 _ _;unfold acJ;rcases h1 with h1|h1<;>(dsimp only;rw[h1];rfl))
theorem aui{x:Res Bool}{neg:Bool}{q:(Bool->Int->Prop)->XP->Prop}(h:Rn g A (fun _ a b=>a=b) S x q):Rn g A (fun S'=>VR g A n0 S') S (x.bnd fun b S'=>.ok (.bl (ax0 neg b)) S') fun Q E=>q (fun b i1=>Q (.fr (.bl (ax0 neg b))) i1) E:=fun Q E hq=>by
 rw[jX]
 exact(h _ _ hq).imp (fun b S1 ⟨b',i1,k1,k2,k3,k4⟩=>⟨_,i1,k1,by rw[<-k2];exact DV.bl _,k3,k4⟩) fun _ _ _ z=>z
end
def afP(tbl:List (Str×(List PV->PM D)))(other:PV->PM PV):PV->PM PV:=fun x i Q E=>match x.rd with
 |some (.obj c _)=>(match tbl.lookup c with
  |some q=>q [x.arg] i (fun d i1=>match d with
   |.int n=>gd (0<=n/\n<9223372036854775808) (Q (.fr (.int n)) i1)
   |_=>False) E
  |none=>other x i Q E)
 |some _=>other x i Q E
 |none=>False
section
variable [Tabs]{g:Gh}{A:AS}{n0:Nat}{S S':Sto}
theorem arA{tm:List (Str×(List CV->M CV))}{tp:List (Str×(List PV->PM D))}{mm:List CV->M CV}{qq:PV->PM PV}(ht:zV (OwR 1) tm tp)(h:Bc mm (pF1 qq)):Bc (aqt tm mm) (pF1 (afP tp qq)):=G5 ⟨fun g A n0 S x px i a h0 hA hn hx=>by
 intro Q E q
 unfold afP at q
 unfold aqt
 dsimp only
 split at q
 ·rename_i c fs ex
  have key:=KD ht hx (by rw[ex];exact fun z=>nomatch z)
  have eo:Q5 tp px=tp.lookup c:=by unfold Q5;rw[ex]
  rw[eo]at key
  split at q
  ·rename_i q' eq
   rw[eq]at key
   obtain⟨m,e1,hm⟩:=key
   rw[e1]
   dsimp only
   rw[jX]
   refine(dJ.run hm g A S [x] [px.arg] i a (.cons (hx.arg1 hA) .nil) _ _ q).imp (fun v S1 ⟨d,i1,k1,k2,k3,k4⟩=>?_) fun _ _ _ z=>z
   dsimp only at k1
   split at k1
   ·rename_i n
    cases k2
    obtain⟨hn,k1⟩:=cQ.mp k1
    dsimp only
    rw[if_pos (show 0<=n/\n<2 ^ 63 from hn)]
    exact⟨_,i1,k1,DV.int _,k3,k4⟩
   ·exact k1.elim
  ·rename_i eq
   rw[eq]at key
   rw[key]
   exact h.run g A n0 S [x] [px] i a h0 hA hn (.cons hx .nil) Q E q
 ·rename_i d ex hno
  have key:=KD ht hx (by rw[hno];exact fun z=>nomatch z)
  have eo:Q5 tp px=none:=by
   unfold Q5;rw[hno]
   cases d<;>first|rfl|exact absurd rfl (ex _ _)
  rw[eo]at key
  rw[key]
  exact h.run g A n0 S [x] [px] i a h0 hA hn (.cons hx .nil) Q E q
 ·exact q.elim⟩
end
set_option maxHeartbeats 1000000
abbrev Up(l:List Nat):Prop:=l.Pairwise (· < ·)
def ahD(x:Nat):List Nat->List Nat
 | []=>[x]
 |y::l=>if x<y then x::y::l else if x=y then y::l else y::ahD x l
def nrm(l:List Nat):List Nat:=l.foldr ahD []
theorem Xf{x z:Nat}:∀{l:List Nat},z∈ahD x l↔z=x\/z∈l
 | []=>by simp[ahD]
 |y::l=>by
  unfold ahD
  split
  ·simp
  ·split
   ·rename_i h;subst h;simp
   ·rw[av,Xf (l:=l),av]
    constructor
    ·rintro (h|h|h)
     ·exact .inr (.inl h)
     ·exact .inl h
     ·exact .inr (.inr h)
    ·rintro (h|h|h)
     ·exact .inr (.inl h)
     ·exact .inl h
     ·exact .inr (.inr h)
theorem ahE{x:Nat}:∀{l:List Nat},Up l->Up (ahD x l)
 | [],_=>hG _ _
 |y::l,h=>by
  obtain⟨h1,h2⟩:=bC.mp h
  unfold ahD
  split
  ·rename_i hx
   refine bC.mpr ⟨fun z hz=>?_,h⟩
   rcases av.mp hz with rfl|hz
   ·exact hx
   ·exact Nat.lt_trans hx (h1 z hz)
  ·split
   ·exact h
   ·refine bC.mpr ⟨fun z hz=>?_,ahE h2⟩
    rcases Xf.mp hz with rfl|hz
    ·omega
    ·exact h1 z hz
theorem anP:∀{l:List Nat},Up (nrm l)
 | []=>.nil
 |x::l=>ahE (anP (l:=l))
theorem ab3{z:Nat}:∀{l:List Nat},z∈nrm l↔z∈l
 | []=>Iff.rfl
 |x::l=>by
  show z∈ahD x (nrm l)↔_
  rw[Xf,ab3 (l:=l),av]
theorem Up.ext:∀{l k:List Nat},Up l->Up k->(∀z,z∈l↔z∈k)->l=k
 | [],[],_,_,_=>rfl
 | [],y::k,_,_,h=>nomatch (h y).mpr af
 |x::l,[],_,_,h=>nomatch (h x).mp af
 |x::l,y::k,hl,hk,h=>by
  obtain⟨h1,h2⟩:=bC.mp hl
  obtain⟨h3,h4⟩:=bC.mp hk
  have e:x=y:=by
   rcases av.mp ((h x).mp af) with e|e
   ·exact e
   ·rcases av.mp ((h y).mpr af) with e'|e'
    ·exact e'.symm
    ·have:=h3 x e;have:=h1 y e';omega
  subst e
  have:l=k:=Up.ext h2 h4 fun z=>by
   constructor
   ·intro hz
    rcases av.mp ((h z).mp (ag _ hz)) with e|e
    ·subst e;have:=h1 z hz;omega
    ·exact e
   ·intro hz
    rcases av.mp ((h z).mpr (ag _ hz)) with e|e
    ·subst e;have:=h3 z hz;omega
    ·exact e
  rw[this]
theorem Up.nodup{l:List Nat}(h:Up l):l.Nodup:=h.imp fun h=>eA h
theorem anL:∀{l k:List Nat},l.Nodup->(∀z∈l,z∈k)->l.length<=k.length
 | [],_,_,_=>c4 _
 |x::l,k,hn,h=>by
  obtain⟨h1,h2⟩:=dm.mp hn
  have hx:=h x af
  have:=anL (k:=k.erase x) h2 fun z hz=>(List.mem_erase_of_ne (fun e=>h1 (by rw[<-e];exact hz))).mpr (h z (ag _ hz))
  rw[List.length_erase_of_mem hx]at this
  have:=List.length_pos_of_mem hx
  rw[ai];omega
theorem Up.anF{l k:List Nat}(hl:Up l)(h:∀z∈l,z∈k):l.length<=k.length:=anL hl.nodup h
structure Asc(T:Nat->Str):Prop where
 lt:∀a b,a<b->(T a).cps.toList<(T b).cps.toList
section
variable {T:Nat->Str}
theorem Asc.inj(h:Asc T){a b:Nat}(e:T a=T b):a=b:=by
 rcases Nat.lt_trichotomy a b with z|z|z
 ·have:=h.lt a b z;rw[e]at this;exact absurd this (gX _)
 ·exact z
 ·have:=h.lt b a z;rw[e]at this;exact absurd this (gX _)
theorem Asc.ltb(h:Asc T){a b:Nat}:decide ((T a).cps.toList<(T b).cps.toList)=decide (a<b):=by
 rcases ir a b with z|z
 ·rw[decide_eq_true z,decide_eq_true (h.lt a b z)]
 ·rw[decide_eq_false (by omega:¬a<b)]
  refine decide_eq_false fun k=>?_
  rcases ir b a with y|y
  ·exact gX _ (List.lt_trans k (h.lt b a y))
  ·have:a=b:=by omega
   subst this;exact gX _ k
theorem Asc.leS(h:Asc T){a b:Nat}:leS (T a) (T b)=decide (a<=b):=by
 unfold MW.leS
 rw[ltCps_eq,h.ltb]
 rcases ir b a with z|z
 ·rw[decide_eq_true z,decide_eq_false (by omega:¬a<=b)];rfl
 ·rw[decide_eq_false (by omega:¬b<a),decide_eq_true z];rfl
def leN(a b:Nat):Bool:=decide (a<=b)
theorem Asc.ins(h:Asc T)(x:Nat):∀l:List Nat,aac MW.leS (T x) (l.map T)=(aac leN x l).map T
 | []=>rfl
 |y::l=>by
  show(if MW.leS (T x) (T y)=true then T x::T y::l.map T else T y::aac MW.leS (T x) (l.map T))=(if leN x y=true then x::y::l else y::aac leN x l).map T
  rw[h.leS,h.ins x l]
  unfold leN
  split<;>rfl
end
section
variable [Tabs]{Q:PV->Int->Prop}{E:XP}{i:Int}{T:Nat->Str}{o:PV->PV->PM PV}
/-- the first time alone -/
def ayf(acc:List Nat)(n:Nat):List Nat:=if n∈acc then acc else acc++[n]
def frs(acc l:List Nat):List Nat:=l.foldl ayf acc
end
def atL(k:Nat):List Nat:=(cq (k % 3+1)).map fun s=>3*(k / 3)+s
def WR(K:List Nat):List Nat:=K.flatMap atL
/-- letters that as4 -/
abbrev LU(K:List Nat):Prop:=K.Pairwise fun a b=>a / 3<b / 3
theorem LU.up{K:List Nat}(h:LU K):Up K:=h.imp fun h=>by omega
/-- letters all unlike -/
abbrev LN(S:List Nat):Prop:=S.Pairwise fun a b=>a / 3≠b / 3
theorem LN.inj{S:List Nat}(h:LN S){a b:Nat}(ha:a∈S)(hb:b∈S)(e:a / 3=b / 3):a=b:=by
 induction S with
 |nil=>cases ha
 |cons x S ih=>
  obtain⟨h1,h2⟩:=bC.mp h
  rcases av.mp ha with ea|ha'<;>rcases av.mp hb with eb|hb'
  ·rw[ea,eb]
  ·subst ea;exact absurd e (h1 b hb')
  ·subst eb;exact absurd e.symm (h1 a ha')
  ·exact ih h2 ha' hb'
theorem asu{K:List Nat}(hu:Up K)(h:∀a∈K,∀b∈K,a / 3=b / 3->a=b):LU K:=by
 refine(List.Pairwise.and_mem.mp hu).imp fun {a b} ⟨ha,hb,hl⟩=>?_
 rcases ir (a / 3) (b / 3) with z|z
 ·exact z
 ·have:a / 3=b / 3:=by omega
  have:=h a ha b hb this
  omega
theorem LN.lu{S:List Nat}(h:LN S):LU (nrm S):=asu anP fun a ha b hb e=>h.inj (ab3.mp ha) (ab3.mp hb) e
theorem LU.inj{K:List Nat}(h:LU K){a b:Nat}(ha:a∈K)(hb:b∈K)(e:a / 3=b / 3):a=b:=LN.inj (h.imp fun h=>by omega) ha hb e
structure apg(K J:List Nat):Prop where
 lu:LU K
 kb:∀k∈K,k<78
 ju:Up J
 jb:∀j∈J,j / 78<=j % 78/\j / 78∈WR K/\j % 78∈WR K
 kl:K.length<=4
 jl:J.length<=12
theorem apg.nil:apg [] [] where
 lu:=dA
 kb:=fun _ h=>nomatch h
 ju:=dA
 jb:=fun _ h=>nomatch h
 kl:=c4 _
 jl:=c4 _
variable [Tabs]
variable [Tabs]
theorem apg.sub{K J K' J':List Nat}(h:apg K J)(hK:Up K')(hJ:Up J')(h1:∀k∈K',k∈K)(h2:∀j∈J',j∈J)(h3:∀j∈J',j / 78∈WR K'/\j % 78∈WR K'):apg K' J' where
 lu:=asu hK fun a ha b hb e=>h.lu.inj (h1 a ha) (h1 b hb) e
 kb:=fun k hk=>h.kb k (h1 k hk)
 ju:=hJ
 jb:=fun j hj=>⟨(h.jb j (h2 j hj)).1,h3 j hj⟩
 kl:=a9 (hK.anF h1) h.kl
 jl:=a9 (hJ.anF h2) h.jl
theorem alT{tbl:List (Str×(List PV->PM D))}{o:PV->PM PV}{x:PV}{c:Str}{fs:List (Str×D)}{p:List PV->PM D}{n:Int}{i:Int}{Q:PV->Int->Prop}{E:XP}(hx:x.rd=some (.obj c fs))(hl:tbl.lookup c=some (oq p))(h0:0<=n)(h1:n<=1000000)
    (hp:∀(C:D->Int->Prop)(E:XP),C (.int n) i->p [x.arg] i C E)(k:Q (.fr (.int n)) i):afP tbl o x i Q E:=by
  unfold afP
  rw[hx]
  dsimp only
  rw[hl]
  refine Opq.mk (hp _ _ ?_)
  have c63:(0:Int)<=n/\n<9223372036854775808:=⟨h0,by omega⟩
  show gd (0<=n/\n<9223372036854775808) (Q (.fr (.int n)) i)
  rw[V9 c63]
  exact k
theorem Qp{tbl:List (Str×(List PV->PM D))}{x:PV}{c z:Str}{fs:List (Str×D)}{p:List PV->PM D}{i:Int}{Q:PV->Int->Prop}{E:XP}(hx:x.rd=some (.obj c fs))(hl:tbl.lookup c=some (oq p))
    (hp:∀(C:D->Int->Prop)(E:XP),C (.str z) i->p [x.arg] i C E)(k:Q (.fr (.str z)) i):U7 tbl x i Q E:=by
  unfold U7
  rw[hx]
  dsimp only
  rw[hl]
  exact Opq.mk (hp _ _ k)
set_option maxHeartbeats 400000
/-- a def that takes a lambda, as a place where a run stops -/
def oqH(q:PM D->PM D):PM D->PM D:=fun th i Q E=>Opq (q th i Q E)
theorem aki.oq [Tabs]{m:M CV->M CV}{q:PM D->PM D}(h:aki m q):aki m (oqH q):=⟨fun g A S i th qth a ht Q E hq=>h.run g A S i th qth a ht Q E hq.run⟩
set_option maxHeartbeats 1000000
set_option maxHeartbeats 400000
section
variable [Tabs]
def RNw(g:Gh)(A0:AS)(w:Nat->Option Nat)(S:Sto)(Q:PV->Int->Prop)(E:XP):CF->Sto->Prop:=fun cf S'=>
 (∃v pv i',cf=.rt v/\Q pv i'/\VR g A0 g.b.length S' v pv/\(∃w',Stp g w S w' S')/\jY g.p g.c g.cells i' S')\/
 ∃c fs ρ' gs i',cf=.xc c fs ρ'/\E c gs i'/\DVf A0 S' fs gs/\(∃w',Stp g w S w' S')/\jY g.p g.c g.cells i' S'
structure auZ(m:List CV->M CV)(q:List PV->PM PV):Prop where
 run:∀g A S xs ps i,Amb g A i S->VRs g A S.length S xs ps->Rn g A (fun S'=>VR g A S.length S') S (m xs S) (q ps i)
variable {g:Gh}{A A0:AS}{S S' S1:Sto}{n j k n0:Nat}{i i':Int}{ms:Rho->M (List CV)}{qs:aH->PM (List PV)}{me mk:Rho->M CV}{qe qv qk:aH->PM PV}{m1 m2:Rho->M CF}{q1:aH->PMS}{q2 qr qr2:aH->PM PV}{mt:Rho->M Bool}{qt:aH->PM Bool}{w:Nat->Option Nat}{Q:PV->Int->Prop}{E:XP}
theorem RNw.trans{w1:Nat->Option Nat}{cf:CF}(h:RNw g A0 w1 S1 Q E cf S')(st:Stp g w S w1 S1):RNw g A0 w S Q E cf S':=by
 rcases h with⟨v,pv,i',h1,h2,h3,⟨w',h4⟩,h5⟩|⟨c,fs,ρ',gs,i',h1,h2,h3,⟨w',h4⟩,h5⟩
 ·exact .inl ⟨v,pv,i',h1,h2,h3,⟨w',st.trans h4⟩,h5⟩
 ·exact .inr ⟨c,fs,ρ',gs,i',h1,h2,h3,⟨w',st.trans h4⟩,h5⟩
def oqN(q:List PV->PM PV):List PV->PM PV:=fun ps i Q E=>Opq (q ps i Q E)
theorem auZ.oq{m:List CV->M CV}{q:List PV->PM PV}(h:auZ m q):auZ m (oqN q):=⟨fun g A S xs ps i a hx Q E hq=>h.run g A S xs ps i a hx Q E hq.run⟩
end
set_option maxHeartbeats 1000000
variable [Tabs]
section
variable {i:Int}{Q:PV->Int->Prop}{E:XP}{tbl:List (Str×(List PV->PM D))}{cs:List (Str×Str)}{bs:List Str}{f:Bool->Bool}{o:PV->PV->PM PV}
theorem V4{x y:PV}{c:Str}{fs:List (Str×D)}{dy:D}{p:List PV->PM D}(hx:x.rd=some (.obj c fs))(hy:y.rd=some dy)(hl:tbl.lookup c=some (oq p))(hm:au5 cs bs c dy=true)
    (k:p [x.arg,y.arg] i (fun d i1=>match d with
      |.bl b=>Q (.fr (.bl (f b))) i1
      |_=>False) E):cC tbl cs bs f o x y i Q E:=by
  unfold cC
  rw[hx,hy]
  dsimp only
  rw[hl]
  dsimp only
  exact wF hm (Opq.mk k)
theorem lt_int{a b:Int}(k:Q (.fr (.bl (decide (a<b)))) i):cC tbl cs bs id (p2 ltD) (.fr (.int a)) (.fr (.int b)) i Q E:=k
end
set_option maxHeartbeats 400000
set_option maxHeartbeats 1000000
def ayK:PV->Option PV
 |.ow (.lst ds)=>some (.ow (.lst ds))
 |.ow (.dic ds)=>some (.ow (.dic ds))
 |_=>none
def own1(b:Bool)(x:PV):Option PV:=cond b (ayK x) (x.frz.map .fr)
section
variable [Tabs]{g:Gh}{A0:AS}{j k:Nat}{m1 m2:Rho->M CV}{qa qb:aH->PM PV}{o1 o2:Bool}
/-- what is new is put into a place that nobody sees -/
theorem cU.hide{w:Nat->Option Nat}{S S1:Sto}{ρ:Rho}{r:aH}{n:Nat}{d:D}{i i1:Int}(hr:cU g A0 w S ρ r)(a:Amb g A0 i S)(a1:Amb g A0 i1 S1)(e1:Ext g.p S S1)(hn:S.length<=n)(hd:DO (fun m=>Ow A0 w m\/m=n) S1 n d)(ho:d.isObj=false):
    ∃J,r.length<=J/\w J=none/\cU g A0 (pJ w J (some n)) S1 ρ r/\Stp g w S (pJ w J (some n)) S1:=by
  obtain⟨K,hK⟩:=hr.fin
  have hJ:r.length<=max K r.length:=fk _ _
  obtain⟨h1,h2⟩:=hr.aj7 (j:=max K r.length) a a1.pen e1 hn hd ho
  rw[kj (by rw[<-hr.len];exact hJ),kj hJ]at h1
  exact⟨max K r.length,hJ,hK _ (iu _ _),h1,h2⟩
theorem aqQ{x y:PV}(h:own1 true x=some y):∃d,x=.ow d/\y=.ow d/\d.isObj=false:=by
 cases x with
 |ow d=>cases d<;>first|(cases h;exact⟨_,rfl,rfl,rfl⟩)|cases h
 |_=>cases h
theorem aqP{x y:PV}(h:own1 false x=some y):∃d,x.frz=some d/\y=.fr d:=by
 have h:x.frz.map PV.fr=some y:=h
 cases e:x.frz with
 |none=>rw[e]at h;cases h
 |some d=>rw[e]at h;cases h;exact⟨d,rfl,rfl⟩
end
def BP(tbl:List (Str×(List PV->PM D)))(o:PV->PV->PM PV):PV->PV->PM PV:=fun x y i Q E=>match Q5 tbl x with
 |some q=>q [x.arg,y.arg] i (fun d i1=>Q (.fr d) i1) E
 |none=>gd (x.rd.isSome=true) (o x y i Q E)
section
variable [Tabs]
theorem Ji{tm:List (Str×(List CV->M CV))}{tp:List (Str×(List PV->PM D))}{mm:CV->CV->M CV}{qq:PV->PV->PM PV}(ht:zV (OwR 2) tm tp)(h:dO mm qq):dO (Nq tm mm) (BP tp qq):=⟨fun g A n0 S x y px py i a h0 hA hn hx hy=>by
 intro Q E q
 unfold BP at q
 unfold Nq
 split at q
 ·rename_i q' eq
  have key:=KD ht hx (by intro z;unfold Q5 at eq;rw[z]at eq;cases eq)
  rw[eq]at key
  obtain⟨m,e1,hm⟩:=key
  rw[e1]
  dsimp only
  exact(dJ.run hm g A S [x,y] [px.arg,py.arg] i a (.cons (hx.arg1 hA) (.cons (hy.arg1 hA) .nil)) _ _ q).imp (fun v S1 ⟨d,i1,k1,k2,k3,k4⟩=>⟨_,i1,k1,(show VR g A n0 S1 v (.fr d) from k2),k3,k4⟩) fun _ _ _ z=>z
 ·rename_i eq
  obtain⟨hp,q⟩:=cQ.mp q
  have key:=KD ht hx (by intro z;rw[z]at hp;cases hp)
  rw[eq]at key
  rw[key]
  exact h.run g A n0 S x y px py i a h0 hA hn hx hy Q E q⟩
end
section
variable {i:Int}{E:XP}{Q:PV->Int->Prop}
theorem agT{tbl:List (Str×(List PV->PM D))}{o:PV->PV->PM PV}{x y:PV}{c:Str}{fs:List (Str×D)}{p:List PV->PM D}(hx:x.rd=some (.obj c fs))(hl:tbl.lookup c=some (oq p))(hp:p [x.arg,y.arg] i (fun d j=>Q (.fr d) j) E):BP tbl o x y i Q E:=by
 unfold BP Q5
 rw[hx]
 dsimp only
 rw[hl]
 exact Opq.mk hp
end
def reR(j:Nat)(r:aH)(K:aH->Prop):Prop:=match r[j]? with
 |some (some (.bo (.dic ds)))=>gd (afH (r.set j none)=true) (K (r.set j (some (.ow (.dic ds)))))
 |_=>False
/-- what was set aside is the name's again -/
def aoA(j:Nat)(Q:PC->Int->Prop):PC->Int->Prop
 |.nx r,i=>reR j r fun r'=>Q (.nx r') i
 |.bk r,i=>reR j r fun r'=>Q (.bk r') i
 |.ct r,i=>reR j r fun r'=>Q (.ct r') i
 |.rt d,i=>Q (.rt d) i
 |.xc _ _ _,_=>False
def ab6(j:Nat)(q:List (D×D)->aH->PMS):aH->PMS:=fun r i Q=>match r[j]? with
 |some (some (.fr (.dic ds)))=>gd (dh ds=true/\akq r=true) (q ds r i (anO Q))
 |some (some (.bo (.dic ds)))=>gd (dh ds=true/\akq r=true) (q ds r i (anO Q))
 |some (some (.ow (.dic ds)))=>gd (dh ds=true/\akq r=true) (q ds (r.set j (some (.bo (.dic ds)))) i (anO (aoA j Q)))
 |_=>False
def nQ(j:Nat)(q:List (D×D)->aH->PM PV):aH->PM PV:=fun r i Q E=>match r[j]? with
 |some (some (.fr (.dic ds)))=>gd (dh ds=true/\akq r=true) (q ds r i Q (fun _ _ _=>False))
 |some (some (.bo (.dic ds)))=>gd (dh ds=true/\akq r=true) (q ds r i Q (fun _ _ _=>False))
 |some (some (.ow (.dic ds)))=>gd (dh ds=true/\akq r=true) (q ds (r.set j (some (.bo (.dic ds)))) i Q (fun _ _ _=>False))
 |_=>False
section
variable [Tabs]{g:Gh}{A A0:AS}{S S' S1:Sto}{n j:Nat}{i i':Int}{w w':Nat->Option Nat}{ρ ρ':Rho}{r r':aH}{kvs:List (CV×CV)}{ds:List (D×D)}{ch me:Rho->M CV}{m:Rho->M CF}{qe qm:aH->PM PV}
/-- the object n of the name j is set aside -/
def Gh.aside(g:Gh)(j n:Nat):Gh:={g with bn:=fun k=>if k=j then some n else g.bn k}
abbrev Asd(A0:AS)(n:Nat):AS:=fun m=>A0 m\/m=n
theorem abP(hw:w j=some n):∀m,Ow (Asd A0 n) (pJ w j none) m->Ow A0 w m:=fun m h=>by
 rcases h with(h|rfl)|⟨k,e⟩
 ·exact .inl h
 ·exact .inr ⟨j,hw⟩
 ·by_cases hk:k=j
  ·subst hk;rw[aO]at e;cases e
  ·rw[bf hk]at e;exact .inr ⟨k,e⟩
theorem ahb(hw:w j=some n):∀m,Ow A0 w m->Ow (Asd A0 n) (pJ w j none) m:=fun m h=>by
 rcases h with h|⟨k,e⟩
 ·exact .inl (.inl h)
 ·by_cases hk:k=j
  ·subst hk;rw[hw]at e;cases e;exact .inl (.inr rfl)
  ·exact .inr ⟨k,by rw[bf hk];exact e⟩
theorem Amb.aside(a:Amb g A0 i S)(hn:n<S.length):Amb (g.aside j n) (Asd A0 n) i S:=
 ⟨a.pen,.inl a.pin,.inl a.pic,fun m hm=>hm.elim (a.lt m) fun e=>e▸hn,a.ext,a.tab⟩
theorem cU.aside(h:cU g A0 w S ρ r)(a:Amb g A0 i S)(hj:r[j]?=some (some (.ow (.dic ds))))(hw:w j=some n)(hv:ρ[j]?=some (some (.ref n)))(hd:DO (Ow A0 w) S n (.dic ds)):cU (g.aside j n) (Asd A0 n) (pJ w j none) S ρ (r.set j (some (.bo (.dic ds)))):=by
 have k:Kp (Ow A0 w) S (Ow (Asd A0 n) (pJ w j none)) S:=Kp.less (abP hw)
 refine⟨by rw[a8,h.len],fun l pv hl=>?_,fun l l' m e e'=>?_,fun l m e=>?_,fun l m e=>?_,yD h.fin⟩
 ·by_cases hlj:j=l
  ·subst hlj
   rw[aE (aa.mp hj).1]at hl
   cases hl
   refine⟨_,hv,n,rfl,fun z=>(h.out j n hw).1 (z▸a.pin),fun l z=>?_,fun m z=>?_,(hd.mono k fun _ e=>e).db⟩
   ·by_cases hl:l=j
    ·subst hl;rw[aO]at z;cases z
    ·rw[bf hl]at z;exact hl (h.inj l j n z hw)
   ·rw[show(g.aside j n).bn j=some n from if_pos rfl]at z;cases z;rfl
  ·rw[ah hlj]at hl
   obtain⟨v,h1,h2⟩:=h.at_ l pv hl
   refine⟨v,h1,?_⟩
   cases pv with
   |fr d=>exact DV.mono k h2
   |ow d=>
    obtain⟨m,e1,e2,eo,rr⟩:=h2
    exact⟨m,e1,by rw[bf (eW hlj)];exact e2,eo,DO.mono k (fun _ e=>e) rr⟩
   |bo d=>
    obtain⟨m,e1,e2,e3,rr⟩:=h2
    refine⟨m,e1,e2,fun l' z=>?_,fun m' z=>rr.tie m' ?_,rr.db.mono k fun _ e=>e⟩
    ·by_cases hl:l'=j
     ·subst hl;rw[aO]at z;cases z
     ·rw[bf hl]at z;exact e3 l' z
    ·rw[show(g.aside j n).bn l=g.bn l from if_neg (eW hlj)]at z;exact z
   |pen=>exact h2
 ·by_cases hl:l=j
  ·subst hl;rw[aO]at e;cases e
  ·by_cases hl':l'=j
   ·subst hl';rw[aO]at e';cases e'
   ·rw[bf hl]at e;rw[bf hl']at e';exact h.inj l l' m e e'
 ·by_cases hl:l=j
  ·subst hl;rw[aO]at e;cases e
  ·rw[bf hl]at e
   exact⟨fun z=>z.elim (h.out l m e).1 fun z=>hl (h.inj l j n (z▸e) hw),(h.out l m e).2⟩
 ·by_cases hl:l=j
  ·subst hl;rw[aO]at e;cases e
  ·rw[bf hl]at e;exact h.new l m e
theorem cU.back{ds2:List (D×D)}(h:cU (g.aside j n) (Asd A0 n) w' S' ρ' r')(hj:r'[j]?=some (some (.bo (.dic ds2))))(hb:afH (r'.set j none)=true)(h0:¬A0 n)(hl:g.b.length<=n)(hS:S'[n]?=some (.dic kvs)):cU g A0 (pJ w' j (some n)) S' ρ' (r'.set j (some (.ow (.dic ds2)))):=by
 obtain⟨v,hv,n2,rfl,hp,hno,htb⟩:=h.at_ j _ hj
 have en:n=n2:=htb.tie n (if_pos rfl)
 subst en
 have sub:∀m,Ow A0 (pJ w' j (some n)) m->Ow (Asd A0 n) w' m:=fun m z=>by
  rcases z with z|⟨k,e⟩
  ·exact .inl (.inl z)
  ·by_cases hk:k=j
   ·subst hk;rw[aO]at e;cases e;exact .inl (.inr rfl)
   ·rw[bf hk]at e;exact .inr ⟨k,e⟩
 have k:Kp (Ow (Asd A0 n) w') S' (Ow A0 (pJ w' j (some n))) S':=Kp.less sub
 have hne:∀l m,w' l=some m->m≠n:=fun l m e z=>(h.out l m e).1 (.inr z)
 have hlt:n<S'.length:=(aa.mp hS).1
 refine⟨by rw[a8,h.len],fun l pv hl'=>?_,fun l l' m e e'=>?_,fun l m e=>?_,fun l m e=>?_,yD h.fin⟩
 ·by_cases hlj:j=l
  ·subst hlj
   rw[aE (aa.mp hj).1]at hl'
   cases hl'
   refine⟨_,hv,n,rfl,aO,fun z=>(by cases z),?_⟩
   obtain⟨xs,h1,h2⟩:=htb.db
   rcases h1 with h1|h1
   ·exact⟨xs,h1,h2.mono k⟩
   ·rw[hS]at h1;cases h1
  ·rw[ah hlj]at hl'
   obtain⟨v,h1,h2⟩:=h.at_ l pv hl'
   refine⟨v,h1,?_⟩
   cases pv with
   |fr d=>exact DV.mono k h2
   |ow d=>
    obtain⟨m,e1,e2,eo,rr⟩:=h2
    exact⟨m,e1,by rw[bf (eW hlj)];exact e2,eo,DO.mono k (fun _ e=>e) rr⟩
   |bo d=>
    obtain⟨m,e1,e2,e3,rr⟩:=h2
    refine⟨m,e1,e2,fun l' z=>?_,fun m' z=>rr.tie m' ?_,rr.db.mono k fun _ e=>e⟩
    ·by_cases hl2:l'=j
     ·subst hl2
      rw[aO]at z
      cases z
      cases d with
      |dic es=>
       exact aqD hb (j:=l) (ds:=es) (by rw[ah hlj];exact hl')
      |lst es=>obtain⟨xs,q1,_⟩:=(show DO _ _ _ (.lst es) from rr.db);rw[hS]at q1;cases q1
      |odd es=>obtain⟨xs,q1,_⟩:=(show DO _ _ _ (.odd es) from rr.db);rw[hS]at q1;cases q1
      |obj c es=>obtain⟨xs,q1,_⟩:=(show DO _ _ _ (.obj c es) from rr.db);rw[hS]at q1;cases q1
      |_=>exact rr.db.elim
     ·rw[bf hl2]at z;exact e3 l' z
    ·exact(if_neg (eW hlj)).trans z
   |pen=>exact h2
 ·by_cases hl1:l=j
  ·by_cases hl2:l'=j
   ·rw[hl1,hl2]
   ·subst hl1;rw[aO]at e;rw[bf hl2]at e';cases e;exact absurd rfl (hne _ _ e')
  ·rw[bf hl1]at e
   by_cases hl2:l'=j
   ·subst hl2;rw[aO]at e';cases e';exact absurd rfl (hne _ _ e)
   ·rw[bf hl2]at e';exact h.inj l l' m e e'
 ·by_cases hl1:l=j
  ·subst hl1;rw[aO]at e;cases e;exact⟨h0,hlt⟩
  ·rw[bf hl1]at e;exact⟨fun z=>(h.out l m e).1 (.inl z),(h.out l m e).2⟩
 ·by_cases hl1:l=j
  ·subst hl1;rw[aO]at e;cases e;exact hl
  ·rw[bf hl1]at e;exact h.new l m e
theorem Stp.back(hw:w j=some n)(st:Stp (g.aside j n) (pJ w j none) S w' S'):Stp g w S (pJ w' j (some n)) S':=by
 refine⟨fun m o hm hw' e=>st.ext m o hm (fun k z=>?_) e,fun k m e=>?_,st.len⟩
 ·by_cases hk:k=j
  ·subst hk;rw[aO]at z;cases z
  ·rw[bf hk]at z;exact hw' k z
 ·by_cases hk:k=j
  ·subst hk;rw[aO]at e;cases e;exact .inl ⟨k,hw⟩
  ·rw[bf hk]at e
   rcases st.wx k m e with⟨l,z⟩|z
   ·by_cases hl:l=j
    ·subst hl;rw[aO]at z;cases z
    ·rw[bf hl]at z;exact .inl ⟨l,z⟩
   ·exact .inr z
theorem ah8(h:cU g A0 w S ρ r)(hj:r[j]?=some (some (.bo (.dic ds)))):∃n kvs,aK j ρ S=.ok (.ref n) S/\(S[n]?=some (.dic kvs)\/S[n]?=some (.frz (.dic kvs)))/\(∀k,w k≠some n)/\DVp (Ow A0 w) S kvs ds:=by
 obtain⟨v,hv,n,rfl,hp,hno,htb⟩:=h.at_ j _ hj
 obtain⟨xs,h1,h2⟩:=htb.db
 exact⟨n,xs,by unfold aK;rw[hv],h1,hno,h2⟩
theorem ah9(h:cU g A0 w S ρ r)(hj:r[j]?=some (some (.fr (.dic ds)))):∃n kvs,aK j ρ S=.ok (.ref n) S/\(S[n]?=some (.dic kvs)\/S[n]?=some (.frz (.dic kvs)))/\(∀k,w k≠some n)/\DVp (Ow A0 w) S kvs ds:=by
 obtain⟨v,hv,h2⟩:=h.at_ j _ hj
 cases h2 with
 |dic h hn rr=>exact⟨_,_,by unfold aK;rw[hv],h,fun k z=>hn (.inr ⟨k,z⟩),rr⟩
theorem amc{Q:PC->Int->Prop}{cf:CF}(hw:w j=some n)(hi:∀k,w k=some n->k=j)(h0:¬A0 n)(hl:g.b.length<=n)(hp:n≠g.p)(hS0:S[n]?=some (.dic kvs))(h:PS (g.aside j n) (Asd A0 n) (pJ w j none) S (anO (aoA j Q)) cf S'):PS g A0 w S Q cf S':=by
 obtain⟨pc,i',hq,hc,U6⟩:=h
 have un:∀{w1:Nat->Option Nat},Stp (g.aside j n) (pJ w j none) S w1 S'->S'[n]?=some (.dic kvs):=fun st=>st.ext n _ hp (fun k z=>by
  by_cases hk:k=j
  ·subst hk;rw[aO]at z;cases z
  ·rw[bf hk]at z
   exact hk (hi k z)) hS0
 have re:∀{w1:Nat->Option Nat}{ρ1:Rho}{r1:aH}{K:aH->Prop},Stp (g.aside j n) (pJ w j none) S w1 S'->cU (g.aside j n) (Asd A0 n) w1 S' ρ1 r1->reR j r1 K->∃r2,K r2/\∃w2,Stp g w S w2 S'/\cU g A0 w2 S' ρ1 r2:=by
  intro w1 ρ1 r1 K st hr1 hk
  unfold reR at hk
  split at hk
  ·rename_i ds2 hj
   obtain⟨hb,hk⟩:=cQ.mp hk
   exact⟨_,hk,_,st.back hw,hr1.back hj hb h0 hl (un st)⟩
  ·exact hk.elim
 cases cf with
 |nx ρ1=>
  cases pc<;>first|exact hc.elim|skip
  obtain⟨w1,st,hr1⟩:=hc
  obtain⟨r2,k1,k2⟩:=re (K:=fun r'=>Q (.nx r') i') st hr1 hq
  exact⟨.nx r2,i',k1,k2,U6⟩
 |bk ρ1=>
  cases pc<;>first|exact hc.elim|skip
  obtain⟨w1,st,hr1⟩:=hc
  obtain⟨r2,k1,k2⟩:=re (K:=fun r'=>Q (.bk r') i') st hr1 hq
  exact⟨.bk r2,i',k1,k2,U6⟩
 |ct ρ1=>
  cases pc<;>first|exact hc.elim|skip
  obtain⟨w1,st,hr1⟩:=hc
  obtain⟨r2,k1,k2⟩:=re (K:=fun r'=>Q (.ct r') i') st hr1 hq
  exact⟨.ct r2,i',k1,k2,U6⟩
 |rt v=>
  cases pc<;>first|exact hc.elim|skip
  obtain⟨hv,w1,st⟩:=hc
  exact⟨_,i',hq,⟨hv.mono (Kp.less fun _ z=>.inl z),_,st.back hw⟩,U6⟩
 |xc c fs ρ1=>
  cases pc<;>first|exact hc.elim|skip
  exact hq.elim
theorem af8{q:List (D×D)->aH->PMS}(hm:AtS (aK j) m q):iZ g A0 (ac7 (aK j) m) (ab6 j q):=⟨fun w S ρ r i a hr Q hq=>by
 unfold ab6 at hq
 split at hq
 ·rename_i ds hj
  obtain⟨⟨hf,_⟩,hK⟩:=cQ.mp hq
  obtain⟨n,kvs,hc,hS,hn,hd⟩:=ah9 hr hj
  exact Ru yx hm a hr hc hS hn hd hf hK
 ·rename_i ds hj
  obtain⟨⟨hf,_⟩,hK⟩:=cQ.mp hq
  obtain⟨n,kvs,hc,hS,hn,hd⟩:=ah8 hr hj
  exact Ru yx hm a hr hc hS hn hd hf hK
 ·rename_i ds hj
  obtain⟨⟨hf,_⟩,hK⟩:=cQ.mp hq
  obtain⟨n,hv,hw,hd⟩:=hr.own hj
  obtain⟨kvs,hS,hd2⟩:=id hd
  have hr1:=hr.aside a hj hw hv hd
  have a1:Amb (g.aside j n) (Asd A0 n) i S:=a.aside (hr.out j n hw).2
  have hj1:(r.set j (some (.bo (.dic ds))))[j]?=some (some (.bo (.dic ds))):=aE (aa.mp hj).1
  have hc:aK j ρ S=.ok (.ref n) S:=by unfold aK;rw[hv]
  have hno:∀k,pJ w j none k≠some n:=fun k z=>by
   by_cases hk:k=j
   ·subst hk;rw[aO]at z;cases z
   ·rw[bf hk]at z;exact hk (hr.inj k j n z hw)
  have run:=Ru (Q:=anO (aoA j Q)) yx hm a1 hr1 hc (.inl hS) hno (hd2.mono (Kp.less (abP hw))) hf (by
   refine cast (congrArg (fun z=>q ds _ i z) ?_) hK
   funext pc i
   cases pc<;>rfl)
  exact run.imp (fun cf S1 z=>amc hw (fun k z=>hr.inj k j n z hw) (hr.out j n hw).1 (hr.new j n hw) (fun z=>(hr.out j n hw).1 (z▸a.pin)) hS z) fun _ _ _ z=>z
 ·exact hq.elim⟩
theorem gQ{q:List (D×D)->aH->PM PV}(hm:AtE (aK j) me q):dI g A0 (uP (aK j) me) (nQ j q):=⟨fun w S ρ r i a hr Q E hq=>by
 unfold nQ at hq
 split at hq
 ·rename_i ds hj
  obtain⟨⟨hf,_⟩,hK⟩:=cQ.mp hq
  obtain⟨n,kvs,hc,hS,hn,hd⟩:=ah9 hr hj
  exact Jw yx hm a hr hc hS hn hd hf hK
 ·rename_i ds hj
  obtain⟨⟨hf,_⟩,hK⟩:=cQ.mp hq
  obtain⟨n,kvs,hc,hS,hn,hd⟩:=ah8 hr hj
  exact Jw yx hm a hr hc hS hn hd hf hK
 ·rename_i ds hj
  obtain⟨⟨hf,_⟩,hK⟩:=cQ.mp hq
  obtain⟨n,hv,hw,hd⟩:=hr.own hj
  obtain⟨kvs,hS,hd2⟩:=id hd
  have hr1:=hr.aside a hj hw hv hd
  have a1:Amb (g.aside j n) (Asd A0 n) i S:=a.aside (hr.out j n hw).2
  have hc:aK j ρ S=.ok (.ref n) S:=by unfold aK;rw[hv]
  have hno:∀k,pJ w j none k≠some n:=fun k z=>by
   by_cases hk:k=j
   ·subst hk;rw[aO]at z;cases z
   ·rw[bf hk]at z;exact hk (hr.inj k j n z hw)
  have run:=Jw (Q:=Q) (E:=E) yx hm a1 hr1 hc (.inl hS) hno (hd2.mono (Kp.less (abP hw))) hf hK
  have kk:∀{S1:Sto},Kp (Ow (Asd A0 n) (pJ w j none)) S1 (Ow A0 w) S1:=Kp.less (ahb hw)
  refine run.imp (fun v S1 ⟨pv,i1,k1,k2,k3,k4⟩=>⟨pv,i1,k1,?_,k3,k4⟩) fun c fs S1 ⟨gs,i1,k1,k2,k3,k4⟩=>⟨gs,i1,k1,k2.mono kk,k3,k4⟩
  cases pv with
  |fr d=>exact DV.mono kk k2
  |ow d=>
   obtain⟨m,e1,e2,rr⟩:=k2
   exact⟨m,e1,e2,rr.mono (Kp.less fun l z=>z.imp (ahb hw l) id) fun _ e=>e⟩
  |bo d=>
   obtain⟨m,e1,e2,rr⟩:=k2
   exact⟨m,e1,e2,rr.mono kk fun _ e=>e⟩
  |pen=>exact k2
 ·exact hq.elim⟩
end
theorem an8{e k:Nat}:∀{xs:List (PyData×PyData)},(∀x∈xs,smB e k x.1=true/\smB e k x.2=true)->PyData.showableKv xs=true/\PyData.depthKv xs<=e/\((PyData.shownKv xs).map (·.length)).sum<=(2*k+2)*xs.length/\(PyData.shownKv xs).length=xs.length
 | [],_=>⟨by simp[PyData.showableKv],by simp[PyData.depthKv],by simp[PyData.shownKv],by simp[PyData.shownKv]⟩
 |(a,b)::xs,h=>by
  obtain⟨h1,h2,h3,h4⟩:=an8 fun y hy=>h y (ag _ hy)
  have hab:=h (a,b) af
  dsimp only at hab
  obtain⟨ha,hb⟩:=hab
  obtain⟨k1,k2,k3⟩:=v9.mp ha
  obtain⟨l1,l2,l3⟩:=v9.mp hb
  refine⟨by simp only[PyData.showableKv,k1,l1,h1,hH],by simp only[PyData.depthKv];omega,?_,by simp only[PyData.shownKv,ai,h4]⟩
  have e2:((": ":Str)).length=2:=by decide+kernel
  simp only[PyData.shownKv,ax,ku,ai,j0,Nat.mul_one,strLen_append]
  rw[e2]
  omega
theorem auo{e k n:Nat}{xs:List (PyData×PyData)}(h:∀x∈xs,smB e k x.1=true/\smB e k x.2=true)(hn:xs.length<=n):smB (e+1) ((2*k+2)*n+2*n+2) (.dict xs)=true:=by
 obtain⟨h1,h2,h3,h4⟩:=an8 h
 have h5:(Str.join ", " (PyData.shownKv xs)).length<=((PyData.shownKv xs).map (·.length)).sum+(PyData.shownKv xs).length*2:=StrLaws.join_length_le ", " _
 have h6:(2*k+2)*xs.length<=(2*k+2)*n:=iP _ hn
 have h7:(dictText (PyData.shownKv xs)).length=1+(Str.join ", " (PyData.shownKv xs)).length+1:=by
  unfold dictText
  rw[strLen_append,strLen_append];rfl
 refine v9.mpr ⟨by simp only[PyData.showable,h1],by simp only[PyData.depth];omega,?_⟩
 simp only[PyData.shown]
 omega
theorem SmP.kvs{e k:Nat}:∀{xs:List (D×D)},(∀x∈xs,(∃s:Str,x.1=.str s/\SmP e k (.str s))/\SmP e k x.2)->∃ys,xs.mapM (Qh (trP e))=some ys/\ys.length=xs.length/\∀y∈ys,smB e k y.1=true/\smB e k y.2=true
 | [],_=>⟨[],rfl,rfl,fun _ h=>nomatch h⟩
 |(a,b)::xs,h=>by
  obtain⟨ys,h1,h2,h3⟩:=SmP.kvs fun z hz=>h z (ag _ hz)
  obtain⟨⟨s,rfl,⟨y,k1,k2⟩⟩,⟨z,l1,l2⟩⟩:=h (a,b) af
  have ey:y=.str s:=by
   cases e with
   |zero=>cases k1
   |succ e=>cases k1;rfl
  subst ey
  refine⟨(.str s,z)::ys,?_,by simp[h2],fun w hw=>?_⟩
  ·have ep:Qh (trP e) (D.str s,b)=some (.str s,z):=by
    unfold Qh
    dsimp only
    rw[l1];rfl
   rw[bb,ep,h1];rfl
  ·rcases av.mp hw with rfl|hw
   ·exact⟨k2,l2⟩
   ·exact h3 w hw
theorem SmP.dic{e k n:Nat}{xs:List (D×D)}(h:∀x∈xs,(∃s:Str,x.1=.str s/\SmP e k (.str s))/\SmP e k x.2)(hn:xs.length<=n):SmP (e+1) ((2*k+2)*n+2*n+2) (.dic xs):=by
 obtain⟨ys,h1,h2,h3⟩:=SmP.kvs h
 exact⟨.dict ys,by show(xs.mapM (Qh (trP e))).map _=_;rw[h1];rfl,auo h3 (by omega)⟩
set_option maxHeartbeats 400000
set_option maxHeartbeats 1000000
def agY(o1 o2 o3:Bool)(j k l:Nat)(qa qb qc:aH->PM PV):aH->PMS:=fun r i Q=>qa r i (fun x i1=>qb r i1 (fun y i2=>qc r i2 (fun z i3=>match own1 o1 x,own1 o2 y,own1 o3 z with
 |some x',some y',some z'=>Q (.nx (((r.set j (some x')).set k (some y')).set l (some z'))) i3
 |_,_,_=>False) (fun c fs i3=>Q (.xc c fs r) i3)) (fun c fs i2=>Q (.xc c fs r) i2)) (fun c fs i1=>Q (.xc c fs r) i1)
section
variable [Tabs]{g:Gh}{A0:AS}{j k l:Nat}{m1 m2 m3:Rho->M CV}{qa qb qc:aH->PM PV}{o1 o2 o3:Bool}
theorem al7:aoB j k l (au m1 (au m2 (au m3 aN)))=fun ρ S=>lft ρ (m1 ρ S) fun x S1=>lft ρ (m2 ρ S1) fun y S2=>lft ρ (m3 ρ S2) fun z S3=>.ok (.nx (((ρ.set j (some x)).set k (some y)).set l (some z))) S3:=by
 funext ρ S
 show lft ρ ((m1 ρ S).bnd fun x S1=>((m2 ρ S1).bnd fun y S2=>((m3 ρ S2).bnd fun z=>ret [z]).bnd fun xs=>ret (y::xs)).bnd fun xs=>ret (x::xs)) _=_
 cases m1 ρ S with
 |bad=>rfl
 |exc c fs S1=>rfl
 |ok x S1=>
  show lft ρ (((m2 ρ S1).bnd fun y S2=>((m3 ρ S2).bnd fun z=>ret [z]).bnd fun xs=>ret (y::xs)).bnd fun xs=>ret (x::xs)) _=lft ρ (m2 ρ S1) _
  cases m2 ρ S1 with
  |bad=>rfl
  |exc c fs S1=>rfl
  |ok y S2=>
   show lft ρ ((((m3 ρ S2).bnd fun z=>ret [z]).bnd fun xs=>ret (y::xs)).bnd fun xs=>ret (x::xs)) _=lft ρ (m3 ρ S2) _
   cases m3 ρ S2<;>rfl
/-- a value is taken: by a place that nobody sees (w'), and by its name (wa') -/
theorem Xn{w wa:Nat->Option Nat}{S S1:Sto}{ρ ρa:Rho}{r ra:aH}{i i1:Int}{o:Bool}{v:CV}{pv y:PV}(a:Amb g A0 i S)(hr:cU g A0 w S ρ r)(ha:cU g A0 wa S ρa ra)(sub:∀m,Ow A0 wa m->Ow A0 w m)
    (hv:VR g (Ow A0 w) S.length S1 v pv)(a1:Amb g A0 i1 S1)(e1:Ext g.p S S1)(ho:own1 o pv=some y)(k:Nat):
    ∃w' wa',cU g A0 w' S1 ρ r/\cU g A0 wa' S1 (ρa.set k (some v)) (ra.set k (some y))/\(∀m,Ow A0 wa' m->Ow A0 w' m)/\Stp g wa S wa' S1/\∀m,Ow A0 w m->Ow A0 w' m:=by
  cases o with
  |false=>
   obtain⟨d,hf,rfl⟩:=aqP ho
   have hd:=VR.frz (hr.lt a) hv hf
   exact⟨w,wa,hr.ext a a1.pen e1,(ha.ext a a1.pen e1).Tp (hd.mono (Kp.less sub)),sub,Stp.of a a1.pen e1,fun _ z=>z⟩
  |true=>
   obtain⟨d,rfl,rfl,hob⟩:=aqQ ho
   obtain⟨n,rfl,hn,hd⟩:=hv
   obtain⟨J,hJ,hwJ,hh,sth⟩:=hr.hide a a1 e1 hn hd hob
   obtain⟨g1,g2⟩:=ha.aj7 (j:=k) a a1.pen e1 hn (hd.mono (Kp.less fun m z=>z.imp (sub m) id) fun _ e=>e) hob
   refine⟨_,_,hh,g1,fun m z=>z.elim .inl fun⟨l,el⟩=>?_,g2,fun m z=>z.elim .inl fun⟨l,el⟩=>.inr ⟨l,by rw[bf (fun z=>by rw[z,hwJ]at el;cases el)];exact el⟩⟩
   by_cases hl:l=k
   · subst hl;rw[aO]at el;exact .inr ⟨J,by rw[aO];exact el⟩
   · rw[bf hl]at el
     rcases sub m (.inr ⟨l,el⟩) with z|⟨l',el'⟩
     · exact .inl z
     · exact .inr ⟨l',by rw[bf (fun z=>by rw[z,hwJ]at el';cases el')];exact el'⟩
theorem ajb(h1:dI g A0 m1 qa)(h2:dI g A0 m2 qb)(h3:dI g A0 m3 qc):iZ g A0 (aoB j k l (au m1 (au m2 (au m3 aN)))) (agY o1 o2 o3 j k l qa qb qc):=⟨fun w S ρ r i a hr Q q=>by
 rw[al7]
 refine wu a hr (h1.run w S ρ r i a hr) q fun v S1 pv i1 hv hK a1 hr1 e1 st=>?_
 cases x1:own1 o1 pv with
 |none=>
  refine Wp.imp (wu a1 hr1 (h2.run w S1 ρ r i1 a1 hr1) hK fun v2 S2 pv2 i2 hv2 hK2 a2 hr2 e2 st2=>?_) (fun _ _ z=>PS.trans st z) fun _ _ _ z=>z
  refine Wp.imp (wu a2 hr2 (h3.run w S2 ρ r i2 a2 hr2) hK2 fun v3 S3 pv3 i3 hv3 hK3 a3 hr3 e3 st3=>?_) (fun _ _ z=>PS.trans st2 z) fun _ _ _ z=>z
  rw[x1]at hK3
  exact hK3.elim
 |some y1=>
  obtain⟨w1,wa1,r1,ra1,ay3,sa1,up1⟩:=Xn a hr hr (fun _ z=>z) hv a1 e1 x1 j
  rw[jL]
  refine Wp.imp (h2.run w1 S1 ρ r i1 a1 r1 _ _ hK) (fun v2 S2 ⟨pv2,i2,hK2,hv2,hp2,e2⟩=>?_) fun c fs S2 ⟨gs,i2,k1,k2,k3,k4⟩=>⟨.xc c gs r,i2,k1,⟨rfl,w,st.trans (Stp.of a1 k3 k4),hr1.ext a1 k3 k4,k2.mono (Kp.less up1)⟩,k3⟩
  have a2:=a1.next hp2 e2
  have hr2:=hr1.ext a1 hp2 e2
  have st2:=st.trans (Stp.of (w:=w) a1 hp2 e2)
  cases x2:own1 o2 pv2 with
  |none=>
   rw[jL]
   refine Wp.imp (h3.run w1 S2 ρ r i2 a2 (r1.ext a1 hp2 e2) _ _ hK2) (fun v3 S3 ⟨pv3,i3,hK3,hv3,hp3,e3⟩=>?_) fun c fs S3 ⟨gs,i3,k1,k2,k3,k4⟩=>⟨.xc c gs r,i3,k1,⟨rfl,w,st2.trans (Stp.of a2 k3 k4),hr2.ext a2 k3 k4,k2.mono (Kp.less up1)⟩,k3⟩
   rw[x1,x2]at hK3
   exact hK3.elim
  |some y2=>
   obtain⟨w2,wa2,r2,ra2,ay4,sa2,up2⟩:=Xn a1 r1 ra1 ay3 hv2 a2 e2 x2 k
   rw[jL]
   refine Wp.imp (h3.run w2 S2 ρ r i2 a2 r2 _ _ hK2) (fun v3 S3 ⟨pv3,i3,hK3,hv3,hp3,e3⟩=>?_) fun c fs S3 ⟨gs,i3,k1,k2,k3,k4⟩=>⟨.xc c gs r,i3,k1,⟨rfl,w,st2.trans (Stp.of a2 k3 k4),hr2.ext a2 k3 k4,k2.mono (Kp.less fun m z=>up2 m (up1 m z))⟩,k3⟩
   have a3:=a2.next hp3 e3
   dsimp only at hK3
   split at hK3
   ·rename_i x' y' z' ex ey ez
    rw[x1]at ex;cases ex
    rw[x2]at ey;cases ey
    obtain⟨w3,wa3,r3,ra3,azk,sa3,up3⟩:=Xn a2 r2 ra2 ay4 hv3 a3 e3 ez l
    exact⟨_,i3,hK3,⟨wa3,(sa1.trans sa2).trans sa3,ra3⟩,a3.pen⟩
   ·exact hK3.elim⟩
theorem al6{i j k:Nat}{a b c:Rho->M CV}:d9 (pD (au a (au b (au c aN)))) (gT [i,j,k])=aoB i j k (au a (au b (au c aN))):=by
 funext ρ S
 show lft ρ (((au a (au b (au c aN))) ρ S).bnd Qe) _=lft ρ _ _
 have e:(au a (au b (au c aN))) ρ S=(a ρ S).bnd fun x S1=>(b ρ S1).bnd fun y S2=>(c ρ S2).bnd fun z S3=>.ok [x,y,z] S3:=by
  show(a ρ S).bnd _=_
  congr 1
  funext x S1
  show((b ρ S1).bnd fun y S2=>((c ρ S2).bnd fun z=>ret [z]).bnd fun xs=>ret (y::xs)).bnd _=_
  cases b ρ S1 with
  |bad=>rfl
  |exc c fs S1=>rfl
  |ok y S2=>
   show(((c ρ S2).bnd fun z=>ret [z]).bnd fun xs=>ret (y::xs)).bnd _=(c ρ S2).bnd _
   cases c ρ S2<;>rfl
 rw[e]
 cases a ρ S with
 |ok x S1=>
  show lft ρ (((b ρ S1).bnd fun y S2=>(c ρ S2).bnd fun z S3=>.ok [x,y,z] S3).bnd Qe) _=lft ρ ((b ρ S1).bnd fun y S2=>(c ρ S2).bnd fun z S3=>.ok [x,y,z] S3) _
  cases b ρ S1 with
  |ok y S2=>
   show lft ρ (((c ρ S2).bnd fun z S3=>.ok [x,y,z] S3).bnd Qe) _=lft ρ ((c ρ S2).bnd fun z S3=>.ok [x,y,z] S3) _
   cases c ρ S2<;>rfl
  |exc c fs S1=>rfl
  |bad=>rfl
 |exc c fs S1=>rfl
 |bad=>rfl
theorem af9(h1:dI g A0 m1 qa)(h2:dI g A0 m2 qb)(h3:dI g A0 m3 qc):iZ g A0 (d9 (pD (au m1 (au m2 (au m3 aN)))) (gT [j,k,l])) (agY o1 o2 o3 j k l qa qb qc):=by
 rw[al6]
 exact ajb h1 h2 h3
def Calm(m:Rho->M CV):Prop:=∀ρ S c fs S',m ρ S≠ .exc c fs S'
theorem as8{c:CV}:Calm (mC c):=fun ρ S c fs S' h=>by cases h
theorem ali{j:Nat}:Calm (aK j):=fun ρ S c fs S' h=>by
 unfold aK at h
 split at h<;>cases h
theorem aiT{m mk:Rho->M CV}(hm:Calm m)(hk:Calm mk){v:CV}{ρ:Rho}{S:Sto}:∀c fs S',wU m mk v ρ S≠ .exc c fs S':=fun c fs S' h=>by
 have e1:wU m mk v ρ S=(m ρ S).bnd fun x=>bnd (mk ρ) fun i=>bnd (rM x i v) fun _=>ret ρ:=rfl
 rw[e1]at h
 cases e0:m ρ S with
 |bad=>rw[e0]at h;cases h
 |exc c1 fs1 S1=>exact hm _ _ _ _ _ e0
 |ok x S1=>
  rw[e0]at h
  have h:(mk ρ S1).bnd (fun i=>bnd (rM x i v) fun _=>ret ρ)=Res.exc c fs S':=h
  cases e2:mk ρ S1 with
  |bad=>rw[e2]at h;cases h
  |exc c1 fs1 S1=>exact hk _ _ _ _ _ e2
  |ok i S2=>
   rw[e2]at h
   have h:(rM x i v S2).bnd (fun _=>ret ρ)=Res.exc c fs S':=h
   cases e3:rM x i v S2 with
   |ok u S1=>rw[e3]at h;cases h
   |exc c1 fs1 S1=>exact amh _ _ _ e3
   |bad=>rw[e3]at h;cases h
theorem ai4{c1 c2:CV}{n1 k1 n2 k2:Rho->M CV}(hn:Calm n2)(hk:Calm k2):d9 (pD (au (mC c1) (au (mC c2) aN))) (gT2 (wU n1 k1) (wU n2 k2))=cJ (d9 (mC c1) (wU n1 k1)) (d9 (mC c2) (wU n2 k2)):=by
 funext ρ S
 have a1:d9 (pD (au (mC c1) (au (mC c2) aN))) (gT2 (wU n1 k1) (wU n2 k2)) ρ S=lft ρ ((wU n1 k1 c1 ρ S).bnd fun ρ1 S1=>V3 (wU n2 k2 c2 ρ1 S1)) fun ρ'=>ret (.nx ρ'):=rfl
 rw[a1]
 have a2:d9 (mC c1) (wU n1 k1) ρ S=lft ρ (wU n1 k1 c1 ρ S) fun ρ'=>ret (.nx ρ'):=rfl
 unfold cJ
 rw[a2]
 cases e:wU n1 k1 c1 ρ S with
 |bad=>rfl
 |exc c fs S1=>rfl
 |ok ρ1 S1=>
  show lft ρ (V3 (wU n2 k2 c2 ρ1 S1)) (fun ρ'=>ret (.nx ρ'))=lft ρ1 (wU n2 k2 c2 ρ1 S1) fun ρ'=>ret (.nx ρ')
  cases e2:wU n2 k2 c2 ρ1 S1 with
  |ok ρ2 S2=>rfl
  |exc c fs S2=>exact(aiT hn hk _ _ _ e2).elim
  |bad=>rfl
theorem ajc{c1 c2:CV}{n1 k1 n2 k2:Rho->M CV}{q:aH->PMS}(hn:Calm n2)(hk:Calm k2)(hs:iZ g A0 (cJ (d9 (mC c1) (wU n1 k1)) (d9 (mC c2) (wU n2 k2))) q):iZ g A0 (d9 (pD (au (mC c1) (au (mC c2) aN))) (gT2 (wU n1 k1) (wU n2 k2))) q:=by
 rw[ai4 hn hk];exact hs
abbrev PM2:=(List (D×D)->List (D×D)->Int->Prop)->Prop
def DO2(A:AS)(S:Sto)(v:CV)(b:Nat)(d1 d2:List (D×D)):Prop:=∃n1 n2,v=.tup [.ref n1,.ref n2]/\n1≠n2/\b<=n1/\b<=n2/\DO (fun m=>(A m\/m=n1)\/m=n2) S n1 (.dic d1)/\DO (fun m=>(A m\/m=n1)\/m=n2) S n2 (.dic d2)
structure aoj(m:List CV->M CV)(q:List PV->Int->PM2):Prop where
 run:∀g A S xs ps i,Amb g A i S->VRs g A S.length S xs ps->∀Q,q ps i Q->Wp (m xs S) (fun v S'=>∃d1 d2 i',Q d1 d2 i'/\DO2 A S' v S.length d1 d2/\jY g.p g.c g.cells i' S'/\Ext g.p S S') (fun _ _ _=>False)
variable {mm:Rho->M CF}{q1:aH->PMS}{q2:aH->Int->PM2}{n:Nat}
def ayJ(q:List PV->Int->PM2):List PV->Int->PM2:=fun ps i Q=>Opq (q ps i Q)
theorem aoj.oq{m:List CV->M CV}{q:List PV->Int->PM2}(h:aoj m q):aoj m (ayJ q):=⟨fun g A S xs ps i a hx Q hq=>h.run g A S xs ps i a hx Q hq.run⟩
end
section
variable [Tabs]{g:Gh}{A0 A A':AS}{w w':Nat->Option Nat}{S S1:Sto}{ρ:Rho}{r:aH}{s n m:Nat}{d:D}{i i':Int}
/-- and set aside again -/
theorem cU.rel{E:Nat->Prop}(h:cU g (fun x=>A0 x\/(E x/\x≠m)) w S ρ r)(hm:E m)(hs:w s=some m)(hA:¬A0 m):
    cU g (fun x=>A0 x\/E x) (pJ w s none) S ρ (r.set s none)/\∀x,Ow (fun x=>A0 x\/E x) (pJ w s none) x->Ow (fun x=>A0 x\/(E x/\x≠m)) w x:=by
  have sub:∀x,Ow (fun x=>A0 x\/E x) (pJ w s none) x->Ow (fun x=>A0 x\/(E x/\x≠m)) w x:=fun x z=>z.elim (fun z=>z.elim (fun z=>.inl (.inl z)) fun z=>by
      by_cases hx:x=m
      · subst hx;exact .inr ⟨s,hs⟩
      · exact .inl (.inr ⟨z,hx⟩)) fun⟨l,el⟩=>by
    by_cases hl:l=s
    · subst hl;rw[aO]at el;cases el
    · rw[bf hl]at el;exact .inr ⟨l,el⟩
  refine⟨⟨by rw[a8,h.len],fun k pk hk=>?_,fun k l n ek el=>?_,fun k n ek=>?_,fun k n ek=>?_,yD h.fin⟩,sub⟩
  · by_cases hj:s=k
    · subst hj
      rw[br,if_pos rfl]at hk
      split at hk<;>cases hk
    · rw[ah hj]at hk
      obtain⟨u,u1,u2⟩:=h.at_ k pk hk
      refine⟨u,u1,?_⟩
      cases pk with
      |fr d=>exact DV.mono (Kp.less sub) u2
      |ow d=>
       obtain⟨n,z1,z2,z3,z4⟩:=u2
       exact⟨n,z1,by rw[bf (eW hj)];exact z2,z3,z4.mono (Kp.less sub) fun _ e=>e⟩
      |bo d=>
       obtain⟨n,z1,z2,z3,z4⟩:=u2
       refine⟨n,z1,z2,fun l el=>?_,TB.mono (Kp.less sub) (fun _ e=>e) z4⟩
       by_cases hl:l=s
       · subst hl;rw[aO]at el;cases el
       · rw[bf hl]at el;exact z3 l el
      |pen=>exact u2
  · by_cases hk:k=s
    · subst hk;rw[aO]at ek;cases ek
    · by_cases hl:l=s
      · subst hl;rw[aO]at el;cases el
      · rw[bf hk]at ek;rw[bf hl]at el;exact h.inj k l n ek el
  · by_cases hk:k=s
    · subst hk;rw[aO]at ek;cases ek
    · rw[bf hk]at ek
      refine⟨fun z=>z.elim (fun z=>(h.out k n ek).1 (.inl z)) fun z=>?_,(h.out k n ek).2⟩
      by_cases hx:n=m
      · subst hx;exact hk (h.inj k s n ek hs)
      · exact(h.out k n ek).1 (.inr ⟨z,hx⟩)
  · by_cases hk:k=s
    · subst hk;rw[aO]at ek;cases ek
    · rw[bf hk]at ek;exact h.new k n ek
inductive akh{α β:Type}(P:α->β->Prop):List α->List β->Prop where
 |nil:akh P [] []
 |cons {a:α} {b:β} {as:List α} {bs:List β} (h:P a b) (t:akh P as bs):akh P (a::as) (b::bs)
theorem akh.imp{α β:Type}{P Q:α->β->Prop}(k:∀a b,P a b->Q a b):∀{as:List α}{bs:List β},akh P as bs->akh Q as bs
 |_,_,.nil=>.nil
 |_,_,.cons h t=>.cons (k _ _ h) (akh.imp k t)
end
set_option maxHeartbeats 400000
section
variable [Tabs]{g:Gh}{A A0:AS}{S:Sto}{w:Nat->Option Nat}{ρ:Rho}{r:aH}{i:Int}{me:Rho->M CV}{qe:aH->PM PV}
/-- the rows, one by one -/
inductive Sd(A:AS)(S:Sto):List (Nat×List CV)->List (List D)->Prop where
 |nil:Sd A S [] []
 |cons {n:Nat} {xs:List CV} {ds:List D} {rs:List (Nat×List CV)} {es:List (List D)} (h:S[n]?=some (.lst xs)) (hn:¬A n) (hd:DVs A S xs ds) (t:Sd A S rs es):Sd A S ((n,xs)::rs) (ds::es)
theorem Sd.length:∀{rs:List (Nat×List CV)}{es:List (List D)},Sd A S rs es->rs.length=es.length
 |_,_,.nil=>rfl
 |_,_,.cons _ _ _ t=>by rw[ai,ai,Sd.length t]
theorem Sd.all{m:Nat}:∀{rs:List (Nat×List CV)}{es:List (List D)},Sd A S rs es->(rs.all fun r=>r.2.length==m)=es.all fun r=>r.length==m
 |_,_,.nil=>rfl
 |_,_,.cons _ _ hd t=>by rw[cE,cE,Sd.all t,hd.length]
end
set_option maxHeartbeats 1000000
def ax2:D->Bool
 |.non=>true
 |.tup ks=>(ks.mapM keyD).isSome
 |_=>false
def aos(f:D->D->Option D)(x t:D):Option D:=match x,t with
 |.odd _,.ty T=>if T∈mH then some (.bl (nj "dict" T)) else none
 |_,_=>f x t
section
variable [Tabs]{g:Gh}{A A0:AS}{S S' S1:Sto}{n j n0:Nat}{i i':Int}{w w':Nat->Option Nat}{ρ ρ':Rho}{r r':aH}{kvs:List (CV×CV)}{ds:List (D×D)}{me mk:Rho->M CV}{qv qk:aH->PM PV}{v c:CV}{d e:D}{k:Key}{pv:PV}
theorem aez:∀{cs:List CV}{es:List D},DVs A S cs es->(es.mapM keyD).isSome=true->(cs.mapM ckey).isSome=true
 | [],[],.nil,_=>rfl
 |c::cs,e::es,.cons h r,z=>by
  cases e1:keyD e with
  |none=>rw[bb,e1]at z;cases z
  |some k=>
   cases e2:es.mapM keyD with
   |none=>rw[bb,e1,e2]at z;cases z
   |some ks=>
    have q:=aez r (by rw[e2];rfl)
    rw[bb,xK h e1]
    cases e3:cs.mapM ckey with
    |none=>rw[e3]at q;cases q
    |some ks'=>rfl
theorem atZ(h:DV A S c e)(ho:ax2 e=true):ckey c=none/\acW c=true:=by
 cases h<;>first|exact⟨rfl,rfl⟩|cases ho|skip
 rename_i r
 exact⟨rfl,aez r ho⟩
theorem ai6{S:Sto}{v:CV}{d:D}(h:DV A S v d)(hd:∀ks,d≠ .odd ks):∀n,v=.ref n->∀ks,S[n]?≠some (.odd ks):=by
 intro n hn ks z
 subst hn
 cases h with
 |lst h1 _ _=>rw[h1]at z;cases z
 |dic h1 _ _=>rcases h1 with h1|h1<;>(rw[h1]at z;cases z)
 |obj h1 _ _=>rw[h1]at z;cases z
 |odd h1 _ _=>exact hd _ rfl
theorem aq2{f:List CV->M CV}{q:D->D->Option D}(h:Rd2 (fun x y=>f [x,y]) q):Rd2 (fun x y=>Zo f [x,y]) (aos q):=⟨fun {S v u d1 d2 e} h1 h2 he=>by
  unfold aos at he
  split at he
  · split at he
    · rename_i hT
      cases he
      cases h2
      cases h1 with
      | @odd n xs _ g1 g2 r=>exact⟨.bl _,by
          unfold Zo
          dsimp only
          rw[g1]
          dsimp only
          rw[if_pos hT],fun A=>.bl _⟩
    · cases he
  · rename_i hd
    have ev:Zo f [v,u] S=f [v,u] S:=by
      unfold Zo
      cases v with
      |ref n=>
       cases u with
       |ty T=>
        cases h2
        have:=ai6 h1 (fun ks z=>hd ks T z rfl) n rfl
        dsimp only
        split
        · rename_i ks ex;exact absurd ex (this ks)
        · rfl
       |_=>rfl
      |_=>rfl
    rw[ev]
    exact h.ok h1 h2 he⟩
end
def ajY:D->Bool
 |.bl _=>true
 |d=>ax2 d
def aj1(qk qv:aH->PM PV):aH->PM PV:=fun r i Q E=>qk r i (fun x i1=>match x with
 |.fr d=>qv r i1 (fun _ i2=>gd (ajY d=true) (Q (.fr (.odd [d])) i2)) E
 |_=>False) E
def aoy(qe:aH->PM PV):aH->PM (List D):=fun r i Q E=>qe r i (fun x i1=>match x with
 |.fr (.odd ds)=>Q ds i1
 |_=>False) E
def ac3(j:Nat)(q1 q2:aH->PM PV):aH->PM PV:=fun r i Q E=>match r[j]? with
 |some (some (.fr (.dic _)))=>q1 r i Q E
 |some (some (.bo (.dic _)))=>q1 r i Q E
 |some (some (.fr (.odd _)))=>q2 r i Q E
 |_=>False
section
variable [Tabs]{g:Gh}{A A0:AS}{S:Sto}{mk mv me:Rho->M CV}{qk qv qe:aH->PM PV}{c:CV}{d:D}
theorem aqF(h:DV A S c d)(ho:ajY d=true):ab4 c=true:=by
 cases h with
 |bl b=>rfl
 |non=>rfl
 |tup r=>exact(atZ (.tup r) ho).2
 |_=>exact Bool.noConfusion (show false=true from ho)
theorem Xq(hk:dI g A0 mk qk)(hv:dI g A0 mv qv):dI g A0 (acQ mk mv) (aj1 qk qv):=⟨fun w S ρ r i a hr=>by
 refine(Rn.bnd (q':=fun(x:PV) i1 (Q:PV->Int->Prop) (E:XP)=>match x with
  |.fr d=>qv r i1 (fun _ i2=>gd (ajY d=true) (Q (.fr (.odd [d])) i2)) E
  |_=>False) (hr.amb a) (hk.run w S ρ r i a hr) fun x S1 px i1 hx a1 e1=>?_:Rn g (Ow A0 w) _ S _ _)
 split
 ·rename_i d
  have hr1:=hr.ext a a1.pen e1
  have a0:=a.next a1.pen e1
  refine(Rn.bnd (q':=fun(_:PV) i2 (Q:PV->Int->Prop) (_:XP)=>gd (ajY d=true) (Q (.fr (.odd [d])) i2)) (hr1.amb a0) (hv.run w S1 ρ r i1 a0 hr1) fun y S2 py i2 hy a2 e2=>?_:Rn g (Ow A0 w) _ S1 _ _)
  intro Q E hq
  obtain⟨ho,hq⟩:=cQ.mp hq
  have hx1:DV (Ow A0 w) S2 x d:=DV.mono (hr1.kp a0 e2) hx
  unfold afE
  rw[if_pos (aqF hx1 ho)]
  refine Rn.new (R:=fun S'=>VR g (Ow A0 w) S.length S') a2.pen ?_ Q E hq
  exact DV.odd pq (fun z=>Nat.lt_irrefl _ (a2.lt _ z)) (.cons (hx1.mono Kp.app) .nil)
 ·exact Rn.no⟩
theorem aeO(he:dI g A0 me qe):ad6 g A0 (ajO me) (aoy qe):=⟨fun w S ρ r i a hr=>by
 refine(Rn.bnd (q':=fun(x:PV) i1 (Q:List D->Int->Prop) (E:XP)=>match x with
  |.fr (.odd ds)=>Q ds i1
  |_=>False) (hr.amb a) (he.run w S ρ r i a hr) fun x S1 px i1 hx a1 e1=>?_:Rn g (Ow A0 w) _ S _ _)
 split
 ·cases hx with
  |odd h1 h2 h3=>
   unfold agc
   dsimp only
   rw[h1]
   exact Rn.ret a1.pen ⟨h3,trivial⟩
 ·exact Rn.no⟩
theorem aas{j:Nat}{m1 m2:Rho->M CV}{q1 q2:aH->PM PV}(h1:dI g A0 m1 q1)(h2:dI g A0 m2 q2):dI g A0 (zJ j m1 m2) (ac3 j q1 q2):=⟨fun w S ρ r i a hr Q E hq=>by
 unfold ac3 at hq
 split at hq
 ·rename_i ds hj
  obtain⟨v,hv,h⟩:=hr.at_ j _ hj
  cases h with
  |dic hS hn rr=>
   have e:zJ j m1 m2 ρ S=m1 ρ S:=by
    unfold zJ;rw[hv];dsimp only
    rcases hS with hS|hS<;>rw[hS]
   rw[e]
   exact h1.run w S ρ r i a hr Q E hq
 ·rename_i ds hj
  obtain⟨v,hv,n,rfl,hn,hb,xs,ys,hS,rr⟩:=hr.at_ j _ hj
  have e:zJ j m1 m2 ρ S=m1 ρ S:=by
   unfold zJ;rw[hv];dsimp only
   rcases hS with hS|hS<;>rw[hS]
  rw[e]
  exact h1.run w S ρ r i a hr Q E hq
 ·rename_i ds hj
  obtain⟨v,hv,h⟩:=hr.at_ j _ hj
  cases h with
  |odd hS hn rr=>
   have e:zJ j m1 m2 ρ S=m2 ρ S:=by unfold zJ;rw[hv];dsimp only;rw[hS]
   rw[e]
   exact h2.run w S ρ r i a hr Q E hq
 ·exact hq.elim⟩
end
def au1(tB:List ((Str×String)×Bool))(c:Str)(d:D):Bool:=match Yr d with
 |some t=>decide (t∈bkT/\tB.lookup (c,t)=some false)
 |none=>false
def aow(tbl:List (Str×(List PV->PM D)))(tB:List ((Str×String)×Bool))(x:PV)(dx d:D):PM Bool:=fun i Q E=>match dx with
 |.obj c _=>(match tbl.lookup c with
  |some q=>gd (au1 tB c d=true) (q [x.arg,.fr d] i (fun r i1=>match r with
   |.bl b=>Q b i1
   |_=>False) E)
  |none=>False)
 |_=>False
def Pj(tbl:List (Str×(List PV->PM D)))(tB:List ((Str×String)×Bool))(x:PV)(dx:D):List D->PM Bool
 | []=>fun i Q _=>Q false i
 |d::ds=>fun i Q E=>aow tbl tB x dx d i (fun b i1=>cond b (Q true i1) (Pj tbl tB x dx ds i1 Q E)) E
def afN(tbl:List (Str×(List PV->PM D)))(tB:List ((Str×String)×Bool))(other:PV->PV->PM PV):PV->PV->PM PV:=fun x y i Q E=>match x.rd,y.rd with
 |some dx,some (.lst ds)=>cond dx.isObj (Pj tbl tB x dx ds i (fun b i1=>Q (.fr (.bl b)) i1) E) (other x y i Q E)
 |some _,some _=>other x y i Q E
 |_,_=>False
section
variable [Tabs]{g:Gh}{A:AS}{n0:Nat}{S S':Sto}{v:CV}{d dx dy:D}{x y:CV}{px py:PV}{i:Int}{tm:List (Str×(List CV->M CV))}{tp:List (Str×(List PV->PM D))}{tB:List ((Str×String)×Bool)}
theorem alo(ht:zV (OwR 2) tm tp)(a:Amb g A i S)(h0:g.p<n0)(hA:∀n,A n->n<n0)(hx:VR g A n0 S x px)(hy:DV A S y d)(ex:px.rd=some dx):Rn g A (fun _ a b=>a=b) S (apx tm tB x y S) (aow tp tB px dx d i):=by
 intro Q E q
 unfold aow at q
 unfold apx
 have rx:=hx.read ex
 split at q
 ·rename_i c fs
  have key:=KD ht hx (by rw[ex];exact fun z=>nomatch z)
  obtain⟨n,gs,rfl,h3,h4⟩:=hx.fields ex
  have ko:lg S (.ref n)=some c:=by unfold lg;dsimp only;rw[h3]
  have eo:Q5 tp px=tp.lookup c:=by unfold Q5;rw[ex]
  rw[eo]at key
  split at q
  ·rename_i q' eq
   rw[eq]at key
   obtain⟨m,e1,hm⟩:=key
   obtain⟨hok,q⟩:=cQ.mp q
   rw[e1,ko,Xi hy]
   unfold au1 at hok
   split at hok
   ·rename_i t ek
    rw[ek]
    dsimp only
    rw[if_pos (of_decide_eq_true hok),jX]
    refine(dJ.run hm g A S [.ref n,y] [px.arg,.fr d] i a (.cons (hx.arg1 hA) (.cons (show VR g A S.length S y (.fr d) from hy) .nil)) _ _ q).imp (fun v S1 ⟨d,i1,k1,k2,k3,k4⟩=>?_) fun _ _ _ z=>z
    dsimp only at k1
    split at k1
    ·cases k2
     exact⟨_,i1,k1,rfl,k3,k4⟩
    ·exact k1.elim
   ·cases hok
  ·exact q.elim
 ·exact q.elim
theorem ZJ{chk:Sto->Bool}(ht:zV (OwR 2) tm tp)(h0:g.p<n0)(hA:∀n,A n->n<n0)(ex:px.rd=some dx):∀{ds:List D}{ys:List CV}{S:Sto}{i:Int},Amb g A i S->VR g A n0 S x px->DVs A S ys ds->(∀S',Ext g.p S S'->chk S'=true)->Rn g A (fun _ a b=>a=b) S (Gi chk tm tB x ys S) (Pj tp tB px dx ds i)
 | [],_,S,i,a,hx,.nil,hc=>by
  unfold Gi Pj
  rw[if_pos (hc S Ext.refl)]
  exact Rn.ret a.pen rfl
 |d::ds,_,S,i,a,hx,.cons (v:=v) h r,hc=>by
  unfold Gi Pj
  rw[if_pos (hc S Ext.refl)]
  refine Rn.bnd (q':=fun b i1 Q E=>cond b (Q true i1) (Pj tp tB px dx ds i1 Q E)) a (alo ht a h0 hA hx h ex) fun b S1 b' i1 eb a1 e1=>?_
  subst eb
  cases b with
  |true=>exact Rn.ret a1.pen rfl
  |false=>exact ZJ ht h0 hA ex a1 (hx.ext a e1 h0) (r.mono (Kp.ext a.pin e1)) fun S' e2=>hc S' (e1.trans e2)
theorem arq{mm:CV->CV->M CV}{qq:PV->PV->PM PV}(ht:zV (OwR 2) tm tp)(h:dO mm qq):dO (akm tm tB mm) (afN tp tB qq):=⟨fun g A n0 S x y px py i a h0 hA hn hx hy=>by
 intro Q E q
 unfold afN at q
 split at q
 ·rename_i dx ds ex ey
  have rx:=hx.read ex
  have hy0:=hy
  obtain⟨n,ys,rfl,k1,np,k2⟩:∃n ys,y=.ref n/\S[n]?=some (.lst ys)/\n≠g.p/\DVs A S ys ds:=by
   cases py with
   |fr d=>cases ey;cases hy with|lst k1 k2 k3=>exact⟨_,_,rfl,k1,fun z=>k2 (z▸a.pin),k3⟩
   |ow d=>cases ey;obtain⟨n,rfl,hl,ys,k1,k2⟩:=hy;exact⟨n,ys,rfl,k1,by omega,k2.mono (Kp.less fun m hm=>.inl hm)⟩
   |bo d=>cases ey;obtain⟨n,rfl,hl,ys,k1,k2⟩:=hy;exact⟨n,ys,rfl,k1,hl,k2⟩
   |pen=>cases ey
  unfold akm
  dsimp only
  rw[k1]
  dsimp only
  rw[alL rx]
  cases hb:dx.isObj with
  |true=>
   rw[hb]at q
   rw[if_pos rfl]
   have:=aui (n0:=n0) (neg:=false) (ZJ (tB:=tB) (chk:=fun S'=>decide (S'[n]?=some (.lst ys))) ht h0 hA ex a hx k2 fun S' e=>decide_eq_true (e n _ np k1))
   exact this Q E q
  |false=>
   rw[hb]at q
   rw[if_neg (by decide)]
   exact h.run g A n0 S x _ px _ i a h0 hA hn hx hy0 Q E q
 ·rename_i dx dy h2 ex ey
  have e:akm tm tB mm x y S=mm x y S:=by
   have ry:=hy.read ey
   unfold akm
   cases ry with
   |lst k1 k2 k3=>exact absurd rfl (h2 _)
   |dic k1 k2 k3=>rcases k1 with k1|k1<;>(dsimp only;rw[k1])
   |obj k1 k2 k3=>dsimp only;rw[k1]
   |odd k1 k2 k3=>dsimp only;rw[k1]
   |_=>rfl
  rw[e]
  exact h.run g A n0 S x y px py i a h0 hA hn hx hy Q E q
 ·exact q.elim⟩
end
end MW
set_option maxHeartbeats 4000000
set_option maxHeartbeats 400000
namespace L52
open PySem PySem.Spec PyProof.Rows L2 MW
theorem Yo:ixN 3 1=some 1:=rfl
theorem Yp:ixN 3 2=some 2:=rfl
theorem draw{S:Sto}{p c:Nat}{T n:Int}{cells:List Int}(hp:jY p c cells T S)(hT:T<2 ^ 20)(hn:0<n)(hn2:n<1606938044258990275541962092341162602522202993782792835301376):
    Wp (g8 [.ref p,.int n] S) (fun v S'=>∃d,v=.int d/\0<=d/\d<n/\jY p c cells (T+1) S'/\Ext p S S') NoE:=by
  obtain⟨t,r,hp,hc,h0,hle,hr,hne,hl⟩:=hp
  have hlt:=(aa.mp hp).1
  have hn0:n≠0:=by omega
  have hna:n.natAbs<1606938044258990275541962092341162602522202993782792835301376:=by omega
  have bt:Bd t 1048576:=⟨h0,by omega⟩
  have g1:∀o,(S.set p o)[p]?=some o:=fun o=>aE hlt
  have g2:∀o,(S.set p o)[c]?=some (.lst (cells.map .int)):=fun o=>(ah hne).trans hc
  have g3:∀o l,(S.set p o++l)[p]?=some o:=fun o l=>iK (g1 o)
  have g4:∀o l,(S.set p o++l)[c]?=some (.lst (cells.map .int)):=fun o l=>iK (g2 o)
  have g5:∀o o' l,(S.set p o++l).set p o'=S.set p o'++l:=fun o o' l=>by
    rw[List.set_append_left _ _ (by rw[a8];exact hlt),List.set_set]
  have g6:∀o,eqD (S.set p o++[.lst []]) (.ref c) (.ref (S.set p o).length)=some cells.isEmpty:=fun o=>apz (g4 _ _) pq
  have fin:∀{x:Int}{o:CO}{l:Sto}{t' r':Int},o=.lst [.ref c,.int t',.int r']->0<=t'->t'<=T+1->0<=r'->∃d,CV.int (x.fmod n)=.int d/\0<=d/\d<n/\jY p c cells (T+1) (S.set p o++l)/\Ext p S (S.set p o++l):=fun {x o l t' r'} ho h1 h2 h3=>
    ⟨_,rfl,ie _ hn,i6 _ hn,⟨t',r',by rw[g3,ho],g4 _ _,h1,h2,h3,hne,hl⟩,Ext.set.trans Ext.app⟩
  unfold g8 Hz
  by_cases hr0:0<r
  · simp only[hr0,↓wp_run,↓xU,↓aky,↓adh,↓adk,↓adb,↓Ck,↓ZC,↓G7,↓yu,↓CK,↓CJ,↓U3,↓Ux,↓Ur,↓Mw,↓U0,↓Uq,↓adi,↓Uy,↓adf,↓Lk,↓Uz,↓Mp,↓U4,↓FW,↓La,↓K8,↓K9,↓Ld,↓wp_seq,↓jL,↓Ml,↓Us,↓Lp,↓Ms,↓Aj,↓Mv,↓CZ,↓UL,↓Ln,↓ZD,↓ade,↓UG,↓Uv,↓Ut,↓JW,↓JX,↓JZ,↓adg,↓Mu,↓UW,↓Mq,↓Mr,↓Uu,↓Ka,↓J9,↓J8,↓Kc,↓T5,↓UJ,↓bW,↓jX,↓Ai,↓aof,↓aoe,iG,ax,gS,ai,dn,bP,du,c9,cc,a7,cj,bS,dQ,dc,gx,gu,gV,if_true,if_false,ite_true,ite_false,reduceIte,sizeLine,gw,fg,fh,acq,acr,acs,acu,↓Ci,↓Cj,↓Dc,↓CP,↓CN,↓xT,↓CQ,↓Mf,↓LR,↓Lz,↓Ly,↓Mg,↓Ma,↓Lq,↓Mh,↓Ls,↓Mi,↓LQ,↓LC,↓LK,↓CT,↓Cz,↓CG,↓Cy,↓Uo,↓Uw,↓Cv,↓Dd,↓Df,↓u9,↓Dg,↓CW,↓Cp,↓Cr,↓Cm,↓Cu,↓u6,↓Cq,↓Uc,↓Ak,↓Lr,↓Mj,↓Lw,acL,gz,gy,g0,g7,fF,true_and,and_true,true_or,or_true,and_self,decide_true,decide_false,eI,fe,not_false_eq_true,ne_eq,bI,hp,hc,hn0,hna,Yo,Yp]
    have:=fin (x:=r) (l:=[]) (t':=t) (r':=r.fdiv n) rfl h0 (by omega) (Int.fdiv_nonneg (by omega) (by omega))
    rw[aT]at this
    exact this
  · obtain rfl:r=0:=by omega
    cases hce:cells.isEmpty with
    |true=>
     have hl0:cells.length=0:=by rw[List.isEmpty_iff.mp hce];rfl
     have ht0:¬t<(0:Int):=by omega
     simp only[i5,↓wp_run,↓xU,↓aky,↓adh,↓adk,↓adb,↓Ck,↓ZC,↓G7,↓yu,↓CK,↓CJ,↓U3,↓Ux,↓Ur,↓Mw,↓U0,↓Uq,↓adi,↓Uy,↓adf,↓Lk,↓Uz,↓Mp,↓U4,↓FW,↓La,↓K8,↓K9,↓Ld,↓wp_seq,↓jL,↓Ml,↓Us,↓Lp,↓Ms,↓Aj,↓Mv,↓CZ,↓UL,↓Ln,↓ZD,↓ade,↓UG,↓Uv,↓Ut,↓JW,↓JX,↓JZ,↓adg,↓Mu,↓UW,↓Mq,↓Mr,↓Uu,↓Ka,↓J9,↓J8,↓Kc,↓T5,↓UJ,↓bW,↓jX,↓Ai,↓aof,↓aoe,iG,ax,gS,ai,dn,bP,du,c9,cc,a7,cj,bS,dQ,dc,gx,gu,gV,if_true,if_false,ite_true,ite_false,reduceIte,sizeLine,gw,fg,fh,acq,acr,acs,acu,↓Ci,↓Cj,↓Dc,↓CP,↓CN,↓xT,↓CQ,↓Mf,↓LR,↓Lz,↓Ly,↓Mg,↓Ma,↓Lq,↓Mh,↓Ls,↓Mi,↓LQ,↓LC,↓LK,↓CT,↓Cz,↓CG,↓Cy,↓Uo,↓Uw,↓Cv,↓Dd,↓Df,↓u9,↓Dg,↓CW,↓Cp,↓Cr,↓Cm,↓Cu,↓u6,↓Cq,↓Uc,↓Ak,↓Lr,↓Mj,↓Lw,acL,gz,gy,g0,g7,fF,true_and,and_true,true_or,or_true,and_self,decide_true,decide_false,eI,fe,not_false_eq_true,ne_eq,bI,hp,hc,hn0,hna,g1,g2,g3,g4,g5,g6,hce,hl0,ht0,ar,Int.natCast_zero,Int.ofNat_zero,Yo,Yp]
     repeat' apply kH
     all_goals first|exact fin rfl (by omega) (by omega) (by omega)|exact c4 _|decide|omega|(apply Bd.nat;(repeat (first|exact bt|exact Bd.fmod (by decide)|exact Bd.lit (by decide)|apply Bd.add|apply Bd.mul));decide)
    |false=>
     have hl0:¬cells.length=0:=by intro e;rw[List.length_eq_zero_iff.mp e]at hce;cases hce
     have hl1:¬(cells.length:Int)=0:=by omega
     have b0:=ie t (b:=(cells.length:Int)) (by omega)
     have b1:=i6 t (b:=(cells.length:Int)) (by omega)
     obtain⟨cell,hcell⟩:∃cell,atI (cells.map CV.int) (t.fmod (cells.length:Int))=some (.int cell):=by
        rw[atI_nat b0 (by rw[ar];exact b1),bu,ay (by omega)]
        exact⟨_,rfl⟩
     by_cases h1:t<(cells.length:Int)
     · by_cases h2:1000000000000000000<=(if cell<0 then -cell else cell)
       · simp only[i5,↓wp_run,↓xU,↓aky,↓adh,↓adk,↓adb,↓Ck,↓ZC,↓G7,↓yu,↓CK,↓CJ,↓U3,↓Ux,↓Ur,↓Mw,↓U0,↓Uq,↓adi,↓Uy,↓adf,↓Lk,↓Uz,↓Mp,↓U4,↓FW,↓La,↓K8,↓K9,↓Ld,↓wp_seq,↓jL,↓Ml,↓Us,↓Lp,↓Ms,↓Aj,↓Mv,↓CZ,↓UL,↓Ln,↓ZD,↓ade,↓UG,↓Uv,↓Ut,↓JW,↓JX,↓JZ,↓adg,↓Mu,↓UW,↓Mq,↓Mr,↓Uu,↓Ka,↓J9,↓J8,↓Kc,↓T5,↓UJ,↓bW,↓jX,↓Ai,↓aof,↓aoe,iG,ax,gS,ai,dn,bP,du,c9,cc,a7,cj,bS,dQ,dc,gx,gu,gV,if_true,if_false,ite_true,ite_false,reduceIte,sizeLine,gw,fg,fh,acq,acr,acs,acu,↓Ci,↓Cj,↓Dc,↓CP,↓CN,↓xT,↓CQ,↓Mf,↓LR,↓Lz,↓Ly,↓Mg,↓Ma,↓Lq,↓Mh,↓Ls,↓Mi,↓LQ,↓LC,↓LK,↓CT,↓Cz,↓CG,↓Cy,↓Uo,↓Uw,↓Cv,↓Dd,↓Df,↓u9,↓Dg,↓CW,↓Cp,↓Cr,↓Cm,↓Cu,↓u6,↓Cq,↓Uc,↓Ak,↓Lr,↓Mj,↓Lw,acL,gz,gy,g0,g7,fF,true_and,and_true,true_or,or_true,and_self,decide_true,decide_false,eI,fe,not_false_eq_true,ne_eq,bI,hp,hc,hn0,hna,g1,g2,g3,g4,g5,g6,hce,hl0,hl1,hcell,h1,h2,ar,Yo,Yp]
         repeat' apply kH
         all_goals first|exact c4 _|decide|skip
         exact fin rfl (by omega) (by omega) (Int.fdiv_nonneg (by split at h2<;>simp_all<;>omega) (by omega))
       · simp only[i5,↓wp_run,↓xU,↓aky,↓adh,↓adk,↓adb,↓Ck,↓ZC,↓G7,↓yu,↓CK,↓CJ,↓U3,↓Ux,↓Ur,↓Mw,↓U0,↓Uq,↓adi,↓Uy,↓adf,↓Lk,↓Uz,↓Mp,↓U4,↓FW,↓La,↓K8,↓K9,↓Ld,↓wp_seq,↓jL,↓Ml,↓Us,↓Lp,↓Ms,↓Aj,↓Mv,↓CZ,↓UL,↓Ln,↓ZD,↓ade,↓UG,↓Uv,↓Ut,↓JW,↓JX,↓JZ,↓adg,↓Mu,↓UW,↓Mq,↓Mr,↓Uu,↓Ka,↓J9,↓J8,↓Kc,↓T5,↓UJ,↓bW,↓jX,↓Ai,↓aof,↓aoe,iG,ax,gS,ai,dn,bP,du,c9,cc,a7,cj,bS,dQ,dc,gx,gu,gV,if_true,if_false,ite_true,ite_false,reduceIte,sizeLine,gw,fg,fh,acq,acr,acs,acu,↓Ci,↓Cj,↓Dc,↓CP,↓CN,↓xT,↓CQ,↓Mf,↓LR,↓Lz,↓Ly,↓Mg,↓Ma,↓Lq,↓Mh,↓Ls,↓Mi,↓LQ,↓LC,↓LK,↓CT,↓Cz,↓CG,↓Cy,↓Uo,↓Uw,↓Cv,↓Dd,↓Df,↓u9,↓Dg,↓CW,↓Cp,↓Cr,↓Cm,↓Cu,↓u6,↓Cq,↓Uc,↓Ak,↓Lr,↓Mj,↓Lw,acL,gz,gy,g0,g7,fF,true_and,and_true,true_or,or_true,and_self,decide_true,decide_false,eI,fe,not_false_eq_true,ne_eq,bI,hp,hc,hn0,hna,g1,g2,g3,g4,g5,g6,hce,hl0,hl1,hcell,h1,h2,ar,Yo,Yp]
         repeat' apply kH
         all_goals first|exact fin rfl (by omega) (by omega) (by omega)|exact c4 _|decide|omega|(apply Bd.nat;(repeat (first|exact bt|exact Bd.fmod (by decide)|exact Bd.lit (by decide)|apply Bd.add|apply Bd.mul));decide)
     · simp only[i5,↓wp_run,↓xU,↓aky,↓adh,↓adk,↓adb,↓Ck,↓ZC,↓G7,↓yu,↓CK,↓CJ,↓U3,↓Ux,↓Ur,↓Mw,↓U0,↓Uq,↓adi,↓Uy,↓adf,↓Lk,↓Uz,↓Mp,↓U4,↓FW,↓La,↓K8,↓K9,↓Ld,↓wp_seq,↓jL,↓Ml,↓Us,↓Lp,↓Ms,↓Aj,↓Mv,↓CZ,↓UL,↓Ln,↓ZD,↓ade,↓UG,↓Uv,↓Ut,↓JW,↓JX,↓JZ,↓adg,↓Mu,↓UW,↓Mq,↓Mr,↓Uu,↓Ka,↓J9,↓J8,↓Kc,↓T5,↓UJ,↓bW,↓jX,↓Ai,↓aof,↓aoe,iG,ax,gS,ai,dn,bP,du,c9,cc,a7,cj,bS,dQ,dc,gx,gu,gV,if_true,if_false,ite_true,ite_false,reduceIte,sizeLine,gw,fg,fh,acq,acr,acs,acu,↓Ci,↓Cj,↓Dc,↓CP,↓CN,↓xT,↓CQ,↓Mf,↓LR,↓Lz,↓Ly,↓Mg,↓Ma,↓Lq,↓Mh,↓Ls,↓Mi,↓LQ,↓LC,↓LK,↓CT,↓Cz,↓CG,↓Cy,↓Uo,↓Uw,↓Cv,↓Dd,↓Df,↓u9,↓Dg,↓CW,↓Cp,↓Cr,↓Cm,↓Cu,↓u6,↓Cq,↓Uc,↓Ak,↓Lr,↓Mj,↓Lw,acL,gz,gy,g0,g7,fF,true_and,and_true,true_or,or_true,and_self,decide_true,decide_false,eI,fe,not_false_eq_true,ne_eq,bI,hp,hc,hn0,hna,g1,g2,g3,g4,g5,g6,hce,hl0,hl1,hcell,h1,ar,Yo,Yp]
       repeat' apply kH
       all_goals first|exact fin rfl (by omega) (by omega) (by omega)|exact c4 _|decide|omega|(apply Bd.nat;(repeat (first|exact bt|exact Bd.fmod (by decide)|exact Bd.lit (by decide)|apply Bd.add|apply Bd.mul));decide)
theorem aro{ns:List Int}{S:Sto}{lo hi:Option Int}{Q:CV->Sto->Prop}{E:Str->List (Str×CV)->Sto->Prop}:Wp (slC (.scr ns) lo hi S) Q E=Q (.ref S.length) (S++[.lst (yE (ns.map CV.int) lo hi)]):=rfl
theorem aqW{ns:List Int}{S:Sto}:uQ [.scr ns] S=.ok (.ref (S.length+2)) (S++[.lst (yE (ns.map CV.int) none (some 63)),.lst (yE (ns.map CV.int) none (some 63)),.lst [.ref (S.length+1),.int 0,.int 0]]):=by
 apply alp
 unfold uQ Nf
 simp only[↓wp_run,↓xU,↓aky,↓adh,↓adk,↓adb,↓Ck,↓ZC,↓G7,↓yu,↓CK,↓CJ,↓U3,↓Ux,↓Ur,↓Mw,↓U0,↓Uq,↓adi,↓Uy,↓adf,↓Lk,↓Uz,↓Mp,↓U4,↓FW,↓La,↓K8,↓K9,↓Ld,↓wp_seq,↓jL,↓Ml,↓Us,↓Lp,↓Ms,↓Aj,↓Mv,↓CZ,↓UL,↓Ln,↓ZD,↓ade,↓UG,↓Uv,↓Ut,↓JW,↓JX,↓JZ,↓adg,↓Mu,↓UW,↓Mq,↓Mr,↓Uu,↓Ka,↓J9,↓J8,↓Kc,↓T5,↓UJ,↓bW,↓jX,↓Ai,↓aof,↓aoe,iG,ax,gS,ai,dn,bP,du,c9,cc,a7,cj,bS,dQ,dc,gx,gu,gV,if_true,if_false,ite_true,ite_false,reduceIte,sizeLine,gw,fg,fh,acq,acr,acs,acu,↓Ci,↓Cj,↓Dc,↓CP,↓CN,↓xT,↓CQ,↓Mf,↓LR,↓Lz,↓Ly,↓Mg,↓Ma,↓Lq,↓Mh,↓Ls,↓Mi,↓LQ,↓LC,↓LK,↓CT,↓Cz,↓CG,↓Cy,↓Uo,↓Uw,↓Cv,↓Dd,↓Df,↓u9,↓Dg,↓CW,↓Cp,↓Cr,↓Cm,↓Cu,↓u6,↓Cq,↓Uc,↓Ak,↓Lr,↓Mj,↓Lw,acL,gz,gy,g0,g7,fF,true_and,and_true,true_or,or_true,and_self,decide_true,decide_false,eI,fe,not_false_eq_true,ne_eq,bI,↓arS,↓arR,aiV,aqh,aqi,aqk,aql,aqj,aqo,aiW,aqm,aqn,aqp,aqq,atA,atv,aty,atD,atE,atz,atw,aqy,↓arQ,↓arP,↓amL,↓agm,↓agl,↓auI,↓auR,↓arV,↓am2,↓amZ,↓am0,↓auw,↓amK,↓auN,↓auO,↓aji,↓amJ,↓ajk,↓ajj,↓amF,↓akg,↓amY,↓auS,↓arL,↓aod,↓amH,alU,avT,avz,avJ,avY,av3,avO,avE,aqx,avV,avB,avL,av0,av5,avQ,avG,ai2,avX,avD,avN,av2,av7,avS,avI,alW,avW,avC,avM,av1,av6,avR,avH,alV,avU,avA,avK,avZ,av4,avP,avF,↓wp_raise,↓W9,↓arJ,↓arH,↓arI,↓arM,↓ajh,↓amO,↓amT,↓amS,↓amP,↓amN,↓amQ,↓amU,↓amR,↓amX,↓arW,↓as3,↓ajl,↓arU,↓auL,iS,List.zip_nil_left,cB,List.reverse_nil,↓auM,↓amM,aqa,ap8,aqb,aqc,ap9,aqd,atu,axx,↓ajg,↓amW,Nat.reduceLT,Int.cast_ofNat_Int,Int.reduceBEq,Int.reduceBNe,beq_self_eq_true,Int.reduceAdd,Int.reduceSub,Int.reduceMul,Qc,pq,ah2,ami,bg,Nat.add_assoc,↓as3,↓aro,and_self]
set_option maxHeartbeats 4000000
noncomputable section
instance:Tabs:=⟨["_law_right","_law_refused_right","law"]⟩
def R6:aH->PMS:=(nW (Ax (pFn (pF2 (p2 (ab1 vN vM (ab0 vK vL nZ)))) (aC (aU 0) (aC (pC (.ty "int")) bh))) (asI (pFn (pF2 (p2 (ab1 vN vM (ab0 vK vL nZ)))) (aC (aU 0) (aC (pC (.ty "bool")) bh))))))
def DW:List PV->PM D:=DR 1 1 R6
theorem ad0{g:Gh}{A0:AS}:iZ g A0 Nh R6:=(bU (lB (bJ (BZ (pZ (GZ GX))) (aj aA (aj (aJ (c:=(.ty "int")) rfl) aD))) (amq (bJ (BZ (pZ (GZ GX))) (aj aA (aj (aJ (c:=(.ty "bool")) rfl) aD))))))
theorem adX:dJ uR DW:=iV ad0
theorem R8:dJ (app 1 uR) DW:=fK adX
def KR:aH->PMS:=(nW (Ax (dM DW (aC (aU 0) bh)) (acZ (p2 leD) (p2 leD) (aU 1) (aU 0) (aU 2))))
def wJ:List PV->PM D:=DR 3 3 KR
theorem Y5{g:Gh}{A0:AS}:iZ g A0 Dj KR:=(bU (lB (dN R8 (aj aA aD)) (RG Zy Zy aA aA aA)))
theorem YT:dJ oO wJ:=iV Y5
theorem K7:dJ (app 3 oO) wJ:=fK YT
def WM:aH->PMS:=(nW (Ax (pFn (pF2 (p2 (ab1 vN vM (ab0 vK vL nZ)))) (aC (aU 0) (aC (pC (.ty "str")) bh))) (Ax (acZ (p2 leD) (p2 leD) (pC (.int 1)) (pFn (pF1 (p1 Oo)) (aC (aU 0) bh)) (pC (.int 8))) (pFn (pF1 (p1 abM)) (aC (pLc (ab7 (aU 0)) (tN 1) Bs (pOp (p2 (inD false)) (aU 1) (pC (.str "abcdefghijklmnopqrstuvwxyz"))) [1]) bh)))))
def Ry:List PV->PM D:=DR 2 1 WM
theorem agg{g:Gh}{A0:AS}:iZ g A0 Rk WM:=(bU (lB (bJ (BZ (pZ (GZ GX))) (aj aA (aj (aJ (c:=(.ty "str")) rfl) aD))) (lB (RG Zy Zy (aJ (c:=(.int 1)) rfl) (bJ u5 (aj aA aD)) (aJ (c:=(.int 8)) rfl)) (bJ Y8 (aj (an5 (v8 aA) gM gA (aX TV aA (aJ (c:=(.str "abcdefghijklmnopqrstuvwxyz")) rfl))) aD)))))
theorem af6:dJ Bm Ry:=iV agg
theorem afY:dJ (app 1 Bm) Ry:=fK af6
def WK:aH->PMS:=(nW (Ax (pFn (pF2 (p2 (ab1 vN vM (ab0 vK vL nZ)))) (aC (aU 0) (aC (pC (.ty "str")) bh))) (Ax (pOp (p2 (jM false)) (pFn (pF1 (p1 Oo)) (aC (aU 0) bh)) (pC (.int 2))) (Ax (pOp (p2 (inD false)) (pOp pIx (aU 0) (pC (.int 0))) (pC (.str "abcdefghijklmnopqrstuvwxyz"))) (pOp (p2 (inD false)) (pOp pIx (aU 0) (pC (.int 1))) (pC (.str "012")))))))
def dG:List PV->PM D:=DR 1 1 WK
theorem agd{g:Gh}{A0:AS}:iZ g A0 Ri WK:=(bU (lB (bJ (BZ (pZ (GZ GX))) (aj aA (aj (aJ (c:=(.ty "str")) rfl) aD))) (lB (aX qR (bJ u5 (aj aA aD)) (aJ (c:=(.int 2)) rfl)) (lB (aX TV (aX nu aA (aJ (c:=(.int 0)) rfl)) (aJ (c:=(.str "abcdefghijklmnopqrstuvwxyz")) rfl)) (aX TV (aX nu aA (aJ (c:=(.int 1)) rfl)) (aJ (c:=(.str "012")) rfl))))))
theorem af4:dJ xM dG:=iV agd
theorem afW:dJ (app 1 xM) dG:=fK af4
def aaj:List PV->PM D:=oq dG
theorem afK:dJ (app 1 xM) aaj:=afW.oq
def O4:aH->PMS:=(eX (wY (pOr (Wz (ji (acZ (p2 leD) (p2 leD) (pC (.int 1)) (pFn (pF1 (p1 Oo)) (aC (aU 0) bh)) (pFn (pF1 (p1 Oo)) (aC (pFn (pF1 (U7 [])) (aC (aU 1) bh)) bh))))) (Wz (Nv (pFn (pF1 (p1 abM)) (aC (pLc (ab7 (aU 0)) (tN 3) Bs (pOp (p2 (inD false)) (aU 3) (pC (.str "0123456789"))) [3]) bh))))) (nW (pC .non)) lY) (eX (wY (aqR (ji (pOp (p2 gtD) (pFn (pF1 (p1 Oo)) (aC (aU 0) bh)) (pC (.int 1)))) (ji (pOp (p2 (jM false)) (pOp pIx (aU 0) (pC (.int 0))) (pC (.str "0"))))) (nW (pC .non)) lY) (eX (Bp (pFn (pF1 (p1 intD)) (aC (aU 0) bh)) 2) (nW (pIf (ji (pOp (p2 leD) (aU 2) (aU 1))) (aU 2) (pC .non))))))
def yW:List PV->PM D:=DR 4 2 O4
theorem abf{g:Gh}{A0:AS}:iZ g A0 HS O4:=(aW (eE (Lg (rO (cA (RG Zy Zy (aJ (c:=(.int 1)) rfl) (bJ u5 (aj aA aD)) (bJ u5 (aj (bJ (G6 .nil) (aj aA aD)) aD))))) (rO (lO (bJ Y8 (aj (an5 (v8 aA) gM gA (aX TV aA (aJ (c:=(.str "0123456789")) rfl))) aD))))) (bU (aJ (c:=.non) rfl)) dw) (aW (eE (acf (cA (aX aoC (bJ u5 (aj aA aD)) (aJ (c:=(.int 1)) rfl))) (cA (aX qR (aX nu aA (aJ (c:=(.int 0)) rfl)) (aJ (c:=(.str "0")) rfl)))) (bU (aJ (c:=.non) rfl)) dw) (aW (fQ (bJ Ul (aj aA aD))) (bU (Ui (cA (aX Zy aA aA)) aA (aJ (c:=.non) rfl))))))
theorem aa9:dJ qX yW:=iV abf
theorem O5:dJ (app 2 qX) yW:=fK aa9
def KY:aH->PMS:=(eX (Bp (pIf (Nv (pFn (pF2 (p2 (ab1 vN vM (ab0 vK vL nZ)))) (aC (aU 0) (aC (pC (.ty "str")) bh)))) (pBM uM GF (aU 0) (aC (pC (.str " ")) bh)) (zM bh)) 1) (eX (wY (ji (pOp (p2 (jM false)) (pSl (aU 1) FP (Zv (pC (.int 1)))) (zM (aC (pC (.str "stop")) bh)))) (eX (Bp (ax5 (pOp (p2 (jM false)) (pFn (pF1 (p1 Oo)) (aC (aU 1) bh)) (pC (.int 2))) (Ax (pOp (p2 (jM false)) (pFn (pF1 (p1 Oo)) (aC (aU 1) bh)) (pC (.int 3))) (pOp (p2 (akn true)) (dM yW (aC (pOp pIx (aU 1) (pC (.int 2))) (aC (pC (.int 11)) bh))) (pC .non)))) 2) (nW (Ax (aU 2) (dM Ry (aC (pOp pIx (aU 1) (pC (.int 1))) bh))))) lY) (eX (wY (ji (pOp (p2 (jM false)) (pSl (aU 1) FP (Zv (pC (.int 1)))) (zM (aC (pC (.str "out")) bh)))) (nW (Ax (pOp (p2 (jM false)) (pFn (pF1 (p1 Oo)) (aC (aU 1) bh)) (pC (.int 2))) (pOp (p2 (akn true)) (dM yW (aC (pOp pIx (aU 1) (pC (.int 1))) (aC (pC (.int 11)) bh))) (pC .non)))) lY) (nW (pOp (p2 (inD false)) (aU 0) (pCs ["lost","ever","open"]))))))
def aF:List PV->PM D:=DR 3 1 KY
theorem Y6{g:Gh}{A0:AS}:iZ g A0 Dk KY:=(aW (fQ (Ui (lO (bJ (BZ (pZ (GZ GX))) (aj aA (aj (aJ (c:=(.ty "str")) rfl) aD)))) (ajd aA (aj (aJ (c:=(.str " ")) rfl) aD)) (fj aD))) (aW (eE (cA (aX qR (Uj aA uX (Ca (aJ (c:=(.int 1)) rfl))) (fj (aj (aJ (c:=(.str "stop")) rfl) aD)))) (aW (fQ (ark (aX qR (bJ u5 (aj aA aD)) (aJ (c:=(.int 2)) rfl)) (lB (aX qR (bJ u5 (aj aA aD)) (aJ (c:=(.int 3)) rfl)) (aX aeQ (dN O5 (aj (aX nu aA (aJ (c:=(.int 2)) rfl)) (aj (aJ (c:=(.int 11)) rfl) aD))) (aJ (c:=.non) rfl))))) (bU (lB aA (dN afY (aj (aX nu aA (aJ (c:=(.int 1)) rfl)) aD))))) dw) (aW (eE (cA (aX qR (Uj aA uX (Ca (aJ (c:=(.int 1)) rfl))) (fj (aj (aJ (c:=(.str "out")) rfl) aD)))) (bU (lB (aX qR (bJ u5 (aj aA aD)) (aJ (c:=(.int 2)) rfl)) (aX aeQ (dN O5 (aj (aX nu aA (aJ (c:=(.int 1)) rfl)) (aj (aJ (c:=(.int 11)) rfl) aD))) (aJ (c:=.non) rfl)))) dw) (bU (aX TV aA aum)))))
theorem YW:dJ oR aF:=iV Y6
theorem YK:dJ (app 1 oR) aF:=fK YW
def Ox:List PV->PM D:=oq aF
theorem YD:dJ (app 1 oR) Ox:=YK.oq
def WL:aH->PMS:=(nW (pOp (oqO (p2 (jM false))) (pSl (aU 0) FP (Zv (pC (.int 5)))) (pC (.str "stop "))))
def JB:List PV->PM D:=DR 1 1 WL
theorem agf{g:Gh}{A0:AS}:iZ g A0 Rj WL:=(bU (aX (dO.oq qR) (Uj aA uX (Ca (aJ (c:=(.int 5)) rfl))) (aJ (c:=(.str "stop ")) rfl)))
theorem af5:dJ vg JB:=iV agf
theorem afX:dJ (app 1 vg) JB:=fK af5
def Rv:List PV->PM D:=oq JB
theorem Wr:dJ (app 1 vg) Rv:=afX.oq
def aeC:aH->PMS:=(nW (pBM uM (oqB Gz) (pC (.str " ")) (aC (pSl (pBM uM (oqB GF) (aU 0) (aC (pC (.str " ")) bh)) FP (Zv (pC (.int 2)))) bh)))
def WD:List PV->PM D:=DR 1 1 aeC
theorem amw{g:Gh}{A0:AS}:iZ g A0 abR aeC:=(bU (yq (aJ (c:=(.str " ")) rfl) (aj (Uj (NP aA (aj (aJ (c:=(.str " ")) rfl) aD)) uX (Ca (aJ (c:=(.int 2)) rfl))) aD)))
theorem amj:dJ Ks WD:=iV amw
theorem ame:dJ (app 1 Ks) WD:=fK amj
def ahQ:List PV->PM D:=oq WD
theorem al1:dJ (app 1 Ks) ahQ:=ame.oq
def WQ:aH->PMS:=(nW (pBM uM (oqB Gz) (pC (.str "")) (aC (pSl (pBM uM (oqB GF) (aU 0) (aC (pC (.str " ")) bh)) (Zv (pC (.int 2))) FP) bh)))
def JC:List PV->PM D:=DR 1 1 WQ
theorem agh{g:Gh}{A0:AS}:iZ g A0 Rm WQ:=(bU (yq (aJ (c:=(.str "")) rfl) (aj (Uj (NP aA (aj (aJ (c:=(.str " ")) rfl) aD)) (Ca (aJ (c:=(.int 2)) rfl)) uX) aD)))
theorem af7:dJ vh JC:=iV agh
theorem afZ:dJ (app 1 vh) JC:=fK af7
def Rw:List PV->PM D:=oq JC
theorem Ws:dJ (app 1 vh) Rw:=afZ.oq
def gK:aH->PMS:=(eX (wY (ji (pOp (p2 gtD) (pFn (pF1 (oqU (p1 intD))) (aC (aU 3) bh)) (aU 2))) (nW (pC (.bl false))) lY) (wY (ji (pOp (oqO (p2 (jM false))) (pFn (pF1 (oqU (p1 intD))) (aC (aU 3) bh)) (aU 2))) (aov (fun i j=>i+j) 2 (pC (.int 1))) lY))
def wZ:aH->PMS:=(eX (Bp (Af Opq (ab7 (aU 0)) (tN 4) (Nv (dM Rv (aC (aU 4) bh))) (dM Rw (aC (aU 4) bh)) [4]) 1) (eX (wY (ji (pOp (oqO (p2 (inD false))) (pC (.str "")) (aU 1))) (nW (pFn (pF1 (oqU (p1 abM))) (aC (Af Opq (ab7 (aU 1)) (tN 3) Bs (pOp (oqO (p2 (jM false))) (aU 3) (pC (.str ""))) [3]) bh))) lY) (eX (Bp (pC (.int 0)) 2) (eX (Zu Opq (ab7 (aU 1)) (tN 3) gK) (nW (pC (.bl true)))))))
def jN:List PV->PM D:=DR 5 1 wZ
theorem M8{g:Gh}{A0:AS}:iZ g A0 rP wZ:=(aW (fQ (rN Opq.run (v8 aA) gM (lO (dN Wr (aj aA aD))) (dN Ws (aj aA aD)))) (aW (eE (cA (aX (dO.oq TV) (aJ (c:=(.str "")) rfl) aA)) (bU (bJ Y8.oq1 (aj (rN Opq.run (v8 aA) gM gA (aX (dO.oq qR) aA (aJ (c:=(.str "")) rfl))) aD))) dw) (aW (fQ (aJ (c:=(.int 0)) rfl)) (aW (Qm Opq.run (v8 aA) YZ (aW (eE (cA (aX aoC (bJ Ul.oq1 (aj aA aD)) aA)) (bU (aJ (c:=(.bl false)) rfl)) dw) (eE (cA (aX (dO.oq qR) (bJ Ul.oq1 (aj aA aD)) aA)) (aml (aJ (c:=(.int 1)) rfl)) dw))) (bU (aJ (c:=(.bl true)) rfl))))))
theorem M7:dJ iD jN:=iV M8
theorem M6:dJ (app 1 iD) jN:=fK M7
def yF:List PV->PM D:=oq jN
theorem M4:dJ (app 1 iD) yF:=M6.oq
def Ag:aH->PMS:=(eX (wY (Wz (Nv (dM aaj (aC (aU 1) bh)))) (Ue "BadHang" ["part"] (aC (pC (.str "port")) bh)) lY) (eX (wY (pOr (Wz (Nv (pFn (pF2 (p2 (aos (ab1 vN vM (ab0 vK vL nZ))))) (aC (aU 2) (aC (pC (.ty "dict")) bh))))) (Wz (Nv (pFn (pF1 (oqU (p1 abM))) (aC (ac3 2 (nQ 2 (fun ds=>Af Opq (pDs (sdK ds)) (tN 5) Bs (dM wJ (aC (aU 5) (aC (pC (.int 0)) (aC (pC (.int 11)) bh)))) [5])) (Af Opq (aoy (aU 2)) (tN 5) Bs (dM wJ (aC (aU 5) (aC (pC (.int 0)) (aC (pC (.int 11)) bh)))) [5])) bh))))) (Ue "BadHang" ["part"] (aC (pC (.str "spots")) bh)) lY) (eX (Bp (akt Opq (ab7 (pFn (pF1 (oqU FQ)) (aC (ac3 2 (nQ 2 (fun ds=>Af Opq (pDs (sdK ds)) (tN 5) Bs (pFn (pF1 (p1 intD)) (aC (aU 5) bh)) [5])) (Af Opq (aoy (aU 2)) (tN 5) Bs (pFn (pF1 (p1 intD)) (aC (aU 5) bh)) [5])) bh))) (tN 5) Bs (aU 5) (pOp (oqO (Ko pIx)) (aU 2) (aU 5)) [5]) 3) (eX (wY (Wz (Nv (pFn (pF1 (oqU (p1 abM))) (aC (nQ 3 (fun ds=>Af Opq (pDs (sdK ds)) (tN 5) Bs (dM Ox (aC (pOp (oqO (Ko pIx)) (aU 3) (aU 5)) bh)) [5])) bh)))) (Ue "BadHang" ["part"] (aC (pC (.str "outcome")) bh)) lY) (eX (wY (Wz (Nv (dM yF (aC (nQ 3 (fun ds=>Af Opq (pDs (sdK ds)) (tN 5) Bs (pOp (oqO (Ko pIx)) (aU 3) (aU 5)) [5])) bh)))) (Ue "BadHang" ["part"] (aC (pC (.str "marks")) bh)) lY) (eX (Bp (pBM uM (oqB Gz) (pC (.str ", ")) (aC (nQ 3 (fun ds=>Af Opq (pDs (sdK ds)) (tN 5) Bs (Q7 [(pUn (oqU (p1 aef)) (aU 5)),(pC (.str " ")),(pUn (oqU (p1 aef)) (pOp (oqO (Ko pIx)) (aU 3) (aU 5)))]) [5])) bh)) 4) (eX (aku "port" Np 0 (aU 1)) (eX (aku "spots" HY 0 (pFn (pF1 KJ) (aC (nQ 3 (fun ds=>Af Opq (pDs (sdK ds)) (tN 5) Bs (aU 5) [5])) bh))) (eX (aku "outcomes" xq 0 (aU 3)) (eX (aku "bares" HW 0 (nQ 3 (fun ds=>akt Opq (pDs (sdK ds)) (tN 5) Bs (aU 5) (dM ahQ (aC (pOp (oqO (Ko pIx)) (aU 3) (aU 5)) bh)) [5]))) (eX (aku "marks" HX 0 (nQ 3 (fun ds=>akt Opq (pDs (sdK ds)) (tN 5) (Nv (dM Rv (aC (pOp (oqO (Ko pIx)) (aU 3) (aU 5)) bh))) (aU 5) (dM Rw (aC (pOp (oqO (Ko pIx)) (aU 3) (aU 5)) bh)) [5]))) (aku "line" Nm 0 (pIf (ji (pOp (oqO (p2 (jM true))) (aU 4) (pC (.str "")))) (Q7 [(pUn (oqU (p1 aef)) (aU 1)),(pC (.str ": ")),(pUn (oqU (p1 aef)) (aU 4))]) (Q7 [(pUn (oqU (p1 aef)) (aU 1)),(pC (.str ": -"))]))))))))))))))
theorem Ra{g:Gh}{A0:AS}:iZ g A0 vH Ag:=(aW (eE (rO (lO (dN afK (aj aA aD)))) (Bt (aj (aJ (c:=(.str "port")) rfl) aD)) dw) (aW (eE (Lg (rO (lO (bJ (BZ (pZ (aq2 (GZ GX)))) (aj aA (aj (aJ (c:=(.ty "dict")) rfl) aD))))) (rO (lO (bJ Y8.oq1 (aj (aas (gQ (Jp (W:=Opq) Opq.run zm gM gA (dN K7 (aj aA (aj (aJ (c:=(.int 0)) rfl) (aj (aJ (c:=(.int 11)) rfl) aD)))))) (rN Opq.run (aeO aA) gM gA (dN K7 (aj aA (aj (aJ (c:=(.int 0)) rfl) (aj (aJ (c:=(.int 11)) rfl) aD)))))) aD))))) (Bt (aj (aJ (c:=(.str "spots")) rfl) aD)) dw) (aW (fQ (ah4 (W:=Opq) Opq.run (v8 (bJ aje.oq1 (aj (aas (gQ (Jp (W:=Opq) Opq.run zm gM gA (bJ Ul (aj aA aD)))) (rN Opq.run (aeO aA) gM gA (bJ Ul (aj aA aD)))) aD))) gM gA aA (aX (dO.oq (mU nu)) aA aA))) (aW (eE (rO (lO (bJ Y8.oq1 (aj (gQ (Jp (W:=Opq) Opq.run zm gM gA (dN YD (aj (aX (dO.oq (mU nu)) aA aA) aD)))) aD)))) (Bt (aj (aJ (c:=(.str "outcome")) rfl) aD)) dw) (aW (eE (rO (lO (dN M4 (aj (gQ (Jp (W:=Opq) Opq.run zm gM gA (aX (dO.oq (mU nu)) aA aA))) aD)))) (Bt (aj (aJ (c:=(.str "marks")) rfl) aD)) dw) (aW (fQ (yq (aJ (c:=(.str ", ")) rfl) (aj (gQ (Jp (W:=Opq) Opq.run zm gM gA (NK (.cons (fZ (Fo.oq Uk) aA) (.cons (aJ (c:=(.str " ")) rfl) (.cons (fZ (Fo.oq Uk) (aX (dO.oq (mU nu)) aA aA)) .nil)))))) aD))) (aW (Lf aA) (aW (Lf (bJ Ce (aj (gQ (Jp (W:=Opq) Opq.run zm gM gA aA)) aD))) (aW (Lf aA) (aW (Lf (gQ (ar6 (W:=Opq) Opq.run zm gM gA aA (dN al1 (aj (aX (dO.oq (mU nu)) aA aA) aD))))) (aW (Lf (gQ (ar6 (W:=Opq) Opq.run zm gM (lO (dN Wr (aj (aX (dO.oq (mU nu)) aA aA) aD))) aA (dN Ws (aj (aX (dO.oq (mU nu)) aA aA) aD))))) (Lf (Ui (cA (aX (dO.oq yr) aA (aJ (c:=(.str "")) rfl))) (NK (.cons (fZ (Fo.oq Uk) aA) (.cons (aJ (c:=(.str ": ")) rfl) (.cons (fZ (Fo.oq Uk) aA) .nil)))) (NK (.cons (fZ (Fo.oq Uk) aA) (.cons (aJ (c:=(.str ": -")) rfl) .nil))))))))))))))))
def yH:List (Str×PAK):=[("Hang",.fld)]
theorem zq:zV AKR xW yH:=(.cons .fld .nil)
def iH:List (Str×PAK):=[("Hang",.fld)]
theorem iw:zV AKR fM iH:=(.cons .fld .nil)
def Ht:aH->PMS:=(nW (Ax (pFn (pF2 (p2 (ab1 vN vM (ab0 vK vL nZ)))) (aC (aU 1) (aC (pC (.cls "Hang")) bh))) (Ax (pOp (oqO (p2 (jM false))) (pUn (Hr "port" yH) (aU 0)) (pUn (Hr "port" yH) (aU 1))) (pOp (oqO (afi false (p2 (jM false)))) (pUn (Hr "outcomes" iH) (aU 0)) (pUn (Hr "outcomes" iH) (aU 1))))))
def jx:List PV->PM D:=DR 2 2 Ht
theorem VF{g:Gh}{A0:AS}:iZ g A0 zB Ht:=(bU (lB (bJ (BZ (pZ (GZ GX))) (aj aA (aj (aJ (c:=(.cls "Hang")) rfl) aD))) (lB (aX (dO.oq qR) (fZ (nH zq) aA) (fZ (nH zq) aA)) (aX (dO.oq (amn qR)) (fZ (nH iw) aA) (fZ (nH iw) aA)))))
theorem VB:dJ gJ jx:=iV VF
theorem Vx:dJ (app 2 gJ) jx:=fK VB
def Ky:List PV->PM D:=oq jx
theorem Vu:dJ (app 2 gJ) Ky:=Vx.oq
def RJ:List (Str×PAK):=[("Hang",.fld)]
theorem XJ:zV AKR M9 RJ:=(.cons .fld .nil)
def Ea:aH->PMS:=(nW (pUn (oqU (p1 aef)) (pUn (Hr "line" RJ) (aU 0))))
def sE:List PV->PM D:=DR 1 1 Ea
theorem TY{g:Gh}{A0:AS}:iZ g A0 xg Ea:=(bU (fZ (Fo.oq Uk) (fZ (nH XJ) aA)))
theorem TQ:dJ fP sE:=iV TY
theorem Tt:dJ (app 1 fP) sE:=fK TQ
def Hq:List PV->PM D:=oq sE
theorem Tg:dJ (app 1 fP) Hq:=Tt.oq
def uz:List PV->PM D:=ax3 "Hang" 6 3 Ag
theorem ard:dJ (yQ "Hang" 3 aV) uz:=ari Ra
def iQ:List PV->PM D:=oq uz
theorem gR:dJ (yQ "Hang" 3 aV) iQ:=ard.oq
def Hu:aH->PMS:=(nW (dM iQ (aC (aU 0) (aC (akt Opq (ab7 (aU 1)) (tN 2) Bs (aU 2) (pC (.str "open")) [2]) bh))))
def kW:List PV->PM D:=DR 3 2 Hu
theorem VG{g:Gh}{A0:AS}:iZ g A0 zE Hu:=(bU (pY gR (aj aA (aj (ah4 (W:=Opq) Opq.run (v8 aA) gM gA aA (aJ (c:=(.str "open")) rfl)) aD))))
theorem VD:dJ nD kW:=iV VG
theorem Vy:dJ (app 2 nD) kW:=fK VD
def Kz:List PV->PM D:=oq kW
theorem Vv:dJ (app 2 nD) Kz:=Vy.oq
def bK:List (Str×(List PV->PM D)):=[("Hang",Ky)]
theorem bF:zV (OwR 2) bH bK:=(.cons Vu .nil)
def OD:aH->PMS:=(nW (pFn (pF1 KJ) (aC (anW (pUn (Hr "outcomes" iH) (aU 0)) (fun ds=>Af Opq (pDs (sdK ds)) (tN 1) (ji (pOp (oqO (cC bK aP aR (fun b=>!b) (p2 (jM true)))) (pOp (oqO (Ko pIx)) (pUn (Hr "outcomes" iH) (aU 0)) (aU 1)) (pC (.str "open")))) (aU 1) [1])) bh)))
def oG:List PV->PM D:=DR 2 1 OD
theorem abb{g:Gh}{A0:AS}:iZ g A0 Hw OD:=(bU (bJ Ce (aj (aja (aqU (aqO (by decide+kernel)) yx) (fZ (nH iw) aA) (Jp (W:=Opq) Opq.run zm gM (cA (aX (dO.oq (cH bF yr)) (aX (dO.oq (mU nu)) (fZ (nH iw) aA) aA) (aJ (c:=(.str "open")) rfl))) aA)) aD)))
theorem aa5:dJ vD oG:=iV abb
def R3:List PV->PM D:=oq oG
theorem aaX:dJ vD R3:=aa5.oq
def vX:aH->PMS:=(eX (wY (pOr (Wz (Nv (dM DW (aC (aU 1) bh)))) (ji (pOp (oqO (anw true (p2 (inD true)))) (aU 1) (pUn (Hr "outcomes" iH) (aU 0))))) (Ue "BadCount" ["value"] (aC (aU 1) bh)) lY) (nW (pOp (oqO (Ko pIx)) (pUn (Hr "outcomes" iH) (aU 0)) (aU 1))))
def eV:List PV->PM D:=DR 2 2 vX
theorem Jk{g:Gh}{A0:AS}:iZ g A0 qw vX:=(aW (eE (Lg (rO (lO (dN R8 (aj aA aD)))) (cA (aX (dO.oq (ah5 TV)) aA (fZ (nH iw) aA)))) (Bt (aj aA aD)) dw) (bU (aX (dO.oq (mU nu)) (fZ (nH iw) aA) aA)))
theorem Jf:dJ cW eV:=iV Jk
theorem Ja:dJ (app 2 cW) eV:=fK Jf
def wW:List PV->PM D:=oq eV
theorem Iw:dJ (app 2 cW) wW:=Ja.oq
def vB:List (Str×PAK):=[("Hang",.prop R3)]
theorem uD:zV AKR qN vB:=(.cons (.prop aaX) .nil)
def DY:aH->PMS:=(nW (pFn (pF1 (oqU (p1 Oo))) (aC (pUn (Hr "told" vB) (aU 0)) bh)))
def su:List PV->PM D:=DR 1 1 DY
theorem TX{g:Gh}{A0:AS}:iZ g A0 w6 DY:=(bU (bJ u5.oq1 (aj (fZ (nH uD) aA) aD)))
theorem TJ:dJ fO su:=iV TX
theorem Tq:dJ (app 1 fO) su:=fK TJ
def Ho:List PV->PM D:=oq su
theorem Tf:dJ (app 1 fO) Ho:=Tq.oq
def Ie:List PV->PM D:=ac0
theorem aa6:dJ g8 Ie:=amm draw
theorem aa1:dJ (app 2 g8) Ie:=amk aa6 alm
def vG:List PV->PM D:=oq Ie
theorem wG:dJ (app 2 g8) vG:=aa1.oq
def OJ:aH->PMS:=(nW (pOp (oqO pIx) (aU 1) (dM vG (aC (aU 0) (aC (pFn (pF1 (oqU (p1 Oo))) (aC (aU 1) bh)) bh)))))
def yU:List PV->PM D:=DR 2 2 OJ
theorem abd{g:Gh}{A0:AS}:iZ g A0 HF OJ:=(bU (aX (dO.oq nu) aA (dN wG (aj aA (aj (bJ u5.oq1 (aj aA aD)) aD)))))
theorem aa7:dJ fD yU:=iV abd
theorem aa2:dJ (app 2 fD) yU:=fK aa7
def j7:List PV->PM D:=oq yU
theorem jT:dJ (app 2 fD) j7:=aa2.oq
def mZ:List (Str×(List PV->PM D)):=[("Hang",Hq)]
theorem jO:zV (OwR 1) jd mZ:=(.cons Tg .nil)
def rZ:aH->PMS:=(eX (Bp (dM j7 (aC (aU 0) (aC (zM (aC (pC (.str "out 0")) (aC (pC (.str "out 11")) (aC (pC (.str "stop a")) (aC (pC (.str "stop a")) (aC (pC (.str "stop ever")) (aC (pC (.str "lost")) (aC (pC (.str "ever")) (aC (pC (.str "open")) (aC (pC (.str "open")) bh)))))))))) bh))) 5) (eX (wY (aqR (Nv (aU 1)) (ji (pOp (oqO (cC bK aP aR id (p2 (jM false)))) (pSl (aU 5) FP (Zv (pC (.int 4)))) (pC (.str "stop"))))) (eX (Bp (dM vG (aC (aU 0) (aC (pOp Q6 (aU 3) (pC (.int 1))) bh))) 6) (eX (Bp (pFn (pF2 (p2 maxD)) (aC (aU 3) (aC (pFn (pF1 (p1 intD)) (aC (pOp Q6 (aU 6) (pC (.int 1))) bh)) bh))) 3) (Bp (pOp Q6 (pOp Q6 (aU 5) (pC (.str " "))) (pFn (pF1 (oqU (U7 mZ))) (aC (aU 6) bh))) 5))) lY) (ahX 2 (aU 5) (aU 4))))
def O2:aH->PMS:=(eX (eX (Zt Pk 2) (Bp (pC (.int 0)) 3)) (eX (Zu Opq (ab7 (pUn (oqU IW) (Af Opq (oqI (GD (aC (dM vG (aC (aU 0) (aC (pC (.int 6)) bh))) bh))) (tN 7) Bs (dM vG (aC (aU 0) (aC (pC (.int 12)) bh))) [7]))) (tN 4) rZ) (aeA 2 (nW (Bq (aC (dM j7 (aC (aU 0) (aC (zM (aC (pC (.str "a0")) (aC (pC (.str "a1")) (aC (pC (.str "x2")) bh)))) bh))) (aC (aU 2) bh)))))))
def yV:List PV->PM D:=DR 8 2 O2
theorem abe{g:Gh}{A0:AS}:iZ g A0 HJ O2:=(aW (ams aq0 (aW (BX xP) (fQ (aJ (c:=(.int 0)) rfl)))) (aW (Qm Opq.run (v8 (fZ (Fo.oq agj) (rN Opq.run (yC (aj (dN wG (aj aA (aj (aJ (c:=(.int 6)) rfl) aD))) aD)).oq gM gA (dN wG (aj aA (aj (aJ (c:=(.int 12)) rfl) aD)))))) YZ (aW (fQ (dN jT (aj aA (aj (fj (aj (aJ (c:=(.str "out 0")) rfl) (aj (aJ (c:=(.str "out 11")) rfl) (aj (aJ (c:=(.str "stop a")) rfl) (aj (aJ (c:=(.str "stop a")) rfl) (aj (aJ (c:=(.str "stop ever")) rfl) (aj (aJ (c:=(.str "lost")) rfl) (aj (aJ (c:=(.str "ever")) rfl) (aj (aJ (c:=(.str "open")) rfl) (aj (aJ (c:=(.str "open")) rfl) aD)))))))))) aD)))) (aW (eE (acf (lO aA) (cA (aX (dO.oq (cH bF qR)) (Uj aA uX (Ca (aJ (c:=(.int 4)) rfl))) (aJ (c:=(.str "stop")) rfl)))) (aW (fQ (dN wG (aj aA (aj (aX tH aA (aJ (c:=(.int 1)) rfl)) aD)))) (aW (fQ (bJ auA (aj aA (aj (bJ Ul (aj (aX tH aA (aJ (c:=(.int 1)) rfl)) aD)) aD)))) (fQ (aX tH (aX tH aA (aJ (c:=(.str " ")) rfl)) (bJ (G6 jO).oq1 (aj aA aD)))))) dw) (Lh aA aA)))) (FZ (bU (fU (aj (dN jT (aj aA (aj (fj (aj (aJ (c:=(.str "a0")) rfl) (aj (aJ (c:=(.str "a1")) rfl) (aj (aJ (c:=(.str "x2")) rfl) aD)))) aD))) (aj aA aD)))))))
theorem aa8:dJ qW yV:=iV abe
theorem aa3:dJ (app 2 qW) yV:=fK aa8
def R4:List PV->PM D:=oq yV
theorem aaW:dJ (app 2 qW) R4:=aa3.oq
def RK:List (Str×PAK):=[]
theorem XM:zV AKR Dz RK:=.nil
def Oe:List (Str×PAK):=[]
theorem U9:zV AKR yI Oe:=.nil
def KN(th:PM D):aH->PMS:=(eX (acY (Bq (aC (pC .non) (aC (pC .non) bh))) [1,2]) (eX (ax6 Dm 3 1 (Bp (ava th) 2)) (eX (wY (ji (pOp (p2 (akn false)) (aU 1) (pC .non))) (nW (zM (aC (aU 2) bh))) lY) (eX (wY (Nv (pFn (pF2 (p2 (ab1 vN vM (ab0 vK vL nZ)))) (aC (aU 1) (aC (pC (.cls "BadHang")) bh)))) (nW (Bq (aC (pC (.str "hang")) (aC (pUn (ajZ "part" Nb (Hr "part" RK)) (aU 1)) bh)))) lY) (nW (pIf (Nv (pFn (pF2 (p2 (ab1 vN vM (ab0 vK vL nZ)))) (aC (aU 1) (aC (pC (.cls "BadCount")) bh)))) (Bq (aC (pC (.str "count")) (aC (pUn (ajZ "value" Hv (Hr "value" Oe)) (aU 1)) bh))) (Bq (aC (pC (.str "odd")) (aC (pC .non) bh)))))))))
def mW:PM D->PM D:=fun th i Q E=>KN th (startP 4 [.fr .non]) i (ahW Q E)
theorem Y0{g:Gh}{A0:AS}{tm:M CV}{th:PM D}(ht:ar4 g A0 tm th):iZ g A0 (sW .non tm) (KN th):=(aW (Jh (fU (aj (aJ (c:=.non) rfl) (aj (aJ (c:=.non) rfl) aD)))) (aW (arn (fQ (arf ht))) (aW (eE (cA (aX aur aA (aJ (c:=.non) rfl))) (bU (fj (aj aA aD))) dw) (aW (eE (lO (bJ (BZ (pZ (GZ GX))) (aj aA (aj (aJ (c:=(.cls "BadHang")) rfl) aD)))) (bU (fU (aj (aJ (c:=(.str "hang")) rfl) (aj (fZ (aij (nH XM)) aA) aD)))) dw) (bU (Ui (lO (bJ (BZ (pZ (GZ GX))) (aj aA (aj (aJ (c:=(.cls "BadCount")) rfl) aD)))) (fU (aj (aJ (c:=(.str "count")) rfl) (aj (fZ (aij (nH U9)) aA) aD))) (fU (aj (aJ (c:=(.str "odd")) rfl) (aj (aJ (c:=.non) rfl) aD)))))))))
theorem YX:aki d7 mW:=amo Y0
def jg:PM D->PM D:=oqH mW
theorem jw:aki d7 jg:=YX.oq
def VL:List (Str×(List PV->PM D)):=[("Hang",Ho)]
theorem aaB:zV (OwR 1) Rx VL:=(.cons Tf .nil)
def sU:List (Str×PAK):=[("Hang",.fld)]
theorem rQ:zV AKR mK sU:=(.cons .fld .nil)
def jC:List (Str×(List PV->PM D)):=[("Hang",wW)]
theorem lE:zV (OwR 2) fJ jC:=(.cons Iw .nil)
def vP:aH->PMS:=(ahX 3 (pOp (oqO (Ko pIx)) (aU 2) (aU 4)) (aU 4))
def En:aH->PMS:=(nW (pOp (oqO (cC bK aP aR id (p2 (jM false)))) (pFn (pF1 (oqU (p1 wL))) (aC (afO jg (pOp (oqO (BP jC pIx)) (aU 5) (aU 8))) bh)) (pFn (pF1 (oqU (p1 wL))) (aC (Bq (aC (pC (.str "count")) (aC (aU 8) bh))) bh))))
def Em:aH->PMS:=(eX (Bp (dM j7 (aC (aU 0) (aC (pOp Q6 (zM (aC (pUn (p1 asz) (pC (.int 1))) (aC (pC (.int 12)) (aC (pC .non) (aC (pC (.bl true)) (aC (pC (.str "0")) (aC (Bq (aC (pC (.int 0)) bh)) (aC (zM bh) (aC Pk bh))))))))) (Af Opq (oqI (GD (aC (pC (.int 12)) bh))) (tN 4) (ji (pOp (oqO (anw true (p2 (inD true)))) (aU 4) (aU 2))) (aU 4) [4])) bh))) 8) (jh En))
def El:aH->PMS:=(eX (wY (ji (pOp (oqO (cC bK aP aR (fun b=>!b) (p2 (jM true)))) (pFn (pF1 (oqU (U7 mZ))) (aC (aU 5) bh)) (pOp Q6 (pOp Q6 (aU 1) (pC (.str ": "))) (pIf (ji (pOp (oqO (cC bK aP aR (fun b=>!b) (p2 (jM true)))) (aU 7) (pC (.str "")))) (aU 7) (pC (.str "-")))))) (nW (pC (.bl false))) lY) (jh Em))
def Ek:aH->PMS:=(eX (Bp (pBM uM (oqB Gz) (pC (.str ", ")) (aC (nQ 2 (fun ds=>Af Opq (pDs (sdK ds)) (tN 4) Bs (pOp Q6 (pOp Q6 (pFn (pF1 (oqU (U7 mZ))) (aC (aU 4) bh)) (pC (.str " "))) (pOp (oqO (Ko pIx)) (aU 2) (aU 4))) [4])) bh)) 7) (jh El))
def Ei:aH->PMS:=(eX (wY (ji (pOp (oqO (cC bK aP aR (fun b=>!b) (p2 (jM true)))) (nQ 2 (fun ds=>Af Opq (pDs (sdK ds)) (tN 4) Bs (pOp (oqO (BP jC pIx)) (aU 5) (aU 4)) [4])) (nQ 2 (fun ds=>Af Opq (pDs (sdK ds)) (tN 4) Bs (pOp (oqO (Ko pIx)) (aU 2) (aU 4)) [4])))) (nW (pC (.bl false))) lY) (jh Ek))
def Eh:aH->PMS:=(eX (wY (ji (pOp (oqO (cC bK aP aR (fun b=>!b) (p2 (jM true)))) (pFn (pF1 (oqU (p1 wL))) (aC (zM (aC (pUn (Hr "port" yH) (aU 5)) (aC (pUn (Hr "spots" sU) (aU 5)) (aC (pUn (Hr "told" vB) (aU 5)) (aC (pFn (pF1 (oqU (afP VL (p1 Oo)))) (aC (aU 5) bh)) bh))))) bh)) (pFn (pF1 (oqU (p1 wL))) (aC (zM (aC (aU 1) (aC (pFn (aj2 (pF1 KJ)) (aC (aU 2) bh)) (aC (pFn (pF1 KJ) (aC (aU 6) bh)) (aC (pFn (pF1 (oqU (p1 Oo))) (aC (aU 6) bh)) bh))))) bh)))) (nW (pC (.bl false))) lY) (jh Ei))
def Ef:aH->PMS:=(eX (ahX 3 (pC (.str "nothing")) (pC (.int 3))) (jh Eh))
def Ed:aH->PMS:=(eX (acY (Bq (aC (dM iQ (aC (aU 1) (aC (aU 3) bh))) (aC (nQ 2 (fun ds=>Af Opq (pDs (sdK ds)) (tN 4) (ji (pOp (oqO (cC bK aP aR (fun b=>!b) (p2 (jM true)))) (pOp (oqO (Ko pIx)) (aU 2) (aU 4)) (pC (.str "open")))) (aU 4) [4])) bh))) [5,6]) (jh Ef))
def Eb:aH->PMS:=(eX (Zu Opq (ab7 (pUn avc (pFn (ac2 (pF1 aj0)) (aC (aU 2) bh)))) (tN 4) vP) (jh Ed))
def KQ:aH->PMS:=(eX (Zt Pk 3) (jh Eb))
def wI:List PV->PM D:=DR 9 3 KQ
theorem Y4{g:Gh}{A0:AS}:iZ g A0 Di KQ:=(aW (BX xP) (bR (aW (Qm Opq.run (v8 (fZ auz (bJ (aeV aik) (aj aA aD)))) YZ (Lh (aX (dO.oq (mU nu)) aA aA) aA)) (bR (aW (Jh (fU (aj (pY gR (aj aA (aj aA aD))) (aj (gQ (Jp (W:=Opq) Opq.run zm gM (cA (aX (dO.oq (cH bF yr)) (aX (dO.oq (mU nu)) aA aA) (aJ (c:=(.str "open")) rfl))) aA)) aD)))) (bR (aW (Lh (aJ (c:=(.str "nothing")) rfl) (aJ (c:=(.int 3)) rfl)) (bR (aW (eE (cA (aX (dO.oq (cH bF yr)) (bJ W6.oq1 (aj (fj (aj (fZ (nH zq) aA) (aj (fZ (nH rQ) aA) (aj (fZ (nH uD) aA) (aj (bJ (arA aaB u5).oq1 (aj aA aD)) aD))))) aD)) (bJ W6.oq1 (aj (fj (aj aA (aj (bJ (ain Ce) (aj aA aD)) (aj (bJ Ce (aj aA aD)) (aj (bJ u5.oq1 (aj aA aD)) aD))))) aD)))) (bU (aJ (c:=(.bl false)) rfl)) dw) (bR (aW (eE (cA (aX (dO.oq (cH bF yr)) (gQ (Jp (W:=Opq) Opq.run zm gM gA (aX (dO.oq (Ji lE nu)) aA aA))) (gQ (Jp (W:=Opq) Opq.run zm gM gA (aX (dO.oq (mU nu)) aA aA))))) (bU (aJ (c:=(.bl false)) rfl)) dw) (bR (aW (fQ (yq (aJ (c:=(.str ", ")) rfl) (aj (gQ (Jp (W:=Opq) Opq.run zm gM gA (aX tH (aX tH (bJ (G6 jO).oq1 (aj aA aD)) (aJ (c:=(.str " ")) rfl)) (aX (dO.oq (mU nu)) aA aA)))) aD))) (bR (aW (eE (cA (aX (dO.oq (cH bF yr)) (bJ (G6 jO).oq1 (aj aA aD)) (aX tH (aX tH aA (aJ (c:=(.str ": ")) rfl)) (Ui (cA (aX (dO.oq (cH bF yr)) aA (aJ (c:=(.str "")) rfl))) aA (aJ (c:=(.str "-")) rfl))))) (bU (aJ (c:=(.bl false)) rfl)) dw) (bR (aW (fQ (dN jT (aj aA (aj (aX tH (fj (aj (fZ an9 (aJ (c:=(.int 1)) rfl)) (aj (aJ (c:=(.int 12)) rfl) (aj (aJ (c:=.non) rfl) (aj (aJ (c:=(.bl true)) rfl) (aj (aJ (c:=(.str "0")) rfl) (aj (fU (aj (aJ (c:=(.int 0)) rfl) aD)) (aj (fj aD) (aj xP aD))))))))) (rN Opq.run (yC (aj (aJ (c:=(.int 12)) rfl) aD)).oq gM (cA (aX (dO.oq (ah5 TV)) aA aA)) aA)) aD)))) (bR (bU (aX (dO.oq (cH bF qR)) (bJ W6.oq1 (aj (Ah jw rfl (aX (dO.oq (Ji lE nu)) aA aA)) aD)) (bJ W6.oq1 (aj (fU (aj (aJ (c:=(.str "count")) rfl) (aj aA aD))) aD))))))))))))))))))))))
theorem YS:dJ oM wI:=iV Y4
theorem YJ:dJ (app 3 oM) wI:=fK YS
def Ov:List PV->PM D:=oq wI
theorem YC:dJ (app 3 oM) Ov:=YJ.oq
def tK:aH->PMS:=(eX (eX (Zt (pFn (oqV zL) (aC (aU 1) bh)) 5) (Zt (pFn (oqV zL) (aC (aU 1) bh)) 6)) (eX (ahX 5 (pIf (ji (pOp (oqO (cC bK aP aR (fun b=>!b) (p2 (jM true)))) (pOp (oqO (Ko pIx)) (aU 1) (aU 4)) (pC (.str "out 5")))) (pC (.str "out 5")) (pC (.str "out 6"))) (aU 4)) (eX (aeA 5 (avb 6 (aU 4))) (aeA 6 (wY (aqR (Wz (Nv (aU 3))) (pOr (ji (pOp (oqO (cC bK aP aR id (p2 (jM false)))) (aU 2) (dM iQ (aC (aU 0) (aC (aU 5) bh))))) (ji (pOp (oqO (cC bK aP aR id (p2 (jM false)))) (aU 2) (dM iQ (aC (aU 0) (aC (aU 6) bh))))))) (nW (pC (.bl false))) lY)))))
def tW:aH->PMS:=(eX (wY (ji (pOp (oqO (cC bK aP aR (fun b=>!b) (p2 (jM true)))) (Af Opq (ab7 (aU 8)) (tN 4) Bs (pOp (oqO (BP jC pIx)) (aU 7) (aU 4)) [4]) (pOp (oqO aqS) (zM (aC (pC (.str "open")) bh)) (pFn (pF1 (oqU (p1 Oo))) (aC (aU 8) bh))))) (nW (pC (.bl false))) lY) (nW (Ax (pOp (oqO (cC bK aP aR id (p2 (jM false)))) (pUn (Hr "told" vB) (aU 7)) (Bq bh)) (pOp (oqO (cC bK aP aR id (p2 (jM false)))) (pUn (Hr "spots" sU) (aU 7)) (pFn (pF1 KJ) (aC (aU 8) bh))))))
def tV:aH->PMS:=(eX (acY (Bq (aC (dM (pKw 2 [0,1] Kz) (aC (aU 0) (aC (pFn (aj2 (pF1 KJ)) (aC (aU 1) bh)) bh))) (aC (pFn (ac2 (pF1 aj0)) (aC (aU 1) bh)) bh))) [7,8]) (jh tW))
def tU:aH->PMS:=(eX (ab6 1 (fun ds=>Zu Opq (pDs (sdK ds)) (tN 4) tK)) (jh tV))
def tR:aH->PMS:=(eX (Bp (pOp (oqO (cC bK aP aR (fun b=>!b) (p2 (jM true)))) (nQ 1 (fun ds=>Af Opq (pDs (sdV ds)) (tN 9) (ji (pOp (oqO (cC bK aP aR id (p2 (jM false)))) (pFn (pF1 (oqU (p1 Oo))) (aC (pBM uM (oqB GF) (aU 9) (aC (pC (.str " ")) bh)) bh)) (pC (.int 3)))) (pC (.int 1)) [9])) (zM bh)) 3) (jh tU))
def tQ:aH->PMS:=(eX (wY (ji (pOp (oqO (afN bK nZ (p2 (inD false)))) (aU 2) (zM (aC (pC .non) (aC (aU 0) (aC (aU 1) (aC (pFn (pF1 (oqU (U7 mZ))) (aC (aU 2) bh)) bh))))))) (nW (pC (.bl false))) lY) (jh tR))
def tM:aH->PMS:=(eX (wY (pOr (ji (pOp (oqO (cC bK aP aR (fun b=>!b) (p2 (jM true)))) (aU 2) (dM (pKw 2 [1,0] iQ) (aC (pFn (oqV zL) (aC (aU 1) bh)) (aC (aU 0) bh))))) (ji (pOp (oqO (cC bK aP aR id (p2 (jM false)))) (aU 2) (dM iQ (aC (pC (.str "b0")) (aC (aU 1) bh)))))) (nW (pC (.bl false))) lY) (jh tQ))
def vY:aH->PMS:=(eX (Bp (dM iQ (aC (aU 0) (aC (aU 1) bh))) 2) (jh tM))
def lZ:List PV->PM D:=DR 10 2 vY
theorem Jl{g:Gh}{A0:AS}:iZ g A0 qC vY:=(aW (fQ (pY gR (aj aA (aj aA aD)))) (bR (aW (eE (Lg (cA (aX (dO.oq (cH bF yr)) aA (arj (ai9 gR (by decide) rfl) (aj (bJ Lj.oqv (aj aA aD)) (aj aA aD))))) (cA (aX (dO.oq (cH bF qR)) aA (pY gR (aj (aJ (c:=(.str "b0")) rfl) (aj aA aD)))))) (bU (aJ (c:=(.bl false)) rfl)) dw) (bR (aW (eE (cA (aX (dO.oq (arq bF TV)) aA (fj (aj (aJ (c:=.non) rfl) (aj aA (aj aA (aj (bJ (G6 jO).oq1 (aj aA aD)) aD))))))) (bU (aJ (c:=(.bl false)) rfl)) dw) (bR (aW (fQ (aX (dO.oq (cH bF yr)) (gQ (Jp (W:=Opq) Opq.run axa gM (cA (aX (dO.oq (cH bF qR)) (bJ u5.oq1 (aj (NP aA (aj (aJ (c:=(.str " ")) rfl) aD)) aD)) (aJ (c:=(.int 3)) rfl))) (aJ (c:=(.int 1)) rfl))) (fj aD))) (bR (aW (af8 (as5 (W:=Opq) Opq.run zm YZ (aW (amr (afS (by decide)) (aW (BX (bJ Lj.oqv (aj aA aD))) (BX (bJ Lj.oqv (aj aA aD))))) (aW (Lh (Ui (cA (aX (dO.oq (cH bF yr)) (aX (dO.oq (mU nu)) aA aA) (aJ (c:=(.str "out 5")) rfl))) (aJ (c:=(.str "out 5")) rfl) (aJ (c:=(.str "out 6")) rfl)) aA) (aW (FZ (arl aA)) (FZ (eE (acf (rO (lO aA)) (Lg (cA (aX (dO.oq (cH bF qR)) aA (pY gR (aj aA (aj aA aD))))) (cA (aX (dO.oq (cH bF qR)) aA (pY gR (aj aA (aj aA aD))))))) (bU (aJ (c:=(.bl false)) rfl)) dw))))))) (bR (aW (Jh (fU (aj (arh (aun Vv) (aj aA (aj (bJ (ain Ce) (aj aA aD)) aD))) (aj (bJ (aeV aik) (aj aA aD)) aD)))) (bR (aW (eE (cA (aX (dO.oq (cH bF yr)) (rN Opq.run (v8 aA) gM gA (aX (dO.oq (Ji lE nu)) aA aA)) (aX (dO.oq aus) (fj (aj (aJ (c:=(.str "open")) rfl) aD)) (bJ u5.oq1 (aj aA aD))))) (bU (aJ (c:=(.bl false)) rfl)) dw) (bU (lB (aX (dO.oq (cH bF qR)) (fZ (nH uD) aA) (fU aD)) (aX (dO.oq (cH bF qR)) (fZ (nH rQ) aA) (bJ Ce (aj aA aD))))))))))))))))))
theorem Jg:dJ fY lZ:=iV Jl
theorem Jb:dJ (app 2 fY) lZ:=fK Jg
def wX:List PV->PM D:=oq lZ
theorem Iz:dJ (app 2 fY) wX:=Jb.oq
def pH:aH->PMS:=(eX (aks 8 (afO jg (dM iQ (aC (pC (.str "a0")) (aC (dM j7 (aC (aU 0) (aC (aU 7) bh))) bh))))) (aeA 8 (nW (pOp (oqO (cC bK aP aR id (p2 (jM false)))) (aU 8) (zM (aC (Bq (aC (pC (.str "hang")) (aC (pC (.str "port")) bh))) (aC (Bq (aC (pC (.str "hang")) (aC (pC (.str "spots")) bh))) (aC (Bq (aC (pC (.str "hang")) (aC (pC (.str "outcome")) bh))) (aC (Bq (aC (pC (.str "hang")) (aC (pC (.str "outcome")) bh))) (aC (Bq (aC (pC (.str "hang")) (aC (pC (.str "marks")) bh))) bh))))))))))
def pG:aH->PMS:=(eX (aks 8 (afO jg (dM iQ (aC (pC (.str "a0")) (aC (Jz (aC (pC (.int 0)) (aC (aU 6) (aC (pC (.int 1)) (aC (pC (.str "stop a 3")) (aC (pC (.int 2)) (aC (pC (.str "stop a")) bh))))))) bh))))) (jh pH))
def pF:aH->PMS:=(eX (aks 8 (afO jg (dM iQ (aC (pC (.str "a0")) (aC (Jz (aC (pC (.int 0)) (aC (pC (.str "open")) (aC (pC (.int 1)) (aC (aU 6) bh))))) bh))))) (jh pG))
def qL:aH->PMS:=(eX (aks 8 (afO jg (dM iQ (aC (pC (.str "a0")) (aC (aU 5) bh))))) (jh pF))
def qK:aH->PMS:=(eX (aeA 7 (Zt (zM (aC (afO jg (dM iQ (aC (aU 4) (aC (dM j7 (aC (aU 0) (aC (zM (aC (aU 5) (aC (Jz (aC (pC (.int 0)) (aC (aU 6) bh))) (aC Pk (aC (pOp (oqO pIx) (aU 7) (pC (.int 0))) bh))))) bh))) bh)))) bh)) 8)) (jh qL))
def zU:aH->PMS:=(eX (aks 7 (Jz (aC (pC (.int 0)) (aC (pC (.str "stop a 0")) (aC (pC (.int 7)) (aC (pC (.str "stop b 2")) bh)))))) (jh qK))
def qJ:aH->PMS:=(eX (Zt (zM (aC (Jz (aC (pC (.int 0)) (aC (pC (.str "stop a 0")) (aC (pC (.int 1)) (aC (pC (.str "stop a")) bh))))) (aC (Jz (aC (pC (.int 0)) (aC (pC (.str "stop a")) (aC (pC (.int 5)) (aC (pC (.str "stop b 0")) bh))))) (aC (Jz (aC (pC (.int 4)) (aC (pC (.str "stop a 1")) bh))) bh)))) 7) (jh zU))
def qH:aH->PMS:=(eX (acY (Bq (aC (dM j7 (aC (aU 0) (aC (aU 1) bh))) (aC (dM j7 (aC (aU 0) (aC (aU 2) bh))) (aC (dM j7 (aC (aU 0) (aC (aU 3) bh))) bh)))) [4,5,6]) (jh qJ))
def zR:aH->PMS:=(eX (Bp (pOp Q6 (aU 3) (zM (aC (zM (aC (pC (.str "open")) bh)) (aC (Bq (aC (pC (.str "open")) bh)) (aC (pC (.str "ever\n")) (aC (pC (.str "out 1\n")) (aC (pC (.bl true)) bh))))))) 3) (jh qH))
def zQ:aH->PMS:=(eX (Bp (pOp Q6 (aU 3) (zM (aC (pC (.str "stop a  0")) (aC (pC (.str "open ")) (aC (pC (.str " open")) (aC (pC (.str "Open")) (aC (pC (.str "")) (aC (pC .non) (aC (pC (.int 3)) (aC (pC (.str "lost 1")) (aC (pC (.str "stop a b")) (aC (pC (.str "out 1 1")) (aC (pC (.str "stop a 0 0")) bh))))))))))))) 3) (jh zR))
def qG:aH->PMS:=(eX (Bp (zM (aC (pC (.str "out 12")) (aC (pC (.str "out 01")) (aC (pC (.str "out")) (aC (pC (.str "out -1")) (aC (pC (.str "out x")) (aC (pC (.str "stop")) (aC (pC (.str "stop A")) (aC (pC (.str "stop abcdefghi")) (aC (pC (.str "stop a 12")) (aC (pC (.str "stop a 01")) bh))))))))))) 3) (jh zQ))
def qF:aH->PMS:=(eX (Bp (zM (aC (pC .non) (aC (zM bh) (aC (pC (.str "a")) (aC (aj1 (pC (.bl true)) (pC (.str "open"))) (aC (Jz (aC (pUn (p1 asz) (pC (.int 1))) (aC (pC (.str "open")) bh))) (aC (Jz (aC (pC (.int 12)) (aC (pC (.str "open")) bh))) (aC (Jz (aC (pC (.str "0")) (aC (pC (.str "open")) bh))) (aC (aj1 (pC .non) (pC (.str "open"))) (aC (aj1 (Bq (aC (pC (.int 0)) bh)) (pC (.str "open"))) (aC (pC (.int 5)) bh))))))))))) 2) (jh qG))
def tL:aH->PMS:=(eX (Bp (zM (aC (pC .non) (aC (pC (.str "")) (aC (pC (.str "a")) (aC (pC (.str "a3")) (aC (pC (.str "A0")) (aC (pC (.str "a00")) (aC (Bq (aC (pC (.str "a")) (aC (pC (.int 0)) bh))) (aC (pC (.int 0)) (aC (pC (.bl true)) (aC (zM (aC (pC (.str "a0")) bh)) (aC (pC (.str "a 0")) (aC (pC (.str "0a")) bh))))))))))))) 1) (jh qF))
def jK:List PV->PM D:=DR 9 1 tL
theorem Fj{g:Gh}{A0:AS}:iZ g A0 nY tL:=(aW (fQ (fj (aj (aJ (c:=.non) rfl) (aj (aJ (c:=(.str "")) rfl) (aj (aJ (c:=(.str "a")) rfl) (aj (aJ (c:=(.str "a3")) rfl) (aj (aJ (c:=(.str "A0")) rfl) (aj (aJ (c:=(.str "a00")) rfl) (aj (fU (aj (aJ (c:=(.str "a")) rfl) (aj (aJ (c:=(.int 0)) rfl) aD))) (aj (aJ (c:=(.int 0)) rfl) (aj (aJ (c:=(.bl true)) rfl) (aj (fj (aj (aJ (c:=(.str "a0")) rfl) aD)) (aj (aJ (c:=(.str "a 0")) rfl) (aj (aJ (c:=(.str "0a")) rfl) aD)))))))))))))) (bR (aW (fQ (fj (aj (aJ (c:=.non) rfl) (aj (fj aD) (aj (aJ (c:=(.str "a")) rfl) (aj (Xq (aJ (c:=(.bl true)) rfl) (aJ (c:=(.str "open")) rfl)) (aj (oY (aj (fZ an9 (aJ (c:=(.int 1)) rfl)) (aj (aJ (c:=(.str "open")) rfl) aD))) (aj (oY (aj (aJ (c:=(.int 12)) rfl) (aj (aJ (c:=(.str "open")) rfl) aD))) (aj (oY (aj (aJ (c:=(.str "0")) rfl) (aj (aJ (c:=(.str "open")) rfl) aD))) (aj (Xq (aJ (c:=.non) rfl) (aJ (c:=(.str "open")) rfl)) (aj (Xq (fU (aj (aJ (c:=(.int 0)) rfl) aD)) (aJ (c:=(.str "open")) rfl)) (aj (aJ (c:=(.int 5)) rfl) aD)))))))))))) (bR (aW (fQ (fj (aj (aJ (c:=(.str "out 12")) rfl) (aj (aJ (c:=(.str "out 01")) rfl) (aj (aJ (c:=(.str "out")) rfl) (aj (aJ (c:=(.str "out -1")) rfl) (aj (aJ (c:=(.str "out x")) rfl) (aj (aJ (c:=(.str "stop")) rfl) (aj (aJ (c:=(.str "stop A")) rfl) (aj (aJ (c:=(.str "stop abcdefghi")) rfl) (aj (aJ (c:=(.str "stop a 12")) rfl) (aj (aJ (c:=(.str "stop a 01")) rfl) aD)))))))))))) (bR (aW (fQ (aX tH aA (fj (aj (aJ (c:=(.str "stop a  0")) rfl) (aj (aJ (c:=(.str "open ")) rfl) (aj (aJ (c:=(.str " open")) rfl) (aj (aJ (c:=(.str "Open")) rfl) (aj (aJ (c:=(.str "")) rfl) (aj (aJ (c:=.non) rfl) (aj (aJ (c:=(.int 3)) rfl) (aj (aJ (c:=(.str "lost 1")) rfl) (aj (aJ (c:=(.str "stop a b")) rfl) (aj (aJ (c:=(.str "out 1 1")) rfl) (aj (aJ (c:=(.str "stop a 0 0")) rfl) aD)))))))))))))) (bR (aW (fQ (aX tH aA (fj (aj (fj (aj (aJ (c:=(.str "open")) rfl) aD)) (aj (fU (aj (aJ (c:=(.str "open")) rfl) aD)) (aj (aJ (c:=(.str "ever\n")) rfl) (aj (aJ (c:=(.str "out 1\n")) rfl) (aj (aJ (c:=(.bl true)) rfl) aD)))))))) (bR (aW (Jh (fU (aj (dN jT (aj aA (aj aA aD))) (aj (dN jT (aj aA (aj aA aD))) (aj (dN jT (aj aA (aj aA aD))) aD))))) (bR (aW (BX (fj (aj (oY (aj (aJ (c:=(.int 0)) rfl) (aj (aJ (c:=(.str "stop a 0")) rfl) (aj (aJ (c:=(.int 1)) rfl) (aj (aJ (c:=(.str "stop a")) rfl) aD))))) (aj (oY (aj (aJ (c:=(.int 0)) rfl) (aj (aJ (c:=(.str "stop a")) rfl) (aj (aJ (c:=(.int 5)) rfl) (aj (aJ (c:=(.str "stop b 0")) rfl) aD))))) (aj (oY (aj (aJ (c:=(.int 4)) rfl) (aj (aJ (c:=(.str "stop a 1")) rfl) aD))) aD))))) (bR (aW (Q8 (oY (aj (aJ (c:=(.int 0)) rfl) (aj (aJ (c:=(.str "stop a 0")) rfl) (aj (aJ (c:=(.int 7)) rfl) (aj (aJ (c:=(.str "stop b 2")) rfl) aD)))))) (bR (aW (FZ (BX (fj (aj (Ah jw rfl (pY gR (aj aA (aj (dN jT (aj aA (aj (fj (aj aA (aj (oY (aj (aJ (c:=(.int 0)) rfl) (aj aA aD))) (aj xP (aj (aX (dO.oq nu) aA (aJ (c:=(.int 0)) rfl)) aD))))) aD))) aD)))) aD)))) (bR (aW (Q8 (Ah jw rfl (pY gR (aj (aJ (c:=(.str "a0")) rfl) (aj aA aD))))) (bR (aW (Q8 (Ah jw rfl (pY gR (aj (aJ (c:=(.str "a0")) rfl) (aj (oY (aj (aJ (c:=(.int 0)) rfl) (aj (aJ (c:=(.str "open")) rfl) (aj (aJ (c:=(.int 1)) rfl) (aj aA aD))))) aD))))) (bR (aW (Q8 (Ah jw rfl (pY gR (aj (aJ (c:=(.str "a0")) rfl) (aj (oY (aj (aJ (c:=(.int 0)) rfl) (aj aA (aj (aJ (c:=(.int 1)) rfl) (aj (aJ (c:=(.str "stop a 3")) rfl) (aj (aJ (c:=(.int 2)) rfl) (aj (aJ (c:=(.str "stop a")) rfl) aD))))))) aD))))) (bR (aW (Q8 (Ah jw rfl (pY gR (aj (aJ (c:=(.str "a0")) rfl) (aj (dN jT (aj aA (aj aA aD))) aD))))) (FZ (bU (aX (dO.oq (cH bF qR)) aA (fj (aj (fU (aj (aJ (c:=(.str "hang")) rfl) (aj (aJ (c:=(.str "port")) rfl) aD))) (aj (fU (aj (aJ (c:=(.str "hang")) rfl) (aj (aJ (c:=(.str "spots")) rfl) aD))) (aj (fU (aj (aJ (c:=(.str "hang")) rfl) (aj (aJ (c:=(.str "outcome")) rfl) aD))) (aj (fU (aj (aJ (c:=(.str "hang")) rfl) (aj (aJ (c:=(.str "outcome")) rfl) aD))) (aj (fU (aj (aJ (c:=(.str "hang")) rfl) (aj (aJ (c:=(.str "marks")) rfl) aD))) aD))))))))))))))))))))))))))))))))))
theorem Fe:dJ eZ jK:=iV Fj
theorem Fb:dJ (app 1 eZ) jK:=fK Fe
def uU:List PV->PM D:=oq jK
theorem Ez:dJ (app 1 eZ) uU:=Fb.oq
def Qg:aH->PMS:=(eX (acY (dM R4 (aC (aU 1) (aC (pOp (p2 gtD) (aU 2) (pC (.int 3))) bh))) [3,4]) (wY (pOr (Wz (Nv (dM Ov (aC (aU 1) (aC (aU 3) (aC (aU 4) bh)))))) (pOr (Wz (Nv (dM wX (aC (aU 3) (aC (aU 4) bh))))) (Wz (Nv (dM uU (aC (aU 1) bh)))))) (nW (pC (.bl false))) lY))
def aao:aH->PMS:=(nW (Ax (pOp (oqO (cC bK aP aR id (p2 (jM false)))) (pUn (Hr "spots" sU) (aU 9)) (Bq (aC (pC (.int 0)) (aC (pC (.int 11)) bh)))) (pOp (oqO (cC bK aP aR id (p2 (jM false)))) (pUn (Hr "told" vB) (aU 9)) (Bq (aC (pC (.int 0)) (aC (pC (.int 11)) bh))))))
def aeK:aH->PMS:=(eX (wY (pOr (ji (pOp (oqO (cC bK aP aR (fun b=>!b) (p2 (jM true)))) (pUn (Hr "spots" sU) (dM iQ (aC (pC (.str "a0")) (aC Pk bh)))) (Bq bh))) (ji (pOp (oqO (cC bK aP aR (fun b=>!b) (p2 (jM true)))) (pFn (pF1 (oqU (U7 mZ))) (aC (dM iQ (aC (pC (.str "a0")) (aC Pk bh))) bh)) (pC (.str "a0: -"))))) (nW (pC (.bl false))) lY) (jh aao))
def aeJ:aH->PMS:=(eX (Bp (dM iQ (aC (pC (.str "z2")) (aC (Jz (aC (pC (.int 11)) (aC (pC (.str "stop abcdefgh 0")) (aC (pC (.int 0)) (aC (pC (.str "out 11")) bh))))) bh))) 9) (jh aeK))
def aeI:aH->PMS:=(eX (wY (ji (pOp (oqO (cC bK aP aR (fun b=>!b) (p2 (jM true)))) (afO jg (pOp (oqO (BP jC pIx)) (dM iQ (aC (pC (.str "z1")) (aC (aU 8) bh))) (pC (.int 11)))) (zM (aC (pC (.str "stop a 9")) bh)))) (nW (pC (.bl false))) lY) (jh aeJ))
def aeH:aH->PMS:=(eX (wY (ji (pOp (oqO (cC bK aP aR (fun b=>!b) (p2 (jM true)))) (afO jg (dM iQ (aC (pC (.str "z1")) (aC (aU 7) bh)))) (Bq (aC (pC (.str "hang")) (aC (pC (.str "marks")) bh))))) (nW (pC (.bl false))) lY) (jh aeI))
def aeG:aH->PMS:=(eX (wY (ji (pOp (oqO (cC bK aP aR (fun b=>!b) (p2 (jM true)))) (pFn (pF1 (oqU (U7 mZ))) (aC (aU 6) bh)) (pOp Q6 (pC (.str "z1: ")) (pBM uM (oqB Gz) (pC (.str ", ")) (aC (Af Opq (oqI (GD (aC (pC (.int 12)) bh))) (tN 10) Bs (pOp Q6 (pOp Q6 (pFn (pF1 (oqU (U7 mZ))) (aC (aU 10) bh)) (pC (.str " "))) (pOp (oqO (Ko pIx)) (aU 5) (aU 10))) [10]) bh))))) (nW (pC (.bl false))) lY) (jh aeH))
def Xo:aH->PMS:=(eX (aeA 7 (aeA 8 (wY (ji (pOp (oqO (cC bK aP aR (fun b=>!b) (p2 (jM true)))) (Af Opq (oqI (GD (aC (pC (.int 12)) bh))) (tN 10) Bs (pOp (oqO (BP jC pIx)) (aU 6) (aU 10)) [10]) (Af Opq (oqI (GD (aC (pC (.int 12)) bh))) (tN 10) Bs (pOp (oqO (Ko pIx)) (aU 5) (aU 10)) [10]))) (nW (pC (.bl false))) lY))) (jh aeG))
def aeF:aH->PMS:=(eX (eX (ahX 7 (pC (.str "stop a 11")) (pC (.int 10))) (ahX 8 (pC (.str "stop a 9")) (pC (.int 11)))) (jh Xo))
def aeE:aH->PMS:=(eX (agY false true true 6 7 8 (dM iQ (aC (pC (.str "z1")) (aC (aU 5) bh))) (pFn (oqV zL) (aC (aU 5) bh)) (pFn (oqV zL) (aC (aU 5) bh))) (jh aeF))
def agZ:aH->PMS:=(eX (Zu Opq (oqI (GD (aC (pC (.int 8)) bh))) (tN 2) Qg) (eX (Bp (pFn (oqV zL) (aC (Af Opq (oqI (GD (aC (pC (.int 12)) bh))) (tN 10) Bs (Bq (aC (aU 10) (aC (pOp Q6 (pC (.str "stop a ")) (pFn (pF1 (oqU (U7 mZ))) (aC (aU 10) bh))) bh))) [10]) bh)) 5) (jh aeE)))
theorem aut{g:Gh}{A0:AS}:iZ g A0 asM agZ:=(aW (Qm Opq.run (yC (aj (aJ (c:=(.int 8)) rfl) aD)).oq YZ (aW (Jh (dN aaW (aj aA (aj (aX aoC aA (aJ (c:=(.int 3)) rfl)) aD)))) (eE (Lg (rO (lO (dN YC (aj aA (aj aA (aj aA aD)))))) (Lg (rO (lO (dN Iz (aj aA (aj aA aD))))) (rO (lO (dN Ez (aj aA aD)))))) (bU (aJ (c:=(.bl false)) rfl)) dw))) (aW (fQ (bJ Lj.oqv (aj (rN Opq.run (yC (aj (aJ (c:=(.int 12)) rfl) aD)).oq gM gA (fU (aj aA (aj (aX tH (aJ (c:=(.str "stop a ")) rfl) (bJ (G6 jO).oq1 (aj aA aD))) aD)))) aD))) (bR (aW (af9 (pY gR (aj (aJ (c:=(.str "z1")) rfl) (aj aA aD))) (bJ Lj.oqv (aj aA aD)) (bJ Lj.oqv (aj aA aD))) (bR (aW (ajc ali as8 (aW (Lh (aJ (c:=(.str "stop a 11")) rfl) (aJ (c:=(.int 10)) rfl)) (Lh (aJ (c:=(.str "stop a 9")) rfl) (aJ (c:=(.int 11)) rfl)))) (bR (aW (FZ (FZ (eE (cA (aX (dO.oq (cH bF yr)) (rN Opq.run (yC (aj (aJ (c:=(.int 12)) rfl) aD)).oq gM gA (aX (dO.oq (Ji lE nu)) aA aA)) (rN Opq.run (yC (aj (aJ (c:=(.int 12)) rfl) aD)).oq gM gA (aX (dO.oq (mU nu)) aA aA)))) (bU (aJ (c:=(.bl false)) rfl)) dw))) (bR (aW (eE (cA (aX (dO.oq (cH bF yr)) (bJ (G6 jO).oq1 (aj aA aD)) (aX tH (aJ (c:=(.str "z1: ")) rfl) (yq (aJ (c:=(.str ", ")) rfl) (aj (rN Opq.run (yC (aj (aJ (c:=(.int 12)) rfl) aD)).oq gM gA (aX tH (aX tH (bJ (G6 jO).oq1 (aj aA aD)) (aJ (c:=(.str " ")) rfl)) (aX (dO.oq (mU nu)) aA aA))) aD))))) (bU (aJ (c:=(.bl false)) rfl)) dw) (bR (aW (eE (cA (aX (dO.oq (cH bF yr)) (Ah jw rfl (pY gR (aj (aJ (c:=(.str "z1")) rfl) (aj aA aD)))) (fU (aj (aJ (c:=(.str "hang")) rfl) (aj (aJ (c:=(.str "marks")) rfl) aD))))) (bU (aJ (c:=(.bl false)) rfl)) dw) (bR (aW (eE (cA (aX (dO.oq (cH bF yr)) (Ah jw rfl (aX (dO.oq (Ji lE nu)) (pY gR (aj (aJ (c:=(.str "z1")) rfl) (aj aA aD))) (aJ (c:=(.int 11)) rfl))) (fj (aj (aJ (c:=(.str "stop a 9")) rfl) aD)))) (bU (aJ (c:=(.bl false)) rfl)) dw) (bR (aW (fQ (pY gR (aj (aJ (c:=(.str "z2")) rfl) (aj (oY (aj (aJ (c:=(.int 11)) rfl) (aj (aJ (c:=(.str "stop abcdefgh 0")) rfl) (aj (aJ (c:=(.int 0)) rfl) (aj (aJ (c:=(.str "out 11")) rfl) aD))))) aD)))) (bR (aW (eE (Lg (cA (aX (dO.oq (cH bF yr)) (fZ (nH rQ) (pY gR (aj (aJ (c:=(.str "a0")) rfl) (aj xP aD)))) (fU aD))) (cA (aX (dO.oq (cH bF yr)) (bJ (G6 jO).oq1 (aj (pY gR (aj (aJ (c:=(.str "a0")) rfl) (aj xP aD))) aD)) (aJ (c:=(.str "a0: -")) rfl)))) (bU (aJ (c:=(.bl false)) rfl)) dw) (bR (bU (lB (aX (dO.oq (cH bF qR)) (fZ (nH rQ) aA) (fU (aj (aJ (c:=(.int 0)) rfl) (aj (aJ (c:=(.int 11)) rfl) aD)))) (aX (dO.oq (cH bF qR)) (fZ (nH uD) aA) (fU (aj (aJ (c:=(.int 0)) rfl) (aj (aJ (c:=(.int 11)) rfl) aD)))))))))))))))))))))))))
theorem at9(ns:List Int)(S:Sto):∃cells:List Int,cells.length<=63/\uQ [.scr ns] S=.ok (.ref (S.length+2)) (S++[.lst (cells.map .int),.lst (cells.map .int),.lst [.ref (S.length+1),.int 0,.int 0]]):=by
 refine⟨ns.take (min 63 ns.length),by rw[List.length_take];omega,?_⟩
 have e:yE (ns.map CV.int) none (some 63)=(ns.take (min 63 ns.length)).map CV.int:=by
  unfold yE
  rw[ar,HT.sIx_none,ke,show(some (63:Int))=some ((63:Nat):Int) from rfl,HT.sIx_nat,Nat.sub_zero, <-List.map_take]
 rw[<-e]
 exact aqW
theorem apO(h:∀ns:List Int,agZ (startP 11 [.fr (.scr ns),.pen]) 0 (ahW (fun d _=>d=.bl true) NoX)):∀ns:List Int,ns.length<=63->(∀z∈ns,Builtin.Int.intBits z<=1048576)->∃S',afD [.scr ns] [.tab "_law_right",.tab "_law_refused_right",.tab "law"]=.ok (.bl true) S':=fun ns _ _=>
 alQ ["_law_right","_law_refused_right","law"] (N:=11) (m1:=asM) aut (at9 ns) (h ns) (by decide)
end
set_option maxHeartbeats 1000000
variable {Q:D->Int->Prop}{E:XP}{i:Int}
/-- an outcome: a plain one and its mark -/
abbrev Oc:=Nat×Option Nat
def bT(b:Nat):Str:=(["open","ever","lost","out 0","out 11","out 5","stop a","stop ever","stop b","stop abcdefgh"]:List Str).getD b ""
def mT:Option Nat->Str
 |none=>""
 |some k=>iT k
def txt(o:Oc):Str:=match o.2 with
 |none=>bT o.1
 |some k=>bT o.1++" "++iT k
def jE:List Oc:=[(0,none),(1,none),(2,none),(3,none),(4,none),(5,none),(6,none),(7,none),(8,none),(9,none),(6,some 0),(6,some 1),(6,some 2),(6,some 3),(6,some 4),(6,some 5),(6,some 6),(6,some 7),(6,some 8),(6,some 9),(6,some 10),(6,some 11),(7,some 0),(7,some 1),(7,some 2),(7,some 3),(7,some 4),(7,some 5),(7,some 6),(7,some 7),(7,some 8),(7,some 9),(7,some 10),(7,some 11),(8,some 0),(8,some 1),(8,some 2),(8,some 3),(8,some 4),(8,some 5),(8,some 6),(8,some 7),(8,some 8),(8,some 9),(8,some 10),(8,some 11),(9,some 0),(9,some 1),(9,some 2),(9,some 3),(9,some 4),(9,some 5),(9,some 6),(9,some 7),(9,some 8),(9,some 9),(9,some 10),(9,some 11)]
def stB(o:Oc):Bool:=Nat.ble 6 o.1
def words(o:Oc):List Str:=Txt.split (txt o) " "
theorem ayz:aF [.fr (.str (txt (0,none)))] i Q E=Q (.bl true) i:=by kernel_rfl
theorem ayA:aF [.fr (.str (txt (1,none)))] i Q E=Q (.bl true) i:=by kernel_rfl
theorem ayB:aF [.fr (.str (txt (2,none)))] i Q E=Q (.bl true) i:=by kernel_rfl
theorem ayC:aF [.fr (.str (txt (3,none)))] i Q E=Q (.bl true) i:=by kernel_rfl
theorem ayD:aF [.fr (.str (txt (4,none)))] i Q E=Q (.bl true) i:=by kernel_rfl
theorem ayE:aF [.fr (.str (txt (5,none)))] i Q E=Q (.bl true) i:=by kernel_rfl
theorem ayF:aF [.fr (.str (txt (6,none)))] i Q E=Q (.bl true) i:=by kernel_rfl
theorem ayG:aF [.fr (.str (txt (7,none)))] i Q E=Q (.bl true) i:=by kernel_rfl
theorem ayH:aF [.fr (.str (txt (8,none)))] i Q E=Q (.bl true) i:=by kernel_rfl
theorem ayI:aF [.fr (.str (txt (9,none)))] i Q E=Q (.bl true) i:=by kernel_rfl
theorem awf:aF [.fr (.str (txt (6,some 0)))] i Q E=Q (.bl true) i:=by kernel_rfl
theorem awg:aF [.fr (.str (txt (6,some 1)))] i Q E=Q (.bl true) i:=by kernel_rfl
theorem awh:aF [.fr (.str (txt (6,some 2)))] i Q E=Q (.bl true) i:=by kernel_rfl
theorem awi:aF [.fr (.str (txt (6,some 3)))] i Q E=Q (.bl true) i:=by kernel_rfl
theorem awj:aF [.fr (.str (txt (6,some 4)))] i Q E=Q (.bl true) i:=by kernel_rfl
theorem awk:aF [.fr (.str (txt (6,some 5)))] i Q E=Q (.bl true) i:=by kernel_rfl
theorem awl:aF [.fr (.str (txt (6,some 6)))] i Q E=Q (.bl true) i:=by kernel_rfl
theorem awm:aF [.fr (.str (txt (6,some 7)))] i Q E=Q (.bl true) i:=by kernel_rfl
theorem awn:aF [.fr (.str (txt (6,some 8)))] i Q E=Q (.bl true) i:=by kernel_rfl
theorem awo:aF [.fr (.str (txt (6,some 9)))] i Q E=Q (.bl true) i:=by kernel_rfl
theorem awp:aF [.fr (.str (txt (6,some 10)))] i Q E=Q (.bl true) i:=by kernel_rfl
theorem awq:aF [.fr (.str (txt (6,some 11)))] i Q E=Q (.bl true) i:=by kernel_rfl
theorem awr:aF [.fr (.str (txt (7,some 0)))] i Q E=Q (.bl true) i:=by kernel_rfl
theorem awt:aF [.fr (.str (txt (7,some 1)))] i Q E=Q (.bl true) i:=by kernel_rfl
theorem awu:aF [.fr (.str (txt (7,some 2)))] i Q E=Q (.bl true) i:=by kernel_rfl
theorem awv:aF [.fr (.str (txt (7,some 3)))] i Q E=Q (.bl true) i:=by kernel_rfl
theorem aww:aF [.fr (.str (txt (7,some 4)))] i Q E=Q (.bl true) i:=by kernel_rfl
theorem awx:aF [.fr (.str (txt (7,some 5)))] i Q E=Q (.bl true) i:=by kernel_rfl
theorem awy:aF [.fr (.str (txt (7,some 6)))] i Q E=Q (.bl true) i:=by kernel_rfl
theorem awz:aF [.fr (.str (txt (7,some 7)))] i Q E=Q (.bl true) i:=by kernel_rfl
theorem awA:aF [.fr (.str (txt (7,some 8)))] i Q E=Q (.bl true) i:=by kernel_rfl
theorem awB:aF [.fr (.str (txt (7,some 9)))] i Q E=Q (.bl true) i:=by kernel_rfl
theorem awC:aF [.fr (.str (txt (7,some 10)))] i Q E=Q (.bl true) i:=by kernel_rfl
theorem awD:aF [.fr (.str (txt (7,some 11)))] i Q E=Q (.bl true) i:=by kernel_rfl
theorem awE:aF [.fr (.str (txt (8,some 0)))] i Q E=Q (.bl true) i:=by kernel_rfl
theorem awF:aF [.fr (.str (txt (8,some 1)))] i Q E=Q (.bl true) i:=by kernel_rfl
theorem awG:aF [.fr (.str (txt (8,some 2)))] i Q E=Q (.bl true) i:=by kernel_rfl
theorem awH:aF [.fr (.str (txt (8,some 3)))] i Q E=Q (.bl true) i:=by kernel_rfl
theorem awI:aF [.fr (.str (txt (8,some 4)))] i Q E=Q (.bl true) i:=by kernel_rfl
theorem awJ:aF [.fr (.str (txt (8,some 5)))] i Q E=Q (.bl true) i:=by kernel_rfl
theorem awK:aF [.fr (.str (txt (8,some 6)))] i Q E=Q (.bl true) i:=by kernel_rfl
theorem awL:aF [.fr (.str (txt (8,some 7)))] i Q E=Q (.bl true) i:=by kernel_rfl
theorem awM:aF [.fr (.str (txt (8,some 8)))] i Q E=Q (.bl true) i:=by kernel_rfl
theorem awN:aF [.fr (.str (txt (8,some 9)))] i Q E=Q (.bl true) i:=by kernel_rfl
theorem awO:aF [.fr (.str (txt (8,some 10)))] i Q E=Q (.bl true) i:=by kernel_rfl
theorem awP:aF [.fr (.str (txt (8,some 11)))] i Q E=Q (.bl true) i:=by kernel_rfl
theorem awQ:aF [.fr (.str (txt (9,some 0)))] i Q E=Q (.bl true) i:=by kernel_rfl
theorem awR:aF [.fr (.str (txt (9,some 1)))] i Q E=Q (.bl true) i:=by kernel_rfl
theorem awS:aF [.fr (.str (txt (9,some 2)))] i Q E=Q (.bl true) i:=by kernel_rfl
theorem awT:aF [.fr (.str (txt (9,some 3)))] i Q E=Q (.bl true) i:=by kernel_rfl
theorem awU:aF [.fr (.str (txt (9,some 4)))] i Q E=Q (.bl true) i:=by kernel_rfl
theorem awV:aF [.fr (.str (txt (9,some 5)))] i Q E=Q (.bl true) i:=by kernel_rfl
theorem awW:aF [.fr (.str (txt (9,some 6)))] i Q E=Q (.bl true) i:=by kernel_rfl
theorem awX:aF [.fr (.str (txt (9,some 7)))] i Q E=Q (.bl true) i:=by kernel_rfl
theorem awY:aF [.fr (.str (txt (9,some 8)))] i Q E=Q (.bl true) i:=by kernel_rfl
theorem awZ:aF [.fr (.str (txt (9,some 9)))] i Q E=Q (.bl true) i:=by kernel_rfl
theorem aw0:aF [.fr (.str (txt (9,some 10)))] i Q E=Q (.bl true) i:=by kernel_rfl
theorem aw1:aF [.fr (.str (txt (9,some 11)))] i Q E=Q (.bl true) i:=by kernel_rfl
theorem is_outcome{o:Oc}(h:o∈jE)(k:Q (.bl true) i):aF [.fr (.str (txt o))] i Q E:=by
 simp only[jE,av,bj,or_false]at h
 repeat' rcases h with rfl|h
 ·rw[ayz];exact k
 ·rw[ayA];exact k
 ·rw[ayB];exact k
 ·rw[ayC];exact k
 ·rw[ayD];exact k
 ·rw[ayE];exact k
 ·rw[ayF];exact k
 ·rw[ayG];exact k
 ·rw[ayH];exact k
 ·rw[ayI];exact k
 ·rw[awf];exact k
 ·rw[awg];exact k
 ·rw[awh];exact k
 ·rw[awi];exact k
 ·rw[awj];exact k
 ·rw[awk];exact k
 ·rw[awl];exact k
 ·rw[awm];exact k
 ·rw[awn];exact k
 ·rw[awo];exact k
 ·rw[awp];exact k
 ·rw[awq];exact k
 ·rw[awr];exact k
 ·rw[awt];exact k
 ·rw[awu];exact k
 ·rw[awv];exact k
 ·rw[aww];exact k
 ·rw[awx];exact k
 ·rw[awy];exact k
 ·rw[awz];exact k
 ·rw[awA];exact k
 ·rw[awB];exact k
 ·rw[awC];exact k
 ·rw[awD];exact k
 ·rw[awE];exact k
 ·rw[awF];exact k
 ·rw[awG];exact k
 ·rw[awH];exact k
 ·rw[awI];exact k
 ·rw[awJ];exact k
 ·rw[awK];exact k
 ·rw[awL];exact k
 ·rw[awM];exact k
 ·rw[awN];exact k
 ·rw[awO];exact k
 ·rw[awP];exact k
 ·rw[awQ];exact k
 ·rw[awR];exact k
 ·rw[awS];exact k
 ·rw[awT];exact k
 ·rw[awU];exact k
 ·rw[awV];exact k
 ·rw[awW];exact k
 ·rw[awX];exact k
 ·rw[awY];exact k
 ·rw[awZ];exact k
 ·rw[aw0];exact k
 ·rw[aw1];exact k
def xO:List Str:=["a0","a1","x2","b0","z1","z2"]
theorem ayL:dG [.fr (.str "a0")] i Q E=Q (.bl true) i:=by kernel_rfl
theorem ayM:dG [.fr (.str "a1")] i Q E=Q (.bl true) i:=by kernel_rfl
theorem ayN:dG [.fr (.str "x2")] i Q E=Q (.bl true) i:=by kernel_rfl
theorem ayO:dG [.fr (.str "b0")] i Q E=Q (.bl true) i:=by kernel_rfl
theorem ayP:dG [.fr (.str "z1")] i Q E=Q (.bl true) i:=by kernel_rfl
theorem ayQ:dG [.fr (.str "z2")] i Q E=Q (.bl true) i:=by kernel_rfl
theorem is_port{o:Str}(h:o∈xO)(k:Q (.bl true) i):dG [.fr (.str o)] i Q E:=by
 simp only[xO,av,bj,or_false]at h
 repeat' rcases h with rfl|h
 ·rw[ayL];exact k
 ·rw[ayM];exact k
 ·rw[ayN];exact k
 ·rw[ayO];exact k
 ·rw[ayP];exact k
 ·rw[ayQ];exact k
theorem Wo:∀o∈jE,(txt o).length<=16:=by decide+kernel
theorem aqX:∀o∈jE,Txt.join " " (yE (words o) none (some 2))=bT o.1:=by decide+kernel
theorem atR:∀o∈jE,Txt.join "" (yE (words o) (some 2) none)=mT o.2:=by decide+kernel
theorem av8:∀o∈jE,((yE (words o) none (some 2)).map (·.length)).sum+(yE (words o) none (some 2)).length*Str.length " "<=16777216:=by decide+kernel
theorem av9:∀o∈jE,((yE (words o) (some 2) none).map (·.length)).sum+(yE (words o) (some 2) none).length*Str.length ""<=16777216:=by decide+kernel
theorem auv:∀o∈jE,(cutS (txt o) none (some 5)== "stop ")=stB o:=by decide+kernel
theorem arw:∀o∈jE,(cutS (txt o) none (some 4)== "stop")=stB o:=by decide+kernel
theorem anV:∀o∈jE,(txt o== "open")=(o.1==0):=by decide+kernel
theorem arD:∀o∈jE,(words o).length=3↔o.2.isSome=true:=by decide+kernel
theorem asx:∀o∈jE,∀k∈o.2,k<12:=by decide+kernel
theorem ajH:∀k:Nat,k<12->iT k≠"":=by decide+kernel
theorem acK:∀k:Nat,k<12->iB (iT k)=some (k:Int):=by decide+kernel
theorem asL:∀o∈jE,ab8 16 (txt o)=true:=by decide+kernel
theorem ab9:∀o∈xO,ab8 2 o=true:=by decide+kernel
theorem aqZ:∀o∈jE,stB o=true->∀k:Nat,k<12->(o.1,some k)∈jE:=by decide+kernel
theorem aeb{α β:Type}(f:α->β)(l:List α)(a b:Option Int):yE (l.map f) a b=(yE l a b).map f:=by
 unfold yE
 rw[ar,List.map_take,List.map_drop]
theorem awb{m n:Option Nat}(h1:∀k∈m,k<12)(h2:∀k∈n,k<12):(mT m==mT n)=(m==n):=by
 cases m with
 |none=>cases n with
  |none=>rfl
  |some k=>exact beq_false_of_ne fun z=>ajH k (h2 k rfl) z.symm
 |some k=>cases n with
  |none=>exact beq_false_of_ne fun z=>ajH k (h1 k rfl) z
  |some j=>
   by_cases e:k=j
   ·subst e;show(iT k==iT k)=(some k==some k);rw[beq_self_eq_true,beq_self_eq_true]
   ·show(iT k==iT j)=(some k==some j)
    rw[beq_false_of_ne fun z=>e (atF k (h1 k rfl) j (h2 j rfl) z),beq_false_of_ne fun z=>e (gc z)]
theorem atQ{m:Option Nat}(h1:∀k∈m,k<12):(mT m== "")=m.isNone:=by
 have:=awb (n:=none) h1 (fun k h=>nomatch h)
 rw[show mT none="" from rfl]at this
 rw[this];cases m<;>rfl
theorem is_stop{o:Oc}(h:o∈jE)(k:Q (.bl (stB o)) i):JB [.fr (.str (txt o))] i Q E:=by
 have hl:=Wo o h
 refine lV (sl_le (by omega)) ?_
 exact Opq.mk (KZ rfl rfl (Cd (auv o h)) k)
theorem plain{o:Oc}(h:o∈jE)(k:Q (.str (bT o.1)) i):WD [.fr (.str (txt o))] i Q E:=by
 have hl:=Wo o h
 refine Opq.mk (Xr rfl (sl_le (by omega)) ?_)
 refine Opq.mk (QJ (ys:=yE (Txt.split (txt o) " ") none (some 2)) (.inr rfl) ?_ (av8 o h) ?_)
 ·rw[aeb];exact strs_map _
 ·rw[show Txt.join " " (yE (Txt.split (txt o) " ") none (some 2))=bT o.1 from aqX o h];exact k
theorem mark_of{o:Oc}(h:o∈jE)(k:Q (.str (mT o.2)) i):JC [.fr (.str (txt o))] i Q E:=by
 have hl:=Wo o h
 refine Opq.mk (Xr rfl (sl_le (by omega)) ?_)
 refine Opq.mk (QJ (ys:=yE (Txt.split (txt o) " ") (some 2) none) (.inr rfl) ?_ (av9 o h) ?_)
 ·rw[aeb];exact strs_map _
 ·rw[show Txt.join "" (yE (Txt.split (txt o) " ") (some 2) none)=mT o.2 from atR o h];exact k
variable {Q:D->Int->Prop}{E:XP}{i:Int}
/-- the marks met, from n on: numbered as they come -/
def QZ:List Nat->Nat->Option Nat
 | [],n=>some n
 |k::r,n=>if k<=n then QZ r (if k=n then n+1 else n) else none
theorem aey{k:Nat}:∀{l:List Nat}{n:Nat},QZ (l++[k]) n=(QZ l n).bind fun m=>if k<=m then some (if k=m then m+1 else m) else none
 | [],n=>rfl
 |j::l,n=>by
  show(if j<=n then QZ (l++[k]) _ else none)=Option.bind (if j<=n then QZ l _ else none) _
  split
  ·exact aey
  ·rfl
structure auX(ms:List (Option Nat)):Prop where
 ok:(∀m∈ms,m=none)\/∃ks n,ms=ks.map some/\QZ ks 0=some n
theorem int_text{x:PV}{w:Str}{n:Int}{i:Int}{Q:PV->Int->Prop}{E:XP}(hx:x.rd=some (.str w))(h:iB w=some n)(hl:w.length<=640)(k:Q (.fr (.int n)) i):p1 intD x i Q E:=by
 unfold p1
 rw[hx]
 show(match MW.intD (.str w) with
  |some e=>Q (.fr e) i
  |none=>False)
 have:MW.intD (.str w)=some (.int n):=by
  unfold MW.intD
  dsimp only
  rw[h]
  dsimp only
  rw[if_pos hl]
 rw[this]
 exact k
theorem Wq{ls ms:D}{K:PC->Int->Prop}:∀{ks:List Nat}{n m:Nat}{a:Option PV},(∀k∈ks,k<12)->QZ ks n=some m->(∀a,K (.nx [some (.fr ls),some (.fr ms),some (.fr (.int (m:Int))),a,none]) i)->
    qY (tN 3) gK (ks.map fun k:Nat=>D.str (iT k)) [some (.fr ls),some (.fr ms),some (.fr (.int (n:Int))),a,none] i K
  | [],n,m,a,_,h,k=>by cases h;exact k _
  |j::ks,n,m,a,hk,h,k=>by
   unfold QZ at h
   split at h
   · rename_i hj
     have h12:=hk j af
     have ih:=@Wq ls ms K ks _ m (some (.fr (.str (iT j)))) (fun x hx=>hk x (ag _ hx)) h k
     have hl:=(ako (e:=(j:Int)) (by omega) (by omega)).1
     rw[ax,Qv]
     refine(show gK [some (.fr ls),some (.fr ms),some (.fr (.int (n:Int))),some (.fr (.str (iT j))),none] i _ from ?_)
     refine Opq.mk (int_text rfl (acK j h12) (by omega) ?_)
     refine anh (b:=decide ((j:Int)>(n:Int))) (decide_eq_false (by omega)) ?_
     refine Opq.mk (int_text rfl (acK j h12) (by omega) ?_)
     refine Opq.mk (KZ rfl rfl (b:=decide (j=n)) (by rw[agR];congr 1;by_cases e:j=n<;>simp[e];omega) ?_)
     refine wg (fun e=>?_) fun e=>?_
     · have e:=of_decide_eq_true e
       rw[if_pos e]at ih
       exact ih
     · have e:=of_decide_eq_false e
       rw[if_neg e]at ih
       exact ih
   · cases h
variable {α:Type}{v:α->Oc}
theorem adR{l:List α}(h:∀x∈l,v x∈jE)(hl:l.length<=1000)(hm:auX ((l.filter fun x=>stB (v x)).map fun x=>(v x).2))(k:Q (.bl true) i):jN [.fr (.lst (l.map fun x=>.str (txt (v x))))] i Q E:=by
 refine Opq.mk (QT (l:=l) (f:=fun x=>.str (mT (v x).2)) (p:=fun x=>stB (v x)) (by omega) ?_ ?_)
 ·intro x hx K hK
  refine Opq.mk (is_stop (h x hx) ?_)
  refine wg (fun hb=>?_) fun hb=>?_
  ·rw[if_pos hb]at hK
   exact Opq.mk (mark_of (h x hx) hK)
  ·rw[if_neg (by rw[hb];decide)]at hK
   exact hK
 have hfl:(l.filter fun x=>stB (v x)).length<=1000:=a9 (dV _ _) hl
 have em:((l.filter fun x=>stB (v x)).map fun x=>D.str (mT (v x).2))=((l.filter fun x=>stB (v x)).map fun x=>mT (v x).2).map D.str:=by rw[bp];rfl
 have lt:∀m∈((l.filter fun x=>stB (v x)).map fun x=>(v x).2),∀k∈m,k<12:=fun m hm k hk=>by
  obtain⟨x,hx,rfl⟩:=aw.mp hm
  exact asx _ (h x (cF.mp hx).1) k hk
 have e2:((l.filter fun x=>stB (v x)).map fun x=>mT (v x).2)=((l.filter fun x=>stB (v x)).map fun x=>(v x).2).map mT:=by rw[bp];rfl
 rw[em,e2]
 have hml:((l.filter fun x=>stB (v x)).map fun x=>(v x).2).length<=1000:=by rw[ar];exact hfl
 generalize ((l.filter fun x=>stB (v x)).map fun x=>(v x).2)=ms at hm lt hml ⊢
 refine Opq.mk (ahB (.inl rfl) ?_)
 rw[kf]
 rcases hm.ok with hn|⟨ks,n,rfl,hk⟩
 ·cases ms with
  |nil=>exact Opq.mk k
  |cons m ms=>
   have:decide (("":Str)∈(m::ms).map mT)=true:=decide_eq_true (aw.mpr ⟨m,af,by rw[hn m af];rfl⟩)
   rw[this]
   refine Opq.mk (Ab (l:=(m::ms).map mT) (g:=D.str) (f:=fun _=>.bl true) (by rw[ar];omega) ?_ ?_)
   ·intro y hy K hK
    obtain⟨z,hz,rfl⟩:=aw.mp hy
    exact Opq.mk (KZ rfl rfl (Cd (c:=true) (by rw[hn z hz];rfl)) hK)
   ·refine Opq.mk (all_true (l:=(m::ms).map mT) rfl ?_)
    exact k
 ·have h12:∀k∈ks,k<12:=fun k hk'=>lt (some k) (aw.mpr ⟨k,hk',rfl⟩) k rfl
  have e3:(ks.map some).map mT=ks.map fun k:Nat=>iT k:=by rw[bp];rfl
  rw[e3]
  have:decide (("":Str)∈ks.map fun k:Nat=>iT k)=false:=decide_eq_false fun z=>by
   obtain⟨k,hk',e⟩:=aw.mp z
   exact ajH k (h12 k hk') e
  rw[this]
  have e4:(ks.map fun k:Nat=>iT k).map D.str=ks.map fun k:Nat=>D.str (iT k):=by rw[bp];rfl
  rw[e4]
  exact Opq.mk (Wq (n:=0) h12 hk fun a=>k)
variable {Q:D->Int->Prop}{E:XP}{i:Int}
structure HOk{α:Type}(f:α->Int)(v:α->Oc)(l:List α):Prop where
 mkk:auX ((l.filter fun x=>stB (v x)).map fun x=>(v x).2)
 up:UpK f l
 len:l.length<=12
 rng:∀x∈l,0<=f x/\f x<=11
 oc:∀x∈l,v x∈jE
abbrev afT{α:Type}(f:α->Int)(v:α->Oc)(l:List α):List (D×D):=cX f (fun x=>.str (txt (v x))) l
abbrev ayj{α:Type}(f:α->Int)(v:α->Oc)(l:List α):List (D×D):=cX f (fun x=>.str (bT (v x).1)) l
abbrev ayw{α:Type}(f:α->Int)(v:α->Oc)(l:List α):List (D×D):=cX f (fun x=>.str (mT (v x).2)) (l.filter fun x=>stB (v x))
def fu{α:Type}(p:Str)(f:α->Int)(v:α->Oc)(l:List α)(L:Str):D:=.obj "Hang" [("port",.str p),("spots",.tup (l.map fun x=>.int (f x))),("outcomes",.dic (afT f v l)),("bares",.dic (ayj f v l)),("marks",.dic (ayw f v l)),("line",.str L)]
variable {α:Type}{f:α->Int}{v:α->Oc}
theorem atG:∀n:Nat,n<12->ab8 2 (iT n)=true:=by decide+kernel
theorem asn{e:Int}(h:0<=e)(h2:e<=11):Pn 2 (iT e):=by
 obtain⟨n,rfl⟩:=acT h
 exact Pn.of (atG n (by omega))
theorem anE:Str.length ", "=2:=by decide+kernel
theorem JL{α:Type}(f:α->Str):∀l:List α,uZ (l.map fun x=>D.str (f x))=some (l.map f)
 | []=>rfl
 |x::l=>by rw[ax,uZ,JL f l];rfl
theorem pn0:Pn 0 Str.empty:=Pn.of (by decide+kernel)
/-- the line that tells a hang -/
def ac4{α:Type}(f:α->Int)(v:α->Oc)(l:List α):List Str:=l.map fun x:α=>Str.empty++iT (f x)++" "++txt (v x)
def Ao{α:Type}(p:Str)(f:α->Int)(v:α->Oc)(l:List α):Str:=if (Txt.join ", " (ac4 f v l)== "")=true then Str.empty++p++": -" else Str.empty++p++": "++Txt.join ", " (ac4 f v l)
theorem ai0{k:α->Int}{u:α->D}{l l0:List α}(hu:UpK k l)(hp:l0.Perm l){x:α}(hx:x∈l):j5 (cX k u l0) (.inl (k x))=some (u x):=by
 have:∀{m:List α},(∀y∈m,y∈l)->x∈m->j5 (cX k u m) (.inl (k x))=some (u x):=by
  intro m
  induction m with
  |nil=>intro _ h;cases h
  |cons y m ih=>
   intro hm h
   show cond (mF (.inl (k x)) (.int (k y),u y)) (some (u y)) (j5 (cX k u m) (.inl (k x)))=_
   rw[same_int]
   by_cases e:k y=k x
   ·rw[decide_eq_true e,UpK.inj hu (hm y af) hx e];rfl
   ·rw[decide_eq_false e]
    refine ih (fun z hz=>hm z (ag _ hz)) ?_
    rcases av.mp h with rfl|h
    ·exact absurd rfl e
    ·exact h
 exact this (fun y hy=>hp.mem_iff.mp hy) (hp.mem_iff.mpr hx)
theorem amv{l m:List Int}(hp:l.Perm m)(h1:l.Pairwise (· <= ·))(h2:m.Pairwise (· <= ·)):l=m:=hp.eq_of_pairwise (fun a b _ _ h h'=>Int.le_antisymm h h') h1 h2
theorem adY{k:α->Int}{l l0:List α}{x:PV}{Q:PV->Int->Prop}(hx:x.rd=some (.lst (l0.map fun x=>D.int (k x))))(hp:l0.Perm l)(hu:UpK k l)(hl:l0.length<1000000)(q:Q (.ow (.lst (l.map fun x=>D.int (k x)))) i):FQ x i Q E:=by
 have es:sJ leI (l0.map k)=l.map k:=by
  refine amv ((uY _).trans (hp.map k)) ?_ ?_
  ·exact(Qn (le:=leI) (fun a b c h1 h2=>decide_eq_true (Int.le_trans (of_decide_eq_true h1) (of_decide_eq_true h2))) (fun a b=>(Int.le_total a b).imp decide_eq_true decide_eq_true) _).imp fun h=>of_decide_eq_true h
  ·exact(f7.mpr hu).imp fun h=>by omega
 unfold FQ
 rw[hx]
 cases l0 with
 |nil=>
  have:l=[]:=hp.symm.eq_nil
  subst this
  exact wF (by decide) q
 |cons y m=>
  show(match uZ (D.int (k y)::m.map fun x=>D.int (k x)),Jv ((y::m).map fun x=>D.int (k x)) with
   |some zs,_=>gd (zs.length<1000000) (Q (.ow (.lst ((sJ leS zs).map .str))) i)
   |none,some is=>gd (is.length<1000000) (Q (.ow (.lst ((sJ leI is).map .int))) i)
   |none,none=>False)
  rw[MW.ints_map,show uZ (D.int (k y)::m.map fun x=>D.int (k x))=none from rfl]
  dsimp only
  refine wF (by rw[ar];exact hl) ?_
  rw[es,bp]
  exact q
theorem rK{p:Str}{l l0:List α}{a:PV}(hp:p∈xO)(h:HOk f v l)(h0:l0.Perm l)(ha:a=.fr (.dic (afT f v l0))\/a=.bo (.dic (afT f v l0)))(k:Pn 1000 (Ao p f v l)->Q (fu p f v l (Ao p f v l)) i):uz [.fr (.str p),a] i Q E:=by
 have hl:=h.len
 have hl0:=h0.length_eq
 have ay1:∀x∈l0,0<=f x/\f x<=11:=fun x hx=>h.rng x (h0.mem_iff.mp hx)
 rcases ha with rfl|rfl
 all_goals
  refine Opq.mk (is_port hp ?_)
  refine lV ⟨aM,rfl⟩ ?_
  refine Opq.mk (mQ (α:=α) (f:=fun _=>.bl true) (by omega) ?_ ?_)
  ·intro x hx K hK
   obtain⟨h1,h2⟩:=ay1 x hx
   refine acy (b:=decide ((0:Int)<=f x)) (decide_eq_true h1) ?_
   show K (some (.bl (decide (f x<=11)))) _
   rw[decide_eq_true h2];exact hK
  refine Opq.mk (all_true rfl ?_)
  refine lV ⟨aM,rfl⟩ ?_
  refine Opq.mk (mQ (f:=fun x:α=>.int (f x)) (by omega) (fun x hx K hK=>hK) ?_)
  refine Opq.mk (adY rfl h0 h.up (by omega) ?_)
  refine Opq.mk (Ye (k:=f) (v:=fun x=>.str (txt (v x))) (by omega) h.up ?_ ?_)
  ·intro x hx K hK
   exact Opq.mk (mJ rfl aM (ai0 h.up h0 hx) hK)
  refine lV ⟨aM,rfl⟩ ?_
  refine Opq.mk (mQ (α:=α) (f:=fun _=>.bl true) (by omega) ?_ ?_)
  ·intro x hx K hK
   refine Opq.mk (mJ rfl aM (cM h.up hx) ?_)
   exact Opq.mk (is_outcome (h.oc x hx) hK)
  refine Opq.mk (all_true rfl ?_)
  refine lV ⟨aM,rfl⟩ ?_
  refine Opq.mk (mQ (f:=fun x:α=>.str (txt (v x))) (by omega) ?_ ?_)
  ·intro x hx K hK
   exact Opq.mk (mJ rfl aM (cM h.up hx) hK)
  refine Opq.mk (adR (v:=v) h.oc (by omega) h.mkk ?_)
  refine lV ⟨aM,rfl⟩ ?_
  refine Opq.mk (mQ (f:=fun x:α=>.str (Str.empty++iT (f x)++" "++txt (v x))) (by omega) ?_ ?_)
  ·intro x hx K hK
   obtain⟨h1,h2⟩:=h.rng x hx
   have g1:=ako h1 h2
   have g2:=Wo _ (h.oc x hx)
   refine zp.joined rfl ?_
   refine js (acc:=Str.empty) (iT (f x)) 0 2 (by decide+kernel) g1.1 (by decide) (fun K hK=>(Opq.mk (apH (small h1 (by omega)) hK):Opq _)) fun _=>?_
   refine js " " 2 1 (by assumption) (by decide+kernel) (by decide) (fun K h=>h) fun _=>?_
   refine js (txt (v x)) 3 16 (by assumption) g2 (by decide) (fun K hK=>Opq.mk (mJ rfl aM (cM h.up hx) (Opq.mk (Qw (sl_le (by omega)) hK)))) fun _=>?_
   exact hK
  have pl:∀y∈l.map (fun x:α=>Str.empty++iT (f x)++" "++txt (v x)),Pn 19 y:=fun y hy=>by
   obtain⟨x,hx,rfl⟩:=aw.mp hy
   obtain⟨h1,h2⟩:=h.rng x hx
   exact((pn0.app (asn h1 h2)).app (Pn.of (by decide+kernel:ab8 1 " "=true))).app (Pn.of (asL _ (h.oc x hx)))
  have sm:=MW.sum_le (n:=19) fun y hy=>(pl y hy).len
  rw[ar]at sm
  have pj:Pn 252 (Txt.join ", " (l.map fun x:α=>Str.empty++iT (f x)++" "++txt (v x))):=by
   have:=ah0 (s:=", ") (m:=2) (Pn.of (by decide+kernel)) pl
   rw[ar]at this
   exact this.mono (by omega)
  refine Opq.mk (QJ (ys:=l.map fun x:α=>Str.empty++iT (f x)++" "++txt (v x)) (.inr rfl) (JL _ _) (by rw[ar,anE];omega) ?_)
  have eL:Ao p f v l=if (Txt.join ", " (l.map fun x:α=>Str.empty++iT (f x)++" "++txt (v x))== "")=true then Str.empty++p++": -" else Str.empty++p++": "++Txt.join ", " (l.map fun x:α=>Str.empty++iT (f x)++" "++txt (v x)):=rfl
  generalize Ao p f v l=L at eL k
  generalize Txt.join ", " (l.map fun x:α=>Str.empty++iT (f x)++" "++txt (v x))=J at pj eL ⊢
  refine lV ⟨aM,rfl⟩ ?_
  refine Opq.mk (mQ (f:=fun x:α=>.int (f x)) (by omega) (fun x hx K hK=>hK) ?_)
  refine lV ⟨aM,rfl⟩ ?_
  refine Opq.mk (apv (w:=fun x:α=>.str (bT (v x).1)) (by omega) h.up ?_ ?_)
  ·intro x hx K hK
   refine Opq.mk (mJ rfl aM (cM h.up hx) ?_)
   exact Opq.mk (plain (h.oc x hx) hK)
  refine lV ⟨by decide+kernel,kG rfl⟩ ?_
  refine lV ⟨aM,rfl⟩ ?_
  refine Opq.mk (alj (w:=fun x:α=>.str (mT (v x).2)) (p:=fun x:α=>stB (v x)) (by omega) h.up ?_ ?_)
  ·intro x hx K hK
   refine Opq.mk (mJ rfl aM (cM h.up hx) ?_)
   refine Opq.mk (is_stop (h.oc x hx) ?_)
   refine wg (fun hb=>?_) fun hb=>?_
   ·rw[if_pos hb]at hK
    refine Opq.mk (mJ rfl aM (cM h.up hx) ?_)
    exact Opq.mk (mark_of (h.oc x hx) hK)
   ·rw[if_neg (by rw[hb];decide)]at hK
    exact hK
  have hpn:=Pn.of (ab9 p hp)
  have l1:=hpn.len
  have l2:=pj.len
  refine Opq.mk (aqY (b:=J== "") rfl rfl (Cd rfl) ?_)
  refine wg (fun hJ=>?_) fun hJ=>?_
  ·refine js (acc:=Str.empty) p 0 2 (by decide+kernel) l1 (by decide) (fun K h=>Opq.mk (Qw (sl_le (by omega)) h)) fun _=>?_
   refine js ": " 2 2 (by assumption) (by decide+kernel) (by decide) (fun K h=>h) fun _=>?_
   refine js J 4 252 (by assumption) l2 (by decide) (fun K h=>Opq.mk (Qw (sl_le (by omega)) h)) fun _=>?_
   refine anA ?_
   rw[if_neg (by simpa using hJ)]at eL
   rw[<-eL]
   exact k (eL▸(((pn0.app hpn).app (Pn.of (by decide+kernel:ab8 2 ": "=true))).app pj).mono (by omega))
  ·refine js (acc:=Str.empty) p 0 2 (by decide+kernel) l1 (by decide) (fun K h=>Opq.mk (Qw (sl_le (by omega)) h)) fun _=>?_
   refine js ": -" 2 3 (by assumption) (by decide+kernel) (by decide) (fun K h=>h) fun _=>?_
   refine anA ?_
   rw[if_pos (by simpa using hJ)]at eL
   rw[<-eL]
   exact k (eL▸((pn0.app hpn).app (Pn.of (by decide+kernel:ab8 3 ": -"=true))).mono (by omega))
variable {Q:D->Int->Prop}{E:XP}{i:Int}
variable {α β:Type}{f:α->Int}{v w:α->Oc}{l:List α}{f':β->Int}{v':β->Oc}{l':List β}{p q L L':Str}
theorem aiH{k:α->Int}{v:α->D}{c:α->Bool}{e:D}{t:D->aH->Option aH}{b:aH->PMS}{I:aH->Prop}{i:Int}{Q:PC->Int->Prop}{l:List α}{r:aH}
    (h:∀x∈l,∀r,I r->∃r1,t (.int (k x)) r=some r1/\∀K:PC->Int->Prop,(c x=true->∀r2,I r2->K (.nx r2) i)->(c x=false->K (.rt e) i)->b r1 i K)(hr:I r)(k1:l.all c=true->∀r,I r->Q (.nx r) i)(k2:l.all c=false->Q (.rt e) i):qY t b (sdK (cX k v l)) r i Q:=by
  rw[v7]
  exact ahy h hr k1 k2
theorem Xl{g:α->Str}{j:Key}:∀{l:List α},j5 (cX f (fun x=>.str (g x)) l) j=none\/∃w,j5 (cX f (fun x=>.str (g x)) l) j=some (.str w)
 | []=>.inl rfl
 |x::l=>by
  show cond (mF j (.int (f x),.str (g x))) (some (.str (g x))) (j5 (cX f (fun x=>.str (g x)) l) j)=none\/∃w,cond (mF j (.int (f x),.str (g x))) (some (.str (g x))) (j5 (cX f (fun x=>.str (g x)) l) j)=some (.str w)
  cases mF j (.int (f x),.str (g x)) with
  |true=>exact .inr ⟨_,rfl⟩
  |false=>exact Xl
theorem Bh{g:α->Str}{g':β->Str}:∀{l:List α},∃r,uL (cX f' (fun x=>.str (g' x)) l') (cX f (fun x=>.str (g x)) l)=some r
 | []=>⟨true,rfl⟩
 |x::l=>by
  obtain⟨r,hr⟩:=Bh (l:=l)
  show ∃r,uL _ ((.int (f x),.str (g x))::cX f (fun x=>.str (g x)) l)=some r
  rw[yP]
  dsimp only[keyD]
  rcases Xl (f:=f') (g:=g') (l:=l') (j:=.inl (f x)) with e|⟨w,e⟩
  ·rw[e];exact⟨_,rfl⟩
  ·rw[e,hr];exact⟨_,rfl⟩
theorem aiN{g:α->Str}(hu:UpK f l):uL (cX f (fun x=>.str (g x)) l) (cX f (fun x=>.str (g x)) l)=some true:=by
 rw[Z9 (w:=g) fun x hx=>cM (v:=fun x=>.str (g x)) hu hx]
 rw[cg.mpr fun x _=>beq_self_eq_true _]
theorem abY{r:Bool}(hr:uL (afT f' v' l') (afT f v l)=some r)(k:Q (.bl ((p==q)&&(((afT f v l).length==(afT f' v' l').length)&&r))) i):jx [.fr (fu p f v l L),.fr (fu q f' v' l' L')] i Q E:=by
 refine Opq.mk (KZ (b:=p==q) rfl rfl (Cd rfl) ?_)
 refine wg (fun h=>?_) fun h=>?_
 ·rw[h,fE]at k
  refine Opq.mk (atd rfl rfl aM aM hr ?_)
  exact(kf _).symm▸k
 ·rw[h,de]at k
  exact(show Q (.bl (p==q)) i by rw[h];exact k)
def opn(v:α->Oc)(x:α):Bool:=!((v x).1==0)
theorem told(hu:UpK f l)(hp:∀x∈l,v x∈jE)(hl:l.length<=12)(k:Q (.tup ((l.filter (opn v)).map fun x=>.int (f x))) i):oG [.fr (fu p f v l L)] i Q E:=by
 refine lV ⟨aM,rfl⟩ ?_
 refine Opq.mk (aep (f:=fun x:α=>.int (f x)) (p:=opn v) (by omega) ?_ ?_)
 ·intro x hx K hK
  refine Opq.mk (mJ rfl aM (cM hu hx) ?_)
  refine Opq.mk (zK (b:=(v x).1==0) rfl rfl rfl (Cd (anV _ (hp x hx))) ?_)
  unfold opn at hK
  refine wg (fun h=>?_) fun h=>?_
  ·rw[if_pos h]at hK;exact hK
  ·rw[if_neg (by rw[h];decide)]at hK;exact hK
 ·exact k
/-- == of plain texts, as the program's own == has it -/
theorem aw3{tbl:List (Str×(List PV->PM D))}{cs:List (Str×Str)}{bs:List Str}{Q:PV->Int->Prop}{a b:Str}(k:Q (.fr (.bl (a==b))) i):cC tbl cs bs id (p2 (jM false)) (.fr (.str a)) (.fr (.str b)) i Q E:=O7 rfl rfl rfl (Cd rfl) k
theorem apt{n:Nat}(l:List α)(f:α->Int):Cl (n+1) (.tup (l.map fun x=>D.int (f x))):=.tup fun y hy=>by
 obtain⟨x,_,rfl⟩:=aw.mp hy;exact .int
variable {Q:D->Int->Prop}{E:XP}{i:Int}
theorem pick{ds:List D}(hi:i<1048576)(h0:0<ds.length)(h1:ds.length<1000)(k:∀d∈ds,Q d (i+1)):yU [.pen,.fr (.lst ds)] i Q E:=by
 refine Opq.mk (Wn rfl ?_)
 refine Opq.mk (dr hi (by omega) (by omega) fun d h2 h3=>?_)
 refine Opq.mk (atH (ds:=ds) rfl h2 h3 fun x hx=>?_)
 exact k x hx
abbrev Sp:=Int×Oc
abbrev fS:Sp->Int:=fun x=>x.1
abbrev vS:Sp->Oc:=fun x=>x.2
abbrev rS(T:List Sp):List (D×D):=afT fS vS T
def Yy(T:List Sp):List Nat:=T.filterMap fun x=>x.2.2
structure TOk(b:Bool)(T:List Sp):Prop where
 up:UpK fS T
 len:T.length<=5
 rng:∀x∈T,0<=x.1/\x.1<=11
 oc:∀x∈T,x.2∈jE
 mp:∀x∈T,x.2.2.isSome=(b&&stB x.2)
structure ae8(T:List Sp):Prop where
 num:∃n,QZ (Yy T) 0=some n
theorem aev:∀{T:List Sp},(∀x∈T,x.2.2.isSome=(false&&stB x.2))->Yy T=[]
 | [],_=>rfl
 |x::T,h=>by
  have h1:=h x af
  rw[de]at h1
  unfold Yy
  rw[bc]
  cases e:x.2.2 with
  |none=>exact aev fun y hy=>h y (ag _ hy)
  |some k=>rw[e]at h1;cases h1
theorem aai:∀{T:List Sp},(∀x∈T,x.2.2.isSome=(true&&stB x.2))->((T.filter fun x=>stB (vS x)).map fun x=>(vS x).2)=(Yy T).map some
 | [],_=>rfl
 |x::T,h=>by
  have h1:=h x af
  rw[fE]at h1
  have ih:=aai (T:=T) fun y hy=>h y (ag _ hy)
  unfold Yy at ih ⊢
  rw[bc,dC]
  cases e:x.2.2 with
  |none=>
   rw[e]at h1
   rw[if_neg (by rw[<-h1];decide)]
   exact ih
  |some k=>
   rw[e]at h1
   rw[if_pos (show stB (vS x)=true from h1.symm),ax,ax,ih]
   exact congrArg (· ::_) e
theorem TOk.hok{b:Bool}{T:List Sp}(h:TOk b T)(hn:ae8 T):HOk fS vS T:=by
 refine⟨⟨?_⟩,h.up,by have:=h.len;omega,h.rng,h.oc⟩
 cases b with
 |false=>
  refine .inl fun m hm=>?_
  obtain⟨x,hx,rfl⟩:=aw.mp hm
  have:=h.mp x (cF.mp hx).1
  rw[de]at this
  cases e:(vS x).2 with
  |none=>rfl
  |some k=>rw[show x.2.2=(vS x).2 from rfl,e]at this;cases this
 |true=>
  obtain⟨n,hn⟩:=hn.num
  exact .inr ⟨_,n,aai h.mp,hn⟩
theorem axd:∀d∈([.str "out 0",.str "out 11",.str "stop a",.str "stop a",.str "stop ever",.str "lost",.str "ever",.str "open",.str "open"]:List D),∃b:Nat,(b,none)∈jE/\b≠5/\d=.str (bT b):=by
 intro d hd
 simp only[av,bj,or_false]at hd
 repeat' rcases hd with rfl|hd
 ·exact⟨3,by decide+kernel,by decide,rfl⟩
 ·exact⟨4,by decide+kernel,by decide,rfl⟩
 ·exact⟨6,by decide+kernel,by decide,rfl⟩
 ·exact⟨6,by decide+kernel,by decide,rfl⟩
 ·exact⟨7,by decide+kernel,by decide,rfl⟩
 ·exact⟨2,by decide+kernel,by decide,rfl⟩
 ·exact⟨1,by decide+kernel,by decide,rfl⟩
 ·exact⟨0,by decide+kernel,by decide,rfl⟩
 ·exact⟨0,by decide+kernel,by decide,rfl⟩
theorem amy{tbl:List (Str×(List PV->PM D))}{n:Nat}{Q:PV->Int->Prop}(h:n<1000)(k:Q (.fr (.str (iT n))) i):U7 tbl (.fr (.int (n:Int))) i Q E:=str_int (small (by omega) (by omega)) k
theorem ahO{T:List Sp}{x:Sp}:Yy (T++[x])=Yy T++(match x.2.2 with|none=>[]|some k=>[k]):=by
 unfold Yy
 rw[List.filterMap_append]
 cases e:x.2.2 with
 |none=>rw[bc,e];rfl
 |some k=>rw[bc,e];rfl
theorem auG{T:List Sp}{ss:List Int}{s:Int}{o:Oc}(h:(T.map fS++(s::ss)).Pairwise (· < ·)):((T++[(s,o)]).map fS++ss).Pairwise (· < ·):=by
 rw[il,a7];exact h
theorem auF{T:List Sp}{ss:List Int}{s:Int}{o:Oc}(h:(T.map fS++(s::ss)).Pairwise (· < ·)):∀y∈T,fS y<fS (s,o):=fun y hy=>
 (iC.mp h).2.2 _ (aw.mpr ⟨y,hy,rfl⟩) s af
theorem abN{α:Type}{P:α->Prop}{T:List α}{x:α}(h:∀y∈T,P y)(hx:P x):∀y∈T++[x],P y:=fun y hy=>by
 rcases ck.mp hy with h1|h1
 ·exact h y h1
 ·rw[cn.mp h1];exact hx
theorem aaw{b:Bool}{K:PC->Int->Prop}{r7:Option PV}:∀{ss:List Int}{T:List Sp}{n:Nat}{r4 r5 r6:Option PV}{i:Int},(T.map fS++ss).Pairwise (· < ·)->(∀s∈ss,0<=s/\s<=11)->T.length+ss.length<=5->
    (∀x∈T,0<=x.1/\x.1<=11)->(∀x∈T,x.2∈jE/\x.2.1≠5)->(∀x∈T,x.2.2.isSome=(b&&stB x.2))->QZ (Yy T) 0=some n->n<=T.length->i+2*ss.length<1000000->
    (∀T' n' r4 r5 r6 j,TOk b T'->ae8 T'->(∀x∈T',x.2.1≠5)->T'.length=T.length+ss.length->i<=j->j<=i+2*ss.length->K (.nx [some .pen,some (.fr (.bl b)),some (.ow (.dic (rS T'))),some (.fr (.int n')),r4,r5,r6,r7]) j)->
    qY (tN 4) rZ (ss.map D.int) [some .pen,some (.fr (.bl b)),some (.ow (.dic (rS T))),some (.fr (.int (n:Int))),r4,r5,r6,r7] i K
  | [],T,n,r4,r5,r6,i,hu,_,hl,h1,h2,h3,h4,_,_,k=>by
    rw[aT]at hu
    refine k T n r4 r5 r6 i ⟨f7.mp hu,by simpa using hl,h1,fun x hx=>(h2 x hx).1,h3⟩ ⟨⟨n,h4⟩⟩ (fun x hx=>(h2 x hx).2) rfl (Int.le_refl _) (by simp)
  |s::ss,T,n,r4,r5,r6,i,hu,hr,hl,h1,h2,h3,h4,hnl,hi,k=>by
   rw[ai]at hl hi k
   have hs:=hr s af
   have hr':∀x∈ss,0<=x/\x<=11:=fun x hx=>hr x (ag _ hx)
   rw[ax,Qv]
   refine(show rZ [some .pen,some (.fr (.bl b)),some (.ow (.dic (rS T))),some (.fr (.int (n:Int))),some (.fr (.int s)),r5,r6,r7] i _ from ?_)
   refine Opq.mk (pick (by omega) (by decide) (by decide) fun d hd=>?_)
   obtain⟨c,hc,h5,rfl⟩:=axd d hd
   have lT:(rS T).length<sizeLine:=by rw[show(rS T).length=T.length from BR];unfold sizeLine;omega
   have fin:∀(o:Oc)(n':Nat)(r6:Option PV)(j:Int),o∈jE/\o.1≠5->o.2.isSome=(b&&stB o)->QZ (Yy (T++[(s,o)])) 0=some n'->n'<=T.length+1->i+1<=j->j<=i+2->
        qY (tN 4) rZ (ss.map D.int) [some .pen,some (.fr (.bl b)),some (.ow (.dic (pA (rS T) (.int s) (.inl s) (.str (txt o))))),some (.fr (.int (n':Int))),some (.fr (.int s)),some (.fr (.str (txt o))),r6,r7] j K:=fun o n' r6 j ho hm hn hn' hj1 hj2=>by
      have e:=aeL (k:=fS) (v:=fun x=>D.str (txt (vS x))) (l:=T) (x:=(s,o)) (auF hu)
      rw[show pA (rS T) (.int s) (.inl s) (.str (txt o))=rS (T++[(s,o)]) from e]
      refine aaw (auG hu) hr' (by rw[bg,cK];omega) (abN h1 hs) (abN h2 ho) (abN h3 hm) hn (by rw[bg,cK];omega) (by omega) fun T' n' r4 r5 r6 j' a1 a2 a6 a3 a4 a5=>?_
      refine k T' n' r4 r5 r6 j' a1 a2 a6 (by rw[a3,bg,cK];omega) (by omega) (by omega)
   have aeD:(none:Option Nat).isSome=(b&&stB (c,none))->QZ (Yy (T++[(s,(c,none))])) 0=some n:=fun _=>by
      rw[ahO];show QZ (Yy T++[]) 0=_;rw[aT];exact h4
   cases b with
   |false=>
    refine lV ⟨aM,lT⟩ ?_
    exact fin (c,none) n _ _ ⟨hc,h5⟩ rfl (aeD rfl) (by omega) (by omega) (by omega)
   |true=>
    have hlen:=Wo _ hc
    refine lV (sl_le (by rw[show bT c=txt (c,none) from rfl];omega)) ?_
    refine Opq.mk (aw3 ?_)
    rw[show(cutS (bT c) none (some 4)== "stop")=stB (c,none) from arw _ hc]
    refine wg (fun hb=>?_) fun hb=>?_
    · refine Opq.mk (dr (n:=(n:Int)+1) (by omega) (by omega) (by omega) fun m hm0 hm1=>?_)
      obtain⟨m,rfl⟩:=acT hm0
      have hmn:m<=n:=by omega
      refine lV (sl_le (by rw[show bT c=txt (c,none) from rfl,show Str.length " "=1 from by decide+kernel];omega)) ?_
      refine Opq.mk (amy (by omega) ?_)
      have hit:=(ako (e:=(m:Int)) (by omega) (by omega)).1
      refine lV (sl_le (by rw[JT,show bT c=txt (c,none) from rfl,show Str.length " "=1 from by decide+kernel];omega)) ?_
      refine lV ⟨aM,lT⟩ ?_
      have hn2:(if (m:Int)+1>(n:Int) then (m:Int)+1 else (n:Int))=((if m=n then n+1 else n:Nat):Int):=by
          by_cases e:m=n
          · subst e;rw[if_pos (by omega),if_pos rfl];omega
          · rw[if_neg (by omega),if_neg e]
      have:=fin (c,some m) (if m=n then n+1 else n) (some (.fr (.int (m:Int)))) (i+1+1) ⟨aqZ _ hc hb m (by omega),h5⟩ (by rw[fE];exact hb.symm) (by
          rw[ahO]
          show QZ (Yy T++[m]) 0=_
          rw[aey,h4]
          show(if m<=n then _ else _)=_
          rw[if_pos hmn]) (by split<;>omega) (by omega) (by omega)
      rw[<-hn2]at this
      exact this
    · refine lV ⟨aM,lT⟩ ?_
      exact fin (c,none) n _ _ ⟨hc,h5⟩ (by rw[fE];exact hb.symm) (aeD (by rw[fE];exact hb.symm)) (by omega) (by omega) (by omega)
variable {Q:D->Int->Prop}{E:XP}{i:Int}
theorem ars{l:List Int}(hn:l.Nodup):(sJ leI l).Pairwise (· < ·):=by
 have h1:=Qn (le:=leI) (fun a b c h1 h2=>decide_eq_true (Int.le_trans (of_decide_eq_true h1) (of_decide_eq_true h2))) (fun a b=>(Int.le_total a b).imp decide_eq_true decide_eq_true) l
 have h2:(sJ leI l).Nodup:=(uY l).nodup_iff.mpr hn
 refine(h1.and h2).imp fun {a b} h=>?_
 have:=of_decide_eq_true (show decide (a<=b)=true from h.1)
 have:=h.2
 omega
theorem amu{is:List Int}{Q:PV->Int->Prop}{x:PV}(hx:x.rd=some (.lst (is.map .int)))(hl:is.length<4000)(k:∀ss:List Int,ss.Pairwise (· < ·)->(∀s∈ss,s∈is)->ss.length<=is.length->Q (.ow (.lst (ss.map .int))) i):IW x i Q E:=by
 unfold IW
 rw[hx]
 dsimp only
 cases is with
 |nil=>exact lV (by show(0:Nat)<4000;decide) (k [] .nil (fun _ h=>nomatch h) (ba _))
 |cons a is=>
  have e1:uZ ((a::is).map D.int)=none:=rfl
  have e2:MW.Jv ((a::is).map D.int)=some (a::is):=by
   have:=ints_map (k:=fun x:Int=>x) (l:=a::is)
   rw[List.map_id']at this
   exact this
  rw[e1,e2]
  refine lV hl (k _ (ars Bg) (fun s hs=>JV.mp ((uY _).mem_iff.mp hs)) ?_)
  rw[(uY _).length_eq]
  exact aht
theorem aw4:∀d∈([.str "a0",.str "a1",.str "x2"]:List D),∃p∈xO,(p== "b0")=false/\d=.str p:=by
 intro d hd
 simp only[av,bj,or_false]at hd
 rcases hd with rfl|rfl|rfl
 ·exact⟨_,by decide+kernel,by decide+kernel,rfl⟩
 ·exact⟨_,by decide+kernel,by decide+kernel,rfl⟩
 ·exact⟨_,by decide+kernel,by decide+kernel,rfl⟩
theorem ints_of:∀{xs:List D},(∀x∈xs,∃s:Int,(0<=s/\s<=11)/\x=.int s)->∃is:List Int,xs=is.map .int/\is.length=xs.length/\∀s∈is,0<=s/\s<=11
 | [],_=>⟨[],rfl,rfl,fun _ h=>nomatch h⟩
 |x::xs,h=>by
  obtain⟨s,hs,rfl⟩:=h x af
  obtain⟨is,rfl,h2,h3⟩:=ints_of fun y hy=>h y (ag _ hy)
  exact⟨s::is,rfl,by simp,fun y hy=>by
   rcases av.mp hy with rfl|hy
   ·exact hs
   ·exact h3 y hy⟩
theorem auj{qa:aH->PM PV}{N:Int}{r:aH}{Q:List D->Int->Prop}(h:∀K:PV->Int->Prop,(∀d:Int,0<=d->d<N->K (.fr (.int d)) (i+1))->qa r i K E)(hN:N<=1000)(k:∀n:Nat,(n:Int)<N->Q ((cq n).map fun n:Nat=>D.int (0+(n:Int))) (i+1)):GD (aC qa bh) r i Q E:=by
 unfold GD
 rw[aea]
 refine h _ fun d h0 h1=>?_
 obtain⟨n,rfl⟩:=acT h0
 dsimp only
 have e2:an1 0 ((n:Int).toNat)=(cq n).map fun n:Nat=>D.int (0+(n:Int)):=by rw[eP];rfl
 rw[e2,V9 (an2 (by omega))]
 exact k n h1
theorem alR{b:Bool}(hi:0<=i/\i<900000)(k:∀p T j,p∈xO->(p== "b0")=false->TOk b T->ae8 T->(∀x∈T,x.2.1≠5)->i<=j->j<=i+20->Q (.tup [.str p,.dic (rS T)]) j):yV [.pen,.fr (.bl b)] i Q E:=by
 refine Opq.mk (auj (N:=6) (fun K hK=>(Opq.mk (dr (by omega) (by decide) (by decide) hK):Opq _)) (by decide) fun n hn=>?_)
 refine Opq.mk (asp (ds:=(cq n).map fun n:Nat=>D.int (0+(n:Int))) (c:=1) (i0:=0) (i1:=i+1+n) (P:=fun d=>∃s:Int,(0<=s/\s<=11)/\d=.int s) (by omega) (by rw[ar,eD,dn];omega) (by omega) (by rw[ar,eD];omega) ?_ ?_)
 ·intro d hd j hj1 hj2 K hK
  exact Opq.mk (dr (by omega) (by decide) (by decide) fun d h0 h1=>hK _ _ ⟨d,⟨h0,by omega⟩,rfl⟩ (by omega) (by omega))
 intro xs j hxl hxs hj1 hj2
 rw[ar,eD]at hxl
 obtain⟨is,rfl,hil,hir⟩:=ints_of hxs
 rw[cc]
 refine Opq.mk (amu (is:=is) rfl (by omega) fun ss h1 h2 h3=>?_)
 refine Opq.mk (aaw (b:=b) (T:=[]) (n:=0) (ss:=ss) (by simpa using h1) (fun s hs=>hir s (h2 s hs)) (by simp;omega) (fun _ h=>nomatch h) (fun _ h=>nomatch h) (fun _ h=>nomatch h) rfl (ba _) (by omega) fun T' n' r4 r5 r6 j' a1 a2 a6 a3 a4 a5=>?_)
 refine Opq.mk (pick (by omega) (by decide) (by decide) fun d hd=>?_)
 obtain⟨p,hp,hb0,rfl⟩:=aw4 d hd
 exact k p T' _ hp hb0 a1 a2 a6 (by omega) (by omega)
variable {Q:D->Int->Prop}{E:XP}{i:Int}
def hx(Q:D->Int->Prop)(E:XP):XP:=fun c fs j=>Opq (mW (fun i _ E1=>E1 c fs i) j Q E)
theorem alz{th:PM D}:mW th i Q E=th i (fun d j=>Q (.lst [d]) j) (fun c fs j=>mW (fun i _ E1=>E1 c fs i) j Q E):=by kernel_rfl
theorem rG{th:PM D}(k:th i (fun d j=>Q (.lst [d]) j) (hx Q E)):mW th i Q E:=by
 have e:hx Q E=fun c fs j=>mW (fun i _ E1=>E1 c fs i) j Q E:=by
  funext c fs j
  exact propext ⟨fun h=>h.run,fun h=>⟨h⟩⟩
 rw[alz, <-e]
 exact k
theorem Kh{x:D}(k:Q (.tup [.str "hang",x]) i):hx Q E "BadHang" [("part",x)] i:=by
 refine Opq.mk ?_
 exact k
theorem alA{x:D}(k:Q (.tup [.str "count",x]) i):hx Q E "BadCount" [("value",x)] i:=by
 refine Opq.mk ?_
 exact k
section
variable {α:Type}{f:α->Int}{v:α->Oc}{l:List α}{p L:Str}
theorem anr{x:α}(hu:UpK f l)(hx:x∈l)(k:Q (.str (txt (v x))) i):eV [.fr (fu p f v l L),.fr (.int (f x))] i Q E:=by
 refine Opq.mk (agQ (b:=true) rfl aM (by rw[cM hu hx];rfl) ?_)
 refine Opq.mk (mJ rfl aM (cM hu hx) ?_)
 exact k
theorem agP{n:Int}(hn:∀x∈l,f x≠n)(k:E "BadCount" [("value",.int n)] i):eV [.fr (fu p f v l L),.fr (.int n)] i Q E:=by
 refine Opq.mk (agQ (b:=false) rfl aM (by rw[Xk hn];rfl) ?_)
 exact k
def aqE:List D:=[.int (-1),.int 12,.non,.bl true,.str "0",.tup [.int 0],.lst [],.dic []]
theorem apL{d:D}(hd:d∈aqE)(hr:∀x∈l,0<=f x/\f x<=11)(k:E "BadCount" [("value",d)] i):eV [.fr (fu p f v l L),.fr d] i Q E:=by
 simp only[aqE,av,bj,or_false]at hd
 repeat' rcases hd with rfl|hd
 ·exact agP (fun x hx=>by have:=hr x hx;omega) k
 ·exact agP (fun x hx=>by have:=hr x hx;omega) k
 all_goals exact k
theorem atN{l:List D}{Q:PV->Int->Prop}(k:Q (.fr (.int l.length)) i):p1 Oo (.fr (.tup l)) i Q E:=k
theorem alS(hu:UpK f l)(hp:∀x∈l,v x∈jE)(hl:l.length<=12)(k:Q (.int ((l.filter (opn v)).length:Int)) i):su [.fr (fu p f v l L)] i Q E:=by
 refine Opq.mk (told hu hp hl ?_)
 refine Opq.mk (atN ?_)
 have:=k
 rw[<-ar (f:=fun x=>D.int (f x))]at this
 exact this
theorem Qo(hL:L.length<=1000)(k:Q (.str L) i):sE [.fr (fu p f v l L)] i Q E:=by
 refine Opq.mk (Qw (sl_le (by omega)) ?_)
 exact k
end
variable {Q:D->Int->Prop}{E:XP}{i:Int}
theorem aud{α:Type}{k:α->Int}{v:α->D}{l:List α}{x:α}(h:∀y∈l,k y≠k x):pA (cX k v l) (.int (k x)) (.inl (k x)) (v x)=cX k v (l++[x]):=by
 unfold pA
 rw[agI h]
 show cX k v l++[(.int (k x),v x)]=_
 unfold cX
 rw[il];rfl
theorem Wd{T:List Sp}{a b:Option PV}{r5 r6 r7 r8:Option PV}(hu:UpK fS T){K:PC->Int->Prop}:∀{l acc:List Sp}{r4:Option PV},(∀x∈l,x∈T)->(acc++l).Pairwise (fun x y=>fS x≠fS y)->acc.length+l.length<=5->
    (∀r4,K (.nx [a,b,some (.fr (.dic (rS T))),some (.ow (.dic (rS (acc++l)))),r4,r5,r6,r7,r8]) i)->
    qY (tN 4) vP (l.map fun x=>D.int (fS x)) [a,b,some (.fr (.dic (rS T))),some (.ow (.dic (rS acc))),r4,r5,r6,r7,r8] i K
  | [],acc,r4,_,_,_,k=>by rw[aT]at k;exact k r4
  |x::l,acc,r4,hm,hd,hl,k=>by
   rw[ai]at hl
   have hx:=hm x af
   rw[ax,Qv]
   refine(show vP [a,b,some (.fr (.dic (rS T))),some (.ow (.dic (rS acc))),some (.fr (.int (fS x))),r5,r6,r7,r8] i _ from ?_)
   refine Opq.mk (mJ rfl aM (cM hu hx) ?_)
   have lA:(rS acc).length<sizeLine:=by rw[show(rS acc).length=acc.length from BR];unfold sizeLine;omega
   refine lV ⟨aM,lA⟩ ?_
   have e:=aud (k:=fS) (v:=fun x=>D.str (txt (vS x))) (l:=acc) (x:=x) fun y hy=>(iC.mp hd).2.2 y hy x af
   have ih:=Wd (T:=T) (a:=a) (b:=b) (r5:=r5) (r6:=r6) (r7:=r7) (r8:=r8) hu (K:=K) (l:=l) (acc:=acc++[x]) (r4:=some (.fr (.int (fS x)))) (fun y hy=>hm y (ag _ hy)) (by rw[a7];exact hd) (by rw[bg,cK];omega) (by rw[a7];exact k)
   rw[<-show pA (rS acc) (.int (fS x)) (.inl (fS x)) (.str (txt (vS x)))=rS (acc++[x]) from e]at ih
   exact ih
def uN(T:List Sp):List Str:=T.map fun x=>iT (fS x)++" "++txt (vS x)
theorem empty_app(s:Str):Str.empty++s=s:=by
 cases s with
 |mk c=>show Str.mk (#[]++c)=_;rw[kL]
theorem al9(T:List Sp):ac4 fS vS T=uN T:=by
 unfold ac4 uN
 refine iM fun x _=>?_
 rw[empty_app]
theorem ahM(p:Str)(T:List Sp):Ao p fS vS T=p++": "++(if (Txt.join ", " (uN T)== "")=true then ("-":Str) else Txt.join ", " (uN T)):=by
 unfold Ao
 rw[al9,empty_app]
 split
 ·rename_i h
  show p++": -"=p++": "++"-"
  rw[PySem.Str.append_assoc,show(": ":Str)++"-"=": -" from by decide+kernel]
 ·rfl
theorem aw8{d:D}(hd:d∈aqE\/∃n:Nat,n<12/\d=.int (0+(n:Int))):∃s,wL (.tup [.str "count",d])=some (.str s):=by
 rcases hd with hd|⟨n,hn,rfl⟩
 ·simp only[aqE,av,bj,or_false]at hd
  have:∃k ≤ 100,SmP 3 k d:=by
   rcases hd with rfl|rfl|rfl|rfl|rfl|rfl|rfl|rfl<;>exact⟨100,ba _,SmP.of (by decide+kernel)⟩
  obtain⟨k,hk,hd⟩:=this
  exact(SmP.tup (e:=3) (k:=100) (n:=2) (zW ((SmP.str (Pn.of (by decide+kernel:ab8 5 "count"=true))).mono (by omega) (by omega)) (zW (hd.mono (by omega) hk) VP)) (by show 2<=2;omega)).repr rfl (by omega) (by omega)
 ·exact(SmP.tup (e:=1) (k:=100) (n:=2) (zW ((SmP.str (Pn.of (by decide+kernel:ab8 5 "count"=true))).mono (by omega) (by omega)) (zW (ag3 (by omega) (by omega)) VP)) (by show 2<=2;omega)).repr rfl (by omega) (by omega)
theorem aia{l:List Sp}(hr:∀x∈l,0<=x.1/\x.1<=11)(hl:l.length<=5):SmP 2 1000 (.tup (l.map fun x=>.int (fS x))):=
 (SmP.tup (e:=1) (k:=100) (n:=5) (fun y hy=>by
  obtain⟨x,hx,rfl⟩:=aw.mp hy
  obtain⟨h1,h2⟩:0<=fS x/\fS x<=11:=hr x hx
  exact ag3 h1 (by omega)) (by rw[ar];exact hl)).mono (by omega) (by omega)
theorem auf{p:Str}{n:Nat}{l m:List Sp}(hp:p∈xO)(h1:∀x∈l,0<=x.1/\x.1<=11)(h2:∀x∈m,0<=x.1/\x.1<=11)(l1:l.length<=5)(l2:m.length<=5)(hn:n<=5):
    ∃s,wL (.lst [.str p,.tup (l.map fun x=>.int (fS x)),.tup (m.map fun x=>.int (fS x)),.int (n:Int)])=some (.str s):=
  (SmP.lst (e:=2) (k:=1000) (n:=4) (zW ((SmP.str (Pn.of (ab9 p hp))).mono (by omega) (by omega)) (zW (aia h1 l1) (zW (aia h2 l2) (zW ((ag3 (n:=(n:Int)) (by omega) (by omega)).mono (by omega) (by omega)) VP)))) (by show 4<=4;omega)).repr rfl (by omega) (by omega)
abbrev W8(T:List Sp):List D:=(T.filter (opn vS)).map fun x=>.int (fS x)
theorem aiZ{b:Bool}{p:Str}{T:List Sp}(hi:0<=i/\i<900000)(hp:p∈xO)(h:TOk b T)(hn:ae8 T)(k:Q (.bl true) (i+1)):wI [.pen,.fr (.str p),.fr (.dic (rS T))] i Q E:=by
 have hk:=h.hok hn
 have hu:UpK fS T:=hk.up
 have hl:=h.len
 have lT:(rS T.reverse).length<sizeLine:=by rw[show(rS T.reverse).length=T.reverse.length from BR,fm];unfold sizeLine;omega
 have lF:(T.filter (opn vS)).length<=5:=a9 (dV _ _) hl
 refine Opq.mk (show Eb [some .pen,some (.fr (.str p)),some (.fr (.dic (rS T))),some (.ow (.dic (rS []))),none,none,none,none,none] i _ from ?_)
 refine lV aM ?_
 have e1:(sdK (rS T)).reverse=T.reverse.map fun x=>D.int (fS x):=by rw[v7,List.map_reverse]
 refine Opq.mk ?_
 rw[e1]
 refine Wd hu (acc:=[]) (fun x hx=>List.mem_reverse.mp hx) ?_ (by rw[fm];simpa using hl) fun r4=>?_
 ·rw[cc,List.pairwise_reverse]
  exact List.Pairwise.imp (fun {a b} (hh:fS a<fS b)=>by omega) hu
 rw[cc]
 refine Opq.mk (show Ed [some .pen,some (.fr (.str p)),some (.fr (.dic (rS T))),some (.ow (.dic (rS T.reverse))),r4,none,none,none,none] i _ from ?_)
 refine Opq.mk (rK hp hk (l0:=T.reverse) (k9 T) (.inr rfl) fun hL=>?_)
 refine lV ⟨aM,rfl⟩ ?_
 refine Opq.mk (aep (f:=fun x:Sp=>.int (fS x)) (p:=opn vS) (by omega) ?_ ?_)
 ·intro x hx K hK
  refine Opq.mk (mJ rfl aM (cM hu hx) ?_)
  refine Opq.mk (zK (b:=(vS x).1==0) rfl rfl rfl (Cd (anV _ (h.oc x hx))) ?_)
  unfold opn at hK
  refine wg (fun h=>?_) fun h=>?_
  ·rw[if_pos h]at hK;exact hK
  ·rw[if_neg (by rw[h];decide)]at hK;exact hK
 have eL:=ahM p T
 generalize Ao p fS vS T=L at hL eL ⊢
 refine Opq.mk (show Ef [some .pen,some (.fr (.str p)),some (.fr (.dic (rS T))),some (.ow (.dic (rS T.reverse))),r4,some (.fr (fu p fS vS T L)),some (.fr (.lst (W8 T))),none,none] i _ from ?_)
 refine lV ⟨aM,lT⟩ ?_
 refine Opq.mk (show Eh [some .pen,some (.fr (.str p)),some (.fr (.dic (rS T))),some (.ow (.dic (pA (rS T.reverse) (.int 3) (.inl 3) (.str "nothing")))),r4,some (.fr (fu p fS vS T L)),some (.fr (.lst (W8 T))),none,none] i _ from ?_)
 generalize pA (rS T.reverse) (.int 3) (.inl 3) (.str "nothing")=G
 refine Opq.mk (told hu h.oc (by omega) ?_)
 refine Opq.mk (alT (n:=((T.filter (opn vS)).length:Int)) rfl rfl (by omega) (by omega) (fun C E hC=>alS hu h.oc (by omega) hC) ?_)
 have rF:∀x∈T.filter (opn vS),0<=x.1/\x.1<=11:=fun x hx=>h.rng x (cF.mp hx).1
 refine Opq.mk (Xp (d:=.lst [.str p,.tup (T.map fun x=>.int (fS x)),.tup (W8 T),.int ((T.filter (opn vS)).length:Int)]) rfl (auf hp h.rng rF hl lF lF) fun z1 ez1=>?_)
 refine lV aM ?_
 refine Opq.mk (Wn (l:=W8 T) rfl ?_)
 refine Opq.mk (ah1 (s:=z1) (d:=.lst [.str p,.tup (sdK (rS T)),.tup (W8 T),.int ((W8 T).length:Int)]) ?_ rfl ?_)
 ·rw[show sdK (rS T)=T.map fun x=>D.int (fS x) from v7,ar];exact ez1
 refine Opq.mk (QW rfl ?_)
 refine Opq.mk (show Ei [some .pen,some (.fr (.str p)),some (.fr (.dic (rS T))),some (.ow (.dic G)),r4,some (.fr (fu p fS vS T L)),some (.fr (.lst (W8 T))),none,none] i _ from ?_)
 refine lV ⟨aM,rfl⟩ ?_
 refine Opq.mk (mQ (f:=fun x:Sp=>.str (txt (vS x))) (by omega) ?_ ?_)
 ·intro x hx K hK
  exact Opq.mk (agT rfl rfl (anr hu hx hK))
 refine lV ⟨aM,rfl⟩ ?_
 refine Opq.mk (mQ (f:=fun x:Sp=>.str (txt (vS x))) (by omega) ?_ ?_)
 ·intro x hx K hK
  exact Opq.mk (mJ rfl aM (cM hu hx) hK)
 have cS:Cl 2 (.lst (T.map fun x=>D.str (txt (vS x)))):=.lst fun y hy=>by
  obtain⟨x,hx,rfl⟩:=aw.mp hy;exact .str (aie (Pn.of (asL _ (h.oc x hx))))
 refine Opq.mk (zK (b:=true) rfl rfl rfl (by rw[cS.eqP cS (by omega),acE rfl]) ?_)
 refine Opq.mk (show Ek [some .pen,some (.fr (.str p)),some (.fr (.dic (rS T))),some (.ow (.dic G)),r4,some (.fr (fu p fS vS T L)),some (.fr (.lst (W8 T))),none,none] i _ from ?_)
 refine lV ⟨aM,rfl⟩ ?_
 refine Opq.mk (mQ (f:=fun x:Sp=>.str (iT (fS x)++" "++txt (vS x))) (by omega) ?_ ?_)
 ·intro x hx K hK
  obtain⟨h1,h2⟩:0<=fS x/\fS x<=11:=h.rng x hx
  have g1:=(ako h1 h2).1
  have g2:(txt (vS x)).length<=16:=Wo _ (h.oc x hx)
  have l1:Str.length " "=1:=by decide+kernel
  refine Opq.mk (str_int (small h1 (by omega)) ?_)
  refine lV (sl_le (by show(iT (fS x)).length+_<=_;omega)) ?_
  refine Opq.mk (mJ rfl aM (cM hu hx) ?_)
  refine lV (sl_le (by rw[JT];show(iT (fS x)).length+_+(txt (vS x)).length<=_;omega)) ?_
  exact hK
 have pl:∀y∈uN T,Pn 19 y:=fun y hy=>by
  obtain⟨x,hx,rfl⟩:=aw.mp hy
  obtain⟨h1,h2⟩:=h.rng x hx
  exact((asn h1 h2).app (Pn.of (by decide+kernel:ab8 1 " "=true))).app (Pn.of (asL _ (h.oc x hx)))
 have ll:(uN T).length=T.length:=ar _
 have sm:=MW.sum_le (n:=19) fun y hy=>(pl y hy).len
 rw[ll]at sm
 have pj:Pn 105 (Txt.join ", " (uN T)):=by
  have:=ah0 (s:=", ") (m:=2) (Pn.of (by decide+kernel)) pl
  rw[ll]at this
  exact this.mono (by omega)
 refine Opq.mk (QJ (ys:=uN T) (.inr rfl) (JL _ _) (by rw[ll,anE];omega) ?_)
 generalize Txt.join ", " (uN T)=J at pj eL ⊢
 have hJ:=pj.len
 have l2:Str.length ": "=2:=by decide+kernel
 have l3:Str.length "-"=1:=by decide+kernel
 have lp:=(Pn.of (ab9 p hp)).len
 refine Opq.mk (show El [some .pen,some (.fr (.str p)),some (.fr (.dic (rS T))),some (.ow (.dic G)),r4,some (.fr (fu p fS vS T L)),some (.fr (.lst (W8 T))),some (.fr (.str J)),none] i _ from ?_)
 refine Opq.mk (Qp (z:=L) rfl rfl (fun C E hC=>Qo hL.len hC) ?_)
 refine lV (sl_le (by omega)) ?_
 refine Opq.mk (zK (b:=J== "") rfl rfl rfl (Cd rfl) ?_)
 have fin:Opq (Em [some .pen,some (.fr (.str p)),some (.fr (.dic (rS T))),some (.ow (.dic G)),r4,some (.fr (fu p fS vS T L)),some (.fr (.lst (W8 T))),some (.fr (.str J)),none] i (ahW Q E)):=by
  refine Opq.mk ?_
  refine Opq.mk (K6 (n:=12) (fun K hK=>hK) (by omega) ?_)
  refine Opq.mk (QT (l:=cq 12) (f:=fun n:Nat=>.int (0+(n:Int))) (p:=fun n:Nat=>!(j5 (rS T) (.inl (0+(n:Int)))).isSome) (by rw[eD];omega) ?_ ?_)
  ·intro n hn K hK
   refine Opq.mk (agQ rfl aM rfl ?_)
   rw[show ∀b:Bool,(true !=b)=!b from fun b=>by cases b<;>rfl]
   refine wg (fun hb=>?_) fun hb=>?_
   ·rw[if_pos hb]at hK;exact hK
   ·rw[if_neg (by rw[hb];decide)]at hK;exact hK
  have lR:=dV (fun n:Nat=>!(j5 (rS T) (.inl (0+(n:Int)))).isSome) (cq 12)
  rw[eD]at lR
  refine lV (sl_le (by show 8+(kS _ _).length<=_;rw[ar];omega)) ?_
  refine Opq.mk (pick (by omega) (by rw[bg];show 0<8+_;omega) (by rw[bg,ar];show 8+_<_;omega) fun d hd=>?_)
  have hd':d∈aqE\/∃n:Nat,n<12/\(∀x∈T,fS x≠0+(n:Int))/\d=.int (0+(n:Int)):=by
   rcases ck.mp hd with h1|h1
   ·exact .inl h1
   ·obtain⟨n,hn,rfl⟩:=aw.mp h1
    obtain⟨h2,h3⟩:=cF.mp hn
    refine .inr ⟨n,List.mem_range.mp h2,fun x hx e=>?_,rfl⟩
    have:=cM (v:=fun x=>D.str (txt (vS x))) hu hx
    rw[e]at this
    rw[show j5 (rS T) (.inl (0+(n:Int)))=_ from this]at h3
    cases h3
  refine Opq.mk (show En [some .pen,some (.fr (.str p)),some (.fr (.dic (rS T))),some (.ow (.dic G)),r4,some (.fr (fu p fS vS T L)),some (.fr (.lst (W8 T))),some (.fr (.str J)),some (.fr d)] (i+1) _ from ?_)
  refine Opq.mk (rG ?_)
  have rc:=aw8 (d:=d) (hd'.imp id fun⟨n,h1,_,h3⟩=>⟨n,h1,h3⟩)
  have main:∀{Q2:D->Int->Prop}{E2:XP},E2 "BadCount" [("value",d)] (i+1)->eV [.fr (fu p fS vS T L),.fr d] (i+1) Q2 E2:=fun {Q2 E2} hE=>by
   rcases hd' with h1|⟨n,h1,h2,rfl⟩
   ·exact apL h1 h.rng hE
   ·exact agP h2 hE
  refine Opq.mk (agT rfl rfl (main ?_))
  refine alA ?_
  refine Opq.mk (Xp rfl rc fun z ez=>?_)
  refine Opq.mk (ah1 ez rfl ?_)
  refine Opq.mk (apE rfl ?_)
  exact k
 refine wg (fun hb=>?_) fun hb=>?_
 ·rw[if_neg (by simpa using hb)]at eL
  refine lV (sl_le (by rw[JT];omega)) ?_
  refine Opq.mk (QW eL ?_)
  exact fin
 ·rw[if_pos (by simpa using hb)]at eL
  refine lV (sl_le (by rw[JT];omega)) ?_
  refine Opq.mk (QW eL ?_)
  exact fin
variable {Q:D->Int->Prop}{E:XP}{i:Int}
def aci(U:List Sp)(s:Int)(o:Oc):List Sp:=U.map fun x=>if x.1=s then (x.1,o) else x
theorem apm{U:List Sp}{s:Int}(h:s∈U.map fS):(rS U).any (mF (.inl s))=true:=by
 obtain⟨x,hx,e⟩:=aw.mp h
 refine jq.mpr ⟨(.int (fS x),.str (txt (vS x))),aw.mpr ⟨x,hx,rfl⟩,?_⟩
 rw[same_int];exact decide_eq_true e
theorem acd{U:List Sp}{s:Int}{o:Oc}(h:s∈U.map fS):pA (rS U) (.int s) (.inl s) (.str (txt o))=rS (aci U s o):=by
 unfold pA
 rw[apm h]
 show kS (fun p=>cond (mF (.inl s) p) (p.1,D.str (txt o)) p) (U.map fun x=>(D.int (fS x),D.str (txt (vS x))))=(aci U s o).map fun x=>(D.int (fS x),D.str (txt (vS x)))
 unfold aci
 rw[bp,bp]
 refine iM fun x hx=>?_
 show cond (mF (.inl s) (.int (fS x),.str (txt (vS x)))) _ _=_
 rw[same_int]
 by_cases e:fS x=s
 ·rw[decide_eq_true e]
  show _=(D.int (fS (if x.1=s then (x.1,o) else x)),D.str (txt (vS (if x.1=s then (x.1,o) else x))))
  rw[if_pos e];rfl
 ·rw[decide_eq_false e]
  show _=(D.int (fS (if x.1=s then (x.1,o) else x)),D.str (txt (vS (if x.1=s then (x.1,o) else x))))
  rw[if_neg e];rfl
theorem aeW{U:List Sp}{s:Int}{o:Oc}:(aci U s o).map fS=U.map fS:=by
 unfold aci
 rw[bp]
 refine iM fun x hx=>?_
 show fS (if x.1=s then (x.1,o) else x)=fS x
 split<;>rfl
theorem Z4{s:Int}:∀{U:List Sp},Bx (rS U) (.inl s)=rS (U.filter fun x=>!decide (fS x=s))
 | []=>rfl
 |x::U=>by
  show cond (mF (.inl s) (.int (fS x),.str (txt (vS x)))) (Bx (rS U) (.inl s)) ((.int (fS x),.str (txt (vS x)))::Bx (rS U) (.inl s))=_
  rw[same_int,Z4,dC]
  by_cases e:fS x=s
  ·rw[decide_eq_true e];rfl
  ·rw[decide_eq_false e];rfl
theorem TOk.fil{b:Bool}{U:List Sp}{q:Sp->Bool}(h:TOk b U):TOk b (U.filter q):=
 ⟨h.up.fil,a9 (dV _ _) h.len,fun x hx=>h.rng x (cF.mp hx).1,fun x hx=>h.oc x (cF.mp hx).1,fun x hx=>h.mp x (cF.mp hx).1⟩
theorem aip{P:Oc->Prop}{U:List Sp}{s:Int}{o:Oc}(h:∀x∈U,P x.2)(ho:P o):∀x∈aci U s o,P x.2:=fun x hx=>by
 obtain⟨y,hy,e⟩:=aw.mp hx
 subst e
 split
 ·exact ho
 ·exact h y hy
theorem TOk.upd{T:List Sp}{s:Int}{o:Oc}(hT:TOk false T)(h1:o∈jE)(h2:o.2=none):TOk false (aci T s o):=by
 have hl:(aci T s o).length=T.length:=ar _
 refine⟨f7.mp (by rw[aeW];exact f7.mpr hT.up),by rw[hl];exact hT.len,fun x hx=>?_,aip (P:=fun o=>o∈jE) hT.oc h1,aip (P:=fun o=>o.2.isSome=(false&&stB o)) hT.mp (by rw[h2,de];rfl)⟩
 have:fS x∈T.map fS:=by rw[<-aeW (s:=s) (o:=o)];exact aw.mpr ⟨x,hx,rfl⟩
 obtain⟨y,hy,e⟩:=aw.mp this
 rw[show x.1=y.1 from e.symm]
 exact hT.rng y hy
theorem ae8.no{T:List Sp}(hT:TOk false T):ae8 T:=⟨0,by rw[aev hT.mp];rfl⟩
/-- == of a hang with one made of other rows -/
theorem ahA{T U:List Sp}{p L L':Str}(h:∃x∈T,j5 (rS U) (.inl (fS x))=none\/∃w,j5 (rS U) (.inl (fS x))=some (.str w)/\(txt (vS x)==w)=false)(k:Q (.bl false) i):jx [.fr (fu p fS vS T L),.fr (fu p fS vS U L')] i Q E:=by
 obtain⟨r,hr⟩:=Bh (f:=fS) (g:=fun x=>txt (vS x)) (l:=T) (f':=fS) (g':=fun x=>txt (vS x)) (l':=U)
 refine abY hr ?_
 have:r=false:=by
  cases r with
  |false=>rfl
  |true=>
   exfalso
   obtain⟨x,hx,hw⟩:=h
   have:∀{l:List Sp},uL (cX fS (fun x=>.str (txt (vS x))) U) (cX fS (fun x=>.str (txt (vS x))) l)=some true->x∈l->False:=by
    intro l
    induction l with
    |nil=>intro _ h;cases h
    |cons y l ih=>
     intro e h
     rw[show cX fS (fun x:Sp=>D.str (txt (vS x))) (y::l)=(.int (fS y),.str (txt (vS y)))::cX fS (fun x=>.str (txt (vS x))) l from rfl,yP]at e
     dsimp only[keyD]at e
     rcases av.mp h with rfl|h
     ·rcases hw with hw|⟨w,hw,hne⟩
      ·rw[show j5 (cX fS (fun x:Sp=>D.str (txt (vS x))) U) (.inl (fS x))=none from hw]at e;cases e
      ·rw[show j5 (cX fS (fun x:Sp=>D.str (txt (vS x))) U) (.inl (fS x))=some (.str w) from hw]at e
       dsimp only at e
       obtain⟨r',hr'⟩:=Bh (f:=fS) (g:=fun x:Sp=>txt (vS x)) (l:=l) (f':=fS) (g':=fun x:Sp=>txt (vS x)) (l':=U)
       rw[show Zk (.str (txt (vS x))) (.str w)=some false from congrArg some hne,hr']at e
       dsimp only at e
       rw[de]at e
       cases e
     ·rcases Xl (f:=fS) (g:=fun x:Sp=>txt (vS x)) (l:=U) (j:=.inl (fS y)) with e1|⟨w,e1⟩
      ·rw[e1]at e;cases e
      ·rw[e1]at e
       dsimp only at e
       obtain⟨r',hr'⟩:=Bh (f:=fS) (g:=fun x:Sp=>txt (vS x)) (l:=l) (f':=fS) (g':=fun x:Sp=>txt (vS x)) (l':=U)
       rw[show Zk (.str (txt (vS y))) (.str w)=some (txt (vS y)==w) from rfl,hr']at e
       dsimp only at e
       cases hb:txt (vS y)==w with
       |false=>rw[hb,de]at e;cases e
       |true=>rw[hb,fE]at e;exact ih (hr'.trans e) h
   exact this hr hx
 rw[this,kg,kg]
 exact k
variable {Q:D->Int->Prop}{E:XP}{i:Int}
theorem aiM{T:List Sp}{p L L':Str}(hu:UpK fS T)(k:Q (.bl true) i):jx [.fr (fu p fS vS T L),.fr (fu p fS vS T L')] i Q E:=by
 refine abY (aiN hu) ?_
 rw[beq_self_eq_true,beq_self_eq_true];exact k
theorem aiL{T U:List Sp}{p q L L':Str}(h:(p==q)=false)(k:Q (.bl false) i):jx [.fr (fu p fS vS T L),.fr (fu q fS vS U L')] i Q E:=by
 obtain⟨r,hr⟩:=Bh (f:=fS) (g:=fun x=>txt (vS x)) (l:=T) (f':=fS) (g':=fun x=>txt (vS x)) (l':=U)
 refine abY hr ?_
 rw[h,de];exact k
theorem ajP{p L:Str}{T:List Sp}:au5 aP aR "Hang" (fu p fS vS T L)=true:=by
 show decide ((("Hang","Hang"):Str×Str)∈aP)=true
 decide+kernel
theorem aly{T:List Sp}{p L:Str}{d:D}(hd:d=.non\/(∃s,d=.str s)\/∃r,d=.dic r)(k:Q (.bl false) i):jx [.fr (fu p fS vS T L),.fr d] i Q E:=by
 rcases hd with rfl|⟨s,rfl⟩|⟨r,rfl⟩<;>exact k
theorem apT{T:List Sp}{p L:Str}{ds:List D}{y:PV}{o:PV->PV->PM PV}{Q:PV->Int->Prop}(hy:y.rd=some (.lst ds))(h:∀d∈ds,d=.non\/(∃s,d=.str s)\/∃r,d=.dic r)(k:Q (.fr (.bl false)) i):afN bK nZ o (.fr (fu p fS vS T L)) y i Q E:=by
 have key:∀{ds:List D},(∀d∈ds,d=.non\/(∃s,d=.str s)\/∃r,d=.dic r)->Pj bK nZ (.fr (fu p fS vS T L)) (fu p fS vS T L) ds i (fun b i1=>Q (.fr (.bl b)) i1) E:=by
  intro ds
  induction ds with
  |nil=>intro _;exact k
  |cons d ds ih=>
   intro h
   have hd:=h d af
   have ok:au1 nZ "Hang" d=true:=by
    rcases hd with rfl|⟨s,rfl⟩|⟨r,rfl⟩
    ·show decide ("NoneType"∈bkT/\nZ.lookup (("Hang","NoneType"):Str×String)=some false)=true
     decide+kernel
    ·show decide ("str"∈bkT/\nZ.lookup (("Hang","str"):Str×String)=some false)=true
     decide+kernel
    ·show decide ("dict"∈bkT/\nZ.lookup (("Hang","dict"):Str×String)=some false)=true
     decide+kernel
   exact lV ok (Opq.mk (aly hd (ih fun e he=>h e (ag _ he))))
 unfold afN
 rw[hy]
 exact key h
theorem afe{T:List Sp}{x:PV}{Q:PV->Int->Prop}(hx:x.rd=some (.dic (rS T)))(k:Q (.ow (.dic (rS T))) i):zL [x] i Q E:=by
 unfold zL
 dsimp only
 rw[hx]
 exact wF aM k
theorem amg{α:Type}{k:α->Int}{v:α->D}{l:List α}:sdV (cX k v l)=l.map v:=by
 unfold sdV cX;rw[bp];rfl
abbrev oN(v:α->Oc)(x:α):Bool:=(v x).2.isSome
theorem atM{T:List Sp}(h:(T.filter (oN vS))=[]):∀x∈T,x.2.2=none:=fun x hx=>by
 cases e:x.2.2 with
 |none=>rfl
 |some m=>
  have:x∈T.filter (oN vS):=cF.mpr ⟨hx,by show x.2.2.isSome=true;rw[e];rfl⟩
  rw[h]at this;cases this
theorem TOk.plain{b:Bool}{T:List Sp}(h:TOk b T)(hn:∀x∈T,x.2.2=none):TOk false T:=⟨h.up,h.len,h.rng,h.oc,fun x hx=>by rw[hn x hx,de];rfl⟩
theorem at8:∀o∈jE,(txt o== "out 5")=(o.1==5):=by decide+kernel
theorem afj{b m:Bool}{p L:Str}{T:List Sp}{x:Sp}{r5 r6 r7 r8 r9:Option PV}{K:PC->Int->Prop}(hp:p∈xO)(h:TOk b T)(hm:m=false->TOk false T)(h5:∀x∈T,x.2.1≠5)(hx:x∈T)
    (k:∀r5 r6,K (.nx [some (.fr (.str p)),some (.fr (.dic (rS T))),some (.fr (fu p fS vS T L)),some (.fr (.bl m)),some (.fr (.int (fS x))),r5,r6,r7,r8,r9]) i):
    tK [some (.fr (.str p)),some (.fr (.dic (rS T))),some (.fr (fu p fS vS T L)),some (.fr (.bl m)),some (.fr (.int (fS x))),r5,r6,r7,r8,r9] i K:=by
  have hu:UpK fS T:=h.up
  have hl:=h.len
  have lT:(rS T).length<sizeLine:=by rw[show(rS T).length=T.length from BR];unfold sizeLine;omega
  have ne5:(txt (vS x)== "out 5")=false:=by
    rw[at8 _ (h.oc x hx)];exact beq_false_of_ne (h5 x hx)
  refine Opq.mk (afe rfl ?_)
  refine Opq.mk (afe rfl ?_)
  refine Opq.mk (mJ rfl aM (cM hu hx) ?_)
  refine Opq.mk (zK (b:=false) rfl rfl rfl (Cd ne5) ?_)
  refine lV ⟨aM,lT⟩ ?_
  have e5:=acd (U:=T) (s:=fS x) (o:=(5,none)) (aw.mpr ⟨x,hx,rfl⟩)
  have e6:=Z4 (U:=T) (s:=fS x)
  refine lV aM ?_
  rw[cM hu hx]
  refine(show aeA 6 (wY (aqR (Wz (Nv (aU 3))) (pOr (ji (pOp (oqO (cC bK aP aR id (p2 (jM false)))) (aU 2) (dM iQ (aC (aU 0) (aC (aU 5) bh))))) (ji (pOp (oqO (cC bK aP aR id (p2 (jM false)))) (aU 2) (dM iQ (aC (aU 0) (aC (aU 6) bh))))))) (nW (pC (.bl false))) lY) [some (.fr (.str p)),some (.fr (.dic (rS T))),some (.fr (fu p fS vS T L)),some (.fr (.bl m)),some (.fr (.int (fS x))),some (.fr (.dic (pA (rS T) (.int (fS x)) (.inl (fS x)) (.str "out 5")))),some (.ow (.dic (Bx (rS T) (.inl (fS x))))),r7,r8,r9] i K from ?_)
  rw[show(D.str "out 5")=D.str (txt (5,none)) from rfl,e5,e6]
  cases m with
  |true=>exact k _ _
  |false=>
   have hF:=hm rfl
   have hU:=hF.upd (s:=fS x) (o:=(5,none)) (by decide+kernel) rfl
   have hD:=hF.fil (q:=fun y=>!decide (fS y=fS x))
   refine Opq.mk (rK hp (hU.hok (ae8.no hU)) (c0 _) (.inl rfl) fun _=>?_)
   refine Opq.mk (V4 rfl rfl rfl ajP (ahA ⟨x,hx,.inr ⟨"out 5",?_,ne5⟩⟩ ?_))
   · have hx':(x.1,(5,none))∈aci T (fS x) (5,none):=aw.mpr ⟨x,hx,if_pos rfl⟩
     exact cM (v:=fun x=>D.str (txt (vS x))) hU.up hx'
   refine Opq.mk (rK hp (hD.hok (ae8.no hD)) (c0 _) (.inl rfl) fun _=>?_)
   refine Opq.mk (V4 rfl rfl rfl ajP (ahA ⟨x,hx,.inl ?_⟩ ?_))
   · exact Xk fun y hy e=>by
        have:=(cF.mp hy).2
        rw[decide_eq_true e]at this
        cases this
   exact k _ _
abbrev v0:Sp->Oc:=fun _=>(0,none)
theorem ayr{b:Bool}{T:List Sp}(h:TOk b T):HOk fS v0 T:=
 ⟨⟨.inl fun m hm=>by obtain⟨x,_,rfl⟩:=aw.mp hm;rfl⟩,h.up,by have:=h.len;omega,h.rng,fun _ _=>show((0,none):Oc)∈jE from by decide+kernel⟩
theorem untold{b:Bool}{p:Str}{T:List Sp}(hp:p∈xO)(h:TOk b T)(k:Q (fu p fS v0 T (Ao p fS v0 T)) i):kW [.fr (.str p),.fr (.tup (T.map fun x=>.int (fS x)))] i Q E:=by
 have hl:=h.len
 refine Opq.mk (Ye (k:=fS) (v:=fun _=>.str (txt (0,none))) (g:=fun x:Sp=>D.int (fS x)) (by omega) h.up ?_ ?_)
 ·intro x hx K hK
  exact hK
 refine Opq.mk (rK (v:=v0) (l:=T) hp (ayr h) (c0 T) (.inl rfl) fun _=>?_)
 exact k
theorem alY{n:Nat}{x:PV}{Q:PV->Int->Prop}(hx:x.rd=some (.lst [.str "open"]))(hn:n<=5)(k:Q (.ow (.lst (bN n (.str "open")))) i):Opq (aqS x (.fr (.int (n:Int))) i Q E):=by
 refine Opq.mk ?_
 unfold aqS
 rw[hx]
 show gd (-(2 ^ 63)<=(n:Int)/\(n:Int)<2 ^ 63/\1*(n:Int).toNat<=sizeLine) (Q (.ow (.lst (bN (n:Int).toNat [D.str "open"]).flatten)) i)
 rw[aop]
 refine⟨⟨by omega,by omega,sl_le (by rw[eP];omega)⟩,?_⟩
 rw[eP,show(bN n [D.str "open"]).flatten=bN n (.str "open") from ?_]
 ·exact k
 ·clear k hn
  induction n with
  |zero=>rfl
  |succ n ih=>rw[bP,gb,ih];rfl
theorem Wc{v:Sp->Oc}{T:List Sp}{p L:Str}{x:Sp}{Q:PV->Int->Prop}(hu:UpK fS T)(hx:x∈T)(k:Q (.fr (.str (txt (v x)))) i):BP jC pIx (.fr (fu p fS v T L)) (.fr (.int (fS x))) i Q E:=agT rfl rfl (anr hu hx k)
theorem aiY{b:Bool}{p:Str}{T:List Sp}(hp:p∈xO)(hb0:(p== "b0")=false)(h:TOk b T)(hn:ae8 T)(h5:∀x∈T,x.2.1≠5)(k:Q (.bl true) i):lZ [.fr (.str p),.fr (.dic (rS T))] i Q E:=by
 have hk:=h.hok hn
 have hu:UpK fS T:=hk.up
 have hl:=h.len
 refine Opq.mk (rK hp hk (c0 T) (.inl rfl) fun hL=>?_)
 have hL':=hL.len
 generalize hLe:Ao p fS vS T=L at hL' ⊢
 refine Opq.mk (show tM [some (.fr (.str p)),some (.fr (.dic (rS T))),some (.fr (fu p fS vS T L)),none,none,none,none,none,none,none] i _ from ?_)
 refine Opq.mk (afe rfl ?_)
 refine Opq.mk (rK hp hk (c0 T) (.inl rfl) fun _=>?_)
 refine Opq.mk (V4 rfl rfl rfl ajP (aiM hu ?_))
 refine Opq.mk (rK (by decide+kernel) hk (c0 T) (.inl rfl) fun _=>?_)
 refine Opq.mk (V4 rfl rfl rfl ajP (aiL hb0 ?_))
 refine Opq.mk (show tQ [some (.fr (.str p)),some (.fr (.dic (rS T))),some (.fr (fu p fS vS T L)),none,none,none,none,none,none,none] i _ from ?_)
 refine Opq.mk (Qp (z:=L) rfl rfl (fun C E hC=>Qo hL' hC) ?_)
 refine Opq.mk (apT (ds:=[.non,.str p,.dic (rS T),.str L]) rfl (zW (.inl rfl) (zW (.inr (.inl ⟨_,rfl⟩)) (zW (.inr (.inr ⟨_,rfl⟩)) (zW (.inr (.inl ⟨_,rfl⟩)) VP)))) ?_)
 refine Opq.mk (show tR [some (.fr (.str p)),some (.fr (.dic (rS T))),some (.fr (fu p fS vS T L)),none,none,none,none,none,none,none] i _ from ?_)
 refine lV ⟨aM,rfl⟩ ?_
 refine Opq.mk ?_
 rw[amg]
 refine QT (l:=T) (f:=fun _=>.int 1) (p:=oN vS) (by omega) ?_ ?_
 ·intro x hx K hK
  have g2:(txt (vS x)).length<=16:=Wo _ (h.oc x hx)
  refine Opq.mk (Xr rfl (sl_le (by omega)) ?_)
  refine Opq.mk (Wn rfl ?_)
  refine Opq.mk (O7 (b:=oN vS x) rfl rfl rfl ?_ ?_)
  ·rw[agR,ar]
   have:=arD _ (h.oc x hx)
   cases e:oN vS x with
   |true=>rw[show(Txt.split (txt (vS x)) " ").length=3 from this.mpr e];rfl
   |false=>
    have:(Txt.split (txt (vS x)) " ").length≠3:=fun z=>by have:=this.mp z;rw[show x.2.2.isSome=oN vS x from rfl,e]at this;cases this
    rw[beq_false_of_ne fun z=>this (by exact_mod_cast z)]
  refine wg (fun hb=>?_) fun hb=>?_
  ·rw[if_pos hb]at hK;exact hK
  ·rw[if_neg (by rw[hb];decide)]at hK;exact hK
 have eM:∃m:Bool,(m=false->TOk false T)/\U5 (.lst ((T.filter (oN vS)).map fun _=>D.int 1)) (.lst [])=some (!m):=by
  cases e:T.filter (oN vS) with
  |nil=>exact⟨false,fun _=>h.plain (atM e),rfl⟩
  |cons x l=>
   refine⟨true,fun z=>(nomatch z),?_⟩
   have c1:Cl 1 (.lst ((x::l).map fun _:Sp=>D.int 1)):=.lst fun y hy=>by
    obtain⟨_,_,rfl⟩:=aw.mp hy;exact .int
   rw[c1.eqP (.lst VP) (by omega),aom (by simp)];rfl
 obtain⟨m,hm,eM⟩:=eM
 refine Opq.mk (zK (b:=!m) rfl rfl rfl eM ?_)
 rw[Bool.not_not]
 refine Opq.mk (show tU [some (.fr (.str p)),some (.fr (.dic (rS T))),some (.fr (fu p fS vS T L)),some (.fr (.bl m)),none,none,none,none,none,none] i _ from ?_)
 refine lV ⟨aM,rfl⟩ ?_
 refine Opq.mk (aiH (l:=T) (c:=fun _=>true) (e:=.bl false) (I:=fun r=>∃r4 r5 r6,r=[some (.fr (.str p)),some (.fr (.dic (rS T))),some (.fr (fu p fS vS T L)),some (.fr (.bl m)),r4,r5,r6,none,none,none]) ?_ ⟨_,_,_,rfl⟩ ?_ ?_)
 ·rintro x hx r ⟨r4,r5,r6,rfl⟩
  refine⟨_,rfl,fun K k1 k2=>?_⟩
  exact afj hp h hm h5 hx fun r5 r6=>k1 rfl _ ⟨_,_,_,rfl⟩
 ·rintro _ r ⟨r4,r5,r6,rfl⟩
  refine Opq.mk (show tV [some (.fr (.str p)),some (.fr (.dic (rS T))),some (.fr (fu p fS vS T L)),some (.fr (.bl m)),r4,r5,r6,none,none,none] i _ from ?_)
  refine lV aM ?_
  have eK:sdK (rS T)=T.map fun x=>D.int (fS x):=v7
  rw[eK]
  refine Opq.mk (untold hp h ?_)
  refine lV aM ?_
  generalize Ao p fS v0 T=L0
  rw[eK]
  refine Opq.mk (show tW [some (.fr (.str p)),some (.fr (.dic (rS T))),some (.fr (fu p fS vS T L)),some (.fr (.bl m)),r4,r5,r6,some (.fr (fu p fS v0 T L0)),some (.fr (.lst (T.map fun x=>.int (fS x)))),none] i _ from ?_)
  refine Opq.mk (Ab (l:=T) (g:=fun x=>D.int (fS x)) (f:=fun x=>.str (txt (v0 x))) (by omega) ?_ ?_)
  ·intro x hx K hK
   refine Opq.mk ?_
   refine Wc (v:=v0) hu hx ?_
   exact hK
  refine Opq.mk (Wn (l:=T.map fun x=>.int (fS x)) rfl ?_)
  refine alY (n:=(T.map fun x=>D.int (fS x)).length) rfl (by rw[ar];exact hl) ?_
  rw[ar]
  have cO:Cl 1 (.lst (T.map fun x=>D.str (txt (v0 x)))):=.lst fun y hy=>by
   obtain⟨_,_,rfl⟩:=aw.mp hy;exact .str (show PyData.strOk (txt (0,none))=true by decide+kernel)
  have cR:Cl 1 (.lst (bN T.length (.str "open"))):=.lst fun y hy=>by
   rw[(List.mem_replicate.mp hy).2];exact .str (by decide+kernel)
  have eR:(T.map fun x=>D.str (txt (v0 x)))=bN T.length (.str "open"):=List.map_const' (l:=T) (b:=D.str (txt (0,none)))
  refine Opq.mk (zK (b:=true) rfl rfl rfl (by rw[cO.eqP cR (by omega),acE (by rw[eR])]) ?_)
  refine Opq.mk (told hu (v:=v0) (fun _ _=>show((0,none):Oc)∈jE from by decide+kernel) (by omega) ?_)
  have eF:T.filter (opn v0)=[]:=List.filter_eq_nil_iff.mpr fun x _=>show ¬((!((0:Nat)==0))=true) by decide
  rw[eF]
  refine Opq.mk (O7 (b:=true) rfl rfl rfl rfl ?_)
  have cT:=apt (n:=0) T fS
  refine Opq.mk (O7 (b:=true) rfl rfl rfl (by rw[cT.eqP cT (by omega),acE rfl]) ?_)
  exact k
 ·intro hc
  rw[show(T.all fun _=>true)=true from cg.mpr fun _ _=>rfl]at hc
  cases hc
variable {Q:D->Int->Prop}{E:XP}{i:Int}
structure aoi(ms:List (Option Nat)):Prop where
 ok:(none∈ms/\∃k,some k∈ms)\/∃ks,ms=ks.map some/\QZ ks 0=none
theorem RX{ls ms:D}{K:PC->Int->Prop}:∀{ks:List Nat}{n:Nat}{a:Option PV},(∀k∈ks,k<12)->QZ ks n=none->K (.rt (.bl false)) i->
    qY (tN 3) gK (ks.map fun k:Nat=>D.str (iT k)) [some (.fr ls),some (.fr ms),some (.fr (.int (n:Int))),a,none] i K
  | [],n,a,_,h,k=>by cases h
  |j::ks,n,a,hk,h,k=>by
   unfold QZ at h
   have h12:=hk j af
   have hl:=(ako (e:=(j:Int)) (by omega) (by omega)).1
   rw[ax,Qv]
   refine(show gK [some (.fr ls),some (.fr ms),some (.fr (.int (n:Int))),some (.fr (.str (iT j))),none] i _ from ?_)
   refine Opq.mk (int_text rfl (acK j h12) (by omega) ?_)
   split at h
   · rename_i hj
     refine anh (b:=decide ((j:Int)>(n:Int))) (decide_eq_false (by omega)) ?_
     have ih:=@RX ls ms K ks _ (some (.fr (.str (iT j)))) (fun x hx=>hk x (ag _ hx)) h k
     refine Opq.mk (int_text rfl (acK j h12) (by omega) ?_)
     refine Opq.mk (KZ rfl rfl (b:=decide (j=n)) (by rw[agR];congr 1;by_cases e:j=n<;>simp[e];omega) ?_)
     refine wg (fun e=>?_) fun e=>?_
     · have e:=of_decide_eq_true e
       rw[if_pos e]at ih
       exact ih
     · have e:=of_decide_eq_false e
       rw[if_neg e]at ih
       exact ih
   · rename_i hj
     exact acy (b:=decide ((j:Int)>(n:Int))) (decide_eq_true (by omega)) k
section
variable {α:Type}{v:α->Oc}{f:α->Int}
theorem ai1{l:List α}(h:∀x∈l,v x∈jE)(hl:l.length<=1000)(hm:aoi ((l.filter fun x=>stB (v x)).map fun x=>(v x).2))(k:Q (.bl false) i):jN [.fr (.lst (l.map fun x=>.str (txt (v x))))] i Q E:=by
 refine Opq.mk (QT (l:=l) (f:=fun x=>.str (mT (v x).2)) (p:=fun x=>stB (v x)) (by omega) ?_ ?_)
 ·intro x hx K hK
  refine Opq.mk (is_stop (h x hx) ?_)
  refine wg (fun hb=>?_) fun hb=>?_
  ·rw[if_pos hb]at hK
   exact Opq.mk (mark_of (h x hx) hK)
  ·rw[if_neg (by rw[hb];decide)]at hK
   exact hK
 have hfl:(l.filter fun x=>stB (v x)).length<=1000:=a9 (dV _ _) hl
 have em:((l.filter fun x=>stB (v x)).map fun x=>D.str (mT (v x).2))=((l.filter fun x=>stB (v x)).map fun x=>mT (v x).2).map D.str:=by rw[bp];rfl
 have lt:∀m∈((l.filter fun x=>stB (v x)).map fun x=>(v x).2),∀k∈m,k<12:=fun m hm k hk=>by
  obtain⟨x,hx,rfl⟩:=aw.mp hm
  exact asx _ (h x (cF.mp hx).1) k hk
 have e2:((l.filter fun x=>stB (v x)).map fun x=>mT (v x).2)=((l.filter fun x=>stB (v x)).map fun x=>(v x).2).map mT:=by rw[bp];rfl
 rw[em,e2]
 have hml:((l.filter fun x=>stB (v x)).map fun x=>(v x).2).length<=1000:=by rw[ar];exact hfl
 generalize ((l.filter fun x=>stB (v x)).map fun x=>(v x).2)=ms at hm lt hml ⊢
 refine Opq.mk (ahB (.inl rfl) ?_)
 rw[kf]
 rcases hm.ok with⟨hn,j,hj⟩|⟨ks,rfl,hk⟩
 ·rw[show decide (("":Str)∈ms.map mT)=true from decide_eq_true (aw.mpr ⟨none,hn,rfl⟩)]
  refine Opq.mk (Ab (l:=ms.map mT) (g:=D.str) (f:=fun y=>.bl (y== "")) (by rw[ar];omega) ?_ ?_)
  ·intro y hy K hK
   exact Opq.mk (KZ rfl rfl (Cd rfl) hK)
  ·refine Opq.mk (Gg (l:=(ms.map mT).map fun y:Str=>y== "") (by rw[bp (l:=ms.map mT)];rfl) ?_)
   rw[show List.all ((ms.map mT).map fun y:Str=>y== "") id=false from lh.mpr fun z=>by
    have:=cg.mp z (mT (some j)== "") (aw.mpr ⟨_,aw.mpr ⟨_,hj,rfl⟩,rfl⟩)
    rw[atQ (lt _ hj)]at this
    cases this]
   exact k
 ·have h12:∀k∈ks,k<12:=fun k hk'=>lt (some k) (aw.mpr ⟨k,hk',rfl⟩) k rfl
  have e3:(ks.map some).map mT=ks.map fun k:Nat=>iT k:=by rw[bp];rfl
  rw[e3]
  have:decide (("":Str)∈ks.map fun k:Nat=>iT k)=false:=decide_eq_false fun z=>by
   obtain⟨k,hk',e⟩:=aw.mp z
   exact ajH k (h12 k hk') e
  rw[this]
  have e4:(ks.map fun k:Nat=>iT k).map D.str=ks.map fun k:Nat=>D.str (iT k):=by rw[bp];rfl
  rw[e4]
  exact Opq.mk (RX (n:=0) h12 hk k)
theorem aap{p:Str}{l:List α}(hp:p∈xO)(hu:UpK f l)(hl:l.length<=12)(rng:∀x∈l,0<=f x/\f x<=11)(oc:∀x∈l,v x∈jE)(hb:aoi ((l.filter fun x=>stB (v x)).map fun x=>(v x).2))(k:E "BadHang" [("part",.str "marks")] i):uz [.fr (.str p),.fr (.dic (afT f v l))] i Q E:=by
 refine Opq.mk (is_port hp ?_)
 refine lV ⟨aM,rfl⟩ ?_
 refine Opq.mk (mQ (α:=α) (f:=fun _=>.bl true) (by omega) ?_ ?_)
 ·intro x hx K hK
  obtain⟨h1,h2⟩:=rng x hx
  refine acy (b:=decide ((0:Int)<=f x)) (decide_eq_true h1) ?_
  show K (some (.bl (decide (f x<=11)))) _
  rw[decide_eq_true h2];exact hK
 refine Opq.mk (all_true rfl ?_)
 refine lV ⟨aM,rfl⟩ ?_
 refine Opq.mk (mQ (f:=fun x:α=>.int (f x)) (by omega) (fun x hx K hK=>hK) ?_)
 refine Opq.mk (aau rfl hu (by omega) ?_)
 refine Opq.mk (Ye (k:=f) (v:=fun x=>.str (txt (v x))) (by omega) hu ?_ ?_)
 ·intro x hx K hK
  exact Opq.mk (mJ rfl aM (cM hu hx) hK)
 refine lV ⟨aM,rfl⟩ ?_
 refine Opq.mk (mQ (α:=α) (f:=fun _=>.bl true) (by omega) ?_ ?_)
 ·intro x hx K hK
  refine Opq.mk (mJ rfl aM (cM hu hx) ?_)
  exact Opq.mk (is_outcome (oc x hx) hK)
 refine Opq.mk (all_true rfl ?_)
 refine lV ⟨aM,rfl⟩ ?_
 refine Opq.mk (mQ (f:=fun x:α=>.str (txt (v x))) (by omega) ?_ ?_)
 ·intro x hx K hK
  exact Opq.mk (mJ rfl aM (cM hu hx) hK)
 refine Opq.mk (ai1 (v:=v) oc (by omega) hb ?_)
 exact k
theorem R7{g:α->D}{c:α->Bool}{l:List α}(hu:UpK f l)(hl:l.length<=12)(rng:∀x∈l,0<=f x/\f x<=11)(hc:∀x∈l,∀{Q:D->Int->Prop}{E:XP},Q (.bl (c x)) i->aF [.fr (g x)] i Q E)(hb:l.all c=false)(k:E "BadHang" [("part",.str "outcome")] i):uz [.fr (.str "a0"),.fr (.dic (cX f g l))] i Q E:=by
 refine Opq.mk (is_port (by decide+kernel) ?_)
 refine lV ⟨aM,rfl⟩ ?_
 refine Opq.mk (mQ (α:=α) (f:=fun _=>.bl true) (by omega) ?_ ?_)
 ·intro x hx K hK
  obtain⟨h1,h2⟩:=rng x hx
  refine acy (b:=decide ((0:Int)<=f x)) (decide_eq_true h1) ?_
  show K (some (.bl (decide (f x<=11)))) _
  rw[decide_eq_true h2];exact hK
 refine Opq.mk (all_true rfl ?_)
 refine lV ⟨aM,rfl⟩ ?_
 refine Opq.mk (mQ (f:=fun x:α=>.int (f x)) (by omega) (fun x hx K hK=>hK) ?_)
 refine Opq.mk (aau rfl hu (by omega) ?_)
 refine Opq.mk (Ye (k:=f) (v:=g) (by omega) hu ?_ ?_)
 ·intro x hx K hK
  exact Opq.mk (mJ rfl aM (cM hu hx) hK)
 refine lV ⟨aM,rfl⟩ ?_
 refine Opq.mk (mQ (α:=α) (f:=fun x=>.bl (c x)) (by omega) ?_ ?_)
 ·intro x hx K hK
  refine Opq.mk (mJ rfl aM (cM hu hx) ?_)
  exact Opq.mk (hc x hx hK)
 refine Opq.mk (Gg (l:=l.map c) (by rw[bp];rfl) ?_)
 rw[show List.all (l.map c) id=false from by rw[List.all_map];exact hb]
 exact k
end
variable {Q:D->Int->Prop}{E:XP}{i:Int}
def wz:List D:=[.non,.str "",.str "a",.str "a3",.str "A0",.str "a00",.tup [.str "a",.int 0],.int 0,.bl true,.lst [.str "a0"],.str "a 0",.str "0a"]
def Nt:List D:=[.non,.lst [],.str "a",.odd [.bl true],.dic [(.int (-1),.str "open")],.dic [(.int 12,.str "open")],.dic [(.str "0",.str "open")],.odd [.non],.odd [.tup [.int 0]],.int 5]
def xR:List D:=[.str "out 12",.str "out 01",.str "out",.str "out -1",.str "out x",.str "stop",.str "stop A",.str "stop abcdefghi",.str "stop a 12",.str "stop a 01",.str "stop a  0",.str "open ",.str " open",.str "Open",.str "",.non,.int 3,.str "lost 1",.str "stop a b",.str "out 1 1",.str "stop a 0 0",.lst [.str "open"],.tup [.str "open"],.str "ever\n",.str "out 1\n",.bl true]
theorem ayR:dG [.fr (.non)] i Q E=Q (.bl false) i:=by kernel_rfl
theorem ayS:dG [.fr (.str "")] i Q E=Q (.bl false) i:=by kernel_rfl
theorem ayT:dG [.fr (.str "a")] i Q E=Q (.bl false) i:=by kernel_rfl
theorem ayU:dG [.fr (.str "a3")] i Q E=Q (.bl false) i:=by kernel_rfl
theorem ayV:dG [.fr (.str "A0")] i Q E=Q (.bl false) i:=by kernel_rfl
theorem ayW:dG [.fr (.str "a00")] i Q E=Q (.bl false) i:=by kernel_rfl
theorem ayX:dG [.fr (.tup [.str "a",.int 0])] i Q E=Q (.bl false) i:=by kernel_rfl
theorem ayY:dG [.fr (.int 0)] i Q E=Q (.bl false) i:=by kernel_rfl
theorem ayZ:dG [.fr (.bl true)] i Q E=Q (.bl false) i:=by kernel_rfl
theorem ay0:dG [.fr (.lst [.str "a0"])] i Q E=Q (.bl false) i:=by kernel_rfl
theorem aw5:dG [.fr (.str "a 0")] i Q E=Q (.bl false) i:=by kernel_rfl
theorem aw6:dG [.fr (.str "0a")] i Q E=Q (.bl false) i:=by kernel_rfl
theorem aub{d:D}(h:d∈wz)(k:Q (.bl false) i):dG [.fr d] i Q E:=by
 simp only[wz,av,bj,or_false]at h
 repeat' rcases h with rfl|h
 ·rw[ayR];exact k
 ·rw[ayS];exact k
 ·rw[ayT];exact k
 ·rw[ayU];exact k
 ·rw[ayV];exact k
 ·rw[ayW];exact k
 ·rw[ayX];exact k
 ·rw[ayY];exact k
 ·rw[ayZ];exact k
 ·rw[ay0];exact k
 ·rw[aw5];exact k
 ·rw[aw6];exact k
theorem ay6:aF [.fr (.str "out 12")] i Q E=Q (.bl false) i:=by kernel_rfl
theorem ay7:aF [.fr (.str "out 01")] i Q E=Q (.bl false) i:=by kernel_rfl
theorem ay8:aF [.fr (.str "out")] i Q E=Q (.bl false) i:=by kernel_rfl
theorem ay9:aF [.fr (.str "out -1")] i Q E=Q (.bl false) i:=by kernel_rfl
theorem aza:aF [.fr (.str "out x")] i Q E=Q (.bl false) i:=by kernel_rfl
theorem azb:aF [.fr (.str "stop")] i Q E=Q (.bl false) i:=by kernel_rfl
theorem azc:aF [.fr (.str "stop A")] i Q E=Q (.bl false) i:=by kernel_rfl
theorem azd:aF [.fr (.str "stop abcdefghi")] i Q E=Q (.bl false) i:=by kernel_rfl
theorem aze:aF [.fr (.str "stop a 12")] i Q E=Q (.bl false) i:=by kernel_rfl
theorem azf:aF [.fr (.str "stop a 01")] i Q E=Q (.bl false) i:=by kernel_rfl
theorem axf:aF [.fr (.str "stop a  0")] i Q E=Q (.bl false) i:=by kernel_rfl
theorem axg:aF [.fr (.str "open ")] i Q E=Q (.bl false) i:=by kernel_rfl
theorem axh:aF [.fr (.str " open")] i Q E=Q (.bl false) i:=by kernel_rfl
theorem axi:aF [.fr (.str "Open")] i Q E=Q (.bl false) i:=by kernel_rfl
theorem axj:aF [.fr (.str "")] i Q E=Q (.bl false) i:=by kernel_rfl
theorem axk:aF [.fr (.non)] i Q E=Q (.bl false) i:=by kernel_rfl
theorem axl:aF [.fr (.int 3)] i Q E=Q (.bl false) i:=by kernel_rfl
theorem axn:aF [.fr (.str "lost 1")] i Q E=Q (.bl false) i:=by kernel_rfl
theorem axo:aF [.fr (.str "stop a b")] i Q E=Q (.bl false) i:=by kernel_rfl
theorem axp:aF [.fr (.str "out 1 1")] i Q E=Q (.bl false) i:=by kernel_rfl
theorem axq:aF [.fr (.str "stop a 0 0")] i Q E=Q (.bl false) i:=by kernel_rfl
theorem axr:aF [.fr (.lst [.str "open"])] i Q E=Q (.bl false) i:=by kernel_rfl
theorem axt:aF [.fr (.tup [.str "open"])] i Q E=Q (.bl false) i:=by kernel_rfl
theorem axu:aF [.fr (.str "ever\n")] i Q E=Q (.bl false) i:=by kernel_rfl
theorem axv:aF [.fr (.str "out 1\n")] i Q E=Q (.bl false) i:=by kernel_rfl
theorem axw:aF [.fr (.bl true)] i Q E=Q (.bl false) i:=by kernel_rfl
theorem aoa{d:D}(h:d∈xR)(k:Q (.bl false) i):aF [.fr d] i Q E:=by
 simp only[xR,av,bj,or_false]at h
 repeat' rcases h with rfl|h
 ·rw[ay6];exact k
 ·rw[ay7];exact k
 ·rw[ay8];exact k
 ·rw[ay9];exact k
 ·rw[aza];exact k
 ·rw[azb];exact k
 ·rw[azc];exact k
 ·rw[azd];exact k
 ·rw[aze];exact k
 ·rw[azf];exact k
 ·rw[axf];exact k
 ·rw[axg];exact k
 ·rw[axh];exact k
 ·rw[axi];exact k
 ·rw[axj];exact k
 ·rw[axk];exact k
 ·rw[axl];exact k
 ·rw[axn];exact k
 ·rw[axo];exact k
 ·rw[axp];exact k
 ·rw[axq];exact k
 ·rw[axr];exact k
 ·rw[axt];exact k
 ·rw[axu];exact k
 ·rw[axv];exact k
 ·rw[axw];exact k
theorem ama{d:D}{a:PV}(h:d∈wz)(k:E "BadHang" [("part",.str "port")] i):uz [.fr d,a] i Q E:=by
 refine Opq.mk (aub h ?_)
 exact k
theorem ai7{d:D}(h:d∈Nt)(k:E "BadHang" [("part",.str "spots")] i):uz [.fr (.str "a0"),.fr d] i Q E:=by
 simp only[Nt,av,bj,or_false]at h
 repeat' rcases h with rfl|h
 all_goals refine Opq.mk (is_port (by decide+kernel) ?_)
 ·exact k
 ·exact k
 ·exact k
 ·refine Opq.mk ?_
  refine Opq.mk (Gg (l:=[false]) rfl ?_)
  exact k
 ·refine Opq.mk ?_
  refine Opq.mk (Gg (l:=[false]) rfl ?_)
  exact k
 ·refine Opq.mk ?_
  refine Opq.mk (Gg (l:=[false]) rfl ?_)
  exact k
 ·refine Opq.mk ?_
  refine Opq.mk (Gg (l:=[false]) rfl ?_)
  exact k
 ·refine Opq.mk ?_
  refine Opq.mk (Gg (l:=[false]) rfl ?_)
  exact k
 ·refine Opq.mk ?_
  refine Opq.mk (Gg (l:=[false]) rfl ?_)
  exact k
 ·exact k
variable {Q:D->Int->Prop}{E:XP}{i:Int}
abbrev mk0:D:=.dic [(.int 0,.str "stop a 0"),(.int 1,.str "stop a")]
abbrev mk1:D:=.dic [(.int 0,.str "stop a"),(.int 5,.str "stop b 0")]
abbrev mk2:D:=.dic [(.int 4,.str "stop a 1")]
abbrev mk3:D:=.dic [(.int 0,.str "stop a 0"),(.int 7,.str "stop b 2")]
theorem asO{T:List Sp}(hu:UpK fS T)(hl:T.length<=12)(rng:∀x∈T,0<=x.1/\x.1<=11)(oc:∀x∈T,x.2∈jE)(hb:aoi ((T.filter fun x=>stB (vS x)).map fun x=>(vS x).2))(k:E "BadHang" [("part",.str "marks")] i):uz [.fr (.str "a0"),.fr (.dic (rS T))] i Q E:=
 aap (by decide+kernel) hu hl rng oc hb k
theorem aq5{d:D}(h:d∈[mk0,mk1,mk2,mk3])(k:E "BadHang" [("part",.str "marks")] i):uz [.fr (.str "a0"),.fr d] i Q E:=by
 simp only[av,bj,or_false]at h
 repeat' rcases h with rfl|h
 ·exact asO (T:=[(0,(6,some 0)),(1,(6,none))]) (by unfold UpK;decide+kernel) (by decide) (by decide) (by decide+kernel) ⟨.inl ⟨by decide+kernel,0,by decide+kernel⟩⟩ k
 ·exact asO (T:=[(0,(6,none)),(5,(8,some 0))]) (by unfold UpK;decide+kernel) (by decide) (by decide) (by decide+kernel) ⟨.inl ⟨by decide+kernel,0,by decide+kernel⟩⟩ k
 ·exact asO (T:=[(4,(6,some 1))]) (by unfold UpK;decide+kernel) (by decide) (by decide) (by decide+kernel) ⟨.inr ⟨[1],by decide+kernel,by decide+kernel⟩⟩ k
 ·exact asO (T:=[(0,(6,some 0)),(7,(8,some 2))]) (by unfold UpK;decide+kernel) (by decide) (by decide) (by decide+kernel) ⟨.inr ⟨[0,2],by decide+kernel,by decide+kernel⟩⟩ k
theorem aq6{d:D}(h:d∈xR)(k:E "BadHang" [("part",.str "outcome")] i):uz [.fr (.str "a0"),.fr (.dic [(.int 0,.str "open"),(.int 1,d)])] i Q E:=by
 refine R7 (f:=Prod.fst) (g:=Prod.snd) (l:=[((0:Int),D.str "open"),(1,d)]) (c:=fun x=>decide (x.1=0)) ?_ (by show 2<=12;omega) ?_ ?_ (by rfl) k
 ·exact .cons (zW (show(0:Int)<1 by decide) VP) (.cons VP .nil)
 ·exact zW (show(0:Int)<=0/\(0:Int)<=11 by decide) (zW (show(0:Int)<=1/\(1:Int)<=11 by decide) VP)
 ·refine zW (fun {Q E} hQ=>?_) (zW (fun {Q E} hQ=>?_) VP)
  ·exact is_outcome (o:=(0,none)) (by decide+kernel) hQ
  ·exact aoa h hQ
theorem ai8{d:D}(h:d∈xR)(k:E "BadHang" [("part",.str "outcome")] i):uz [.fr (.str "a0"),.fr (.dic [(.int 0,d),(.int 1,.str "stop a 3"),(.int 2,.str "stop a")])] i Q E:=by
 refine R7 (f:=Prod.fst) (g:=Prod.snd) (l:=[((0:Int),d),(1,.str "stop a 3"),(2,.str "stop a")]) (c:=fun x=>!decide (x.1=0)) ?_ (by show 3<=12;omega) ?_ ?_ (by rfl) k
 ·exact .cons (zW (show(0:Int)<1 by decide) (zW (show(0:Int)<2 by decide) VP)) (.cons (zW (show(1:Int)<2 by decide) VP) (.cons VP .nil))
 ·exact zW (show(0:Int)<=0/\(0:Int)<=11 by decide) (zW (show(0:Int)<=1/\(1:Int)<=11 by decide) (zW (show(0:Int)<=2/\(2:Int)<=11 by decide) VP))
 ·refine zW (fun {Q E} hQ=>?_) (zW (fun {Q E} hQ=>?_) (zW (fun {Q E} hQ=>?_) VP))
  ·exact aoa h hQ
  ·exact is_outcome (o:=(6,some 3)) (by decide+kernel) hQ
  ·exact is_outcome (o:=(6,none)) (by decide+kernel) hQ
abbrev hg(w:Str):D:=.tup [.str "hang",.str w]
theorem adQ(hi:0<=i/\i<900000)(k:Q (.bl true) (i+1+1+1+1+1)):jK [.pen] i Q E:=by
 refine Opq.mk (show qF [some .pen,some (.fr (.lst wz)),none,none,none,none,none,none,none] i _ from ?_)
 refine Opq.mk (show qG [some .pen,some (.fr (.lst wz)),some (.fr (.lst Nt)),none,none,none,none,none,none] i _ from ?_)
 refine Opq.mk ?_
 refine Opq.mk ?_
 refine Opq.mk (show qH [some .pen,some (.fr (.lst wz)),some (.fr (.lst Nt)),some (.fr (.lst xR)),none,none,none,none,none] i _ from ?_)
 refine Opq.mk (pick (ds:=wz) (by omega) (by decide) (by decide) fun gate hg1=>?_)
 refine Opq.mk (pick (ds:=Nt) (by omega) (by decide) (by decide) fun lot hl1=>?_)
 refine Opq.mk (pick (ds:=xR) (by omega) (by decide) (by decide) fun text ht1=>?_)
 refine Opq.mk (show qJ [some .pen,some (.fr (.lst wz)),some (.fr (.lst Nt)),some (.fr (.lst xR)),some (.fr gate),some (.fr lot),some (.fr text),none,none] (i+1+1+1) _ from ?_)
 refine Opq.mk ?_
 refine Opq.mk (show qK [some .pen,some (.fr (.lst wz)),some (.fr (.lst Nt)),some (.fr (.lst xR)),some (.fr gate),some (.fr lot),some (.fr text),some (.ow (.lst [mk0,mk1,mk2,mk3])),none] (i+1+1+1) _ from ?_)
 refine Opq.mk (rG ?_)
 refine Opq.mk (avy (n:=0) (l:=[mk0,mk1,mk2,mk3]) rfl rfl ?_)
 refine Opq.mk (pick (ds:=[lot,.dic [(.int 0,text)],.dic [],mk0]) (by omega) (by show 0<4;omega) (by show 4<1000;omega) fun d hd=>?_)
 refine Opq.mk (ama hg1 ?_)
 refine Kh ?_
 refine Opq.mk (show qL [some .pen,some (.fr (.lst wz)),some (.fr (.lst Nt)),some (.fr (.lst xR)),some (.fr gate),some (.fr lot),some (.fr text),some (.fr (.lst [mk0,mk1,mk2,mk3])),some (.ow (.lst [hg "port"]))] (i+1+1+1+1) _ from ?_)
 refine Opq.mk (rG ?_)
 refine Opq.mk (ai7 hl1 ?_)
 refine Kh ?_
 refine Opq.mk (show pF [some .pen,some (.fr (.lst wz)),some (.fr (.lst Nt)),some (.fr (.lst xR)),some (.fr gate),some (.fr lot),some (.fr text),some (.fr (.lst [mk0,mk1,mk2,mk3])),some (.ow (.lst [hg "port",hg "spots"]))] (i+1+1+1+1) _ from ?_)
 refine Opq.mk (rG ?_)
 refine Opq.mk (aq6 ht1 ?_)
 refine Kh ?_
 refine Opq.mk (show pG [some .pen,some (.fr (.lst wz)),some (.fr (.lst Nt)),some (.fr (.lst xR)),some (.fr gate),some (.fr lot),some (.fr text),some (.fr (.lst [mk0,mk1,mk2,mk3])),some (.ow (.lst [hg "port",hg "spots",hg "outcome"]))] (i+1+1+1+1) _ from ?_)
 refine Opq.mk (rG ?_)
 refine Opq.mk (ai8 ht1 ?_)
 refine Kh ?_
 refine Opq.mk (show pH [some .pen,some (.fr (.lst wz)),some (.fr (.lst Nt)),some (.fr (.lst xR)),some (.fr gate),some (.fr lot),some (.fr text),some (.fr (.lst [mk0,mk1,mk2,mk3])),some (.ow (.lst [hg "port",hg "spots",hg "outcome",hg "outcome"]))] (i+1+1+1+1) _ from ?_)
 refine Opq.mk (rG ?_)
 refine Opq.mk (pick (ds:=[mk0,mk1,mk2,mk3]) (by omega) (by decide) (by decide) fun d2 hd2=>?_)
 refine Opq.mk (aq5 hd2 ?_)
 refine Kh ?_
 refine Opq.mk (O7 (b:=true) rfl rfl rfl (by decide+kernel) ?_)
 exact k
variable {Q:D->Int->Prop}{E:XP}{i:Int}
abbrev xV:PC->Int->Prop:=ahW (fun d _=>d=.bl true) NoX
def iI:List Sp:=(cq 12).map fun n:Nat=>(0+(n:Int),(6,some n))
def adl:List Sp:=aci iI 10 (6,some 11)
def Um:List Sp:=aci iI 11 (6,some 9)
def acF:List Sp:=[(0,(4,none)),(11,(9,some 0))]
theorem asZ:UpK fS iI:=by unfold UpK;decide+kernel
theorem azh:UpK fS adl:=by unfold UpK;decide+kernel
theorem ayd:UpK fS Um:=by unfold UpK;decide+kernel
theorem ayc:UpK fS acF:=by unfold UpK;decide+kernel
theorem au8:∀x∈iI,x.2∈jE:=by decide+kernel
theorem h_w:HOk fS vS iI:=⟨⟨.inr ⟨cq 12,12,by decide+kernel,by decide+kernel⟩⟩,asZ,by decide+kernel,by decide+kernel,au8⟩
theorem h_t:HOk fS vS Um:=⟨⟨.inr ⟨[0,1,2,3,4,5,6,7,8,9,10,9],11,by decide+kernel,by decide+kernel⟩⟩,ayd,by decide+kernel,by decide+kernel,by decide+kernel⟩
theorem h_f:HOk fS vS acF:=⟨⟨.inr ⟨[0],1,by decide+kernel,by decide+kernel⟩⟩,ayc,by decide+kernel,by decide+kernel,by decide+kernel⟩
theorem h_0:HOk fS vS ([]:List Sp):=⟨⟨.inl fun m hm=>(nomatch hm)⟩,.nil,by decide,fun x hx=>(nomatch hx),fun x hx=>(nomatch hx)⟩
theorem afB:iI.length=12:=by decide+kernel
theorem aoD:((cq 12).map fun n:Nat=>D.int (0+(n:Int)))=iI.map fun x=>D.int (fS x):=by unfold iI;rw[bp];rfl
theorem ajf{Q:PV->Int->Prop}:zL [.ow (.lst ((cq 12).map fun n:Nat=>D.tup [.int (0+(n:Int)),.str ("stop a "++iT (0+(n:Int)))]))] i Q E=Q (.ow (.dic (rS iI))) i:=by kernel_rfl
abbrev rE(ns:List Int)(a b c w m x y z:Option PV):aH:=[some (.fr (.scr ns)),some .pen,a,b,c,w,m,x,y,z,none]
variable {ns:List Int}{a b c:Option PV}
theorem l10{M X Y L:Option PV}{Z:Str}:aao (rE ns a b c L M X Y (some (.fr (fu "z2" fS vS acF Z)))) i xV:=by
 refine Opq.mk (O7 (b:=true) rfl rfl rfl (by kernel_rfl) ?_)
 refine Opq.mk (told ayc h_f.oc (by decide) ?_)
 refine Opq.mk (O7 (b:=true) rfl rfl rfl (by kernel_rfl) ?_)
 rfl
theorem l9{M X Y L:Option PV}{Z:Str}:aeK (rE ns a b c L M X Y (some (.fr (fu "z2" fS vS acF Z)))) i xV:=by
 refine Opq.mk (rK (by decide+kernel) h_0 (c0 []) (.inl rfl) fun _=>?_)
 refine Opq.mk (zK (b:=true) rfl rfl rfl (by kernel_rfl) ?_)
 refine Opq.mk (rK (by decide+kernel) h_0 (c0 []) (.inl rfl) fun hZ=>?_)
 refine Opq.mk (Qp (z:=Ao "a0" fS vS []) rfl rfl (fun C E hC=>Qo hZ.len hC) ?_)
 refine Opq.mk (QW (by decide+kernel) ?_)
 exact Opq.mk l10
theorem l8{M X Y L Z:Option PV}:aeJ (rE ns a b c L M X Y Z) i xV:=by
 refine Opq.mk (rK (l:=acF) (l0:=acF.reverse) (by decide+kernel) h_f (k9 _) (.inl ?_) fun hZ=>?_)
 ·show PV.fr (.dic [(.int 11,.str "stop abcdefgh 0"),(.int 0,.str "out 11")])=.fr (.dic [(.int 11,.str (txt (9,some 0))),(.int 0,.str (txt (4,none)))])
  rw[show txt (9,some 0)="stop abcdefgh 0" from by decide+kernel];rfl
 exact Opq.mk l9
theorem l7{M X L:Option PV}:aeI (rE ns a b c L M X (some (.fr (.dic (rS Um)))) none) i xV:=by
 refine Opq.mk (rG ?_)
 refine Opq.mk (rK (by decide+kernel) h_t (c0 _) (.inl rfl) fun _=>?_)
 refine Opq.mk (Wc (x:=(11,(6,some 9))) ayd (by decide+kernel) ?_)
 refine Opq.mk (zK (b:=true) rfl rfl rfl (by kernel_rfl) ?_)
 exact Opq.mk l8
theorem l6{M L:Option PV}:aeH (rE ns a b c L M (some (.fr (.dic (rS adl)))) (some (.fr (.dic (rS Um)))) none) i xV:=by
 refine Opq.mk (rG ?_)
 refine Opq.mk (aap (by decide+kernel) azh (by decide+kernel) (by decide+kernel) (by decide+kernel) ⟨.inr ⟨[0,1,2,3,4,5,6,7,8,9,11,11],by decide+kernel,by decide+kernel⟩⟩ ?_)
 refine Kh ?_
 refine Opq.mk (zK (b:=true) rfl rfl rfl (by kernel_rfl) ?_)
 exact Opq.mk l7
theorem l5{L:Str}(hL:L.length<=1000)(eL:L=Ao "z1" fS vS iI):aeG (rE ns a b c (some (.fr (.dic (rS iI)))) (some (.fr (fu "z1" fS vS iI L))) (some (.fr (.dic (rS adl)))) (some (.fr (.dic (rS Um)))) none) i xV:=by
 refine Opq.mk (Qp (z:=L) rfl rfl (fun C E hC=>Qo hL hC) ?_)
 refine Opq.mk (K6 (n:=12) (fun K hK=>hK) (by omega) ?_)
 rw[aoD]
 refine Opq.mk (Ab (l:=iI) (g:=fun x=>D.int (fS x)) (f:=fun x:Sp=>.str (iT (fS x)++" "++txt (vS x))) (by rw[afB];omega) ?_ ?_)
 ·intro x hx K hK
  obtain⟨h1,h2⟩:0<=fS x/\fS x<=11:=h_w.rng x hx
  have g1:=(ako h1 h2).1
  have g2:(txt (vS x)).length<=16:=Wo _ (au8 x hx)
  have l1:Str.length " "=1:=by decide+kernel
  refine Opq.mk (str_int (small h1 (by omega)) ?_)
  refine lV (sl_le (by show(iT (fS x)).length+_<=_;omega)) ?_
  refine Opq.mk (mJ rfl aM (cM asZ hx) ?_)
  refine lV (sl_le (by rw[JT];show(iT (fS x)).length+_+(txt (vS x)).length<=_;omega)) ?_
  exact hK
 have ll:(uN iI).length=12:=by unfold uN;rw[ar,afB]
 refine Opq.mk (QJ (ys:=uN iI) (.inr rfl) (JL _ _) (by decide+kernel) ?_)
 have hJ:(Txt.join ", " (uN iI)).length<=1000:=by decide+kernel
 rw[ahM,if_neg (by decide+kernel)]at eL
 generalize Txt.join ", " (uN iI)=J at hJ eL ⊢
 refine lV (sl_le (by show Str.length "z1: "+J.length<=_;rw[show Str.length "z1: "=4 from by decide+kernel];omega)) ?_
 refine Opq.mk (QW (by rw[eL,show("z1":Str)++": "="z1: " from by decide+kernel]) ?_)
 exact Opq.mk l6
theorem l4{L:Str}(hL:L.length<=1000)(eL:L=Ao "z1" fS vS iI):Xo (rE ns a b c (some (.fr (.dic (rS iI)))) (some (.fr (fu "z1" fS vS iI L))) (some (.ow (.dic (rS adl)))) (some (.ow (.dic (rS Um)))) none) i xV:=by
 refine Opq.mk (K6 (n:=12) (fun K hK=>hK) (by omega) ?_)
 rw[aoD]
 refine Opq.mk (Ab (l:=iI) (g:=fun x=>D.int (fS x)) (f:=fun x:Sp=>.str (txt (vS x))) (by rw[afB];omega) ?_ ?_)
 ·intro x hx K hK
  exact Opq.mk (Wc asZ hx hK)
 refine Opq.mk (K6 (n:=12) (fun K hK=>hK) (by omega) ?_)
 rw[aoD]
 refine Opq.mk (Ab (l:=iI) (g:=fun x=>D.int (fS x)) (f:=fun x:Sp=>.str (txt (vS x))) (by rw[afB];omega) ?_ ?_)
 ·intro x hx K hK
  exact Opq.mk (mJ rfl aM (cM asZ hx) hK)
 have cS:Cl 2 (.lst (iI.map fun x=>D.str (txt (vS x)))):=.lst fun y hy=>by
  obtain⟨x,hx,rfl⟩:=aw.mp hy;exact .str (aie (Pn.of (asL _ (au8 x hx))))
 refine Opq.mk (zK (b:=true) rfl rfl rfl (by rw[cS.eqP cS (by omega),acE rfl]) ?_)
 exact Opq.mk (l5 hL eL)
theorem l3{L:Str}(hL:L.length<=1000)(eL:L=Ao "z1" fS vS iI):aeF (rE ns a b c (some (.fr (.dic (rS iI)))) (some (.fr (fu "z1" fS vS iI L))) (some (.ow (.dic (rS iI)))) (some (.ow (.dic (rS iI)))) none) i xV:=by
 have lw:(rS iI).length<sizeLine:=by rw[show(rS iI).length=iI.length from BR,afB];unfold sizeLine;omega
 have e10:=acd (U:=iI) (s:=10) (o:=(6,some 11)) (by decide+kernel)
 have e11:=acd (U:=iI) (s:=11) (o:=(6,some 9)) (by decide+kernel)
 rw[show txt (6,some 11)="stop a 11" from by decide+kernel]at e10
 rw[show txt (6,some 9)="stop a 9" from by decide+kernel]at e11
 refine(show Opq (Xo (rE ns a b c (some (.fr (.dic (rS iI)))) (some (.fr (fu "z1" fS vS iI L))) (some (.ow (.dic (pA (rS iI) (.int 10) (.inl 10) (.str "stop a 11"))))) (some (.ow (.dic (pA (rS iI) (.int 11) (.inl 11) (.str "stop a 9"))))) none) i xV) from ?_)
 rw[e10,e11]
 exact Opq.mk (l4 hL eL)
theorem l2:aeE (rE ns a b c (some (.fr (.dic (rS iI)))) none none none none) i xV:=by
 refine Opq.mk (rK (by decide+kernel) h_w (c0 _) (.inl rfl) fun hL=>?_)
 have hL:=hL.len
 generalize eL:Ao "z1" fS vS iI=L at hL ⊢
 refine Opq.mk (afe rfl ?_)
 refine Opq.mk (afe rfl ?_)
 exact Opq.mk (l3 hL eL.symm)
variable {Q:D->Int->Prop}{E:XP}{i:Int}{ns:List Int}
theorem turn{n:Nat}{b c:Option PV}{K:PC->Int->Prop}(hi:0<=i/\i<700000)(k:∀b c j,i<=j->j<=i+30->K (.nx (rE ns (some (.fr (.int (0+(n:Int))))) b c none none none none none)) j):Qg (rE ns (some (.fr (.int (0+(n:Int))))) b c none none none none none) i K:=by
 refine Opq.mk (alR (i:=i) ⟨hi.1,by omega⟩ fun p T j hp hb0 hT hn h5 j1 j2=>?_)
 refine Opq.mk (aiZ (i:=j) ⟨by omega,by omega⟩ hp hT hn ?_)
 refine Opq.mk (aiY hp hb0 hT hn h5 ?_)
 refine Opq.mk (adQ (i:=j+1) ⟨by omega,by omega⟩ ?_)
 exact k _ _ _ (by omega) (by omega)
theorem ai3:∀ns:List Int,agZ (startP 11 [.fr (.scr ns),.pen]) 0 (ahW (fun d _=>d=.bl true) NoX):=by
  intro ns
  have key:∀(m:List Nat)(a b c:Option PV)(i:Int)(K:PC->Int->Prop),0<=i->i+30*m.length<=600000->(∀a b c j,K (.nx (rE ns a b c none none none none none)) j)->
      qY (tN 2) Qg (m.map fun n:Nat=>D.int (0+(n:Int))) (rE ns a b c none none none none none) i K:=by
    intro m
    induction m with
    |nil=>intro a b c i K _ _ k;exact k _ _ _ _
    |cons n m ih=>
     intro a b c i K h0 h1 k
     rw[ai]at h1
     rw[ax,Qv]
     refine(show Qg (rE ns (some (.fr (.int (0+(n:Int))))) b c none none none none none) i _ from turn ⟨h0,by omega⟩ fun b c j j1 j2=>?_)
     exact ih _ b c j K (by omega) (by omega) k
  refine(show Opq (GD (aC (pC (.int 8)) bh) (rE ns none none none none none none none none) 0 _ _) from ?_)
  refine Opq.mk (K6 (n:=8) (fun K hK=>hK) (by omega) ?_)
  refine Opq.mk (key (cq 8) none none none 0 _ (by omega) (by decide) fun a b c j=>?_)
  refine Opq.mk (K6 (n:=12) (fun K hK=>hK) (by omega) ?_)
  refine Opq.mk (Ab (l:=cq 12) (g:=fun n:Nat=>D.int (0+(n:Int))) (f:=fun n:Nat=>D.tup [.int (0+(n:Int)),.str ("stop a "++iT (0+(n:Int)))]) (by rw[eD];omega) ?_ ?_)
  · intro n hn K hK
    have hn:=List.mem_range.mp hn
    have g1:=(ako (e:=0+(n:Int)) (by omega) (by omega)).1
    refine Opq.mk (str_int (small (by omega) (by omega)) ?_)
    refine lV (sl_le (by rw[show Str.length "stop a "=7 from by decide+kernel];omega)) ?_
    exact hK
  refine Opq.mk ?_
  rw[ajf]
  exact Opq.mk l2
theorem good:∀ns:List Int,ns.length<=63->(∀z∈ns,Builtin.Int.intBits z<=1048576)->∃S',afD [.scr ns] [.tab "_law_right",.tab "_law_refused_right",.tab "law"]=.ok (.bl true) S':=apO ai3
end L52
set_option maxHeartbeats 4000000
open PySem PySem.W PyProof.Rows
set_option maxRecDepth 100000 in
set_option maxHeartbeats 0 in
theorem PySem.Challenge.cw_marklessways_k52_hangs_told_and_refused_holds : PySem.Challenge.rw_marklessways_k52_hangs_told_and_refused.Holds := by
 w_on;o_law
 refine HandSHeadRun.head_any (r:=OpenLaw.row PySem.Challenge.rw_marklessways_k52_hangs_told_and_refused) (q:=view (OpenLaw.row PySem.Challenge.rw_marklessways_k52_hangs_told_and_refused).prog [31]) (H:=L52.hk) (ob:=L52.ob) (M:=12000) (loose:=L52.loose) (d:=HandSHeadRun.topDef (OpenLaw.row PySem.Challenge.rw_marklessways_k52_hangs_told_and_refused).prog 31) (kwd:=[]) L52.awe
  (by kernel_rfl) (fun s=>by kernel_rfl) L52.run (by kernel_rfl) (by kernel_rfl) (by kernel_rfl) (by rfl) (by first|assumption|decide+kernel) (by decide+kernel) ⟨rfl,rfl,rfl,rfl,rfl,by decide+kernel⟩ ?hw ?hc
 case hw=>w_witness2
 case hc=>
  refine MW.alP (l:=PySem.Challenge.rw_marklessways_k52_hangs_told_and_refused) (k:=10) (x:="_law_script") (m:=L52.afD) (S0:=[.tab "_law_right",.tab "_law_refused_right",.tab "law"]) rfl (by decide) (by kernel_rfl) ⟨rfl,by decide,by decide⟩ ?F L52.good
  intro w mg fa h Y G ayp
  obtain⟨K,KX,c⟩:=Y
  have hmg:mg ("law":PySem.Str)=some (.ref fa):=by
   have e:(HandSHeadRun.topDef (OpenLaw.row PySem.Challenge.rw_marklessways_k52_hangs_told_and_refused).prog 31).name=("law":PySem.Str):=by kernel_rfl
   rw[<-e]
   exact ayp
  obtain⟨ts,e1,e2,e3⟩:=L52.alq (P:=(PySem.Challenge.rw_marklessways_k52_hangs_told_and_refused).prog) (w:=w) KX G c hmg
  exact⟨K,ts,e1,KX,e2,e3⟩
#print axioms PySem.Challenge.cw_marklessways_k52_hangs_told_and_refused_holds
