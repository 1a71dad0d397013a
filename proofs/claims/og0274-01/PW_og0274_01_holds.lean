import PyProof.Rows.All
import Wide.All
import OpenK.AllK
import Wide.FinOn
import KE.KNestM
import Lean
import PySem.Challenge.RW_og0274_01
set_option maxRecDepth 100000
set_option Elab.async false
set_option linter.all false
set_option bootstrap.genMatcherCode false
set_option compiler.extract_closed false
set_option genSizeOf false
set_option genInjectivity false
set_option genCtorIdx false
set_option backward.match.sparseCases false
set_option tactic.hygienic false
set_option autoImplicit true
namespace Mine.Internal
open Option renaming some -> Sn, casesOn -> Tr, map_eq_some_iff -> TX, isSome_iff_exists -> Ug, map -> UA, isNone_iff_eq_none -> UN, bind_eq_some_iff -> Vt, ite_none_right_eq_some -> V8, bind_some -> Wm, isSome -> Wy
open Bool renaming true -> Sp, false -> Su, and_eq_true_iff -> Sz, casesOn -> SX, false_ne_true -> Tw, or_eq_true_iff -> TZ, and_eq_true -> T3, eq_iff_iff -> Vl, not_eq_true' -> Vm, and_true -> Xd, and_eq_false_iff -> Xq, or_eq_false_iff -> Xw, and_false -> XF, bne_false -> XG, bne_true -> X1, false_or -> X5, not_eq_true -> Yv
open Nat renaming le_trans -> Sq, lt_of_lt_of_le -> SA, succ_le_succ -> SE, add_le_add_left -> SF, le_add_right -> SH, le_refl -> SJ, ne_of_lt -> SQ, le_of_ble_eq_true -> S2, zero_le -> S6, lt_of_le_of_lt -> S8, lt_succ_self -> Td, le_of_eq -> To, le_of_lt -> Tu, le_succ -> Tx, ne_of_gt -> TB, le_add_left -> TC, add_comm -> TH, add_assoc -> TK, mul_le_mul_left -> TM, not_lt -> TN, lt_trans -> TP, add_le_add_right -> TU, lt_add_of_pos_right -> TY, succ_add_eq_add_succ -> T1, succ_pos -> T9, zero_add -> Ud, add_sub_cancel_left -> Uj, lt_succ_of_lt -> Um, add_right_comm -> Un, add_le_add -> Up, ble_eq_true_of_le -> Us, sub_self -> Uw, le_of_succ_le -> UB, le_succ_of_le -> UJ, ble -> UT, beq -> U', add_lt_add_left -> Vw, add_sub_cancel -> VF, lt_irrefl -> VI, add_sub_cancel' -> VU, le_antisymm -> V0, le_of_lt_succ -> V9, mod_eq_of_lt -> Wp, min_le_left -> WI, mul_succ -> WR, lt_succ_of_le -> W7, le_of_succ_le_succ -> Xa, min_le_right -> Xh, succ_lt_succ -> Xj, succ_ne_zero -> Yw, lt_or_ge -> YA
open List renaming length_append -> Sr, append_assoc -> Ss, length_map -> Sx, casesOn -> SD, replicate -> SI, getElem?_append_left -> SM, all_eq_true -> SN, getElem?_eq_some_iff -> SO, mem_singleton -> SP, length_set -> SS, append_nil -> SY, getElem?_eq_getElem -> S0, map_append -> Ta, range -> Te, mem_of_getElem? -> Th, getElem?_set_ne -> Ti, mem_append -> Tn, map_map -> Tp, mem_cons -> Tq, getElem?_append_right -> Ts, mem_map_of_mem -> Tv, map_cons -> Tz, prefix_append -> TJ, length_cons -> TS, lookup_cons -> T2, size_toArray -> T4, length_range -> T6, set_append_left -> Ue, length_replicate -> Uh, getElem?_toArray -> Uq, getElem?_map -> Ut, contains_cons -> Ux, flatMap_cons -> Uz, mem_range -> UD, nodup_cons -> UG, map_congr_left -> UM, getElem?_take_of_lt -> UP, mem_filterMap -> UR, length -> US, nodup_nil -> UY, getElem_of_mem -> U3, filterMap_cons -> U5, length_take -> U8, length_filter_le -> Vb, pairwise_cons -> Vc, contains_iff_mem -> Vd, mem_append_right -> Ve, all_eq_false -> Vn, getElem?_cons_succ -> Vp, getElem?_set_self' -> Vq, getElem?_replicate -> Vs, prefix_refl -> VA, set_set -> VG, contains_eq_any_beq -> VM, take_length -> VP, any_cons -> VX, getElem?_drop -> V3, length_eq_one_iff -> V6, map_nil -> Wb, cons_lt_cons_iff -> We, any_eq_true -> Wq, mem_of_mem_take -> Wu, mem_of_mem_drop -> Wv, mem_of_find?_eq_some -> WG, toArray -> WS, zip_cons_cons -> WV, take_left -> W0, length_eq_zero_iff -> W1, nodup_append -> W4, map_id -> W8, range_succ_eq_map -> W9, all_cons -> Xc, getElem_inj -> Xg, length_drop -> Xi, mem_map -> Xr, find?_cons -> Xu, forIn_cons -> Xv, mem_filter -> Xz, eq_nil_of_length_eq_zero -> XB, find?_map -> XH, map -> XN, map_take -> X3, isPrefixOf_iff_prefix -> X4, getElem?_nil -> X9, flatten_cons -> X', map_inj_left -> Yb, getElem?_eq_none_iff -> Yc, mem_toArray -> Yl, mem_reverse -> Yu, filter_cons -> Yy, flatMap_nil -> Yz, isEmpty_iff -> YB, nil_prefix -> YF, foldl_cons -> YG, find?_some -> YH, filter_map -> YI, range' -> YN, drop_drop -> YR, mapM_cons -> YT
open Option.some renaming inj -> Sv
open PySem renaming wpAny_bind -> Sw, wpAny_pure -> SU, Value -> SV, Addr -> S7, wpAny_of_eq -> Tc, Shared -> Tf, wpAny -> Tg, model -> Tt, builtinLookup_eq_fast -> TG, sizeLine_eq -> TO, Expr -> TQ, Str -> TR, Heap -> TV, typeLookup_type -> T5, wpAny_field -> Ua, Scope -> Ub, wpAny_holding -> Ui, call -> Uv, wpAny_call_entry -> Uy, wpAny_truthy_bool -> UK, isSubtype_type -> UX, wpAny_newObj_type -> UZ, foldedSetIterable -> U0, wpAny_specialOf -> U2, KeyKind -> U7, mainGlobals -> Vf, Around -> Vj, isTrue -> Vk, Stmt -> Vo, wpAny_callSpecial?_slot -> Vr, rawInt -> Vu, starEach -> Vx, sizeLine -> Vy, entryFor -> VB, wpAny_setField -> VD, behindInMarks -> VH, wpAny_loadName_local -> VJ, wpAny_newFunctionEnv -> VL, entryFor_of_tree -> VO, pyIter -> VQ, newFunctionEnv -> Wd, Arguments -> Wf, compareOp -> Wh, IsL -> Wi, codeAmong -> Wj, builtinsNs -> Wl, wpAny_Name -> Wo, typeLookup -> Wr, wpAny_mono -> Wt, wpAny_load -> Ww, clipAt -> Wz, stored -> WA, assign -> WB, table -> WE, backTo -> WM, callWith -> WN, IsT -> WO, sysModules -> WZ, argsOk -> W', DictEntry -> Xl, valueAt -> Xn, cellsFrom -> Xp, wpAny_rule -> Xs, wpAny_letTemporaryGo -> Xt, closureFor -> Xy, wpAny_loadName_free -> XC, wpAny_isSubtype_exc -> XD, wpAny_seqItems -> XI, methodCallForm -> XK, wpAny_loadPart -> XM, truthy -> XT, wpAny_Constant_int -> XU, wpAny_pyIter_tuple -> XY, wpAny_standAt -> XZ, assignInOrder -> X6, slot_list_getitem -> Ya, codeAny -> Ye, standAt -> Yf, spliced -> Yg, relabel -> Yh, FuncData -> Yi, bootBuiltins -> Yj, wpAny_isInstance -> Ym, wpAny_lookBehind -> Yn, wpAny_askSetting -> Yt
open LawfulBEq renaming eq_of_beq -> SG
open PySem.Heap renaming get?_push_of_some -> SK, get?_none_of_le -> Tj, get?_update_other -> TL, lt_size -> Uk, get?_update_self -> Ur, SameBut -> UH, get?_push_size -> U4, ExtBut -> V7, size_push -> XO
open Decidable renaming decide -> SW
open False renaming elim -> S9
open Int renaming natCast_nonneg -> TA, ofNat_le -> T7, ofNat_lt -> Ul, toNat_natCast -> UL, le_trans -> UO, toNat_of_nonneg -> Vv, lt_of_le_of_lt -> V1, not_lt -> V4, lt_of_lt_of_le -> XW, le_of_add_le_add_right -> X2, sub_zero -> Yo, min_self -> Yp
open Pure renaming pure -> T8
open PySem.W renaming typeIs_bytes -> Uc, kitOne -> Vg, findIn -> Vh, instObj -> Vz, dictOf -> VN, Looks -> V', emptyDict -> Wk, Frag -> WC, hasDictIn -> WJ, boot_heap -> Xk, bytesKind -> Xm, looks_findIn -> XA, takerIn -> Yd, putName_dict -> Ys
open PySem.Expr renaming casesOn -> Uo
open List.cons renaming inj -> Uu
open Ne renaming symm -> UC
open PySem.W.FB renaming slot_bytes_getitem -> UE, args_bytes_getitem_2 -> VW, entry_bytes_getitem -> V5
open Array renaming getElem?_setIfInBounds_self_of_lt -> UI, getElem?_setIfInBounds_ne -> VV, append_assoc -> XX
open PySem.Obj renaming mapBytearray -> UQ, data_mapFields -> WU
open PySem.Challenge renaming rw_og0274_01 -> UU, pw_og0274_01 -> XE
open Eq renaming symm -> UW
open Nat.succ renaming inj -> U6
open PySem.F renaming slot_tuple_iterator_next -> U9, args_tuple_iterator_next_1 -> W5, entry_tuple_iterator_next -> Xb, slot_dict_setdefault -> XJ, slot_list_append -> Yq, slot_list_extend -> Yr, plainAttrs_list -> YC, plainAttrs_dict -> YD
open PySem.PyData renaming keyHash -> Va
open PySem.Builtin.Bytes renaming decodersThatHold -> Vi, window -> Wa, exported -> YL, find? -> YM, order -> YO
open PySem.Sem renaming wp_mono -> VE
open PySem.Builtin.SmallTypes renaming nextOf -> VK
open PySem.Value renaming casesOn -> VS, ref -> Wg, builtin -> X8, type -> YV
open PySem.Builtin.Bytes.joinM renaming match_1 -> VT
open PyProof.Rows renaming subscriptTail -> VY
open Int.ofNat renaming inj -> VZ
open PySem.Heap.IsSliceOf renaming new -> V2
open PySem.W.Looks renaming ld -> Wx
open PySem.Heap.SameBut renaming update -> WD
open PySem.W.KBw renaming IsBytesIter -> WH, iter_typeIs -> Xx, slot_next -> X7
open Prod renaming fst -> WK
open UInt8 renaming toNat_ofNat' -> WQ
open PySem.Code renaming quiet_builtin -> WT
open PySem.W.Fast renaming tw10156331382660048174 -> WW, tw11892475500146522536 -> WX, tw14364793385576792824 -> WY, tw6613529449190102663 -> W2
open PySem.Keeper renaming boundFrame -> W6, machine -> XQ, frame -> Yx
open PySem.W.KBy renaming buffer_eq -> Xe, special_eq -> YQ
open PySem.NameKind renaming free -> Xf
open Std.Legacy.Range renaming size -> Xo
open PySem.Data renaming casesOn -> XR
open PySem.Builtin.List renaming listFitsIndex -> X0, listTooLong -> Yk
open PySem.Builtin.Range renaming rangeSize -> YE
open PySem.W.WShape renaming hasItems -> YJ
open PySem.W.WTm renaming value -> YK
open Prod.mk renaming inj -> YP
open PUnit renaming unit -> YU
section
open PySem
def tR:Lean.Syntax:=.node .none `Lean.Parser.Tactic.tacticSeq #[.node .none `Lean.Parser.Tactic.tacticSeq1Indented #[.node .none `null #[.node .none `Lean.Parser.Tactic.tacticRfl #[.atom .none "rfl"]]]]
def tD:Lean.Syntax:=.node .none `Lean.Parser.Tactic.tacticSeq #[.node .none `Lean.Parser.Tactic.tacticSeq1Indented #[.node .none `null #[.node .none `Lean.Parser.Tactic.decide #[.atom .none "decide",.node .none `Lean.Parser.Tactic.optConfig #[.node .none `null #[]]]]]]
def aQ {P:Prop} (h:∀G:Prop,(P->G)->G):P:=h P id
@[elab_as_elim] theorem aa {P:q->Prop} (p:P b) (h:a=b):P a:=h▸p
@[elab_as_elim] theorem aS {P:q->r->Prop} (p:P b d) (e:c=d) (h:a=b):P a c:=h▸e▸p
@[elab_as_elim] theorem pL {P:q->r->s->Prop} (p:P b d f) (g:e=f) (i:c=d) (h:a=b):P a c e:=h▸i▸g▸p
@[elab_as_elim] theorem aT {P:q->Prop} (p:P a) (h:a=b):P b:=h▸p
def mG (h:a+k*(d+1)<=L) (e:m<=k):a+m+k*d<=L:=Sq (Sq (To (TK a m _)) (SF (Sq (To (TH m _)) (SF e _)) a)) h
def uA {M:Nat} (h:a+b+c<=L) (e:L<M):a<M:=S8 (Sq (SH _ _) (Sq (SH _ _) h)) e
def aG {P:Prop} (h:(none:Option q)=Sn b):P:=by cases h
def bv {P:Prop} (h:Su=Sp):P:=absurd h (by decide)
def rW.c {f:q->z} {g:z->q} (h:∀a,g (f a)=a) (e:f a=f b):a=b:=(h a).symm.trans ((congrArg g e).trans (h b))
noncomputable abbrev rW {α β:Type} [DecidableEq β] (f:α->β) (g:β->α) (h:∀a,g (f a)=a):DecidableEq α:=λa b=>if e:f a=f b then isTrue (rW.c h e)else isFalse λq=>e (congrArg f q)
inductive V where
 |az
 |aq (b:Bool)
 |ae (i:Int)
 |ag (l:List Nat)
 |bx (k:Nat)
 |ab (i:Nat)
 |bW (a:Nat)
noncomputable instance:Inhabited V:=⟨.az⟩
noncomputable def V.ctorIdx (v:V):Nat:=V.casesOn v 0 (λ_=>1) (λ_=>2) (λ_=>3) (λ_=>4) (λ_=>5) (λ_=>6)
noncomputable abbrev V.ij (v:V):Nat×Int×List Nat:=V.casesOn v (0,0,[]) (λb=>(1,b.toNat,[])) (λi=>(2,i,[])) (λl=>(3,0,l)) (λk=>(4,k,[])) (λk=>(5,k,[])) (λk=>(6,k,[]))
noncomputable abbrev V.B (e:Nat×Int×List Nat):V:=[V.az,.aq (U' 1 e.2.1.toNat),.ae e.2.1,.ag e.2.2,.bx e.2.1.toNat,.ab e.2.1.toNat,.bW e.2.1.toNat].getD e.1 .az
noncomputable instance:DecidableEq V:=rW V.ij V.B λa=>V.casesOn (motive:=λa=>V.B (V.ij a)=a) a rfl (λb=>SX (motive:=λb=>V.B (V.ij (.aq b))=.aq b) b rfl rfl) (λ_=>rfl) (λ_=>rfl) (λ_=>rfl) (λ_=>rfl) (λ_=>rfl)
inductive O where
 |ah (xs:List V)
 |aX (xs:List V)
 |aE (es:List (V×V))
 |bE (l:List Nat)
 |a8 (c d:Nat)
 |aL (fs:List (Nat×V))
 |a9 (v:Option V)
 |cq (k:Nat) (cs:List Nat)
noncomputable instance:Inhabited O:=⟨.ah []⟩
noncomputable def O.ctorIdx (o:O):Nat:=O.casesOn o (λ_=>0) (λ_=>1) (λ_=>2) (λ_=>3) (λ_ _=>4) (λ_=>5) (λ_=>6) (λ_ _=>7)
noncomputable abbrev O.ij (o:O):Nat×List V×List (V×V)×List (Nat×V)×Option V×List Nat:=O.casesOn o (λx=>(0,x,[],[],.none,[])) (λx=>(1,x,[],[],.none,[])) (λx=>(2,[],x,[],.none,[])) (λx=>(3,[],[],[],.none,x)) (λx y=>(4,[],[],[],.none,[x,y])) (λx=>(5,[],[],x,.none,[])) (λx=>(6,[],[],[],x,[])) (λx y=>(7,[],[],[],.none,x::y))
noncomputable abbrev O.B (e:Nat×List V×List (V×V)×List (Nat×V)×Option V×List Nat):O:=[O.ah e.2.1,.aX e.2.1,.aE e.2.2.1,.bE e.2.2.2.2.2,.a8 (e.2.2.2.2.2.getD 0 0) (e.2.2.2.2.2.getD 1 0),.aL e.2.2.2.1,.a9 e.2.2.2.2.1,.cq (e.2.2.2.2.2.getD 0 0) e.2.2.2.2.2.tail].getD e.1 (.ah [])
set_option synthInstance.maxSize 1000 in
noncomputable instance:DecidableEq O:=rW O.ij O.B λa=>by induction a using O.casesOn<;>rfl
def V.ag.inj (h:V.ag a=.ag b):a=b:=congrArg (λv:V=>match v with| .ag l=>l|_=>a) h
def O.aE.inj (h:O.aE a=.aE b):a=b:=congrArg (λv:O=>match v with| .aE l=>l|_=>a) h
def O.ah.inj (h:O.ah a=.ah b):a=b:=congrArg (λv:O=>match v with| .ah l=>l|_=>a) h
inductive D9 (u:Unit)where
 |bB|fS|ek|hW|iN|lA
noncomputable abbrev uB:=D9 ()
inductive D' (u:Unit)where
 |bp|bM|bX|bY|lB|lC|j0|hZ|d'|gh
noncomputable abbrev Cm:=D' ()
inductive Ea (u:Unit)where
 |em|bd|jg|n9|gS|ag|bE|ah|lD|mH
noncomputable abbrev U1:=Ea ()
inductive Eb (u:Unit)where
 |dN|h8|rX|lE|dg|lF|mI|rY
noncomputable abbrev BM:=Eb ()
inductive Ec (u:Unit)where
 |cN|gU|jh
noncomputable abbrev It:=Ec ()
mutual
inductive X where
 |ak
 |az
 |aq (b:Bool)
 |ae (i:Int)
 |ag (l:List Nat)
 |bx (k:Nat)
 |ad (i:Nat)
 |aW (i:Nat)
 |cr (v:V)
 |tr (a:X)
 |aV (o:uB) (a b:X)
 |ba (o:U1) (a:X)
 |and(a b:X)
 |or(a b:X)
 |aY (c a b:X)
 |aB (o:Cm) (a b:X)
 |eR (o p:Cm) (a b c:X)
 |bj (es:gv)
 |dO (es:gv)
 |gj (es:gv)
 |ay (a:X) (f:Nat)
 |aM (a b:X)
 |cT (a l u:X)
 |pM (a:X)
 |pN
 |bR (f:Nat) (es:gv)
 |cU (m:Nat) (a:X) (es:gv)
 |dw (c:Nat) (es:gv)
 |iv (a:X)
 |bK (m:BM) (a:X) (es:gv)
 |cq (k:Nat) (i_:List Nat)
 |mJ (a:X) (w:Nat)
 |dp (elt cond:X) (k:It) (src:X) (nl:Nat) (ts i_:List Nat)
inductive gv where
 |ao
 |ai (a:X) (r:gv)
end
inductive bZ where
 |ad (i:Nat)
 |aW (i:Nat)
 |ay (a:X) (f:Nat)
 |aM (a b:X)
inductive S where
 |ak
 |aw
 |am (a b:S)
 |aU (x:X)
 |a6 (t:bZ) (x:X)
 |en (ts:List bZ) (xs:gv)
 |mK (ts:List bZ) (x:X)
 |aY (c:X) (a b:S)
 |eG (k:It) (ts:List bZ) (src:X) (body:S)
 |iO (c:X) (body:S)
 |aO (x:X)
 |ib (x:X)
 |eu
 |dR
inductive R (α:Type)where
 |aj (v:α) (σ:List O)
 |bh (t:V) (σ:List O)
 |ak
noncomputable def R.ctorIdx {α:Type} (r:R α):Nat:=R.casesOn r (λ_ _=>0) (λ_ _=>1) 2
noncomputable def R.C {α β:Type} (r:R α) (k:α->List O->R β):R β:=match r with
 | .aj v σ=>k v σ
 | .bh t σ=>.bh t σ
 | .ak=>.ak
noncomputable abbrev bo:=List (Option V)
inductive bC where
 |aD (l:bo) (σ:List O)
 |eu (l:bo) (σ:List O)
 |dR (l:bo) (σ:List O)
 |aO (v:V) (σ:List O)
 |bh (t:V) (σ:List O)
 |ak
noncomputable def bC.C (r:bC) (k:bo->List O->bC):bC:=match r with
 | .aD l σ=>k l σ
 |r=>r
noncomputable def R.toS (r:R V) (k:V->List O->bC):bC:=match r with
 | .aj v σ=>k v σ
 | .bh t σ=>.bh t σ
 | .ak=>.ak
noncomputable abbrev dy:=Nat->List V->List O->R V
noncomputable abbrev Gl:=Nat->Option O
noncomputable def cR (n:Nat):Bool:=SW (n<=1048576)
noncomputable def lG (l:List Nat) (σ:List O):R V:=if cR l.length then .aj (.ag l) σ else .ak
noncomputable def dh (v:Option V) (σ:List O):R V:=match v with|some v=>.aj v σ|none=>.ak
noncomputable def ea (o:O) (σ:List O):R V:=.aj (.ab σ.length) (σ++[o])
noncomputable def dS (G:Gl) (σ:List O):V->Option O
 | .ab i=>σ[i]?
 | .bW a=>G a
 |_=>none
noncomputable def gV (k:Int) (n:Nat):Option Nat:=seqIndex? k n
noncomputable def oe (k:Int) (n:Nat):Nat:=PySem.clipAt n k
noncomputable def fB {α:Type} (l:List α) (lo hi:Nat):List α:=(l.take hi).drop lo
noncomputable def fC (f:V->V->Option Bool):List V->List V->Option Bool
 |[],[]=>Sn Sp
 |x::xs,y::ys=>(match f x y,fC f xs ys with
  |some a,Sn b=>Sn (a&&b)
  |_,_=>none)
 |_,_=>none
noncomputable def mL (f:V->V->Option Bool) (ys:List (V×V)):List (V×V)->Option Bool
 |[]=>Sn Sp
 |(k,v)::r=>(match ys.lookup k with
  |none=>Sn Su
  |some u=>(match f v u,mL f ys r with
   |some a,Sn b=>Sn (a&&b)
   |_,_=>none))
noncomputable def uC:V->Bool
 | .ag _=>Sp
 |_=>Su
noncomputable def eg (es:List (V×V)):Bool:=es.all λe=>uC e.1
noncomputable def kO (es:List (V×V)):Bool:=es.all λe=>match e.1 with| .ae _=>Sp|_=>Su
noncomputable def eJ (k:V) (es:List (V×V)):Bool:=match k with
 | .ag _=>eg es
 | .ae _=>kO es&&!es.isEmpty
 |_=>Su
noncomputable def dT (es:List (V×V)) (k v:V):List (V×V):=match es with
 |[]=>[(k,v)]
 |(a,b)::r=>if a=k then(a,v)::r else(a,b)::dT r k v
def rZ {a k v:_} {r:List (V×V)}:dT (a::r) k v=if a.1=k then(a.1,v)::r else a::dT r k v:=rfl
noncomputable def kP (fs:List (Nat×V)) (k:Nat) (v:V):List (Nat×V):=match fs with
 |[]=>[(k,v)]
 |(a,b)::r=>if a=k then(a,v)::r else(a,b)::kP r k v
def Ed {a k v:_} {r:List (Nat×V)}:kP (a::r) k v=if a.1=k then(a.1,v)::r else a::kP r k v:=rfl
noncomputable def uD (d:Bool) (σ:List O) (f:V->V->Option Bool) (i j:Nat):Option Bool:=if i=j then none else(match σ[i]?,σ[j]? with
 |some (.ah xs),Sn (.ah ys)=>if xs.length=ys.length then fC f xs ys else Sn Su
 |some (.aX xs),Sn (.aX ys)=>fC f xs ys
 |some (.aE xs),Sn (.aE ys)=>if d&&(eg xs&&eg ys)then(if xs.length=ys.length then mL f ys xs else Sn Su)else none
 |_,_=>none)
noncomputable def uE (d:Bool) (σ:List O) (f:V->V->Option Bool) (x y:V):Option Bool:=match x with
 | .az=>(match y with| .az=>Sn Sp|_=>none)
 | .aq a=>(match y with| .aq b=>Sn (a==b)|_=>none)
 | .ae a=>(match y with| .ae b=>Sn (a==b)|_=>none)
 | .ag a=>(match y with| .ag b=>Sn (a==b)|_=>none)
 | .bx a=>(match y with| .bx b=>Sn (a==b)|_=>none)
 | .ab i=>(match y with| .ab j=>uD d σ f i j|_=>none)
 | .bW _=>none
noncomputable def cV (σ:List O):Nat->V->V->Option Bool
 |0,_,_=>none
 |n+1,x,y=>uE Su σ (cV σ n) x y
noncomputable def r3 (σ:List O) (n:Nat) (x y:V):Option Bool:=uE Sp σ (cV σ n) x y
noncomputable def pO (a b:V) (f:Int->Int->R V):R V:=match a with
 | .ae a=>(match b with| .ae b=>f a b|_=>.ak)
 |_=>.ak
noncomputable def pP (a b:V) (f:Int->Int->Bool):Option Bool:=match a with
 | .ae a=>(match b with| .ae b=>Sn (f a b)|_=>none)
 |_=>none
noncomputable def ie (G:Gl) (o:uB) (a b:V) (σ:List O):R V:=match o with
 | .bB=>(match a with
  | .ae a=>(match b with| .ae b=>.aj (.ae (a+b)) σ|_=>.ak)
  | .ag a=>(match b with| .ag b=>lG (a++b) σ|_=>.ak)
  | .ab i=>(match b with
   | .ab j=>(match σ[i]?,σ[j]? with
    |some (.ah xs),Sn (.ah ys)=>if cR (xs.length+ys.length)then ea (.ah (xs++ys)) σ else .ak
    |_,_=>.ak)
   |_=>.ak)
  |_=>.ak)
 | .fS=>pO a b λa b=>.aj (.ae (a-b)) σ
 | .ek=>(match a with
  | .ae a=>(match b with| .ae b=>if a.natAbs<2^40&&b.natAbs<2^40 then .aj (.ae (a*b)) σ else .ak|_=>.ak)
  | .ab i=>(match b with
   | .ae n=>(match σ[i]? with
    |some (.ah [v])=>if 0<=n&&n<=200 then ea (.ah (SI n.toNat v)) σ else .ak
    |_=>.ak)
   |_=>.ak)
  |_=>.ak)
 | .hW=>pO a b λa b=>if b.natAbs<1073741824&&b !=0 then .aj (.ae (a.fdiv b)) σ else .ak
 | .iN=>pO a b λa b=>if b !=0 then .aj (.ae (a.fmod b)) σ else .ak
 | .lA=>pO a b λa b=>if a.natAbs<2^40&&SW (0<=b)&&SW (b<=1000)then .aj (.ae (a^b.toNat)) σ else .ak
noncomputable def ig:List V->Option (List (List Nat))
 |[]=>Sn []
 | .ag l::r=>(ig r).map (l::·)
 |_::_=>none
def Ee {l:List Nat} {r:List V}:ig (.ag l::r)=(ig r).map (l::·):=rfl
noncomputable def lH:List V->Option (List Int)
 |[]=>Sn []
 | .ae i::r=>(lH r).map (i::·)
 |_::_=>none
noncomputable def mM (x:V) (ys:List V):Option Bool:=match x with
 | .ae i=>(lH ys).map λl=>l.contains i
 | .ag b=>(ig ys).map λl=>l.contains b
 |_=>none
noncomputable def gw:Nat:=12
noncomputable def dY (G:Gl) (o:Cm) (a b:V) (σ:List O):Option Bool:=match o with
 | .bp=>r3 σ gw a b
 | .bM=>(r3 σ gw a b).map not
 | .bX=>pP a b λa b=>SW (a<b)
 | .bY=>pP a b λa b=>SW (a<=b)
 | .lB=>pP a b λa b=>SW (a>b)
 | .lC=>pP a b λa b=>SW (a≥b)
 | .j0=>(match b with| .az=>Sn (a==.az)|_=>none)
 | .hZ=>(match b with| .az=>Sn (a !=.az)|_=>none)
 | .d'=>F4 a b
 | .gh=>(F4 a b).map not
where
 F4 (a b:V):Option Bool:=match a,b with
  | .ae i,.ag l=>if 0<=i&&i<256 then Sn (l.any λc=>(c:Int)==i)else none
  |a,b=>match dS G σ b with
   |some (.aX xs)=>mM a xs
   |some (.aE es)=>if eJ a es then Sn (es.any λe=>e.1==a)else none
   |_=>none
noncomputable def og:List Nat->List Nat->Bool
 |_,[]=>Su
 |[],_::_=>Sp
 |a::x,b::y=>a<b||(a==b&&og x y)
def Ef {a b:Nat} {x y:List Nat}:og (a::x) (b::y)=(SW (a<b)||(a==b&&og x y)):=rfl
noncomputable def mN (x:List Nat):List (List Nat)->List (List Nat)
 |[]=>[x]
 |y::r=>if og y x then y::mN x r else x::y::r
def yj {x y:List Nat} {r:List (List Nat)}:mN x (y::r)=if og y x then y::mN x r else x::y::r:=rfl
noncomputable def kQ (l:List (List Nat)):List (List Nat):=l.foldr mN []
noncomputable def iw:List V->Option (List Nat)
 |[]=>Sn []
 | .ae i::r=>if 0<=i/\i<256 then(iw r).map (i.toNat::·)else none
 |_::_=>none
noncomputable def u1 (G:Gl) (o:U1) (a:V) (σ:List O):R V:=match o with
 | .em=>(match a with| .aq b=>.aj (.aq !b) σ|_=>.ak)
 | .bd=>(match a with
  | .ag l=>.aj (.ae l.length) σ
  |a=>match dS G σ a with
   |some (.ah xs)=>.aj (.ae xs.length) σ
   |some (.aX xs)=>.aj (.ae xs.length) σ
   |_=>.ak)
 | .jg=>(match a with
  | .ag _=>.aj (.aq Sp) σ
  | .az| .aq _| .ae _| .bx _=>.aj (.aq Su) σ
  | .ab i=>(match σ[i]? with
   |some (.a8 _ _)=>.aj (.aq Su) σ
   |_=>.ak)
  |_=>.ak)
 | .n9=>(match a with
  | .ae _=>.aj (.aq Sp) σ
  | .ab i=>(match σ[i]? with
   |some (.aX _)=>.aj (.aq Su) σ
   |_=>.ak)
  |_=>.ak)
 | .gS=>(match a with
  | .ag _=>.aj (.aq Su) σ
  | .ab i=>(match σ[i]? with
   |some (.a8 c _)=>.aj (.aq (c==1)) σ
   |_=>.ak)
  |_=>.ak)
 | .ag=>(match a with
  | .ab i=>(match σ[i]? with
   |some (.bE l)=>.aj (.ag l) σ
   |some (.ah xs)=>(match iw xs with|some l=>lG l σ|none=>.ak)
   |_=>.ak)
  |_=>.ak)
 | .bE=>(match a with| .ag l=>ea (.bE l) σ|_=>.ak)
 | .ah=>(match a with
  | .ab i=>(match σ[i]? with
   |some (.ah xs)=>ea (.ah xs) σ
   |_=>.ak)
  |_=>.ak)
 | .lD=>(match a with
  | .ab i=>(match σ[i]? with
   |some (.aE es)=>(match ig (es.map (·.1))with|some ls=>if ls.length<=8 then ea (.ah ((kQ ls).map .ag)) σ else .ak|none=>.ak)
   |_=>.ak)
  |_=>.ak)
 | .mH=>(match a with
  | .ab i=>(match σ[i]? with
   |some (.ah xs)=>(match lH xs with|some is=>if is.length<=1000&&is.all λi=>i.natAbs<2^400 then .aj (.ae is.sum) σ else .ak|none=>.ak)
   |_=>.ak)
  |_=>.ak)
noncomputable def jG (G:Gl) (a b:V) (σ:List O):R V:=match a,b with
 | .ag l,.ae k=>(match gV k l.length with|some i=>dh (l[i]?.map λ(c:Nat)=>.ae c) σ|none=>.ak)
 |a,b=>match dS G σ a with
  |some (.ah xs)=>(match b with| .ae k=>(match gV k xs.length with|some i=>dh xs[i]? σ|none=>.ak)|_=>.ak)
  |some (.aX xs)=>(match b with| .ae k=>(match gV k xs.length with|some i=>dh xs[i]? σ|none=>.ak)|_=>.ak)
  |some (.aE es)=>if eJ b es then dh (es.lookup b) σ else .ak
  |_=>.ak
noncomputable def ji (d:Nat) (n:Nat):V->Option Nat
 | .az=>Sn d
 | .ae k=>if k.natAbs<2^60 then Sn (oe k n)else none
 |_=>none
noncomputable def gx (a l u:V) (σ:List O):R V:=match a with
 | .ag b=>(match ji 0 b.length l,ji b.length b.length u with
  |some lo,Sn hi=>.aj (.ag (fB b lo hi)) σ
  |_,_=>.ak)
 | .ab i=>(match σ[i]? with
  |some (.ah xs)=>(match ji 0 xs.length l,ji xs.length xs.length u with
   |some lo,Sn hi=>ea (.ah (fB xs lo hi)) σ
   |_,_=>.ak)
  |_=>.ak)
 |_=>.ak
noncomputable def uF (a:V) (σ:List O):R V:=match a with
 | .ag b=>.aj (.ag b.reverse) σ
 |_=>.ak
noncomputable def mO (a:V) (f:Nat) (σ:List O):R V:=match a with
 | .ab i=>(match σ[i]? with
  |some (.a8 _ d)=>(match σ[d]? with
   |some (.aL fs)=>dh (fs.lookup f) σ
   |_=>.ak)
  |_=>.ak)
 |_=>.ak
noncomputable def pQ (a:V) (f:Nat) (v:V) (σ:List O):Option (List O):=match a with
 | .ab i=>(match σ[i]? with
  |some (.a8 _ d)=>(match σ[d]? with
   |some (.aL fs)=>if fs.length<=100 then Sn (σ.set d (.aL (kP fs f v)))else none
   |_=>none)
  |_=>none)
 |_=>none
noncomputable def oh (a b:V) (v:V) (σ:List O):Option (List O):=match a with
 | .ab i=>(match σ[i]? with
  |some (.ah xs)=>(match b with| .ae k=>if 0<=k&&k<xs.length then Sn (σ.set i (.ah (xs.set k.toNat v)))else none|_=>none)
  |some (.aE es)=>if eJ b es&&es.length<=1000 then Sn (σ.set i (.aE (dT es b v)))else none
  |_=>none)
 |_=>none
noncomputable def j1 (sub:List Nat):Nat->List Nat->Option Nat
 |k,[]=>if sub=[]then Sn k else none
 |k,c::r=>if sub.isPrefixOf (c::r)then Sn k else j1 sub (k+1) r
def Eg {s r:List Nat} {k c:Nat}:j1 s k (c::r)=if s.isPrefixOf (c::r)then Sn k else j1 s (k+1) r:=rfl
noncomputable def gy (l sub:List Nat) (start:Nat):Int:=match j1 sub start (l.drop start)with
 |some k=>if start<=l.length then k else-1
 |none=>-1
noncomputable def fp (sep:List Nat):List (List Nat)->List Nat
 |[]=>[]
 |[x]=>x
 |x::y::r=>x++sep++fp sep (y::r)
def Eh {s x y:List Nat} {r:List (List Nat)}:fp s (x::y::r)=x++s++fp s (y::r):=rfl
noncomputable def ei (G:Gl) (m:BM) (a:V) (vs:List V) (σ:List O):R V:=match m with
 | .dN=>(match a,vs with
  | .ab i,[v]=>(match σ[i]? with
   |some (.ah xs)=>if cR (xs.length+1)then .aj .az (σ.set i (.ah (xs++[v])))else .ak
   |some (.bE l)=>(match v with| .ae k=>if 0<=k&&k<256&&cR (l.length+1)then .aj .az (σ.set i (.bE (l++[k.toNat])))else .ak|_=>.ak)
   |_=>.ak)
  |_,_=>.ak)
 | .h8=>(match a,vs with
  | .ab i,[v]=>(match σ[i]? with
   |some (.ah xs)=>(match v with
    | .ab j=>(match σ[j]? with
     |some (.ah ys)=>if i≠j/\cR (xs.length+ys.length)then .aj .az (σ.set i (.ah (xs++ys)))else .ak
     |_=>.ak)
    |_=>.ak)
   |some (.bE l)=>(match v with| .ag k=>if cR (l.length+k.length)then .aj .az (σ.set i (.bE (l++k)))else .ak|_=>.ak)
   |_=>.ak)
  |_,_=>.ak)
 | .rX=>(match a,vs with
  | .ag l,[.ag sub]=>if sub.length=1 then .aj (.ae (gy l sub 0)) σ else .ak
  |_,_=>.ak)
 | .lE=>(match a,vs with
  | .ag l,[.ag sub,.ae k]=>if sub.length=1&&0<=k&&k<=l.length then .aj (.ae (gy l sub k.toNat)) σ else .ak
  |_,_=>.ak)
 | .dg=>(match a,vs with
  | .ab i,[k,d]=>(match σ[i]? with
   |some (.aE es)=>if eJ k es then .aj ((es.lookup k).getD d) σ else .ak
   |_=>.ak)
  |_,_=>.ak)
 | .lF=>(match a,vs with
  | .ab i,[k,d]=>(match σ[i]? with
   |some (.aE es)=>if eJ k es&&es.length<=1000 then(match es.lookup k with
    |some v=>.aj v σ
    |none=>.aj d (σ.set i (.aE (dT es k d))))else .ak
   |_=>.ak)
  |_,_=>.ak)
 | .mI=>(match a,vs with
  | .ag sep,[.ab i]=>(match σ[i]? with
   |some (.ah xs)=>(match ig xs with|some ls=>lG (fp sep ls) σ|none=>.ak)
   |_=>.ak)
  |_,_=>.ak)
 | .rY=>(match a,vs with
  | .ag l,[.ag p]=>.aj (.aq (p.isPrefixOf l)) σ
  |_,_=>.ak)
noncomputable def eK (σ:List O):V->Nat
 | .ag _=>1
 | .ab i=>(match σ[i]? with
  |some (.ah _)=>2
  |some (.bE _)=>3
  |some (.aE _)=>4
  |_=>0)
 |_=>0
noncomputable def lI:BM->Nat->Bool
 | .dN,k| .h8,k=>k==2||k==3
 | .rX,k| .lE,k| .mI,k| .rY,k=>k==1
 | .dg,k| .lF,k=>k==4
noncomputable def ej (G:Gl) (k:It) (v:V) (σ:List O):Option (List (List V)×Option Nat):=match k with
 | .gU=>(match v with| .ae n=>if n.natAbs<=1000000 then Sn ((Te n.toNat).map λ(i:Nat)=>[.ae i],none)else none|_=>none)
 | .cN=>(match v with
  | .ag l=>Sn (l.map λ(c:Nat)=>[.ae c],none)
  | .ab i=>(match σ[i]? with
   |some (.ah xs)=>Sn (xs.map λx=>[x],Sn i)
   |some (.aX xs)=>Sn (xs.map λx=>[x],Sn i)
   |_=>none)
  | .bW a=>(match G a with
   |some (.aX xs)=>Sn (xs.map λx=>[x],none)
   |_=>none)
  |_=>none)
 | .jh=>(match v with
  | .ag l=>Sn (l.zipIdx.map λ(c,i)=>[.ae (i:Nat),.ae (c:Nat)],none)
  | .ab i=>(match σ[i]? with
   |some (.ah xs)=>Sn (xs.zipIdx.map λ(x,i)=>[.ae (i:Nat),x],Sn i)
   |_=>none)
  | .bW a=>(match G a with
   |some (.aX xs)=>Sn (xs.zipIdx.map λ(x,i)=>[.ae (i:Nat),x],none)
   |_=>none)
  |_=>none)
noncomputable def bn (keep:Option Nat) (σ c_:List O):Bool:=match keep with
 |none=>Sp
 |some i=>c_[i]?==σ[i]?
noncomputable def c8 (n:Nat):V->Bool
 | .ab i=>SW (i<n)
 |_=>Sp
noncomputable def jH (n:Nat):O->Bool
 | .ah xs| .aX xs=>xs.all (c8 n)
 | .aE es=>es.all λe=>c8 n e.1&&c8 n e.2
 | .bE _=>Sp
 | .a8 _ d=>SW (d<n)
 | .aL fs=>fs.all λe=>c8 n e.2
 | .a9 v=>v.all (c8 n)
 | .cq _ cs=>cs.all λi=>SW (i<n)
noncomputable def gz (n:Nat):List O->List O->Bool
 |[],_=>Sp
 |_::_,[]=>Su
 |o::σ,p::τ=>(o==p||jH n p)&&gz n σ τ
def yk {n:Nat} {o p:O} {σ τ:List O} (h:gz n (o::σ) (p::τ)=Sp):(o=p∨jH n p=Sp)/\gz n σ τ=Sp:=(Sz.mp h).imp_left λh=>(TZ.mp h).imp_left SG
noncomputable def fg (σ:List O) (r:R V):R V:=match r with
 | .aj v τ=>if c8 σ.length v&&gz σ.length σ τ then .aj v (τ.take σ.length)else .aj v τ
 |r=>r
noncomputable def yl:List ((Nat×Nat)×Nat):=[((2,0),33),((3,1),35),((3,2),36),((3,3),37),((4,4),40),((4,5),41),((4,6),42),((4,7),43),((4,11),45),((4,12),46),((4,13),47),((4,14),48),((4,15),49),((4,16),50),((4,18),44),((4,19),38)]
noncomputable def i0 (k m:Nat):Option Nat:=yl.lookup (k,m)
noncomputable def mQ:Nat->Nat
 |0=>30
 |1=>31
 |2=>32
 |3=>34
 |_=>39
noncomputable def mR:List V->Option (List (V×V))
 |[]=>Sn []
 |k::v::r=>(mR r).map ((k,v)::·)
 |[_]=>none
noncomputable def lJ (l:List (V×V)):List (V×V):=l.foldl (λd e=>dT d e.1 e.2) []
noncomputable def mS:List Nat->List V->bo->Option bo
 |[],[],l=>Sn l
 |t::ts,v::vs,l=>mS ts vs (l.set t (Sn v))
 |_,_,_=>none
noncomputable def pR (f:bo->List O->R V) (st:List O->Bool) (j:Nat) (k:List O->R V) (l:bo) (σ:List O):R V:=match f l σ with
 | .aj v l_=>(match l_[j]? with
  |some (.ah xs)=>if cR (xs.length+1)&&st (l_.set j (.ah (xs++[v])))then k (l_.set j (.ah (xs++[v])))else .ak
  |_=>.ak)
 |_=>.ak
noncomputable def j2 (f g:bo->List O->R V) (st:List O->Bool) (j:Nat) (k:List O->R V) (l:bo) (σ:List O):R V:=match g l σ with
 | .aj (.aq Sp) a_=>pR f st j k l a_
 | .aj (.aq Su) a_=>if st a_ then k a_ else .ak
 |_=>.ak
noncomputable def fI (G:Gl) (f:bo->List O->R V) (g:bo->List O->R V) (st:List O->Bool) (ts:List Nat) (j:Nat):List (List V)->bo->List O->R V
 |[],_,σ=>.aj (.ab j) σ
 |row::rest,l,σ=>match mS ts row l with
  |none=>.ak
  |some l'=>j2 f g st j (fI G f g st ts j rest l') l' σ
mutual
noncomputable def ev (Φ:dy) (G:Gl):X->bo->List Nat->List O->R V
 | .ak,_,_,_=>.ak
 | .az,_,_,σ=>.aj .az σ
 | .aq b,_,_,σ=>.aj (.aq b) σ
 | .ae i,_,_,σ=>.aj (.ae i) σ
 | .ag l,_,_,σ=>.aj (.ag l) σ
 | .bx k,_,_,σ=>.aj (.bx k) σ
 | .ad i,l,_,σ=>dh l[i]?.join σ
 | .aW i,_,c,σ=>(match c[i]? with
  |some j=>(match σ[j]? with|some (.a9 v)=>dh v σ|_=>.ak)
  |none=>.ak)
 | .cr v,_,_,σ=>.aj v σ
 | .tr a,l,c,σ=>fg σ (ev Φ G a l c σ)
 | .aV o a b,l,c,σ=>(ev Φ G a l c σ).C λx σ=>(ev Φ G b l c σ).C λy σ=>ie G o x y σ
 | .ba o a,l,c,σ=>(ev Φ G a l c σ).C λx σ=>u1 G o x σ
 | .and a b,l,c,σ=>(ev Φ G a l c σ).C λx σ=>(match x with
  | .aq Sp=>ev Φ G b l c σ
  | .aq Su=>.aj (.aq Su) σ
  |_=>.ak)
 | .or a b,l,c,σ=>(ev Φ G a l c σ).C λx σ=>(match x with
  | .aq Sp=>.aj (.aq Sp) σ
  | .aq Su=>ev Φ G b l c σ
  |_=>.ak)
 | .aY t a b,l,c,σ=>(ev Φ G t l c σ).C λx σ=>(match x with
  | .aq Sp=>ev Φ G a l c σ
  | .aq Su=>ev Φ G b l c σ
  |_=>.ak)
 | .aB o a b,l,c,σ=>(ev Φ G a l c σ).C λx σ=>(ev Φ G b l c σ).C λy σ=>dh ((dY G o x y σ).map .aq) σ
 | .eR o p a b d,l,c,σ=>(ev Φ G a l c σ).C λx σ=>(ev Φ G b l c σ).C λy σ=>(match dY G o x y σ with
  |some Sp=>(ev Φ G d l c σ).C λz σ=>dh ((dY G p y z σ).map .aq) σ
  |some Su=>.aj (.aq Su) σ
  |none=>.ak)
 | .bj es,l,c,σ=>(ix Φ G es l c σ).C λvs σ=>if cR vs.length then ea (.ah vs) σ else .ak
 | .dO es,l,c,σ=>(ix Φ G es l c σ).C λvs σ=>if cR vs.length then ea (.aX vs) σ else .ak
 | .gj es,l,c,σ=>(ix Φ G es l c (σ++[.aE []])).C λvs c_=>(match mR vs,c_[σ.length]? with
  |some ps,Sn (.aE [])=>if(eg ps||kO ps)&&ps.length<=15 then .aj (.ab σ.length) (c_.set σ.length (.aE (lJ ps)))else .ak
  |_,_=>.ak)
 | .ay a f,l,c,σ=>(ev Φ G a l c σ).C λx σ=>mO x f σ
 | .aM a b,l,c,σ=>(ev Φ G a l c σ).C λx σ=>(ev Φ G b l c σ).C λy σ=>jG G x y σ
 | .cT a b d,l,c,σ=>(ev Φ G a l c σ).C λx σ=>(ev Φ G b l c σ).C λy σ=>(ev Φ G d l c σ).C λz σ=>gx x y z σ
 | .pM a,l,c,σ=>(ev Φ G a l c σ).C λx σ=>uF x σ
 | .pN,_,_,σ=>ea (.bE []) σ
 | .bR f es,l,c,σ=>(ix Φ G es l c σ).C λvs σ=>Φ f vs σ
 | .cU m a es,l,c,σ=>(ev Φ G a l c σ).C λx σ=>(match x with
  | .ab i=>(match σ[i]? with
   |some (.a8 k d)=>(match σ[d]?,i0 k m with
    |some (.aL _),Sn f=>(ix Φ G es l c σ).C λvs σ=>Φ f (x::vs) σ
    |_,_=>.ak)
   |_=>.ak)
  |_=>.ak)
 | .dw k es,l,c,σ=>(ix Φ G es l c σ).C λvs σ=>(Φ (mQ k) (.ab σ.length::vs) (σ++[.a8 k (σ.length+1),.aL []])).C λr c_=>(match r with
  | .az=>.aj (.ab σ.length) c_
  |_=>.ak)
 | .iv a,l,c,σ=>(ev Φ G a l c σ).C λx σ=>(match x with
  | .ab i=>(match σ[i]? with
   |some (.cq k cs)=>(match Φ (1000+k) (cs.map .ab) σ with
    | .aj v σ=>ea (.aX [.bx 0,v]) σ
    | .bh t σ=>ea (.aX [.bx 1,t]) σ
    | .ak=>.ak)
   |_=>.ak)
  |_=>.ak)
 | .bK m a es,l,c,σ=>(ev Φ G a l c σ).C λx σ=>if lI m (eK σ x)then(ix Φ G es l c σ).C λvs c_=>if eK c_ x=eK σ x then ei G m x vs c_ else .ak else .ak
 | .cq k i_,_,c,σ=>(match i_.mapM (c[·]?)with
  |some cs=>ea (.cq k cs) σ
  |none=>.ak)
 | .mJ a w,l,c,σ=>(ev Φ G a l c σ).C λv σ=>(match v,(c[w]?).bind (σ[·]?)with
  | .ab i,Sn (.a9 (Sn (.ag b)))=>(match σ[i]? with
   |some (.aE es)=>if eg es&&es.length<=1000 then ea (.ah ((es.map (·.1)).filter λk=>match k with| .ag l=>l.take b.length==b|_=>Su)) σ else .ak
   |_=>.ak)
  |_,_=>.ak)
 | .dp elt cond k src nl ts i_,l,c,σ=>(ev Φ G src l c σ).C λv σ=>(match ej G k v σ,i_.mapM (c[·]?)with
  |some (rows,keep),Sn cs=>fI G (λl' σ=>ev Φ G elt l' cs σ) (λl' σ=>ev Φ G cond l' cs σ) (bn keep σ) ts σ.length rows (SI nl none) (σ++[.ah []])
  |_,_=>.ak)
noncomputable def ix (Φ:dy) (G:Gl):gv->bo->List Nat->List O->R (List V)
 | .ao,_,_,σ=>.aj [] σ
 | .ai a r,l,c,σ=>(ev Φ G a l c σ).C λx σ=>(ix Φ G r l c σ).C λxs σ=>.aj (x::xs) σ
end
noncomputable def eL (Φ:dy) (G:Gl) (t:bZ) (v:V) (l:bo) (c:List Nat) (σ:List O):bC:=match t with
 | .ad i=>if i<l.length then .aD (l.set i (Sn v)) σ else .ak
 | .aW i=>(match c[i]? with
  |some j=>(match σ[j]? with|some (.a9 _)=>.aD l (σ.set j (.a9 (Sn v)))|_=>.ak)
  |none=>.ak)
 | .ay a f=>(match ev Φ G a l c σ with
  | .aj x σ=>(match pQ x f v σ with|some σ=>.aD l σ|none=>.ak)
  |_=>.ak)
 | .aM a b=>(match ev Φ G a l c σ with
  | .aj x σ=>(match ev Φ G b l c σ with
   | .aj y σ=>(match oh x y v σ with|some σ=>.aD l σ|none=>.ak)
   |_=>.ak)
  |_=>.ak)
noncomputable def dZ (Φ:dy) (G:Gl):List bZ->List V->bo->List Nat->List O->bC
 |[],[],l,_,σ=>.aD l σ
 |t::ts,v::vs,l,c,σ=>(eL Φ G t v l c σ).C λl σ=>dZ Φ G ts vs l c σ
 |_,_,_,_,_=>.ak
noncomputable def ew (f:bo->List O->bC) (p:List V->bo->List O->bC) (st:List O->Bool):List (List V)->bo->List O->bC
 |[],l,σ=>.aD l σ
 |row::rest,l,σ=>(p row l σ).C λl σ=>match f l σ with
  | .aD l σ| .dR l σ=>if st σ then ew f p st rest l σ else .ak
  | .eu l σ=>.aD l σ
  | .aO v σ=>.aO v σ
  |_=>.ak
noncomputable def mT (f:bo->List O->bC) (t:bo->List O->R V):Nat->bo->List O->bC
 |0,_,_=>.ak
 |n+1,l,σ=>(t l σ).toS λx σ=>match x with
  | .aq Sp=>(match f l σ with
   | .aD l σ| .dR l σ=>mT f t n l σ
   | .eu l σ=>.aD l σ
   |r=>r)
  | .aq Su=>.aD l σ
  |_=>.ak
noncomputable def jI:Nat:=1000000
noncomputable def aU (Φ:dy) (G:Gl):S->bo->List Nat->List O->bC
 | .ak,_,_,_=>.ak
 | .aw,l,_,σ=>.aD l σ
 | .am a b,l,c,σ=>(aU Φ G a l c σ).C λl σ=>aU Φ G b l c σ
 | .aU x,l,c,σ=>(ev Φ G x l c σ).toS λ_ σ=>.aD l σ
 | .a6 t x,l,c,σ=>(ev Φ G x l c σ).toS λv σ=>eL Φ G t v l c σ
 | .en ts xs,l,c,σ=>(match ix Φ G xs l c σ with
  | .aj vs σ=>dZ Φ G ts vs l c σ
  | .bh t σ=>.bh t σ
  | .ak=>.ak)
 | .mK ts x,l,c,σ=>(ev Φ G x l c σ).toS λv σ=>(match v with
  | .ab i=>(match σ[i]? with
   |some (.aX vs)=>if vs.length=ts.length then dZ Φ G ts vs l c σ else .ak
   |_=>.ak)
  |_=>.ak)
 | .aY t a b,l,c,σ=>(ev Φ G t l c σ).toS λx σ=>(match x with
  | .aq Sp=>aU Φ G a l c σ
  | .aq Su=>aU Φ G b l c σ
  |_=>.ak)
 | .eG k ts src body,l,c,σ=>(ev Φ G src l c σ).toS λv σ=>(match ej G k v σ with
  |some (rows,keep)=>if rows.all (λrow=>row.length==ts.length)then ew (λl σ=>aU Φ G body l c σ) (λrow l σ=>dZ Φ G ts row l c σ) (bn keep σ) rows l σ else .ak
  |none=>.ak)
 | .iO t body,l,c,σ=>mT (λl σ=>aU Φ G body l c σ) (λl σ=>ev Φ G t l c σ) jI l σ
 | .aO x,l,c,σ=>(ev Φ G x l c σ).toS λv σ=>.aO v σ
 | .ib x,l,c,σ=>(ev Φ G x l c σ).toS λv σ=>.bh v σ
 | .eu,l,_,σ=>.eu l σ
 | .dR,l,_,σ=>.dR l σ
structure cf where
 b0:Nat
 ca:Nat
 cw:List (Bool×Nat)
 cx:Nat
 ch:Nat
 aA:S
noncomputable def gA:List (Bool×Nat)->List V->bo->bo->bo×bo
 |d::ds,v::vs,l,c=>bif d.1 then gA ds vs l (c.set d.2 (Sn v))else gA ds vs (l.set d.2 (Sn v)) c
 |_,_,l,c=>(l,c)
noncomputable def pT (Φ:dy) (G:Gl) (f:cf) (args:List V) (σ:List O):R V:=
 if args.length<=f.b0&&f.b0-f.ca<=args.length then
  let p:=gA f.cw (args++SI (f.b0-args.length) .az) (SI f.cx none) (SI f.ch none)
  match aU Φ G f.aA p.1 ((Te f.ch).map (σ.length+·)) (σ++p.2.map .a9)with
  | .aO v σ=>.aj v σ
  | .aD _ σ=>.aj .az σ
  | .bh t σ=>.bh t σ
  |_=>.ak
 else .ak
noncomputable def oi:List V->Option (List Nat)
 |[]=>Sn []
 | .ab i::r=>(oi r).map (i::·)
 |_::_=>none
def Ei {i:Nat} {r:List V}:oi (.ab i::r)=(oi r).map (i::·):=rfl
noncomputable def jk (F:Nat->Option cf) (L:Nat->Option X) (G:Gl):Nat->dy
 |0,_,_,_=>.ak
 |n+1,f,args,σ=>if f<1000 then(match F f with
   |some fn=>pT (jk F L G n) G fn args σ
   |none=>.ak)
  else(match L (f-1000),oi args with
   |some x,Sn cs=>ev (jk F L G n) G x [] cs σ
   |_,_=>.ak)
def lK {α:Sort _} {P:α->Prop} {c:Prop} [Decidable c] {t z:α} (g:P (if c then t else z)) (hz:¬P z):c/\P t:=by
 by_cases h:c
 ·exact⟨h,if_pos (t:=t) (e:=z) h▸g⟩
 ·exact(hz (if_neg (t:=t) (e:=z) h▸g)).elim
def ym {α:Type} {P:α->Prop} {a:Option O} {B:Option V->α} {z:α} (g:P (match a with|some (.a9 v)=>B v|_=>z)) (hz:¬P z):∃v,a=Sn (.a9 v)/\P (B v):=by
 induction a using Tr with
 |none=>exact(hz g).elim
 |some o=>induction o using O.casesOn<;>first|exact(hz g).elim|exact⟨_,rfl,g⟩
def yn {α:Type} {P:α->Prop} {a:Option O} {b:Option Nat} {B:Nat->α} {z:α} (g:P (match a,b with|some (.aL _),Sn f=>B f|_,_=>z)) (hz:¬P z):∃fs f,a=Sn (.aL fs)/\b=Sn f/\P (B f):=by
 induction a using Tr with
 |none=>exact(hz g).elim
 |some o=>
  induction b using Tr with
  |none=>induction o using O.casesOn<;>exact(hz g).elim
  |some f=>induction o using O.casesOn<;>first|exact(hz g).elim|exact⟨_,_,rfl,rfl,g⟩
def j3 {n:Nat} (h:n<=1048576):n<=16777216:=Sq h (S2 rfl)
def yo {n:Int} (h:n.natAbs<=k):-(k:Int)<=n/\n<=k:=⟨Int.neg_le_of_neg_le (UO (Int.natAbs_neg n▸Int.le_natAbs) (T7.mpr h)),UO Int.le_natAbs (T7.mpr h)⟩
def yp {i:Int} (h:i<256):i.toNat<256:=(Int.toNat_lt' (T9 255)).mpr h
def a5 {a b n:Nat} (h:n<=a) (e:UT a b=Sp):n<=b:=Sq h (S2 e)
def mU {a b x:q} (h:x∈[a,b]):x=a∨x=b:=(Tq.mp h).imp_right SP.mp
def Ej {a b x:q} (h:x∉[a,b]):x≠a/\x≠b:=⟨λe=>h (e▸.head _),λe=>h (e▸.tail _ (.head _))⟩
def yq {a b x:q} (h:x≠a) (g:x≠b):x∉[a,b]:=λm=>(mU m).elim h g
def er {p:q->Bool} {o:Option q} {C:Prop} (h:o.any p=Sp) (k:∀a,o=Sn a->p a=Sp->C):C:=by
 cases o with
 |none=>exact nomatch h
 |some a=>exact k a rfl h
def cW {α β:Type} {f:α->β} {l:List α} {y:β} {C:Prop} (h:y∈l.map f) (k:∀x,x∈l->f x=y->C):C:=let⟨x,m,e⟩:=Xr.mp h;k x m e
def i1 {α β:Type} {f:α->β} {x:Option α} {y:β} {C:Prop} (h:x.map f=Sn y) (k:∀a,x=Sn a->f a=y->C):C:=let⟨a,m,e⟩:=TX.mp h;k a m e
def cZ {C:Prop} {a b:Bool} (h:(a&&b)=Sp) (k:a=Sp->b=Sp->C):C:=k (Sz.mp h).1 (Sz.mp h).2
def aP {α:Sort _} {A B:α->Prop} {C:Prop} (h:∃x,A x/\B x) (k:∀x,A x->B x->C):C:=let⟨x,h0,h1⟩:=h;k x h0 h1
def dz {α:Sort _} {A B D:α->Prop} {C:Prop} (h:∃x,A x/\B x/\D x) (k:∀x,A x->B x->D x->C):C:=let⟨x,h0,h1,h2⟩:=h;k x h0 h1 h2
def pU {α β:Sort _} {A:α->β->Prop} {C:Prop} (h:∃x y,A x y) (k:∀x y,A x y->C):C:=let⟨x,y,h0⟩:=h;k x y h0
def fh {α β:Sort _} {A B:α->β->Prop} {C:Prop} (h:∃x y,A x y/\B x y) (k:∀x y,A x y->B x y->C):C:=let⟨x,y,h0,h1⟩:=h;k x y h0 h1
def yr {α β γ:Sort _} {A:α->β->γ->Prop} {C:Prop} (h:∃x y z,A x y z) (k:∀x y z,A x y z->C):C:=let⟨x,y,z,h0⟩:=h;k x y z h0
def ec {α β:Sort _} {A B D:α->β->Prop} {C:Prop} (h:∃x y,A x y/\B x y/\D x y) (k:∀x y,A x y->B x y->D x y->C):C:=let⟨x,y,h0,h1,h2⟩:=h;k x y h0 h1 h2
def uG {α β γ:Sort _} {A B:α->β->γ->Prop} {C:Prop} (h:∃x y z,A x y z/\B x y z) (k:∀x y z,A x y z->B x y z->C):C:=let⟨x,y,z,h0,h1⟩:=h;k x y z h0 h1
def yt {α:Sort _} {A B D E:α->Prop} {C:Prop} (h:∃x,A x/\B x/\D x/\E x) (k:∀x,A x->B x->D x->E x->C):C:=let⟨x,h0,h1,h2,h3⟩:=h;k x h0 h1 h2 h3
def mV {α β γ:Sort _} {A B D:α->β->γ->Prop} {C:Prop} (h:∃x y z,A x y z/\B x y z/\D x y z) (k:∀x y z,A x y z->B x y z->D x y z->C):C:=let⟨x,y,z,h0,h1,h2⟩:=h;k x y z h0 h1 h2
def Ek {α β:Sort _} {A B D E:α->β->Prop} {C:Prop} (h:∃x y,A x y/\B x y/\D x y/\E x y) (k:∀x y,A x y->B x y->D x y->E x y->C):C:=let⟨x,y,h0,h1,h2,h3⟩:=h;k x y h0 h1 h2 h3
def j4 {A B D C:Prop} (h:A/\B/\D) (k:A->B->D->C):C:=k h.1 h.2.1 h.2.2
def j5 {A B D E C:Prop} (h:A/\B/\D/\E) (k:A->B->D->E->C):C:=k h.1 h.2.1 h.2.2.1 h.2.2.2
end
section
open PySem
noncomputable abbrev au (x:String):TR:=Str.ofString x
noncomputable def oj:List (TR×Nat):=[(au "number_of",0),(au "command_is_name_sign",1),(au "command_escaped",2),(au "command_octal",3),(au "read_commands",4),(au "command_is_bare",5),(au "command_quoted",6),(au "command_word_octets",7),(au "command_octets",8),(au "commands_octets",9),(au "command_rows",10),(au "command_kind",11),(au "command_take_flags",12),(au "command_parsed",13),(au "command_expanded",14),(au "command_list_of",15),(au "_law_draw",16),(au "_law_table",17),(au "_law_meant",18),(au "_law_kinds_right",19),(au "_law_flags",20),(au "_law_parsed_right",21),(au "_law_values_right",22),(au "_law_written",23),(au "_law_words_right",24),(au "_law_aliases_right",25),(au "law",26)]
noncomputable def ol:List (TR×Nat):=[(au "Command",0),(au "CommandBlock",1),(au "CommandKind",2),(au "ParsedCommand",3),(au "CommandReader",4)]
noncomputable def pV:List (TR×Nat):=[(au "takes",0),(au "has",1),(au "value",2),(au "number",3),(au "word",4),(au "take_single",5),(au "take_double",6),(au "take_escape",7),(au "take_variable",8),(au "open_block",9),(au "close_block",10),(au "pass_by",11),(au "new_group",12),(au "is_live",13),(au "end_command",14),(au "take_word",15),(au "add_word",16),(au "take_directive",17),(au "read",18)]
noncomputable def gW:List (TR×Nat):=[(au "told",0),(au "group",1),(au "words",2),(au "places",3),(au "commands",4),(au "name",5),(au "short",6),(au "flags",7),(au "least",8),(au "most",9),(au "place",10),(au "octets",11),(au "environment",12),(au "at",13),(au "decide",14),(au "command",15),(au "last_group",16),(au "blocks",17),(au "branches",18)]
noncomputable def yu:BM->TR
 | .dN=>au "append"| .h8=>au "extend"| .rX=>au "find"| .lE=>au "find"| .dg=>au "get"| .lF=>au "setdefault"| .mI=>au "join"| .rY=>au "startswith"
noncomputable def om:List (TR×V):=[(au "COMMAND_ENDS",.ag [32,9,13,10,59,125]),(au "COMMAND_PLAIN",.ag [45,95,46,47,58,44,61,43,64,37,94,42,63,60,62,33,124,38,91,93,40,41,126]),(au "COMMAND_DIRECTIVES",.bW 55),(au "_law_kinds",.bW 460)]
noncomputable def uH:List (TR×Nat):=[(au "told",0),(au "refused",1),(au "block",2)]
noncomputable def uI (sc:Ub):Bool:=sc.kind==.function&&!sc.isCoroutine&&!sc.isGenerator&&sc.names.lookup (au "_law_heard") !=Sn .globalImplicit&&sc.names.all λx=>x.2 !=.cell&&x.2 != .local &&x.1 !=au "__class__"
noncomputable def pX:List (Nat×Nat):=[(418,27),(421,22),(458,23),(485,26)]
noncomputable def cX (sc:Ub):List TR:=sc.names.filterMap λx=>if x.2= .local then Sn x.1 else none
noncomputable def c9 (sc:Ub):List TR:=sc.names.filterMap λx=>if(x.2=.cell∨x.2=.free)/\x.1≠au "__class__" then Sn x.1 else none
noncomputable def cD (e:TQ):Bool:= !U' e.ctorIdx 22
noncomputable def lL (e:TQ):Bool:=UT 8 e.ctorIdx&&UT e.ctorIdx 10
noncomputable def lM (sc:Ub):Bool:=sc.kind==.function&&sc.names.all (λx=>x.2 !=.cell&&x.1 !=au "__class__")&&SW (cX sc).Nodup&&sc.names.all (λx=>x.2 != .local ||sc.names.lookup x.1==Sn .local)
noncomputable def jl (es:List TQ):Bool:=es.all cD&&SW (es.length<29)
noncomputable def eM (x:TR):List TR->Option Nat
 |[]=>none
 |y::r=>if x=y then Sn 0 else(eM x r).map (·+1)
def El:eM x (y::r)=if x=y then Sn 0 else(eM x r).map (·+1):=rfl
noncomputable def b8 (sc:Ub) (x:TR):Option NameKind:=sc.names.lookup x
noncomputable def dU (sc:Ub) (x:TR):Bool:=b8 sc x==Sn .globalImplicit
noncomputable def kR (sc inner:Ub):Option (List Nat):=(c9 inner).mapM λx=>eM x (c9 sc)
noncomputable abbrev Ex:=TQ
noncomputable def jJ:Wf:=⟨[],[],none,[],[],none,[]⟩
noncomputable def uJ:uB->Operator
 | .bB=>.Add| .fS=>.Sub| .ek=>.Mult| .hW=>.FloorDiv| .iN=>.Mod| .lA=>.Pow
noncomputable def ii:Cm->CmpOp
 | .bp=>.Eq| .bM=>.NotEq| .bX=>.Lt| .bY=>.LtE| .lB=>.Gt| .lC=>.GtE| .j0=>.Is| .hZ=>.IsNot| .d'=>.In| .gh=>.NotIn
noncomputable def uK:Ex->TR×Nat×Ub
 | .Name x _=>(x,0,default)
 | .Attribute _ x _=>(x,0,default)
 | .Constant c k _=>((match c with| .str x=>x|_=>au ""),k,default)
 | .Tuple _ k _=>(au "",k,default)
 | .Lambda _ _ s _=>(au "",0,s)
 | .ListComp _ _ s _=>(au "",0,s)
 |_=>(au "",0,default)
noncomputable def dq (e:Ex):TR:=(uK e).1
noncomputable def kE (e:Ex):Nat:=(uK e).2.1
noncomputable def fu (e:Ex):Ub:=(uK e).2.2
noncomputable def cz:Ex->List Ex
 | .BoolOp _ vs _=>vs
 | .BinOp l _ r _=>[l,r]
 | .UnaryOp _ a _=>[a]
 | .Lambda _ b _ _=>[b]
 | .IfExp t a b _=>[t,a,b]
 | .Dict ks vs _=>(ks.zip vs).flatMap λp=>[p.1.getD default,p.2]
 | .ListComp e gs _ _=>e::gs.flatMap λg=>g.target::g.iter::g.ifs
 | .Compare l _ rs _=>l::rs
 | .Call f as _ _=>f::as
 | .Attribute a _ _=>[a]
 | .Subscript a b _=>[a,b]
 | .List es _=>es
 | .Tuple es _ _=>es
 | .Slice l u s _=>[l.getD default,u.getD default,s.getD default]
 |_=>[]
noncomputable def aJ (i:Nat) (g:Ex):Ex:=(cz g)[i]?.getD default
noncomputable def jm (e:Ex):Bool:= !(U' e.ctorIdx 16&&(U' (cz e).length 1&&U' (aJ 0 e).ctorIdx 23))
noncomputable def X.ctorIdx (x:X):Nat:=x.casesOn 0 1 (λ_=>2) (λ_=>3) (λ_=>4) (λ_=>5) (λ_=>6) (λ_=>7) (λ_=>8) (λ_=>9) (λ_ _ _=>10) (λ_ _=>11) (λ_ _=>12) (λ_ _=>13) (λ_ _ _=>14) (λ_ _ _=>15) (λ_ _ _ _ _=>16) (λ_=>17) (λ_=>18) (λ_=>19) (λ_ _=>20) (λ_ _=>21) (λ_ _ _=>22) (λ_=>23) 24 (λ_ _=>25) (λ_ _ _=>26) (λ_ _=>27) (λ_=>28) (λ_ _ _=>29) (λ_ _=>30) (λ_ _=>31) (λ_ _ _ _ _ _ _=>32)
noncomputable def mX (x:X):Bool:=U' x.ctorIdx 1
noncomputable def yw:X->Bool
 | .aq b=>b
 |_=>Su
noncomputable def r7 (x:X):Nat:=cond (U' x.ctorIdx 12) 1 (cond (U' x.ctorIdx 13) 2 0)
noncomputable def yx (x:X):Bool:=UT 31 x.ctorIdx
noncomputable def r8 (e:Ex):Bool:= !U' e.ctorIdx 7
noncomputable def uL (e:Ex):Bool:= !(UT 24 e.ctorIdx&&UT e.ctorIdx 25)
noncomputable def r9 {α:Type}:List α->List α
 |a::_::r=>a::r9 r
 |_=>[]
noncomputable def uM {α:Type}:List α->List α
 |_::b::r=>b::uM r
 |_=>[]
noncomputable def Em (o:U1) (a g:Ex):Ex:=match o with
 | .em=>.UnaryOp .Not a g.pos
 | .bd=>Cp "len"
 | .jg=>J1 "bytes"
 | .n9=>J1 "int"
 | .gS=>J1 "CommandBlock"
 | .ag=>Cp "bytes"
 | .bE=>Cp "bytearray"
 | .ah=>Cp "list"
 | .lD=>Cp "sorted"
 | .mH=>Cp "sum"
where
 Cp (n:String):Ex:=.Call (.Name (au n) (aJ 0 g).pos) [a] [] g.pos
 J1 (n:String):Ex:=.Call (.Name (au "isinstance") (aJ 0 g).pos) [a,.Name (au n) (aJ 2 g).pos] [] g.pos
noncomputable def u0 (o:U1):Nat:=match o with| .em=>0|_=>1
noncomputable def j6 (o:Bool) (a b g:Ex):Ex:=.BoolOp (if o then .And else .Or) (a::if 2<(cz g).length then cz b else[b]) g.pos
noncomputable def lN (o:Bool) (g:Ex):Ex:=if 2<(cz g).length then .BoolOp (if o then .And else .Or) (cz g).tail g.pos else aJ 1 g
noncomputable def mY (k:It) (a g:Ex):Ex:=match k with
 | .cN=>a
 | .jh=>.Call (.Name (au "enumerate") (aJ 0 g).pos) [a] [] g.pos
 | .gU=>.Call (.Name (au "range") (aJ 0 g).pos) [a] [] g.pos
noncomputable def jn (k:It) (g:Ex):Ex:=match k with
 | .cN=>g
 |_=>aJ 1 g
noncomputable def i2 (g:Ex):Ex:=.Name (dq g) g.pos
noncomputable def mZ (n:Nat) (g:Ex):List Ex:=if n=1 then[g]else[aJ 0 g,aJ 1 g]
noncomputable def m0 (n:Nat) (g:Ex):Ex:=if n=1 then i2 g else .Tuple ((mZ n g).map i2) (kE g) g.pos
noncomputable def uN (b:Bool) (e:Ex):Option Ex:=if b then none else Sn e
noncomputable def sd (y w:TR) (g:Ex):Ex:=.Compare (.Subscript (.Name y (aJ 0 (aJ 0 g)).pos) (.Slice none (Sn (.Call (.Name (au "len") (aJ 0 (aJ 1 (aJ 1 (aJ 0 g)))).pos) [.Name w (aJ 1 (aJ 1 (aJ 1 (aJ 0 g)))).pos] [] (aJ 1 (aJ 1 (aJ 0 g))).pos)) none (aJ 1 (aJ 0 g)).pos) (aJ 0 g).pos) [.Eq] [.Name w (aJ 1 g).pos] g.pos
noncomputable def En (g:Ex):Ex:=.Slice none none (Sn (.UnaryOp .USub (.Constant (.int 1) (kE (aJ 0 (aJ 2 g))) (aJ 0 (aJ 2 g)).pos) (aJ 2 g).pos)) g.pos
section
variable(B:Nat->Ex->Ex)
mutual
noncomputable def dE:X->Ex->Ex
 | .ak,g=>g
 | .az,g=>.Constant .none (kE g) g.pos
 | .aq b,g=>.Constant (.bool b) (kE g) g.pos
 | .ae i,g=>if i<0 then .UnaryOp .USub (.Constant (.int (-i)) (kE (aJ 0 g)) (aJ 0 g).pos) g.pos else .Constant (.int i) (kE g) g.pos
 | .ag l,g=>.Constant (.bytes (l.map UInt8.ofNat)) (kE g) g.pos
 | .bx _,g=>.Constant (.str (dq g)) (kE g) g.pos
 | .ad _,g=>i2 g
 | .aW _,g=>i2 g
 | .cr _,g=>i2 g
 | .tr a,g=>dE a g
 | .aV o a b,g=>.BinOp (dE a (aJ 0 g)) (uJ o) (dE b (aJ 1 g)) g.pos
 | .ba o a,g=>Em o (dE a (aJ (u0 o) g)) g
 | .and a b,g=>j6 Sp (dE a (aJ 0 g)) (dE b (lN Sp g)) g
 | .or a b,g=>j6 Su (dE a (aJ 0 g)) (dE b (lN Su g)) g
 | .aY c a b,g=>.IfExp (dE c (aJ 0 g)) (dE a (aJ 1 g)) (dE b (aJ 2 g)) g.pos
 | .aB o a b,g=>.Compare (dE a (aJ 0 g)) [ii o] [dE b (aJ 1 g)] g.pos
 | .eR o p a b c,g=>.Compare (dE a (aJ 0 g)) [ii o,ii p] [dE b (aJ 1 g),dE c (aJ 2 g)] g.pos
 | .bj es,g=>.List (ez es (cz g)) g.pos
 | .dO es,g=>.Tuple (ez es (cz g)) (kE g) g.pos
 | .gj es,g=>.Dict ((r9 (ez es (cz g))).map Sn) (uM (ez es (cz g))) g.pos
 | .ay a _,g=>.Attribute (dE a (aJ 0 g)) (dq g) g.pos
 | .aM a b,g=>.Subscript (dE a (aJ 0 g)) (dE b (aJ 1 g)) g.pos
 | .cT a l u,g=>.Subscript (dE a (aJ 0 g)) (.Slice (uN (mX l) (dE l (aJ 0 (aJ 1 g)))) (uN (mX u) (dE u (aJ 1 (aJ 1 g)))) none (aJ 1 g).pos) g.pos
 | .pM a,g=>.Subscript (dE a (aJ 0 g)) (En (aJ 1 g)) g.pos
 | .pN,g=>.Call (.Name (au "bytearray") (aJ 0 g).pos) [] [] g.pos
 | .bR _ es,g=>.Call (i2 (aJ 0 g)) (ez es (cz g).tail) [] g.pos
 | .cU _ a es,g=>.Call (.Attribute (dE a (aJ 0 (aJ 0 g))) (dq (aJ 0 g)) (aJ 0 g).pos) (ez es (cz g).tail) [] g.pos
 | .dw _ es,g=>.Call (i2 (aJ 0 g)) (ez es (cz g).tail) [] g.pos
 | .iv a,g=>.Call (.Name (au "_law_heard") (aJ 0 g).pos) [dE a (aJ 1 g)] [] g.pos
 | .bK m a es,g=>.Call (.Attribute (dE a (aJ 0 (aJ 0 g))) (yu m) (aJ 0 g).pos) (ez es (cz g).tail) [] g.pos
 | .cq k _,g=>.Lambda jJ (B k (aJ 0 g)) (fu g) g.pos
 | .mJ a _,g=>.ListComp (.Name (dq (aJ 0 g)) (aJ 0 g).pos) [⟨.Name (dq (aJ 0 g)) (aJ 1 g).pos,dE a (aJ 2 g),[sd (dq (aJ 0 g)) (dq (aJ 1 (aJ 3 g))) (aJ 3 g)],0⟩] (fu g) g.pos
 | .dp e c k a _ ts _,g=>.ListComp (dE e (aJ 0 g)) [⟨m0 ts.length (aJ 1 g),mY k (dE a (jn k (aJ 2 g))) (aJ 2 g),if(cz g).length=3 then[]else[dE c (aJ 3 g)],0⟩] (fu g) g.pos
noncomputable def ez:gv->List Ex->List Ex
 | .ao,_=>[]
 | .ai a r,gs=>dE a (gs[0]?.getD default)::ez r gs.tail
end
noncomputable def uO:bZ->Ex->Ex
 | .ad _,g=>i2 g
 | .aW _,g=>i2 g
 | .ay a _,g=>.Attribute (dE B a (aJ 0 g)) (dq g) g.pos
 | .aM a b,g=>.Subscript (dE B a (aJ 0 g)) (dE B b (aJ 1 g)) g.pos
noncomputable def pY:List bZ->List Ex->List Ex
 |[],_=>[]
 |t::ts,gs=>uO B t (gs[0]?.getD default)::pY ts gs.tail
noncomputable def kT (sc:Ub) (i:Nat) (nm:TR):Bool:=b8 sc nm==Sn .local &&eM nm (cX sc)==Sn i
noncomputable def pZ (sc:Ub) (i:Nat) (nm:TR):Bool:=(b8 sc nm==Sn .cell||b8 sc nm==Sn .free)&&eM nm (c9 sc)==Sn i
noncomputable def qa (nm:TR):Bool:=nm !=au "__debug__"&&nm !=au "__classdict__"
noncomputable def Eo (sc:Ub) (o:U1) (a:Ex):Bool:=match o with
 | .em=>Sp
 | .bd=>dU sc (au "len")&&cD a
 | .jg=>dU sc (au "isinstance")&&dU sc (au "bytes")&&cD a
 | .n9=>dU sc (au "isinstance")&&dU sc (au "int")&&cD a
 | .gS=>dU sc (au "isinstance")&&dU sc (au "CommandBlock")&&cD a
 | .ag=>dU sc (au "bytes")&&cD a
 | .bE=>dU sc (au "bytearray")&&cD a
 | .ah=>dU sc (au "list")&&cD a
 | .lD=>dU sc (au "sorted")&&cD a
 | .mH=>dU sc (au "sum")&&cD a
noncomputable def uP (sc:Ub) (k:It) (a:Ex):Bool:=match k with
 | .cN=>Sp
 | .jh=>dU sc (au "enumerate")&&cD a
 | .gU=>dU sc (au "range")&&cD a
noncomputable def uQ (a:Ex) (es:List Ex) (g:Ex):Bool:=jm a&&jl es&&(aJ 0 g).pos.endLine==g.pos.line
noncomputable def uR (sc:Ub):List Nat->List Ex->Bool
 |[],[]=>Sp
 |i::r,n::ns=>kT sc i (dq n)&&uR sc r ns
 |_,_=>Su
variable(C:Nat->Ub->Ex->Bool)
mutual
noncomputable def cB (sc:Ub):X->Ex->Bool
 | .ak,_=>Sp
 | .az,_=>Sp
 | .aq _,_=>Sp
 | .ae _,_=>Sp
 | .ag l,_=>SW (l.length<=1048576)&&(l.map UInt8.ofNat).map (·.toNat)==l
 | .bx k,g=>uH.lookup (dq g)==Sn k
 | .ad i,g=>kT sc i (dq g)&&qa (dq g)
 | .aW i,g=>pZ sc i (dq g)&&qa (dq g)
 | .cr v,g=>dU sc (dq g)&&om.lookup (dq g)==Sn v
 | .tr a,g=>cB sc a g
 | .aV _ a b,g=>cB sc a (aJ 0 g)&&cB sc b (aJ 1 g)
 | .ba o a,g=>cB sc a (aJ (u0 o) g)&&Eo sc o (dE B a (aJ (u0 o) g))
 | .and a b,g=>cB sc a (aJ 0 g)&&cB sc b (lN Sp g)&&(SW ((cz g).length<=2)||r7 b==1)
 | .or a b,g=>cB sc a (aJ 0 g)&&cB sc b (lN Su g)&&(SW ((cz g).length<=2)||r7 b==2)
 | .aY c a b,g=>cB sc c (aJ 0 g)&&cB sc a (aJ 1 g)&&cB sc b (aJ 2 g)
 | .aB o a b,g=>cB sc a (aJ 0 g)&&cB sc b (aJ 1 g)&&!VH (ii o) (dE B b (aJ 1 g))
 | .eR _ p a b c,g=>cB sc a (aJ 0 g)&&cB sc b (aJ 1 g)&&cB sc c (aJ 2 g)&&!VH (ii p) (dE B c (aJ 2 g))
 | .bj es,g=>jo sc es (cz g)&&(ez B es (cz g)).all cD
 | .dO es,g=>jo sc es (cz g)&&(ez B es (cz g)).all cD
 | .gj es,g=>jo sc es (cz g)&&SW ((ez B es (cz g)).length<=30)&&(ez B es (cz g)).length%2==0
 | .ay a f,g=>cB sc a (aJ 0 g)&&jm (dE B a (aJ 0 g))&&gW.lookup (dq g)==Sn f
 | .aM a b,g=>cB sc a (aJ 0 g)&&cB sc b (aJ 1 g)
 | .cT a l u,g=>cB sc a (aJ 0 g)&&cB sc l (aJ 0 (aJ 1 g))&&cB sc u (aJ 1 (aJ 1 g))
 | .pM a,g=>cB sc a (aJ 0 g)
 | .pN,_=>dU sc (au "bytearray")
 | .bR f es,g=>jo sc es (cz g).tail&&dU sc (dq (aJ 0 g))&&oj.lookup (dq (aJ 0 g))==Sn f&&(ez B es (cz g).tail).all cD
 | .cU m a es,g=>cB sc a (aJ 0 (aJ 0 g))&&jo sc es (cz g).tail&&pV.lookup (dq (aJ 0 g))==Sn m&&uQ (dE B a (aJ 0 (aJ 0 g))) (ez B es (cz g).tail) g
 | .dw c es,g=>jo sc es (cz g).tail&&dU sc (dq (aJ 0 g))&&ol.lookup (dq (aJ 0 g))==Sn c&&(ez B es (cz g).tail).all cD
 | .iv a,g=>cB sc a (aJ 1 g)&&dU sc (au "_law_heard")&&cD (dE B a (aJ 1 g))
 | .bK m a es,g=>cB sc a (aJ 0 (aJ 0 g))&&jo sc es (cz g).tail&&uQ (dE B a (aJ 0 (aJ 0 g))) (ez B es (cz g).tail) g
 | .cq k i_,g=>C k (fu g) (aJ 0 g)&&kR sc (fu g)==Sn i_&&uI (fu g)&&dU sc (au "_law_heard")&&pX.contains (g.pos.line,g.pos.col)
 | .mJ a w,g=>cB sc a (aJ 2 g)&&lM (fu g)&&qa (dq (aJ 0 g))&&qa (dq (aJ 1 (aJ 3 g)))&&dU (fu g) (au "len")&&b8 (fu g) (dq (aJ 0 g))==Sn .local &&b8 (fu g) (dq (aJ 1 (aJ 3 g)))==Sn .free&&eM (dq (aJ 1 (aJ 3 g))) (c9 sc)==Sn w&&(kR sc (fu g)).isSome&&r8 (dE B a (aJ 2 g))
 | .dp e c k a nl ts i_,g=>cB (fu g) e (aJ 0 g)&&cB (fu g) c (aJ 3 g)&&cB sc a (jn k (aJ 2 g))&&(SW ((cz g).length≠3)||yw c)&&lM (fu g)&&!dU (fu g) (au "_law_heard")&&kR sc (fu g)==Sn i_&&nl==(cX (fu g)).length&&
   uR (fu g) ts (mZ ts.length (aJ 1 g))&&uP sc k (dE B a (jn k (aJ 2 g)))&&r8 (mY k (dE B a (jn k (aJ 2 g))) (aJ 2 g))
noncomputable def jo (sc:Ub):gv->List Ex->Bool
 | .ao,_=>Sp
 | .ai a r,gs=>cB sc a (gs[0]?.getD default)&&jo sc r gs.tail
end
noncomputable def uS (sc:Ub):bZ->Ex->Bool
 | .ad i,g=>kT sc i (dq g)
 | .aW i,g=>pZ sc i (dq g)
 | .ay a f,g=>cB B C sc a (aJ 0 g)&&jm (dE B a (aJ 0 g))&&gW.lookup (dq g)==Sn f
 | .aM a b,g=>cB B C sc a (aJ 0 g)&&cB B C sc b (aJ 1 g)
noncomputable def se (sc:Ub):List bZ->List Ex->Bool
 |[],_=>Sp
 |t::ts,gs=>uS B C sc t (gs[0]?.getD default)&&se sc ts gs.tail
noncomputable def oq:Vo->(List Ex×List Vo×List Vo)×TR×Wf×Ub×List Vo
 | .Expr x _=>(([x],[],[]),au "",jJ,default,[])
 | .Assign ts v _=>((v::ts,[],[]),au "",jJ,default,[])
 | .If t a b _=>(([t],a,b),au "",jJ,default,[])
 | .While t a _ _=>(([t],a,[]),au "",jJ,default,[])
 | .For t i a _ _=>(([t,i],a,[]),au "",jJ,default,[])
 | .Return x _=>((x.toList,[],[]),au "",jJ,default,[])
 | .Raise x _ _=>((x.toList,[],[]),au "",jJ,default,[])
 | .FunctionDef n as b _ _ _ sc _ _ _=>(([],[],[]),n,as,sc,b)
 | .ClassDef n _ _ b _ _ _ _ _ _ _=>(([],[],[]),n,jJ,default,b)
 |_=>(([],[],[]),au "",jJ,default,[])
noncomputable def vw (s:Vo):List Ex×List Vo×List Vo:=(oq s).1
noncomputable def b7 (i:Nat) (g:Vo):Ex:=(vw g).1[i]?.getD default
noncomputable def iy:S->(Vo->Vo)×(List Vo->List Vo)
 | .ak=>(id,id)
 | .aw=>(λg=>.Pass g.pos,λ_=>[])
 | .am a b=>(id,λgs=>(iy a).1 (gs[0]?.getD default)::(iy b).2 gs.tail)
 | .aU x=>(λg=>.Expr (dE B x (b7 0 g)) g.pos,id)
 | .a6 t x=>(λg=>.Assign [uO B t (b7 1 g)] (dE B x (b7 0 g)) g.pos,id)
 | .en ts xs=>(λg=>.Assign [.Tuple (pY B ts (cz (b7 1 g))) (kE (b7 1 g)) (b7 1 g).pos] (.Tuple (ez B xs (cz (b7 0 g))) (kE (b7 0 g)) (b7 0 g).pos) g.pos,id)
 | .mK ts x=>(λg=>.Assign [.Tuple (pY B ts (cz (b7 1 g))) (kE (b7 1 g)) (b7 1 g).pos] (dE B x (b7 0 g)) g.pos,id)
 | .aY c a b=>(λg=>.If (dE B c (b7 0 g)) ((iy a).2 (vw g).2.1) ((iy b).2 (vw g).2.2) g.pos,id)
 | .eG k ts a b=>(λg=>.For (m0 ts.length (b7 0 g)) (mY k (dE B a (jn k (b7 1 g))) (b7 1 g)) ((iy b).2 (vw g).2.1) [] g.pos,id)
 | .iO c a=>(λg=>.While (dE B c (b7 0 g)) ((iy a).2 (vw g).2.1) [] g.pos,id)
 | .aO x=>(λg=>.Return (if(vw g).1.isEmpty then none else Sn (dE B x (b7 0 g))) g.pos,id)
 | .ib x=>(λg=>.Raise (Sn (.Call (.Name (au "BadCommand") (aJ 0 (b7 0 g)).pos) [dE B x (aJ 1 (b7 0 g))] [] (b7 0 g).pos)) none g.pos,id)
 | .eu=>(λg=>.Break g.pos,id)
 | .dR=>(λg=>.Continue g.pos,id)
noncomputable def qb (sc:Ub):List bZ->List Ex->Bool
 |[],[]=>Sp
 | .ad i::ts,g::gs=>kT sc i (dq g)&&qb sc ts gs
 | .aW i::ts,g::gs=>pZ sc i (dq g)&&qb sc ts gs
 |_,_=>Su
noncomputable def iz (sc:Ub):S->(Vo->Bool)×(List Vo->Bool)
 | .ak=>(λ_=>Su,λ_=>Su)
 | .aw=>(λ_=>Sp,λ_=>Sp)
 | .am a b=>(λ_=>Su,λgs=>(iz sc a).1 (gs[0]?.getD default)&&(iz sc b).2 gs.tail)
 | .aU x=>(λg=>cB B C sc x (b7 0 g)&&!lL (dE B x (b7 0 g)),λ_=>Su)
 | .a6 t x=>(λg=>uS B C sc t (b7 1 g)&&cB B C sc x (b7 0 g)&&(!lL (dE B x (b7 0 g))||yx x),λ_=>Su)
 | .en ts xs=>(λg=>se B C sc ts (cz (b7 1 g))&&jo B C sc xs (cz (b7 0 g))&&(pY B ts (cz (b7 1 g))).length==(ez B xs (cz (b7 0 g))).length&&SW ((ez B xs (cz (b7 0 g))).length<=1000)&&(ez B xs (cz (b7 0 g))).all cD&&!(ez B xs (cz (b7 0 g))).all (constantsAlone 8),λ_=>Su)
 | .mK ts x=>(λg=>se B C sc ts (cz (b7 1 g))&&cB B C sc x (b7 0 g)&&!lL (dE B x (b7 0 g))&&uL (dE B x (b7 0 g)),λ_=>Su)
 | .aY c a b=>(λg=>cB B C sc c (b7 0 g)&&(iz sc a).2 (vw g).2.1&&(iz sc b).2 (vw g).2.2,λ_=>Su)
 | .eG k ts a b=>(λg=>qb sc ts (mZ ts.length (b7 0 g))&&cB B C sc a (jn k (b7 1 g))&&uP sc k (dE B a (jn k (b7 1 g)))&&r8 (mY k (dE B a (jn k (b7 1 g))) (b7 1 g))&&(iz sc b).2 (vw g).2.1,λ_=>Su)
 | .iO c a=>(λg=>cB B C sc c (b7 0 g)&&(iz sc a).2 (vw g).2.1,λ_=>Su)
 | .aO x=>(λg=>cB B C sc x (b7 0 g)&&(!(vw g).1.isEmpty||mX x),λ_=>Su)
 | .ib x=>(λg=>cB B C sc x (aJ 1 (b7 0 g))&&dU sc (au "BadCommand")&&cD (dE B x (aJ 1 (b7 0 g))),λ_=>Su)
 | .eu=>(λ_=>Sp,λ_=>Su)
 | .dR=>(λ_=>Sp,λ_=>Su)
end
noncomputable def B0:Nat->Ex->Ex:=λ_ g=>g
noncomputable def C0:Nat->Ub->Ex->Bool:=λ_ _ _=>Su
structure iP where
 dB:Wf
 aA:List Vo
 cC:Ub
noncomputable def yz (i:Nat) (x:TR) (l:List Vo):Option Vo:=l.find? λs=>U' s.ctorIdx i&&SW ((oq s).2.1=x)
noncomputable def sg (x:TR) (l:List Vo):Option iP:=(yz 0 x l).map λs=>⟨(oq s).2.2.1,(oq s).2.2.2.2,(oq s).2.2.2.1⟩
noncomputable def yA (x:TR) (l:List Vo):List Vo:=match yz 2 x l with
 |some s=>(oq s).2.2.2.2
 |none=>[]
noncomputable abbrev kU:List Vo:=XE.main.body
noncomputable def uT:Nat->TR×TR
 |30=>(au "Command",au "__init__")
 |31=>(au "CommandBlock",au "__init__")
 |32=>(au "CommandKind",au "__init__")
 |33=>(au "CommandKind",au "takes")
 |34=>(au "ParsedCommand",au "__init__")
 |35=>(au "ParsedCommand",au "has")
 |36=>(au "ParsedCommand",au "value")
 |37=>(au "ParsedCommand",au "number")
 |38=>(au "WordReader",au "__init__")
 |39=>(au "CommandReader",au "__init__")
 |40=>(au "WordReader",au "word")
 |41=>(au "WordReader",au "take_single")
 |42=>(au "WordReader",au "take_double")
 |43=>(au "WordReader",au "take_escape")
 |44=>(au "CommandReader",au "read")
 |45=>(au "CommandReader",au "pass_by")
 |46=>(au "CommandReader",au "new_group")
 |47=>(au "CommandReader",au "is_live")
 |48=>(au "CommandReader",au "end_command")
 |49=>(au "CommandReader",au "take_word")
 |_=>(au "CommandReader",au "add_word")
noncomputable def fj (f:Nat):Option iP:=if f<30 then(match oj.find? (·.2==f)with|some (x,_)=>sg x kU|none=>none)else if f<51 then sg (uT f).2 (yA (uT f).1 kU)else none
end
section
noncomputable def ot:cf:={b0:=1,ca:=0,cw:=[(Su,0)],cx:=3,ch:=0,aA:=.am (.aY (.tr (.aB .bp (.tr (.ba .bd (.ad 0))) (.ae 0))) (.am (.aO .az) .aw) .aw) (.am (.a6 (.ad 1) (.ae 0)) (.am (.eG .cN [.ad 2] (.ad 0) (.am (.aY (.ba .em (.tr (.eR .bY .bY (.ae 48) (.ad 2) (.ae 57)))) (.am (.aO .az) .aw) .aw) (.am (.a6 (.ad 1) (.aV .fS (.aV .bB (.aV .ek (.ae 10) (.ad 1)) (.ad 2)) (.ae 48))) .aw))) (.am (.aO (.ad 1)) .aw)))}
noncomputable def yB:cf:={b0:=2,ca:=0,cw:=[(Su,0),(Su,1)],cx:=2,ch:=0,aA:=.am (.aY (.or (.tr (.eR .bY .bY (.ae 65) (.ad 0) (.ae 90))) (.or (.tr (.eR .bY .bY (.ae 97) (.ad 0) (.ae 122))) (.tr (.aB .bp (.ad 0) (.ae 95))))) (.am (.aO (.aq Sp)) .aw) .aw) (.am (.aO (.and (.ba .em (.ad 1)) (.tr (.eR .bY .bY (.ae 48) (.ad 0) (.ae 57))))) .aw)}
noncomputable def ou:cf:={b0:=1,ca:=0,cw:=[(Su,0)],cx:=2,ch:=0,aA:=.am (.a6 (.ad 1) (.gj (.ai (.ae 97) (.ai (.ae 7) (.ai (.ae 98) (.ai (.ae 8) (.ai (.ae 101) (.ai (.ae 27) (.ai (.ae 102) (.ai (.ae 12) (.ai (.ae 110) (.ai (.ae 10) (.ai (.ae 114) (.ai (.ae 13) (.ai (.ae 115) (.ai (.ae 32) (.ai (.ae 116) (.ai (.ae 9) (.ai (.ae 118) (.ai (.ae 11) .ao)))))))))))))))))))) (.am (.aO (.tr (.bK .dg (.ad 1) (.ai (.ad 0) (.ai (.ad 0) .ao))))) .aw)}
noncomputable def uU:cf:={b0:=1,ca:=0,cw:=[(Su,0)],cx:=1,ch:=0,aA:=.am (.aY (.or (.tr (.aB .bX (.tr (.ba .bd (.ad 0))) (.ae 3))) (.or (.ba .em (.tr (.eR .bY .bY (.ae 48) (.aM (.ad 0) (.ae 0)) (.ae 51)))) (.or (.ba .em (.tr (.eR .bY .bY (.ae 48) (.aM (.ad 0) (.ae 1)) (.ae 55)))) (.ba .em (.tr (.eR .bY .bY (.ae 48) (.aM (.ad 0) (.ae 2)) (.ae 55))))))) (.am (.aO .az) .aw) .aw) (.am (.aO (.aV .fS (.aV .bB (.aV .bB (.aV .ek (.aV .fS (.aM (.ad 0) (.ae 0)) (.ae 48)) (.ae 64)) (.aV .ek (.aV .fS (.aM (.ad 0) (.ae 1)) (.ae 48)) (.ae 8))) (.aM (.ad 0) (.ae 2))) (.ae 48))) .aw)}
noncomputable def sh:cf:={b0:=3,ca:=2,cw:=[(Su,0),(Su,1),(Su,2)],cx:=3,ch:=0,aA:=.am (.aO (.tr (.cU 18 (.dw 4 (.ai (.ad 0) (.ai (.aY (.tr (.aB .hZ (.ad 1) .az)) (.ad 1) (.gj .ao)) (.ai (.ad 2) .ao)))) .ao))) .aw}
noncomputable def qd:cf:={b0:=1,ca:=0,cw:=[(Su,0)],cx:=3,ch:=0,aA:=.am (.aY (.or (.tr (.aB .bp (.ad 0) (.ag []))) (.tr (.aB .d' (.aM (.ad 0) (.ae 0)) (.dO (.ai (.ae 37) (.ai (.ae 126) .ao)))))) (.am (.aO (.aq Su)) .aw) .aw) (.am (.eG .cN [.ad 1] (.ad 0) (.am (.a6 (.ad 2) (.or (.tr (.bR 1 (.ai (.ad 1) (.ai (.aq Su) .ao)))) (.tr (.aB .d' (.ad 1) (.cr (.ag [45,95,46,47,58,44,61,43,64,37,94,42,63,60,62,33,124,38,91,93,40,41,126])))))) (.am (.aY (.ba .em (.ad 2)) (.am (.aO (.aq Su)) .aw) .aw) .aw))) (.am (.aO (.aq Sp)) .aw))}
noncomputable def si:cf:={b0:=1,ca:=0,cw:=[(Su,0)],cx:=3,ch:=0,aA:=.am (.aY (.tr (.bR 5 (.ai (.ad 0) .ao))) (.am (.aO (.ad 0)) .aw) .aw) (.am (.a6 (.ad 1) (.ba .bE (.ag [34]))) (.am (.eG .cN [.ad 2] (.ad 0) (.am (.aY (.tr (.aB .d' (.ad 2) (.dO (.ai (.ae 34) (.ai (.ae 36) (.ai (.ae 92) .ao)))))) (.am (.aU (.tr (.bK .h8 (.ad 1) (.ai (.tr (.ba .ag (.bj (.ai (.ae 92) (.ai (.ad 2) .ao))))) .ao)))) .aw) (.am (.aY (.or (.tr (.aB .bX (.ad 2) (.ae 32))) (.tr (.aB .bp (.ad 2) (.ae 127)))) (.am (.aU (.tr (.bK .h8 (.ad 1) (.ai (.tr (.ba .ag (.bj (.ai (.ae 92) (.ai (.aV .bB (.ae 48) (.aV .hW (.ad 2) (.ae 64))) (.ai (.aV .bB (.ae 48) (.aV .iN (.aV .hW (.ad 2) (.ae 8)) (.ae 8))) (.ai (.aV .bB (.ae 48) (.aV .iN (.ad 2) (.ae 8))) .ao))))))) .ao)))) .aw) (.am (.aU (.tr (.bK .dN (.ad 1) (.ai (.ad 2) .ao)))) .aw)) .aw)) .aw)) (.am (.aO (.aV .bB (.tr (.ba .ag (.ad 1))) (.ag [34]))) .aw)))}
noncomputable def yC:cf:={b0:=1,ca:=0,cw:=[(Su,0)],cx:=1,ch:=0,aA:=.am (.aY (.tr (.ba .gS (.ad 0))) (.am (.aO (.aV .bB (.aV .bB (.ag [123,32]) (.tr (.bR 9 (.ai (.ay (.ad 0) 4) .ao)))) (.ag [32,125]))) .aw) .aw) (.am (.aO (.tr (.bR 6 (.ai (.ad 0) .ao)))) .aw)}
noncomputable def yD:cf:={b0:=1,ca:=0,cw:=[(Su,0)],cx:=1,ch:=0,aA:=.am (.aO (.tr (.bK .mI (.ag [32]) (.ai (.dp (.tr (.bR 7 (.ai (.ad 1) .ao))) (.aq Sp) .cN (.ay (.ad 0) 2) 2 [1] []) .ao)))) .aw}
noncomputable def Ep:cf:={b0:=1,ca:=0,cw:=[(Su,0)],cx:=4,ch:=0,aA:=.am (.a6 (.ad 1) (.bj .ao)) (.am (.eG .jh [.ad 2,.ad 3] (.ad 0) (.am (.aY (.tr (.aB .lB (.ad 2) (.ae 0))) (.am (.aU (.tr (.bK .dN (.ad 1) (.ai (.aY (.tr (.aB .bp (.ay (.ad 3) 1) (.ay (.aM (.ad 0) (.aV .fS (.ad 2) (.ae 1))) 1))) (.ag [32,59,32]) (.ag [10])) .ao)))) .aw) .aw) (.am (.aU (.tr (.bK .dN (.ad 1) (.ai (.tr (.bR 8 (.ai (.ad 3) .ao))) .ao)))) .aw))) (.am (.aO (.tr (.bK .mI (.ag []) (.ai (.ad 1) .ao)))) .aw))}
noncomputable def yE:cf:={b0:=1,ca:=0,cw:=[(Su,0)],cx:=5,ch:=0,aA:=.am (.en [.ad 1,.ad 2] (.ai (.bj .ao) (.ai .az .ao))) (.am (.eG .cN [.ad 3] (.ad 0) (.am (.aY (.or (.tr (.aB .bp (.ad 1) (.bj .ao))) (.tr (.aB .bM (.ay (.ad 3) 1) (.ad 2)))) (.am (.aU (.tr (.bK .dN (.ad 1) (.ai (.bj .ao) .ao)))) .aw) .aw) (.am (.a6 (.ad 2) (.ay (.ad 3) 1)) (.am (.a6 (.ad 4) (.dp (.aY (.tr (.ba .gS (.ad 1))) (.tr (.bR 10 (.ai (.ay (.ad 1) 4) .ao))) (.ad 1)) (.aq Sp) .cN (.ay (.ad 3) 2) 2 [1] [])) (.am (.aU (.tr (.bK .dN (.aM (.ad 1) (.ae (-1))) (.ai (.ad 4) .ao)))) .aw))))) (.am (.aO (.ad 1)) .aw))}
noncomputable def j7:cf:={b0:=3,ca:=0,cw:=[(Su,0),(Su,1),(Su,2)],cx:=5,ch:=0,aA:=.am (.aY (.or (.tr (.ba .gS (.ad 1))) (.tr (.aB .bp (.ad 1) (.ag [])))) (.am (.ib (.ad 2)) .aw) .aw) (.am (.aY (.tr (.aB .d' (.ad 1) (.ad 0))) (.am (.aO (.aM (.ad 0) (.ad 1))) .aw) .aw) (.am (.a6 (.ad 3) (.bj .ao)) (.am (.eG .cN [.ad 4] (.ba .lD (.ad 0)) (.am (.aY (.tr (.aB .bp (.ay (.aM (.ad 0) (.ad 4)) 6) (.ad 1))) (.am (.aO (.aM (.ad 0) (.ad 4))) .aw) .aw) (.am (.aY (.tr (.bK .rY (.ad 4) (.ai (.ad 1) .ao))) (.am (.aU (.tr (.bK .dN (.ad 3) (.ai (.aM (.ad 0) (.ad 4)) .ao)))) .aw) .aw) .aw))) (.am (.aY (.tr (.aB .bM (.tr (.ba .bd (.ad 3))) (.ae 1))) (.am (.ib (.ad 2)) .aw) .aw) (.am (.aO (.aM (.ad 3) (.ae 0))) .aw)))))}
noncomputable def m1:cf:={b0:=3,ca:=0,cw:=[(Su,0),(Su,1),(Su,2)],cx:=10,ch:=0,aA:=.am (.a6 (.ad 3) (.ae 1)) (.am (.iO (.tr (.aB .bX (.ad 3) (.tr (.ba .bd (.ay (.ad 0) 2))))) (.am (.en [.ad 4,.ad 5] (.ai (.aM (.ay (.ad 0) 2) (.ad 3)) (.ai (.aM (.ay (.ad 0) 3) (.ad 3)) .ao))) (.am (.aY (.or (.tr (.ba .gS (.ad 4))) (.or (.tr (.aB .bM (.cT (.ad 4) .az (.ae 1)) (.ag [45]))) (.tr (.aB .bp (.ad 4) (.ag [45]))))) (.am (.aO (.ad 3)) .aw) .aw) (.am (.a6 (.ad 3) (.aV .bB (.ad 3) (.ae 1))) (.am (.aY (.tr (.aB .bp (.ad 4) (.ag [45,45]))) (.am (.aO (.ad 3)) .aw) .aw) (.am (.a6 (.ad 6) (.ae 1)) (.am (.iO (.tr (.aB .bX (.ad 6) (.tr (.ba .bd (.ad 4))))) (.am (.en [.ad 7,.ad 8] (.ai (.cT (.ad 4) (.ad 6) (.aV .bB (.ad 6) (.ae 1))) (.ai (.tr (.cU 0 (.ad 1) (.ai (.aM (.ad 4) (.ad 6)) .ao))) .ao))) (.am (.a6 (.ad 6) (.aV .bB (.ad 6) (.ae 1))) (.am (.aY (.tr (.aB .j0 (.ad 8) .az)) (.am (.ib (.ad 5)) .aw) .aw) (.am (.a6 (.ad 9) .az) (.am (.aY (.ad 8) (.am (.en [.ad 9,.ad 6] (.ai (.cT (.ad 4) (.ad 6) .az) (.ai (.tr (.ba .bd (.ad 4))) .ao))) (.am (.aY (.tr (.aB .bp (.ad 9) (.ag []))) (.am (.aY (.or (.tr (.aB .bp (.ad 3) (.tr (.ba .bd (.ay (.ad 0) 2))))) (.tr (.ba .gS (.aM (.ay (.ad 0) 2) (.ad 3))))) (.am (.ib (.ad 5)) .aw) .aw) (.am (.en [.ad 9,.ad 3] (.ai (.aM (.ay (.ad 0) 2) (.ad 3)) (.ai (.aV .bB (.ad 3) (.ae 1)) .ao))) .aw)) .aw) .aw)) .aw) (.am (.aU (.tr (.bK .dN (.tr (.bK .lF (.ay (.ad 2) 7) (.ai (.ad 7) (.ai (.bj .ao) .ao)))) (.ai (.ad 9) .ao)))) .aw))))))) .aw))))))) (.am (.aO (.ad 3)) .aw))}
noncomputable def jK:cf:={b0:=2,ca:=0,cw:=[(Su,0),(Su,1)],cx:=6,ch:=0,aA:=.am (.a6 (.ad 2) (.tr (.bR 11 (.ai (.ad 1) (.ai (.aM (.ay (.ad 0) 2) (.ae 0)) (.ai (.aM (.ay (.ad 0) 3) (.ae 0)) .ao)))))) (.am (.a6 (.ad 3) (.dw 3 (.ai (.ay (.ad 2) 5) (.ai (.aM (.ay (.ad 0) 3) (.ae 0)) (.ai (.ay (.ad 0) 1) .ao))))) (.am (.a6 (.ad 4) (.tr (.bR 12 (.ai (.ad 0) (.ai (.ad 2) (.ai (.ad 3) .ao)))))) (.am (.en [.ay (.ad 3) 2,.ay (.ad 3) 3] (.ai (.cT (.ay (.ad 0) 2) (.ad 4) .az) (.ai (.cT (.ay (.ad 0) 3) (.ad 4) .az) .ao))) (.am (.a6 (.ad 5) (.tr (.ba .bd (.ay (.ad 3) 2)))) (.am (.aY (.or (.tr (.aB .bX (.ad 5) (.ay (.ad 2) 8))) (.and (.tr (.aB .hZ (.ay (.ad 2) 9) .az)) (.tr (.aB .lB (.ad 5) (.ay (.ad 2) 9))))) (.am (.ib (.aM (.ay (.ad 0) 3) (.ae 0))) .aw) .aw) (.am (.aO (.ad 3)) .aw))))))}
noncomputable def uV:cf:={b0:=3,ca:=1,cw:=[(Su,0),(Su,1),(Su,2)],cx:=6,ch:=1,aA:=.am (.a6 (.ad 3) (.bj .ao)) (.am (.eG .cN [.aW 0] (.ad 0) (.am (.a6 (.ad 4) (.aM (.ay (.aW 0) 2) (.ae 0))) (.am (.aY (.tr (.aB .gh (.ad 4) (.ad 1))) (.am (.aU (.tr (.bK .dN (.ad 3) (.ai (.aW 0) .ao)))) (.am .dR .aw)) .aw) (.am (.a6 (.ad 5) (.dp (.dw 0 (.ai (.ay (.aW 0) 1) (.ai (.ay (.ad 1) 2) (.ai (.aV .ek (.bj (.ai (.aM (.ay (.aW 0) 3) (.ae 0)) .ao)) (.tr (.ba .bd (.ay (.ad 1) 2)))) .ao)))) (.aq Sp) .cN (.tr (.bR 4 (.ai (.aM (.ad 1) (.ad 4)) (.ai (.ad 2) .ao)))) 2 [1] [0])) (.am (.aY (.tr (.aB .bM (.ad 5) (.bj .ao))) (.am (.aU (.tr (.bK .h8 (.ay (.aM (.ad 5) (.ae (-1))) 2) (.ai (.cT (.ay (.aW 0) 2) (.ae 1) .az) .ao)))) (.am (.aU (.tr (.bK .h8 (.ay (.aM (.ad 5) (.ae (-1))) 3) (.ai (.cT (.ay (.aW 0) 3) (.ae 1) .az) .ao)))) .aw)) .aw) (.am (.aU (.tr (.bK .h8 (.ad 3) (.ai (.ad 5) .ao)))) .aw)))))) (.am (.aO (.ad 3)) .aw))}
noncomputable def uW:cf:={b0:=3,ca:=2,cw:=[(Su,0),(Su,1),(Su,2)],cx:=3,ch:=0,aA:=.am (.aY (.tr (.ba .gS (.ad 0))) (.am (.aO (.ba .ah (.ay (.ad 0) 4))) .aw) .aw) (.am (.aO (.tr (.bR 4 (.ai (.ad 0) (.ai (.ad 1) (.ai (.ad 2) .ao)))))) .aw)}
noncomputable def yF:cf:={b0:=2,ca:=0,cw:=[(Su,0),(Su,1)],cx:=2,ch:=0,aA:=.am (.a6 (.aM (.ad 0) (.ae 1)) (.aV .bB (.aM (.ad 0) (.ae 1)) (.ae 1))) (.am (.aO (.aY (.tr (.aB .bY (.aM (.ad 0) (.ae 1)) (.tr (.ba .bd (.aM (.ad 0) (.ae 0)))))) (.aV .iN (.aM (.aM (.ad 0) (.ae 0)) (.aV .fS (.aM (.ad 0) (.ae 1)) (.ae 1))) (.ad 1)) (.ae 0))) .aw)}
noncomputable def uX:cf:={b0:=1,ca:=0,cw:=[(Su,0)],cx:=4,ch:=0,aA:=.am (.a6 (.ad 1) (.gj .ao)) (.am (.eG .jh [.ad 2,.ad 3] (.cr (.bW 460)) (.am (.aY (.tr (.aB .bp (.aV .iN (.aV .hW (.ad 0) (.aV .lA (.ae 2) (.ad 2))) (.ae 2)) (.ae 0))) (.am (.a6 (.aM (.ad 1) (.aM (.ad 3) (.ae 0))) (.dw 2 (.ai (.aM (.ad 3) (.ae 0)) (.ai (.aM (.ad 3) (.ae 1)) (.ai (.aM (.ad 3) (.ae 2)) (.ai (.aM (.ad 3) (.ae 3)) (.ai (.aM (.ad 3) (.ae 4)) .ao))))))) .aw) .aw) .aw)) (.am (.aO (.ad 1)) .aw))}
noncomputable def ov:cf:={b0:=2,ca:=0,cw:=[(Sp,0),(Sp,1)],cx:=2,ch:=2,aA:=.am (.aY (.or (.tr (.aB .bp (.aW 1) (.ag []))) (.tr (.aB .d' (.aW 1) (.aW 0)))) (.am (.aO (.aY (.tr (.aB .bM (.aW 1) (.ag []))) (.aW 1) .az)) .aw) .aw) (.am (.a6 (.ad 0) (.dp (.aM (.ad 1) (.ae 0)) (.and (.tr (.aB .d' (.aM (.ad 1) (.ae 0)) (.aW 0))) (.tr (.aB .bp (.aM (.ad 1) (.ae 1)) (.aW 1)))) .cN (.cr (.bW 460)) 2 [1] [0,1])) (.am (.a6 (.ad 1) (.mJ (.aW 0) 1)) (.am (.aO (.aY (.tr (.aB .bM (.ad 0) (.bj .ao))) (.aM (.ad 0) (.ae 0)) (.aY (.tr (.aB .bp (.tr (.ba .bd (.ad 1))) (.ae 1))) (.aM (.ad 1) (.ae 0)) .az))) .aw)))}
noncomputable def sj:cf:={b0:=1,ca:=0,cw:=[(Sp,0)],cx:=2,ch:=2,aA:=.am (.eG .cN [.aW 1] (.dO (.ai (.ag [115,112,108,105,116]) (.ai (.ag [115,112]) (.ai (.ag [115,112,108]) (.ai (.ag [115]) (.ai (.ag [115,104]) (.ai (.ag [115,104,111,119]) (.ai (.ag [115,119]) (.ai (.ag [110]) (.ai (.ag [110,112]) (.ai (.ag [110,101,119,45,112,97,110,101]) (.ai (.ag [120]) (.ai (.ag []) (.ai (.ag [115,112,108,105,116,45]) (.ai (.ag [115,104,111,119,45,114,111,119,115]) .ao))))))))))))))) (.am (.a6 (.ad 0) (.tr (.bR 18 (.ai (.aW 0) (.ai (.aW 1) .ao))))) (.am (.a6 (.ad 1) (.iv (.cq 0 [0,1]))) (.am (.aY (.tr (.aB .bM (.ad 1) (.aY (.tr (.aB .j0 (.ad 0) .az)) (.dO (.ai (.bx 1) (.ai (.ae 7) .ao))) (.dO (.ai (.bx 0) (.ai (.ad 0) .ao)))))) (.am (.aO (.aq Su)) .aw) .aw) .aw)))) (.am (.aO (.tr (.aB .bp (.iv (.cq 1 [0])) (.dO (.ai (.bx 1) (.ai (.ae 9) .ao)))))) .aw)}
noncomputable def kV:cf:={b0:=4,ca:=0,cw:=[(Su,0),(Su,1),(Su,2),(Su,3)],cx:=13,ch:=0,aA:=.am (.en [.ad 4,.ad 5,.ad 6] (.ai (.gj .ao) (.ai (.gj .ao) (.ai (.ae 0) .ao)))) (.am (.eG .gU [.ad 7] (.tr (.ba .bd (.aM (.ad 0) (.ae 2)))) (.am (.aY (.tr (.aB .bM (.aM (.aM (.ad 0) (.ae 2)) (.ad 7)) (.ae 58))) (.am (.a6 (.aM (.ad 4) (.cT (.aM (.ad 0) (.ae 2)) (.ad 7) (.aV .bB (.ad 7) (.ae 1)))) (.tr (.aB .bp (.cT (.aM (.ad 0) (.ae 2)) (.aV .bB (.ad 7) (.ae 1)) (.aV .bB (.ad 7) (.ae 2))) (.ag [58])))) .aw) .aw) .aw)) (.am (.iO (.and (.tr (.aB .bX (.ad 6) (.tr (.ba .bd (.ad 1))))) (.and (.tr (.ba .jg (.aM (.ad 1) (.ad 6)))) (.and (.tr (.aB .bp (.cT (.aM (.ad 1) (.ad 6)) .az (.ae 1)) (.ag [45]))) (.tr (.aB .bM (.aM (.ad 1) (.ad 6)) (.ag [45])))))) (.am (.en [.ad 8,.ad 9,.ad 6] (.ai (.aM (.ad 3) (.ad 6)) (.ai (.cT (.aM (.ad 1) (.ad 6)) (.ae 1) .az) (.ai (.aV .bB (.ad 6) (.ae 1)) .ao)))) (.am (.aY (.tr (.aB .bp (.ad 9) (.ag [45]))) (.am .eu .aw) .aw) (.am (.iO (.tr (.aB .bM (.ad 9) (.ag []))) (.am (.en [.ad 10,.ad 9] (.ai (.cT (.ad 9) .az (.ae 1)) (.ai (.cT (.ad 9) (.ae 1) .az) .ao))) (.am (.aY (.tr (.aB .gh (.ad 10) (.ad 4))) (.am (.aO (.ad 8)) .aw) .aw) (.am (.a6 (.ad 11) .az) (.am (.aY (.and (.aM (.ad 4) (.ad 10)) (.tr (.aB .bM (.ad 9) (.ag [])))) (.am (.en [.ad 11,.ad 9] (.ai (.ad 9) (.ai (.ag []) .ao))) .aw) (.am (.aY (.aM (.ad 4) (.ad 10)) (.am (.aY (.or (.tr (.aB .bp (.ad 6) (.tr (.ba .bd (.ad 1))))) (.ba .em (.tr (.ba .jg (.aM (.ad 1) (.ad 6)))))) (.am (.aO (.ad 8)) .aw) .aw) (.am (.en [.ad 11,.ad 6] (.ai (.aM (.ad 1) (.ad 6)) (.ai (.aV .bB (.ad 6) (.ae 1)) .ao))) .aw)) .aw) .aw)) (.am (.a6 (.aM (.ad 5) (.ad 10)) (.aV .bB (.tr (.bK .dg (.ad 5) (.ai (.ad 10) (.ai (.bj .ao) .ao)))) (.bj (.ai (.ad 11) .ao)))) .aw)))))) .aw)))) (.am (.a6 (.ad 12) (.aV .fS (.tr (.ba .bd (.ad 1))) (.ad 6))) (.am (.aY (.or (.tr (.aB .bX (.ad 12) (.aM (.ad 0) (.ae 3)))) (.and (.tr (.aB .hZ (.aM (.ad 0) (.ae 4)) .az)) (.tr (.aB .lB (.ad 12) (.aM (.ad 0) (.ae 4)))))) (.am (.aO (.ad 2)) .aw) .aw) (.am (.aO (.dO (.ai (.ad 5) (.ai (.cT (.ad 1) (.ad 6) .az) (.ai (.cT (.ad 3) (.ad 6) .az) .ao))))) .aw)))))}
noncomputable def ox:cf:={b0:=2,ca:=0,cw:=[(Su,0),(Sp,0)],cx:=11,ch:=4,aA:=.am (.a6 (.aW 2) (.aM (.cr (.bW 460)) (.tr (.bR 16 (.ai (.ad 0) (.ai (.ae 6) .ao)))))) (.am (.en [.aW 3,.ad 1] (.ai (.bj .ao) (.ai (.bj (.ai (.ag [45,97]) (.ai (.ag [45,116]) (.ai (.ag [45,116,118]) (.ai (.ag [45,97,116]) (.ai (.ag [45,100]) (.ai (.ag [45,104,100]) (.ai (.ag [45,99,55]) (.ai (.ag [45,99]) (.ai (.ag [45,110]) (.ai (.ag [45,110,45,49,50]) (.ai (.ag [45,45]) (.ai (.ag [45]) (.ai (.ag [119]) (.ai (.ag [45,53]) (.ai (.ag [45,120]) (.ai (.ag []) .ao))))))))))))))))) .ao))) (.am (.eG .gU [.ad 2] (.tr (.bR 16 (.ai (.ad 0) (.ai (.ae 7) .ao)))) (.am (.a6 (.ad 3) (.tr (.bR 16 (.ai (.ad 0) (.ai (.ae 19) .ao))))) (.am (.aU (.tr (.bK .dN (.aW 3) (.ai (.aY (.tr (.aB .lB (.ad 3) (.ae 16))) (.dw 1 (.ai (.bj .ao) .ao)) (.aY (.tr (.aB .bX (.ad 3) (.ae 16))) (.aM (.ad 1) (.ad 3)) (.ag [56]))) .ao)))) .aw))) (.am (.a6 (.aW 1) (.dp (.aV .bB (.ae 30) (.aV .ek (.ae 3) (.ad 1))) (.aq Sp) .gU (.tr (.ba .bd (.aW 3))) 2 [1] [])) (.am (.a6 (.ad 4) (.dO (.ai (.bx 1) (.ai (.ae 20) .ao)))) (.am (.aY (.tr (.aB .d' (.aM (.aW 2) (.ae 0)) (.aW 0))) (.am (.a6 (.ad 5) (.tr (.bR 20 (.ai (.aW 2) (.ai (.aW 3) (.ai (.ae 20) (.ai (.aW 1) .ao))))))) (.am (.a6 (.ad 4) (.aY (.tr (.ba .n9 (.ad 5))) (.dO (.ai (.bx 1) (.ai (.ad 5) .ao))) (.dO (.ai (.bx 0) (.ai (.ad 5) .ao))))) .aw)) .aw) (.am (.a6 (.ad 6) (.iv (.cq 2 [1,2,0,3]))) (.am (.aY (.and (.tr (.aB .gh (.aM (.aW 2) (.ae 0)) (.aW 0))) (.tr (.aB .hZ (.tr (.bR 18 (.ai (.aW 0) (.ai (.aM (.aW 2) (.ae 0)) .ao)))) .az))) (.am (.aO (.aq Sp)) .aw) .aw) (.am (.aY (.tr (.aB .bp (.aM (.ad 4) (.ae 0)) (.bx 1))) (.am (.aO (.tr (.aB .bp (.ad 6) (.ad 4)))) .aw) .aw) (.am (.a6 (.ad 7) (.aM (.ad 6) (.ae 1))) (.am (.aY (.or (.tr (.aB .bM (.aM (.ad 6) (.ae 0)) (.bx 0))) (.tr (.aB .bM (.dO (.ai (.ay (.ad 7) 5) (.ai (.ay (.ad 7) 10) (.ai (.ay (.ad 7) 1) .ao)))) (.dO (.ai (.aM (.aW 2) (.ae 0)) (.ai (.ae 20) (.ai (.ae 4) .ao))))))) (.am (.aO (.aq Su)) .aw) .aw) (.am (.mK [.ad 8,.ad 9,.ad 10] (.aM (.ad 4) (.ae 1))) (.am (.aY (.or (.tr (.aB .bM (.ay (.ad 7) 7) (.ad 8))) (.or (.tr (.aB .bM (.tr (.ba .bd (.ay (.ad 7) 2))) (.tr (.ba .bd (.ad 9))))) (.tr (.aB .bM (.ba .ah (.ay (.ad 7) 3)) (.ad 10))))) (.am (.aO (.aq Su)) .aw) .aw) (.am (.aY (.tr (.aB .bM (.dp (.aY (.tr (.ba .jg (.ad 1))) (.ad 1) (.bx 2)) (.aq Sp) .cN (.ay (.ad 7) 2) 2 [1] []) (.dp (.aY (.tr (.ba .jg (.ad 1))) (.ad 1) (.bx 2)) (.aq Sp) .cN (.ad 9) 2 [1] []))) (.am (.aO (.aq Su)) .aw) .aw) (.am (.aO (.tr (.bR 22 (.ai (.ad 7) (.ai (.ad 8) .ao))))) .aw))))))))))))))}
noncomputable def uY:cf:={b0:=2,ca:=0,cw:=[(Sp,0),(Su,0)],cx:=5,ch:=2,aA:=.am (.eG .cN [.aW 1] (.dO (.ai (.ag [97]) (.ai (.ag [116]) (.ai (.ag [110]) (.ai (.ag [99]) (.ai (.ag [122]) .ao)))))) (.am (.a6 (.ad 1) (.tr (.bK .dg (.ad 0) (.ai (.aW 1) (.ai (.bj .ao) .ao))))) (.am (.aY (.or (.tr (.aB .bM (.tr (.cU 1 (.aW 0) (.ai (.aW 1) .ao))) (.tr (.aB .bM (.ad 1) (.bj .ao))))) (.tr (.aB .bM (.tr (.cU 2 (.aW 0) (.ai (.aW 1) (.ai (.ag [110,111,110,101]) .ao)))) (.aY (.tr (.aB .bM (.ad 1) (.bj .ao))) (.aM (.ad 1) (.ae (-1))) (.ag [110,111,110,101]))))) (.am (.aO (.aq Su)) .aw) .aw) (.am (.aY (.tr (.aB .bp (.ad 1) (.bj .ao))) (.am (.aY (.tr (.aB .bM (.tr (.cU 3 (.aW 0) (.ai (.aW 1) (.ai (.ae 0) (.ai (.ae 9) (.ai (.ae 5) .ao)))))) (.ae 5))) (.am (.aO (.aq Su)) .aw) .aw) .aw) (.am (.aY (.and (.tr (.aB .hZ (.aM (.ad 1) (.ae (-1))) .az)) (.tr (.aB .bM (.cT (.aM (.ad 1) (.ae (-1))) .az (.ae 1)) (.ag [45])))) (.am (.en [.ad 2,.ad 3] (.ai (.aM (.ad 1) (.ae (-1))) (.ai .az .ao))) (.am (.aY (.and (.tr (.aB .bM (.ad 2) (.ag []))) (.tr (.aB .bp (.dp (.ad 1) (.ba .em (.tr (.eR .bY .bY (.ae 48) (.ad 1) (.ae 57)))) .cN (.ad 2) 2 [1] []) (.bj .ao)))) (.am (.a6 (.ad 3) (.tr (.ba .mH (.dp (.aV .ek (.aV .fS (.ad 2) (.ae 48)) (.aV .lA (.ae 10) (.ad 1))) (.aq Sp) .jh (.pM (.ad 2)) 3 [1,2] [])))) .aw) .aw) (.am (.a6 (.ad 4) (.and (.tr (.aB .hZ (.ad 3) .az)) (.tr (.eR .bY .bY (.ae 1) (.ad 3) (.ae 9))))) (.am (.aY (.tr (.aB .bM (.iv (.cq 3 [1,0])) (.aY (.ad 4) (.dO (.ai (.bx 0) (.ai (.ad 3) .ao))) (.dO (.ai (.bx 1) (.ai (.ae 20) .ao)))))) (.am (.aO (.aq Su)) .aw) .aw) .aw)))) .aw) .aw)) .aw)))) (.am (.aO (.aq Sp)) .aw)}
noncomputable def sm:cf:={b0:=1,ca:=0,cw:=[(Su,0)],cx:=3,ch:=1,aA:=.am (.a6 (.aW 0) (.ag [97,98,99,100,101,102,103,104,105,106,107,108,109,110,111,112,113,114,115,116,117,118,119,120,121,122,65,66,67,68,69,70,71,72,73,74,75,76,77,78,79,80,81,82,83,84,85,86,87,88,89,90,48,49,50,51,52,53,54,55,56,57,95,45,95,46,47,58,44,61,43,64,37,94,42,63,60,62,33,124,38,91,93,40,41,126])) (.am (.aY (.and (.tr (.aB .bM (.ad 0) (.ag []))) (.and (.tr (.aB .gh (.aM (.ad 0) (.ae 0)) (.ag [37,126]))) (.tr (.aB .bp (.dp (.ad 1) (.tr (.aB .gh (.ad 1) (.aW 0))) .cN (.ad 0) 2 [1] [0]) (.bj .ao))))) (.am (.aO (.ad 0)) .aw) .aw) (.am (.a6 (.ad 2) (.ag [34])) (.am (.eG .cN [.ad 1] (.ad 0) (.am (.aY (.tr (.aB .d' (.ad 1) (.ag [34,36,92]))) (.am (.a6 (.ad 2) (.aV .bB (.aV .bB (.ad 2) (.ag [92])) (.tr (.ba .ag (.bj (.ai (.ad 1) .ao)))))) .aw) (.am (.aY (.or (.tr (.aB .bX (.ad 1) (.ae 32))) (.tr (.aB .bp (.ad 1) (.ae 127)))) (.am (.a6 (.ad 2) (.aV .bB (.aV .bB (.ad 2) (.ag [92])) (.tr (.ba .ag (.bj (.ai (.aV .bB (.ae 48) (.aV .hW (.ad 1) (.ae 64))) (.ai (.aV .bB (.ae 48) (.aV .iN (.aV .hW (.ad 1) (.ae 8)) (.ae 8))) (.ai (.aV .bB (.ae 48) (.aV .iN (.ad 1) (.ae 8))) .ao)))))))) .aw) (.am (.a6 (.ad 2) (.aV .bB (.ad 2) (.tr (.ba .ag (.bj (.ai (.ad 1) .ao)))))) .aw)) .aw)) .aw)) (.am (.aO (.aV .bB (.ad 2) (.ag [34]))) .aw))))}
noncomputable def lO:cf:={b0:=1,ca:=0,cw:=[(Sp,0)],cx:=4,ch:=2,aA:=.am (.a6 (.aW 1) (.ag [97,126,37,45,123,125,59,35,32,39,34,36,92,10,0,127,195,42,48,91,93,94,124,38,9,40,90])) (.am (.a6 (.ad 0) (.bj (.ai (.ag [99]) .ao))) (.am (.eG .gU [.ad 1] (.tr (.bR 16 (.ai (.aW 0) (.ai (.ae 4) .ao)))) (.am (.a6 (.ad 2) (.dp (.aM (.aW 0) (.tr (.bR 16 (.ai (.aW 1) (.ai (.tr (.ba .bd (.aW 0))) .ao))))) (.aq Sp) .gU (.tr (.bR 16 (.ai (.aW 0) (.ai (.ae 6) .ao)))) 2 [1] [1,0])) (.am (.aU (.tr (.bK .dN (.ad 0) (.ai (.tr (.ba .ag (.ad 2))) .ao)))) .aw))) (.am (.aY (.tr (.aB .bM (.dp (.tr (.bR 6 (.ai (.ad 1) .ao))) (.aq Sp) .cN (.ad 0) 2 [1] []) (.dp (.tr (.bR 23 (.ai (.ad 1) .ao))) (.aq Sp) .cN (.ad 0) 2 [1] []))) (.am (.aO (.aq Su)) .aw) .aw) (.am (.a6 (.ad 2) (.tr (.bR 8 (.ai (.dw 0 (.ai (.ae 0) (.ai (.ad 0) (.ai (.aV .ek (.bj (.ai (.ae 0) .ao)) (.tr (.ba .bd (.ad 0)))) .ao)))) .ao)))) (.am (.aY (.tr (.aB .bM (.ad 2) (.tr (.bK .mI (.ag [32]) (.ai (.dp (.tr (.bR 23 (.ai (.ad 1) .ao))) (.aq Sp) .cN (.ad 0) 2 [1] []) .ao))))) (.am (.aO (.aq Su)) .aw) .aw) (.am (.a6 (.ad 3) (.tr (.bR 4 (.ai (.ad 2) (.ai (.gj .ao) .ao))))) (.am (.aO (.and (.tr (.aB .bp (.tr (.ba .bd (.ad 3))) (.ae 1))) (.tr (.aB .bp (.ay (.aM (.ad 3) (.ae 0)) 2) (.ad 0))))) .aw)))))))}
noncomputable def jL:cf:={b0:=1,ca:=0,cw:=[(Sp,0)],cx:=12,ch:=2,aA:=.am (.a6 (.ad 0) (.gj (.ai (.ag [116,119,111]) (.ai (.ag [111,110,101,32,120,32,59,32,112,32,39,121,32,122,39]) (.ai (.ag [111,110,101]) (.ai (.ag [113]) (.ai (.ag [110,111]) (.ai (.ag [32,35,32,114]) .ao)))))))) (.am (.a6 (.ad 1) (.gj (.ai (.ag [116,119,111]) (.ai (.bj (.ai (.bj (.ai (.ag [111,110,101]) (.ai (.ag [120]) .ao))) (.ai (.bj (.ai (.ag [112]) (.ai (.ag [121,32,122]) .ao))) .ao))) (.ai (.ag [111,110,101]) (.ai (.bj (.ai (.bj (.ai (.ag [113]) .ao)) .ao)) (.ai (.ag [110,111]) (.ai (.bj .ao) .ao)))))))) (.am (.en [.ad 2,.ad 3] (.ai (.bj .ao) (.ai (.bj .ao) .ao))) (.am (.eG .gU [.aW 1] (.tr (.bR 16 (.ai (.aW 0) (.ai (.ae 5) .ao)))) (.am (.a6 (.ad 4) (.bj (.ai (.aM (.bj (.ai (.ag [116,119,111]) (.ai (.ag [111,110,101]) (.ai (.ag [110,111]) (.ai (.ag [111,116,104,101,114]) .ao))))) (.tr (.bR 16 (.ai (.aW 0) (.ai (.ae 4) .ao))))) .ao))) (.am (.a6 (.ad 4) (.aV .bB (.ad 4) (.dp (.aM (.bj (.ai (.ag [118]) (.ai (.ag [111,110,101]) (.ai (.ag [45,97]) .ao)))) (.tr (.bR 16 (.ai (.aW 0) (.ai (.ae 3) .ao))))) (.aq Sp) .gU (.tr (.bR 16 (.ai (.aW 0) (.ai (.ae 3) .ao)))) 2 [1] [0]))) (.am (.a6 (.ad 5) (.dp (.aV .bB (.aV .ek (.ae 10) (.aW 0)) (.ad 1)) (.aq Sp) .gU (.tr (.ba .bd (.ad 4))) 2 [1] [1])) (.am (.aU (.tr (.bK .dN (.ad 2) (.ai (.dw 0 (.ai (.aV .hW (.aW 1) (.ae 2)) (.ai (.ad 4) (.ai (.ad 5) .ao)))) .ao)))) (.am (.aY (.tr (.aB .gh (.aM (.ad 4) (.ae 0)) (.ad 1))) (.am (.aU (.tr (.bK .dN (.ad 3) (.ai (.dO (.ai (.aV .hW (.aW 1) (.ae 2)) (.ai (.ad 4) (.ai (.ad 5) .ao)))) .ao)))) .aw) .aw) (.am (.eG .jh [.ad 6,.ad 7] (.tr (.bK .dg (.ad 1) (.ai (.aM (.ad 4) (.ae 0)) (.ai (.bj .ao) .ao)))) (.am (.a6 (.ad 8) (.tr (.aB .bp (.aV .bB (.ad 6) (.ae 1)) (.tr (.ba .bd (.aM (.ad 1) (.aM (.ad 4) (.ae 0)))))))) (.am (.a6 (.ad 9) (.aV .bB (.ad 7) (.aY (.ad 8) (.cT (.ad 4) (.ae 1) .az) (.bj .ao)))) (.am (.aU (.tr (.bK .dN (.ad 3) (.ai (.dO (.ai (.aV .hW (.aW 1) (.ae 2)) (.ai (.ad 9) (.ai (.aV .bB (.aV .ek (.bj (.ai (.aV .ek (.ae 10) (.aW 1)) .ao)) (.tr (.ba .bd (.ad 7)))) (.aY (.ad 8) (.cT (.ad 5) (.ae 1) .az) (.bj .ao))) .ao)))) .ao)))) .aw)))) .aw))))))) (.am (.a6 (.ad 10) (.tr (.bR 14 (.ai (.ad 2) (.ai (.ad 0) .ao))))) (.am (.aY (.tr (.aB .bM (.dp (.dO (.ai (.ay (.ad 1) 1) (.ai (.ba .ah (.ay (.ad 1) 2)) (.ai (.ba .ah (.ay (.ad 1) 3)) .ao)))) (.aq Sp) .cN (.ad 10) 2 [1] []) (.ad 3))) (.am (.aO (.aq Su)) .aw) .aw) (.am (.a6 (.ad 11) (.dw 1 (.ai (.ad 2) .ao))) (.am (.aY (.tr (.aB .bM (.tr (.bR 10 (.ai (.tr (.bR 15 (.ai (.ad 11) .ao))) .ao))) (.tr (.bR 10 (.ai (.ad 2) .ao))))) (.am (.aO (.aq Su)) .aw) .aw) (.am (.aO (.tr (.aB .bp (.dp (.ay (.ad 1) 2) (.aq Sp) .cN (.tr (.bR 15 (.ai (.ag [97,32,98,59,32,99]) .ao))) 2 [1] []) (.bj (.ai (.bj (.ai (.ag [97]) (.ai (.ag [98]) .ao))) (.ai (.bj (.ai (.ag [99]) .ao)) .ao)))))) .aw))))))))}
noncomputable def lP:cf:={b0:=1,ca:=0,cw:=[(Su,0)],cx:=3,ch:=0,aA:=.am (.a6 (.ad 1) (.bj (.ai (.dp (.aV .iN (.ad 1) (.ae 1048576)) (.aq Sp) .cN (.cT (.ad 0) .az (.ae 60)) 2 [1] []) (.ai (.ae 0) .ao)))) (.am (.a6 (.ad 2) (.tr (.bR 17 (.ai (.tr (.bR 16 (.ai (.ad 1) (.ai (.ae 64) .ao)))) .ao)))) (.am (.aY (.or (.ba .em (.tr (.bR 19 (.ai (.ad 2) .ao)))) (.or (.ba .em (.tr (.bR 24 (.ai (.ad 1) .ao)))) (.ba .em (.tr (.bR 25 (.ai (.ad 1) .ao)))))) (.am (.aO (.aq Su)) .aw) .aw) (.am (.aO (.and (.tr (.bR 21 (.ai (.ad 1) (.ai (.ad 2) .ao)))) (.tr (.bR 21 (.ai (.ad 1) (.ai (.ad 2) .ao)))))) .aw)))}
noncomputable def yG:cf:={b0:=4,ca:=0,cw:=[(Su,0),(Su,1),(Su,2),(Su,3)],cx:=4,ch:=0,aA:=.am (.a6 (.ay (.ad 0) 1) (.ad 1)) (.am (.a6 (.ay (.ad 0) 2) (.ad 2)) (.am (.a6 (.ay (.ad 0) 3) (.ad 3)) .aw))}
noncomputable def yH:cf:={b0:=2,ca:=0,cw:=[(Su,0),(Su,1)],cx:=2,ch:=0,aA:=.am (.a6 (.ay (.ad 0) 4) (.ad 1)) .aw}
noncomputable def yI:cf:={b0:=6,ca:=0,cw:=[(Su,0),(Su,1),(Su,2),(Su,3),(Su,4),(Su,5)],cx:=6,ch:=0,aA:=.am (.a6 (.ay (.ad 0) 5) (.ad 1)) (.am (.a6 (.ay (.ad 0) 6) (.ad 2)) (.am (.a6 (.ay (.ad 0) 7) (.ad 3)) (.am (.a6 (.ay (.ad 0) 8) (.ad 4)) (.am (.a6 (.ay (.ad 0) 9) (.ad 5)) .aw))))}
noncomputable def qe:cf:={b0:=2,ca:=0,cw:=[(Su,0),(Su,1)],cx:=3,ch:=0,aA:=.am (.a6 (.ad 2) (.tr (.bK .rX (.ay (.ad 0) 7) (.ai (.tr (.ba .ag (.bj (.ai (.ad 1) .ao)))) .ao)))) (.am (.aY (.or (.tr (.aB .bp (.ad 1) (.ae 58))) (.tr (.aB .bX (.ad 2) (.ae 0)))) (.am (.aO .az) .aw) .aw) (.am (.aO (.tr (.aB .bp (.cT (.ay (.ad 0) 7) (.aV .bB (.ad 2) (.ae 1)) (.aV .bB (.ad 2) (.ae 2))) (.ag [58])))) .aw))}
noncomputable def yJ:cf:={b0:=4,ca:=0,cw:=[(Su,0),(Su,1),(Su,2),(Su,3)],cx:=4,ch:=0,aA:=.am (.a6 (.ay (.ad 0) 5) (.ad 1)) (.am (.a6 (.ay (.ad 0) 10) (.ad 2)) (.am (.a6 (.ay (.ad 0) 1) (.ad 3)) (.am (.a6 (.ay (.ad 0) 7) (.gj .ao)) (.am (.a6 (.ay (.ad 0) 2) (.bj .ao)) (.am (.a6 (.ay (.ad 0) 3) (.bj .ao)) .aw)))))}
noncomputable def yK:cf:={b0:=2,ca:=0,cw:=[(Su,0),(Su,1)],cx:=2,ch:=0,aA:=.am (.aO (.tr (.aB .d' (.ad 1) (.ay (.ad 0) 7)))) .aw}
noncomputable def uZ:cf:={b0:=3,ca:=1,cw:=[(Su,0),(Su,1),(Su,2)],cx:=3,ch:=0,aA:=.am (.aO (.aY (.tr (.aB .d' (.ad 1) (.ay (.ad 0) 7))) (.aM (.aM (.ay (.ad 0) 7) (.ad 1)) (.ae (-1))) (.ad 2))) .aw}
noncomputable def lQ:cf:={b0:=5,ca:=1,cw:=[(Su,0),(Su,1),(Su,2),(Su,3),(Su,4)],cx:=7,ch:=0,aA:=.am (.aY (.tr (.aB .gh (.ad 1) (.ay (.ad 0) 7))) (.am (.aO (.ad 4)) .aw) .aw) (.am (.a6 (.ad 5) (.aM (.aM (.ay (.ad 0) 7) (.ad 1)) (.ae (-1)))) (.am (.a6 (.ad 6) (.tr (.bR 0 (.ai (.aY (.tr (.aB .bp (.cT (.ad 5) .az (.ae 1)) (.ag [45]))) (.cT (.ad 5) (.ae 1) .az) (.ad 5)) .ao)))) (.am (.aY (.and (.tr (.aB .hZ (.ad 6) .az)) (.tr (.aB .bp (.cT (.ad 5) .az (.ae 1)) (.ag [45])))) (.am (.a6 (.ad 6) (.aV .fS (.ae 0) (.ad 6))) .aw) .aw) (.am (.aY (.or (.tr (.aB .j0 (.ad 6) .az)) (.ba .em (.tr (.eR .bY .bY (.ad 2) (.ad 6) (.ad 3))))) (.am (.ib (.ay (.ad 0) 10)) .aw) .aw) (.am (.aO (.ad 6)) .aw)))))}
noncomputable def yL:cf:={b0:=3,ca:=0,cw:=[(Su,0),(Su,1),(Su,2)],cx:=3,ch:=0,aA:=.am (.a6 (.ay (.ad 0) 11) (.ad 1)) (.am (.a6 (.ay (.ad 0) 12) (.ad 2)) (.am (.a6 (.ay (.ad 0) 13) (.ae 0)) .aw))}
noncomputable def u2:cf:={b0:=4,ca:=0,cw:=[(Su,0),(Su,1),(Su,2),(Su,3)],cx:=4,ch:=0,aA:=.am (.aU (.tr (.cU 19 (.ad 0) (.ai (.ad 1) (.ai (.ad 2) .ao))))) (.am (.a6 (.ay (.ad 0) 14) (.ad 3)) (.am (.a6 (.ay (.ad 0) 4) (.bj .ao)) (.am (.a6 (.ay (.ad 0) 15) .az) (.am (.a6 (.ay (.ad 0) 1) (.ae 0)) (.am (.a6 (.ay (.ad 0) 16) (.ae 0)) (.am (.a6 (.ay (.ad 0) 17) (.bj .ao)) (.am (.a6 (.ay (.ad 0) 18) (.bj .ao)) .aw)))))))}
noncomputable def sn:cf:={b0:=1,ca:=0,cw:=[(Su,0)],cx:=5,ch:=0,aA:=.am (.en [.ad 1,.ad 2,.ad 3] (.ai (.ay (.ad 0) 13) (.ai .pN (.ai (.aq Sp) .ao)))) (.am (.iO (.and (.tr (.aB .bX (.ay (.ad 0) 13) (.tr (.ba .bd (.ay (.ad 0) 11))))) (.tr (.aB .gh (.aM (.ay (.ad 0) 11) (.ay (.ad 0) 13)) (.cr (.ag [32,9,13,10,59,125]))))) (.am (.a6 (.ad 4) (.aM (.ay (.ad 0) 11) (.ay (.ad 0) 13))) (.am (.aY (.tr (.aB .bp (.ad 4) (.ae 39))) (.am (.aU (.tr (.cU 5 (.ad 0) (.ai (.ad 2) .ao)))) .aw) (.am (.aY (.tr (.aB .bp (.ad 4) (.ae 34))) (.am (.aU (.tr (.cU 6 (.ad 0) (.ai (.ad 2) .ao)))) .aw) (.am (.aY (.tr (.aB .bp (.ad 4) (.ae 92))) (.am (.aU (.tr (.cU 7 (.ad 0) (.ai (.ad 2) .ao)))) .aw) (.am (.aY (.tr (.aB .bp (.ad 4) (.ae 36))) (.am (.aU (.tr (.cU 8 (.ad 0) (.ai (.ad 2) .ao)))) .aw) (.am (.aY (.and (.tr (.aB .bp (.ad 4) (.ae 126))) (.tr (.aB .bp (.ay (.ad 0) 13) (.ad 1)))) (.am (.aU (.tr (.bK .h8 (.ad 2) (.ai (.tr (.bK .dg (.ay (.ad 0) 12) (.ai (.ag [72,79,77,69]) (.ai (.ag []) .ao)))) .ao)))) (.am (.a6 (.ay (.ad 0) 13) (.aV .bB (.ay (.ad 0) 13) (.ae 1))) .aw)) (.am (.aU (.tr (.bK .dN (.ad 2) (.ai (.ad 4) .ao)))) (.am (.a6 (.ay (.ad 0) 13) (.aV .bB (.ay (.ad 0) 13) (.ae 1))) (.am .dR .aw)))) .aw)) .aw)) .aw)) .aw)) (.am (.a6 (.ad 3) (.aq Su)) .aw)))) (.am (.aO (.dO (.ai (.tr (.ba .ag (.ad 2))) (.ai (.ad 3) .ao)))) .aw))}
noncomputable def yM:cf:={b0:=2,ca:=0,cw:=[(Su,0),(Su,1)],cx:=3,ch:=0,aA:=.am (.a6 (.ad 2) (.tr (.bK .lE (.ay (.ad 0) 11) (.ai (.ag [39]) (.ai (.aV .bB (.ay (.ad 0) 13) (.ae 1)) .ao))))) (.am (.aY (.tr (.aB .bX (.ad 2) (.ae 0))) (.am (.ib (.ay (.ad 0) 13)) .aw) .aw) (.am (.aU (.tr (.bK .h8 (.ad 1) (.ai (.cT (.ay (.ad 0) 11) (.aV .bB (.ay (.ad 0) 13) (.ae 1)) (.ad 2)) .ao)))) (.am (.a6 (.ay (.ad 0) 13) (.aV .bB (.ad 2) (.ae 1))) .aw)))}
noncomputable def sq:cf:={b0:=2,ca:=0,cw:=[(Su,0),(Su,1)],cx:=3,ch:=0,aA:=.am (.en [.ad 2,.ay (.ad 0) 13] (.ai (.ay (.ad 0) 13) (.ai (.aV .bB (.ay (.ad 0) 13) (.ae 1)) .ao))) (.am (.iO (.and (.tr (.aB .bX (.ay (.ad 0) 13) (.tr (.ba .bd (.ay (.ad 0) 11))))) (.tr (.aB .bM (.aM (.ay (.ad 0) 11) (.ay (.ad 0) 13)) (.ae 34)))) (.am (.aY (.tr (.aB .bp (.aM (.ay (.ad 0) 11) (.ay (.ad 0) 13)) (.ae 92))) (.am (.aU (.tr (.cU 7 (.ad 0) (.ai (.ad 1) .ao)))) .aw) (.am (.aY (.tr (.aB .bp (.aM (.ay (.ad 0) 11) (.ay (.ad 0) 13)) (.ae 36))) (.am (.aU (.tr (.cU 8 (.ad 0) (.ai (.ad 1) .ao)))) .aw) (.am (.aU (.tr (.bK .dN (.ad 1) (.ai (.aM (.ay (.ad 0) 11) (.ay (.ad 0) 13)) .ao)))) (.am (.a6 (.ay (.ad 0) 13) (.aV .bB (.ay (.ad 0) 13) (.ae 1))) .aw))) .aw)) .aw)) (.am (.aY (.tr (.aB .lC (.ay (.ad 0) 13) (.tr (.ba .bd (.ay (.ad 0) 11))))) (.am (.ib (.ad 2)) .aw) .aw) (.am (.a6 (.ay (.ad 0) 13) (.aV .bB (.ay (.ad 0) 13) (.ae 1))) .aw)))}
noncomputable def u3:cf:={b0:=2,ca:=0,cw:=[(Su,0),(Su,1)],cx:=4,ch:=0,aA:=.am (.aY (.tr (.aB .lC (.aV .bB (.ay (.ad 0) 13) (.ae 1)) (.tr (.ba .bd (.ay (.ad 0) 11))))) (.am (.ib (.ay (.ad 0) 13)) .aw) .aw) (.am (.en [.ad 2,.ad 3] (.ai (.aM (.ay (.ad 0) 11) (.aV .bB (.ay (.ad 0) 13) (.ae 1))) (.ai (.tr (.bR 3 (.ai (.cT (.ay (.ad 0) 11) (.aV .bB (.ay (.ad 0) 13) (.ae 1)) (.aV .bB (.ay (.ad 0) 13) (.ae 4))) .ao))) .ao))) (.am (.aY (.tr (.aB .hZ (.ad 3) .az)) (.am (.aU (.tr (.bK .dN (.ad 1) (.ai (.ad 3) .ao)))) (.am (.a6 (.ay (.ad 0) 13) (.aV .bB (.ay (.ad 0) 13) (.ae 4))) .aw)) (.am (.aY (.tr (.aB .bM (.ad 2) (.ae 10))) (.am (.aU (.tr (.bK .dN (.ad 1) (.ai (.tr (.bR 2 (.ai (.ad 2) .ao))) .ao)))) .aw) .aw) (.am (.a6 (.ay (.ad 0) 13) (.aV .bB (.ay (.ad 0) 13) (.ae 2))) .aw))) .aw))}
noncomputable def sr:cf:={b0:=1,ca:=0,cw:=[(Su,0)],cx:=3,ch:=0,aA:=.am (.iO (.tr (.aB .bX (.ay (.ad 0) 13) (.tr (.ba .bd (.ay (.ad 0) 11))))) (.am (.a6 (.ad 1) (.aM (.ay (.ad 0) 11) (.ay (.ad 0) 13))) (.am (.aY (.tr (.aB .bp (.ad 1) (.ae 123))) (.am (.aU (.tr (.cU 9 (.ad 0) .ao))) .aw) (.am (.aY (.tr (.aB .bp (.ad 1) (.ae 125))) (.am (.aU (.tr (.cU 10 (.ad 0) .ao))) .aw) (.am (.aY (.tr (.aB .bp (.ad 1) (.ae 35))) (.am (.a6 (.ad 2) (.tr (.bK .lE (.ay (.ad 0) 11) (.ai (.ag [10]) (.ai (.ay (.ad 0) 13) .ao))))) (.am (.a6 (.ay (.ad 0) 13) (.aY (.tr (.aB .lC (.ad 2) (.ae 0))) (.ad 2) (.tr (.ba .bd (.ay (.ad 0) 11))))) .aw)) (.am (.aY (.and (.tr (.aB .bp (.ad 1) (.ae 92))) (.tr (.aB .bp (.cT (.ay (.ad 0) 11) (.aV .bB (.ay (.ad 0) 13) (.ae 1)) (.aV .bB (.ay (.ad 0) 13) (.ae 2))) (.ag [10])))) (.am (.a6 (.ay (.ad 0) 13) (.aV .bB (.ay (.ad 0) 13) (.ae 2))) .aw) (.am (.aY (.tr (.aB .d' (.ad 1) (.cr (.ag [32,9,13,10,59,125])))) (.am (.aU (.tr (.cU 11 (.ad 0) (.ai (.ad 1) .ao)))) .aw) (.am (.aU (.tr (.cU 15 (.ad 0) .ao))) .aw)) .aw)) .aw)) .aw)) .aw)) .aw))) (.am (.aU (.tr (.cU 14 (.ad 0) .ao))) (.am (.aY (.tr (.aB .bM (.ay (.ad 0) 17) (.bj .ao))) (.am (.ib (.aM (.aM (.ay (.ad 0) 17) (.ae (-1))) (.ae 3))) .aw) .aw) (.am (.aY (.tr (.aB .bM (.ay (.ad 0) 18) (.bj .ao))) (.am (.ib (.ay (.aM (.ay (.ad 0) 18) (.ae (-1))) 10)) .aw) .aw) (.am (.aO (.ay (.ad 0) 4)) .aw))))}
noncomputable def u4:cf:={b0:=2,ca:=0,cw:=[(Su,0),(Su,1)],cx:=2,ch:=0,aA:=.am (.a6 (.ay (.ad 0) 13) (.aV .bB (.ay (.ad 0) 13) (.ae 1))) (.am (.aY (.or (.tr (.aB .bp (.ad 1) (.ae 10))) (.tr (.aB .bp (.ad 1) (.ae 59)))) (.am (.aU (.tr (.cU 14 (.ad 0) .ao))) .aw) .aw) (.am (.aY (.tr (.aB .bp (.ad 1) (.ae 10))) (.am (.aU (.tr (.cU 12 (.ad 0) .ao))) .aw) .aw) .aw))}
noncomputable def Er:cf:={b0:=1,ca:=0,cw:=[(Su,0)],cx:=1,ch:=0,aA:=.am (.a6 (.ay (.ad 0) 16) (.aV .bB (.ay (.ad 0) 16) (.ae 1))) (.am (.a6 (.ay (.ad 0) 1) (.ay (.ad 0) 16)) .aw)}
noncomputable def yN:cf:={b0:=1,ca:=0,cw:=[(Su,0)],cx:=1,ch:=0,aA:=.am (.aO (.or (.tr (.aB .bp (.ay (.ad 0) 18) (.bj .ao))) .ak)) .aw}
noncomputable def u5:cf:={b0:=1,ca:=0,cw:=[(Su,0)],cx:=1,ch:=0,aA:=.am (.aY (.and (.tr (.aB .hZ (.ay (.ad 0) 15) .az)) (.tr (.cU 13 (.ad 0) .ao))) (.am (.aU (.tr (.bK .dN (.ay (.ad 0) 4) (.ai (.ay (.ad 0) 15) .ao)))) .aw) .aw) (.am (.a6 (.ay (.ad 0) 15) .az) .aw)}
noncomputable def yO:cf:={b0:=1,ca:=0,cw:=[(Su,0)],cx:=4,ch:=0,aA:=.am (.a6 (.ad 1) (.ay (.ad 0) 13)) (.am (.mK [.ad 2,.ad 3] (.tr (.cU 4 (.ad 0) .ao))) (.am (.aY (.and (.ad 3) (.tr (.aB .d' (.ad 2) (.cr (.bW 55))))) (.am (.aU (.tr (.cU 14 (.ad 0) .ao))) (.am (.aU (.tr (.cU 17 (.ad 0) (.ai (.ad 2) (.ai (.ad 1) .ao))))) .aw)) (.am (.aU (.tr (.cU 16 (.ad 0) (.ai (.ad 2) (.ai (.ad 1) .ao))))) .aw)) .aw))}
noncomputable def ss:cf:={b0:=3,ca:=0,cw:=[(Su,0),(Su,1),(Su,2)],cx:=3,ch:=0,aA:=.am (.aY (.tr (.aB .j0 (.ay (.ad 0) 15) .az)) (.am (.a6 (.ay (.ad 0) 15) (.dw 0 (.ai (.ay (.ad 0) 1) (.ai (.bj .ao) (.ai (.bj .ao) .ao))))) .aw) .aw) (.am (.aU (.tr (.bK .dN (.ay (.ay (.ad 0) 15) 2) (.ai (.ad 1) .ao)))) (.am (.aU (.tr (.bK .dN (.ay (.ay (.ad 0) 15) 3) (.ai (.ad 2) .ao)))) .aw))}
noncomputable def yP:X:=.ay (.tr (.bR 11 (.ai (.aW 0) (.ai (.aW 1) (.ai (.ae 7) .ao))))) 5
noncomputable def yQ:X:=.tr (.bR 11 (.ai (.aW 0) (.ai (.dw 1 (.ai (.bj .ao) .ao)) (.ai (.ae 9) .ao))))
noncomputable def yR:X:=.tr (.bR 13 (.ai (.dw 0 (.ai (.ae 4) (.ai (.aV .bB (.bj (.ai (.aM (.aW 1) (.ae 0)) .ao)) (.aW 3)) (.ai (.aV .bB (.bj (.ai (.ae 20) .ao)) (.aW 0)) .ao)))) (.ai (.aW 2) .ao)))
noncomputable def Et:X:=.tr (.cU 3 (.aW 1) (.ai (.aW 0) (.ai (.ae 1) (.ai (.ae 9) .ao))))
noncomputable def Eu:List cf:=[ot,yB,ou,uU,sh,qd,si,yC,yD,Ep,yE,j7,m1,jK,uV,uW,yF,uX,ov,sj,kV,ox,uY,sm,lO,jL,lP]
noncomputable def Ev:List cf:=[yG,yH,yI,qe,yJ,yK,uZ,lQ,yL,u2,sn,yM,sq,u3,sr,u4,Er,yN,u5,yO,ss]
noncomputable def Ft (k:Nat):Option cf:=if k<30 then Eu[k]? else Ev[k-30]?
noncomputable def Lt (k:Nat):Option X:=[yP,yQ,yR,Et][k]?
noncomputable def u6:List (Nat×O):=[(55,.aX [.ag [37,105,102],.ag [37,101,108,105,102],.ag [37,101,108,115,101],.ag [37,101,110,100,105,102]]),(460,.aX [.bW 454,.bW 455,.bW 456,.bW 457,.bW 458,.bW 459]),(454,.aX [.ag [115,112,108,105,116],.ag [115,112],.ag [97,116,58,98],.ae 0,.ae 2]),(455,.aX [.ag [115,112,108,105,116,45,97,108,108],.ag [],.ag [],.ae 0,.az]),(456,.aX [.ag [115,104,111,119],.ag [115],.ag [110,58,120,58],.ae 1,.ae 1]),(457,.aX [.ag [115,104,111,119,45,114,111,119],.ag [115,112,108],.ag [113],.ae 0,.ae 0]),(458,.aX [.ag [115,119,97,112],.ag [],.ag [97],.ae 0,.ae 3]),(459,.aX [.ag [110,101,119,45,112,97,110,101],.ag [110,112],.ag [100,104,99,58],.ae 0,.ae 1])]
noncomputable def av:Gl:=λa=>u6.lookup a
noncomputable abbrev Ph (n:Nat):dy:=jk Ft Lt av n
end
section
section
open PySem PySem.W PyProof.Rows PySem.Calls
open PySem PySem.W PyProof.Rows PySem.Calls Builtin
noncomputable def bz (l:List Nat):Array UInt8:=(l.map UInt8.ofNat).toArray
noncomputable def i3 (c:Nat):Option S7:=[72,93,370,421,298][c]?
noncomputable def qf:List TR:=[au "len",au "isinstance",au "bytes",au "bytearray",au "list",au "sorted",au "sum",au "enumerate",au "range",au "super",au "int"]
noncomputable def qg (K:WC) (c:Nat) (C:S7):Bool:=
 Vg K (.ref C) (.type "bytes")==Sn Su&&Vg K (.ref C) (.ref 93)==Sn (c==1)&&plainGet K C "__class__"&&WJ K C&&
 Vh K (.ref C) "__class__"==Sn (Sn (.builtin "object.__class__"))&&mroIn K C (.type "object")==Sn Sp
noncomputable def su (K:WC) (C:S7):Bool:=
 plainGet K C "__class__"&&WJ K C&&plainOver K C&&Vh K (.ref C) "__setattr__"==Sn (Sn (.builtin "object.__setattr__"))&&
 gW.all λe=>(match Vh K (.ref C) e.1 with|some a=>noGet K a|none=>Su)&&Yd K C e.1==Sn none
structure lR where
 Ew:S7
 sv:TR
 u7:TR
 gX:List SV
 bK:List SV
 gY:Bool
 Ey:List TR
 fS:List SV
 Ez:Bool
 EA:Option Bool
 EB:Option S7
 EC:Option SV
 qh:Option SV
 EE:Option SV
 EF:Option SV
 EG:Option SV
noncomputable def lR.aj (b:lR) (c:SV) (mro:List SV) (k4:Option SV) (del:Bool):Bool:=c==.type "type"&&mro==.ref 45::b.bK&&k4==Sn (.builtin "Exception.__new__")&&!del&&b.bK.contains (.type "Exception")&&b.bK.contains (.type "BaseException")&&!b.bK.contains (.type "AttributeError")&&!b.bK.contains (.type "NameError")
noncomputable def yS:Data->Option ClassData
 | .cls cd=>Sn cd
 |_=>none
noncomputable def yT {α β:Type} (l:List α) (f:α->α->α->α->α->α->Option β):Option β:=match l with
 |[a,b,c,d,e,g]=>f a b c d e g
 |_=>none
noncomputable def yU (o:Obj) (cd:ClassData) (k0 k1 k2 k3 k5:Option SV):lR:=⟨cd.ns,cd.name,cd.qualname,cd.bases,cd.mro.tail,cd.hasDict,cd.slotNames,cd.subclasses,cd.abstract,cd.collection,o.dict,k0,k1,k2,k3,k5⟩
noncomputable def EH (o:Obj):Option lR:=(yS o.data).bind λcd=>yT o.slots.toList λk0 k1 k2 k3 k4 k5=>if lR.aj (yU o cd k0 k1 k2 k3 k5) o.cls cd.mro k4 cd.hasDel then Sn (yU o cd k0 k1 k2 k3 k5)else none
noncomputable def u8 (K:WC):Bool:=((K.lookup 45).bind EH).isSome&&specialIn K (.ref 45) "__call__"==Sn (Sn (.builtin "type.__call__"))&&instIn K (.ref 45) (.type "type")==Sn Sp
noncomputable def u9:SV->Bool
 | .ref _=>Sp
 |_=>Su
noncomputable def sy (K:WC) (C:S7):Bool:=(clsIn K C).any λcd=>cd.mro.dropWhile u9==[.type "Exception",.type "BaseException",.type "object"]
noncomputable def lS:String:="BaseException.__getattribute__"
noncomputable def oy (K:WC):Bool:=Vh K (.ref 45) "__getattribute__"==Sn (Sn (.builtin lS))&&Vh K (.ref 45) "__getattr__"==Sn none&&WJ K 45&&(match Vh K (.ref 45) (au "told")with|some attr=>noGet K attr|none=>Su)&&instSub K
where instSub (K:WC):Bool:=subIn K (.ref 45) (.type "BaseException")==Sn Sp
end
section
open PySem PySem.W PyProof.Rows
noncomputable abbrev gZ:Program:=XE
noncomputable def sA (p:Program) (w:World) (K9:Nat) (ann:Option SV):Nat->SharedT->Thread->Option SharedT
 |0,_,_=>none
 |n+1,s,t=>match through t with
  |true=>Sn s
  |false=>match W2 K9 ann t with
   |false=>none
   |true=>match WW (WX WY) p w s t with
    |some (s',t')=>sA p w K9 ann n s' t'
    |none=>none
def EI:∀{s y:SharedT} {t},sA p w q z n s t=y->topRun treeTable p w q z n s.abs t=y.abs:=by
 induction n with
 |zero=>intro s y t h;cases h
 |succ n f=>
  intro s y t h;change(match through t with|true=>Sn s|false=>match W2 q z t with|false=>none|true=>match WW (WX WY) p w s t with|some (s',t')=>sA p w q z n s' t'|none=>none)=Sn y at h;rw[<-PySem.W.Fast.te6613529449190102663,<-PySem.W.Fast.te10156331382660048174,<-PySem.W.Fast.te11892475500146522536,<-PySem.W.Fast.te14364793385576792824]at h;unfold topRun;cases k:through t with
  |true=>replace h:=k▸h;replace h:=Sv h;subst h;rfl
  |false=>
   replace h:=k▸h;cases u:stepOk q z t with
   |false=>replace h:=u▸h;cases h
   |true=>
    replace h:=u▸h;cases j:stepT _ p w s t with
    |none=>replace h:=j▸h;cases h
    |some r=>obtain⟨g,l⟩:=r;replace h:=j▸h;rewrite[stepT_spec j];exact f h
noncomputable def yV (P:Params) (os:OsState):SharedT:=
 {tree:=.node (boot_o_0 P) (.node (boot_o_1 P) (.node (boot_o_3 P) (.node (boot_o_7 P) .nil .nil) .nil) (.node (boot_o_5 P) (.node (boot_o_9 P) .nil .nil) .nil))
   (.node (boot_o_2 P) (.node (boot_o_4 P) (.node (boot_o_8 P) .nil .nil) .nil) (.node (boot_o_6 P) (.node (boot_o_10 P) .nil .nil) .nil)),n:=11,life:=(Xk P).life,gens:=#[],drawn:=boot_drawn,toks:=boot_toks,os}
def EJ (P) (q):(yV P q).abs=⟨Xk P,#[],boot_drawn,boot_toks,q⟩:=by kernel_rfl
noncomputable abbrev qw:Program:=view gZ [44]
noncomputable def sB:List TR:=["TermError","BadCommand","number_of","COMMAND_BLANKS","COMMAND_ENDS","COMMAND_DIRECTIVES","COMMAND_PLAIN","Command","CommandBlock","CommandBranch","command_is_name_sign","command_escaped","command_octal","WordReader","CommandReader","read_commands","command_is_bare","command_quoted","command_word_octets","command_octets","commands_octets","command_rows","CommandKind","command_kind","ParsedCommand","command_take_flags","command_parsed","command_expanded","command_list_of","_law_kinds","_law_draw","_law_heard","_law_table","_law_meant","_law_kinds_right","_law_flags","_law_parsed_right","_law_values_right","_law_written","_law_words_right","_law_aliases_right"].map Str.ofString
end
section
open PySem PySem.W PyProof.Rows PySem.Calls
noncomputable def EK:List S7:=[54,132,139,146,308,315,322,329,334,341,346,381,432,439,445,453,467,481,486,493,500,505,510,515,520,525,530,0,0,0,69,90,360,367,395,402,410,418,160,218,167,174,181,188,225,232,239,246,253,260,267]
noncomputable def g9 (k:Nat):Option S7:=if 26<k/\k<30 then none else EK[k]?
noncomputable def qi:List (Nat×S7×S7):=[(19,492,488),(21,504,502),(22,509,507)]
noncomputable def iQ:List (S7×S7):=qi.map (·.2)
noncomputable def K0 (h:TV):WC:=(Te 531).filterMap λa=>if(iQ.map (·.2)).contains a then none else(h.get? a).map λo=>(a,o)
noncomputable def oz {α:Type} (f:Yi->α) (s:Array SV->Nat->α) (fl:Array SV->α) (c:Option SV->α) (p o:α):Data->α
 | .func x=>f x| .seq a n=>s a n| .fields a=>fl a| .cell v=>c v| .plain=>p|_=>o
def qj {P:Data->z->Prop} (y:∀x,P (.func x) (f x)) (j:∀a n,P (.seq a n) (s a n)) (w:∀a,P (.fields a) (q a)) (k:∀v,P (.cell v) (c v)) (r:P .plain p) (u:∀d,P d o) (d):P d (oz f s q c p o d):=by
 induction d using XR<;>first|exact y _|exact j _ _|exact w _|exact k _|exact r|exact u _
noncomputable def yW:Data->Option Yi:=oz Sn (λζ ζ=>none) (λζ=>none) (λζ=>none) none none
noncomputable def vc:Data->Option (Array SV×Nat):=oz (λζ=>none) (λa n=>Sn (a,n)) (λζ=>none) (λζ=>none) none none
noncomputable def vd:Data->Option (Array SV):=oz (λζ=>none) (λζ ζ=>none) Sn (λζ=>none) none none
noncomputable def yX:Data->Option (Option SV):=oz (λζ=>none) (λζ ζ=>none) (λζ=>none) Sn none none
noncomputable def ve:Data->Bool:=oz (λζ=>Su) (λζ ζ=>Su) (λζ=>Su) (λζ=>Su) Sp Su
def EL:yW d=Sn x->d=.func x:=qj (P:=λd r=>r=Sn x->d=.func x) (λq h=>congrArg Data.func (Sv h)) (λq q=>aG) (λq=>aG) (λq=>aG) aG (λq=>aG) d
def yY:vc d=Sn x->d=.seq x.1 x.2:=qj (P:=λd r=>r=Sn x->d=.seq x.1 x.2) (λq=>aG) (λq q h=>congrArg (λx:Array SV×Nat=>Data.seq x.1 x.2) (Sv h)) (λq=>aG) (λq=>aG) aG (λq=>aG) d
def yZ:vd d=Sn x->d=.fields x:=qj (P:=λd r=>r=Sn x->d=.fields x) (λq=>aG) (λq q=>aG) (λq h=>congrArg Data.fields (Sv h)) (λq=>aG) aG (λq=>aG) d
def EM:yX d=Sn x->d=.cell x:=qj (P:=λd r=>r=Sn x->d=.cell x) (λq=>aG) (λq q=>aG) (λq=>aG) (λq h=>congrArg Data.cell (Sv h)) aG (λq=>aG) d
def EN:ve d=Sp->d=.plain:=qj (P:=λd r=>r=Sp->d=.plain) (λq=>bv) (λq q=>bv) (λq=>bv) (λq=>bv) (λq=>rfl) (λq=>bv) d
noncomputable def qk {α:Type} (i:Int->α) (b:Array UInt8->α) (s:TR->α) (r:S7->α) (o:α):SV->α
 | .int x _=>i x| .bytes x _=>b x| .str x _=>s x| .ref x=>r x|_=>o
def sC {P:SV->q->Prop} (z:∀x t,P (.int x t) (i x)) (y:∀x t,P (.bytes x t) (b x)) (j:∀x t,P (.str x t) (s x)) (w:∀x,P (.ref x) (r x)) (k:∀v,P v o) (v):P v (qk i b s r o v):=by
 induction v using VS<;>first|exact z _ _|exact y _ _|exact j _ _|exact w _|exact k _
noncomputable def y1:SV->Option Int:=qk Sn (λζ=>none) (λζ=>none) (λζ=>none) none
noncomputable def zb:SV->Option (Array UInt8):=qk (λζ=>none) Sn (λζ=>none) (λζ=>none) none
noncomputable def zc:SV->Option TR:=qk (λζ=>none) (λζ=>none) Sn (λζ=>none) none
noncomputable def vf:SV->Option S7:=qk (λζ=>none) (λζ=>none) (λζ=>none) Sn none
def EO:y1 v=Sn x->∃t,v=.int x t:=sC (P:=λv r=>r=Sn x->∃t,v=.int x t) (λy t h=>⟨t,congrArg (Value.int · t) (Sv h)⟩) (λq q=>aG) (λq q=>aG) (λq=>aG) (λq=>aG) v
def EP:zb v=Sn x->∃t,v=.bytes x t:=sC (P:=λv r=>r=Sn x->∃t,v=.bytes x t) (λq q=>aG) (λy t h=>⟨t,congrArg (Value.bytes · t) (Sv h)⟩) (λq q=>aG) (λq=>aG) (λq=>aG) v
def EQ:zc v=Sn x->∃t,v=.str x t:=sC (P:=λv r=>r=Sn x->∃t,v=.str x t) (λq q=>aG) (λq q=>aG) (λy t h=>⟨t,congrArg (Value.str · t) (Sv h)⟩) (λq=>aG) (λq=>aG) v
def zd:vf v=Sn x->v=.ref x:=sC (P:=λv r=>r=Sn x->v=.ref x) (λq q=>aG) (λq q=>aG) (λq q=>aG) (λq h=>congrArg Wg (Sv h)) (λq=>aG) v
noncomputable def vg:O->Option (List V)
 | .aX xs=>Sn xs
 |_=>none
noncomputable def a7 {α:Type}:List α->Option α
 |[x]=>Sn x
 |_=>none
noncomputable def lT (K:WC) (a:S7):Option Yi:=(K.lookup a).bind λo=>yW o.data
noncomputable def vB (v:V) (y:SV):Bool:=match v with
 | .az=>y==.none
 | .ae i=>y1 y==Sn i
 | .ag l=>zb y==Sn (bz l)&&(SW (l.length<=1048576)&&l.all λc=>SW (c<256))
 | .bW a=>y==.ref a
 |_=>Su
noncomputable def vh:List V->List SV->Bool
 |[],[]=>Sp
 |v::vs,y::ys=>vB v y&&vh vs ys
 |_,_=>Su
noncomputable def ER (K:WC) (a:S7):Bool:=(av a).any λo=>(vg o).any λxs=>(K.lookup a).any λo=>(vc o.data).any λp=>o.cls==.type "tuple"&&o.dict.isNone&&o.slots.isEmpty&&vh xs p.1.toList
noncomputable def sD (K:WC) (a:S7):Bool:=(lT K a).any λfd=>fd.globals==Vf&&fd.builtins==Wl&&codeIn K fd.code fd.qualname&&(fd.closure.isEmpty||a==218)
noncomputable def qm (K:WC) (a:S7) (n:Nat):Bool:=(lT K a).any λfd=>if n=0 then fd.defaults==.none else(vf fd.defaults).any λT=>(K.lookup T).any λo=>(vc o.data).any λp=>p.1==(SI n Value.none).toArray
noncomputable abbrev qn (h:TV):TR->Option SV:=h.nsMap Vf
noncomputable def qo (K:WC) (a:S7):Bool:=typeIn K (.ref a)==Sn (.type "function")
noncomputable def vi (h:TV):List Bool:=let K:=K0 h;let mg:=qn h
 [om.all (λe=>(mg e.1).any (vB e.2)),[55,460,454,455,456,457,458,459].all (ER K),(K.lookup WZ).isSome,qf.all (λnm=>(mg nm).isNone),mg (au "CommandBlock")==Sn (.ref 93),(Te 5).all (λc=>(i3 c).any λC=>qg K c C&&su K C),(Vg K (.type "bytes") (.type "bytes")==Sn Sp&&Vg K (.type "bytes") (.ref 93)==Sn Su&&Vg K (.type "NoneType") (.type "bytes")==Sn Su&&
  Vg K (.type "bool") (.type "bytes")==Sn Su&&Vg K (.type "int") (.type "bytes")==Sn Su&&Vg K (.type "str") (.type "bytes")==Sn Su&&
  Vg K (.type "int") (.type "int")==Sn Sp&&Vg K (.type "tuple") (.type "int")==Sn Su&&
  specialIn K (.builtin "object.__class__") "__get__"==Sn (Sn (.builtin "getset_descriptor.__get__"))&&takesIn K (.builtin "object.__class__")==Sn Sp),(Te 51).all (λk=>(g9 k).all λa=>(fj k).any λd=>sD K a&&qm K a d.dB.defaults.length),oj.all (λe=>(g9 e.2).any λa=>mg e.1==Sn (.ref a)),(Te 5).all (λc=>pV.all λe=>(i3 c).all λC=>(i0 c e.2).all λf=>(g9 f).any λa=>Vh K (.ref C) e.1==Sn (Sn (.ref a))&&qo K a),ol.all (λe=>(i3 e.2).any λC=>(g9 (mQ e.2)).any λa=>mg e.1==Sn (.ref C)&&keepIn K (.ref C)&&makesIn K C&&Vh K (.ref C) "__init__"==Sn (Sn (.ref a))&&qo K a),mg (au "BadCommand")==Sn (.ref 45),keepIn K (.ref 45),u8 K,Vh K (.ref 45) "__init__"==Sn (Sn (.ref 29)),qo K 29,Vh K (.ref 45) "__setattr__"==Sn (Sn (.builtin "object.__setattr__")),sy K 45,Yd K 45 (au "told")==Sn none,WJ K 45,oy K,mg (au "_law_heard")==Sn (.ref 474),sD K 29&&qm K 29 1,sD K 474&&qm K 474 0,mg (au "__builtins__")==Sn (.ref 4),((K.lookup 4).any λo=>o.cls==.type "module"&&o.dict==Sn Wl&&ve o.data),qi.all (λt=>codeHdIn K t.2.1 t.2.2&&((g9 t.1).any λa=>(lT K a).any λfd=>fd.code==.ref t.2.1)),iQ.all (λt=>(h.get? t.2).any λo=>o.cls==.none&&o.dict.isNone&&vd o.data==Sn #[]&&o.slots.isEmpty)]
noncomputable def ze (K:WC) (mg:TR->Option SV):List Bool:=
 [((lT K 218).any λfd=>(a7 fd.closure).any λp=>p.1==au "__class__"&&((K.lookup p.2).any λo=>yX o.data==Sn (Sn (.ref 298)))&&(vf fd.code).any λc=>(K.lookup c).any λo=>(vd o.data).any λvs=>(vs[2]?:Option SV).any λv=>zc v==Sn (gZ.main.file:TR)),(gZ.main.scope.names.lookup ("super":TR)).isSome==Su,(mg (au "super")).isNone,(clsIn K 298).isSome,mroIn K 298 (.ref 298)==Sn Sp,nsIn K cStatics "thirdparty.any"==Sn none,ks_superIn K 298 298 "__init__"==Sn (Sn (.ref 160)),qo K 160]
noncomputable def lU (d:iP):Wf×FuncBody×Ub:=(d.dB,.stmts d.aA,d.cC)
noncomputable def lV (K:WC) (a:S7):Option (Wf×FuncBody×Ub):=(lT K a).map λfd=>(fd.params,fd.body,fd.scope)
noncomputable def m2:Option iP:=sg (au "__init__") (yA (au "TermError") kU)
noncomputable def m3:Option iP:=sg (au "_law_heard") kU
noncomputable def sE (h:TV):Bool:=(vi h).all id&&(ze (K0 h) (qn h)).all id
noncomputable abbrev zf:=Bool×List (Option (Wf×FuncBody×Ub))×Option (Wf×FuncBody×Ub)×Option (Wf×FuncBody×Ub)
noncomputable def vj (s:Tf):zf:=(sE s.heap,(Te 51).map (λk=>(g9 k).bind (lV (K0 s.heap))),lV (K0 s.heap) 29,lV (K0 s.heap) 474)
noncomputable def vk:zf:=(Sp,(Te 51).map (λk=>(fj k).map lU),m2.map lU,m3.map lU)
section
noncomputable def zg (P:Params) (s:Tf):=(staticsOk (importedModules gZ.main.body) (Xk P) s.heap&&namesBound gZ s.heap&&gensDone s&&laidKept (Xk P) s.heap,PySem.W.Fast.tw4187177175401517315 qw sB (importedModules gZ.main.body) (λζ=>Sp) Sp s,vj s)
set_option maxHeartbeats 0 in
def ES (w:World) (os:OsState):(sA gZ w 11 (Sn (.ref 6)) 4500 (yV w.params os) (topStub gZ)).map (λs=>zg w.params s.abs)=Sn (Sp,openGood qw sB,vk):=by kernel_rfl
end
def ET {s:Tf} {T:Nat} (q:(s.heap,s.gens,s.drawn,s.toks)=(H,G,D,T)):s=⟨H,G,D,T,s.os⟩:=by
 cases q;rfl
def zh:LeftO gZ qw sB (λp=>Sp) vj (λp=>vk) 4500:=λw=>by
 obtain⟨s,q,r⟩:=TX.mp (boot_open (N:=4500) (by kernel_rfl) (by decide+kernel) (λs=>by kernel_rfl) w);rw[ET r]at q;generalize s.os=u at q;refine aP (TX.mp (ES w u)) λm g j=>?_;have k:=EI g;rw[EJ]at k;have z:=congrArg WK j;have y:=congrArg Prod.snd j;unfold openEnds;refine aa (aa ?_ (Wm _ _)) q;unfold topFrom;have l:((Xk w.params).isNs Vf&&(Array.mk []:Array GenState).size==0)=Sp:=by kernel_rfl
 have f:(Xk w.params).nsMap Vf "__annotations__"=Sn (.ref 6):=by kernel_rfl
 have c:(Xk w.params).objs.size=11:=by kernel_rfl
 dsimp only;refine aa (aa ?_ f) l;dsimp only;refine aa (aa ?_ (Wm _ _)) k;unfold zg at z y;dsimp only at z y;exact aa (aa (congrArg Sn y) PySem.W.Fast.te4187177175401517315) z
def zi:UU.wellSaid=Sp:=by decide+kernel
def zj:UU.row.toRowW.promised:=⟨[.list [.int 3,.int 1]],by decide+kernel,by decide+kernel⟩
def EU:opensWell gZ=Sp:=by decide+kernel
def zk:chainsOk qw=Sp:=by decide+kernel
end
end
section
open PySem
noncomputable def B1:Nat->Ex->Ex:=λk g=>dE B0 ((Lt k).getD .ak) g
noncomputable def C1:Nat->Ub->Ex->Bool:=λk sc g=>(Lt k).any λX=>cB B0 C0 sc X g
noncomputable def vm (sc:Ub):List TR->List (Bool×Nat)->Bool
 |[],[]=>Sp
 |n::ns,(b,i)::r=>(if b then b8 sc n==Sn .cell&&eM n (c9 sc)==Sn i else kT sc i n)&&vm sc ns r
 |_,_=>Su
noncomputable def EW (d:iP) (fn:cf):Bool:=fn.b0==d.dB.args.length&&fn.ca==d.dB.defaults.length&&vm d.cC (d.dB.args.map (·.arg)) fn.cw&&fn.cx==(cX d.cC).length&&fn.ch==(c9 d.cC).length
noncomputable def zl (g:Vo):Ex:=aJ 0 (aJ 0 (b7 0 g))
noncomputable def oA (as:List Ex) (g:Vo):Vo:=.Expr (.Call (.Attribute (.Call (.Name (au "super") (aJ 0 (zl g)).pos) [] [] (zl g).pos) (au "__init__") (aJ 0 (b7 0 g)).pos) as [] (b7 0 g).pos) g.pos
noncomputable def gY (d:iP):Vo:=d.aA[0]?.getD default
noncomputable def zm:List Nat:=(Te 51).filter (· !=39)
def EY:(Te 51).map (λk=>(fj k).map λd=>d.dB)=(Te 51).map λk=>(fj k).map λd=>⟨[],d.dB.args,none,[],[],none,d.dB.defaults⟩:=by kernel_rfl
def EZ:zm.map (λk=>(fj k).map λd=>d.aA)=zm.map λk=>(fj k).bind λd=>(Ft k).map λq=>(iy B1 q.aA).2 d.aA:=by kernel_rfl
def E0:(Te 51).all (λk=>(fj k).all λd=>(Ft k).all λq=>EW d q&&(k==39||(iz B1 C1 d.cC q.aA).2 d.aA))=Sp:=by decide+kernel
inductive Fa (fn:cf) (d:iP) (es:gv) (r:S):Prop
 |mk (f:fn.aA=.am (.aU (.tr (.cU 19 (.ad 0) es))) r) (b:d.aA=oA (ez B1 es (cz (b7 0 (gY d))).tail) (gY d)::(iy B1 r).2 d.aA.tail) (o:(jo B1 C1 d.cC es (cz (b7 0 (gY d))).tail&&(iz B1 C1 d.cC r).2 d.aA.tail&&jl (ez B1 es (cz (b7 0 (gY d))).tail)&&(aJ 0 (b7 0 (gY d))).pos.endLine==(b7 0 (gY d)).pos.line&&dU d.cC (au "super")&&kT d.cC 0 (au "self")&&b8 d.cC (au "__class__")==Sn .free)=Sp):Fa fn d es r
noncomputable def sF:gv:=.ai (.ad 1) (.ai (.ad 2) .ao)
noncomputable def vn:S:=match u2.aA with| .am _ r=>r|_=>.aw
def Fb (h:Ft 39=Sn q) (z:fj 39=Sn d):Fa q d sF vn:=by
 replace h:=Sv h;subst h;refine⟨rfl,?_,?_⟩
 ·refine@Sv _ d.aA _ ?_
  have k:(fj 39).map (λd=>d.aA)=(fj 39).map λd=>oA (ez B1 sF (cz (b7 0 (gY d))).tail) (gY d)::(iy B1 vn).2 d.aA.tail:=by kernel_rfl
  rw[z]at k;exact k
 ·have k:(fj 39).all (λd=>jo B1 C1 d.cC sF (cz (b7 0 (gY d))).tail&&(iz B1 C1 d.cC vn).2 d.aA.tail&&jl (ez B1 sF (cz (b7 0 (gY d))).tail)&&(aJ 0 (b7 0 (gY d))).pos.endLine==(b7 0 (gY d)).pos.line&&dU d.cC (au "super")&&kT d.cC 0 (au "self")&&b8 d.cC (au "__class__")==Sn .free)=Sp:=by decide+kernel
  rw[z]at k;exact k
end
section
section
open PySem PySem.W PyProof.Rows PySem.Calls
section
noncomputable def jp:List String:=Vi++["bytearray.__contains__","bytearray.__mod__","bytearray.__rmod__","_struct.pack_into.held","bytearray.find.held"]
noncomputable def iR:Code->Bool
 | .builtin id _=>jp.contains id
 |_=>Su
def NC (Γ:Ctx):Prop:=iR Γ.code=Su/\∀x∈Γ.below,iR x.1=Su
def NC.RE (h:NC q) (c) (z) (p) (y:iR c=Su):NC (q.enter c z p):=by
 refine⟨y,λx m=>?_⟩;rcases Tq.mp m with rfl|m
 ·exact h.1
 ·exact h.2 x m
def NC.a (h:NC q) (c) (z:iR c=Su):NC (q.goto c):=⟨z,h.2⟩
def ax {α:Type} (M:Model) (A:Vj) (t:Sem α) (Q:α->Tf->Prop) (E:SV->Tf->Prop) (s:Tf):Prop:=
 ∀Γ p,Γ.In A->NC Γ->Sem.wp M Γ t (λa ζ s'=>Q a s') (λe ζ s'=>E e s') p s
def dj (M:Model) (A:Vj) (c:Code) (R:Result->Tf->Prop) (s:Tf):Prop:=
 ∀Γ p,Γ.code=c->Γ.Below A->NC Γ->wpCode M Γ R p s
section
def ax.B (h:Tg M A t Q E s):ax M A t Q E s:=λz p y j=>h z p y
def dj.B {R} (h:Ye M A c R s):dj M A c R s:=λq p z y j=>h q p z y
def bb (h:Q a s):ax M A (T8 a) Q E s:=λq q q q=>h
def gC (h:ax M A t Q E s) (w:∀a s,Q a s->z a s) (k:∀e s,E e s->y e s):ax M A t z y s:=
 λj p r u=>VE M j t (λa g s=>w a s) (λe g s=>k e s) p s (h j p r u)
def aN (h:ax M A m (λa w=>ax M A (f a) Q E w) E s):ax M A (m>>=f) Q E s:=λq p k r=>by
 rewrite[Sem.wp_bind'];exact VE M q m (λa g w z=>z q g k r) (λu u u z=>z) p s (h q p k r)
def i4 (h:ax M A m Q (λe r=>ax M A (k e) (λq z=>E e z) E r) s):ax M A (m.onRaise k) Q E s:=λy p u g=>by
 rewrite[Sem.wp_onRaise];exact VE M y m (λq q q j=>j) (λe l r j=>j y l u g) p s (h y p u g)
def zn {Q:Except SV q->Tf->Prop} (h:ax M A m (λa=>Q (.ok a)) (λe=>Q (.error e)) s):ax M A m.attempt Q E s:=λz p y j=>by
 rewrite[Sem.wp_attempt];exact h z p y j
def cy (h:ax M A m Q E s):ax M A (holding z m) Q E s:=λy p j w=>by
 rewrite[Sem.wp_holding];exact h y p j w
def cE (h:Q () s):ax M A (Yf q) Q E s:=.B (XZ h)
def qp (h:Q () s):ax M A point Q E s:=.B (wpAny_point h)
def qq (h:Q () s):ax M A (rule q) Q E s:=.B (Xs h)
def qr (h:ax M A m Q E s):ax M A (operate q m) Q E s:=λz p y j=>by
 rewrite[Sem.wp_operate];exact h z p y j
def qt (h:Q () s):ax M A (release z q) Q E s:=.B (wpAny_release' h)
def vo [Decidable c] (z:SW c=Sp) (h:ax M A a Q E s):ax M A (if c then a else b) Q E s:=(if_pos (of_decide_eq_true z)).symm▸h
def zo [Decidable c] (z:SW c=Su) (h:ax M A b Q E s):ax M A (if c then a else b) Q E s:=(if_neg (of_decide_eq_false z)).symm▸h
def bT (h:Tg M A m (λa y=>ax M A (f a) Q E y) E s):ax M A (m>>=f) Q E s:=aN (.B h)
def m4 {R} (h:dj M A c R s) (z:∀r s,R r s->q r s):dj M A c q s:=λy p j w k=>wpCode_mono z (h y p j w k)
def vp (y:dj M (A.mark h) c (λr z=>match r with| .ok f=>Q f z| .error e=>E e z) s) (j:iR c=Su) (q:h≠Sn byPass):ax M A (PySem.run c h) Q E s:=
 λu p w k=>by rewrite[Sem.wp_run];exact y _ p rfl (w.enter c h p q) (k.RE c h p j)
set_option backward.match.sparseCases true in
def Fd (z:dj M A c (λr q=>match r with| .ok (.ret v)=>Q v q| .ok _=>False| .error e=>E e q) s) (y:iR c=Su):ax M A (runValue c) Q E s:=
 λk p j w=>by rewrite[Sem.wp_runValue];exact z _ p rfl (j.enter c none p (by intro x;exact absurd x (by decide))) (w.RE c none p y)
set_option backward.match.sparseCases true in
def lX (j:dj M A (.call f ⟨q,z⟩) (λr y=>match r with| .ok (.ret v)=>Q v y| .ok _=>False| .error e=>E e y) s):ax M A (Uv f q z) Q E s:=Fd j rfl
def gE {R} (m:iR c=Su) (h:ax M (A.under c) (M.den c) (λq j=>match q with| .done f=>R (.ok f) j| .again z=>z.quiet=Sp/\iR z=Su/\dj M A z R j) (λe j=>R (.error e) j) s):dj M A c R s:=λw p k r u=>by
 rewrite[wpCode_iff_wp];rewrite[k];refine VE M w _ (λq l j y=>?_) (λg g g y=>y) p s (h w p (k▸ r.in) u);cases q with
 |done f=>exact y
 |again z=>exact⟨y.1,y.2.2 (w.goto z) l rfl (r.goto z) (u.a z y.2.1)⟩
def Fe {q} (h:jp.contains q=Su) (m:jp.contains y=Sp):¬q=y:=λe=>by rw[e,m]at h;exact absurd h (by decide)
def Ff {z} (h:jp.contains z=Su):Vi.contains z=Su:=by
 cases q:Vi.contains z with
 |false=>rfl
 |true=>
  have:jp.contains z=Sp:=by
   unfold jp;rewrite[VM];rewrite[List.any_append];rewrite[<-VM];rewrite[q];rfl
  replace h:=this▸h;exact absurd h (by decide)
def zp {l:List q} (h:∀x∈l,f x=Su):l.any f=Su:=by
 induction l with
 |nil=>rfl
 |cons a l z=>rewrite[VX];rewrite[h a (.head _)];rewrite[z λx m=>h x (.tail _ m)];rfl
def Fg (h:Q Su s):ax M A (YL self) Q E s:=λz p u j=>by
 unfold YL;rewrite[Sem.wp_bind'];show Sem.wp M z (.stack .pure) _ _ p s;rewrite[Sem.wp_stack];refine(Sem.wp_pure' M z _ _ _ p s).mpr (cast (congrArg (Q · s) (zp λx m=>?_).symm) h);have w:iR x.1=Su:=by
  cases m with
  |head=>exact j.1
  |tail _ m=>exact j.2 x m
 clear m;obtain⟨c,p⟩:=x;cases c with
 |builtin k args=>
  obtain⟨q,g⟩:=args;have n y m:¬k=y:=Fe w m;delta Builtin.Bytes.exported.match_1;refine(dif_neg (n "bytearray.__contains__" (by decide+kernel))).trans ?_;refine(dif_neg (n "bytearray.__mod__" (by decide+kernel))).trans ?_;refine(dif_neg (n "bytearray.__rmod__" (by decide+kernel))).trans ?_;refine(dif_neg (n "_struct.pack_into.held" (by decide+kernel))).trans ?_;refine(dif_neg (n "bytearray.find.held" (by decide+kernel))).trans ?_
  induction q using SD with
  |nil=>rfl
  |cons v r=>show(_&&Vi.contains k)=Su;rewrite[Ff w];rw[XF]
 |_=>rfl
end
end
section
def cg (h:ax M A m Z E s) (k:∀a y,Z a y->ax M A (f a) Q E y):ax M A (m>>=f) Q E s:=
 aN (gC h k λj j x=>x)
def vq (h:ax M A (eval x z) (λv q=>ax M A (unaryOp w v) Q E q) E s):ax M A (eval (.UnaryOp w x j) z) Q E s:=cg h λv q y=>aN (cE (cy y))
def Fh (h:ax M A (eval l y) (λa q=>ax M A (eval r y) (λb z=>ax M A (Wh k a b) Q E z) E q) E s) (u:VH k r=Su):ax M A (eval (.Compare l [k] [r] p) y) Q E s:=by
 rewrite[eval_Compare1];rewrite[markedBehindIn_of_false u];exact cg h λa q j=>cg (cy j) λb z w=>aN (cE (qr w))
def Fi (h:ax M A (eval l w) (λa q=>ax M A (eval r w) (λb z=>ax M A (Wh g a b) (λc y=>ax M A (XT c) Q E y) E z) E q) E s) (m:VH g r=Su):ax M A (Vk (.Compare l [g] [r] f) w j) Q E s:=by
 rewrite[isTrue_Compare1];rewrite[markedBehindIn_of_false m];exact cg h λa q k=>cg (cy k) λb z p=>aN (cE (cg (qr p) λc y u=>cy u))
def Fj (h:ax M A (Yg (WM j (Vx z w))) (λk q=>k.length<=Vy/\Q (.ref q.heap.objs.size) {q with heap:=q.heap.push {cls:=.type "list",data:=.seq k.toArray}}) E s):ax M A (eval (.List z j) w) Q E s:=aN (cE (cg h λk q y=>.B (UZ y.2 (by show k.toArray.size<=Vy;exact y.1))))
def zq (h:ax M A (Yg (WM j (Vx z w))) (λp q=>p.length<=Vy/\Q (.ref q.heap.objs.size) {q with heap:=q.heap.push {cls:=.type "tuple",data:=.seq p.toArray}}) E s):ax M A (eval (.Tuple z k j) w) Q E s:=aN (cE (cg h λp q y=>.B (UZ y.2 (by show p.toArray.size<=Vy;exact y.1))))
def Fk (h:ax M A q (λv z=>ax M A (XT v) Q E z) E s) (w:Vk e y q=(do let v<-q;Yf e.pos;holding [v] (XT v))):ax M A (Vk e y q) Q E s:=by
 rewrite[w];exact cg h λv z j=>aN (cE (cy j))
def Fl (h:ax M A (Vk z y (eval z y)) (λc j=>if c then ax M A (eval w y) Q E j else ax M A (eval q y) Q E j) E s):ax M A (eval (.IfExp z w q p) y) Q E s:=by
 refine cg h λc j k=>?_;induction c using SX<;>exact k
def Fm (h:ax M A (Vk y z (eval y z)) (λc w=>if c then ax M A (Vk j z (eval j z)) Q E w else ax M A (Vk q z (eval q z)) Q E w) E s):ax M A (Vk (.IfExp y j q r) z k) Q E s:=by
 refine cg h λc w p=>?_;induction c using SX<;>exact p
def Fo (h:ax M A (eval l w) (λa r=>ax M A (compareChain p a (q::z::k) (eval y w::eval j w::evalEach u w)) Q E r) E s) (g:lastMarks (q::z::k) (y::j::u)=Su):
  ax M A (eval (.Compare l (q::z::k) (y::j::u) p) w) Q E s:=by
 rewrite[arm_eval_Compare];rewrite[markedEach_of_false _ _ _ g];exact aN h
def Fp (h:ax M A (eval l w) (λa u=>ax M A (testChain r a (q::z::k) (eval y w::eval j w::evalEach g w)) Q E u) E s) (f:lastMarks (q::z::k) (y::j::g)=Su):
  ax M A (Vk (.Compare l (q::z::k) (y::j::g) r) w p) Q E s:=by
 rewrite[arm_isTrue_Compare];rewrite[markedEach_of_false _ _ _ f];exact aN h
def Fq (h:ax M A r (λb z=>ax M A (Wh l a b) (λc y=>ax M A (XT c) (λt q=>if t then ax M A (compareChain w b (k::p) (f::m)) Q E q else Q c q) E y) E z) E s):
  ax M A (compareChain w a (l::k::p) (r::f::m)) Q E s:=by
 refine cg (cy h) λb z u=>aN (cE (cg (cy u) λc y g=>aN (qt (cg (cy g) λt q j=>?_))));induction t using SX with
 |false=>exact bb j
 |true=>exact j
def Fr (h:ax M A r (λb z=>ax M A (Wh l a b) (λc y=>ax M A (XT c) (λt q=>if t then ax M A (testChain w b (k::p) (f::m)) Q E q else Q Su q) E y) E z) E s):
  ax M A (testChain w a (l::k::p) (r::f::m)) Q E s:=by
 refine cg (cy h) λb z u=>aN (cE (cg (cy u) λc y g=>aN (qt (cg (cy g) λt q j=>?_))));induction t using SX with
 |false=>exact bb j
 |true=>exact j
def Fs (h:ax M A (eval z p) (λv w=>ax M A (XT v) (λc q=>if c then ax M A (eval (.BoolOp .And (y::j) r) p) Q E q else Q v q) E w) E s):ax M A (eval (.BoolOp .And (z::y::j) r) p) Q E s:=by
 refine cg h λv w u=>aN (cE (cg (cy u) λc q k=>?_));induction c using SX with
 |false=>exact bb k
 |true=>exact k
def Fu (h:ax M A (eval z p) (λv w=>ax M A (XT v) (λc q=>if c then Q v q else ax M A (eval (.BoolOp .Or (y::j) r) p) Q E q) E w) E s):ax M A (eval (.BoolOp .Or (z::y::j) r) p) Q E s:=by
 refine cg h λv w u=>aN (cE (cg (cy u) λc q k=>?_));induction c using SX with
 |false=>exact k
 |true=>exact bb k
def zr (h:ax M A (Vk x z (eval x z)) (λc w=>if c then ax M A (Vk (.BoolOp .And y j) z q) Q E w else Q Su w) E s):ax M A (Vk (.BoolOp .And (x::y) j) z q) Q E s:=by
 refine cg h λc w k=>?_;induction c using SX with
 |false=>exact bb k
 |true=>exact k
def zt (h:ax M A (Vk x z (eval x z)) (λc w=>if c then Q Sp w else ax M A (Vk (.BoolOp .Or y j) z q) Q E w) E s):ax M A (Vk (.BoolOp .Or (x::y) j) z q) Q E s:=by
 refine cg h λc w k=>?_;induction c using SX with
 |false=>exact k
 |true=>exact bb k
def vr (h:ax M A x (λv z=>ax M A (Yg q) (λk y=>Q (v::k) y) E z) E s):ax M A (Yg ((Su,x)::q)) Q E s:=cg h λv z j=>(aN (bb (cg (cy j) λk y w=>bb w)))
def zu (h:ax M A (Yg ((Su,x)::q)) (λz y=>Q ⟨z,[]⟩ y) E s):ax M A (evalArgs f Sp ((Su,x)::q) []) Q E s:=cg h λz y j=>cy (aN (bb (aN (bb (bb j)))))
def vt {j} (k:args.any (·.1)=Su) (h:ax M A (evalArgs (.builtin j) Sp args []) (λa q=>ax M A (Uv (.builtin j) (first++a.pos) a.kw) Q E q) E s):ax M A (WN y (.builtin j) first args []) Q E s:=by
 delta WN;dsimp only;refine cg (cy h) λa q z=>aN (cE ?_);rw[k];exact aN (bb (cg z λr w p=>aN (cy (qp (bb p)))))
def zv (w:args.any (·.1)=Su) (h:ax M A (evalArgs (.type T) Sp args []) (λa q=>ax M A (Uv (.type T) (first++a.pos) a.kw) Q E q) E s):ax M A (WN y (.type T) first args []) Q E s:=by
 delta WN;dsimp only;refine cg (cy h) λa q z=>aN (cE ?_);rw[w];exact aN (bb (cg z λr j k=>aN (cy (qp (bb k)))))
end
@[simp] theorem fT (l:List Nat):(bz l).size=l.length:=by simp[bz]
noncomputable def qu:Nat->Option TR
 |0=>Sn (au "told")
 |1=>Sn (au "refused")
 |2=>Sn (au "block")
 |_=>none
def dt (l:List Nat):Prop:=l.length<=1048576/\∀c∈l,c<256
noncomputable def VR (ρ:List S7):V->SV->Prop
 | .az,v=>v=.none
 | .aq b,v=>v=.bool b
 | .ae i,v=>∃t,v=.int i t
 | .ag l,v=>dt l/\∃t,v=.bytes (bz l) t
 | .bx k,v=>∃x t,qu k=Sn x/\v=.str x t
 | .ab i,v=>∃a,ρ[i]?=Sn a/\v=.ref a
 | .bW a,v=>v=.ref a
noncomputable def L2 {α β:Type} (R:α->β->Prop):List α->List β->Prop
 |[],[]=>True
 |x::xs,v::vs=>R x v/\L2 R xs vs
 |_,_=>False
noncomputable def L3 {α β:Type} (R S:α->β->Prop):List α->List β->Prop
 |[],[]=>True
 |x::xs,v::vs=>R x v/\S x v/\L3 R S xs vs
 |_,_=>False
section
def L2.c {R:q->z->Prop} {P:List q->List z->Prop} (y:P [] []) (j:∀a b l m,R a b->L2 R l m->P l m->P (a::l) (b::m)) (l:List q):∀m:List z,L2 R l m->P l m:=by
 induction l with
 |nil=>intro m h;induction m using SD with|nil=>exact y|cons=>exact h.elim
 |cons a l w=>intro m h;induction m using SD with|nil=>exact h.elim|cons b m=>exact j a b l m h.1 h.2 (w m h.2)
def L3.c {R S:q->z->Prop} {P:List q->List z->Prop} (y:P [] []) (j:∀a b l m,R a b->S a b->L3 R S l m->P l m->P (a::l) (b::m)) (l:List q):∀m:List z,L3 R S l m->P l m:=by
 induction l with
 |nil=>intro m h;induction m using SD with|nil=>exact y|cons=>exact h.elim
 |cons a l w=>intro m h;induction m using SD with|nil=>exact h.elim|cons b m=>exact j a b l m h.1 h.2.1 h.2.2 (w m h.2.2)
def L2.d {S:z->y->Prop} (k:∀a∈l,∀b,S a b->q a b) (h:L2 S l m):L2 q l m:=
 L2.c (P:=λl m=>(∀a∈l,∀b,S a b->q a b)->L2 q l m) (λj=>trivial) (λa b l m h j w k=>⟨k a (.head _) b h,w λa m=>k a (.tail _ m)⟩) l m h k
def L3.d {R S:q->z->Prop} (k:∀a∈l,∀b,S a b->y a b) (h:L3 R S l m):L3 R y l m:=
 L3.c (P:=λl m=>(∀a∈l,∀b,S a b->y a b)->L3 R y l m) (λj=>trivial) (λa b l m r h j w k=>⟨r,k a (.head _) b h,w λa m=>k a (.tail _ m)⟩) l m h k
def L2.dF {R:q->z->Prop} (k:∀a b,R a b->p a=Sp) (h:L2 R l m):l.all p=Sp:=
 L2.c (P:=λl y=>l.all p=Sp) rfl (λa b l m h y j=>by refine aa (aa ?_ (k a b h)) Xc;refine aa ?_ j;rfl) l m h
def L3.dF {R S:q->z->Prop} (k:∀a b,R a b->S a b->p a=Sp) (h:L3 R S l m):l.all p=Sp:=
 L3.c (P:=λl y=>l.all p=Sp) rfl (λa b l m h j y w=>by refine aa (aa ?_ (k a b h j)) Xc;refine aa ?_ w;rfl) l m h
def L2.bd {R:z->y->Prop} (h:L2 R l m):m.length=l.length:=
 L2.c (R:=R) (P:=λl m=>m.length=l.length) rfl (λq q q q q q j=>congrArg (·+1) j) l m h
def L3.bd {R S:z->y->Prop} (h:L3 R S l m):m.length=l.length:=
 L3.c (S:=S) (P:=λl m=>m.length=l.length) rfl (λq q q q q q q j=>congrArg (·+1) j) l m h
def L2.dg {R:q->z->Prop} (h:L2 R l m) {i:Nat} (e:l[i]?=Sn x):∃v,m[i]?=Sn v/\R x v:=
 L2.c (P:=λl m=>∀i,l[i]?=Sn x->∃v,m[i]?=Sn v/\R x v) (λi e=>by rw[X9]at e;exact aG e) (λa b l m r j y i e=>by
  cases i with
  |zero=>replace e:=Sv e;subst e;exact⟨b,rfl,r⟩
  |succ i=>exact y i e) l m h i e
def L2.A {R:j->w->Prop} (h:L2 R l m) (k:L2 R z y):L2 R (l++z) (m++y):=
 L2.c (R:=R) (P:=λl m=>L2 R (l++z) (m++y)) k (λq q q q r q p=>⟨r,p⟩) l m h
def L2.B {R:z->y->Prop} (h:L2 R l m) (r:R x v) (i:Nat):L2 R (l.set i x) (m.set i v):=
 L2.c (P:=λl m=>∀i,L2 R (l.set i x) (m.set i v)) (λw=>trivial) (λa b l m q h j i=>by
  cases i with
  |zero=>exact⟨r,h⟩
  |succ i=>exact⟨q,j i⟩) l m h i
def L2.C {R:z->y->Prop} (h:L2 R l m) (n:Nat):L2 R (l.take n) (m.take n):=
 L2.c (P:=λl m=>∀n,L2 R (l.take n) (m.take n)) (λn=>by cases n<;>exact trivial) (λa b l m q h j n=>by
  cases n with
  |zero=>exact trivial
  |succ n=>exact⟨q,j n⟩) l m h n
def L2.t {R:z->y->Prop} (h:L2 R l m) (n:Nat):L2 R (l.drop n) (m.drop n):=
 L2.c (P:=λl m=>∀n,L2 R (l.drop n) (m.drop n)) (λn=>by cases n<;>exact trivial) (λa b l m q h j n=>by
  cases n with
  |zero=>exact⟨q,h⟩
  |succ n=>exact j n) l m h n
def L2.ao {R:z->q->Prop} (h:L2 R [] m):m=[]:=by induction m using SD with|nil=>rfl|cons=>exact h.elim
def L2.ai {R:q->z->Prop} (h:L2 R (a::l) m):∃b r,m=b::r/\R a b/\L2 R l r:=by
 induction m using SD with|nil=>exact h.elim|cons b r=>exact⟨b,r,rfl,h⟩
end
noncomputable abbrev bN (ρ:List S7):List V->List SV->Prop:=L2 (VR ρ)
noncomputable def qv (ρ:List S7):Option V->Option SV->Prop
 |none,v=>v=none
 |some x,v=>∃y,v=Sn y/\VR ρ x y
def gG {q:List z} (h:y<+:q) {i:Nat} (e:y[i]?=Sn a):q[i]?=Sn a:=by
 refine h.elim λt e0=>?_;subst e0;refine aa ?_ (SM (by have:=(SO.mp e).1;exact this));exact e
def VR.RA (h:y<+:z) (r:VR y x v):VR z x v:=by
 induction x using V.casesOn<;>first|exact r|skip
 exact r.imp λa q=>⟨gG h q.1,q.2⟩
def L2.RA (h:y<+:z) (r:bN y j w):bN z j w:=r.d λk k k q=>q.RA h
def qv.RA (h:j<+:z) (r:qv j x v):qv z x v:=by
 induction x using Tr with
 |none=>exact r
 |some x=>exact r.imp λy q=>⟨q.1,q.2.RA h⟩
noncomputable def oB (f:Nat):Option TR:=(gW.find? λe=>e.2==f).map (·.1)
def NK (P:Params) (f:Nat×V) (e:Xl):Prop:=∃x,oB f.1=Sn x/\e.hash=Va P x/\∃t,e.key=.str x t
noncomputable abbrev NR (ρ:List S7) (P:Params):List (Nat×V)->List Xl->Prop:=L3 (NK P) (λf e=>VR ρ f.2 e.val)
structure bk where
 fJ:Program
 bg:World
 bG:WC
 bU:Program
 Fv:List TR
 hJ:TR->Option SV
 Fw:TR->Option SV
 cb:TV
 eS:List (S7×S7×List (Pos×TR))
noncomputable abbrev bk.iq (W:bk):Params:=W.bg.params
noncomputable abbrev bk.b (W:bk):Model:=Tt W.fJ W.bg
noncomputable abbrev bk.c (W:bk):List S7:=W.eS.map (·.2.1)
def BK (f:V×V) (e:List UInt8×SV):Prop:=∃l,f.1=.ag l/\dt l/\e.1=l.map UInt8.ofNat
noncomputable abbrev KR (ρ:List S7):List (V×V)->List (List UInt8×SV)->Prop:=L3 BK (λf e=>VR ρ f.2 e.2)
def IK (f:V×V) (e:Int×SV):Prop:=f.1=.ae e.1
noncomputable abbrev KI (ρ:List S7):List (V×V)->List (Int×SV)->Prop:=L3 IK (λf e=>VR ρ f.2 e.2)
def fK (W:bk) (ρ:List S7) (h:TV) (a:S7) (es:List (V×V)):Prop:=
 (∃m_,KR ρ es m_/\h.DictOf (Xm W.fJ W.bg) a m_)∨(es≠[]/\∃m_,KI ρ es m_/\h.DictOf (intKind W.fJ W.bg) a m_)
def fK.RA (q:y<+:z) (d:fK W y h a j):fK W z h a j:=
 d.imp (λd=>d.imp λw r=>⟨(r.1.d λu u u g=>g.RA q),r.2⟩) λd=>⟨d.1,d.2.imp λw r=>⟨(r.1.d λk k k p=>p.RA q),r.2⟩⟩
def zw {K:Type} [DecidableEq K] {q:U7 p w K} {h y:TV} {z:List (K×SV)} (e:y.get? a=h.get? a):h.DictOf q a z->y.DictOf q a z:=λv=>by
 refine uG v λo j k g r=>?_;exact⟨o,j,k,e.trans g,r⟩
def fK.fU (e:z.get? a=h.get? a) (d:fK W q h a y):fK W q z a y:=
 d.imp (λd=>d.imp λj r=>⟨r.1,zw e r.2⟩) λd=>⟨d.1,d.2.imp λj r=>⟨r.1,zw e r.2⟩⟩
def zx {K:Type} [DecidableEq K] {q:U7 p w K} {h:TV} {z:List (K×SV)} (d:h.DictOf q a z):∃o,h.get? a=Sn o:=by
 refine uG d λo _ _ g _=>?_;exact⟨o,g⟩
def fK.RE {W:bk} {ρ:List S7} {h:TV} {a:S7} {es:List (V×V)} (d:fK W ρ h a es):∃o,h.get? a=Sn o:=
 d.elim (λd=>d.elim λζ r=>zx r.2) λd=>d.2.elim λζ r=>zx r.2
def iA {y:Type} [BEq z] [LawfulBEq z] {b:y} {l:List (z×y)} (h:l.lookup a=Sn b):(a,b)∈l:=by
 induction l with
 |nil=>exact aG h
 |cons e l j=>
  obtain⟨c,d⟩:=e;rw[T2]at h;cases q:(a==c)with
  |true=>rw[q]at h;exact aa (aa (.head _) (SG q)) (Sv h)
  |false=>rw[q]at h;exact .tail _ (j h)
inductive Ql (h:TV) (a:S7) (k:Nat) (cl:List (TR×S7)) (sc:Ub):Prop
 |mk (body:TQ) (qual:TR) (pm cv ct:SV)
  (g:h.get? a=Sn {cls:=.type "function",data:=.func {name:="<lambda>",qualname:=qual,params:=⟨[],[],none,[],[],none,[]⟩,body:=.expr body,scope:=sc,globals:=Vf,closure:=cl,defaults:=.none,kwdefaults:=.none,doc:=.none,pyModule:=pm,annotations:=none,code:=cv,closureTuple:=ct,builtins:=Wl}})
  (r:h.CodeRec cv qual) (b:∃X g,Lt k=Sn X/\body=dE B0 X g/\cB B0 C0 sc X g=Sp) (kf:sc.kind=.function) (co:sc.isCoroutine=Su) (ge:sc.isGenerator=Su) (nm:∀y∈sc.names,y.2≠.cell/\y.2≠ .local) (gl:dU sc (au "_law_heard")=Su)
inductive Qm (ρ:List S7) (h:TV) (a:S7) (xs:List V):Prop
 |mk (vs:List SV) (n:Nat) (r:bN ρ xs vs) (l:xs.length<=1048576) (i:Wi h a vs.toArray n)
inductive Qn (ρ:List S7) (h:TV) (a:S7) (xs:List V):Prop
 |mk (vs:List SV) (n:Nat) (r:bN ρ xs vs) (l:xs.length<=1048576) (i:WO h a vs.toArray n)
inductive Qo (ρ:List S7) (h:TV) (a:S7) (c d:Nat):Prop
 |mk (C dx:S7) (e0:i3 c=Sn C) (e1:ρ[d]?=Sn dx) (g:h.get? a=Sn (Vz C dx))
inductive Qp (P:Params) (ρ:List S7) (h:TV) (a:S7) (fs:List (Nat×V)):Prop
 |mk (es:List Xl) (n:Nat) (r:NR ρ P fs es) (g:h.get? a=Sn (VN es n))
inductive Qq (ρ:List S7) (h:TV) (a:S7) (k:Nat) (cs:List Nat):Prop
 |mk (cl:List (TR×S7)) (sc:Ub) (l:Ql h a k cl sc) (c:cs.length=(c9 sc).length/\∀j∈cs,j<ρ.length) (z:∀(i:Nat) nm,(c9 sc)[i]?=Sn nm->∃j c,cs[i]?=Sn j/\cl.lookup nm=Sn c/\ρ[j]?=Sn c)
noncomputable def OR (W:bk) (ρ:List S7) (h:TV) (a:S7):O->Prop
 | .ah xs=>Qm ρ h a xs
 | .aX xs=>Qn ρ h a xs
 | .aE es=>es.length<=1048576/\fK W ρ h a es
 | .bE l=>dt l/\h.get? a=Sn {cls:=.type "bytearray",data:=.bytearray (bz l)}
 | .a8 c d=>Qo ρ h a c d
 | .aL fs=>Qp W.iq ρ h a fs
 | .a9 v=>∃y,qv ρ v y/\h.IsCell a y
 | .cq k cs=>Qq ρ h a k cs
def OR.RA (q:p<+:y) (r:OR W p h a o):OR W y h a o:=by
 induction o using O.casesOn with
 |ah t=>exact r.casesOn λw n r l i=>⟨w,n,L2.RA q r,l,i⟩
 |aX t=>exact r.casesOn λw n r l i=>⟨w,n,L2.RA q r,l,i⟩
 |aE u=>exact⟨r.1,fK.RA q r.2⟩
 |bE l=>exact r
 |a8 c d=>exact r.casesOn λC s b x g=>⟨C,s,b,gG q x,g⟩
 |aL J=>exact r.casesOn λu n r g=>⟨u,n,(r.d λP P P U=>U.RA q),g⟩
 |a9 v=>exact Exists.imp (λf r=>⟨r.1.RA q,r.2⟩) r
 |cq k K=>exact r.casesOn λQ Z l c z=>⟨Q,Z,l,⟨c.1,λj m=>SA (c.2 j m) q.length_le⟩,λi Y e=>(z i Y e).imp λf r=>r.imp λf r=>⟨r.1,r.2.1,gG q r.2.2⟩⟩
def OR.fU (e:j.get? a=h.get? a) (q:∀u y,h.CodeRec u y->j.CodeRec u y) (r:OR W p h a o):OR W p j a o:=by
 induction o using O.casesOn with
 |ah m=>exact r.casesOn λw n r l i=>⟨w,n,r,l,e.trans i⟩
 |aX m=>exact r.casesOn λw n r l i=>⟨w,n,r,l,e.trans i⟩
 |aE f=>exact⟨r.1,fK.fU e r.2⟩
 |bE l=>exact⟨r.1,e.trans r.2⟩
 |a8 c d=>exact r.casesOn λC t s b g=>⟨C,t,s,b,e.trans g⟩
 |aL Y=>exact r.casesOn λf n r g=>⟨f,n,r,e.trans g⟩
 |a9 v=>exact Exists.imp (λx r=>⟨r.1,r.2.imp λx r=>⟨e.trans r.1,r.2⟩⟩) r
 |cq k J=>exact r.casesOn λQ Z l c z=>⟨Q,Z,(l.casesOn λK P U G L F l M E T D B N=>⟨K,P,U,G,L,e.trans F,q _ _ l,M,E,T,D,B,N⟩),c,z⟩
def OR.RE {W:bk} {ρ:List S7} {h:TV} {a:S7} {o:O} (r:OR W ρ h a o):∃x,h.get? a=Sn x:=by
 induction o using O.casesOn with
 |ah xs=>exact r.casesOn λζ ζ ζ ζ i=>⟨_,i⟩
 |aX xs=>exact r.casesOn λζ ζ ζ ζ i=>⟨_,i⟩
 |aE es=>exact r.2.RE
 |bE l=>exact⟨_,r.2⟩
 |a8 c d=>exact r.casesOn λζ ζ ζ ζ g=>⟨_,g⟩
 |aL fs=>exact r.casesOn λζ ζ ζ g=>⟨_,g⟩
 |a9 v=>exact r.elim λζ r=>r.2.elim λζ r=>⟨_,r.1⟩
 |cq k cs=>exact r.casesOn λζ ζ l ζ ζ=>l.casesOn λζ ζ ζ ζ ζ g ζ ζ ζ ζ ζ ζ ζ=>⟨_,g⟩
structure j8 (W:bk) (base:TV) (ρ:List S7) (σ:List O) (h:TV):Prop where
 bd:ρ.length=σ.length
 m5:ρ.Nodup
 m6:∀a∈ρ,base.get? a=none
 dS:∀(i:Nat) (o:O) (a:S7),σ[i]?=Sn o->ρ[i]?=Sn a->OR W ρ h a o
def j8.gk (x:j8 W q z j h) (m:a∈z):∃o,h.get? a=Sn o:=by
 obtain⟨i,w,rfl⟩:=U3 m;have y:=x.bd▸w;exact(x.dS i j[i] z[i] (S0 y) (S0 w)).RE
def j8.bX (x:j8 W q z y h) (m:a∈z):a<h.objs.size:=
 let⟨_,e⟩:=x.gk m;Uk e
def j8.fU (x:j8 W z j k h) (e:∀a∈j,w.get? a=h.get? a) (q:∀p y,h.CodeRec p y->w.CodeRec p y):j8 W z j k w:=
 ⟨x.bd,x.m5,x.m6,λi o a u r=>(x.dS i o a u r).fU (e a (Th r)) q⟩
def j8.dC (x:j8 W z p u h) (k:∀b∈p,g.get? b=h.get? b) (q:∀m y,h.CodeRec m y->g.CodeRec m y) (d:a∉p) (s:z.get? a=none) (r:OR W (p++[a]) g a o):
  j8 W z (p++[a]) (u++[o]) g:=by
 refine⟨by simp[x.bd],?_,?_,?_⟩
 ·rewrite[W4]
  refine⟨x.m5,by simp,?_⟩;intro b l c e q;rw[SP]at e;subst e;subst q;exact d l
 ·intro b v
  rcases Tn.mp v with q|q
  ·exact x.m6 b q
  ·exact aa s (SP.mp q)
 ·intro i n b j w
  by_cases t:i<u.length
  ·rw[SM t]at j
   rw[SM (x.bd▸t)]at w;exact((x.dS i n b j w).fU (k b (Th w)) q).RA (TJ _ _)
  ·have f:i=u.length:=by
    have:=(SO.mp j).1;rw[Sr]at this;exact V0 (V9 this) (TN.mp t)
   subst f;rw[Ts (SJ _),Uw]at j;rw[Ts (aa (SJ _) x.bd),x.bd,Uw]at w;replace j:=Sv j;subst j;replace w:=Sv w;subst w;exact r
structure bk.n (W:bk):Prop where
 X:W.bG.In W.cb
 bZ:TopRead W.bU W.Fv W.hJ W.Fw W.cb
 i5:∀t∈W.c,W.cb.get? t=none
 gY:∀t∈W.eS,CodeHd W.cb t.1 t.2.1
def sG (W:bk) (h:TV):Prop:=∀t∈W.eS,∃ps,h.get? t.2.1=Sn (tabObj ps)/\TriplesOk ps.toList/\
 ∀q∈t.2.2,Wj q.1 ps.toList=none∨∃c,Wj q.1 ps.toList=Sn (.ref c)/\h.CodeRec (.ref c) q.2
structure ck (W:bk) (ρ b_:List S7) (h h':TV):Prop where
 cY:ρ<+:b_
 dw:∀a∈b_,a∈ρ∨h.get? a=none
 fV:∀b o,h.get? b=Sn o->b∉ρ->b∉W.c->∃sl,h'.get? b=Sn {o with slots:=sl}/\((∃vs,o.data=.fields vs)->sl=o.slots)
 gk:∀b o,h.get? b=Sn o->∃o',h'.get? b=Sn o'
 ij:∀cv q,h.CodeRec cv q->h'.CodeRec cv q
def ck.exact (x:ck W y z h j) (e:h.get? b=Sn o) (w:b∉y) (k:b∉W.c) (p:∃r,o.data=.fields r):j.get? b=Sn o:=by
 refine aP (x.fV b o e w k) λg u q=>?_;exact aa (aa rfl (q p)) u
def ck.E:ck W z z h h:=⟨VA _,λq m=>.inl m,λq o e q q=>⟨o.slots,e,λq=>rfl⟩,λq o e=>⟨o,e⟩,λq q x=>x⟩
def ck.A (x:ck W g z h w) (y:ck W z j w k):ck W g j h k:=by
 refine⟨x.cY.trans y.cY,λa m=>?_,λb o e l f=>?_,λb o e=>?_,λt q c=>y.ij t q (x.ij t q c)⟩
 ·rcases y.dw a m with q|q
  ·exact x.dw a q
  ·refine .inr ?_
   cases e:h.get? a with
   |none=>rfl
   |some o=>refine(x.gk a o e).elim λd p=>?_;rw[p]at q;exact aG q.symm
 ·refine aP (x.fV b o e l f) λZ v n=>?_
  have r:b∉z:=λm=>by
   rcases x.dw b m with q|q
   ·exact l q
   ·rw[e]at q;exact aG q.symm
  refine aP (y.fV b _ v r f) λu i Q=>?_;exact⟨u,i,λs=>(Q s).trans (n s)⟩
 ·refine(x.gk b o e).elim λd p=>?_
  exact y.gk b d p
def ck.RA (k:∀b o,h.get? b=Sn o->y.get? b=Sn o):ck W z z h y:=
 ⟨VA _,λq m=>.inl m,λb o e q q=>⟨o.slots,k b o e,λq=>rfl⟩,λb o e=>⟨o,k b o e⟩,λq q c=>c.keeps k⟩
def ck.dC (k:∀b o,h.get? b=Sn o->j.get? b=Sn o) (w:h.get? a=none):ck W y (y++[a]) h j:=
 ⟨TJ _ _,λb m=>(Tn.mp m).imp id λq=>by exact aa w (SP.mp q),λb o e z z=>⟨o.slots,k b o e,λz=>rfl⟩,λb o e=>⟨o,k b o e⟩,λz z c=>c.keeps k⟩
structure aR (W:bk) (fr:List Env) (ρ:List S7) (σ:List O) (h:TV):Prop where
 cH:j8 W W.cb ρ σ h
 bn:W.cb.StaysIn h
 eA:h.FunFrames W.cb fr
 iB:∀env∈fr,∀L,env.frame=Sn L->L∉ρ/\L∉W.c
 eS:sG W h
 jq:∀t∈W.c,t∉ρ
structure c7 where
 bO:Vj
 aK:Env
 bD:List Env
 bq:Ub
structure c7.n (W:bk) (x:c7) (d u:Nat):Prop where
 j9:x.bO.depth+3*d<=900
 lY:x.bO.units+u<=9000
 fL:x.bO.handled=none
 eA:x.bO.frames=Sn x.bD
 dP:x.aK.scope.kind=.function
 bW:x.aK.globals=Vf
 m7:x.aK.builtins=Wl
 ca:(cX x.bq).Nodup
 i6:∀nm k,x.bq.names.lookup nm=Sn k->x.aK.kindOf nm=Sn k∨(k=.free/\x.aK.kindOf nm=Sn .cell)
structure cn (W:bk) (x:c7) (ρ:List S7) (loc:bo) (be:List Nat) (σ:List O) (h:TV):Prop extends aR W x.bD ρ σ h where
 oC:loc.length=(cX x.bq).length
 aL:∃m,h.Ns x.aK.locals m/\∀(i:Nat) nm v,(cX x.bq)[i]?=Sn nm->loc[i]?=Sn (Sn v)->∃y,m nm=Sn y/\VR ρ v y
 iS:x.aK.locals∉ρ/\x.aK.locals∉W.c
 m8:W.cb.objs.size<=x.aK.locals
 lZ:∀(i:Nat) nm j,(c9 x.bq)[i]?=Sn nm->be[i]?=Sn j->∃c,x.aK.cells.lookup nm=Sn c/\ρ[j]?=Sn c
 eT:be.length=(c9 x.bq).length
def cn.aD (F:cn W x n k p Q h) (l:ck W n w h f) (g:aR W x.bD w u f):cn W x w k p u f:=by
 refine aQ λG Z=>?_;obtain⟨m,⟨o,Y,J,a,K,P,U⟩,r⟩:=F.aL;refine aP (l.fV _ _ a F.iS.1 F.iS.2) λL t _=>?_;refine Z ?_;refine⟨g,F.oC,⟨m,⟨_,Y,J,t,K,P,U⟩,λi d v s b=>?_⟩,⟨λq=>?_,F.iS.2⟩,F.m8,λi d j s b=>?_,F.eT⟩
 ·refine aP (r i d v s b) λy e z=>?_
  exact⟨y,e,z.RA l.cY⟩
 ·rcases l.dw _ q with z|z
  ·exact F.iS.1 z
  ·rw[a]at z;exact aG z.symm
 ·refine aP (F.lZ i d j s b) λc e z=>?_
  exact⟨c,e,gG l.cY z⟩
inductive Qr (W:bk) (h₀:TV) (ρ:List S7) (e dx:S7) (fl:Option S7) (h:TV) (v:Option SV):Prop
 |mk (T:S7) (ts:Array SV) (hv:v=Sn (.ref T)) (n:h₀.get? T=none) (ne:T≠e) (nd:T≠dx) (nr:T∉ρ) (nt:T∉W.c) (g:h.get? T=Sn {cls:=.type "traceback",data:=.fields ts}) (l:3<ts.size) (z:ts[3]?=Sn .none∨∃L,fl=Sn L/\ts[3]?=Sn (Vu L))
def Tb (W:bk) (h₀:TV) (ρ:List S7) (e dx:S7) (fl:Option S7) (h:TV) (v:Option SV):Prop:=v=Sn .none∨Qr W h₀ ρ e dx fl h v
structure zy (h₀:TV) (e dx:S7):Prop where
 fW:h₀.get? e=none
 bs:h₀.get? dx=none
 eN:e≠dx
inductive Qs (W:bk) (h₀:TV) (ρ:List S7) (told:V) (fl:Option S7) (e:S7) (h:TV):Prop
 |mk (vs:Array SV) (dx:S7) (es:List Xl) (n:Nat) (g:h.get? e=Sn {cls:=.ref 45,dict:=Sn dx,data:=.fields vs}) (gd:h.get? dx=Sn (VN es n)) (r:NR ρ W.iq [(0,told)] es) (l:4<vs.size)
  (nw:zy h₀ e dx) (o1:e∉ρ/\dx∉ρ) (o2:e∉W.c/\dx∉W.c) (tb:Tb W h₀ ρ e dx fl h vs[1]?)
structure fk (W:bk) (h₀:TV) (ρ:List S7) (told:V) (fl:Option S7) (e:S7) (h:TV):Prop where
 aU:Qs W h₀ ρ told fl e h
def fk.B (k:∀b,z.get? b=none->q.get? b=none) (x:fk W z j y w e h):fk W q j y w e h:=by
 obtain⟨p,r,u,n,g,l,f,m,⟨t,s,o⟩,c,d,v⟩:=x.aU;refine⟨p,r,u,n,g,l,f,m,⟨k _ t,k _ s,o⟩,c,d,v.imp id ?_⟩;rintro⟨T,i,a,Q,Z,Y,J,K,P,U,G⟩;exact⟨T,i,a,k _ Q,Z,Y,J,K,P,U,G⟩
def ck.D (x:ck W j z h y) (e:y.get? b=none):h.get? b=none:=by
 cases q:h.get? b with
 |none=>rfl
 |some o=>refine(x.gk b o q).elim λk w=>?_;rw[w]at e;exact aG e.symm
def bL (W:bk) (fr:List Env) (ρ:List S7) {α β:Type} (rel:List S7->α->β->Prop) (s:Tf) (r:R α) (Q:β->Tf->Prop) (E:SV->Tf->Prop):Prop:=match r with
 | .aj v c_=>∀b_ v' h' f_,ck W ρ b_ s.heap h'->rel b_ v v'->aR W fr b_ c_ h'->Q v' {s with heap:=h',toks:=f_}
 | .bh told c_=>∀b_ e h' f_,ck W ρ b_ s.heap h'->aR W fr b_ c_ h'->fk W s.heap b_ told none e h'->E (.ref e) {s with heap:=h',toks:=f_}
 | .ak=>False
abbrev db (W:bk) (fr:List Env) (ρ:List S7) (s:Tf) (r:R V) (Q:SV->Tf->Prop) (E:SV->Tf->Prop):Prop:=bL W fr ρ VR s r Q E
section
def bL.RB (p:ck W f q s.heap z) (g:bL W d f k s r Q E):bL W d q k {s with heap:=z,toks:=y} r Q E:=by
 induction r using R.casesOn with
 |aj v u=>exact λj o l w a b c=>g j o l w (p.A a) b c
 |bh t u=>exact λj e l w a b c=>g j e l w (p.A a) b (c.B λi=>p.D)
 |ak=>exact g
def jr (W:bk) (A:Vj) (fr:List Env) (ρ:List S7) {α β:Type} (rel:List S7->α->β->Prop) (s:Tf) (t:Sem β) (r:R α):Prop:=
 ∀Q E,bL W fr ρ rel s r Q E->ax W.b A t Q E s
abbrev fX (W:bk) (A:Vj) (fr:List Env) (ρ:List S7) (s:Tf) (t:Sem SV) (r:R V):Prop:=jr W A fr ρ VR s t r
def jr.am (h:jr W A f e l s t r) (g:bL W f e j s (r.C k) Q E) (n:∀v z q m w y,ck W e q s.heap w->l q v m->aR W f q z w->bL W f q j {s with heap:=w,toks:=y} (k v z) Q E->Z m {s with heap:=w,toks:=y}):ax W.b A t Z E s:=by
 refine h Z E ?_;induction r using R.casesOn with
 |aj v z=>exact λq m w y a b c=>n v z q m w y a b c (g.RB a)
 |bh t z=>exact g
 |ak=>exact g
def bL.x (g:bL W k z q s (.aj v j) Q E) (F:aR W k z j s.heap) (r:q z v y) (p:Nat):Q y {s with toks:=p}:=
 g z y s.heap p .E r F
def bL.A (g:bL W k z q s (.aj v j) Q E) (F:aR W k z j s.heap) (r:q z v y):Q y s:=
 g z y s.heap s.toks .E r F
end
def bf (W:bk) (x:c7) (e:TQ) (f:bo->List Nat->List O->R V):Prop:=
 ∀ρ loc be σ s,cn W x ρ loc be σ s.heap->fX W x.bO x.bD ρ s (eval e x.aK) (f loc be σ)
noncomputable def fD (r:R V):R Bool:=r.C λv σ=>match v with| .aq b=>.aj b σ|_=>.ak
abbrev fU (_:List S7) (b c:Bool):Prop:=c=b
def fY (W:bk) (x:c7) (e:TQ) (f:bo->List Nat->List O->R V):Prop:=
 ∀ρ loc be σ s,cn W x ρ loc be σ s.heap->jr W x.bO x.bD ρ fU s (Vk e x.aK (eval e x.aK)) (fD (f loc be σ))
section
def oE {y:TV} (w:y.StaysIn h) (j:h.get? a=none):y.get? a=none:=by
 cases q:y.get? a with
 |none=>rfl
 |some z=>rw[w a z q]at j;exact aG j.symm
def vx {h w:TV}:∀{l:List Env},h.FunFrames z l->(∀y∈l,∀L o,y.frame=Sn L->h.get? L=Sn o->∃j,w.get? L=Sn j/\j.data=o.data)->w.FunFrames z l
 :=λ{l}=>by
 induction l with
 |nil=>exact λ_ _=>trivial
 |cons y l i=>
  intro w k;obtain⟨r,⟨L,o,p,u,g,f⟩,m⟩:=w;refine aP (k y (.head _) L o p g) λj e d=>?_;exact⟨r,⟨L,j,p,u,e,λc q=>f c (d▸q)⟩,i m λe t=>k e (.tail _ t)⟩
def sG.fV (t:sG W h) (k:∀a∈W.c,∀o,h.get? a=Sn o->z.get? a=Sn o) (q:∀y n,h.CodeRec y n->z.CodeRec y n):sG W z:=λp j=>by
 refine dz (t p j) λw e r f=>?_;exact⟨w,k _ (Tv j) _ e,r,λx u=>(f x u).imp id λ⟨c,g,l⟩=>⟨c,g,q _ _ l⟩⟩
def aR.RA (F:aR W w z y h) (k:∀b o,h.get? b=Sn o->j.get? b=Sn o):aR W w z y j:=by
 refine⟨F.cH.fU (λa m=>?_) λq q c=>c.keeps k,λb o e=>k _ _ (F.bn b o e),?_,F.iB,F.eS.fV (λa q o e=>k a o e) λq q c=>c.keeps k,F.jq⟩
 ·refine(F.cH.gk m).elim λo e=>?_
  exact aa e.symm (k _ _ e)
 ·exact vx F.eA λp r L o u e=>⟨o,k L o e,rfl⟩
def aR.dC (F:aR W f u n h) (k:∀b o,h.get? b=Sn o->g.get? b=Sn o) (i:h.get? a=none) (r:OR W (u++[a]) g a o):aR W f (u++[a]) (n++[o]) g:=by
 have G:=F.RA k;have d:∀b z,h.get? b=Sn z->b≠a:=λb z e q=>by rw[q,i]at e;exact aG e
 refine⟨G.cH.dC (λb m=>rfl) (λZ Z c=>c) (λm=>let⟨z,e⟩:=F.cH.gk m;d a z e rfl) (oE F.bn i) r,G.bn,G.eA,λw j L s=>⟨λq=>?_,(F.iB w j L s).2⟩,G.eS,λt x q=>?_⟩
 ·rcases Tn.mp q with q|q
  ·exact(F.iB w j L s).1 q
  ·have:∃z,h.get? L=Sn z:=by
    have Q:=F.eA;revert j;generalize f=l at Q;intro j;induction l with
    |nil=>cases j
    |cons e l Y=>
     refine aQ λG J=>?_;obtain⟨U,⟨M,z,y,_,v,_⟩,K⟩:=Q;refine J ?_;rcases Tq.mp j with rfl|j
     ·rw[s]at y;replace y:=Sv y;subst y;exact⟨z,v⟩
     ·exact Y K j
   refine this.elim λz e=>?_;exact d _ z e (SP.mp q)
 ·rcases Tn.mp q with q|q
  ·exact F.jq t x q
  ·refine cW x λp P e0=>?_;subst e0
   refine aP (F.eS p P) λC e _=>?_;exact d _ _ e (SP.mp q)
end
def VR.RB (r:VR q x v):c8 q.length x=Sp:=by
 induction x using V.casesOn<;>try rfl
 refine aP r λa e _=>?_;exact decide_eq_true (SO.mp e).1
def VR.RD (u:c8 n x=Sp) (r:VR z x v):VR (z.take n) x v:=by
 induction x using V.casesOn<;>try exact r
 refine aP r λa e q=>?_;have:=of_decide_eq_true u;exact⟨a,by refine aa ?_ (UP this);exact e,q⟩
def bN.RB (r:bN q z y):z.all (c8 q.length)=Sp:=r.dF λj j r=>r.RB
def sH {l:List q} (u:l.all p=Sp) {a} (m:a∈l):p a=Sp:=SN.mp u a m
def bH (h:(a&&b)=Sp):a=Sp/\b=Sp:=by induction a using SX<;>induction b using SX<;>first|exact⟨rfl,rfl⟩|exact bv h
def bN.RD (u:q.all (c8 n)=Sp) (r:bN z q y):bN (z.take n) q y:=r.d λj m j r=>r.RD (sH u m)
def KR.RB (r:KR q z y):(z.all λe=>c8 q.length e.1&&c8 q.length e.2)=Sp:=r.dF λj j k r=>by
 refine aP k λl e _=>?_;refine aa (aa ?_ e) r.RB;rfl
def KI.RB (r:KI q z y):(z.all λe=>c8 q.length e.1&&c8 q.length e.2)=Sp:=r.dF λf _ k r=>by refine aa (aa ?_ k) r.RB;rfl
def OR.RB (r:OR W q h a o):jH q.length o=Sp:=by
 induction o using O.casesOn with
 |ah z=>obtain⟨_,_,d,_⟩:=r;exact d.RB
 |aX z=>obtain⟨_,_,d,_⟩:=r;exact d.RB
 |aE y=>obtain⟨_,⟨_,d,_⟩|⟨_,_,d,_⟩⟩:=r<;>exact d.RB
 |bE l=>rfl
 |a8 c d=>obtain⟨_,_,_,e,_⟩:=r;exact decide_eq_true (SO.mp e).1
 |aL w=>obtain⟨_,_,d,_⟩:=r;exact d.dF λg g g d=>d.RB
 |a9 v=>
  induction v using Tr with
  |none=>rfl
  |some x=>obtain⟨_,⟨_,_,r⟩,_⟩:=r;exact r.RB
 |cq k p=>obtain⟨_,_,_,⟨_,u⟩,_⟩:=r;exact SN.mpr λj m=>decide_eq_true (u j m)
def OR.RD (u:jH n o=Sp) (r:OR W g h a o):OR W (g.take n) h a o:=by
 induction o using O.casesOn with
 |ah s=>obtain⟨p,n,q,l,x⟩:=r;exact⟨p,n,q.RD u,l,x⟩
 |aX s=>obtain⟨p,n,q,l,x⟩:=r;exact⟨p,n,q.RD u,l,x⟩
 |aE E=>
  obtain⟨l,⟨k,d,x⟩|⟨n,k,d,x⟩⟩:=r
  ·exact⟨l,.inl ⟨k,(d.d λA m A d=>d.RD (bH (sH u m)).2),x⟩⟩
  ·exact⟨l,.inr ⟨n,k,(d.d λI H I d=>d.RD (bH (sH u H)).2
),x⟩⟩
 |bE l=>exact r
 |a8 c d=>
  obtain⟨C,b,Q,e,x⟩:=r;exact⟨C,b,Q,by refine aa ?_ (UP (of_decide_eq_true u));exact e,x⟩
 |aL T=>obtain⟨e,m,d,x⟩:=r;exact⟨e,m,(d.d λB N B d=>d.RD (sH u N)),x⟩
 |a9 v=>
  obtain⟨y,q,x⟩:=r;refine⟨y,?_,x⟩;induction v using Tr with
  |none=>exact q
  |some z=>obtain⟨w,e,q⟩:=q;exact⟨w,e,q.RD u⟩
 |cq k D=>
  obtain⟨Z,Y,x,⟨J,K⟩,f⟩:=r;refine⟨Z,Y,x,⟨J,λj m=>?_⟩,λi P e=>?_⟩
  ·have:=of_decide_eq_true (SN.mp u j m)
   obtain⟨i,U,rfl⟩:=U3 m;exact aa (Nat.lt_min.mpr ⟨this,K _ (List.getElem_mem U)⟩) U8
  refine aQ λG L=>?_;obtain⟨j,c,t,F,M⟩:=f i P e;have:=SN.mp u j (Th t);exact L ⟨j,c,t,F,by refine aa ?_ (UP (of_decide_eq_true this));exact M⟩
def Fx:∀{y j},gz n y j=Sp->∀{i:Nat} {p:O},(j.take y.length)[i]?=p->y[i]?=p∨jH n p=Sp:=by
 intro y;induction y with
 |nil=>intro j _ i p e;exact aG e
 |cons o y IH=>
  intro j h i p e;induction j using SD with
  |nil=>exact bv h
  |cons q j=>
   replace h:=yk h;induction i using Nat.casesOn with
   |zero=>
    replace e:=Sv e;subst e;exact h.1.imp (λz=>congrArg Sn z) id
   |succ i=>exact IH h.2 e
section
def Fy:∀{q z},gz n q z=Sp->q.length<=z.length:=by
 intro q;induction q with
 |nil=>intro _ _;exact S6 _
 |cons o q IH=>
  intro z h;induction z using SD with
  |nil=>exact bv h
  |cons p z=>exact SE (IH (yk h).2)
def aR.fg (F:aR W g w j h) (c:ck W w q h r) (G:aR W g q y r) (k:gz j.length j y=Sp):w=q.take j.length/\aR W g w (y.take j.length) r:=by
 have p:=F.cH.bd;have e:w=q.take j.length:=by
  refine c.cY.elim λt e0=>?_;subst e0;exact aT W0.symm p
 refine⟨e,⟨?_,F.cH.m5,F.cH.m6,λi o a l f=>?_⟩,G.bn,G.eA,F.iB,G.eS,F.jq⟩
 ·exact aa (aa ((Nat.min_eq_left (Fy k)).symm) U8) p
 ·have m:y[i]?=o:=by rw[UP (p▸(SO.mp f).1)]at l;exact l
  exact aa ((G.cH.dS i o a m (gG c.cY f)).RD (by
    rcases Fx k l with z|z
    ·exact aT ((F.cH.dS i o a z f).RB) p
    ·exact z)) e
def bL.fg (F:aR W k w q s.heap) (g:db W k w s (Internal.fg q r) Q E):db W k w s r Q E:=by
 induction r using R.casesOn with
 |ak=>exact g
 |bh t z=>exact g
 |aj v z=>
  intro p u l y j f G;dsimp only[Internal.fg]at g;cases c:c8 q.length v&&gz q.length q z with
  |true=>
   rw[c]at g;rw[T3]at c;refine(F.fg j G c.2).elim λe d=>?_;exact g w u l y ⟨VA _,λo m=>.inl m,j.fV,j.gk,j.ij⟩ (aa (f.RD c.1) e) d
  |false=>rw[c]at g;exact g p u l y j f G
end
structure ik (W:bk):Prop extends W.n where
 zz:∀n v,om.lookup n=Sn v->∃y,W.hJ n=Sn y/\VR [] v y
 zA:(om.lookup (au "__debug__")).isNone=Sp
 oF:∀a o,av a=Sn o->OR W [] W.cb a o
 l2:(W.cb.get? WZ).isSome=Sp
def Fz:bf W x (.Constant .none k q) (λy y z=>.aj .az z):=λp j w z s F Q E g=>.B (wpAny_Constant_none (g.A F.toaR rfl))
def FA:bf W x (.Constant (.bool b) k q) (λy y z=>.aj (.aq b) z):=λp j w z s F Q E g=>.B (wpAny_Constant_bool (g.A F.toaR rfl))
def FC:bf W x (.Constant (.int i) k q) (λy y z=>.aj (.ae i) z):=λp j w z s F Q E g=>.B (XU (g.x F.toaR ⟨_,rfl⟩ _))
def FE (l:List UInt8):bz (l.map (·.toNat))=l.toArray:=by simp[bz,Function.comp_def]
def FG (y:l.length<=1048576):bf W x (.Constant (.bytes l) k q) (λj j z=>.aj (.ag (l.map (·.toNat))) z):=
 λr w p z s F Q E g=>.B (Constant_bytes (g.x F.toaR ⟨(⟨by simpa using y,by
  intro c u;refine cW u λb f e0=>?_;subst e0;exact b.toNat_lt⟩),_,aa rfl (FE _)⟩ _))
def zB (h:uH.lookup t=Sn j):bf W x (.Constant (.str t) k q) (λy y z=>.aj (.bx j) z):=
 λr w p z s F Q E g=>.B (Constant_str (g.x F.toaR ⟨_,_,(SG (SN.mp (show(uH.all λe=>qu e.2==e.1)=Sp by decide+kernel) _ (iA h))),rfl⟩ _))
def js:∀{l} {i:Nat},eM y l=i->l[i]?=y:=by
 intro Q;induction Q with
 |nil=>intro _ h;exact aG h
 |cons z r IH=>
  intro i h;replace h:=El▸h
  split at h
  ·rename_i e;replace h:=Sv h;subst h;refine aa ?_ e;rfl
  ·cases q:eM y r with
   |none=>rw[q]at h;exact aG h
   |some j=>rw[q]at h;replace h:=Sv h;subst h;refine aa ?_ Vp;exact IH q
def zC (o:x.n W d u) (l:b8 x.bq w=Sn .local) (f:eM w (cX x.bq)=Sn i) (c:(w==("__debug__":TR))=Su):
  bf W x (.Name w k) (λj Z p=>dh j[i]?.join p):=by
 intro t j b p s F Q E g;refine aP F.aL λm n r=>?_;replace g:db W x.bD t s (dh j[i]?.join p) Q E:=g;cases q:j[i]? with
 |none=>replace g:=q▸g;exact S9 g
 |some v=>
  induction v using Tr with
  |none=>replace g:=q▸g;exact S9 g
  |some v=>
   refine aQ λG a=>?_;replace g:=q▸g;refine aP (r i w v (js f) q) λy e z=>?_;exact a (.B (Wo (VJ o.dP ((o.i6 w _ l).resolve_right λq=>by cases q.1) n e (g.A F.toaR z)) c))
def aR.at (F:aR W y q z h) {i:Nat} (e:z[i]?=Sn o) (r:q[i]?=Sn a):OR W q h a o:=F.cH.dS i o a e r
def aR.ab (F:aR W j q z h) (e:z[i]?=Sn o) (r:VR q (.ab i) v):∃a,v=.ref a/\q[i]?=a/\OR W q h a o:=
 let⟨a,y,w⟩:=r
 ⟨a,w,y,F.cH.dS i o a e y⟩
def FH (o:x.n W d u) (p:b8 x.bq z=Sn .cell∨b8 x.bq z=Sn .free) (a:eM z (c9 x.bq)=Sn i) (t:(z==("__debug__":TR))=Su) (Z:(z==("__classdict__":TR))=Su):
  bf W x (.Name z m) (λM k e=>match k[i]? with|some j=>(match e[j]? with|some (.a9 v)=>dh v e|_=>.ak)|none=>.ak):=by
 intro Y J k e s F Q E g;have l:x.aK.kindOf z=Sn .cell∨x.aK.kindOf z=Sn .free:=by
  rcases p with p|p
  ·exact .inl ((o.i6 z _ p).resolve_right λq=>by cases q.1)
  ·rcases o.i6 z _ p with q|q
   ·exact .inr q
   ·exact .inl q.2
 cases q:k[i]? with
 |none=>dsimp only at g;rw[q]at g;exact S9 g
 |some j=>
  refine aP (F.lZ i z j (js a) q) λc b K=>?_;dsimp only at g;rw[q]at g;dsimp only at g
  ·refine aP (ym (P:=λr=>db W x.bD Y s r Q E) g λh=>h) λv U g=>?_
   induction v using Tr with
   |none=>exact S9 g
   |some v=>
    refine aQ λG L=>?_;obtain⟨y,⟨w,rfl,f⟩,n⟩:= F.toaR.at U K;refine L ?_;rcases l with l|l
    ·exact .B (Wo (wpAny_loadName_cell o.dP l b n (g.A F.toaR f)) t)
    ·exact .B (Wo (XC o.dP l b n (g.A F.toaR f) Z) t)
def zD {x:c7} (o:x.n W d u) (y:b8 x.bq z=Sn .globalImplicit):x.aK.kindOf z=Sn .globalImplicit:=(o.i6 z _ y).resolve_right λq=>by cases q.1
def qx {x:c7} (o:x.n W d u) (f:ik W) (j:W.cb.StaysIn s.heap) (w:b8 x.bq q=Sn .globalImplicit) (k:W.hJ q=Sn y) (p:(q==("__debug__":TR))=Su) (h:Q y s):
  Tg W.b A (eval (.Name q z) x.aK) Q E s:=
 Name_function_global o.dP (zD o w) (loadGlobal_global (aa (f.bZ.g.keeps j) o.bW) k h) p
def oG {x:c7} (o:x.n W d u) (f:ik W) (j:W.cb.StaysIn s.heap) (w:b8 x.bq q=Sn .globalImplicit) (k:W.hJ q=none) (p:Yj q=Sn y) (r:q≠"__name__") (g:(q==("__debug__":TR))=Su) (h:Q y s):
  Tg W.b A (eval (.Name q z) x.aK) Q E s:=
 Name_function_global o.dP (zD o w) (loadGlobal_builtin (aa (f.bZ.g.keeps j) o.bW) k (aa (f.bZ.b.keeps j) o.m7) ((f.bZ.builtins q r).trans p) h) g
def FI (o:x.n W d u) (f:ik W) (p:b8 x.bq z=Sn .globalImplicit) (w:om.lookup z=Sn v):bf W x (.Name z j) (λl l k=>.aj v k):=by
 intro t m c k s F Q E g;refine aP (f.zz _ _ w) λy e r=>?_;refine .B (qx o f F.bn p e ?_ (g.A F.toaR (r.RA YF)));cases q:(z==_)with
 |false=>rfl
 |true=>
  rw[beq_iff_eq]at q;subst q;have:=f.zA;rw[show om.lookup _=v from w]at this;exact bv this
def FJ (h:bf W x e f):bf W x e (λl c q=>fg q (f l c q)):=
 λj z y q s F Q E g=>h j z y q s F Q E (bL.fg F.toaR g)
section
def fm.b (x:Wi h a q n):h.IsList a q:=⟨_,x,rfl,n,rfl⟩
def gH.b (x:WO h a q n):h.IsTuple a q:=⟨_,x,rfl,n,rfl⟩
def bL.I (g:db W y q s (.aj (.ab z.length) (z++[o])) Q E) (F:aR W y q z s.heap) (r:OR W (q++[s.heap.objs.size]) (s.heap.push j) s.heap.objs.size o):Q (.ref s.heap.objs.size) {s with heap:=s.heap.push j,toks:=w}:=
 have k:=λu u e=>SK _ e;have p:=Tj (SJ _)
 g _ _ _ w (.dC k p) ⟨_,by refine aT (aa ?_ (Ts (SJ _))) F.cH.bd;refine aa ?_ (Uw _);rfl,rfl⟩ (F.dC k p r)
def bL.B (g:db W y q s (.aj (.ab z.length) (z++[o])) Q E) (F:aR W y q z s.heap) (r:OR W (q++[s.heap.objs.size]) (s.heap.push j) s.heap.objs.size o):Q (.ref s.heap.objs.size) {s with heap:=s.heap.push j}:=g.I F r
def bL.C (g:db W j q s (.aj (.ab z.length) (z++[o])) Q E) (F:aR W j q z s.heap) (k:∀b o,s.heap.get? b=Sn o->y.get? b=Sn o) (p:s.heap.get? a=none) (r:OR W (q++[a]) y a o):Q (.ref a) {s with heap:=y,toks:=w}:=
 g _ _ _ w (.dC k p) ⟨_,by refine aT (aa ?_ (Ts (SJ _))) F.cH.bd;refine aa ?_ (Uw _);rfl,rfl⟩ (F.dC k p r)
def fv (h:TV) (o) (q:o.isFreed=Su):(h.push o).get? h.objs.size=o:=U4 _ q
def oH (a b):bz (a++b)=bz a++bz b:=by simp[bz]
def dt.A (x:dt a) (y:dt b) (h:cR (a.length+b.length)=Sp):dt (a++b):=
 ⟨by simpa [cR]using h,λc q=>(Tn.mp q).elim (x.2 c) (y.2 c)⟩
def vy (g:db W z q s (lG l y) Q E):cR l.length=Sp/\db W z q s (.aj (.ag l) y) Q E:=lK (P:=λr=>db W z q s r Q E) g λh=>h
def FK {W:bk} (l) (v) (k) (x) (u) (q:Wi s.heap l #[v] k) (p:0<=x) (r:x<=200) (h:Q (.ref s.heap.objs.size) {s with heap:=s.heap.push {cls:=.type "list",data:=.seq (SI x.toNat v).toArray}}):Tg W.b A (binaryOp .Mult (.ref l) (.int x u)) Q E s:=by
 refine wpAny_binaryOp_repeat_ref rfl ⟨_,q,rfl⟩ (λz=>typeIs_int z x u) noFill_list_mul F.fills_int_mul F.slot_int_rmul repeat_list F.slot_int_index.lookup
  (call_meets F.slot_int_rmul (typeIs_int s x u) F.entry_int_rmul (F.args_int_rmul_2 _ _) (lm_int_rmul_list_any x u l #[v] k none #[])
   ⟨q,rfl,⟨_,q,rfl⟩,call_meets F.slot_list_mul ⟨_,q,rfl⟩ F.entry_list_mul (F.args_list_mul_2 _ _)
    (lm_list_mul_any l #[v] k none #[] x u (by simp[X0];exact⟨UO (by decide) p,V1 r (by decide)⟩) (by simp;exact UO r (by decide)) (by simp[Yk,Vy];exact UO r (by decide)))
    ⟨q,?_⟩⟩)
 have e:List.foldl (λy j=>y++j) #[] (SI (if(#[v]).isEmpty=Sp then 0 else x.toNat) #[v])=(SI x.toNat v).toArray:=by
  refine aa ?_ (listMul_foldl_if _ _)
  congr 1
  clear h;induction x.toNat with
  |zero=>rfl
  |succ n w=>refine aa (aa ?_ X') List.replicate_succ;refine aS ?_ List.replicate_succ w;rfl
 exact aa h e
def bN.a7 (h:bN q [v] z):∃y,z=[y]/\VR q v y:=by
 refine ec (L2.ai h) λy r e0 j w=>?_;subst e0;cases w.ao;exact⟨y,rfl,j⟩
def bN.Sd (r:VR q v y):∀n,bN q (SI n v) (SI n y):=λn=>Nat.rec trivial (λn i=>⟨r,i⟩) n
def bL.aY [Decidable c] (g:bL W w j q s (if c then r else .ak) Q E):c/\bL W w j q s r Q E:=by
 by_cases h:c
 ·rw[if_pos h]at g;exact⟨h,g⟩
 ·rw[if_neg h]at g;exact g.elim
def sI (g:db W w q s (pO z y f) Q E) (k:VR q z a) (p:VR q y b):∃i j t u,a=.int i t/\b=.int j u/\db W w q s (f i j) Q E:=by
 induction z using V.casesOn<;>first|exact g.elim|skip
 induction y using V.casesOn<;>first|exact g.elim|skip
 refine k.elim λt e0=>?_;subst e0;obtain⟨u,rfl⟩:=p;exact⟨_,_,t,u,rfl,rfl,g⟩
set_option tactic.hygienic true in
def FM (F:aR W e y w s.heap) (l:VR y r a) (f:VR y z b) (g:db W e y s (ie G .bB r z w) Q E):Tg W.b A (binaryOp .Add a b) Q E s:=by
 induction r using V.casesOn<;>first|exact g.elim|skip
 ·induction z using V.casesOn<;>first|exact g.elim|skip
  obtain⟨t,rfl⟩:=l;obtain⟨u,rfl⟩:=f;exact PySem.P.add_int (g.x F ⟨_,rfl⟩ _)
 ·induction z using V.casesOn<;>first|exact g.elim|skip
  obtain⟨x,t,rfl⟩:=l;obtain⟨h,u,rfl⟩:=f;refine(vy g).elim λq g=>?_;replace q:=Sr▸q;refine KBy.add_bytes (by refine pL ?_ (fT _) (fT _) TO;exact j3 (of_decide_eq_true q)) λZ k=>?_;exact g.x F ⟨x.A h q,Z,aa rfl (oH _ _)⟩ k
 ·induction z using V.casesOn<;>first|exact g.elim|skip
  rename_i i j;dsimp only[ie]at g;cases p:w[i]? with
  |none=>replace g:=p▸g;exact g.elim
  |some d=>
   cases c:w[j]? with
   |none=>rw[p,c]at g;induction d using O.casesOn<;>exact g.elim
   |some Y=>
    rw[p,c]at g;induction d using O.casesOn<;>first|exact g.elim|skip
    induction Y using O.casesOn<;>first|exact g.elim|skip
    refine aQ λG J=>?_;refine(bL.aY g).elim λq g=>?_;obtain⟨a,rfl,M,⟨K,n,o,_,P⟩⟩:=F.ab p l;obtain⟨b,rfl,C,⟨U,m,v,_,L⟩⟩:=F.ab c f;have q:=of_decide_eq_true q;refine J ?_;refine PySem.P.add_list P L (g.B F ⟨K++U,0,(o.A v).RA (TJ _ _),by refine aa ?_ Sr;exact q,?_⟩) (by refine aS (aS (aa ?_ v.bd) o.bd T4) T4 TO;exact j3 q);show Heap.get? _ _=_;refine aa ?_ (fv _ _ rfl);simp
set_option tactic.hygienic true in
def FN (F:aR W m z w s.heap) (c:VR z k a) (e:VR z j b) (g:db W m z s (ie G .ek k j w) Q E):Tg W.b A (binaryOp .Mult a b) Q E s:=by
 induction k using V.casesOn<;>first|exact g.elim|skip
 ·induction j using V.casesOn<;>first|exact g.elim|skip
  obtain⟨t,rfl⟩:=c;obtain⟨u,rfl⟩:=e;refine(bL.aY g).elim λq g=>?_;refine PySem.P.mul_int (g.x F ⟨_,rfl⟩ _) (IntMulOk.of_left ?_);have q:=bH q;have p:=of_decide_eq_true q.1;have d:=of_decide_eq_true q.2;exact have p:=yo (Tu p);intBits_le_64 (XW (by decide) p.1) (V1 p.2 (by decide))
 ·induction j using V.casesOn<;>first|exact g.elim|skip
  obtain⟨u,rfl⟩:=e;rename_i i n;dsimp only[ie]at g;cases l:w[i]? with
  |none=>replace g:=l▸g;exact g.elim
  |some o=>
   rw[l]at g;induction o using O.casesOn<;>first|exact g.elim|skip
   rename_i f;induction f using SD<;>first|exact g.elim|skip
   rename_i v f;induction f using SD<;>first|exact g.elim|skip
   refine aQ λG x=>?_;refine(bL.aY g).elim λq g=>?_;obtain⟨a,rfl,p,⟨Y,n,h,_,Z⟩⟩:=F.ab l c;refine aP h.a7 λy e0 r=>?_;subst e0;have q:=bH q;have d:=of_decide_eq_true q.2;refine x ?_;refine FK _ _ _ _ _ Z (of_decide_eq_true q.1) d (g.B F ⟨_,0,(bN.Sd r _).RA (TJ _ _),by refine aa ?_ Uh;exact Int.toNat_le.mpr (UO d (by decide)),?_⟩);show Heap.get? _ _=_;exact(fv _ _ rfl)
def FO (o) (F:aR W l w k s.heap) (z:VR w p a) (y:VR w r b):fX W A l w s (binaryOp (uJ o) a b) (ie G o p r k):=by
 intro Q E g;refine ax.B ?_;induction o using D9.casesOn with
 |bB=>exact FM F z y g
 |ek=>exact FN F z y g
 |fS=>
  obtain⟨i,j,t,u,rfl,rfl,g⟩:=sI g z y;exact PySem.P.sub_int (g.x F ⟨_,rfl⟩ _)
 |hW=>
  obtain⟨i,j,t,u,rfl,rfl,g⟩:=sI g z y;obtain⟨q,g⟩:=bL.aY g;exact PyProof.Rows.floordiv_int (bne_iff_ne.mp (bH q).2) (g.x F ⟨_,rfl⟩ _) (.inl (PyProof.noPylong_small (of_decide_eq_true (bH q).1)))
 |iN=>
  obtain⟨i,j,t,u,rfl,rfl,g⟩:=sI g z y;obtain⟨q,g⟩:=bL.aY g;exact PyProof.Rows.mod_int (bne_iff_ne.mp q) (g.x F ⟨_,rfl⟩ _)
 |lA=>
  obtain⟨i,j,t,u,rfl,rfl,g⟩:=sI g z y;obtain⟨q,g⟩:=bL.aY g;have f:=of_decide_eq_true (bH (bH q).1).1;have m:=of_decide_eq_true (bH q).2;exact PyProof.Rows.pow_int_small (of_decide_eq_true (bH (bH q).1).2) (UO m (by decide)) (a5 (by assumption) rfl) (g.x F ⟨_,rfl⟩ _)
end
end
section
open PySem PySem.W PyProof.Rows PySem.Calls Builtin
section
open PySem.SeqAt (EqAt RcAt RcNeAt)
def FP (q:a<256) (z:b<256) (h:UInt8.ofNat a=UInt8.ofNat b):a=b:=by
 have:=congrArg UInt8.toNat h;simpa [WQ,Wp q,Wp z]using this
def vA {b:List Nat} (z:∀c∈a,c<256) (y:∀c∈b,c<256) (h:a.map UInt8.ofNat=b.map UInt8.ofNat):a=b:=by
 have q:∀l:List Nat,(∀c∈l,c<256)->(l.map UInt8.ofNat).map UInt8.toNat=l:=λl j=>aa ((UM λc m=>(WQ.trans (Wp (j c m)))).trans (W8 l)) Tp;exact aT (aT (aa rfl h) (q b y)) (q a z)
def sJ (q:dt a) (z:dt b):((bz a).toList==(bz b).toList)=(a==b):=by
 rewrite[Vl];rewrite[beq_iff_eq];rewrite[beq_iff_eq];exact⟨λh=>vA q.2 z.2 (by simpa [bz]using h),λh=>aa rfl h⟩
def zE (b c) (t u):EqAt A s (.bytes b t) (.bytes c u) (b.toList==c.toList):=λq w E Q h=>by
 refine eqBool_bytes ?_;refine aa ?_ (show SW _=(b.toList==c.toList) by rw[Vl];simp);exact h
def zF (h:(match a,b with|some a,Sn b=>Sn (a&&b)|_,_=>none)=Sn c):∃x y,a=Sn x/\b=Sn y/\c=(x&&y):=by
 induction a using Tr with
 |none=>exact aG h
 |some x=>induction b using Tr with
  |none=>exact aG h
  |some y=>replace h:=Sv h;subst h;exact⟨x,y,rfl,rfl,rfl⟩
def FQ (z):∀{q} {b:Bool},fC f z q=b->z.length=q.length/\∃e,(∀(j) x y,z[j]?=Sn x->q[j]?=Sn y->f x y=(e j))/\(Te z.length).all e=b:=by
 induction z with
 |nil=>
  intro q b h;induction q using SD with
  |nil=>replace h:=Sv h;subst h;exact⟨rfl,λs=>Sp,λj x y h=>by(rw[X9]at h;exact aG h),rfl⟩
  |cons=>exact aG h
 |cons x z r=>
  intro q b h;induction q using SD with
  |nil=>exact aG h
  |cons y q=>
   refine aQ λG u=>?_;refine ec (zF h) λa c g l e0=>?_;subst e0;obtain⟨m,e,t,d⟩:=r l;refine u ?_;refine⟨congrArg (·+1) m,λj=>match j with|0=>a|k+1=>e k,λj=>?_,?_⟩
   ·cases j with
    |zero=>intro o v w p;replace w:=Sv w;subst w;replace p:=Sv p;subst p;exact g
    |succ k=>exact t k
   ·refine aa (aa ?_ W9) TS;refine aa (aa ?_ List.all_map) Xc;refine aT ?_ d;rfl
def aR.bM (F:aR W w q z h) {j:Nat} (k:q[i]?=Sn a) (p:q[j]?=Sn b) (r:i≠j):a≠b:=λe=>by
 subst e;exact r ((Xg F.cH.m5).mp ((SO.mp k).2.trans (SO.mp p).2.symm))
def sK {q z} (o:bN g u q) (i:bN g l z) (h:fC (cV d n) u l=Sn b) (Y:∀x y v w b,cV d n x y=Sn b->VR g x v->VR g y w->EqAt A s v w b):
  ∃e,(∀j (f) (m:j<z.toArray.size),EqAt A s q.toArray[j] z.toArray[j] (e j))/\(Te q.toArray.size).all e=b/\q.toArray.size=z.toArray.size:=by
 refine aQ λG c=>?_;obtain⟨k,e,J,W⟩:=FQ u h;have t:=o.bd;have a:=i.bd;refine c ?_;refine⟨e,λj f m=>?_,by refine aa ?_ T4;exact aa W t,by simp[t,a,k]⟩;refine aQ λG c=>?_;have p:j<u.length:=by simpa [t]using f
 have r:j<l.length:=by simpa [a]using m
 refine aP (o.dg (S0 p)) λv Q K=>?_;refine aP (i.dg (S0 r)) λw Z P=>?_;have:=Y _ _ _ _ _ (J j _ _ (S0 p) (S0 r)) K P;have U:q[j]'(by simpa using f)=v:=by rw[SO]at Q;exact Q.2
 have L:z[j]'(by simpa using m)=w:=by rw[SO]at Z;exact Z.2
 rw[<-U,<-L]at this;exact c this
def zG (q:dt a) (z:dt b):(a.map UInt8.ofNat=b.map UInt8.ofNat)↔a=b:=⟨vA q.2 z.2,λh=>aa rfl h⟩
noncomputable def l3 {K:Type} [DecidableEq K] (ρ:List S7) (m_:List (K×SV)) (k:K):Option V->Prop
 |some u=>∃y,Xn m_ k=Sn y/\VR ρ u y
 |none=>Xn m_ k=none
def zH {K} [DecidableEq K] {z} {k w:K} {g:List (V×V)} (l:(w=k)↔(b=a)) (r:VR p v y) (j:l3 p z k (g.lookup a)):l3 p ((w,y)::z) k (((b,v)::g).lookup a):=by
 refine aa ?_ T2;by_cases h:b=a
 ·exact aa ⟨y,by simp[Xn,l.mpr h],r⟩ (beq_iff_eq.mpr h.symm)
 ·refine aa ?_ (beq_eq_false_iff_ne.mpr (UC h))
  have f:¬w=k:=λq=>h (l.mp q);have e:Xn ((w,y)::z) k=Xn z k:=by simp[Xn,f]
  revert j;cases g.lookup a with
  |none=>exact λj=>e.trans j
  |some u=>exact λj=>j.imp λy q=>⟨e.trans q.1,q.2⟩
def KR.IW (w:dt l) (r:KR j z q):l3 j q (l.map UInt8.ofNat) (z.lookup (.ag l)):=
 L3.c (P:=λz q=>l3 j q _ (z.lookup (.ag l))) rfl (λa b z q k r g p=>by
  obtain⟨a,v⟩:=a;obtain⟨b,y⟩:=b;refine dz k λm e0 u e1=>?_;subst e0;subst e1;exact zH ((zG u w).trans ⟨λh=>aa rfl h,λh=>by cases h;rfl⟩) r p) z q r
def KI.IW (r:KI y z q):l3 y q i (z.lookup (.ae i)):=
 L3.c (P:=λz q=>l3 y q i (z.lookup (.ae i))) rfl (λa b z q k r w j=>by
  obtain⟨a,v⟩:=a;cases k;exact zH ⟨λh=>aa rfl h,λh=>by cases h;rfl⟩ r j) z q r
def fK.ag (d:fK W j h a y) (k:eg y=Sp):∃z,KR j y z/\h.DictOf (Xm W.fJ W.bg) a z:=by
 refine d.elim id λq=>?_;obtain⟨w,z,r,-⟩:=q;induction y using SD with
 |nil=>exact(w rfl).elim
 |cons e y=>
  induction z using SD with
  |nil=>exact r.elim
  |cons f z=>
   have k:uC e.1=Sp:=(bH k).1;rw[show e.1=_ from r.1]at k;exact bv k
def fK.i (d:fK W j h a y) (k:(kO y&&!y.isEmpty)=Sp):∃z,KI j y z/\h.DictOf (intKind W.fJ W.bg) a z:=by
 refine d.elim (λq=>?_) And.right;obtain⟨z,r,-⟩:=q;induction y using SD with
 |nil=>exact bv k
 |cons e y=>
  induction z using SD with
  |nil=>exact r.elim
  |cons f z=>
   refine aP r.1 λm w _=>?_;obtain⟨p,v⟩:=e;cases w;exact bv k
def zI (d:∀x y v w b,cV f n x y=Sn b->VR g x v->VR g y w->EqAt A s v w b) (o:KR g l e) (r:KR g j p):∀{b:Bool},mL (cV f n) l j=b->KeqHits A s e p b:=
 L3.c (P:=λj p=>∀{b:Bool},mL (cV f n) l j=b->KeqHits A s e p b) (λh=>by replace h:=Sv h;subst h;exact .nil) (λa c j p k r K t b h=>by
  obtain⟨a,v⟩:=a;obtain⟨c,y⟩:=c;refine dz k λm e0 i e1=>?_;subst e0;subst e1;have lk:=o.IW i;dsimp only[mL]at h;cases q:l.lookup (V.ag m)with
  |none=>
   rw[q]at lk h;replace h:=Sv h;subst h;exact .miss lk
  |some u=>
   refine aQ λG Q=>?_;rw[q]at lk h;refine aP lk λz Z Y=>?_;refine ec (zF h) λx y J W e0=>?_;subst e0;exact Q (.hit Z (d _ _ _ _ _ J r Y) (t W))) j p r
def bk.d (G:(W.cb.get? WZ).isSome=Sp) (F:aR W J H I h) {i:Nat} (e:H[i]?=Sn a):(a==WZ)=Su:=by
 rewrite[beq_eq_false_iff_ne];intro q;subst q;rw[F.cH.m6 _ (Th e)]at G;exact bv G
inductive l4 (σ:List O) (n:Nat) (d:Bool) (i j:Nat):Bool->Prop
 |vC {xs ys b}:σ[i]?=Sn (.ah xs)->σ[j]?=Sn (.ah ys)->xs.length=ys.length->fC (cV σ n) xs ys=Sn b->l4 σ n d i j b
 |vD {xs ys}:σ[i]?=Sn (.ah xs)->σ[j]?=Sn (.ah ys)->¬xs.length=ys.length->l4 σ n d i j Su
 |vE {xs ys b}:σ[i]?=Sn (.aX xs)->σ[j]?=Sn (.aX ys)->fC (cV σ n) xs ys=Sn b->l4 σ n d i j b
 |vF {xs ys b}:σ[i]?=Sn (.aE xs)->σ[j]?=Sn (.aE ys)->d=Sp->eg xs=Sp->eg ys=Sp->xs.length=ys.length->mL (cV σ n) ys xs=Sn b->l4 σ n d i j b
 |vG {xs ys}:σ[i]?=Sn (.aE xs)->σ[j]?=Sn (.aE ys)->d=Sp->eg xs=Sp->eg ys=Sp->¬xs.length=ys.length->l4 σ n d i j Su
set_option tactic.hygienic true in
def FR (h:uD d p (cV p n) i j=Sn b):i≠j/\l4 p n d i j b:=by
 unfold uD at h;by_cases y:i=j
 ·rw[if_pos y]at h;exact aG h
 refine⟨y,?_⟩;rw[if_neg y]at h;cases z:p[i]? with
 |none=>rw[z]at h;exact aG h
 |some m=>
  cases w:p[j]? with
  |none=>rw[z,w]at h;induction m using O.casesOn<;>exact aG h
  |some l=>
   rw[z,w]at h;induction m using O.casesOn<;>first|exact aG h|exact bv h|(cases h;done)|skip
   ·induction l using O.casesOn<;>first|exact aG h|exact bv h|(cases h;done)|skip
    rename_i r u;dsimp only at h;by_cases q:r.length=u.length
    ·rw[if_pos q]at h;exact .vC z w q h
    ·rw[if_neg q]at h;replace h:=Sv h;subst h;exact .vD z w q
   ·induction l using O.casesOn<;>first|exact aG h|exact bv h|(cases h;done)|skip
    exact .vE z w h
   ·induction l using O.casesOn<;>first|exact aG h|exact bv h|(cases h;done)|skip
    rename_i r u;dsimp only at h;by_cases f:(d&&(eg r&&eg u))=Sp
    ·rw[if_pos f]at h
     have k:=bH f;have g:=bH k.2;by_cases q:r.length=u.length
     ·rw[if_pos q]at h;exact .vF z w k.1 g.1 g.2 q h
     ·rw[if_neg q]at h;replace h:=Sv h;subst h;exact .vG z w k.1 g.1 g.2 q
    ·rw[if_neg f]at h;exact aG h
inductive l5 (ρ:List S7) (σ:List O) (n:Nat) (d:Bool):SV->SV->Bool->Prop
 |az:l5 ρ σ n d .none .none Sp
 |aq (a b:Bool):l5 ρ σ n d (.bool a) (.bool b) (a==b)
 |ae (a b:Int) (t u:Tok):l5 ρ σ n d (.int a t) (.int b u) (a==b)
 |ag (a b:Array UInt8) (t u:Tok):l5 ρ σ n d (.bytes a t) (.bytes b u) (a.toList==b.toList)
 |bx (a b:TR) (t u:Tok):l5 ρ σ n d (.str a t) (.str b u) (a==b)
 |dS {i j:Nat} {a c:S7} {b:Bool} (e1:ρ[i]?=Sn a) (e2:ρ[j]?=Sn c) (ne:i≠j) (h:l4 σ n d i j b):l5 ρ σ n d (.ref a) (.ref c) b
def zJ (h:uE d p (cV p n) x y=Sn b) (q:VR j x v) (z:VR j y w):l5 j p n d v w b:=by
 induction x using V.casesOn with
 |az=>induction y using V.casesOn<;>first|exact aG h|(obtain rfl:=q;obtain rfl:=z;exact Sv h▸.az)
 |aq a=>induction y using V.casesOn<;>first|exact aG h|exact q▸z▸Sv h▸.aq _ _
 |ae a=>
  induction y using V.casesOn<;>first|exact aG h|skip
  obtain⟨t,rfl⟩:=q;obtain⟨u,rfl⟩:=z;exact Sv h▸.ae _ _ _ _
 |ag a=>
  induction y using V.casesOn<;>first|exact aG h|skip
  obtain⟨f,t,rfl⟩:=q;obtain⟨m,u,rfl⟩:=z;exact Sv h▸sJ f m▸.ag _ _ _ _
 |bx k=>
  induction y using V.casesOn<;>first|exact aG h|skip
  refine fh q λe t r e0=>?_;subst e0;refine fh z λs u g e0=>?_;subst e0;exact Sv h▸(by
   have o:∀{k e},qu k=Sn e->k<3:=λ{k e} Q=>by
    match k,Q with
    |0,Z|1,Z|2,Z=>decide
    |Z+3,Q=>exact aG Q
   have Y:(Te 3).all (λk=>(Te 3).all λk_1=>(qu k==qu k_1)==(k==k_1))=Sp:=by decide+kernel
   have J:=SN.mp (SN.mp Y k (UD.mpr (o r))) k_1 (UD.mpr (o g));rw[r,g]at J;exact beq_iff_eq.mp J)▸.bx _ _ _ _
 |ab i=>
  induction y using V.casesOn<;>first|exact aG h|skip
  obtain⟨l,h⟩:=FR h;refine aP q λa r e0=>?_;subst e0;refine aP z λc g e0=>?_;subst e0;exact .dS r g l h
 |bW a=>exact aG h
def zK {A:Vj} (h:A.units+2*(n+1)<cLine):A.in1.units+2*n<cLine:=aa (S8 (by refine aa (aa (aa (SF (SF (Tx 1) _) _) (TK _ _ _)) (Un _ _ _)) (WR _ _)) h) (Around.in1_units _)
def FT (D:(W.cb.get? WZ).isSome=Sp) (F:aR W C o g s.heap) (n):∀(A) (x y) (v w) (b:Bool),A.units+2*n<cLine->cV g n x y=b->VR o x v->VR o y w->EqAt A s v w b:=by
 induction n with
 |zero=>exact λA x y v w b ζ h=>aG h
 |succ n m=>
  intro A x y v w b f h N M;have L:=λx y v w b=>m A.in1 x y v w b (zK f);have z:=S8 (SH _ _) f;have c:=zJ h N M;clear h N M;induction c using l5.casesOn with
  |az=>exact EqAt.same _
  |aq a b=>exact EqAt.bool_bool _ _
  |ae a b t u=>exact EqAt.int_int _ _ _ _
  |ag a b t u=>exact zE _ _ _ _
  |bx a b t u=>exact EqAt.str_str _ _ _ _
  |dS Q P l B=>
   refine EqAt.of_refs (F.bM Q P l) ?_;induction B using l4.casesOn with
   |vC r p K h=>
    obtain⟨J,I,Z,_,Y⟩:= F.at r Q;obtain⟨H,E,U,_,T⟩:= F.at p P;refine dz (sK Z U h L) λe k j i=>?_;exact aT (RcAt.lists (fm.b Y) (fm.b T) i z k) j
   |vD r p K=>
    refine aQ λG kG=>?_;obtain⟨J,I,Z,_,Y⟩:= F.at r Q;obtain⟨H,E,U,_,T⟩:= F.at p P;exact kG (RcAt.lists_lengths (fm.b Y) (fm.b T) (bne_iff_ne.mpr λq=>K (Z.bd.symm.trans (q.trans U.bd))) z)
   |vE r p h=>
    obtain⟨J,I,Z,_,Y⟩:= F.at r Q;obtain⟨H,E,U,_,T⟩:= F.at p P;refine dz (sK Z U h L) λe k j i=>?_;have:=RcAt.tuples (gH.b Y) (gH.b T) z k;rw[<-i,Nat.min_self,j,beq_self_eq_true,Xd]at this;exact this
   |vF _ _ d=>exact bv d
   |vG _ _ d=>exact bv d
def FU:9300<cLine:=by decide+kernel
def FV (x y:TR):(x.cps.toList==y.cps.toList)=(x==y):=by
 rewrite[Vl];rewrite[beq_iff_eq];rewrite[beq_iff_eq];exact⟨λh=>by cases x;cases y;simpa using h,λh=>aa rfl h⟩
def FW (W:bk) (A:Vj) (s:Tf) (v w:SV) (b:Bool):Prop:=∀{Q E},(Q (.bool b) s->Tg W.b A (Wh .Eq v w) Q E s)/\(Q (.bool (!b)) s->Tg W.b A (Wh .NotEq v w) Q E s)
def zL (j:(W.cb.get? WZ).isSome=Sp) (F:aR W fr C I s.heap) (hu:A.units+2*n+4<cLine) (h:r3 I n x y=Sn b) (H:VR C x v) (ry:VR C y w):FW W A s v w b:=by
 have J:=TK .. ▸hu;have L:=λx y v w b=>FT j F n A.in1 x y v w b (zK (S8 (SF (UJ (Tx _)) _) J));have z:=S8 (SH _ _) J;have c:=zJ h H ry;clear h H ry;intro Q E;induction c using l5.casesOn with
 |az=>exact⟨PySem.EqNone.eq_none_none,PySem.EqNone.ne_none_none⟩
 |aq a b=>exact⟨PySem.EqBoolInt.of_rc (SeqAt.RcAt.bool_bool _ _),PySem.EqBoolInt.of_rcne (SeqAt.RcNeAt.bool_bool _ _)⟩
 |ae a b t u=>exact⟨PyProof.Rows.eq_int,PyProof.Rows.ne_int⟩
 |ag a b t u=>exact⟨PySem.W.eq_bytes,PySem.W.ne_bytes⟩
 |bx a b t u=>
  exact aT ⟨PySem.P.eq_str,PySem.P.ne_str⟩ (FV _ _)
 |dS g l hij hO=>
  induction hO using l4.casesOn with
  |vC f m d h=>
   obtain⟨vs,n1,p,_,o⟩:= F.at f g;obtain⟨ws,n2,r,_,i⟩:= F.at m l;refine dz (sK p r h L) λe K e0 M=>?_;subst e0;exact⟨λk=>RcAt.lists (fm.b o) (fm.b i) M z K _ _ _ _ k,λk=>RcNeAt.lists (fm.b o) (fm.b i) M z K _ _ _ _ k⟩
  |vD f m d=>
   obtain⟨vs,n1,p,_,o⟩:= F.at f g;obtain⟨ws,n2,r,_,i⟩:= F.at m l;have hn:=bne_iff_ne.mpr λq=>d (p.bd.symm.trans (q.trans r.bd));exact⟨λk=>RcAt.lists_lengths (fm.b o) (fm.b i) hn z _ _ _ _ k,λk=>RcNeAt.lists_lengths (fm.b o) (fm.b i) hn z _ _ _ _ k⟩
  |vE f m h=>
   refine aQ λG kG=>?_;obtain⟨vs,n1,p,_,o⟩:= F.at f g;obtain⟨ws,n2,r,_,i⟩:= F.at m l;refine dz (sK p r h L) λe K hb M=>?_;have Z:=RcAt.tuples (gH.b o) (gH.b i) z K;have Y:=RcNeAt.tuples (gH.b o) (gH.b i) z K;rw[<-M,Nat.min_self,hb,beq_self_eq_true,Xd]at Z Y;exact kG ⟨λk=>Z _ _ _ _ k,λk=>Y _ _ _ _ k⟩
  |vF f m _ T D d h=>
   obtain⟨B,p,Z⟩:=(F.at f g).2.ag T;obtain⟨N,r,Y⟩:=(F.at m l).2.ag D;have P:=p.bd;have U:=r.bd;have e:∀b,((B.length==N.length)&&b)=b:=λb=>by refine aa ?_ P;exact aS (aa (aa rfl (Bool.true_and _)) (beq_self_eq_true _)) d U
   exact⟨λk=>keq_eq (bk.d j F g) (bk.d j F l) Z Y z (λζ=>zI L r p h) ((e _).symm▸k),λk=>keq_ne (bk.d j F g) (bk.d j F l) Z Y z (λζ=>zI L r p h) ((e _).symm▸k)⟩
  |vG f m _ T D d=>
   obtain⟨B,p,Z⟩:=(F.at f g).2.ag T;obtain⟨N,r,Y⟩:=(F.at m l).2.ag D;have P:=p.bd;have U:=r.bd;have e:((B.length==N.length)&&Sp)=Su:=by refine aS ?_ U P;refine aa ?_ (Xd _);exact beq_eq_false_iff_ne.mpr d
   exact⟨λk=>keq_eq (bk.d j F g) (bk.d j F l) Z Y z (λq=>absurd (P.symm.trans (q.trans U)) d) (e.symm▸k),λk=>keq_ne (bk.d j F g) (bk.d j F l) Z Y z (λq=>absurd (P.symm.trans (q.trans U)) d) (e.symm▸k)⟩
end
section
open PySem.SeqAt (EqAt RcAt RcNeAt)
def FX (b) (t) (i:Int) (u:Tok) (z:0<=i) (y:i<256):Gives («bytes.__contains__» ⟨[.bytes b t,.int i u],[]⟩) (.val (.bool (b.contains i.toNat.toUInt8))):=by
 refine .of_wp λM A E s Q q=>?_;show Tg M A (Bytes.containsIn "bytes.__contains__" _ (.int i u)>>=λr=>_) _ E s;refine Sw ?_;refine Sw (wpAny_attempt (Tc rfl ?_));refine Sw (Tc Xe ?_);dsimp only;have e:(SW (i<0)||SW (i≥256))=Su:=by simp;exact⟨z,y⟩
 refine aa ?_ e;refine SU (SU ⟨_,rfl,q⟩)
def FY (h:dt l) (q:0<=i) (z:i<256):(bz l).contains i.toNat.toUInt8=(l.any λc=>(c:Int)==i):=by
 rewrite[Vl];simp only[bz,List.contains_toArray,List.contains_eq_mem,decide_eq_true_eq,Xr,Wq,beq_iff_eq];constructor
 ·rintro⟨c,m,e⟩
  refine⟨c,m,?_⟩;have:=FP (h.2 c m) (yp z) e;exact aa (Vv q) this
 ·rintro⟨c,m,e⟩
  refine⟨c,m,?_⟩;have:c=i.toNat:=congrArg Int.toNat e;exact aa rfl this
def vH:∀{z:List Int},lH q=z->q=z.map V.ae:=by
 induction q with
 |nil=>intro z h;replace h:=Sv h;subst h;rfl
 |cons x q y=>
  intro z h;induction x using V.casesOn<;>first|exact aG h|exact bv h|(cases h;done)|skip
  refine i1 h λw j e0=>?_;subst e0;refine aa ?_ (y j);rfl
def oI:∀{z:List (List Nat)},ig q=z->q=z.map V.ag:=by
 induction q with
 |nil=>intro z h;replace h:=Sv h;subst h;rfl
 |cons x q y=>
  intro z h;induction x using V.casesOn<;>first|exact aG h|exact bv h|(cases h;done)|skip
  refine i1 h λw j e0=>?_;subst e0;refine aa ?_ (y j);rfl
def L2.RF {w:Type} {R} {f:w->k} (y:List w):∀{z:List p},L2 R (y.map f) z->∀v∈z,∃i,i∈y/\R (f i) v:=by
 induction y with
 |nil=>intro z r v m;cases L2.ao r;cases m
 |cons i y u=>
  intro z r v m;refine ec (L2.ai r) λb z e0 h g=>?_;subst e0;cases m with
  |head=>exact⟨i,.head _,h⟩
  |tail _ m=>exact(u g v m).imp λj q=>⟨.tail _ q.1,q.2⟩
def L2.o {j:Type} {R:k->w->Prop} {f} {q} (u:∀i v,R (f i) v->p v=q i) (y:List j):∀{z},L2 R (y.map f) z->z.any p=y.any q:=by
 induction y with
 |nil=>intro z r;cases L2.ao r;rfl
 |cons i y g=>
  intro z r;refine ec (L2.ai r) λb z e0 h l=>?_;subst e0;exact aS (aS rfl (g l) (u i b h)) VX VX
def FZ (h:lH z=Sn q) (r:bN j z y):∀v∈y,∃i t,v=.int i t/\i∈q:=λv m=>by
 refine aQ λG w=>?_;cases vH h;obtain⟨i,k,t,e⟩:=L2.RF q r v m;exact w ⟨i,t,e,k⟩
def F0 (h:ig q=Sn z) (r:bN j q y):∀v∈y,∃l t,v=.bytes (bz l) t/\dt l:=λv m=>by
 refine aQ λG w=>?_;cases oI h;obtain⟨i,p,k,t,e⟩:=L2.RF z r v m;exact w ⟨i,t,e,k⟩
def Ga (h:mM x f=Sn b) (c:VR g x v) (z:bN g f w):∃e,(∀y,y∈w.toArray->EqAt A s y v (e y))/\w.toArray.any e=b:=by
 set_option tactic.hygienic true in induction x using V.casesOn<;>first|exact aG h|exact bv h|(cases h;done)|skip
 ·rename_i i
  refine i1 h λk q e0=>?_;subst e0;obtain⟨t,rfl⟩:=c;refine⟨λy=>match y with| .int j _=>j==i|_=>Su,λy m=>?_,?_⟩
  ·refine aQ λG p=>?_
   refine fh (FZ q z y (Yl.mp m)) λj u e0 _=>?_;subst e0;exact p (EqAt.int_int _ _ _ _)
  ·refine aQ λG p=>?_
   cases vH q;exact p (aS (L2.o (λj v r=>by obtain⟨t,rfl⟩:=r;exact BEq.comm) k z) VM List.any_toArray)
 ·rename_i l
  refine i1 h λk q e0=>?_;subst e0;obtain⟨d,t,rfl⟩:=c;refine⟨λy=>match y with| .bytes j _=>j.toList==(bz l).toList|_=>Su,λy m=>?_,?_⟩
  ·refine fh (F0 q z y (Yl.mp m)) λj u e0 _=>?_;subst e0
   exact zE _ _ _ _
  ·cases oI q
   exact aS (L2.o (λj v r=>by obtain⟨o,t,rfl⟩:=r;exact(sJ o d).trans BEq.comm) k z) VM List.any_toArray
def qy (w:∀a o,av a=Sn o->OR W [] W.cb a o) (F:aR W k q j s) (h:dS av j v=Sn o) (r:VR q v y):∃a,y=.ref a/\OR W q s a o:=by
 set_option tactic.hygienic true in induction v using V.casesOn<;>first|exact aG h|exact bv h|(cases h;done)|skip
 ·refine dz (F.ab h r) λa e0 _ z=>?_;subst e0;exact⟨a,rfl,z⟩
 ·rename_i a
  have:=w _ _ h;obtain rfl:y=.ref a:=r;obtain⟨u,e⟩:=this.RE;exact⟨a,rfl,(this.fU ((F.bn _ _ e).trans e.symm) λp p c=>c.keeps F.bn).RA YF⟩
def Gb {q:List (V×V)}:(q.any λe=>e.1==k)=(q.lookup k).isSome:=by
 induction q with
 |nil=>rfl
 |cons e r z=>
  obtain⟨a,b⟩:=e;refine aS ?_ T2 VX;refine aS ?_ (BEq.comm (a:=k)) z;cases(a==k)<;>rfl
def sL {K} [DecidableEq K] {q:U7 p w K} {h:TV} {z} (d:h.DictOf q a z):h.MapOf q a (Xn z):=by
 refine aQ λG y=>?_;obtain⟨o,j,r,g,x,u,l,f,_⟩:=d;refine y ?_;refine⟨o,j,r,g,x,u,l,λk=>?_⟩;refine aT ?_ (f.find k);simp[findBy]
set_option tactic.hygienic true in
def fK.n (d:fK W p h a w) (g:VR p k z) (y:eJ k w=Sp):
  ∃(K:Type) (_:DecidableEq K) (j:U7 W.fJ W.bg K) (f:K) (q:List (K×SV)),j.is f z=Sp/\h.DictOf j a q/\q.length=w.length/\l3 p q f (w.lookup k):=by
 induction k using V.casesOn<;>first|exact aG y|exact bv y|(cases y;done)|skip
 ·refine aQ λG u=>?_
  refine aP (d.i y) λq r x=>?_;refine g.elim λt e0=>?_;subst e0;exact u ⟨_,inferInstance,_,_,q,(beq_self_eq_true _),x,r.bd,r.IW⟩
 ·refine aQ λG u=>?_
  rename_i l;refine aP (d.ag y) λq r x=>?_;obtain⟨m,t,rfl⟩:=g;exact u ⟨_,inferInstance,_,l.map UInt8.ofNat,q,(beq_self_eq_true _),x,r.bd,r.IW m⟩
def sM (r:VR q x v):(x==.az)=(v==.none)/\plainIs v .none=Sp:=by
 induction x using V.casesOn<;>(try obtain⟨_,rfl⟩:=r)<;>(try obtain⟨_,_,rfl⟩:=r)<;>(try refine fh r λ_ _ _ e0=>?_;subst e0)<;>(try subst r)<;>exact⟨rfl,rfl⟩
noncomputable def Gc:O->Bool
 | .aX _=>Sp
 |_=>Su
def Gd (h:av g=Sn (.aE q)):False:=bv (SN.mp (show u6.all (λe=>Gc e.2)=Sp from rfl) _ (iA h))
noncomputable abbrev zM (neg:Bool):CmpOp:=if neg then .NotIn else .In
set_option tactic.hygienic true in
def zN (f:ik W) (z) (F:aR W N x Z s.heap) (h:dY.F4 av Z j w=Sn c) (p:VR x j a) (J:VR x w b) (k:∀I,Q (.bool (c !=z)) {s with toks:=I}):Tg W.b A (Wh (zM z) a b) Q E s:=by
 have gen:∀{j},VR x j a->(match dS av Z w with
   |some (.aX H)=>mM j H
   |some (.aE m)=>if eJ j m then Sn (m.any λe=>e.1==j)else none
   |_=>none)=Sn c->Tg W.b A (Wh (zM z) a b) Q E s:=λ{j} p h=>by
  cases o:dS av Z w with
  |none=>replace h:=o▸h;exact aG h
  |some ob=>
   rw[o]at h;induction ob using O.casesOn<;>first|exact aG h|exact bv h|(cases h;done)|skip
   ·obtain⟨a',rfl,⟨vs,n,r,_,l⟩⟩:=qy f.oF F o J
    refine aP (Ga (A:=A.in1) (s:=s) h p r) λe M hb=>?_;have k:=k s.toks;rw[<-hb]at k;induction z using SX with
    |false=>rw[XG]at k;exact SeqAt.in_tupleAt e (gH.b l) M k
    |true=>rw[X1]at k;exact SeqAt.notIn_tupleAt e (gH.b l) M k
   ·rename_i m
    dsimp only at h;by_cases P:eJ j m=Sp
    ·rw[if_pos P]at h
     replace h:=Sv h;subst h;induction w using V.casesOn with
     |ab i=>
      refine aQ λG kG=>?_;refine aP J λd U e0=>?_;subst e0;refine(F.at o U).elim λ_ dd=>?_;obtain⟨K,_,knd,k',L,C,T,_,v⟩:=dd.n p P;refine kG ?_;have e:(Xn L k').isSome=(m.any λe=>e.1==j):=by
       refine aa ?_ Gb;revert v;cases m.lookup j with
       |none=>exact λv=>congrArg Wy v
       |some u=>exact λv=>by refine aP v λy q _=>?_;refine aa ?_ q;rfl
      replace k:=UW e▸k;induction z using SX with
      |false=>exact wpAny_in_of C (bk.d f.l2 F U) (sL T) (by have k:=k (s.toks+1);rw[XG]at k;exact k)
      |true=>exact wpAny_notIn_of C (bk.d f.l2 F U) (sL T) (X1 _▸k _)
     |bW g=>
      exact(Gd o).elim
     |_=>exact aG o
    ·rw[if_neg P]at h;exact aG h
 induction j using V.casesOn<;>first|exact gen p h|skip
 induction w using V.casesOn<;>first|exact gen p h|skip
 rename_i i l;dsimp only[dY.F4]at h;by_cases Y:(SW (0<=i)&&SW (i<256))=Sp
 ·rw[if_pos Y]at h
  have D:=of_decide_eq_true (bH Y).1;have B:=of_decide_eq_true (bH Y).2;replace h:=Sv h;subst h;obtain⟨t,rfl⟩:=p;obtain⟨ok,u,rfl⟩:=J;have g:=FX (bz l) u i t D B;rw[FY ok D B]at g;induction z using SX with
  |false=>exact in_gives (Uc _ _ _) FB.slot_bytes_contains FB.entry_bytes_contains (FB.args_bytes_contains_2 _ _) g (by have k:=k s.toks;rw[XG]at k;exact k)
  |true=>exact notIn_gives (Uc _ _ _) FB.slot_bytes_contains FB.entry_bytes_contains (FB.args_bytes_contains_2 _ _) g (X1 _▸k s.toks)
 ·rw[if_neg Y]at h;exact aG h
def sN (h:pP q z f=Sn c) (w:VR y q a) (k:VR y z b):∃i j t u,a=.int i t/\b=.int j u/\f i j=c:=by
 induction q using V.casesOn<;>first|exact aG h|exact bv h|(cases h;done)|skip
 induction z using V.casesOn<;>first|exact aG h|exact bv h|(cases h;done)|skip
 replace h:=Sv h;subst h;obtain⟨t,rfl⟩:=w;obtain⟨u,rfl⟩:=k;exact⟨_,_,t,u,rfl,rfl,rfl⟩
def oJ (f:ik W) (o) (F:aR W v g e s.heap) (n:A.units+40<cLine) (h:dY av o l r e=Sn c) (q:VR g l a) (y:VR g r b) (k:∀w,Q (.bool c) {s with toks:=w}):
  Tg W.b A (Wh (ii o) a b) Q E s:=by
 have p:=f.l2;have z:Q (.bool c) s:=k s.toks;induction o using D'.casesOn with
 |bp=>exact(zL p F (S8 (SF (show 28<=40 from S2 rfl) _) n) h q y).1 z
 |bM=>
  refine i1 h λd m e0=>?_;subst e0;exact(zL p F (S8 (SF (show 28<=40 from S2 rfl) _) n) m q y).2 z
 |bX=>obtain⟨i,j,t,u,rfl,rfl,rfl⟩:=sN h q y;exact PySem.P.lt_int z
 |bY=>obtain⟨i,j,t,u,rfl,rfl,rfl⟩:=sN h q y;exact PySem.P.le_int z
 |lB=>obtain⟨i,j,t,u,rfl,rfl,rfl⟩:=sN h q y;exact PySem.P.gt_int z
 |lC=>obtain⟨i,j,t,u,rfl,rfl,rfl⟩:=sN h q y;exact PySem.P.ge_int z
 |j0=>
  induction r using V.casesOn<;>first|exact aG h|exact bv h|(cases h;done)|skip
  replace h:=Sv h;subst h;subst y;exact wpAny_is_plain (sM q).2 ((sM q).1▸z)
 |hZ=>
  induction r using V.casesOn<;>first|exact aG h|exact bv h|(cases h;done)|skip
  replace h:=Sv h;subst h;subst y;have z:Q (.bool (!(l==.az))) s:=z;rw[(sM q).1]at z;exact wpAny_isNot_plain (sM q).2 z
 |d'=>exact zN f Su F h q y λw=>(XG c).symm▸k w
 |gh=>
  refine i1 h λd m e0=>?_;subst e0;exact zN f Sp F m q y λw=>(X1 d).symm▸k w
end
section
noncomputable abbrev dk:=bo->List Nat->List O->R V
noncomputable abbrev qz:=bo->List Nat->List O->R (List V)
def vI:fD r=.ak∨(∃b q,r=.aj (.aq b) q/\fD r=.aj b q)∨∃t q,r=.bh t q/\fD r=.bh t q:=by
 induction r using R.casesOn with
 |aj v q=>induction v using V.casesOn<;>first|exact .inl rfl|exact .inr (.inl ⟨_,_,rfl,rfl⟩)
 |bh t q=>exact .inr (.inr ⟨_,_,rfl,rfl⟩)
 |ak=>exact .inl rfl
set_option tactic.hygienic true in
def jr.aY {k:Bool->List O->R f} (h:jr W A u l fU s t (fD r)) (g:bL W u l p s (r.C λv j=>match v with| .aq Sp=>k Sp j| .aq Su=>k Su j|_=>.ak) Q E) (o:∀b z q w y,ck W l q s.heap w->aR W u q z w->bL W u q p {s with heap:=w,toks:=y} (k b z) Q E->Z b {s with heap:=w,toks:=y}):ax W.b A t Z E s:=by
 have e:(r.C λv j=>match v with| .aq Sp=>k Sp j| .aq Su=>k Su j|_=>.ak)=(fD r).C k:=by
  induction r using R.casesOn with
  |aj v j=>induction v using V.casesOn<;>first|rfl|(rename_i b;induction b using SX<;>rfl)
  |bh t j=>rfl
  |ak=>rfl
 rw[e]at g;exact h.am g λv z q n w y a b c d=>by obtain rfl:n=v:=b;exact o _ z q w y a c d
def Ge (P:bf W x l h) (U:bf W x r p):
  bf W x (.BinOp l (uJ o) r v) (λq c z=>(h q c z).C λa z=>(p q c z).C λb z=>ie av o a b z):=λG q u z s F Q E g=>cg ((P G q u z s F).am g λC y j a Z Y w L f m=>((U j q u y _ (F.aD w f)).am m λT n i b J K k M t d=>(FO o t (L.RA k.cY) M Q E d))) λe D B=>cg (cy B) λN I H=>aN (cE (qr H))
def Gf (h:bf W x e f):bf W x (.UnaryOp .Not e w) (λz c y=>(f z c y).C λa y=>u1 av .em a y):=by
 intro d z k y s F Q E g;refine vq ((h d z k y s F).am g λv p u o m t l r j q=>?_);induction v using V.casesOn<;>first|exact S9 q|skip
 obtain rfl:o=_:=r;exact .B (not_of (UK (q.A j rfl)))
def Gg (h:fY W x e f):fY W x (.UnaryOp .Not e k) (λz c q=>(f z c q).C λa q=>u1 av .em a q):=by
 intro o z y q s F Q E g;refine(cg ?_ λZ Y J=>bb J);have n:fD ((f z y q).C λa q=>u1 av .em a q)=(fD (f z y q)).C λb q=>.aj (!b) q:=by
  cases f z y q with
  |aj v q=>induction v using V.casesOn<;>rfl
  |bh t q=>rfl
  |ak=>rfl
 rw[n]at g;exact(h o z y q s F).am g λv p u i m d l r j w=>by obtain rfl:i=v:=r;exact w.A j rfl
def Gh (i:fY W x t d) (h:bf W x a m) (Z:bf W x b e):
  bf W x (.IfExp t a b f) (λq c w=>(d q c w).C λv w=>match v with| .aq Sp=>m q c w| .aq Su=>e q c w|_=>.ak):=by
 intro Y q z w s F Q E g;refine Fl (jr.aY (k:=λb w=>if b then m q z w else e q z w) (i Y q z w s F) g λb y j o n u l p=>?_);have r:=F.aD u l;induction b using SX
 ·exact Z j q z y _ r Q E p
 ·exact h j q z y _ r Q E p
set_option tactic.hygienic true in
def Gi {r:R V} {p q:List O->R V}:fD (r.C λv z=>match v with| .aq Sp=>p z| .aq Su=>q z|_=>.ak)=r.C λv z=>match v with| .aq Sp=>fD (p z)| .aq Su=>fD (q z)|_=>.ak:=by
 induction r using R.casesOn with
 |aj v z=>induction v using V.casesOn<;>first|rfl|(rename_i b;induction b using SX<;>rfl)
 |bh t z=>rfl
 |ak=>rfl
def Gj {W:bk} {x:c7} {t a b:TQ} {pos} {ft fa fb:dk} (ht:fY W x t ft) (ha:fY W x a fa) (hb:fY W x b fb):
  fY W x (.IfExp t a b pos) (λloc c σ=>(ft loc c σ).C λv σ=>match v with| .aq Sp=>fa loc c σ| .aq Su=>fb loc c σ|_=>.ak):=by
 intro ρ loc be σ s F Q E g;rw[Gi]at g;refine Fm (jr.aY (k:=λb σ=>if b then fD (fa loc be σ)else fD (fb loc be σ)) (ht ρ loc be σ s F) g λb a_ F5 n_ J2 J3 RQ K_=>?_);have E1:=F.aD J3 RQ;induction b using SX
 ·exact hb F5 loc be a_ _ E1 Q E K_
 ·exact ha F5 loc be a_ _ E1 Q E K_
def cn.RD (o:x.n W d u) (F:cn W x y q z j h):x.bO.units+40<cLine:=S8 (TU (Sq (SH _ u) o.lY) 40) (S8 (by decide) FU)
def sO (g:db W z q s (dh (c.map .aq) y) Q E):∃b,c=Sn b/\db W z q s (.aj (.aq b) y) Q E:=by
 induction c using Tr with
 |none=>exact S9 g
 |some b=>exact⟨b,rfl,g⟩
def Gk (o:x.n W d u) (f:ik W) (L:VH (ii i) r=Su) (M:bf W x l J) (C:bf W x r e):
  bf W x (.Compare l [ii i] [r] h) (λq c y=>(J q c y).C λa y=>(e q c y).C λb y=>dh ((dY av i a b y).map .aq) y):=by
 intro T q t y s F Q E g;refine Fh ((M T q t y s F).am g λH w k a K P p D v n=>?_) L;refine(C k q t w _ (F.aD p v)).am n λA Z Y b U G m B j z=>?_;refine aP (sO z) λc N z=>?_;exact .B (oJ f i j (F.RD o) N (D.RA m.cY) B λI=>z.x j rfl I)
def vJ (g:bL W p u fU s (fD r) Q E):db W p u s r (λv l=>∃b,v=.bool b/\Q b l) E:=by
 rcases vI with q|⟨b,z,y,j⟩|⟨t,z,y,j⟩
 ·rw[q]at g;exact S9 g
 ·rw[j]at g;subst y
  intro w f m k c r G;obtain rfl:f=_:=r;exact⟨b,rfl,g w b m k c rfl G⟩
 ·rw[j]at g;subst y;exact g
def Gm (F:aR W y j l s.heap) (g:bL W y j fU s (fD (fg l r)) Q E):bL W y j fU s (fD r) Q E:=by
 have k:=bL.fg F (vJ g);induction r using R.casesOn with
 |ak=>exact k
 |bh t w=>exact k
 |aj v w=>
  induction v using V.casesOn with
  |aq b=>
   intro p d f u m e G;refine aP (k p (.bool b) f u m rfl G) λc q z=>?_;cases q;cases e;exact z
  |_=>
   unfold fg at g;dsimp only at g
   split at g<;>exact g
theorem zO {W:bk}:(∃b,v=.bool b/\Q b s)->Tg W.b A (XT v) Q E s
 |⟨_,e,q⟩=>by subst e;exact UK q
def Gn (o:x.n W d u) (f:ik W) (L:VH (ii i) r=Su) (M:bf W x l J) (C:bf W x r e):
  fY W x (.Compare l [ii i] [r] h) (λq c y=>(J q c y).C λa y=>(e q c y).C λb y=>dh ((dY av i a b y).map .aq) y):=by
 intro T q t y s F Q E g;refine Fi ((M T q t y s F).am (vJ g) λH w k a K P p D v n=>?_) L;refine(C k q t w _ (F.aD p v)).am n λA Z Y b U G m B j z=>?_;refine aP (sO z) λc N z=>?_;exact .B (oJ f i j (F.RD o) N (D.RA m.cY) B λI=>(.B (zO (z.x j rfl I))))
def Go (h:fY W x e f):fY W x e (λl c q=>fg q (f l c q)):=
 λj z y q s F Q E g=>h j z y q s F Q E (Gm F.toaR g)
end
inductive cJ {α β:Type} (r:α->β->Prop):List α->List β->Prop
 |ao:cJ r [] []
 |ai {a b l m} (h:r a b) (hs:cJ r l m):cJ r (a::l) (b::m)
noncomputable abbrev zP (o p:Cm) (fl RS fq:dk):dk:=λloc c σ=>(fl loc c σ).C λa σ=>(RS loc c σ).C λb σ=>(match dY av o a b σ with
  |some Sp=>(fq loc c σ).C λz σ=>dh ((dY av p b z σ).map .aq) σ
  |some Su=>.aj (.aq Su) σ
  |none=>.ak)
def Gp (o:x.n W d u) (f:ik W) (hm:VH (ii L) q=Su) (hl:bf W x l t) (hr:bf W x r C) (hq:bf W x q v):
  bf W x (.Compare l [ii w,ii L] [r,q] k) (zP w L t C v):=by
 intro ρ P T σ s F Q E g;refine Fo ((hl ρ P T σ s F).am g λva U Y a n i Z ra D y=>?_) hm;have M:=F.aD Z D;refine Fq ((hr Y P T U _ M).am y λvb H A b h J4 I rb J G=>?_);cases j:dY av w va vb H with
 |none=>replace G:=j▸G;exact G.elim
 |some c=>
  rw[j]at G;refine .B<|oJ f w J (F.RD o) j (ra.RA I.cY) rb λp=>.B<|UK ?_
  induction c using SX with
  |true=>
   refine(cg (cy ((hq A P T H _ (M.aD I J)).am G λvz m e z j_ LC B rz N K=>?_)) λb q z=>aN (cE (qr z)));refine aP (sO K) λc j K=>?_;exact .B<|oJ f L N (F.RD o) j (rb.RA B.cY) rz λp=>K.x N rfl p
  |false=>exact G.x J rfl p
def Gq (o:x.n W d u) (f:ik W) (hm:VH (ii M) q=Su) (hl:bf W x l v) (hr:bf W x r D) (hq:bf W x q n):
  fY W x (.Compare l [ii k,ii M] [r,q] m) (zP k M v D n):=by
 intro ρ T U σ s F Q E g;refine Fp ((hl ρ T U σ s F).am (vJ g) λva Y Z a i h A ra y j=>?_) hm;have N:=F.aD A y;refine Fr ((hr Z T U Y _ N).am j λvb I B b E2 J4 J rb K H=>?_);cases w:dY av k va vb I with
 |none=>replace H:=w▸H;exact H.elim
 |some c=>
  rw[w]at H;refine .B<|oJ f k K (F.RD o) w (ra.RA J.cY) rb λp=>.B<|UK ?_
  induction c using SX with
  |true=>
   have H:=H.RB (y:=p) .E;refine(cg (cy ((hq B T U I _ (N.aD J K)).am H λvz e t z j_ LC C rz P L=>?_)) λb q y=>aN (cE (cg (qr y) λc z j=>cy j)));refine aP (sO L) λc w L=>?_;exact .B<|oJ f M P (F.RD o) w (rb.RA C.cY) rz λp=>.B (zO (L.x P rfl p))
  |false=>
   refine aQ λG kG=>?_;refine aP (H.x K rfl p) λb' e1 q=>?_;cases e1;exact kG q
noncomputable abbrev qA (k:Bool) (f g:dk):dk:=λl c σ=>(f l c σ).C λx σ=>match x with
  | .aq Sp=>if k then g l c σ else .aj (.aq Sp) σ
  | .aq Su=>if k then .aj (.aq Su) σ else g l c σ
  |_=>.ak
noncomputable abbrev oK (k:Bool):BoolOp:=if k then .And else .Or
def zQ (h:bf W x e f) (n:bf W x (.BoolOp (oK k) (d::o) l) g):bf W x (.BoolOp (oK k) (e::d::o) l) (qA k f g):=by
 intro i p u a s F Q E Z;induction k using SX with
 |true=>
  refine Fs ((h i p u a s F).am Z λv y j t m c w r z q=>?_)
  set_option tactic.hygienic true in induction v using V.casesOn<;>first|exact q.elim|skip
  rename_i b;obtain rfl:t=_:=r;refine .B<|UK ?_
  induction b using SX
  ·exact q.A z rfl
  ·exact n j p u y _ (F.aD w z) Q E q
 |false=>
  refine Fu ((h i p u a s F).am Z λv y j t m c w r z q=>?_)
  set_option tactic.hygienic true in induction v using V.casesOn<;>first|exact q.elim|skip
  rename_i b;obtain rfl:t=_:=r;refine .B<|UK ?_
  induction b using SX
  ·exact n j p u y _ (F.aD w z) Q E q
  ·exact q.A z rfl
def Gr:fD (qA k f g l c q)=(fD (f l c q)).C λv q=>if v=k then fD (g l c q)else .aj v q:=by
 unfold qA;cases f l c q with
 |aj v q=>
  induction v using V.casesOn<;>try rfl
  rename _=>v
  induction v using SX<;>induction k using SX<;>rfl
 |bh t q=>rfl
 |ak=>rfl
def zR (h:fY W x e f) (n:fY W x (.BoolOp (oK k) (o::b) l) g):fY W x (.BoolOp (oK k) (e::o::b) l) (qA k f g):=by
 intro i p u a s F Q E d;rw[Gr]at d;induction k using SX with
 |true=>
  refine zr ((h i p u a s F).am d λv y j m c t w r q z=>?_);obtain rfl:m=v:=r;induction m using SX
  ·exact z.A q rfl
  ·exact n j p u y _ (F.aD w q) Q E z
 |false=>
  refine zt ((h i p u a s F).am d λv y j m c t w r q z=>?_);obtain rfl:m=v:=r;induction m using SX
  ·exact n j p u y _ (F.aD w q) Q E z
  ·exact z.A q rfl
def bL.RA (g:bL W w k q s r Q E) (f:∀v s,Q v s->l v s):bL W w k q s r l E:=by
 induction r using R.casesOn with
 |aj v z=>exact λy m e j a b c=>f _ _ (g y m e j a b c)
 |bh t z=>exact g
 |ak=>exact g
def Gs (h:fY W x e f):fY W x (.BoolOp (oK k) [e] j) f:=by
 intro w z y p s F Q E g;induction k using SX with
 |true=>exact zr (h w z y p s F _ E (bL.RA g λb r q=>by induction b using SX<;>first|exact q|exact .B (isTrue_and_nil q)))
 |false=>exact zt (h w z y p s F _ E (bL.RA g λb r q=>by induction b using SX<;>first|exact q|exact .B (isTrue_or_nil q)))
noncomputable def de:List dk->qz
 |[]=>λζ ζ σ=>.aj [] σ
 |f::fs=>λl c σ=>(f l c σ).C λx σ=>(de fs l c σ).C λxs σ=>.aj (x::xs) σ
def qB (h:cD e=Sp):Vx (e::z) q=(Su,eval e q)::Vx z q:=by
 induction e using Uo<;>first|rfl|exact bv h
def sP (h:cJ (bf W x) o i):(∀e∈o,cD e=Sp)->∀p q z u s,cn W x p q z u s.heap->jr W x.bO x.bD p bN s (Yg (WM d (Vx o x.aK))) (de i q z u):=by
 induction h with
 |ao=>exact λL p q z u s F Q E g=>.B<|spliced_nil (g.A F.toaR trivial)
 |ai h M P=>
  exact λa p q z u s F Q E g=>aa (vr ((h p q z u s F).am g λv y j C Z Y w r l f=>((P (λe m=>a e (.tail _ m)) j q z y _ (F.aD w l)).am f λT b n U J K k G c t=>(t.A c ⟨r.RA k.cY,G⟩)))) (qB (a _ (.head _)))
def zS (i:cJ (bf W x) w b) (a:∀e∈w,cD e=Sp):
  bf W x (.List w k) (λl c y=>(de b l c y).C λp y=>if cR p.length then ea (.ah p) y else .ak):=by
 intro Z u f y s F Q E g;refine Fj ((sP i a Z u f y s F).am g λp m z t v n d r j q=>?_)
 ·obtain⟨o,q⟩:=lK (P:=λr=>db W x.bD z _ r Q E) q λh=>h
  have o:=of_decide_eq_true o;exact⟨by refine aS (a5 (by assumption) rfl) TO r.bd,q.B j ⟨t,0,r.RA (TJ _ _),o,fv _ _ rfl⟩⟩
def zT (a:cJ (bf W x) w v) (Z:∀e∈w,cD e=Sp):
  bf W x (.Tuple w k p) (λl c y=>(de v l c y).C λu y=>if cR u.length then ea (.aX u) y else .ak):=by
 intro Y f m y s F Q E g;refine zq ((sP a Z Y f m y s F).am g λu t z d n i o r j q=>?_)
 ·obtain⟨b,q⟩:=lK (P:=λr=>db W x.bD z _ r Q E) q λh=>h
  have b:=of_decide_eq_true b;exact⟨by refine aS (a5 (by assumption) rfl) TO r.bd,q.B j ⟨d,0,r.RA (TJ _ _),b,fv _ _ rfl⟩⟩
structure df (W:bk):Prop extends ik W where
 m9:∀nm∈qf,W.hJ nm=none
 sQ:∀c C,i3 c=Sn C->qg W.bG c C=Sp
 qC:(Vg W.bG (.type "bytes") (.type "bytes")==Sn Sp&&Vg W.bG (.type "bytes") (.ref 93)==Sn Su&&Vg W.bG (.type "NoneType") (.type "bytes")==Sn Su&&
  Vg W.bG (.type "bool") (.type "bytes")==Sn Su&&Vg W.bG (.type "int") (.type "bytes")==Sn Su&&Vg W.bG (.type "str") (.type "bytes")==Sn Su&&
  Vg W.bG (.type "int") (.type "int")==Sn Sp&&Vg W.bG (.type "tuple") (.type "int")==Sn Su&&
  specialIn W.bG (.builtin "object.__class__") "__get__"==Sn (Sn (.builtin "getset_descriptor.__get__"))&&takesIn W.bG (.builtin "object.__class__")==Sn Sp)=Sp
 zU:W.hJ (au "CommandBlock")=Sn (.ref 93)
def ng (h:∀e∈q,cD e=Sp):(WM y (Vx q z)).any (·.1)=Su:=by
 induction q with
 |nil=>rfl
 |cons e q j=>
  refine aa ?_ (qB (h e (.head _)));refine aa ?_ (j λe m=>h e (.tail _ m));rfl
inductive oM:SV->Prop
 |bs (id:String):oM (.builtin id)
 |ed (T:String):oM (.type T)
def qD (p:cJ (bf W x) j r) (u:∀e∈j,cD e=Sp) (F:cn W x w z y k s.heap) (g:bL W x.bD w bN s (de r z y k) (λm c=>Q ⟨m,[]⟩ c) E):ax W.b x.bO (evalArgs f Sp (WM q (Vx j x.aK)) []) Q E s:=by
 cases p with
 |ao=>exact .B<|evalArgs_nil3 (bL.A (y:=[]) g F.toaR trivial)
 |ai h p=>
  have l:=sP (d:=q) (.ai h p) u w z y k s F _ E g;rw[qB (u _ (.head _))]at l⊢;exact zu l
def zV (f:oM y) (l:cJ (bf W x) k p) (w:∀e∈k,cD e=Sp) (F:cn W x r z j u s.heap) (g:bL W x.bD r bN s (de p z j u) (λm c=>ax W.b x.bO (Uv y m) Q E c) E):ax W.b x.bO (WN q y [] (WM q (Vx k x.aK)) []) Q E s:=by
 cases f with
 |bs d=>exact vt (ng w) (qD l w F g)
 |ed T=>exact zv (ng w) (qD l w F g)
def bL.am (g:bL W f d j s (r.C k) Q E) (n:∀v z q m w y,ck W d q s.heap w->l q v m->aR W f q z w->bL W f q j {s with heap:=w,toks:=y} (k v z) Q E->Z m {s with heap:=w,toks:=y}):bL W f d l s r Z E:=by
 induction r using R.casesOn with
 |aj v z=>exact λq m w y a b c=>n v z q m w y a b c (g.RB a)
 |bh t z=>exact g
 |ak=>exact g
def zW (o:x.n W d u) (f:df W) (L:b8 x.bq Z=Sn .globalImplicit) (i:Z∈qf) (K:Yj Z=Sn y) (J:oM y) (I:cJ (bf W x) j a) (H:∀e∈j,cD e=Sp) (h:∀P Y s n z,aR W x.bD P Y s.heap->bN P n z->fX W x.bO x.bD P s (Uv y z) (k n Y)):
  bf W x (.Call (.Name Z p) j [] m) (λl c Y=>(de a l c Y).C k):=by
 intro P G D Y s F Q E g;refine bT (oG o f.toik F.bn L (f.m9 Z i) K ?_ ?_ ?_)
 ·intro q
  subst q;revert i;decide
 ·cases q:(Z==_)with
  |false=>rfl
  |true=>
   rw[beq_iff_eq]at q;subst q;revert i;decide
 ·exact zV J I H F (g.am λn w t z N M b r U T=>(h t w _ n z U r Q E T))
inductive Qu (W:bk) (ρ:List S7) (σ:List O) (h:TV) (i:Nat) (v:SV):Prop
 |mk (a:S7) (o:O) (e:v=.ref a) (e1:ρ[i]?=Sn a) (e2:σ[i]?=Sn o) (r:OR W ρ h a o)
def fM (F:aR W y q z h) (r:VR q (.ab i) v):Qu W q z h i v:=by
 refine aP r λa e e0=>?_;subst e0;exact⟨a,z[i]'(aT ((SO.mp e).1) F.cH.bd),rfl,e,S0 _, F.at (S0 _) e⟩
def bN.qM (h:bN q [v,w] j):∃y z,j=[y,z]/\VR q v y/\VR q w z:=by
 refine aQ λG k=>?_;obtain⟨y,r,rfl,p,h⟩:=L2.ai h;obtain⟨z,r,rfl,u,h⟩:=L2.ai h;cases L2.ao h;exact k ⟨y,z,rfl,p,u⟩
noncomputable def qh (o:U1):List V->List O->R V
 |[a],σ=>u1 av o a σ
 |_,_=>.ak
section
def Gt (f:df W) (F:aR W u w p s.heap) (r:VR w a v):fX W A u w s (Uv (.builtin "len") [v]) (u1 av .bd a p):=by
 intro Q E g;apply ax.B;have q:∀{k} {b} {z} {n},k.length<=1048576->bN w k z->(Wi s.heap b z.toArray n∨WO s.heap b z.toArray n)->db W u w s (.aj (.ae k.length) p) Q E->Tg W.b A (Uv (.builtin "len") [.ref b]) Q E s:=by
  intro k b z n j y l g;have e:z.toArray.size=k.length:=y.bd;rcases l with l|l
  ·refine PyProof.Rows.len_list (fm.b l) (by refine aa ?_ e;exact V1 (T7.mpr j) (by decide)) ?_
   exact aa (g.x F ⟨_,rfl⟩ _) e
  ·refine PySem.P.len_tuple l (by refine aa ?_ e;exact Int.not_le.mpr (V1 (T7.mpr j) (by decide))) ?_
   exact aa (g.x F ⟨_,rfl⟩ _) e
 induction a using V.casesOn with
 |ag l=>
  obtain⟨d,t,rfl⟩:=r;refine PySem.W.len_bytes (by refine aa ?_ (fT _);exact a5 d.1 rfl) ?_;rw[fT];exact g.x F ⟨_,rfl⟩ _
 |ab i=>
  obtain⟨b,o,rfl,m,x,r⟩:=fM F r;dsimp only[u1,dS]at g;rw[x]at g;induction o using O.casesOn<;>first|exact S9 g|skip
  ·obtain⟨z,n,y,j,l⟩:=r
   exact q j y (.inl l) g
  ·obtain⟨z,n,y,j,l⟩:=r
   exact q j y (.inr l) g
 |bW b=>
  obtain rfl:v=_:=r;dsimp only[u1,dS]at g;cases e:av b with
  |none=>replace g:=e▸g;exact S9 g
  |some o=>
   refine aQ λG h=>?_;rw[e]at g;refine aP (qy f.oF F (v:=.bW b) e rfl) λZ m c=>?_;cases m;refine h ?_;induction o using O.casesOn<;>first|exact S9 g|skip
   ·obtain⟨z,n,y,j,l⟩:=c
    exact q j y (.inl l) g
   ·obtain⟨z,n,y,j,l⟩:=c
    exact q j y (.inr l) g
 |_=>exact S9 g
end
section
inductive Qv (ρ:List S7) (h:TV) (a:S7) (c d:Nat):Prop
 |mk (C dx:S7) (od:Obj) (e0:i3 c=Sn C) (e1:ρ[d]?=Sn dx) (e2:h.get? a=Sn (Vz C dx)) (e3:h.get? dx=Sn od) (I:InstAt h a (Vz C dx) C (Sn od))
def Gu (F:aR W k q w h) (r:OR W q h a (.a8 c d)):Qv q h a c d:=by
 obtain⟨C,p,u,z,y⟩:=r;obtain⟨g,j⟩:=F.cH.gk (Th z);exact⟨C,p,g,u,z,y,j,⟨y,rfl,rfl,j⟩⟩
def oN (f:df W) (F:aR W y q z h):W.bG.In h:=λa o e=>F.bn a o (f.X a o e)
def kW (f:df W) (Z:KitX W.bG v t H) (p:H s.heap) (e:(Vg W.bG t c==Sn b)=Sp) (j:v≠.builtin "__main__.__loader__#opaque") (F:aR W y q z s.heap) (g:db W y q s (.aj (.aq b) z) Q E):
  Tg W.b A (Uv (.builtin "isinstance") [v,c]) Q E s:=
 kia_one Z (oN f F) p (beq_iff_eq.mp e) j λw=>g.x F rfl w
def zX (f:df W) (F:aR W p y w s.heap) (r:OR W y s.heap a (.a8 c d)) (l:∀C,i3 c=Sn C->(Vg W.bG (.ref C) k==Sn b)=Sp) (g:db W p y s (.aj (.aq b) w) Q E):
  Tg W.b A (Uv (.builtin "isinstance") [.ref a,k]) Q E s:=by
 obtain⟨C,m,e,u,t,o,v,I⟩:=Gu F r;have q:=f.sQ c C u;have j:=f.qC;simp only[qg,T3,beq_iff_eq]at q j;exact kW f (kitx_own q.1.1.1.2 q.1.1.2 q.1.2 j.1.2 j.2 q.2) I (l C u) (by intro z;cases z) F g
def Gv (f:df W) (F:aR W u w p s.heap) (r:VR w a v):fX W A u w s (Uv (.builtin "isinstance") [v,.type "bytes"]) (u1 av .jg a p):=by
 intro Q E g;apply ax.B;have j:=f.qC;simp only[T3]at j;induction a using V.casesOn with
 |ag l=>obtain⟨e,t,rfl⟩:=r;exact kW f kitx_bytes trivial j.1.1.1.1.1.1.1.1.1 (by intro z;cases z) F g
 |az=>obtain rfl:v=_:=r;exact kW f kitx_none trivial j.1.1.1.1.1.1.1.2 (by intro z;exact absurd z (by decide)) F g
 |aq b=>obtain rfl:v=_:=r;exact kW f kitx_bool trivial j.1.1.1.1.1.1.2 (by intro z;cases z) F g
 |ae i=>obtain⟨t,rfl⟩:=r;exact kW f kitx_int trivial j.1.1.1.1.1.2 (by intro z;cases z) F g
 |bx k=>refine fh r λy t _ e0=>?_;subst e0;exact kW f kitx_str trivial j.1.1.1.1.2 (by intro z;cases z) F g
 |ab i=>
  obtain⟨b,o,rfl,d,m,r⟩:=fM F r;dsimp only[u1]at g;rw[m]at g;induction o using O.casesOn<;>first|exact S9 g|skip
  refine zX f F r (λC c=>?_) g;have q:=f.sQ _ C c;exact(Sz.mp (Sz.mp (Sz.mp (Sz.mp (Sz.mp q).1).1).1).1).1
 |_=>exact S9 g
end
def vK (o:x.n W d u) (f:df W) {Z:dk} (G:b8 x.bq (au "isinstance")=Sn .globalImplicit) (L:bf W x a Z) (J:cD a=Sp) (K:cD c=Sp) (M:∀s Q E,W.cb.StaysIn s.heap->Q C s->Tg W.b x.bO (eval c x.aK) Q E s) (b:∀w q s v m,aR W x.bD w q s.heap->VR w v m->fX W x.bO x.bD w s (Uv (.builtin "isinstance") [m,C]) (u1 av Y v q)):
  bf W x (.Call (.Name (au "isinstance") p) [a,c] [] t) (λl c q=>(Z l c q).C λv q=>u1 av Y v q):=λw n i q s F Q E g=>bT (oG o f.toik F.bn G (f.m9 _ (by decide)) PyProof.Rows.Boot.«isinstance» (by decide) rfl (vt (ng (by simp[J,K])) (aa (aa (zu (vr ((L w n i q s F).am g λv y j m P U h r z k=>(vr (.B<|M _ _ _ z.bn (.B<|spliced_nil (b j y _ v m z r Q E k))))))) (qB K)) (qB J))))
def Gw (o:x.n W d u) (f:df W) (w:b8 x.bq (au "isinstance")=Sn .globalImplicit) (k:b8 x.bq (au "int")=Sn .globalImplicit) (g:bf W x a j) (m:cD a=Sp):
  bf W x (.Call (.Name (au "isinstance") p) [a,.Name (au "int") q] [] y) (λl c z=>(j l c z).C λv z=>u1 av .n9 v z):=
 vK o f w g m rfl (λs Q E e h=>oG o f.toik e k (f.m9 _ (by decide)) PyProof.Rows.Boot.«int» (by decide) rfl h) λt z s v b F r=>λQ E g=>by
  apply ax.B;have y:=f.qC;simp only[T3]at y;induction v using V.casesOn with
  |ae i=>obtain⟨t,rfl⟩:=r;exact kW f kitx_int trivial y.1.1.1.2 (by intro z;cases z) F g
  |ab i=>
   obtain⟨b,o,rfl,p,k,r⟩:=fM F r;dsimp only[u1]at g;rw[k]at g;induction o using O.casesOn<;>first|exact S9 g|skip
   obtain⟨u,n,m,c,l⟩:=r;exact kW f kitx_tuple ⟨_,l,rfl⟩ y.1.1.2 (by intro z;cases z) F g
  |_=>exact S9 g
def oO (o:x.n W d u) (f:df W) (Y:b8 x.bq i=Sn .globalImplicit) (J:i∈qf) (K:Yj i=Sn y) (P:oM y) (U:bf W x e t) (G:cD e=Sp) (h:∀n q s v a,aR W x.bD n q s.heap->VR n v a->fX W x.bO x.bD n s (Uv y [a]) (u1 av b v q)):
  bf W x (.Call (.Name i p) [e] [] w) (λl c q=>(t l c q).C λv q=>u1 av b v q):=by
 intro n z j q s F;have:=zW (p:=p) (m:=w) (k:=qh b) o f Y J K P (.ai U .ao) (λe m=>by cases SP.mp m;exact G) (λn q s Z L F r=>by
  induction Z using SD with
  |nil=>exact λQ E g=>g.elim
  |cons v Z=>
   induction Z using SD with
   |nil=>
    refine aP (bN.a7 r) λa e0 M=>?_;subst e0;exact h _ _ _ _ _ F M
   |cons=>exact λQ E g=>g.elim) n z j q s F
 have e:(de [t] z j q).C (qh b)=(t z j q).C λv q=>u1 av b v q:=by
  show((t z j q).C λx q=>.aj [x] q).C (qh b)=_;cases t z j q<;>rfl
 dsimp only at this⊢;rw[e]at this;exact this
section
def bL.H (g:db W w q s (.aj v j) Q E) (F:aR W w q j s.heap) (k:∀b o,s.heap.get? b=Sn o->y.get? b=Sn o) (r:VR q v z):Q z {s with heap:=y,toks:=p}:=
 g q z y p (.RA k) r (F.RA k)
structure Qw (vs:List SV) (l:List Nat) (ns:List Int):Prop where
 aZ:IntsAre vs ns
 nh:∀n∈ns,0<=n/\n<256
 bs:ns.map (λn=>n.toNat.toUInt8)=l.map UInt8.ofNat
 eN:∀c∈l,c<256
def Gx:∀{l:List Nat} {y},iw z=l->bN w z y->∃j,Qw y l j:=by
 induction z with
 |nil=>
  intro l y h r;replace h:=Sv h;subst h;cases L2.ao r;exact⟨[],.nil,λk m=>(nomatch m),rfl,λk m=>(nomatch m)⟩
 |cons x z p=>
  intro l y h r;refine ec (L2.ai r) λv y e0 u g=>?_;subst e0
  set_option tactic.hygienic true in induction x using V.casesOn<;>first|exact aG h|skip
  rename_i i;change(if 0<=i/\i<256 then(iw z).map _ else none)=Sn l at h;by_cases c:0<=i/\i<256
  ·rw[if_pos c]at h
   refine i1 h λo f e0=>?_;subst e0;obtain⟨j,q⟩:=p f g;obtain⟨t,rfl⟩:=u;refine⟨i::j,.cons i t q.aZ,λn e=>?_,congrArg (_::·) q.bs,λd s=>?_⟩
   ·cases e with
    |head=>exact c
    |tail _ m=>exact q.nh n m
   ·cases s with
    |head=>exact(Int.toNat_lt c.1).mpr c.2
    |tail _ m=>exact q.eN d m
  ·rw[if_neg c]at h;exact aG h
def Gy (f:df W) (u:A.handled=none) (F:aR W w z y s.heap) (e:y[i]?=Sn (.ah j)) (r:VR z (.ab i) v) (h:iw j=Sn l):fX W A w z s (Uv (.type "bytes") [v]) (lG l y):=by
 intro Q E g;apply ax.B;refine aQ λG m=>?_;obtain⟨c,g⟩:=vy g;obtain⟨a,rfl,b,⟨x,n,p,Z,d⟩⟩:=F.ab e r;obtain⟨Y,q⟩:=Gx h p;refine m ?_;refine call_bytes_ints (fm.b d) q.aZ q.nh (by refine aS ?_ TO p.bd;exact a5 (by assumption) rfl) u λJ t k o=>?_;exact g.H F o ⟨⟨of_decide_eq_true c,q.eN⟩,t,congrArg (Value.bytes · t) (congrArg WS q.bs)⟩
def Gz (h:lH y=Sn q) (r:bN j y z):AllInts z.toArray/\numsOf z=q:=by
 cases vH h;refine⟨λw k=>?_,?_⟩
 ·obtain⟨i,-,t,e⟩:=L2.RF q r w (Yl.mp k)
  exact⟨i,t,e⟩
 ·clear h
  induction q generalizing z with
  |nil=>cases L2.ao r;rfl
  |cons i q p=>
   obtain⟨v,z,rfl,⟨t,e⟩,u⟩:=L2.ai r;subst e;rewrite[numsOf];exact aa rfl (p u)
end
def GA (o:x.n W d u) (f:df W) (j:b8 x.bq (au "list")=Sn .globalImplicit) (w:bf W x a y) (k:cD a=Sp):
  bf W x (.Call (.Name (au "list") p) [a] [] z) (λl c q=>(y l c q).C λv q=>u1 av .ah v q):=
 oO o f j (by decide) PyProof.Rows.Boot.«list» (.ed _) w k λg q s v m F r=>λQ E g=>by
  apply ax.B;induction v using V.casesOn<;>first|exact S9 g|skip
  obtain⟨b,o,rfl,e,w,r⟩:=fM F r;dsimp only[u1]at g;rw[w]at g;induction o using O.casesOn<;>first|exact S9 g|skip
  obtain⟨k,n,j,p,u⟩:=r;refine call_list_seq b (.inl rfl) u rfl rfl (λt l m c=>?_) (by refine aa ?_ TO;simp[j.bd];exact a5 (by assumption) rfl);exact g.C F m (Tj (SJ _)) ⟨k,l,j.RA (TJ _ _),p,c⟩
def GB (o:x.n W d u) (f:df W) (j:b8 x.bq (au "sum")=Sn .globalImplicit) (w:bf W x a y) (k:cD a=Sp):
  bf W x (.Call (.Name (au "sum") p) [a] [] z) (λl c q=>(y l c q).C λv q=>u1 av .mH v q):=
 oO o f j (by decide) PyProof.Rows.Boot.«sum» (.bs _) w k λg q s v m F r=>λQ E g=>by
  apply ax.B;induction v using V.casesOn<;>first|exact S9 g|skip
  obtain⟨b,o,rfl,x,u,r⟩:=fM F r;dsimp only[u1]at g;rw[u]at g;induction o using O.casesOn<;>first|exact S9 g|skip
  obtain⟨Z,n,l,Y,m⟩:=r;dsimp only at g;cases h:lH _ with
  |none=>replace g:=h▸g;exact g.elim
  |some c=>
   rw[h]at g;obtain⟨-,g⟩:=bL.aY g;obtain⟨q,t⟩:=Gz h l;have z:=fm.b m;obtain⟨d,e⟩:=q.items;have k:numsOf (intItems d).toList=c:=aT t e;rw[nums_intItems]at k;rw[e]at z;refine sum_intListG o.fL z λJ K P i=>?_;refine aa (aa ?_ (List.take_of_length_le (by simp))) (preSum_eq _ _);refine aa ?_ k;exact g.H F i ⟨_,rfl⟩
def zY (h:gV k n=Sn i):i<n/\((0<=k/\k=(i))∨(k<0/\k+n=(i))):=by
 change(if 0<=(if k<0 then k+n else k)&&_<(n:Int)then Sn (if k<0 then k+n else k).toNat else none)=i at h;by_cases q:k<0
 ·rw[if_pos q]at h
  by_cases c:(SW (0<=k+n)&&SW (k+n<n))=Sp
  ·rw[if_pos c]at h
   have e:=Sv h;have y:=of_decide_eq_true (bH c).1;have z:=e▸(Vv y).symm;exact⟨Ul.mp (aT (of_decide_eq_true (bH c).2) z),.inr ⟨q,z⟩⟩
  ·rw[if_neg c]at h;exact aG h
 ·rw[if_neg q]at h
  by_cases c:(SW (0<=k)&&SW (k<n))=Sp
  ·rw[if_pos c]at h
   have e:=Sv h;have y:=of_decide_eq_true (bH c).1;have z:=e▸(Vv y).symm;exact⟨Ul.mp (aT (of_decide_eq_true (bH c).2) z),.inl ⟨y,z⟩⟩
  ·rw[if_neg c]at h;exact aG h
def vL (h:gV k n=Sn i) (z:n<=1048576):-2^63<=k/\k<2^63:=by
 refine(zY h).elim λp q=>?_;rcases q with⟨a,b⟩|⟨a,b⟩
 ·exact⟨UO (by decide) a,aa (XW (Ul.mpr (SA p z)) (by decide)) b⟩
 ·exact⟨UO (UO (by decide) (Int.neg_le_neg (T7.mpr z))) (X2 (by rw[Int.add_left_neg,b];exact TA i)),Int.lt_trans a (by decide)⟩
section
def kX {W:bk} {T g} (l:s.TypeIs o T) (f:Wr (.type T) "__getitem__"=T8 (Sn (.builtin g))) (h:Tg W.b A (getItem o i) Q E s):
  Tg W.b A (VY q z o i) Q E s:=by
 refine Sw ?_;refine Sw (U2 l f ?_);have j:Tg W.b A (subscripted z Su o i) (λr y=>Tg W.b A (letTemporaryGo q o r>>=λk=>T8 r) Q E y) E s:=by
  have p:∀u,Tg W.b A (operate u _) (λr y=>Tg W.b A (letTemporaryGo q o r>>=λk=>T8 r) Q E y) E s:=
   λu=>wpAny_operating (Wt h (λr y w=>Sw (Xt (SU w))) λk k x=>x)
  set_option tactic.hygienic true in induction z using Uo<;>first|exact p _|skip
  rename_i m _;induction m using Tr<;>exact p _
 first
  |exact SU (Sw j)
  |exact wpAny_bind _
  |exact wpAny_bind j
def vM (g:db W y q s (dh o z) Q E):∃v,o=Sn v/\db W y q s (.aj v z) Q E:=by
 induction o using Tr with
 |none=>exact S9 g
 |some b=>exact⟨b,rfl,g⟩
def vN (h:dt l) {i:Nat} (e:l[i]?=Sn c):(bz l)[i]?=(UInt8.ofNat c)/\(UInt8.ofNat c).toNat=c:=by
 refine⟨by simp[bz,e],?_⟩;have:=h.2 c (Th e);exact(WQ ..).trans (Wp this)
def vO {k:Nat->Option V} (g:db W y q s (match o with|some i=>dh (k i) z|none=>.ak) Q E):∃i v,o=Sn i/\k i=Sn v/\db W y q s (.aj v z) Q E:=by
 induction o using Tr with
 |none=>exact g.elim
 |some i=>refine aP (vM g) λv e g=>?_;exact⟨i,v,rfl,e,g⟩
def zZ (F:aR W L h a s.heap) (J:VR h p b) (P:OR W h s.heap c o) {E} (g:db W L h s (match(generalizing:=false) Sn o with
  |some (.ah f)=>(match p with| .ae k=>(match gV k f.length with|some i=>dh f[i]? a|none=>.ak)|_=>.ak)
  |some (.aX f)=>(match p with| .ae k=>(match gV k f.length with|some i=>dh f[i]? a|none=>.ak)|_=>.ak)
  |some (.aE M)=>if eJ p M then dh (M.lookup p) a else .ak
  |_=>.ak) Q E):Tg W.b A (VY j w (.ref c) b) Q E s:=by
 induction o using O.casesOn<;>first|exact g.elim|skip
 ·induction p using V.casesOn<;>first|exact g.elim|skip
  obtain⟨t,rfl⟩:=J;obtain⟨B,n,m,Z,r⟩:=P;obtain⟨i,v,u,e,Y⟩:=vO g;obtain⟨y,z,l⟩:=m.dg e;have z:=Uq.trans z;have x:=vL u Z;refine kX ⟨_,r,rfl⟩ Ya.lookup ?_;refine(zY u).elim λhi q=>?_;rcases q with⟨U,rfl⟩|⟨U,q⟩
  ·exact wpAny_getItem_list (fm.b r) U x.2 z (Y.A F l)
  ·have C:(_:Int)=_:=congrArg Nat.cast m.bd
   refine wpAny_getItem_list_neg (fm.b r) U ?_ x.1 ?_ (Y.A F l)
   ·refine aa ?_ C;exact X2 (by rw[Int.add_left_neg,q];exact TA i)
   ·exact aa (aa z q) C
 ·induction p using V.casesOn<;>first|exact g.elim|skip
  obtain⟨t,rfl⟩:=J;obtain⟨B,n,m,Z,r⟩:=P;obtain⟨i,v,u,e,Y⟩:=vO g;obtain⟨y,z,l⟩:=m.dg e;have z:=Uq.trans z;have x:=vL u Z;rw[<-m.bd]at u;exact kX ⟨_,r,rfl⟩ slot_tuple_getitem.lookup (PySem.P.getItem_tuple r x.1 x.2 u z (Y.A F l))
 ·refine aQ λG N=>?_
  refine(bL.aY g).elim λI g=>?_;refine aP (vM g) λv e g=>?_;refine P.elim λZ d=>?_;obtain⟨K,_,H,k',m_,hk,T,_,D⟩:=d.n J I;rw[e]at D;refine aP D λy z l=>?_;exact N (kX (sL T).typeIs slot_dict_getitem.lookup (wpAny_getItem_of hk (sL T) z (g.x F l _)))
def GC (f:df W) (F:aR W x y w s.heap) (l:VR y k a) (m:VR y p b):fX W A x y s (VY q z a b) (jG av k p w):=by
 intro Q E g;refine ax.B ?_
 set_option tactic.hygienic true in induction k using V.casesOn<;>first|exact g.elim|skip
 ·induction p using V.casesOn<;>first|exact g.elim|skip
  refine aQ λG J=>?_;obtain⟨t,rfl⟩:=m;obtain⟨h,u,rfl⟩:=l;refine ec (vO g) λi v Z e K=>?_;refine i1 e λc d e0=>?_;subst e0;refine(vN h d).elim λj n=>?_;have Y:=vL Z h.1;refine J ?_;refine kX (Uc _ _ _) UE.lookup (getItem_gives (Uc s _ _) rfl UE V5 (VW _ _) (gives_bytes_getitem _ _ _ _ (UInt8.ofNat c) ?_ ?_) ?_)
  ·exact Sz.mpr ⟨decide_eq_true Y.1,decide_eq_true Y.2⟩
  ·exact aa ((congrArg (Option.bind · λi=>(bz _)[i]?) Z).trans j) (fT _)
  ·exact aa (K.x F ⟨_,rfl⟩ _) n
 ·rename_i i
  obtain⟨c,o,rfl,j,n,r⟩:=fM F l;exact zZ F m r (aT g n)
 ·rename_i c
  cases e:av c with
  |none=>
   have d:dS av w (.bW c)=none:=e;dsimp only[jG]at g;replace g:=(d)▸g;exact g.elim
  |some o=>
   refine aP (qy f.oF F (v:=.bW c) e l) λU j P=>?_;subst j;refine zZ F m P ?_;exact aT g e
end
def vP (h:ax M A (eval q w) (λo y=>ax M A (eval z w) (λi j=>ax M A (VY q z o i) Q E j) E y) E s):ax M A (eval (.Subscript q z r) w) Q E s:=cg h λo y k=>cg (cy k) λi j p=>aN (cE p)
def GE (f:df W) (U:bf W x a h) (G:bf W x b Z):
  bf W x (.Subscript a b o) (λl c q=>(h l c q).C λv q=>(Z l c q).C λu q=>jG av v u q):=λL k p q s F Q E g=>vP ((U L k p q s F).am g λT z y a Y J j M r m=>((G y k p z _ (F.aD j r)).am m λD n i b K P w C t d=>(GC f t (M.RA w.cY) C Q E d)))
section
def sR (l:List y) (q z):fB l q z=(l.drop q).take (z-q):=by
 unfold fB;exact List.drop_take
def sS (h:ji d n v=Sn m) (r:VR q v y):∃o,IsPart y o/\o.elim d (Wz n)=m:=by
 set_option tactic.hygienic true in induction v using V.casesOn<;>first|exact aG h|exact bv h|(cases h;done)|skip
 ·replace h:=Sv h;subst h;obtain rfl:y=_:=r;exact⟨none,.none,rfl⟩
 ·rename_i k
  change(if k.natAbs<2^60 then Sn _ else none)=Sn m at h;by_cases c:k.natAbs<2^60
  ·rw[if_pos c]at h
   obtain⟨t,rfl⟩:=r;exact⟨Sn _,.int _ _,Sv h⟩
  ·rw[if_neg c]at h;exact aG h
def dt.RD (h:dt l) (q z):dt (fB l q z):=by
 refine⟨Sq ?_ h.1,λc m=>h.2 c ?_⟩
 ·exact aa (aa (Sq (Nat.sub_le _ _) (Xh _ _)) U8) Xi
 ·unfold fB at m;exact Wu (Wv m)
def GF (l) (q z):((bz l).toList.drop q).take (z-q)=(fB l q z).map UInt8.ofNat:=by
 refine aa (aa ?_ X3) (sR _ _ _);simp[bz]
def GH (b) (t) (a) (u):
  Meets («bytes.__getitem__» ⟨[.bytes b t,.ref a],[]⟩) (λy R s=>s.heap.IsSliceOf a .none .none (.int (-1) u)/\b.size<=Vy/\∀d k,R (.ok (.ret (.bytes b.toList.reverse.toArray d))) {s with toks:=k}):=by
 refine .of_wp λz w A R s v=>?_;refine aQ λG n=>?_;obtain⟨⟨o,j,i,p⟩,g,h⟩:=v;have m:s.TypeIs (.ref a) "slice":=⟨o,j,i⟩
 refine n ?_;have Q:Bytes.sliced b ((b.size:Int)-1) (-1) (-1)=b.toList.reverse.toArray:=by
  unfold Bytes.sliced;refine aa ?_ (krv_sliceRange _);refine aa ?_ (krv_range _)
  congr 1
  refine aa ?_ List.filterMap_reverse;exact aa rfl (krv_all _)
 show Tg _ _ _ _ _ s;refine Sw (Tc rfl ?_);show Tg _ _ (Bytes.subscript? (.ref a)>>=λr=>_) _ _ s;refine Sw ?_;refine Sw (U2 m slice_no_index (SU ?_));refine Sw (wpAny_typeOf m ?_);refine Sw ?_;refine Sw (Ua (x:=.int (-1) u) j p rfl ?_)
 open KBy in kby_int
 refine wpAny_ite (KBy.ite_no (show¬_ by decide) ?_);refine Sw (Ua (x:=.none) j p rfl ?_)
 kby_none
 refine Sw (Ua (x:=.none) j p rfl ?_)
 kby_none
 refine SU ?_;have Z:Tg (Tt z w) A.in1 _ (λr c=>r=_/\c=s) (λy y=>False) s:=
  Tc (sliceIndices_raw none none (Sn (-1)) b.size (by decide)) ⟨krv_bounds _,rfl⟩
 refine Sw (Wt Z (λr c Y=>?_) λy y e=>e.elim);obtain⟨l,f⟩:=Y;subst l f;refine wpAny_ite (KBy.ite_no ?_ ?_)
 ·intro q
  simp only[T3,beq_iff_eq]at q;have:=q.1.1.2;revert this;decide
 ·dsimp only
  refine aa ?_ Q;exact Sw (wpAny_mkBytes (SU ⟨_,rfl,h _ _⟩) (by simpa using g))
section
def z0 {k:Nat->Nat->R V} (g:db W j y s (match a,b with|some q,Sn z=>k q z|_,_=>.ak) Q E):∃q z,a=Sn q/\b=Sn z/\db W j y s (k q z) Q E:=by
 induction a using Tr with
 |none=>exact g.elim
 |some q=>induction b using Tr with
  |none=>exact g.elim
  |some z=>exact⟨q,z,rfl,rfl,g⟩
def GI (f:df W) (F:aR W D q J s.heap) (C:VR q Y a) (B:VR q I l) (ru:VR q H u) (g:db W D q s (gx Y I H J) Q E):
  Tg W.b A (VY x w a (.ref s.heap.objs.size)) Q E {s with heap:=s.heap.push {cls:=.type "slice",data:=.fields #[l,u,.none]}}:=by
 have k:∀b o,s.heap.get? b=Sn o->(s.heap.push {cls:=.type "slice",data:=.fields #[l,u,.none]}).get? b=o:=λζ ζ e=>SK _ e;have U:=F.RA k;have z:=g.RB (y:=s.toks) (ck.RA k)
 set_option tactic.hygienic true in induction Y using V.casesOn<;>first|exact S9 g|skip
 ·rename_i b
  refine ec (z0 z) λp Z e1 T z=>?_
  ·refine aQ λG P=>?_
   obtain⟨ok,t,rfl⟩:=C;refine aP (sS e1 B) λm j h=>?_;refine aP (sS T ru) λd N M=>?_;refine P ?_;refine kX (Uc _ _ _) UE.lookup (getItem_meets (Uc _ _ _) rfl UE V5 (VW _ _) (KBc.meets_slice2 (bz b) t _ j N)
    ⟨V2 _ _ _ _,Sq (KBc.size_picked_le _ _ _) (by refine aa (aa ?_ TO) (fT _);exact j3 ok.1),λt' k=>?_⟩)
   have L:KBy.picked (bz b) m d=bz (fB b p Z):=by
    refine aa (aa ?_ (fT _)) (KBc.picked_eq _ _ _);refine aS ?_ M h;refine aa ?_ (GF _ _ _);rfl
   exact aa (z.x U ⟨ok.RD _ _,_,rfl⟩ k) L
 ·rename_i i
  obtain⟨c,o,rfl,e1,T,r⟩:=fM U C;dsimp only[gx]at z;rw[T]at z
  set_option tactic.hygienic true in induction o using O.casesOn<;>first|exact S9 z|skip
  rename_i xs;dsimp only at z;refine ec (z0 z) λp Z e3 e4 z=>?_
  ·refine aQ λG P=>?_
   obtain⟨K,n,rs,hl,il⟩:=r;refine aP (sS e3 B) λm j h=>?_;refine aP (sS e4 ru) λd N M=>?_;have y:=rs.bd;refine P ?_;refine kX ⟨_,il,rfl⟩ Ya.lookup (wpAny_getItem_list_slice (fm.b il) (V2 _ _ _ _) j N .none (by decide) ?_ (by refine aa (aa (aa ?_ TO) y) T4;exact j3 (by assumption)));have L:slicePick K.toArray m d none=(fB K p Z).toArray:=by
    refine aS ?_ (sR _ _ _) (slicePick_plain _ _ _);simp only[T4,y,h,M]
   refine aa ?_ L;refine z.B U ⟨fB K p Z,0,((rs.C Z).t p).RA (TJ _ _),?_,fv _ _ rfl⟩;unfold fB;refine aa (aa ?_ U8) Xi;exact Sq (Nat.sub_le _ _) (Sq (Xh _ _) (by assumption))
set_option tactic.hygienic true in
def GJ (f:df W) (F:aR W r y p s.heap) (l:VR y j a) (g:db W r y s (uF j p) Q E):
  Tg W.b A (VY q z a (.ref s.heap.objs.size)) Q E {s with heap:=s.heap.push {cls:=.type "slice",data:=.fields #[.none,.none,.int (-1) u]}}:=by
 have k:∀b o,s.heap.get? b=Sn o->(s.heap.push {cls:=.type "slice",data:=.fields #[.none,.none,.int (-1) u]}).get? b=o:=λd d e=>SK _ e;have v:=F.RA k;have n:=g.RB (y:=s.toks) (ck.RA k);induction j using V.casesOn<;>first|exact S9 g|skip
 refine aQ λG i=>?_;rename_i b;obtain⟨w,t,rfl⟩:=l;refine i ?_;refine kX (Uc _ _ _) UE.lookup (getItem_meets (Uc _ _ _) rfl UE V5 (VW _ _) (GH (bz b) t _ u)
  ⟨V2 _ _ _ _,by have:=w.1;exact aS (a5 (by assumption) rfl) TO (fT _),λh k=>?_⟩)
 have x:(bz b).toList.reverse.toArray=bz b.reverse:=by simp[bz]
 exact aa (n.x v ⟨⟨by simpa using w.1,λc m=>w.2 c (by simpa using m)⟩,_,rfl⟩ k) x
end
def vQ (W:bk) (x:c7) (e:Option TQ) (f:dk):Prop:=
 ∀ρ loc be σ s,cn W x ρ loc be σ s.heap->fX W x.bO x.bD ρ s (valueOrNone (evalOpt e x.aK)) (f loc be σ)
abbrev vR (W:bk) (x:c7) (S:V->V->V->List O->R V):Prop:=∀{value slice:TQ} {ρ:List S7} {σ:List O} {s:Tf} {va vl vu:V} {a l u:SV} {Q:SV->Tf->Prop} {E:SV->Tf->Prop},aR W x.bD ρ σ s.heap->VR ρ va a->VR ρ vl l->VR ρ vu u->db W x.bD ρ s (S va vl vu σ) Q E->
  Tg W.b x.bO (VY value slice a (.ref s.heap.objs.size)) Q E {s with heap:=s.heap.push {cls:=.type "slice",data:=.fields #[l,u,.none]}}
def z5 {S} (h:vR W x S) (ha:bf W x a f) (hl:vQ W x l m) (hu:vQ W x u e):
  bf W x (.Subscript a (.Slice l u none p) j) (λw c I=>(f w c I).C λv I=>(m w c I).C λy I=>(e w c I).C λz I=>S v y z I):=by
 intro ρ K L I s F Q E g;refine vP ((ha ρ K L I s F).am g λva M N a t d P ra Y Z=>?_);have J:=F.aD P Y;exact aN ((hl N K L M _ J).am Z λvl T U l o b G rl A B=>(aN (cy ((hu U K L T _ (J.aD G A)).am B λvu k r u n i H ru D q=>(aN (cy (bb (.B (UZ (.B (h D ((ra.RA G.cY).RA H.cY) (rl.RA H.cY) ru q)))))))))))
def GK (f:df W) (n:bf W x a t):
  bf W x (.Subscript a (.Slice none none (Sn (.UnaryOp .USub (.Constant (.int 1) k j) b)) p) w) (λi c q=>(t i c q).C λv q=>uF v q):=λh r u q s F Q E g=>vP ((n h r u q s F).am g λY l m a d o e Z z y=>(aN (bb (aN (cy (bb (aN (cy (vq (.B (XU (.B (PyProof.Rows.neg_int (.B (UZ (.B (GJ f z Z y)))))))))))))))))
end
section
section
def sT {z} {R} (p:VB WE z=Sn b) (r:jp.contains z=Su) (h:ax (Tt q w) (A.under (.builtin z args)) (b args) (λj y=>match j with| .done f=>R (.ok f) y| .again k=>k.quiet=Sp/\iR k=Su/\dj (Tt q w) A k R y) (λe y=>R (.error e) y) s):
  dj (Tt q w) A (.builtin z args) R s:=by
 refine gE r ?_;show ax _ _ (match VB WE z with|some b=>b args|none=>unsupported _) _ _ s;exact aa h p
def vT {T y} (h:Slot T name y) (r:s.TypeIs self T) (u:VB WE y=Sn b) (g:W' y ⟨self::q,[]⟩) (k:jp.contains y=Su) (l:ax (Tt z w) A.in1 (b ⟨self::q,[]⟩) (λj p=>∃v,j=.done (.ret v)/\Q v p) E s):ax (Tt z w) A (Uv (.builtin y) (self::q)) Q E s:=by
 refine lX (gE rfl ?_);refine bT (h.check _ _ _ _ _ _ _ _ r g ?_);refine bb ⟨plainId_quiet h.plain _,k,sT u k ?_⟩;refine aa ?_ (Around.under_plainId h.plain _);refine gC l (λj p f=>?_) λm m x=>x;refine aP f λv e0 c=>?_;subst e0;exact c
def GL {T z} (j:s.TypeIs self T) (h:Slot T name z) (k:ax (Tt q w) A (Uv (.builtin z) (self::args) y) (λv=>Q v) E s):ax (Tt q w) A (callSpecial? self name args y) Q E s:=by
 refine bT (U2 j h.lookup ?_);dsimp only;exact aa (cy (aN (bb (cg k λv r p=>bb p)))) (h.bind _)
def Aa {T} (p:TypeCalled T j q) (b:checkTypeCall T ⟨args,[]⟩=T8 ()) (u:VB WE q=Sn Z) (W:jp.contains q=Su) (m:Ye (Tt k w) A.in1 (.call (.builtin j) ⟨.type T::args,[]⟩) (wants g E) s) (l:∀z y,g z y->y.TypeIs z T/\W' q ⟨z::args,[]⟩/\ax (Tt k w) A.in1.in1 (Z ⟨z::args,[]⟩) (λt Y=>t=.done (.ret .none)/\Q z Y) E y):
  ax (Tt k w) A (Uv (.type T) args) Q E s:=by
 refine pU p.mro λc C d=>?_;refine lX (gE (by rfl) ?_);have J:jp.contains "type.__call__"=Su:=by decide+kernel
 refine bb ⟨WT _ (by decide+kernel),J,sT F.entry_type_call J ?_⟩;unfold «type.__call__»;dsimp only;refine aa (aa ?_ (if_neg (by decide))) p.notType;refine aa ?_ (if_neg (by rw[p.canCreate];decide));refine bT (Tc b ?_);refine bT (Tc d ?_);refine bT (Tc p.made ?_);refine aN (bb ?_);refine aN (cy (.B (wpAny_call (codeAny_mono m λr y v=>?_))));cases r with
 |error e=>exact v
 |ok U=>
  cases U with
  |ret z=>
   refine j4 (l _ _ v) λn i a=>?_;have G:=p.init.lookup;have L:=p.init.bind z;refine bT (Ym n p.sub ?_);refine aa ?_ (if_neg (by decide));refine aN (cy (GL n p.init (vT p.init n u i W (gC a (λt Y h=>?_) λM M x=>x))));obtain⟨rfl,h⟩:=h;exact⟨_,rfl,bb h⟩
  |_=>exact v.elim
end
namespace fN
def Ab:VB WE "bytearray.__init__"=Builtin.«bytearray.__init__»:=VO (by kernel_rfl)
def Ac:mroOf (.type "bytearray")=T8 [.type "bytearray",.type "object"]:=by refine aa ?_ (mroOf_type _);kernel_rfl
def vU:isSubtype (.type "bytearray") (.type "bytearray")=T8 Sp:=by refine aa ?_ (UX _ _);kernel_rfl
def Ad:TypeCalled "bytearray" "bytearray.__new__" "bytearray.__init__":=
 ⟨by decide+kernel,by decide+kernel,⟨_,_,Ac⟩,madeBy_type Ac (by refine aS ?_ TG (T5 _ _);kernel_rfl) (by decide+kernel),by decide+kernel,vU,(.of (owner:="bytearray") (n:="__init__") (by refine aS ?_ TG (T5 _ _);kernel_rfl) (by decide+kernel) (by decide+kernel) (by decide+kernel)
   (by first|exact .inl (by decide+kernel)|exact .inr (by decide+kernel)) (by refine aa ?_ (UX _ _);kernel_rfl))⟩
def GM {q} (z:WE q=none) (y:q.cutAt '#'=[q]) (j:Manifest.canonical (q.map λc=>if c.isAlphanum||c=='_'||c=='.' then c else '_')++""=c) (w:WE c=Sn b):VB WE q=b:=by
 delta VB;dsimp only;rewrite[z];dsimp only;rewrite[y];dsimp only;rewrite[j,w];rfl
def GN:VB WE "bytearray.__new__"=Builtin.«list.__new__»:=
 GM (c:="list.__new__") (by rewrite[table_eq_fast];kernel_rfl) (by decide+kernel) (by decide+kernel) (by rewrite[table_eq_fast];kernel_rfl)
set_option maxRecDepth 1000000 in
set_option maxHeartbeats 4000000 in
def GO:("bytearray.__new__".splitOn ".__new__").headD ""="bytearray":=by simp+decide [String.splitOn,String.splitOnAux]
def GQ:Wr (.type "bytearray") "__release_buffer__"=T8 (Sn (.builtin "bytearray.__release_buffer__")):=by refine aS ?_ TG (T5 _ _);kernel_rfl
def vV:Wr (.type "bytearray") "__buffer__"=T8 (Sn (.builtin "bytearray.__buffer__")):=by refine aS ?_ TG (T5 _ _);kernel_rfl
def GR:Bytes.bindOptional "bytearray.__init__" "bytearray" ["source","encoding","errors"] [] []=T8 [none,none,none]:=by kernel_rfl
def GT (v):Bytes.bindOptional "bytearray.__init__" "bytearray" ["source","encoding","errors"] [v] []=T8 [Sn v,none,none]:=by kernel_rfl
def ke:PlainAttrs "bytearray":=
 ⟨⟨"bytearray.__getattribute__",by refine aS ?_ TG (T5 _ _);kernel_rfl,by decide+kernel⟩,by refine aS ?_ TG (T5 _ _);kernel_rfl⟩
def Ae:Slot "bytearray" "append" "bytearray.append":=
 .of (owner:="bytearray") (n:="append") (by refine aS ?_ TG (T5 _ _);kernel_rfl) (by decide+kernel) (by decide+kernel) (by decide+kernel)
  (by first|exact .inl (by decide+kernel)|exact .inr (by decide+kernel)) (by refine aa ?_ (UX _ _);kernel_rfl)
def GU:VB WE "bytearray.append"=Builtin.«bytearray.append»:=VO (by kernel_rfl)
def Af:Slot "bytearray" "extend" "bytearray.extend":=
 .of (owner:="bytearray") (n:="extend") (by refine aS ?_ TG (T5 _ _);kernel_rfl) (by decide+kernel) (by decide+kernel) (by decide+kernel)
  (by first|exact .inl (by decide+kernel)|exact .inr (by decide+kernel)) (by refine aa ?_ (UX _ _);kernel_rfl)
def GV:VB WE "bytearray.extend"=Builtin.«bytearray.extend»:=VO (by kernel_rfl)
end fN
end
section
def aR.RG (F:aR W v z d h) (x:z[i]?=Sn a) (Q:h.get? a=Sn s) (p:∀Z,s.data≠.fields Z) (k:∀b,b≠a->y.get? b=h.get? b) (r:OR W z y a o):
  aR W v z (d.set i o) y/\ck W z z h y:=by
 have w:=Th x;have j:∀b o,b≠a->h.get? b=Sn o->y.get? b=o:=λb o n e=>(k b n).trans e;have u:∀g q,h.CodeRec g q->y.CodeRec g q:=λg q c=>c.keepsBut j Q p;refine⟨⟨(by
  refine⟨by simp[F.cH.bd],F.cH.m5,F.cH.m6,λU G M C E=>?_⟩;by_cases T:i=U
  ·subst T
   rw[x]at E;replace E:=Sv E;subst E;rw[Vq]at C;cases D:d[i]? with
   |none=>rw[D]at C;exact aG C
   |some T=>rw[D]at C;replace C:=Sv C;subst C;exact r
  ·rw[Ti T]at C
   refine(F.cH.dS U G M C E).fU ((λb l n=>k b n) M (Th E) λB=>T ?_) u;subst B;have N:=SO.mp E;have I:=SO.mp x;exact(Xg F.cH.m5).mp (I.2.trans N.2.symm)
),λb o e=>?_,?_,F.iB,F.eS.fV (λt Y o e=>?_) u,F.jq⟩,VA _,λl m=>.inl m,λb o e J l=>?_,λb o e=>?_,u⟩
 ·refine j _ _ (λq=>?_) (F.bn b o e)
  subst q;rw[F.cH.m6 _ w]at e;exact aG e
 ·exact vx F.eA λf K L o P e=>⟨o,j _ _ (λq=>(F.iB f K L P).1 (q▸w)) e,rfl⟩
 ·exact j _ _ (λq=>F.jq t Y (q▸w)) e
 ·exact⟨o.slots,j _ _ (λq=>J (q▸w)) e,λl=>rfl⟩
 ·by_cases q:b=a
  ·subst q;exact r.RE
  ·exact⟨o,j _ _ q e⟩
def bL.D (g:db W p q s (.aj v (j.set i o)) Q E) (F:aR W p q j s.heap) (u:q[i]?=Sn a) (l:s.heap.get? a=Sn w) (y:∀m,w.data≠.fields m) (r:OR W q (s.heap.update a f) a o) (c:VR q v z):Q z {s with heap:=s.heap.update a f,toks:=k}:=
 let⟨G,e⟩:=F.RG u l y (λb n=>TL _ _ (UC n)) r
 g q z _ k e c G
noncomputable abbrev eO (b:Array UInt8):Obj:={cls:=.type "bytearray",data:=.bytearray b}
section
def Ag {name T:String} (y:s.heap.get? a=Sn (eO b)) (j:Wr (.type "bytearray") name=T8 (Sn (.builtin T))) (k:T.endsWith ("."++name)=Sp) (p:T.dropRight (name.length+1)="bytearray") (h:Q Sp s):
  Tg (Tt q w) A (Bytes.slotIsOwn (.ref a) name) Q E s:=by
 have z:s.TypeIs (.ref a) "bytearray":=⟨_,y,rfl⟩
 refine Sw (U2 z j ?_);show Tg _ _ (if _=Sp then _ else isInstance (.ref a) _) _ _ _;exact aS (Ym z fN.vU h) p k
def vW (z:s.heap.get? a=Sn (eO b)) (h:Q Su s):Tg (Tt q w) A (Bytes.ownRelease (.ref a)) Q E s:=Sw (Ag z fN.GQ (by decide+kernel) (by decide+kernel) (SU h))
def Ah (z:s.heap.get? a=Sn (eO b)) (h:Q b s):Tg (Tt q w) A (Bytes.payload (.ref a)) Q E s:=Sw (Sw (Ww z (SU (SU h))))
def GW {k} (y:s.heap.get? a=Sn (eO b)) (h:Q b s):Tg (Tt z w) A (Bytes.buffer? k (.ref a) q) Q E s:=by
 have j:s.TypeIs (.ref a) "bytearray":=⟨_,y,rfl⟩
 exact Sw (U2 j fN.vV (Sw (Ag y fN.vV (by decide+kernel) (by decide+kernel) (Sw (U2 j fN.vV (Sw (vW y (Sw (Ah y (SU h))))))))))
def vX (z:s.heap.get? a=Sn (eO b)) (h:Q Su s):ax (Tt q w) A (Bytes.exported (.ref a)<||>(do return(<-Bytes.exportsOf (.ref a))>0)) Q E s:=aN (Fg (.B (Sw (Sw (Ww z (SU (SU h)))))))
def Ai {q}:Bytes.takeBufferQuiet? q (.bytes c u) 0=T8 (Sn (c,none)):=by
 unfold Bytes.takeBufferQuiet? Bytes.takeBuffer?;have e:(0==Bytes.fullReadOnly)=Su:=by decide+kernel
 refine aS ?_ KBy.own_buffer (YQ KBy.look_buffer);refine aS ?_ Xe e;rfl
def Aj (z:s.heap.get? a=Sn (eO b)) (h:Q () s):ax (Tt q w) A (Bytes.checkResize (.ref a)) Q E s:=aN (vX z (bb h))
def qE (z:s.heap.get? a=Sn (eO b)) (j:(f b).size<=Vy) (h:(s.heap.update a (UQ f)).get? a=Sn (eO (f b))->Q () {s with heap:=s.heap.update a (UQ f)}):Tg (Tt q w) A (Bytes.write (.ref a) f) Q E s:=by
 refine Sw (Ww z ?_);have y:=Ur (UQ f) z rfl;exact Sw (wpAny_update z (Yn y (if_neg ((TN.mpr (by assumption)))) (h y)))
def GX (z:s.heap.get? a=Sn (eO b)) (p:0<=k) (r:k<256) (y:b.size+1<=Vy) (h:(s.heap.update a (UQ (·.push k.toNat.toUInt8))).get? a=Sn (eO (b.push k.toNat.toUInt8))->Q .none {s with heap:=s.heap.update a (UQ (·.push k.toNat.toUInt8))}):
  ax (Tt q w) A (Uv (.builtin "bytearray.append") [.ref a,.int k u]) Q E s:=by
 refine vT fN.Ae ⟨_,z,rfl⟩ fN.GU (by
  unfold W';kernel_rfl) (by decide+kernel) ?_
 refine bT (Tc rfl ?_);refine aN ?_;refine zo (decide_eq_false (by simp;exact⟨p,r⟩)) ?_;exact bb (aN (Aj z (bT (qE z (by simpa using y) λj=>(bb ⟨_,rfl,h j⟩)))))
def GY (y:s.heap.get? a=Sn (eO b)) (k:b.size+c.size<=Vy) (h:(s.heap.update a (UQ (·++c))).get? a=Sn (eO (b++c))->Q .none {s with heap:=s.heap.update a (UQ (·++c))}):
  ax (Tt z w) A (Uv (.builtin "bytearray.extend") [.ref a,.bytes c u]) Q E s:=by
 refine vT fN.Af ⟨_,y,rfl⟩ fN.GV (by
  unfold W';kernel_rfl) (by decide+kernel) ?_
 refine bT (Tc rfl ?_);refine bT (Tc (YQ KBy.look_buffer) ?_);refine aN (qq ?_);refine bT (Ah y ?_);refine bT (Tc Ai ?_);show ax _ _ (if(!c.isEmpty)=Sp then _ else _) _ _ _;have q:ax (Tt z w) A.in1 (do Bytes.write (.ref a) (·++c);ret .none) (λq p=>∃v,q=.done (.ret v)/\Q v p) E s:=
  bT (qE y (by simpa using k) λr=>bb ⟨_,rfl,h r⟩)
 by_cases j:(!c.isEmpty)=Sp
 ·exact aa (aN (Aj y q)) (if_pos j)
 ·exact aa q (if_neg j)
end
end
section
def Ak (r:checkBuiltinCall "bytearray.__new__" ⟨.type "bytearray"::q,[]⟩=T8 ()) (h:z (.ref s.heap.objs.size) {s with heap:=s.heap.push (eO #[])}):
  Ye (Tt y w) A (.call (.builtin "bytearray.__new__") ⟨.type "bytearray"::q,[]⟩) (wants z E) s:=by
 refine codeAny_of_tree ?_;refine Sw (Tc r (SU ⟨plainId_quiet (by decide+kernel) _,codeAny_builtin_stack fN.GN rfl λp u=>?_⟩));have k:=fN.vU;dsimp only;rw[fN.GO]
 wp_walk
 exact h
def GZ {q}:Bytes.buffer? q (.bytes b t) Sp=T8 (Sn b):=by
 kernel_rfl
def G5:Wr (.type "bytes") "__index__"=T8 none:=by refine aS ?_ TG (T5 _ _);kernel_rfl
def G6 (z:s.heap.get? a=Sn (eO b)) {Q:Tf->Prop} (h:(s.heap.update a (UQ λj=>#[])).get? a=Sn (eO #[])->Q {s with heap:=s.heap.update a (UQ λj=>#[])}):
  ax (Tt q w) A («bytearray.__init__» ⟨[.ref a],[]⟩) (λy k=>y=.done (.ret .none)/\Q k) E s:=by
 refine bT (vW z ?_);refine bT (Tc fN.GR ?_);dsimp only;exact bT (Tc rfl (bT (Tc rfl (aN (vX z (bT (qE z (by decide) λp=>(bb ⟨rfl,h p⟩))))))))
def G7 (z:s.heap.get? a=Sn (eO b)) (r:c.size<=Vy) {Q:Tf->Prop} (h:∀y,(∀o,o≠a->y.get? o=s.heap.get? o)->y.get? a=Sn (eO c)->Q {s with heap:=y}):
  ax (Tt q w) A («bytearray.__init__» ⟨[.ref a,.bytes c u],[]⟩) (λj g=>j=.done (.ret .none)/\Q g) E s:=by
 refine bT (vW z ?_);refine bT (Tc (fN.GT _) ?_);refine bT (Tc rfl ?_);refine bT (Tc rfl ?_);refine aN (vX z ?_);refine bT (qE z (by decide) λl=>?_);exact bT (Tc rfl (bT (Tc rfl (bT (Tc (YQ G5) (bT (Tc GZ (aN (qq (bT (qE l r λk=>(bb ⟨rfl,(h _ (λo p=>(TL _ _ (UC p)).trans (TL _ _ (UC p))) k)⟩))))))))))))
def G8:Wr (.type "bytearray") "__bytes__"=T8 none:=by refine aS ?_ TG (T5 _ _);kernel_rfl
def G9:Wr (.type "bytearray") "__index__"=T8 none:=by refine aS ?_ TG (T5 _ _);kernel_rfl
def Ha (z:s.heap.get? a=Sn (eO b)) (j:b.size<=Vy) (p:∀t k,Q (.bytes b t) {s with toks:=k}):
  Ye (Tt q w) A (.call (.builtin "bytes.__new__") ⟨[.type "bytes",.ref a],[]⟩) (wants Q E) s:=by
 refine codeAny_of_tree ?_;refine Sw (Tc (F.bm_newCall _) (SU ⟨plainId_quiet F.bm_plain _,codeAny_builtin F.bm_entry ?_⟩));have y:s.TypeIs (.ref a) "bytearray":=⟨_,z,rfl⟩
 refine Sw (Tc rfl ?_);refine Sw (Tc F.bm_sub ?_);refine Sw (Tc (F.bm_bind _) ?_);refine Sw (Tc rfl ?_);refine Sw (Tc rfl ?_);refine Sw (U2 y G8 ?_);refine Sw (Sw ?_);refine Sw (Ww z ?_);refine SU (SU ?_);refine bm_if_false rfl ?_;refine Sw (U2 y G9 ?_);refine bm_if_true rfl ?_;refine Sw (GW z ?_);refine Sw (Xs ?_);refine Sw (wpAny_mkBytes ?_ j);refine bm_if_true rfl ?_
 first
  |exact SU (p _ _)
  |exact wpAny_bind _
def Hb (p:s.heap.get? a=Sn (eO b)) (r:b.size<=Vy) (u:∀t k,Q (.bytes b t) {s with toks:=k}):Tg (Tt j w) A (Uv (.type "bytes") [.ref a]) Q E s:=callType_codes (Q₁:=λy q=>q.TypeIs y "bytes"/\Q y q) F.bm_called (F.bm_typeCall _) F.entry_object_init (Ha p r λt k=>⟨PySem.W.typeIs_bytes _ _ _,u t k⟩) λy q z=>⟨z.1,F.args_object_init_2 y _,object_init_meets F.bm_called.init.lookup F.bm_called.made rfl j w A.in1 _ q ⟨z.1,rfl,z.2⟩⟩
def Hc (r:∀j,(∀b o,s.heap.get? b=Sn o->j.get? b=Sn o)->j.get? s.heap.objs.size=Sn (eO #[])->Q (.ref s.heap.objs.size) {s with heap:=j}):
  ax (Tt z w) A (Uv (.type "bytearray") []) Q E s:=by
 refine Aa (g:=λy q=>y=.ref s.heap.objs.size/\q={s with heap:=s.heap.push (eO #[])}) fN.Ad (by kernel_rfl) fN.Ab (by decide+kernel) (Ak (by kernel_rfl) ⟨rfl,rfl⟩) ?_;rintro y q ⟨rfl,rfl⟩;have p:(s.heap.push (eO #[])).get? s.heap.objs.size=(eO #[]):=fv _ _ rfl;exact⟨⟨_,p,rfl⟩,(by
  unfold W';kernel_rfl),G6 p λu=>r _ (λb o e=>((TL _ _ ((SQ (Uk e)).symm)).trans (SK _ e))) u⟩
def Hd (g:c.size<=Vy) (l:∀j,(∀b o,s.heap.get? b=Sn o->j.get? b=Sn o)->j.get? s.heap.objs.size=Sn (eO c)->Q (.ref s.heap.objs.size) {s with heap:=j}):
  ax (Tt z w) A (Uv (.type "bytearray") [.bytes c u]) Q E s:=by
 refine Aa (g:=λy q=>y=.ref s.heap.objs.size/\q={s with heap:=s.heap.push (eO #[])}) fN.Ad (by kernel_rfl) fN.Ab (by decide+kernel) (Ak (by kernel_rfl) ⟨rfl,rfl⟩) ?_;rintro y q ⟨rfl,rfl⟩;have r:(s.heap.push (eO #[])).get? s.heap.objs.size=(eO #[]):=fv _ _ rfl;exact⟨⟨_,r,rfl⟩,(by
  unfold W';kernel_rfl),G7 r g λj k f=>l _ (λb o e=>((k b (UC ((SQ (Uk e)).symm))).trans (SK _ e))) f⟩
end
section
end
def He (o:x.n W d u) (f:df W) (j:b8 x.bq (au "bytes")=Sn .globalImplicit) (w:bf W x a y) (k:cD a=Sp):
  bf W x (.Call (.Name (au "bytes") p) [a] [] z) (λl c q=>(y l c q).C λv q=>u1 av .ag v q):=
 oO o f j (by decide) PyProof.Rows.Boot.«bytes» (.ed _) w k λg q s v m F r=>by
  intro Q E g;induction v using V.casesOn<;>first|exact S9 g|skip
  obtain⟨b,o,j,e,w,m⟩:=fM F r;dsimp only[u1]at g;rw[w]at g;induction o using O.casesOn<;>first|exact S9 g|skip
  ·dsimp only at g
   cases h:iw _ with
   |none=>replace g:=h▸g;exact g.elim
   |some l=>rw[h]at g;exact Gy f o.fL F w (aa r j) h Q E g
  ·subst j
   obtain⟨p,c⟩:=m;refine .B (Hb c (by have:=p.1;refine aa ?_ (fT _);exact a5 (by assumption) rfl) λt k=>?_);exact g.x F ⟨p,t,rfl⟩ k
def Hf (o:x.n W d u) (f:df W) (j:b8 x.bq (au "bytearray")=Sn .globalImplicit) (w:bf W x a y) (k:cD a=Sp):
  bf W x (.Call (.Name (au "bytearray") p) [a] [] z) (λl c q=>(y l c q).C λv q=>u1 av .bE v q):=
 oO o f j (by decide) PyProof.Rows.Boot.«bytearray» (.ed _) w k λg q s v m F r=>by
  intro Q E g;induction v using V.casesOn<;>first|exact S9 g|skip
  obtain⟨j,t,rfl⟩:=r;refine Hd (by have:=j.1;refine aa ?_ (fT _);exact a5 (by assumption) rfl) λw k e=>?_;exact g.C F k (Tj (SJ _)) ⟨j,e⟩
def Hg (o:x.n W d u) (f:df W) (e:b8 x.bq (au "bytearray")=Sn .globalImplicit):bf W x (.Call (.Name (au "bytearray") p) [] [] q) (λl c z=>ea (.bE []) z):=by
 intro m y j z s F;have:=zW (p:=p) (m:=q) (k:=λw z=>match w with|[]=>ea (.bE []) z|_=>.ak) o f e (by decide) PyProof.Rows.Boot.«bytearray» (.ed _) .ao (by decide) (λm z s w t F r=>by
  induction w using SD with
  |nil=>cases L2.ao r;exact λQ E g=>Hc λj k e=>(g.C F k (Tj (SJ _)) ⟨⟨(S6 _),by decide⟩,e⟩)
  |cons=>exact λQ E g=>g.elim) m y j z s F
 exact this
def Al (q:dt a) (z:dt b):(bz a==bz b)=(a==b):=by
 refine aT ?_ (sJ q z);rewrite[Vl];rewrite[beq_iff_eq];rewrite[beq_iff_eq];exact⟨λe=>aa rfl e,λe=>Array.toList_inj.mp e⟩
def Am (l) (i j):(bz l).extract i j=bz (fB l i j):=by
 simp[bz,sR,X3,List.map_drop]
def Hh:∀l k,j1 [c] k l=((Te l.length).map (·+k)).find? λi=>l[i-k]?==c:=by
 intro Q;induction Q with
 |nil=>intro k;exact rfl
 |cons d r IH=>
  intro k;rewrite[Eg];refine aa (aa ?_ W9) TS;refine aa (aa ?_ Xu) Tz;have z:((d::r)[0+k-k]?==c)=(c==d):=by
   simp only[Ud,Uw,List.getElem?_cons_zero];by_cases h:c=d
   ·subst h;exact rfl
   ·have:(Sn d==c)=Su:=by simpa using λe=>h e.symm
    refine aa ?_ this;simpa using h
  have q:[c].isPrefixOf (d::r)=(c==d):=(Xd _)
  refine aS ?_ q z;by_cases h:(c==d)=Sp
  ·refine aa (aa ?_ h) (if_pos h);simp
  ·refine aa ?_ (if_neg h)
   have y:(c==d)=Su:=by simpa using h
   refine pL ?_ Tp (IH (k+1)) y;dsimp only;have j:(λx=>x+k)∘Nat.succ=λx=>x+(k+1):=by funext i;simp;exact Un _ _ _
   refine aS ?_ XH j;refine aa ?_ XH;have w:((λi=>r[i-(k+1)]?==c)∘λx=>x+(k+1))=((λi=>(d::r)[i-k]?==c)∘λx=>x+(k+1)):=by
    funext i
    have p:i+(k+1)-k=i+1:=(congrArg (·-k) (Un i k 1)).trans (VF _ _);simp only[Function.comp,(VF _ _),p,Vp]
   exact aa rfl w
def Hi {c:Nat} (h:i<l.length):(fB l i (i+1)==[c])=(l[i]?==c):=by
 have e:fB l i (i+1)=[l[i]]:=by
  refine aa (aa ?_ (show i+1-i=1 by simp)) (sR _ _ _);refine aa ?_ (List.drop_eq_getElem_cons h);rfl
 refine aS ?_ (S0 h) e;by_cases q:l[i]=c
 ·subst q;exact(Xd _)
 ·have z:([l[i]]==[c])=Su:=by simpa using q
  have y:(Sn l[i]==c)=Su:=by simpa using q
  exact aa y.symm z
def Hj (y:dt l) (j:c<256) (g:k<=l.length):YM (bz l) (bz [c]) k (bz l).size=j1 [c] k (l.drop k):=by
 unfold YM;refine aa (aa ?_ Xi) (Hh _ _);have z:(bz l).size+1-(k+(bz [c]).size)=l.length-k:=by simp
 refine aS ?_ z XH;refine aa ?_ XH
 congr 1
 have f:(bz [c]).size=1:=by rfl
 have q:∀i∈Te (l.length-k),((λi=>(bz l).extract i (i+1)==bz [c])∘λx=>x+k) i=((λi=>(l.drop k)[i-k]?==c)∘λx=>x+k) i:=by
  intro i m;have p:i+k<l.length:=Nat.add_lt_of_lt_sub (UD.mp m);simp only[Function.comp,VF,V3];exact aa (aa (aa (aa rfl (TH _ _)) (Hi p)) (Al (y.RD _ _) ⟨by simp,by simpa using j⟩)) (Am _ _ _)
 generalize Te _=r at q;clear z;induction r with
 |nil=>rfl
 |cons a r u=>
  refine aS ?_ Xu Xu;exact aS rfl (u λi m=>q i (.tail _ m)) (q a (.head _))
def Hk (z:dt l) (y:dt p):(if((bz l).size:Int)-0<(bz p).size then Su else(bz l).extract (0:Int).toNat ((0:Int).toNat+(bz p).size)==bz p)=p.isPrefixOf l:=by
 have e:(0:Int).toNat=0:=rfl;simp only[fT,e,Ud];refine aa (aa ?_ (Al (z.RD _ _) y)) (Am _ _ _);by_cases h:(l.length:Int)-0<p.length
 ·refine aa ?_ (if_pos h)
  symm
  rewrite[Bool.eq_false_iff];intro q;have:=(X4.mp q).length_le;rw[Yo]at h;exact V4.mpr (T7.mpr this) h
 ·refine aa ?_ (if_neg h);rewrite[Vl];rewrite[beq_iff_eq];rewrite[X4]
  exact⟨λe=>List.prefix_iff_eq_take.mpr e.symm,λq=>(List.prefix_iff_eq_take.mp q).symm⟩
namespace iC
def sU:Slot "bytes" "find" "bytes.find":=
 .of (owner:="bytes") (n:="find") (by refine aS ?_ TG (T5 _ _);kernel_rfl) (by decide+kernel) (by decide+kernel) (by decide+kernel)
  (by first|exact .inl (by decide+kernel)|exact .inr (by decide+kernel)) (by refine aa ?_ (UX _ _);kernel_rfl)
def An:typeOf (.builtin "bytes.find")=T8 (.type "method_descriptor"):=by show builtinType _=_;kernel_rfl
def Ao:VB WE "bytes.find"=Builtin.«bytes.find»:=VO (by kernel_rfl)
def Ap:Slot "bytes" "join" "bytes.join":=
 .of (owner:="bytes") (n:="join") (by refine aS ?_ TG (T5 _ _);kernel_rfl) (by decide+kernel) (by decide+kernel) (by decide+kernel)
  (by first|exact .inl (by decide+kernel)|exact .inr (by decide+kernel)) (by refine aa ?_ (UX _ _);kernel_rfl)
def Hl:VB WE "bytes.join"=Builtin.«bytes.join»:=VO (by kernel_rfl)
def ke:PlainAttrs "bytes":=
 ⟨⟨"bytes.__getattribute__",by refine aS ?_ TG (T5 _ _);kernel_rfl,by decide+kernel⟩,by refine aS ?_ TG (T5 _ _);kernel_rfl⟩
def Hm:isSubtype (.type "bytes") (.type "tuple")=T8 Su:=by refine aa ?_ (UX _ _);kernel_rfl
end iC
section
def Hn (z:dt l) (y:dt p) (h:Q (.bool (p.isPrefixOf l)) s):
  Tg (Tt q w) A (Uv (.builtin "bytes.startswith") [.bytes (bz l) t,.bytes (bz p) u]) Q E s:=by
 refine Uy FB.slot_bytes_startswith (Uc _ _ _) FB.entry_bytes_startswith ?_ (FB.args_bytes_startswith_2 _ _);refine Sw (Tc rfl ?_);refine Sw (Tc rfl ?_);refine Sw (Tc rfl ?_);refine Sw (Tc rfl ?_);refine Sw (Ym (Uc _ _ _) iC.Hm ?_);refine Sw (Tc Xe ?_);refine SU ⟨_,rfl,?_⟩;have k:min ((bz l).size:Int) _=(bz l).size:=Yp _;show Q (.bool (if(Wa (bz l).size none none).2-(Wa (bz l).size none none).1<(bz p).size then Su else if Su=Sp then _ else(bz l).extract (Wa (bz l).size none none).1.toNat _==bz p)) s
 have j:Wa (bz l).size none none=(0,((bz l).size:Int)):=by
  unfold Wa;simp;rw[if_neg (V4.mpr (TA _)),Yp]
 refine aa ?_ j;rewrite[if_neg (c:=Su=Sp) (by decide)];exact aa h (Hk z y)
def Aq {u} (m:dt l) (t:c<256) (f:k<=l.length) (d:u=(k:Int)) (o:g=((bz l).size:Int)) (h:∀b,Q (.done (.ret (.int (gy l [c] k) b))) {s with toks:=s.toks+1}):
  Tg (Tt z w) A (do
   match(if g-u<(bz [c]).size then none else Sn (u.toNat,g.toNat):Option (Nat×Nat)).bind λx=>if Su=Sp then Bytes.rfind? (bz l) (bz [c]) x.1 x.2 else YM (bz l) (bz [c]) x.1 x.2 with
   |some i=>retInt i
   |none=>
    rule s!"{Bytes.Kind.bytes.name}.find.not-found"
    if Su=Sp then raiseError "ValueError" "subsection not found" else retInt (-1)) Q E s:=by
 subst d o;have n:(k:Int).toNat=k:=rfl;have a:((bz l).size:Int).toNat=(bz l).size:=rfl;have y:∀r,r=j1 [c] k (l.drop k)->Tg (Tt z w) A (match r with
   |some i=>retInt i
   |none=>do
    rule s!"{Bytes.Kind.bytes.name}.find.not-found"
    if Su=Sp then raiseError "ValueError" "subsection not found" else retInt (-1)) Q E s:=by
  intro r v;have p:∀q,q=j1 [c] k (l.drop k)->gy l [c] k=(q.map λ(k:Nat)=>(k:Int)).getD (-1):=by
   intro q e;unfold gy;refine aT ?_ e;induction q using Tr<;>simp[f]
  have p:=p r v;induction r using Tr with
  |some i=>
   rw[p]at h;exact Sw (wpAny_mkInt (SU (h _)))
  |none=>
   replace h:=p▸h;exact Sw (Xs (Sw (wpAny_mkInt (SU (h _)))))
 by_cases j:((bz l).size)-(k:Int)<(bz [c]).size
 ·refine aa ?_ (if_pos j)
  refine y none ?_;have:l.drop k=[]:=by rewrite[List.drop_eq_nil_iff];simp at j;exact T7.mp (Int.le_of_sub_nonpos (Int.le_of_lt_add_one j))
  refine aa ?_ this;rfl
 ·refine aa ?_ (if_neg j)
  refine y _ ?_;show(if Su=Sp then Bytes.rfind? (bz l) (bz [c]) k (bz l).size else YM (bz l) (bz [c]) k (bz l).size)=_;exact aa (Hj m t f) (if_neg (by decide))
def Ho (y:dt l) (j:c<256) (h:∀z,Q (.int (gy l [c] 0) z) {s with toks:=s.toks+1}):
  Tg (Tt q w) A (Uv (.builtin "bytes.find") [.bytes (bz l) t,.bytes (bz [c]) u]) Q E s:=by
 refine Uy iC.sU (Uc _ _ _) iC.Ao ?_ (by
  unfold W';kernel_rfl)
 refine Sw (Sw (Tc rfl ?_));refine Sw (Tc rfl ?_);refine Sw (Tc rfl ?_);refine Sw (Tc Xe ?_);refine Sw (SU ?_);refine Sw (Tc rfl ?_);refine SU ?_;refine Aq y j (S6 _) ?_ ?_ λz=>⟨_,rfl,h z⟩
 ·exact rfl
 ·simp;rw[if_neg (V4.mpr (TA _)),Yp]
def Hp {k:Int} (y:dt l) (j:c<256) (r:0<=k) (g:k<=l.length) (h:∀z,Q (.int (gy l [c] k.toNat) z) {s with toks:=s.toks+1}):
  Tg (Tt q w) A (Uv (.builtin "bytes.find") [.bytes (bz l) t,.bytes (bz [c]) u,.int k v]) Q E s:=by
 refine Uy iC.sU (Uc _ _ _) iC.Ao ?_ (by
  unfold W';kernel_rfl)
 refine Sw (Sw (Tc rfl ?_));refine Sw ?_;refine Sw (U2 (typeIs_int _ _ _) F.slot_int_index.lookup ?_);refine Sw (Tc rfl (SU ?_));refine Sw (Tc rfl ?_);refine Sw (Tc Xe ?_);refine Sw (SU ?_);refine Sw (Tc rfl ?_);refine SU ?_;obtain⟨n,rfl⟩:∃n:Nat,k=n:=⟨k.toNat,(Vv r).symm⟩
 have p:n<=l.length:=T7.mp g;refine Aq y j p ?_ ?_ λz=>⟨_,rfl,h z⟩
 ·simp[Wa];exact λh=>absurd h (V4.mpr (TA _))
 ·simp[Wa];rw[if_neg (V4.mpr (TA _)),Yp]
end
def BV (l:List Nat) (v:SV):Prop:=dt l/\∃t,v=.bytes (bz l) t
noncomputable abbrev qF:List (List Nat)->List SV->Prop:=L2 BV
def L2.s {R:j->w->Prop} (z:List y):∀{q},L2 R (z.map f) q->L2 (λi v=>R (f i) v) z q:=by
 induction z with
 |nil=>intro q r;cases L2.ao r;trivial
 |cons i z k=>
  intro q r;refine ec (L2.ai r) λb q e0 h p=>?_;subst e0;exact⟨h,k p⟩
def Hq (h:ig q=Sn z) (r:bN j q y):qF z y:=by
 cases oI h;exact r.s
def vY (sep):∀r x,fp sep (x::r)=x++r.flatMap (sep++·):=by
 intro Q;induction Q with
 |nil=>intro x;exact(SY x).symm
 |cons y r IH=>intro x;rewrite[Eh];refine aa ?_ (IH y);simp
def Hr (z) (j:List (List Nat)):∀k q,0<k->
  (((j.map bz).zipIdx k).foldl (λy (p,i)=>(if i>0 then y++bz z else y)++p) q)=q++bz (j.flatMap (z++·)):=by
 induction j with
 |nil=>intro k q _;exact(Array.append_empty).symm
 |cons l j w=>
  refine λk q h=>aa ?_ Tz;refine aa ?_ List.zipIdx_cons;refine aa ?_ YG;refine aa ?_ (w (k+1) _ (T9 _));refine aa ?_ Uz;refine aa ?_ (oH _ _);refine aa ?_ (oH _ _);dsimp only;exact aa (aa (aS rfl XX XX) XX) (if_pos h)
theorem Hs (q):∀z,Bytes.joined (bz q) (z.map bz)=bz (fp q z)
 |[]=>rfl
 |l::z=>by
  unfold Bytes.joined;refine aa (aa ?_ List.zipIdx_cons) Tz;refine aa (aa ?_ (Hr q z _ _ (T9 _))) YG;refine aa ?_ (vY _ _ _);simp[oH]
def Ht (z) (q):(q.map bz).toArray.foldl (·+·.size) ((bz z).size*((q.map bz).toArray.size-1))=(fp z q).length:=by
 have h:∀(q:List (List Nat)) n,(q.map bz).foldl (·+·.size) n=n+q.flatten.length:=by
  intro q;induction q with
  |nil=>simp
  |cons l q y=>intro n;refine aa ?_ (y _);simp[TK]
 refine aa (aa ?_ (h _ _)) (List.foldl_toArray _ _ _);induction q using SD with
 |nil=>rw[show(fp z []).length=0 from rfl];rfl
 |cons l q=>
  refine aa ?_ (vY _ _ _);simp only[fT,T4,Sx,TS,VF,X',Sr];have:∀q:List (List Nat),(q.flatMap (z++·)).length=z.length*q.length+q.flatten.length:=by
   intro q;induction q with
   |nil=>rfl
   |cons a r y=>simp only[Uz,Sr,TS,X',y,WR];exact(Nat.add_add_add_comm _ _ _ _).trans (congrArg (·+_) (TH _ _))
  exact aa (Nat.add_left_comm _ _ _) (this _)
section
def Hu (u:qF k y) (h:Q () s):Tg (Tt j w) A (Bytes.joinLetGo (y.map (·,none)) z) Q E s:=
 L2.c (P:=λp y=>Tg _ A (Bytes.joinLetGo (y.map (·,none)) z) Q E s) (SU h) (λa b l m r p g=>by
  exact Sw (wpAny_letGo g)) k y u
def vZ (y:Wi s.heap a z n) (h:Q z s):Tg (Tt q w) A (seqItems? (.ref a)) Q E s:=
 XI y rfl h
def Hv (j:qF q z) (i):((z.take i).map (·,(none:Option SV))).any (λx=>x.1.onHeap)=Su:=
 zp λy m=>by
  refine cW m λv w e0=>?_;subst e0;obtain⟨l,-,-,t,e⟩:=L2.RF q ((W8 q).symm▸j) v (Wu w);subst e;rfl
def Hw {J:Nat->q} {P:Nat->k->r->Prop} (m):∀i,(∀j,j<i+m->∃x y,P j x y)->(∀j x y,P j x y->∀{Q},Q (.yield (J (j+1))) s->Tg M A (f j (J j)) Q E s)->Q (J (i+m)) s->Tg M A (forIn (YN i m) (J i) f) Q E s:=by
 induction m with
 |zero=>exact λi u u h=>SU h
 |succ m g=>
  refine λi z w h=>aa ?_ List.range'_succ;rewrite[Xv];refine aQ λG l=>?_;refine pU (z i (by simp)) λx y p=>?_;exact l (Sw (w i x y p (g (i+1) (λj c=>z j (aT c (Un i 1 m))) w (by refine aa (aa h (TH 1 m)) (TK _ _ _)))))
def Hx {q} {Q:z->Tf->Prop} (j:∀x,q=#[x]->Tg M A (f x) Q E s) (y:Tg M A (g q) Q E s):
  Tg M A (VT (λw=>Sem z) q f g) Q E s:=by
 obtain⟨l⟩:=q
 match l with
 |[]=>exact y
 |[v]=>exact j v rfl
 |v::u::r=>exact aa y (show _=WS (v::u::r)from rfl)
def Hy (m:Wi s.heap a j.toArray n) (g:qF y j) (K:(fp r y).length<=1048576) (h:∀x Z,Q (.bytes (bz (fp r y)) Z) {s with toks:=x}):
  Tg (Tt f w) A (Uv (.builtin "bytes.join") [.bytes (bz r) t,.ref a]) Q E s:=by
 refine Uy iC.Ap (Uc _ _ _) iC.Hl ?_ (by
  unfold W';kernel_rfl)
 refine Sw (Tc rfl ?_);refine Sw (Sw (wpAny_typeOf_ref m (SU ?_)));refine Sw (vZ m ?_);refine Hx (λv b=>?_) ?_
 ·have c:j=[v]:=by rw[<-Array.toList_inj]at b;simpa using b
  subst c;obtain⟨l,rfl,t,rfl⟩:∃l,y=[l]/\∃t,v=.bytes (bz l) t:=by
   induction y using SD with
   |nil=>exact g.elim
   |cons l y=>induction y using SD with
    |nil=>exact⟨l,rfl,g.1.2⟩
    |cons=>exact g.2.elim
  exact Sw (wpAny_typeOf (Uc _ _ _) (Sw (Xs (Sw (SU (SU ⟨_,rfl,h s.toks _⟩))))))
 ·have k:=g.bd
  refine Sw ?_;refine aa ?_ (Std.Legacy.Range.forIn_eq_forIn_range' _ _ _);refine Hw (J:=λi=>(((y.take i).map bz).toArray,(j.take i).map (·,none))) (P:=λi l u=>y[i]?=Sn l/\j[i]?=Sn (.bytes (bz l) u)) _ 0 (λi d=>?_) (λi l u p Q q=>?_) ?_
  ·refine aQ λG Y=>?_
   have d:i<y.length:=by refine aT ?_ k;simpa [Xo]using d
   have e:=S0 d;obtain⟨_,o,U,u,rfl⟩:=g.dg e;exact Y ⟨_,u,e,o⟩
  ·refine Sw (vZ m ?_)
   dsimp only;refine aa ?_ (if_neg (by rw[Hv g];decide));refine aa (aa ?_ Uq) Array.getD_eq_getD_getElem?;refine aa ?_ p.2;refine Sw (Ui (Tc Ai ?_));refine Sw (vZ m ?_);dsimp only;refine aa ?_ (if_neg (by simp));refine SU (cast (congrArg (λz=>Q (.yield z) s) ?_) q);refine aS ?_ List.take_add_one List.take_add_one;refine aS ?_ p.2 p.1;simp only[Option.toList_some,Ta,Tz,Wb,List.push_toArray];rfl
  ·have W:0+Xo [:j.toArray.size]=j.length:=by simp[Xo]
   refine aa ?_ W;have o:y.take j.length=y:=aa VP k;refine aS ?_ VP o;refine Sw (Tc rfl ?_);refine aa ?_ (Ht _ _);refine aa ?_ (if_neg (by unfold Bytes.tooLong;rw[TO];simp;exact j3 K));refine aa ?_ (Hs _ _);refine Sw (wpAny_mkBytes ?_ (by refine aa ?_ (fT _);refine aa ?_ TO;exact j3 K));exact Sw (Ui (wpAny_point (Sw (Hu g (SU ⟨_,rfl,h _ _⟩)))))
end
section
def Ar {K} [DecidableEq K] {k} {y} {z:List (K×SV)} (j:k∉z.map (·.1)∨y.1≠k):
  WA (y::z) k v=if y.1=k then(y.1,v)::z else y::WA z k v:=by
 unfold WA;refine aa ?_ VX;by_cases h:y.1=k
 ·refine aa ?_ (if_pos h)
  have w:=j.resolve_right λq=>q h;simp only[h,decide_true,Bool.true_or,if_true,Tz,List.cons.injEq,true_and];have:∀y∈z,y.1≠k:=λy m q=>w (aT (Tv m) q);clear j w;induction z with
  |nil=>rfl
  |cons a r p=>exact aa (aa (aa rfl (p λy m=>this y (.tail _ m))) (if_neg (this a (.head _)))) Tz
 ·refine aa ?_ (if_neg h)
  simp only[h,decide_false,X5]
  split
  ·exact aa (aa rfl (if_neg h)) Tz
  ·rfl
def As {K} [DecidableEq K] {R S} {u} (m:R (k,v) (u,y)) (c:∀a b,R a b->(b.1=u↔a.1=k)) (e:∀a b,R a b->a.1=k->R (a.1,v) (b.1,y)) (f:∀a b,S (a,v) (b,y)) {z:List (K×SV)} (r:L3 R S w z):
  (z.map (·.1)).Nodup->L3 R S (dT w k v) (WA z u y):=
 L3.c (P:=λw z=>(z.map (·.1)).Nodup->L3 R S (dT w k v) (WA z u y)) (λs=>⟨m,f _ _,trivial⟩) (λa b w z g t p d l=>by
  rw[Tz,UG]at l;have j:=c a b g;rewrite[rZ];by_cases h:a.1=k
  ·refine aa (aa ?_ (Ar (.inl (j.mpr h▸l.1)))) (if_pos h);refine aa ?_ (if_pos (j.mpr h))
   exact⟨e a b g h,f _ _,p⟩
  ·refine aa (aa ?_ (Ar (.inr λq=>h (j.mp q)))) (if_neg h);refine aa ?_ (if_neg λq=>h (j.mp q))
   exact⟨g,t,d l.2⟩) w z r
def KR.eL (j:dt l) (r:VR z v y) (h:KR z w q) (u:(q.map (·.1)).Nodup):KR z (dT w (.ag l) v) (WA q (l.map UInt8.ofNat) y):=
 As ⟨l,rfl,j,rfl⟩ (λa b k=>by
  refine dz k λm g f c=>?_;refine aS ?_ c g;rewrite[zG f j];exact⟨λh=>aa rfl h,λh=>by cases h;rfl⟩) (λa b k p=>k) (λp p=>r) h u
def KI.eL (r:VR z v y) (h:KI z j q) (p:(q.map (·.1)).Nodup):KI z (dT j (.ae i) v) (WA q i y):=
 As (rfl:V.ae i=_) (λa b k=>by exact aa ⟨λh=>aa rfl h,λh=>by cases h;rfl⟩ k) (λa b k w=>k) (λw w=>r) h p
def Au {K} [DecidableEq K] {z:U7 p w K} {h:TV} {q} (d:h.DictOf z a q):(q.map (·.1)).Nodup:=by
 obtain⟨_,_,_,_,_,_,_,_,n⟩:=d;exact n
def v1 (q):(dT q k v).length<=q.length+1:=by
 induction q with
 |nil=>exact SJ _
 |cons a r z=>
  rewrite[rZ];by_cases h:a.1=k
  ·exact aa (Tx _) (if_pos h)
  ·exact aa (SE z) (if_neg h)
def v2 (z):dT z k v≠[]:=by
 induction z using SD with
 |nil=>exact λq=>nomatch q
 |cons a r=>
  rewrite[rZ];by_cases h:a.1=k
  ·exact aa (λq=>nomatch q) (if_pos h)
  ·exact aa (λq=>nomatch q) (if_neg h)
def fK.b (d:fK W p h a w) (s:VR p k u) (g:eJ k w=Sp):
  ∃(K:Type) (_:DecidableEq K) (j:U7 W.fJ W.bg K) (m:K) (z:List (K×SV)),j.is m u=Sp/\h.DictOf j a z/\z.length=w.length/\
   l3 p z m (w.lookup k)/\
   ∀v y f,VR p v y->f.DictOf j a (WA z m y)->fK W p f a (dT w k v):=by
 set_option tactic.hygienic true in induction k using V.casesOn<;>first|exact aG g|exact bv g|(cases g;done)|skip
 ·obtain⟨t,rfl⟩:=s
  refine aP (d.i g) λz r q=>?_;exact⟨_,inferInstance,_,_,z,(beq_self_eq_true _),q,r.bd,r.IW,λv y f c e=>.inr ⟨v2 w,_,r.eL c (Au q),e⟩⟩
 ·rename_i l
  obtain⟨o,t,rfl⟩:=s;refine aP (d.ag g) λz r q=>?_;exact⟨_,inferInstance,_,l.map UInt8.ofNat,z,(beq_self_eq_true _),q,r.bd,r.IW o,λv y f c e=>.inl ⟨_,r.eL o c (Au q),e⟩⟩
def Av (s:UH a h q) (n:b≠a):q.get? b=h.get? b:=s.2 b n
def Hz (l) (c):(bz l).push c.toUInt8=bz (l++[c]):=by
 refine aa ?_ (oH _ _);rw[bz];rfl
def v3 (F:aR W k z q h) (y:eK q a=n) (j:n≠0/\n≠1) (p:VR z a v):∃i o b,a=.ab i/\q[i]?=Sn o/\z[i]?=Sn b/\v=.ref b/\OR W z h b o:=by
 set_option tactic.hygienic true in induction a using V.casesOn<;>first|exact(j.1 y.symm).elim|exact(j.2 y.symm).elim|skip
 rename_i i;cases e:q[i]? with
 |none=>
  have:eK q (.ab i)=0:=by show(match q[i]? with|some (.ah _)=>2|some (.bE _)=>3|some (.aE _)=>4|_=>0)=0;exact aa rfl e
  exact(j.1 (y.symm.trans this)).elim
 |some o=>
  refine aQ λG r=>?_;refine aP p λb w e0=>?_;subst e0;exact r ⟨i,o,b,rfl,e,w,rfl, F.at e w⟩
noncomputable def Aw:O->Nat
 | .ah _=>2
 | .bE _=>3
 | .aE _=>4
 |_=>0
def qG (e:q[i]?=Sn o):eK q (.ab i)=Aw o:=by
 show(match q[i]? with|some (.ah _)=>2|some (.bE _)=>3|some (.aE _)=>4|_=>0)=Aw o;refine aa ?_ e;induction o using O.casesOn<;>rfl
def v4 (F:aR W w q z h) (y:eK z a=2) (k:VR q a v):∃i j b,a=.ab i/\z[i]?=Sn (.ah j)/\q[i]?=Sn b/\v=.ref b/\OR W q h b (.ah j):=by
 refine aQ λG p=>?_;refine mV (v3 F y (by decide) k) λi o b e0 e r=>?_;subst e0;rw[qG e]at y;refine p ?_;induction o using O.casesOn<;>first|exact⟨i,_,b,rfl,e,r⟩|cases y
def v5 (F:aR W j q z h) (y:eK z a=3) (w:VR q a v):∃i l b,a=.ab i/\z[i]?=Sn (.bE l)/\q[i]?=Sn b/\v=.ref b/\OR W q h b (.bE l):=by
 refine aQ λG k=>?_;refine mV (v3 F y (by decide) w) λi o b e0 e r=>?_;subst e0;rw[qG e]at y;refine k ?_;induction o using O.casesOn<;>first|exact⟨i,_,b,rfl,e,r⟩|cases y
def v6 (F:aR W w q z h) (y:eK z a=4) (k:VR q a v):∃i j b,a=.ab i/\z[i]?=Sn (.aE j)/\q[i]?=Sn b/\v=.ref b/\OR W q h b (.aE j):=by
 refine aQ λG p=>?_;refine mV (v3 F y (by decide) k) λi o b e0 e r=>?_;subst e0;rw[qG e]at y;refine p ?_;induction o using O.casesOn<;>first|exact⟨i,_,b,rfl,e,r⟩|cases y
def qH (q:eK z a=1):∃l,a=.ag l:=by
 set_option tactic.hygienic true in induction a using V.casesOn<;>first|exact⟨_,rfl⟩|exact aG q|exact bv q|(cases q;done)|skip
 rename_i i;cases e:z[i]? with
 |none=>
  have:eK z (.ab i)=0:=by show(match z[i]? with|some (.ah _)=>2|some (.bE _)=>3|some (.aE _)=>4|_=>0)=0;exact aa rfl e
  replace q:=this▸q;exact absurd q (by decide)
 |some o=>
  replace q:=(qG e)▸q;induction o using O.casesOn<;>cases q
def Ax (f:df W) (F:aR W m k r s.heap) (t:eK r a=2) (d:VR k a v) (o:bN k u j):fX W A m k s (Uv (.builtin "list.append") (v::j)) (ei av .dN a u r):=by
 intro Q E g;apply ax.B;refine aQ λG b=>?_;obtain⟨i,K,a,rfl,h,Z,rfl,z,n,c,P,p⟩:=v4 F t d;refine b ?_;rcases u with _|⟨U,_|⟨_,_⟩⟩<;>first|exact S9 g|skip
 dsimp only[ei]at g;rw[h]at g;refine aP o.a7 λy e0 Y=>?_;subst e0;obtain⟨J,g⟩:=bL.aY g
 ·have e:=c.bd
  refine call_meets Yq ⟨_,p,rfl⟩ PySem.F.entry_list_append (PySem.F.args_list_append_2 _ _) (list_append a z.toArray n y (by refine aa ?_ TO;exact Sq (To (by assumption)) (a5 (by assumption) rfl))) ⟨p,?_⟩;have w:=p.update λx=>x.push y;rw[show z.toArray.push y=(z++[y]).toArray by simp]at w;exact g.D F Z p (λL q=>nomatch q) ⟨z++[y],_,c.A ⟨Y,trivial⟩,by refine aa (of_decide_eq_true J) Sr,w⟩ rfl
def HA (f:df W) (F:aR W Y c t s.heap) (K:eK t a=2) (P:VR c a v) (U:bN c d k):fX W A Y c s (Uv (.builtin "list.extend") (v::k)) (ei av .h8 a d t):=by
 intro Q E g;apply ax.B;obtain⟨i,N,a,rfl,G,L,rfl,z,n,J,I,e⟩:=v4 F K P;rcases d with _|⟨M,_|⟨_,_⟩⟩<;>first|exact S9 g|skip
 dsimp only[ei]at g;rw[G]at g;dsimp only at g;refine aP U.a7 λy e0 C=>?_;subst e0;induction M using V.casesOn<;>first|exact S9 g|skip
 rename _=>j
 dsimp only at g;obtain⟨b,o,rfl,H,T,q⟩:=fM F C;rw[T]at g
 set_option tactic.hygienic true in induction o using O.casesOn<;>first|exact S9 g|skip
 rename_i ys;obtain⟨p,m,r,D,h⟩:=q;dsimp only at g;refine(bL.aY g).elim λB g=>?_
 ·have Z:=of_decide_eq_true B.2
  have u:=J.bd;have w:=r.bd;refine call_meets Yr ⟨_,e,rfl⟩ PySem.F.entry_list_extend (PySem.F.args_list_extend_2 _ _) (AutoSeq1.list_extend_list_list_0 a z.toArray n b p.toArray m ?_ ?_ ?_) ⟨e,h,?_⟩
  ·simp only[T3,not_and,T4,u,w,Yk]
   intro _;simp;exact aa (a5 (by assumption) rfl) TO
  ·exact aa (Sq (To (by assumption)) (a5 (by assumption) rfl)) TO
  ·refine aa ?_ TO;simp;rw[u,w];exact a5 Z rfl
  ·have l:=e.update λx=>x++p.toArray
   rw[show z.toArray++p.toArray=(z++p).toArray by simp]at l;exact g.D F L e (λζ q=>nomatch q) ⟨z++p,_,J.A r,by refine aa Z Sr,l⟩ rfl
def HB (f:df W) (F:aR W r j w s.heap) (e:eK w a=3) (d:VR j a v) (o:bN j k z):fX W A r j s (Uv (.builtin "bytearray.append") (v::z)) (ei av .dN a k w):=by
 intro Q E g;obtain⟨i,l,a,rfl,b,n,rfl,x,u⟩:=v5 F e d;rcases k with _|⟨h,_|⟨_,_⟩⟩<;>first|exact S9 g|skip
 dsimp only[ei]at g;rw[b]at g;dsimp only at g;refine aP o.a7 λy e0 Z=>?_;subst e0;induction h using V.casesOn<;>first|exact S9 g|skip
 refine Z.elim λt e0=>?_;subst e0;obtain⟨p,g⟩:=bL.aY g;have J:=of_decide_eq_true (bH (bH p).1).2;have K:=of_decide_eq_true (bH p).2;refine GX u (of_decide_eq_true (bH (bH p).1).1) J (by refine aS ?_ (fT _) TO;exact a5 (by assumption) rfl) λq=>?_;rw[Hz]at q;refine g.D F n u (λU q=>nomatch q) ⟨⟨by refine aa ?_ Sr;exact K,λc P=>?_⟩,q⟩ rfl;rcases Tn.mp P with m|m
 ·exact x.2 c m
 ·refine aa ?_ (SP.mp m);exact yp J
def HD (p:dt y) (u:qF z r):∀c∈fp y z,c<256:=by
 have w:∀z x,(∀l∈x::z,∀c∈l,c<256)->∀c∈fp y (x::z),c<256:=λz=>by
  intro x h c j;rw[vY]at j;rcases Tn.mp j with m|m
  ·exact h x (.head _) c m
  ·refine aP (List.mem_flatMap.mp m) λl g m=>?_
   rcases Tn.mp m with m|m
   ·exact p.2 c m
   ·exact h l (.tail _ g) c m
 induction z using SD with
 |nil=>exact λc j=>nomatch j
 |cons x z=>exact w z x (λl m=>by
   obtain⟨i,f,rfl⟩:=U3 m;refine dz (u.dg (S0 f)) λ_ _ q _=>?_;exact q.2)
def HE (f:df W) (F:aR W r w k s.heap) (d:eK k a=1) (o:VR w a v) (b:bN w q j):fX W A r w s (Uv (.builtin "bytes.find") (v::j)) (ei av .lE a q k):=by
 intro Q E g;apply ax.B;refine(qH d).elim λl e0=>?_;subst e0;obtain⟨n,t,rfl⟩:=o;rcases q with _|⟨i,q⟩
 ·exact S9 g
 induction i using V.casesOn<;>first|exact S9 g|skip
 rcases q with _|⟨x,q⟩
 ·exact S9 g
 induction x using V.casesOn<;>first|exact S9 g|skip
 rcases q with _|⟨_,_⟩<;>first|exact S9 g|skip
 refine ec b.qM λy z e0 h Z=>?_;subst e0;obtain⟨p,u,rfl⟩:=h;obtain⟨J,rfl⟩:=Z;obtain⟨Y,g⟩:=bL.aY g;have m:=bH Y;have e:=bH m.1;obtain⟨c,rfl⟩:=V6.mp (of_decide_eq_true e.1);exact Hp n (p.2 c (.head _)) (of_decide_eq_true e.2) (of_decide_eq_true m.2) λK=>g.x F ⟨_,rfl⟩ _
def HF (f:df W) (F:aR W m J Z s.heap) (hk:eK Z a=4) (ra:VR J a v) (rs:bN J Y L):fX W A m J s (Uv (.builtin "dict.setdefault") (v::L)) (ei av .lF a Y Z):=by
 intro Q E g;apply ax.B;obtain⟨i,B,a,rfl,e2,c,rfl,hl,d⟩:=v6 F hk ra;rcases Y with _|⟨C,_|⟨t,_|⟨_,_⟩⟩⟩<;>first|exact S9 g|skip
 refine ec rs.qM λy z e0 ry l=>?_;subst e0;dsimp only[ei]at g;rw[e2]at g;dsimp only at g;obtain⟨M,g⟩:=bL.aY g
 ·refine aQ λG N=>?_
  have M:=bH M;obtain⟨K,_,D,k',P,T,j,x,I,U⟩:=d.b ry M.1;obtain⟨oa,da,_,ga,_,gd,_⟩:=id j;refine N ?_;refine call_meetsIn XJ j.typeIs PySem.F.entry_dict_setdefault (PySem.F.args_dict_setdefault_3 _ _ _) (kt_meets_setdefault D a T (bk.d f.l2 F c) z) ⟨P,j,by have:=of_decide_eq_true M.2;exact aa (Sq (To (by assumption)) (a5 (by assumption) rfl)) TO,λw p=>?_,λhn h' r sb=>?_⟩
  ·cases e:B.lookup C with
   |some u=>
    refine aQ λG N=>?_;rw[e]at I g;refine aP I λw' H h=>?_;rw[p]at H;replace H:=Sv H;subst H;exact N (g.x F h _)
   |none=>
    rw[e]at I;rw[show Xn P k'=none from I]at p;exact aG p
  ·cases e:B.lookup C with
   |some u=>
    rw[e]at I;refine aP I λw' H h=>?_;rw[hn]at H;exact aG H
   |none=>
    refine aQ λG N=>?_;rw[e]at g;have o_:=v1 (k:=C) (v:=t) B;have:=of_decide_eq_true M.2;refine(F.RG (o:=.aE _) c ga (λY q=>by replace q:=gd▸q;cases q) (λb n=>Av sb n) ⟨a5 (Sq o_ (SE this)) rfl,U t z h' l r⟩).elim λG st=>?_;exact N (g J _ _ _ st l G)
end
def Ay:jm o=Sp->attributeBase o name y z=z:=by
 induction o using Uo with
 |Call f w k p=>
  induction f using Uo with
  |Name i q=>
   induction w using SD with
   |nil=>exact λh=>bv h
   |_=>exact λj=>rfl
  |_=>exact λj=>rfl
 |_=>exact λj=>rfl
def qI (h:jl q=Sp):∀e∈q,cD e=Sp:=SN.mp (Sz.mp h).1
def Az (h:∀e∈j,cD e=Sp):(WM z (Vx j q)).all (λx=> !x.1)=Sp:=by
 have:=ng (z:=q) (y:=z) h;rw[List.any_eq_false]at this;rewrite[SN];intro y m;have:=this y m;simpa using this
def AA (f:jm o=Sp) (g:jl w=Sp) (m:u.endLine=q.line) (h:ax M A (eval o z) (λl y=>∀c,ax M A (getMethod l name c) (λr j=>ax M A (WN q r.1 r.2 (WM q (Vx w z)) []) Q E j) E y) E s):
  ax M A (eval (.Call (.Attribute o name u) w [] q) z) Q E s:=by
 rewrite[arm_eval_Call];refine aa ?_ (Ay f);refine cg h λl y k=>aN (cE ?_);have t:XK (w.length+([]:List Keyword).length) (WM q (Vx w z)) (backToKw q (keywordEach [] z))=Sp:=by
  have:=of_decide_eq_true (Sz.mp g).2;have e:backToKw q (keywordEach [] z)=[]:=rfl;unfold XK;refine aS ?_ e (Az (qI g));simp;exact a5 (by assumption) rfl
 unfold methodCall;exact aa (cg (cy (k _)) λr j p=>(aN (vo (decide_eq_true ((decide_eq_true (by assumption)))) (bb p)))) t
noncomputable def v7:Nat->String
 |1=>"bytes"|2=>"list"|3=>"bytearray"|_=>"dict"
section
def HG {s:Tf} (F:aR W f w p s.heap) (y:eK p a=k) (Q:1<=k) (Z:k<=4) (j:VR w a v):s.TypeIs v (v7 k)/\∀b,v=.ref b->∃o,s.heap.get? b=Sn o/\o.dict=none:=by
 obtain rfl|rfl|rfl|rfl:k=1∨k=2∨k=3∨k=4:=(show∀n,n<=4->1<=n->n=1∨n=2∨n=3∨n=4 by decide) k Z Q
 ·obtain⟨l,rfl⟩:=qH y
  obtain⟨m,t,rfl⟩:=j;exact⟨Uc _ _ _,λb q=>nomatch q⟩
 ·refine aQ λG c=>?_
  obtain⟨i,Y,a,rfl,r,u,rfl,e,n,J,h,z⟩:=v4 F y j;exact c ⟨⟨_,z,rfl⟩,λb q=>by cases q;exact⟨_,z,rfl⟩⟩
 ·obtain⟨i,l,a,rfl,r,u,rfl,m,z⟩:=v5 F y j
  exact⟨⟨_,z,rfl⟩,λb q=>by cases q;exact⟨_,z,rfl⟩⟩
 ·obtain⟨i,K,a,rfl,r,u,rfl,h,d⟩:=v6 F y j
  have:∃o,s.heap.get? a=Sn o/\o.ExactDict:=by
   rcases d with⟨_,_,o,_,_,g,x,_⟩|⟨_,_,_,o,_,_,g,x,_⟩<;>exact⟨o,g,x⟩
  refine aP this λo g x=>?_;exact⟨⟨o,g,x.1⟩,λb q=>by cases q;exact⟨o,g,x.2.1⟩⟩
structure HL (nm:TR) (k:Nat) (id:String):Prop where
 HH:PlainAttrs (v7 k)
 HI:Slot (v7 k) nm id
 HJ:typeOf (.builtin id)=T8 (.type "method_descriptor")
end
def HK (f:oM y) (l:cJ (bf W x) k p) (w:∀e∈k,cD e=Sp) (F:cn W x r z j u s.heap) (g:bL W x.bD r bN s (de p z j u) (λm c=>ax W.b x.bO (Uv y (first++m)) Q E c) E):ax W.b x.bO (WN q y first (WM q (Vx k x.aK)) []) Q E s:=by
 cases f with
 |bs d=>exact vt (ng w) (qD l w F g)
 |ed T=>exact zv (ng w) (qD l w F g)
noncomputable abbrev sV (m:BM) (fa:dk) (h:qz):dk:=λl c σ=>(fa l c σ).C λv σ=>if lI m (eK σ v)then(h l c σ).C λvs c_=>if eK c_ v=eK σ v then ei av m v vs c_ else .ak else .ak
def v8 (o:x.n W d u) (f:df W) (id:Nat->String) (hm:∀k,lI m k=Sp->(1<=k/\k<=4)/\HL H k (id k)) (hb:jm a=Sp) (he:jl C=Sp) (hl:ap.endLine=n.line) (ha:bf W x a A) (hs:cJ (bf W x) C fs) (T:∀k b i s v L M j,lI m k=Sp->aR W x.bD b i s.heap->eK i v=k->VR b v M->bN b L j->fX W x.bO x.bD b s (Uv (.builtin (id k)) (M::j)) (ei av m v L i)):
  bf W x (.Call (.Attribute a H ap) C [] n) (sV m A (de fs)):=by
 intro b D B i s F Q E g;refine AA hb he hl ((ha b D B i s F).am g λv N l M Z Y c w p q=>?_);intro pl
 ·refine aQ λG kG=>?_
  obtain⟨hk,q⟩:=lK (P:=λr=>db W x.bD l _ r Q E) q λh=>h;obtain⟨hr,I⟩:=hm _ hk;obtain⟨ht,hd⟩:=HG (s:={s with heap:=Z,toks:=Y}) p rfl hr.1 hr.2 w;refine kG ?_;refine ax.B (getMethod_builtin ht I.HH I.HI I.HJ hd ?_);refine HK (.bs _) hs (qI he) (F.aD c p) (q.am λL e z j E2 J4 t K U y=>?_)
  ·obtain⟨hq,y⟩:=lK (P:=λr=>db W x.bD z _ r Q E) y λh=>h
   exact T _ z e _ v L M j hk U hq (w.RA t.cY) K _ _ y
def oP (o:x.n W d u) (f:df W) {g} (Q:∀k,lI m k=Sp->k=n) (Z:1<=n/\n<=4) (Y:HL t n g) (J:jm a=Sp) (K:jl l=Sp) (P:h.endLine=y.line) (U:bf W x a b) (G:cJ (bf W x) l i) (c:∀z j s v w p q,aR W x.bD z j s.heap->eK j v=n->VR z v p->bN z w q->fX W x.bO x.bD z s (Uv (.builtin g) (p::q)) (ei av m v w j)):
  bf W x (.Call (.Attribute a t h) l [] y) (sV m b (de i)):=
 v8 o f (λC=>g) (λk e=>by cases Q k e;exact⟨Z,Y⟩) J K P U G λk z j s v w p q e F L r M=>c z j s v w p q F (L.trans (Q k e)) r M
def oQ (h:lI m k=Sp) (e:lI m k=(k==n)):k=n:=by rw[e]at h;exact beq_iff_eq.mp h
def HM (o:x.n W d u) (f:df W) (m) (w:jm a=Sp) (p:jl h=Sp) (g:Y.endLine=e.line) (l:bf W x a Q) (c:cJ (bf W x) h Z):
  bf W x (.Call (.Attribute a (yu m) Y) h [] e) (sV m Q (de Z)):=by
 induction m using Eb.casesOn
 ·refine v8 o f (λk=>if k=2 then"list.append" else"bytearray.append") (λk z=>?_) w p g l c λk i h s v Q Z n z F g r l=>?_
  ·rcases TZ.mp z with z|z<;>obtain rfl:=SG z
   ·exact⟨by decide,YC,Yq,PySem.F.type_list_append⟩
   ·exact⟨by decide,fN.ke,fN.Ae,(by show builtinType _=_;kernel_rfl)⟩
  ·rcases TZ.mp z with z|z<;>obtain rfl:=SG z
   ·exact Ax f F g r l
   ·exact HB f F g r l
 ·refine v8 o f (λJ=>if J=2 then"list.extend" else"bytearray.extend") (λJ K=>?_) w p g l c λJ P U G L M C E K T D B N=>?_
  ·rcases TZ.mp K with K|K<;>obtain rfl:=SG K
   ·exact⟨by decide,YC,Yr,PySem.F.type_list_extend⟩
   ·exact⟨by decide,fN.ke,fN.Af,(by show builtinType _=_;kernel_rfl)⟩
  ·rcases TZ.mp K with K|K<;>obtain rfl:=SG K
   ·exact HA f T D B N
   ·intro Q E g
    obtain⟨i,l,L,rfl,o,b,rfl,n,u⟩:=v5 T D B;rcases M with _|⟨x,_|⟨_,_⟩⟩<;>first|exact S9 g|skip
    dsimp only[ei]at g;rw[o]at g;dsimp only at g;refine aP N.a7 λy e0 h=>?_;subst e0;induction x using V.casesOn<;>first|exact S9 g|skip
    obtain⟨p,t,rfl⟩:=h;obtain⟨m,g⟩:=bL.aY g;have Z:=of_decide_eq_true m;refine GY u (by exact pL (a5 (by assumption) rfl) (fT _) (fT _) TO) λq=>?_;rw[<-oH]at q;exact g.D T b u (λY q=>nomatch q) ⟨n.A p m,q⟩ rfl
 ·exact oP o f (λk q=>oQ q rfl) (by decide) ⟨iC.ke,iC.sU,iC.An⟩ w p g l c λt b s v n i z F y r j=>by
   intro Q E g;apply ax.B;obtain⟨l,rfl⟩:=qH y;obtain⟨d,t,rfl⟩:=r;rcases n with _|⟨o,n⟩
   ·exact S9 g
   induction o using V.casesOn<;>first|exact S9 g|skip
   rcases n with _|⟨_,_⟩<;>first|exact S9 g|skip
   obtain⟨y,rfl,b⟩:=j.a7;obtain⟨k,u,rfl⟩:=b;obtain⟨n,g⟩:=bL.aY g;obtain⟨c,rfl⟩:=V6.mp n;exact Ho d (k.2 c (.head _)) λi=>g.x F ⟨_,rfl⟩ _
 ·exact oP o f (λk q=>oQ q rfl) (by decide) ⟨iC.ke,iC.sU,iC.An⟩ w p g l c λt b s v n i z F y r j=>HE f F y r j
 ·exact oP o f (λk q=>oQ q rfl) (by decide) ⟨YD,PySem.F.slot_dict_get,PySem.F.type_dict_get⟩ w p g l c λt b s v n i z F y r j=>by
   intro Q E g;apply ax.B;obtain⟨i,x,v,rfl,h,Z,rfl,D,d⟩:=v6 F y r;rcases n with _|⟨Y,_|⟨B,_|⟨_,_⟩⟩⟩<;>first|exact S9 g|skip
   refine aQ λG J=>?_;refine ec j.qM λy z e0 P U=>?_;subst e0;dsimp only[ei]at g;rw[h]at g;dsimp only at g;obtain⟨L,g⟩:=bL.aY g;obtain⟨K,_,m,N,M,j,e,t,k⟩:=d.n P L;refine J ?_;refine call_meetsIn PySem.F.slot_dict_get e.typeIs PySem.F.entry_dict_get (PySem.F.args_dict_get_3 _ _ _) (meets_dict_get_default m _ j (bk.d f.l2 F Z) z) ⟨_,e.mapOf,g.x F ?_ _⟩;revert k;cases x.lookup Y with
   |none=>exact λk=>by refine aa U k
   |some u=>exact λk=>by refine aP k λw C T=>?_;exact aa T C
 ·exact oP o f (λk q=>oQ q rfl) (by decide) ⟨YD,XJ,PySem.F.type_dict_setdefault⟩ w p g l c λt b s v n i z F y r j=>HF f F y r j
 ·exact oP o f (λk q=>oQ q rfl) (by decide) ⟨iC.ke,iC.Ap,(by show builtinType _=_;kernel_rfl)⟩ w p g l c λt b s v n i z F y r j=>by
   intro Q E g;apply ax.B;obtain⟨x,rfl⟩:=qH y;obtain⟨h,t,rfl⟩:=r;rcases n with _|⟨Z,n⟩
   ·exact S9 g
   induction Z using V.casesOn<;>first|exact S9 g|skip
   rcases n with _|⟨_,_⟩<;>first|exact S9 g|skip
   obtain⟨y,rfl,Y⟩:=j.a7;obtain⟨b,o,rfl,C,J,q⟩:=fM F Y;dsimp only[ei]at g;rw[J]at g
   set_option tactic.hygienic true in induction o using O.casesOn<;>first|exact S9 g|skip
   rename_i K;obtain⟨T,m,r,P,u⟩:=q;dsimp only at g;cases e:ig K with
   |none=>replace g:=e▸g;exact g.elim
   |some D=>
    refine aQ λG U=>?_;replace g:=e▸g;have c:=Hq e r;obtain⟨L,g⟩:=vy g;have w:=of_decide_eq_true L;exact U (Hy u c w λM B=>g.x F ⟨⟨w,HD h c⟩,_,rfl⟩ M)
 ·exact oP o f (λk q=>oQ q rfl) (by decide) ⟨iC.ke,FB.slot_bytes_startswith,FB.type_bytes_startswith⟩ w p g l c λt b s v n i z F y r j=>by
   intro I H A;apply ax.B;obtain⟨l,rfl⟩:=qH y;obtain⟨e,t,rfl⟩:=r;rcases n with _|⟨d,n⟩
   ·exact S9 A
   induction d using V.casesOn<;>first|exact S9 A|skip
   rcases n with _|⟨_,_⟩<;>first|exact S9 A|skip
   obtain⟨y,rfl,o⟩:=j.a7;obtain⟨k,u,rfl⟩:=o;exact Hn e k (A.A F rfl)
def v9 {K} (h:su K C=Sp):(((plainGet K C "__class__"=Sp/\WJ K C=Sp)/\plainOver K C=Sp)/\Vh K (.ref C) "__setattr__"=Sn (Sn (.builtin "object.__setattr__")))/\∀e∈gW,(match Vh K (.ref C) e.1 with|some a=>noGet K a|none=>Su)=Sp/\Yd K C e.1=Sn none:=
 let a:=Sz.mp h
 let b:=Sz.mp a.1
 let c:=Sz.mp b.1
 ⟨⟨⟨Sz.mp c.1,c.2⟩,SG b.2⟩,λe m=>(Sz.mp (SN.mp a.2 e m)).imp_right SG⟩
structure kY (W:bk):Prop extends df W where
 ka:∀c C,i3 c=Sn C->su W.bG C=Sp
def AB (h:oB f=Sn q):gW.lookup q=f:=by
 unfold oB at h;rw[TX]at h;obtain⟨e,z,rfl⟩:=h;have y:=YH z;rw[beq_iff_eq]at y;subst y;have:gW.all (λe=>gW.lookup e.1==e.2)=Sp:=by decide+kernel
 rw[SN]at this;exact beq_iff_eq.mp (this e (WG z))
def AC (h:gW.lookup q=Sn f):oB f=q:=by
 have:gW.all (λe=>oB e.2==e.1)=Sp:=by decide+kernel
 rw[SN]at this;exact beq_iff_eq.mp (this _ (iA h))
def NK.a (r:NK P f e) (h:gW.lookup z=Sn k):e.key.isStr z=(k==f.1):=by
 obtain⟨y,j,p,t,w⟩:=r;refine aa ?_ w;show(y==z)=_;rewrite[Vl];rewrite[beq_iff_eq];rewrite[beq_iff_eq];refine⟨λq=>?_,λq=>?_⟩
 ·subst q
  exact Sv (h.symm.trans (AB j))
 ·subst q
  exact Sv (j.symm.trans (AC h))
def NK.ab (r:NK P f e):e.refKey=Su:=by
 obtain⟨y,z,j,t,q⟩:=r;unfold DictEntry.refKey;exact aa rfl q
noncomputable def AD (ρ:List S7) (nm:TR) (es:List Xl):Option V->Prop
 |some v=>∃y,getL nm es=Sn (Sn y)/\VR ρ v y
 |none=>getL nm es=Sn none
def AE (h:e.refKey=Su):getL q (e::z)=if e.key.isStr q then Sn (Sn e.val)else getL q z:=by
 unfold getL;refine aS ?_ VX Xu;refine aa (aa ?_ (X5 _)) h;cases e.key.isStr q<;>rfl
def NR.IW (h:gW.lookup p=Sn k) (r:NR l P w z):AD l p z (w.lookup k):=
 L3.c (P:=λw z=>AD l p z (w.lookup k)) rfl (λa e w z r v f g=>by
  obtain⟨j,u⟩:=a;refine aa ?_ T2;have c:=AE (q:=p) (z:=z) r.ab;rw[r.a h]at c;cases q:(k==j)with
  |true=>exact⟨_,c.trans (if_pos q),v⟩
  |false=>
   have c:=c.trans (if_neg (by refine aa ?_ q;decide));revert g;cases w.lookup k with
   |none=>exact λg=>c.trans g
   |some u=>exact λg=>g.imp λy q=>⟨c.trans q.1,q.2⟩) w z r
def NR.d (h:gW.lookup j=none) (r:NR k P w z):getL j z=Sn none:=
 L3.c (P:=λp z=>getL j z=Sn none) rfl (λa e w z r v p u=>by
  refine(AE r.ab).trans ((if_neg ?_).trans u);obtain⟨y,g,f,t,l⟩:=r;refine aa ?_ l;intro q;cases beq_iff_eq.mp q;have:=AB g;rw[h]at this;exact aG this) w z r
def HN (j) (z) (y v) (q):(putL j z y v q).length<=q.length+1:=by
 induction q with
 |nil=>exact SJ _
 |cons e q w=>
  unfold putL;by_cases h:e.key.isStr j=Sp
  ·exact aa (Tx _) (if_pos h)
  ·exact aa (SE w) (if_neg h)
def VR.b (r:VR q v y):handedIn y=Sp:=by
 induction v using V.casesOn<;>(try obtain⟨_,rfl⟩:=r)<;>(try obtain⟨_,_,rfl⟩:=r)<;>(try refine fh r λ_ _ _ e0=>?_;subst e0)<;>(try subst r)<;>rfl
section
inductive QB (P:Params) (ρ:List S7) (h:TV) (a:S7) (c d:Nat) (fs:List (Nat×V)):Prop
 |mk (C dx:S7) (es:List Xl) (n:Nat) (e0:i3 c=Sn C) (e1:ρ[d]?=Sn dx) (e2:h.get? a=Sn (Vz C dx)) (e3:h.get? dx=Sn (VN es n)) (r:NR ρ P fs es) (I:InstAt h a (Vz C dx) C (Sn (VN es n)))
def sW (F:aR W k q z h) (r:OR W q h a (.a8 c d)) (e:z[d]?=Sn (.aL y)):QB W.iq q h a c d y:=by
 obtain⟨C,p,u,j,w⟩:=r;obtain⟨l,n,f,g⟩:= F.at e j;exact⟨C,p,l,n,u,j,w,g,f,⟨w,rfl,rfl,g⟩⟩
def HO (f:kY W) (F:aR W t w p s.heap) (i:gW.lookup l=Sn k) (r:VR w v a):fX W A t w s (getAttr a l z) (mO v k p):=by
 intro Q E g;apply ax.B;induction v using V.casesOn<;>first|exact S9 g|skip
 obtain⟨b,o,rfl,B,h,r⟩:=fM F r;dsimp only[mO]at g;rw[h]at g
 set_option tactic.hygienic true in induction o using O.casesOn<;>first|exact S9 g|skip
 rename_i c d;dsimp only at g;cases m:p[d]? with
 |none=>rw[m]at g;exact g.elim
 |some Z=>
  rw[m]at g;induction Z using O.casesOn<;>first|exact g.elim|skip
  refine aQ λG Y=>?_;refine aP (vM g) λu J g=>?_;obtain⟨C,N,H,n,K,hd,hg,gd,P,I⟩:=sW F r m;have q:=f.ka c C K;obtain⟨⟨⟨⟨U,L⟩,q3⟩,q4⟩,M⟩:=v9 q;have j:=(M _ (iA i)).1;have lk:=P.IW i;rw[J]at lk;refine aP lk λy T x=>?_;refine Y ?_;cases e:Vh W.bG (.ref C) l with
  |none=>rw[e]at j;exact bv j
  |some D=>
   rw[e]at j;exact get_value (oN f.todf F) I (plainGet_of U).1 (findObj_own L e j T) x.b (g.x F x _)
def HP {K} (X:K.In s.heap) (I:InstAt s.heap a (Vz C y) C (Sn (VN q n))) (l:Vh K (.ref C) "__setattr__"=Sn (Sn (.builtin "object.__setattr__"))) (m:plainOver K C=Sp) (e:Yd K C name=Sn none) (d:WJ K C=Sp) (k:(getL name q).isSome=Sp) (J:q.length<=1000) (h:∀t o f,(s.heap.update y f).get? y=Sn (VN (putL name (Va w.params name) (.str name t) v q) (putN name q n))->Q () {s with heap:=s.heap.update y f,toks:=o}):
  Tg (Tt j w) A (setAttr (.ref a) name v) Q E s:=by
 refine set_plain X I l ?_;refine osa_open X I m e λb=>?_;refine er d λW i p=>?_;obtain⟨x,Z,P,D⟩:=I;have u:∀t,(s.heap.update y (Obj.putName name (Va w.params name) (.str name t) v)).get? y=_:=λt=>by
  refine aa ?_ (Ur _ D (by rw[Ys];rfl));rw[Ys]
 refine Sw (SU (Sw (Sw (XM x (Sw (Looks.here (looks_clsIn X i) ?_))))));refine aa ?_ p;refine SU (Sw (SU (Sw ?_)));unfold nsSet;refine Sw (Sw (Yt (SU (Sw (wpAny_mkText (Sw (XM D ?_)))))));unfold getL at k;dsimp only[VN];have c:(!q.toArray.any (·.key.isStr name)&&q.toArray.any (·.refKey))=Su:=by
  refine aT (aT ?_ Array.any_toList) Array.any_toList;cases r:q.find? _ with
  |some Y=>refine aa ?_ (Wq.mpr ⟨Y,WG r,YH r⟩);rfl
  |none=>
   rw[r]at k;cases z:q.any (·.refKey)with
   |true=>rw[z]at k;exact bv k
   |false=>exact XF _
 refine aa (aa ?_ c) (aRefKeyMayBeTheName_at _ _);refine wpAny_updatePart D ?_;have g:=HN name (Va w.params name) (.str name (s.toks+1)) v q;refine Sw (Yn (u _) (by show(Data.dict _ _).pastItsLine=none;exact pastItsLine_dict (by refine aS ?_ TO T4;exact Sq g (a5 (SE (by assumption)) rfl))) ?_);exact SU (h _ _ _ (u _))
end
structure cK (W:bk) (L:S7) (ρ b_:List S7) (h h':TV):Prop where
 cY:ρ<+:b_
 dw:∀a∈b_,a∈ρ∨h.get? a=none
 fV:∀b o,h.get? b=Sn o->b∉ρ->b∉W.c->b≠L->∃sl,h'.get? b=Sn {o with slots:=sl}/\((∃vs,o.data=.fields vs)->sl=o.slots)
 gk:∀b o,h.get? b=Sn o->∃o',h'.get? b=Sn o'
 ij:∀cv q,h.CodeRec cv q->h'.CodeRec cv q
def cK.B (x:ck W z q h y):cK W L z q h y:=⟨x.cY,x.dw,λb o e j w k=>x.fV b o e j w,x.gk,x.ij⟩
def cK.E:cK W L q q h h:=.B .E
def cK.A (x:cK W L g z h w) (y:cK W L z j w k):cK W L g j h k:=by
 refine⟨x.cY.trans y.cY,λa m=>?_,λb o e l f t=>?_,λb o e=>?_,λd q c=>y.ij d q (x.ij d q c)⟩
 ·rcases y.dw a m with q|q
  ·exact x.dw a q
  ·refine .inr ?_
   cases e:h.get? a with
   |none=>rfl
   |some o=>obtain⟨s,p⟩:=x.gk a o e;rw[p]at q;exact aG q.symm
 ·refine aP (x.fV b o e l f t) λY n i=>?_
  have r:b∉z:=λm=>by
   rcases x.dw b m with q|q
   ·exact l q
   ·rw[e]at q;exact aG q.symm
  refine aP (y.fV b _ n r f t) λu Q Z=>?_;exact⟨u,Q,λv=>(Z v).trans (i v)⟩
 ·obtain⟨s,p⟩:=x.gk b o e
  exact y.gk b s p
def cK.D (x:cK W L j z h y) (e:y.get? b=none):h.get? b=none:=by
 cases q:h.get? b with
 |none=>rfl
 |some o=>obtain⟨k,w⟩:=x.gk b o q;rw[w]at e;exact aG e.symm
def bu (W:bk) (x:c7) (be:List Nat) (ρ:List S7) (s:Tf) (r:bC) (Q:Flow->Tf->Prop) (E:SV->Tf->Prop):Prop:=match r with
 | .aD l σ=>∀b_ h' f_,cK W x.aK.locals ρ b_ s.heap h'->cn W x b_ l be σ h'->Q .next {s with heap:=h',toks:=f_}
 | .eu l σ=>∀b_ h' f_,cK W x.aK.locals ρ b_ s.heap h'->cn W x b_ l be σ h'->Q .brk {s with heap:=h',toks:=f_}
 | .dR l σ=>∀b_ h' f_,cK W x.aK.locals ρ b_ s.heap h'->cn W x b_ l be σ h'->Q .cont {s with heap:=h',toks:=f_}
 | .aO v σ=>∀b_ v' h' f_,cK W x.aK.locals ρ b_ s.heap h'->VR b_ v v'->aR W x.bD b_ σ h'->Q (.ret v') {s with heap:=h',toks:=f_}
 | .bh told σ=>∀b_ e h' f_,cK W x.aK.locals ρ b_ s.heap h'->aR W x.bD b_ σ h'->fk W s.heap b_ told x.aK.frame e h'->E (.ref e) {s with heap:=h',toks:=f_}
 | .ak=>False
def bu.RB (p:cK W x.aK.locals m y s.heap w) (g:bu W x u m s r Q E):bu W x u y {s with heap:=w,toks:=k} r Q E:=by
 induction r using bC.casesOn with
 |aD l f=>exact λq j z a b=>g q j z (p.A a) b
 |eu l f=>exact λq j z a b=>g q j z (p.A a) b
 |dR l f=>exact λq j z a b=>g q j z (p.A a) b
 |aO v f=>exact λq d j z a b c=>g q d j z (p.A a) b c
 |bh t f=>exact λq e j z a b c=>g q e j z (p.A a) b (c.B λo=>p.D)
 |ak=>exact g
def fk.A (y:fk W z w j none e h):fk W z w j k e h:=by
 obtain⟨p,r,u,n,g,l,f,m,b,c,d,t⟩:=y.aU;refine⟨p,r,u,n,g,l,f,m,b,c,d,t.imp id ?_⟩;rintro⟨T,s,o,v,i,x,a,Q,Z,Y,J⟩;refine⟨T,s,o,v,i,x,a,Q,Z,Y,J.imp id ?_⟩;rintro⟨L,q,-⟩;exact aG q
def bu.RG {k:l->List O->bC} {Z:d->Tf->Prop} (g:bu W x p f s (match r with| .aj v m=>k v m| .bh t m=>.bh t m| .ak=>.ak) Q E) (o:∀v y q u j z,ck W f q s.heap j->w q v u->aR W x.bD q y j->bu W x p q {s with heap:=j,toks:=z} (k v y) Q E->Z u {s with heap:=j,toks:=z}):bL W x.bD f w s r Z E:=by
 induction r using R.casesOn with
 |aj v y=>exact λq u j z a b c=>o v y q u j z a b c (bu.RB (.B a) g)
 |bh t y=>exact λq e j z a b c=>g q e j z (.B a) b c.A
 |ak=>exact g
def bu.toS (g:bu W x z p s (r.toS k) Q E) (l:∀v y q u w j,ck W p q s.heap w->VR q v u->aR W x.bD q y w->bu W x z q {s with heap:=w,toks:=j} (k v y) Q E->Z u {s with heap:=w,toks:=j}):bL W x.bD p VR s r Z E:=by
 refine bu.RG ?_ l;induction r using R.casesOn<;>exact g
def fO (W:bk) (x:c7) (st:Vo) (f:bo->List Nat->List O->bC):Prop:=
 ∀ρ loc be σ s,cn W x ρ loc be σ s.heap->∀Q E,bu W x be ρ s (f loc be σ) Q E->ax W.b x.bO (exec st x.aK) Q E s
def jt (W:bk) (x:c7) (st:List Vo) (f:bo->List Nat->List O->bC):Prop:=
 ∀ρ loc be σ s,cn W x ρ loc be σ s.heap->∀Q E,bu W x be ρ s (f loc be σ) Q E->ax W.b x.bO (execs st x.aK) Q E s
def hK (W:bk) (x:c7) (te:TQ) (f:V->bo->List Nat->List O->bC):Prop:=
 ∀ρ loc be σ s v y,cn W x ρ loc be σ s.heap->VR ρ v y->∀Q E,bu W x be ρ s (f v loc be σ) Q E->ax W.b x.bO (WB te x.aK y) (λζ s'=>Q .next s') E s
def bu.C (g:bu W x w m s (r.C k) Q E) (o:∀l p z j y,cK W x.aK.locals m z s.heap j->cn W x z l w p j->bu W x w z {s with heap:=j,toks:=y} (k l p) Q E->Z .next {s with heap:=j,toks:=y}) (e:∀f d,f≠.next->Q f d->Z f d):bu W x w m s r Z E:=by
 induction r using bC.casesOn with
 |aD l u=>exact λz j y a b=>o l u z j y a b (bu.RB a g)
 |eu l u=>exact λz j y a b=>e _ _ (λq=>nomatch q) (g z j y a b)
 |dR l u=>exact λz j y a b=>e _ _ (λq=>nomatch q) (g z j y a b)
 |aO v u=>exact λz n j y a b c=>e _ _ (λq=>nomatch q) (g z n j y a b c)
 |bh t u=>exact g
 |ak=>exact g
def AF:jt W x [] (λl w q=>.aD l q):=λz y j q s F Q E g=>bb (g z s.heap s.toks .E F)
def wa {m} (e:fO W x m f) (t:jt W x y g):jt W x (m::y) (λl c j=>(f l c j).C λl j=>g l c j):=by
 intro d p w j s F Q E o;refine cg (e d p w j s F _ E (bu.C (Z:=λf k=>match f with| .next=>ax W.b x.bO _ Q E k|f=>Q f k) o (λl r u i v a b c=>t u l w r _ b Q E c) λf k n q=>?_)) λf k z=>?_
 ·cases f<;>first|exact q|exact absurd rfl n
 ·cases f<;>first|exact z|exact bb z
def AG (h:q.scope.kind=.function):interactive q=Su:=by unfold interactive;refine aa ?_ h;rfl
def HQ:fO W x (.Return none z) (λl c q=>(R.aj V.az q).toS λv q=>.aO v q):=λy j w q s F Q E g=>aN (cE (bb (g y .none s.heap s.toks .E rfl F.toaR)))
def wb (h:lL e=Su):swapsWith e t n q=T8 Su:=by
 induction e using Uo<;>first|rfl|exact bv (UW h)
def HR (o:x.n W d u) (p:lL e=Su) (h:bf W x e f):fO W x (.Expr e z) (λl c q=>(f l c q).toS λi q=>.aD l q):=λr y j q s F Q E g=>by
 refine aa (aa ?_ (AG o.dP)) (arm_exec_Expr _ _ _);refine aa ?_ (wb p);exact aN (cE (aN (bb (aN (h r y j q s F _ E (bu.toS g λv m w Z t k a b c n=>(.B (wpAny_dropValue (n w t k .E (F.aD a c))))))))))
def bu.RD {f g:List O->bC} (u:bu W x p l s (r.toS λv w=>match v with| .aq Sp=>f w| .aq Su=>g w|_=>.ak) Q E) (d:∀b k z j y,ck W l z s.heap j->aR W x.bD z k j->bu W x p z {s with heap:=j,toks:=y} (if b then f k else g k) Q E->Z b {s with heap:=j,toks:=y}):bL W x.bD l fU s (fD r) Z E:=by
 rcases vI (r:=r)with q|⟨b,w,rfl,q⟩|⟨t,w,rfl,q⟩
 ·induction r using R.casesOn with
  |aj v w=>induction v using V.casesOn<;>first|exact u.elim|exact nomatch q
  |bh t w=>exact nomatch q
  |ak=>exact u.elim
 ·intro z m j y a e c
  subst e;refine d m w z j y a c ?_;induction m using SX<;>exact bu.RB (.B a) u
 ·exact λz e j y a b c=>u z e j y (.B a) b c.A
def HS (e:fY W x t p) (d:jt W x a r) (o:jt W x b u):
  fO W x (.If t a b k) (λl c y=>(p l c y).toS λv y=>match v with| .aq Sp=>r l c y| .aq Su=>u l c y|_=>.ak):=λn q z y s F Q E g=>by
 refine aN (cE (aN (e n q z y s F _ E (bu.RD g λb j w h i f G m=>?_))));induction b using SX with
 |true=>exact d w q z j _ (F.aD f G) Q E m
 |false=>exact o w q z j _ (F.aD f G) Q E m
section
def AH {h w:TV}:∀{l},h.FunFrames q l->(∀z∈l,∀L o,z.frame=Sn L->h.get? L=Sn o->(∀j,o.data≠.fields j)->∃y,w.get? L=Sn y/\∀j,y.data≠.fields j)->w.FunFrames q l
 :=λ{l}=>by
 induction l with
 |nil=>exact λ_ _=>trivial
 |cons z l i=>
  intro w k;obtain⟨r,⟨L,o,p,u,g,f⟩,m⟩:=w;refine aP (k z (.head _) L o p g f) λy e d=>?_;exact⟨r,⟨L,y,p,u,e,d⟩,i m λe c=>k e (.tail _ c)⟩
def aR.RF (F:aR W s w v h) (Q:L∉w) (Z:L∉W.c) (Y:W.cb.get? L=none) {i z:Obj} (g:h.get? L=i) (r:∀u,i.data≠.fields u) (x:y.get? L=Sn z) (p:∀u,z.data≠.fields u) (k:∀b,b≠L->y.get? b=h.get? b):aR W s w v y/\cK W L w w h y:=by
 have j:∀b o,b≠L->h.get? b=Sn o->y.get? b=o:=λb o n e=>(k b n).trans e;have l:∀f q,h.CodeRec f q->y.CodeRec f q:=λf q c=>c.keepsBut j g r;refine⟨⟨F.cH.fU (λa m=>k a λq=>Q (aT m q)) l,λb o e=>?_,?_,F.iB,F.eS.fV (λt m o e=>j t o (λq=>Z (aT m q)) e) l,F.jq⟩,VA _,λd m=>.inl m,λb o e d d n=>⟨o.slots,j b o n e,λd=>rfl⟩,λb o e=>?_,l⟩
 ·exact j _ _ (λq=>by rw[q,Y]at e;exact aG e) (F.bn b o e)
 ·refine AH F.eA λJ U K o G e P=>?_
  by_cases q:K=L
  ·subst q;exact⟨z,x,p⟩
  ·exact⟨o,j _ _ q e,P⟩
 ·by_cases q:b=L
  ·subst q;exact⟨z,x⟩
  ·exact⟨o,j _ _ q e⟩
def cn.RK (F:cn W x y q z j h):W.cb.get? x.aK.locals=none:=Tj F.m8
def i7 {h:TV} (n:h.Ns a m):∃o,h.get? a=Sn o/\∀z,o.data≠.fields z:=by
 refine aQ λG y=>?_;refine mV n λo k p j w _=>?_;exact y ⟨o,j,λz q=>by replace q:=w▸q;cases q⟩
def cn.RN (o:x.n W d u) (F:cn W x r p f Z h) (P:∀(i:Nat) c v,(cX x.bq)[i]?=Sn c->p[i]?=Sn (Sn v)->∃y,m c=Sn y/\VR r v y) (s:h.Ns x.aK.locals m) (Y:(cX x.bq)[i]?=Sn c) (U:VR r v y) (J:t.Ns x.aK.locals (λz=>if z=c then Sn y else m z)) (L:UH x.aK.locals h t):
  cn W x r (p.set i v) f Z t/\cK W x.aK.locals r r h t:=by
 refine aQ λG M=>?_;refine aP (i7 s) λH g a=>?_;refine aP (i7 J) λC E e=>?_;refine(F.toaR.RF F.iS.1 F.iS.2 F.RK g a E e λb n=>L.2 b n).elim λG T=>?_;refine M ?_;refine⟨⟨G,by refine aa ?_ SS;exact F.oC,⟨_,J,λj Q w l k=>?_⟩,F.iS,F.m8,F.lZ,F.eT⟩,T⟩;by_cases q:i=j
 ·subst q
  rw[Y]at l;replace l:=Sv l;subst l;replace k:=Vq▸k;cases K:p[i]? with
  |none=>replace k:=K▸k;exact aG k
  |some z=>replace k:=K▸k;cases k;exact⟨y,if_pos rfl,U⟩
 ·rw[Ti q]at k
  refine aP (P j Q w l k) λz D B=>?_;refine⟨z,?_,B⟩;rewrite[if_neg];exact D;rintro rfl;exact q ((Xg o.ca).mp ((SO.mp Y).2.trans (SO.mp l).2.symm))
def AI (o:x.n W d u) (F:cn W x q z j r s.heap) (g:x.aK.kindOf p=Sn .local) (l:(cX x.bq)[i]?=p) (f:VR q v y) (h:∀w c,cn W x q (z.set i v) j r w->cK W x.aK.locals q q s.heap w->Q () {s with heap:=w,toks:=c}):Tg W.b A (storeName x.aK p y) Q E s:=by
 refine aP F.aL λm k e=>?_;refine wpAny_storeName_local g k (λw t b=>?_) (by refine aa ?_ o.dP;rfl);refine(F.RN o e k l f t b).elim λn a=>?_;exact h w _ n a
def AJ (o:x.n W d u) (f:b8 x.bq z=Sn .local) (m:eM z (cX x.bq)=Sn i):hK W x (.Name z j) (λv l c k=>if i<l.length then .aD (l.set i v) k else .ak):=λp e w k s v y F t Q E g=>aN (cE (ax.B (wpAny_bindName (AI o F ((o.i6 z _ f).resolve_right λq=>by cases q.1) (js m) t λn a Z Y=>((lK (P:=λr=>bu W x w p s r Q E) g λh=>h).2) p n a Y Z))))
def HT (o:x.n W d u) (D:b8 x.bq z=Sn .cell∨b8 x.bq z=Sn .free) (B:eM z (c9 x.bq)=Sn i):
  hK W x (.Name z m) (λv l c t=>match c[i]? with|some j=>(match t[j]? with|some (.a9 _)=>.aD l (t.set j (.a9 v))|_=>.ak)|none=>.ak):=by
 intro U N w t s v y F I Q E g;dsimp only at g;cases a:w[i]? with
 |none=>replace g:=a▸g;exact g.elim
 |some j=>
  rw[a]at g
  ·refine aQ λG H=>?_
   refine aP (ym (P:=λr=>bu W x w U s r Q E) g λh=>h) λv0 e g=>?_;refine aP (F.lZ i z j (js B) a) λc L M=>?_;refine aP (F.toaR.at e M) λy0 r0 A=>?_;refine aP A λC Z Y=>?_;refine H ?_;have k:∀p,p.IsCell c y->UH c s.heap p->Q .next {s with heap:=p}:=λp J sb=>by
    refine(F.toaR.RG (o:=.a9 v) M Z (λvs q=>by replace q:=Y▸q;cases q) (λb n=>sb.2 b n) ⟨Sn y,⟨y,rfl,I⟩,J⟩).elim λG T=>?_;exact g U p s.toks (.B T) (F.aD T G)
   have f:x.aK.kindOf z=Sn .cell∨x.aK.kindOf z=Sn .free:=by
    rcases D with q|q
    ·exact .inl ((o.i6 z _ q).resolve_right λq=>by cases q.1)
    ·rcases o.i6 z _ q with K|K
     ·exact .inr K
     ·exact .inl K.2
   refine aN (cE (ax.B (wpAny_bindName ?_)));rcases f with f|f
   ·exact wpAny_storeName_cell o.dP f L ⟨C,Z,Y⟩ k
   ·exact storeName_free o.dP f L ⟨C,Z,Y⟩ k
def HU (o:x.n W d u) (f:kY W) (hb:jm a=Sp) (T:gW.lookup j=Sn k) (e:bf W x a P):
  hK W x (.Attribute a j N) (λv l c H=>match P l c H with| .aj z H=>(match pQ z k v H with|some H=>.aD l H|none=>.ak)|_=>.ak):=by
 intro i J K H s v y F h Q E g;dsimp only at g;refine aN (cy (e i J K H s F _ E ?_));cases U:P J K H with
 |ak=>replace g:=U▸g;exact g.elim
 |bh t L=>replace g:=U▸g;exact g.elim
 |aj z L=>
  intro Y z' h' f_ Z rz G;rw[U]at g;induction z using V.casesOn<;>first|exact g.elim|skip
  obtain⟨b,ob,rfl,e1,e2,r⟩:=fM G rz;dsimp only[pQ]at g;rw[e2]at g
  set_option tactic.hygienic true in induction ob using O.casesOn<;>first|exact g.elim|skip
  rename_i c dd;dsimp only at g;cases B:L[dd]? with
  |none=>replace g:=B▸g;exact g.elim
  |some oo=>
   rw[B]at g
   set_option tactic.hygienic true in induction oo using O.casesOn<;>first|exact g.elim|skip
   rename_i p;dsimp only at g;by_cases m:p.length<=100
   case neg=>rw[if_neg m]at g;exact g.elim
   rw[if_pos m]at g;obtain⟨C,dx,es,n,hc,hd,hg,gd,D,I⟩:=sW G r B;have q:=f.ka c C hc;obtain⟨⟨⟨⟨q1,q2⟩,q3⟩,q4⟩,q5⟩:=v9 q;have lk:=D.IW T;refine aN (cE ?_);refine bT (Ui (HP (oN f.todf G) I q4 q3 ((q5 _ (iA T)).2) q2 ?_ ?_ λt tk ff hq=>?_))
   ·cases q:p.lookup k with
    |none=>rw[q]at lk;refine aa ?_ lk;rfl
    |some u=>rw[q]at lk;refine aP lk λw l1 _=>?_;refine aa ?_ l1;rfl
   ·exact aa (a5 (by assumption) rfl) D.bd
   ·refine qt ?_
    obtain⟨G',M⟩:=G.RG (o:=.aL _) hd gd (λvs q=>by cases q) (λb n=>TL _ _ (UC n)) ⟨_,_,(L3.c (P:=λp es=>NR Y W.iq (kP p k v) (putL j (Va W.iq j) (.str j t) y es)) ⟨⟨j,AC T,rfl,t,rfl⟩,(h.RA Z.cY),trivial⟩ (λA e p es D u f m=>by
      rewrite[Ed];unfold putL;refine aa ?_ (D.a T);by_cases q:A.1=k
      ·cases q
       exact aS ⟨D,(h.RA Z.cY),f⟩ (if_pos (beq_self_eq_true _)) (if_pos rfl)
      ·exact aS ⟨D,u,m⟩ (if_neg λz=>q (beq_iff_eq.mp z).symm) (if_neg q)) p es D),hq⟩
    exact g Y _ tk (.B (Z.A M)) ((F.aD Z G).aD M G')
def HV {q} (y:Wi s.heap l q n) (g:0<=k) (f:k.toNat<q.size) (u:X0 k=Sp) (m:∀c,Wi (s.heap.update l (Obj.mapSeq (·.setIfInBounds k.toNat v))) l (q.setIfInBounds k.toNat v) c->Q () {s with heap:=s.heap.update l (Obj.mapSeq (·.setIfInBounds k.toNat v))}):
  Tg (Tt z w) A (setItem (.ref l) (.int k t) v) Q E s:=by
 have p:s.TypeIs (.ref l) "list":=⟨_,y,rfl⟩
 refine Ui (Sw (wpAny_sequenceKey p rfl (Sw (Vr p slot_list_setitem
  (Uy slot_list_setitem p entry_list_setitem ?_ (args_list_setitem _ _ _))))))
 show Tg _ _ (Builtin.List.listSubscript? (.int k t)>>=_) _ _ s;refine Sw (wpAny_listSubscript_int u ?_);clear u;obtain⟨j,rfl⟩:=Int.eq_ofNat_of_zero_le g;refine Sw (Sw (wpAny_seqItemAt y rfl (SU ?_)));refine aa ?_ (Array.getElem?_eq_getElem f);exact Sw (wpAny_setSeqItemAt y rfl (Sw (SU (SU ⟨.none,rfl,SU (m _ (y.update _))⟩))))
def HW (r:bN z j q) (w:VR z v y) (k):(q.set k y).toArray=q.toArray.setIfInBounds k y:=by simp
set_option tactic.hygienic true in
def HX (o:x.n W d u) (f:kY W) (ha:bf W x a fa) (hb:bf W x b fb):
  hK W x (.Subscript a b pos) (λv l c Y=>match fa l c Y with| .aj z Y=>(match fb l c Y with| .aj y Y=>(match oh z y v Y with|some Y=>.aD l Y|none=>.ak)|_=>.ak)|_=>.ak):=by
 intro ρ J P Y s v y F rv Q E g;dsimp only at g;refine(cg (cy (ha ρ J P Y s F _ E ?_)) λr q j=>cg (cy j) λu z w=>aN (cE (cg (cy w) λl g k=>qt k)));cases hr:fa J P Y with
 |ak=>replace g:=hr▸g;exact g.elim
 |bh t c_=>replace g:=hr▸g;exact g.elim
 |aj z e=>
 intro C z' n_ J2 w rz N;replace g:=hr▸g;have U:=F.aD w N;dsimp only at g;refine hb C J P e _ U _ E ?_;cases T:fb J P e with
 |ak=>replace g:=T▸g;exact g.elim
 |bh t c_=>replace g:=T▸g;exact g.elim
 |aj q l_=>
 intro h q' E2 I j rq m;rw[T]at g;have L:=U.aD j m;have p:=(rv.RA w.cY).RA j.cY;have st:=w.A j;dsimp only at g;induction z using V.casesOn<;>first|exact g.elim|skip
 rename_i i;obtain⟨c,ob,rfl,e1,e2,r⟩:=fM m (rz.RA j.cY);dsimp only[oh]at g;rw[e2]at g;induction ob using O.casesOn<;>first|exact g.elim|skip
 ·rename_i xs
  dsimp only at g;induction q using V.casesOn<;>first|exact g.elim|skip
  refine aQ λG kG=>?_;rename_i k;obtain⟨t,rfl⟩:=rq;obtain⟨vs,n,rs,hl,il⟩:=r;dsimp only at g;refine kG ?_;by_cases B:(0<=k&&k<xs.length)=Sp
  case neg=>replace g:=(if_neg B)▸g;exact g.elim
  replace g:=(if_pos B)▸g;simp only[T3,decide_eq_true_eq]at B;have M:=rs.bd;refine .B (HV il B.1 (by refine aa (aa ?_ M) T4;exact(Int.toNat_lt B.1).mpr B.2) (fitsIndex_of B.1 (XW B.2 (UO (T7.mpr hl) (by decide)))) λn' H=>?_);rw[<-HW rs p]at H;refine(m.RG (o:=.ah _) e1 il (λvs q=>by cases q) (λb n=>TL _ _ (UC n)) ⟨_,_,rs.B p k.toNat,by simpa using hl,H⟩).elim λG' Z=>?_;exact g h _ I (.B (st.A Z)) (L.aD Z G')
 ·rename_i es
  dsimp only at g;by_cases hs:(eJ q es&&es.length<=1000)=Sp
  case neg=>rw[if_neg hs]at g;exact g.elim
  refine aQ λG kG=>?_;rw[if_pos hs]at g;simp only[T3,decide_eq_true_eq]at hs;refine r.elim λhl d=>?_;obtain⟨K,_,knd,k',m_,A,hd,M,hm,J5⟩:=d.b rq hs.1;obtain⟨oa,da,_,ga,_,gd,_⟩:=id hd;have o_:=v1 (k:=q) (v:=v) es;refine kG ?_;refine .B (wpAny_setItem_pairs A hd (λh' R_ sb=>?_) (by refine aa ?_ TO;exact j3 (aa hl M)))
  ·refine(m.RG (o:=.aE _) e1 ga (λvs q=>by rw[gd]at q;cases q) (λb n=>Av sb n) ⟨Sq o_ (a5 (SE hs.2) rfl),J5 v y h' p R_⟩).elim λG' Z=>?_
   exact g h _ _ (.B (st.A Z)) (L.aD Z G')
end
noncomputable abbrev PD:=V->bo->List Nat->List O->bC
noncomputable def i8:List PD->List V->bo->List Nat->List O->bC
 |[],[],l,_,σ=>.aD l σ
 |g::gs,v::vs,l,c,σ=>(g v l c σ).C λl σ=>i8 gs vs l c σ
 |_,_,_,_,_=>.ak
def HY (y):∀q l c z,dZ j G y q l c z=i8 (y.map λt v l c z=>eL j G t v l c z) q l c z:=by
 induction y with
 |nil=>intro q l c z;induction q using SD<;>rfl
 |cons t y w=>
  intro q l c z;induction q using SD with
  |nil=>rfl
  |cons v q=>exact congrArg _ (funext λl=>funext λz=>w q l c z)
def wc (h:cJ (hK W x) n i):∀p w j c s k u,cn W x p w j c s.heap->bN p k u->∀Q E,bu W x j p s (i8 i k w j c) Q E->
  ax W.b x.bO (X6 (n.map λt=>WB t x.aK) u) (λm e=>Q .next e) E s:=by
 induction h with
 |ao=>
  intro p w j c s k u F r Q E g;induction k using SD with
  |nil=>cases L2.ao r;exact bb (g p s.heap s.toks .E F)
  |cons _ _=>exact g.elim
 |ai h U a=>
  intro p w j c s k u F r Q E g;induction k using SD with
  |nil=>exact g.elim
  |cons v k=>
   induction u using SD with
   |nil=>exact r.elim
   |cons y u=>
    refine aN (cy (gC (h p w j c s v y F r.1 (λf e=>f=.next->ax W.b x.bO _ (λm d=>Q .next d) E e) E
     (bu.C g (λl o b G Z Y J K m=>?_) λf e P m q=>absurd q P)) (λm e z=>z rfl) λm m z=>z))
    exact a b l j o _ k u J (r.2.RA Y.cY) Q E K
def HZ (h:cD t=Sp):assignEach (t::z) q=(Su,WB t q)::assignEach z q:=by
 induction t using Uo<;>first|rfl|exact bv h
def sX (h:∀t∈z,cD t=Sp):assignEach z q=z.map λt=>(Su,WB t q):=by
 induction z with
 |nil=>rfl
 |cons t z y=>refine aa (aa ?_ (y λt m=>h t (.tail _ m))) (HZ (h t (.head _)));rfl
def we {W:bk} {T:S7} {q:Array SV} (p:A.handled=none) (r:s.heap.IsTuple T q) (u:y.length=q.size) (g:∀t∈y,cD t=Sp) (h:∀w,V7 s.heap.objs.size s.heap w->ax W.b A (X6 (y.map λt=>WB t z) q.toList) Q E {s with heap:=w}):ax W.b A (WB (.Tuple y k j) z (.ref T)) Q E s:=by
 rewrite[arm_assign_Tuple];refine aa ?_ (sX g);refine aN (cE ?_);unfold unpack;have l:(y.map λt=>(Su,WB t z)).length=q.size:=by refine aa ?_ (Sx _);exact u
 have f:(y.map λt=>(Su,WB t z)).findIdx? (·.1)=none:=by rewrite[List.findIdx?_eq_none_iff];simp
 have m:(y.map λt=>(Su,WB t z)).map (·.2)=y.map λt=>WB t z:=by refine aa ?_ Tp;rfl
 refine pL ?_ m f l;exact bT (Ui (wpAny_unpackItems_tuple p r h))
def wf (x:V7 h.objs.size h q):∀b o,h.get? b=Sn o->q.get? b=o:=λb o e=>x b o (SQ (Uk e)) e
def wg:swapsWithSole [t] v n q=swapsWith v t n q:=rfl
def cJ.bd (h:cJ r l m):l.length=m.length:=by
 induction h with
 |ao=>rfl
 |ai _ _ y=>exact congrArg (·+1) y
def AK (h:∀z k p,t≠.Tuple z k p) (y:∀z p,t≠.List z p):swappedStores [t] v q=T8 none:=by
 induction t using Uo<;>first|rfl|(exact absurd rfl (h _ _ _))|(exact absurd rfl (y _ _))
def H2 (h:∀y k p,v≠.Tuple y k p):swappedStores [.Tuple z k p] v q=T8 none:=by
 induction v using Uo<;>first|rfl|(exact absurd rfl (h _ _ _))
def AL {g:PD} (d:lL v=Su) (h:∀r k p,t≠.Tuple r k p) (o:∀r p,t≠.List r p) (n:cD t=Sp) (i:bf W x v f) (Z:hK W x t g):
  fO W x (.Assign [t] v w) (λl c q=>(f l c q).toS λv q=>g v l c q):=λY y j q s F Q E J=>by
 rewrite[arm_exec_Assign];refine aa (aa ?_ (wb d)) wg;refine aS ?_ (sX λG m=>by rw[SP.mp m];exact n) (AK h o);exact aN (cE (aN (bb (aN (i Y y j q s F _ E (bu.toS J λv u e K L P a b c U=>(aN (bb (cg (Z e y j u _ v K (F.aD a c) b Q E U) λM C z=>bb z)))))))))
def H3 (o:x.n W d u) (B:lL v=Su) (h:∀y k p,v≠.Tuple y k p) (N:∀t∈w,cD t=Sp) (I:bf W x v f) (H:cJ (hK W x) w C):
  fO W x (.Assign [.Tuple w k p] v P) (λl c g=>(f l c g).toS λv g=>match v with| .ab i=>(match g[i]? with|some (.aX y)=>if y.length=w.length then i8 C y l c g else .ak|_=>.ak)|_=>.ak):=λA e Z g s F Q E gd=>by
 rewrite[arm_exec_Assign];refine aa (aa ?_ (wb B)) wg;refine aS ?_ (sX λt' m=>by rw[SP.mp m];rfl) (H2 h);refine aN (cE (aN (bb ?_)));refine aN (I A e Z g s F _ E (bu.toS gd λv U G v' h' Y a b c q=>?_));refine aN (bb ?_);induction v using V.casesOn<;>first|exact q.elim|skip
 obtain⟨T,ob,rfl,e1,e2,r⟩:=fM c b;dsimp only at q;rw[e2]at q
 set_option tactic.hygienic true in induction ob using O.casesOn<;>first|exact q.elim|skip
 rename_i y;obtain⟨D,n,J,hl,il⟩:=r;dsimp only at q;by_cases j:y.length=w.length
 case neg=>rw[if_neg j]at q;exact q.elim
 rw[if_pos j]at q;refine cg (we (k:=k) o.fL (gH.b il) (by refine aa ?_ T4;exact(aa j.symm J.bd)) N λL hx=>?_) λζ s' z=>bb z;have M:=wf hx;exact wc H G e Z U {s with heap:=L,toks:=Y} y D ((F.aD a c).aD (.RA M) (c.RA M)) J Q E (bu.RB (s:={s with heap:=h',toks:=Y}) (.B (.RA M)) q)
noncomputable abbrev jM (i:Nat):PD:=λv l c σ=>if i<l.length then .aD (l.set i (Sn v)) σ else .ak
def H4 {z y:Type} {f:z->Option y} {l:List z}:(l.filterMap f).length=l.length->∀(j:Nat) b,(l.filterMap f)[j]?=Sn b->∃a,l[j]?=Sn a/\f a=b:=by
 induction l with
 |nil=>intro _ j b e;exact aG e
 |cons a l w=>
  intro h j b e;cases q:f a with
  |none=>
   rw[List.filterMap_cons_none q]at h;exact absurd (h▸List.length_filterMap_le f l) (Nat.not_succ_le_self _)
  |some c=>
   rw[List.filterMap_cons_some q]at h e;cases j with
   |zero=>replace e:=Sv e;subst e;exact⟨a,rfl,q⟩
   |succ j=>exact w (U6 h) j b e
def sY [Decidable c] {T:Sem z->Prop} (y:T a) (h:¬c->T b):T (if c then a else b):=if q:c then(if_pos q).symm▸y else(if_neg q).symm▸h q
theorem H5:∀{b},(!b)=Su->b=Sp
 |true,_=>rfl
def AM (h:¬(x||y)=Sp):x=Su/\y=Su:=Xw.mp (Bool.eq_false_iff.mpr h)
def H6 (ts:List TQ) (env:Env) (r:Sem (Option (List TR))):Prop:=r=T8 none∨∃names,r=T8 (Sn names)/\names.length=ts.length/\(ts.length=2∨ts.length=3)/\names.eraseDups.length=names.length/\
 ∀(j:Nat) nm,names[j]?=Sn nm->∃p,ts[j]?=Sn (.Name nm p)/\env.kindOf nm=Sn .local
def H7 (m:u.all (constantsAlone 8)=Su):H6 r z (swappedStores [.Tuple r k p] (.Tuple u l f) z):=by
 refine sY (.inl rfl) λc=>sY (.inl rfl) λt=>sY (.inl rfl) λd=>sY (.inl rfl) λt=>(if_neg (m▸Tw)).symm▸(.inr ⟨_,rfl,?_⟩)
 have w:=(Xw.mp (AM c).1).1;have y:=AM d;have g:=bne_eq_false_iff_eq.mp y.1;refine⟨g,?_,bne_eq_false_iff_eq.mp y.2,λj s e=>?_⟩
 ·exact((TZ.mp (H5 w)).imp SG SG)
 ·refine aP (H4 g j s e) λa w q=>?_
  induction a using Uo<;>first|exact aG q|skip
  obtain⟨o,q⟩:=V8.mp q;replace q:=Sv q;subst q;exact⟨_,w,SG (Sz.mp o).1⟩
noncomputable abbrev ni:=TR×Nat×V×SV
noncomputable def kZ (l:bo) (q:ni):bo:=l.set q.2.1 (Sn q.2.2.1)
def H8 (o:x.n W d u) (L:List ni):∀z s Q,cn W x y z j c s.heap->
  (∀q∈L,x.aK.kindOf q.1=Sn .local /\(cX x.bq)[q.2.1]?=q.1/\VR y q.2.2.1 q.2.2.2)->
  (∀w p,cn W x y (L.foldl kZ z) j c w->cK W x.aK.locals y y s.heap w->Q () {s with heap:=w,toks:=p})->
  Tg W.b A (X6 (L.map λq=>bindName x.aK q.1) (L.map λq=>q.2.2.2)) Q E s:=by
 induction L with
 |nil=>exact λz s Q F n h=>SU (h s.heap s.toks F .E)
 |cons q L t=>
  intro z s Q F e h;have k:=e q (.head _);exact Sw (Ui (wpAny_bindName (AI o F k.1 k.2.1 k.2.2 λw p b v=>(t _ {s with heap:=w,toks:=p} Q b (λq m=>e q (.tail _ m)) λr g l f=>h r g l (v.A f)))))
def AN (h:i<l.length):jM i v l c q=.aD (l.set i v) q:=if_pos h
def H9 (L:List ni):∀{l},(∀q∈L,q.2.1<l.length)->i8 (L.map λq=>jM q.2.1) (L.map λq=>q.2.2.1) l c z=.aD (L.foldl kZ l) z:=by
 induction L with
 |nil=>exact λw=>rfl
 |cons q L y=>
  intro l h;show bC.C (jM q.2.1 q.2.2.1 l c z) _=_;refine aa ?_ (AN (h q (.head _)));exact y λj m=>by refine aa ?_ SS;exact h j (.tail _ m)
def H' {L:List ni} (h:q.2.1∉L.map (·.2.1)):∀l,kZ (L.foldl kZ l) q=L.foldl kZ (kZ l q):=by
 induction L with
 |nil=>exact λy=>rfl
 |cons a L z=>
  intro l;rw[Tz,Tq,not_or]at h;exact(z h.2 _).trans (congrArg (L.foldl kZ) (List.set_comm _ _ (UC h.1)))
def Ia {L:List ni} (h:(L.map (·.2.1)).Nodup):∀l,L.reverse.foldl kZ l=L.foldl kZ l:=by
 induction L with
 |nil=>exact λy=>rfl
 |cons q L z=>
  intro l;rw[Tz,UG]at h;refine aa (aa ?_ List.foldl_append) List.reverse_cons;refine aa ?_ (z h.2 _);exact H' h.1 l
def Ib {w:List TR} {L:List ni} (h:∀q∈L,w[q.2.1]?=q.1) (z:(L.map (·.1)).Nodup):(L.map (·.2.1)).Nodup:=by
 induction L with
 |nil=>exact UY
 |cons q L k=>
  rw[Tz,UG]at z⊢;refine⟨λm=>z.1 ?_,k (λq m=>h q (.tail _ m)) z.2⟩;refine cW m λa y e=>?_;have j:=h a (.tail _ y);rw[e,h q (.head _)]at j;exact Sv j▸Tv y
structure If (W:bk) (x:c7) (ρ:List S7) (names:List TR) (vv:List V) (ys:List SV) (gs:List PD) (L:List ni):Prop where
 dm:names=L.map (·.1)
 Ic:vv=L.map (·.2.2.1)
 Id:ys=L.map (·.2.2.2)
 cI:gs=L.map λq=>jM q.2.1
 u7:∀q∈L,x.aK.kindOf q.1=Sn .local /\(cX x.bq)[q.2.1]?=Sn q.1/\VR ρ q.2.2.1 q.2.2.2
def Ie (z:List TR):∀{w} {l} {p},w.length=z.length->p.length=z.length->bN d w l->(∀(j:Nat) u,z[j]?=Sn u->∃i,x.aK.kindOf u=Sn .local /\(cX x.bq)[i]?=u/\p[j]?=(jM i))->∃L,If W x d z w l p L:=by
 induction z with
 |nil=>
  intro w l p f c r _;cases W1.mp f;cases W1.mp c;cases L2.ao r;exact⟨[],rfl,rfl,rfl,rfl,λQ m=>nomatch m⟩
 |cons u z s=>
  intro w l p f c r h;induction w using SD with
  |nil=>cases f
  |cons v w=>
   induction p using SD with
   |nil=>cases c
   |cons g p=>
    refine aQ λG o=>?_;refine ec (L2.ai r) λy l e0 b n=>?_;subst e0;refine dz (h 0 u rfl) λi k e t=>?_;replace t:=Sv t;subst t;obtain⟨L,q⟩:=s (U6 f) (U6 c) n λj=>h (j+1);refine o ?_;refine⟨(u,i,v,y)::L,congrArg (u::·) q.dm,congrArg (v::·) q.Ic,congrArg (y::·) q.Id,congrArg _ q.cI,λa m=>?_⟩;cases m with
    |head=>exact⟨k,e,b⟩
    |tail _ m=>exact q.u7 a m
def Ig:∀{l c z k j},de y l c z=.aj k j->k.length=y.length:=by
 induction y with
 |nil=>intro l c z k j h;cases h;rfl
 |cons f y m=>
  intro l c z k j h;change(f l c z).C (λx z=>(de y l c z).C λr z=>.aj (x::r) z)=_ at h;cases u:f l c z with
  |ak=>replace h:=u▸h;cases h
  |bh t q=>replace h:=u▸h;cases h
  |aj v q=>
   rw[u]at h;change(de y l c q).C (λr z=>.aj (v::r) z)=_ at h;cases p:de y l c q with
   |ak=>replace h:=p▸h;cases h
   |bh t q=>replace h:=p▸h;cases h
   |aj w g=>replace h:=p▸h;cases h;exact congrArg (·+1) (m p)
def Ih (h:l.length=2):∃a b,l=[a,b]:=by
 induction l using SD with
 |nil=>cases h
 |cons a l=>exact⟨a,by
  obtain⟨b,e⟩:=V6.mp (U6 h);exact⟨b,aa rfl e⟩⟩
def Ii:∀(n) (l:List TR),l.length<=n->l.eraseDups.length<=l.length:=by
 intro n;induction n with
 |zero=>intro l h;rw[XB (Nat.le_zero.mp h)];exact SJ _
 |succ n IH=>
  intro l h;induction l using SD with
  |nil=>exact SJ _
  |cons a l=>
   rw[List.eraseDups_cons];have q:=Vb (λb=> !b==a) l;exact SE (Sq (IH _ (Sq q (Xa h))) q)
def Ij {l:List TR}:l.eraseDups.length=l.length->l.Nodup:=by
 induction l with
 |nil=>exact λj=>UY
 |cons a l z=>
  intro h;rw[List.eraseDups_cons,TS,TS]at h;have w:=Vb (λb=> !b==a) l;have k:=Ii _ (l.filter λb=> !b==a) (SJ _);have y:(l.filter λb=> !b==a).length=l.length:=V0 w (U6 h▸k);have q:=List.length_filter_eq_length_iff.mp y;rw[List.filter_eq_self.mpr q]at h;rewrite[UG];refine⟨λm=>?_,z (U6 h)⟩;have:=q a m;rw[beq_self_eq_true]at this;exact bv this
def bu.tobO {k:List V->List O->bC} (g:bu W x w f s (match r with| .aj v m=>k v m| .bh t m=>.bh t m| .ak=>.ak) Q E) (o:∀p z q u j y,r=.aj p z->ck W f q s.heap j->bN q p u->aR W x.bD q z j->bu W x w q {s with heap:=j,toks:=y} (k p z) Q E->d u {s with heap:=j,toks:=y}):bL W x.bD f bN s r d E:=by
 cases l:r with
 |ak=>replace g:=l▸g;exact g.elim
 |bh t z=>rw[l]at g;exact λq e j y a b c=>g q e j y (.B a) b c.A
 |aj p z=>rw[l]at g;exact λq u j y a b c=>o p z q u j y l a b c (bu.RB (.B a) g)
def Ik (o:x.n W d u) (F:cn W x p j w r s.heap) (R:If W x p z l f c L) (e:z.Nodup) (g:bu W x w p s (i8 c l j w r) Q E):
  ax W.b x.bO (do X6 (XN (λn=>bindName x.aK n) z.reverse) f.reverse;T8 Flow.next) Q E s:=by
 obtain⟨rfl,rfl,rfl,rfl,h⟩:=R;rw[H9 L λq m=>aa ((SO.mp (h q m).2.1).1) F.oC]at g;refine aT (aT ?_ List.map_reverse) List.map_reverse;refine aa ?_ Tp;refine bT (H8 o L.reverse j s _ F (λq m=>h q (Yu.mp m)) λt b y k=>bb ?_);rw[Ia (Ib (λq m=>(h q m).2.1) e)]at y;exact g p t b k y
def Il (o:x.n W d u) (hl:B.length=J.length) (J_:J.length<=1000) (m:∀e∈J,cD e=Sp) (hp:∀t∈B,cD t=Sp) (hk:J.all (constantsAlone 8)=Su) (hv:cJ (bf W x) J a) (hg:cJ (hK W x) B f) (C:∀(j:Nat) A p,B[j]?=Sn (.Name A p)->x.aK.kindOf A=Sn .local ->∃i,eM A (cX x.bq)=Sn i/\f[j]?=(jM i)):
  fO W x (.Assign [.Tuple B k p] (.Tuple J k' p') g) (λl c T=>match de a l c T with| .aj J T=>i8 f J l c T| .bh t T=>.bh t T| .ak=>.ak):=λρ D y T s F Q E gd=>by
 refine aN (cE (aN (bb ?_)));refine aN (zq (sP hv m ρ D y T s F _ E (bu.tobO gd λvv v n M w U hr st r G g'=>?_)));have Y:M.length=J.length:=aa (aa hv.bd.symm (Ig hr)) r.bd;refine⟨by refine aS ?_ TO Y;exact a5 J_ rfl,?_⟩;have h:(w.push {cls:=.type "tuple",data:=.seq M.toArray}).IsTuple w.objs.size M.toArray:=gH.b (fv _ _ rfl);have Z:∀H,V7 (w.push {cls:=.type "tuple",data:=.seq M.toArray}).objs.size _ H->∀b o,w.get? b=Sn o->H.get? b=o:=λH K b o e=>wf K b o (SK _ e)
 generalize w.push {cls:=.type "tuple",data:=.seq M.toArray}=hT at h Z⊢;have N:=F.aD st G;have P:=λH kk=>bu.RB (w:=H) (k:=U) (cK.B (.RA kk)) g';rcases H7 hk with q|⟨I,q,n1,n2,n3,n4⟩
 ·refine aa ?_ q
  refine aN (bb (aN (gC (we (k:=k) o.fL h (by refine aa ?_ T4;exact aa hl Y) hp λH K=>?_) (λζ s' z=>bb z) λζ ζ z=>z)));exact wc hg n D y v {s with heap:=H,toks:=U} vv M (N.aD (.RA (Z H K)) (G.RA (Z H K))) r Q E (P H (Z H K))
 ·refine aa ?_ q
  have nl:I.length=M.length:=by refine aS ?_ Y n1;exact hl
  refine aN (bb ?_);refine aN (qq ?_);refine aa ?_ (show I.length=M.toArray.size from nl);refine bT (wpAny_unpackItems_tuple o.fL h λH K=>?_);obtain⟨L,R⟩:=Ie I (r.bd.symm.trans nl.symm) (by refine aa ?_ n1;exact hg.bd.symm) r λj A e=>by
   refine aQ λG kG=>?_;refine aP (n4 j A e) λpp e1 e2=>?_;refine aP (C j A pp e1 e2) λi e3 e4=>?_;refine kG ?_;exact⟨i,e2,js e3,e4⟩
  exact Ik (s:={s with heap:=H,toks:=U}) o (N.aD (.RA (Z H K)) (G.RA (Z H K))) R (Ij n3) (P H (Z H K))
def aR.RB {S:S7->Prop} (F:aR W j w g h) (k:∀b,¬S b->∀o,h.get? b=Sn o->y.get? b=Sn o) (p:∀b,S b->b∉w/\b∉W.c/\W.cb.get? b=none) (r:∀z∈j,∀L,z.frame=Sn L->∀o,h.get? L=Sn o->(∀u,o.data≠.fields u)->∃l,y.get? L=Sn l/\∀u,l.data≠.fields u) (f:∀c q,h.CodeRec c q->y.CodeRec c q):aR W j w g y:=by
 refine⟨F.cH.fU (λa m=>?_) f,λb o e=>k b (λq=>?_) o (F.bn b o e),AH F.eA λz d L o s e v=>r z d L s o e v,F.iB,F.eS.fV (λt m o e=>k t (λq=>(p t q).2.1 m) o e) f,F.jq⟩
 ·obtain⟨o,e⟩:=F.cH.gk m
  exact aa e.symm (k a (λq=>(p a q).1 m) o e)
 ·rw[(p b q).2.2]at e;exact aG e
structure k8 (h₀ h h':TV):Prop where
 fV:∀b o,h.get? b=Sn o->h₀.get? b≠none->∃sl,h'.get? b=Sn {o with slots:=sl}/\((∃vs,o.data=.fields vs)->sl=o.slots)
 gk:∀b o,h.get? b=Sn o->∃o',h'.get? b=Sn o'
 ij:∀cv q,h.CodeRec cv q->h'.CodeRec cv q
def k8.A (x:k8 z h j) (y:k8 z j w):k8 z h w:=
 ⟨λb o e n=>let⟨d,u,g⟩:=x.fV b o e n;let⟨k,l,f⟩:=y.fV b _ u n;⟨k,l,λp=>(f p).trans (g p)⟩,λb o e=>let⟨m,t⟩:=x.gk b o e;y.gk b m t,λr q c=>y.ij r q (x.ij r q c)⟩
def cK.RB (j:cK W L y k z h) (s:k8 z h p):cK W L y k z p:=
 ⟨j.cY,j.dw,λb o e g l f=>by
  refine aP (j.fV b o e g l f) λx m t=>?_;refine aP (s.fV b _ m (aa (λq=>nomatch q) e)) λw d v=>?_;exact⟨w,d,λr=>(v r).trans (t r)⟩,λb o e=>by
  obtain⟨n,i⟩:=j.gk b o e;exact s.gk b n i,λu q c=>s.ij u q (j.ij u q c)⟩
inductive QE (W:bk) (h₀:TV) (ρ:List S7) (told:V) (L:S7) (e:S7) (h:TV):Prop
 |mk (vs:Array SV) (dx:S7) (es:List Xl) (n:Nat) (T:S7) (ts:Array SV) (g:h.get? e=Sn {cls:=.ref 45,dict:=Sn dx,data:=.fields vs}) (gd:h.get? dx=Sn (VN es n)) (r:NR ρ W.iq [(0,told)] es) (l:4<vs.size)
  (nw:zy h₀ e dx) (o1:e∉ρ/\dx∉ρ) (o2:e∉W.c/\dx∉W.c) (hv:vs[1]?=Sn (.ref T)) (hn:h₀.get? T=none) (ne:T≠e) (nd:T≠dx) (nr:T∉ρ) (nt:T∉W.c) (gT:h.get? T=Sn {cls:=.type "traceback",data:=.fields ts}) (lt:3<ts.size) (z:ts[3]?=Sn (Vu L))
structure qJ (W:bk) (h₀:TV) (ρ:List S7) (told:V) (L:S7) (e:S7) (h:TV):Prop where
 aU:QE W h₀ ρ told L e h
section
def Im (G:aR W z j w h) (g:h.get? a=Sn {cls:=c,dict:=k,data:=.fields y}) (p:b∈z.filterMap (·.frame)):a≠b:=by
 rintro rfl;obtain⟨_,o,q,r⟩:=G.eA.mem p;rw[g]at q;replace q:=Sv q;subst q;exact r y rfl
def oR {h g:TV} {S:S7->Prop} (k:∀b,¬S b->∀o,h.get? b=Sn o->g.get? b=o) (s:∀b,S b->∀o j,h.get? b=Sn o->o.data=.fields j->(∀x t,j[1]?≠Sn (.str x t))∨∃u y,g.get? b=Sn u/\u.data=.fields y/\y[1]?=j[1]?):
  ∀l q,h.CodeRec l q->g.CodeRec l q:=by
 rintro l q ⟨c,f,j,e,d,p,r,m⟩;by_cases z:S c
 ·rcases s c z f j p r with w|⟨u,y,v,n,i⟩
  ·exact absurd m (w _ _)
  ·exact⟨c,u,y,e,d,v,n,i.trans m⟩
 ·exact⟨c,f,j,e,d,k c z f p,r,m⟩
def AO {s:Tf} (hA:A.frames=Sn (k::y)) (hf:k.frame=Sn L) (G:aR W (k::y) B σ s.heap) (N:∀b,g.get? b=s.heap.get? b) (a1:s.heap.get? e=Sn {cls:=.ref 45,dict:=Sn Y,data:=.fields vs}) (a2:s.heap.get? Y=(VN es n)) (a3:NR B W.iq [(0,P)] es) (a4:4<vs.size) (b:zy r e Y) (c:e∉B/\Y∉B) (d:e∉W.c/\Y∉W.c) (t1:∀x t,vs[1]?≠Sn (.str x t)) (hb:∀b,s.heap.get? b=none->r.get? b=none) (st:W.cb.StaysIn r) (f:∀a∈(k::y).filterMap (·.frame),(a∉W.c/\a∉B)/\r.get? a≠none) (h:∀J,aR W (k::y) B σ J->qJ W r B P L e J->k8 r s.heap J->Q () {s with heap:=J}):
  Tg M A (do let a<-frameOf k;let pl<-entryPlaceOf L hn;let b<-EntryCells.newEntry Z a .none (Vu L) .none pl;setField (.ref e) 1 b) Q E {s with heap:=g}:=by
 refine Sw (wpAny_frameOf_fun hA (G.RB (S:=λU=>False) (λb U o q=>(N b).trans q) (λU q=>q.elim) (λF U L' U o q hd=>⟨o,(N L').trans q,hd⟩) (oR (S:=λU=>False) (λb U o q=>(N b).trans q) λU q=>q.elim)).eA hf λj u=>?_);refine Sw (wpAny_entryPlaceOf λpl o_=>?_);refine Sw (UZ ?_ (o_.sizeOk5 _ _ _ _ _));have C:=λm=>Im G a1 m rfl;have eb:W.cb.get? e=none:=by
  cases z:W.cb.get? e with
  |none=>rfl
  |some o=>have:=st e o z;rw[b.1]at this;exact aG this
 have back:∀b,j.get? b=none->s.heap.get? b=none:=λb q=>by
  cases z:s.heap.get? b with
  |none=>rfl
  |some o=>
   obtain⟨T,w⟩:=u.2.2 b o ((N b).trans z);rw[q]at w;exact aG w
 have v:=back _ (Tj (SJ _));have LI:j.objs.size≠e:=λq=>by rw[q,a1]at v;exact aG v.symm
 have Sy:j.objs.size≠Y:=λq=>by rw[q,a2]at v;exact aG (UW v)
 have i:=SK {cls:=.type "traceback",dict:=none,data:=.fields ([Z,.ref L,.none,Vu L,.none]++(if pl.isEmpty then SI 6 Value.none else pl)).toArray} ((u.2.1 e C).trans ((N e).trans a1));refine VD i rfl (S8 (S2 rfl) a4) ?_;generalize F6:([Z,.ref L,.none,Vu L,.none]++_).toArray=tb at i⊢;have LQ:3<tb.size/\tb[3]?=(Vu L):=by subst F6;constructor<;>simp
 generalize H:((j.push {cls:=.type "traceback",data:=.fields tb}).update e (Obj.mapFields (·.setIfInBounds 1 (Wg j.objs.size))))=J;have ge:J.get? e=Sn {cls:=.ref 45,dict:=Y,data:=.fields (vs.setIfInBounds 1 (.ref j.objs.size))}:=by
  subst H;exact Ur _ i rfl
 have gT:J.get? j.objs.size=Sn {cls:=.type "traceback",data:=.fields tb}:=by
  subst H;exact(TL _ _ (UC LI)).trans (U4 j rfl)
 have go:∀b,b≠e->∀o,j.get? b=Sn o->J.get? b=o:=λb q o w=>by
  subst H;exact(TL _ _ (UC q)).trans (SK _ w)
 have kk:∀b,¬(b=e∨b∈(k::y).filterMap (·.frame))->∀o,s.heap.get? b=Sn o->J.get? b=o:=λb m o q=>go b (λz=>m (.inl z)) o ((λb m o q=>(u.2.1 b m).trans ((N b).trans q)) b (λz=>m (.inr z)) o q);have K:∀a,a∈(k::y).filterMap (·.frame)->∀o,s.heap.get? a=Sn o->∃T,J.get? a=Sn {o with slots:=T}:=λa m o q=>by
  obtain⟨T,w⟩:=u.2.2 a o ((N a).trans q);exact⟨T,go a (λz=>C (aT m z)) _ w⟩
 have cd:=oR kk λb q o k_ w wd=>by
  rcases q with rfl|q
  ·rw[a1]at w;replace w:=Sv w;subst w;cases wd;exact .inl t1
  ·obtain⟨_,o',l,E3⟩:=G.eA.mem q
   rw[w]at l;replace l:=Sv l;subst l;exact absurd wd (E3 k_)
 refine h J (G.RB kk (λb q=>?_) (λF F7 L' F8 o q hd=>?_) cd) ⟨_,Y,es,n,j.objs.size,tb,ge,?_,a3,by simpa using a4,b,c,d,?_,hb _ v,LI,Sy,?_,?_,gT,LQ.1,LQ.2⟩ ⟨λD o q nn=>?_,λD o q=>?_,cd⟩
 ·rcases q with rfl|q
  ·exact⟨c.1,d.1,eb⟩
  ·exact⟨(f b q).1.2,(f b q).1.1,(G.eA.mem q).1⟩
 ·obtain⟨T,w⟩:=K L' (UR.mpr ⟨F,F7,F8⟩) o q
  exact⟨_,w,hd⟩
 ·by_cases m:Y∈(k::y).filterMap (·.frame)
  ·exact absurd b.2 (f Y m).2
  ·exact kk Y (λq=>q.elim (λq=>b.3 q.symm) m) _ a2
 ·exact(UI (S8 (S2 rfl) a4))
 ·intro m
  obtain⟨o,w⟩:=G.cH.gk m;rw[v]at w;exact aG w
 ·intro m
  refine cW m λp hp q=>?_;refine aP (G.eS p hp) λps w _=>?_;rw[q,v]at w;exact aG w
 ·by_cases z:D∈(k::y).filterMap (·.frame)
  ·obtain⟨T,w⟩:=K D z o q
   obtain⟨_,o',l,E3⟩:=G.eA.mem z;rw[q]at l;replace l:=Sv l;subst l;exact⟨T,w,λ⟨k_,F8⟩=>absurd F8 (E3 k_)⟩
  ·exact⟨o.slots,kk D (λw=>w.elim (λw=>nn (aa b.1 w)) z) o q,λU=>rfl⟩
 ·by_cases z:D=e
  ·subst z;exact⟨_,ge⟩
  ·by_cases m:D∈(k::y).filterMap (·.frame)
   ·obtain⟨T,w⟩:=K D m o q
    exact⟨_,w⟩
   ·exact⟨o,kk D (λw=>w.elim z m) o q⟩
def AP {h:TV} {T} (g:h.get? T=Sn o) (y:f o=o) (z:o.isFreed=Su):∀b,(h.update T f).get? b=h.get? b:=λb=>by
 by_cases q:b=T
 ·subst q;refine aa ?_ (Ur f g (by rw[y];exact z));refine aa ?_ y;exact g.symm
 ·exact TL _ _ (UC q)
def wh (U:A.frames=Sn (w::j)) (o:w.frame=Sn L) (G:aR W (w::j) u F s.heap) (y:fk W z u p (Sn L) e s.heap) (C:∀b,s.heap.get? b=none->z.get? b=none) (D:W.cb.StaysIn z) (k:∀a∈(w::j).filterMap (·.frame),(a∉W.c/\a∉u)/\z.get? a≠none) (h:∀f,aR W (w::j) u F f->qJ W z u p L e f->k8 z s.heap f->Q () {s with heap:=f}):Tg M A (noteFrame (.ref e) w) Q E s:=by
 obtain⟨B,N,I,n,g,v,Z,Y,b,c,d,m⟩:=y.aU;unfold noteFrame;refine aa ?_ o;rcases m with m|⟨T,J,K,H,t3,t4,t5,t6,l,P,r⟩
 ·exact Sw (Ua g rfl m (AO U o G (λζ=>rfl) g v Z Y b c d (λx t q=>by replace q:=m▸q;cases q) C D k h))
 ·refine Sw (Ua g rfl K ?_)
  rcases r with r|⟨L',q,r⟩
  ·refine Sw (Ua l rfl r ?_)
   refine Sw (VD l rfl P ?_);have e3:J.setIfInBounds 3 Value.none=J:=by
    apply Array.ext_getElem?;intro i;by_cases q:i=3
    ·subst q;refine aa ?_ (UI P);exact r.symm
    ·exact(VV (UC q))
   exact AO U o G (AP l (by show Obj.mk _ _ _ _=_;dsimp only;exact aa rfl e3) rfl) g v Z Y b c d (λx t q=>by replace q:=K▸q;cases q) C D k h
  ·replace q:=Sv q;subst q
   exact Sw (Ua l rfl r (aa (SU (h s.heap G ⟨B,N,I,n,T,J,g,v,Z,Y,b,c,d,K,H,t3,t4,t5,t6,l,P,r⟩ ⟨λb o e z=>⟨o.slots,e,λz=>rfl⟩,λz o e=>⟨o,e⟩,λz z c=>c⟩)) (if_pos ((beq_self_eq_true _)))))
def wi (G:aR W (i::k) x σ s.heap) (y:qJ W j x p L e s.heap) (st:W.cb.StaysIn j) (h:∀u,aR W (i::k) x σ u->fk W j x p t e u->(∀g,t=Sn g->qJ W j x p g e u)->k8 j s.heap u->Q () {s with heap:=u}):Tg M A (setFlight (.ref e) t) Q E s:=by
 obtain⟨vs,Z,es,n,T,ts,F,a2,a3,a4,b,c,d,C,Y,J,K,D,B,P,N,t9⟩:=y.aU;refine Sw (Ua F rfl C ?_);refine VD P rfl N ?_;generalize I:(t.elim Value.none λf=>Vu f)=v;have a:=Ur (Obj.mapFields (·.setIfInBounds 3 v)) P rfl;have r:∀b,b≠T->(s.heap.update T (Obj.mapFields (·.setIfInBounds 3 v))).get? b=s.heap.get? b:=λb q=>TL _ _ (UC q);generalize s.heap.update T _=u at a r⊢;have H:W.cb.get? T=none:=by
  cases z:W.cb.get? T with
  |none=>rfl
  |some o=>have:=st T o z;rw[Y]at this;exact aG this
 have cd:=oR (λb m o q=>(r b m).trans q) λb q o k_ w wd=>by
  subst q;rw[P]at w;replace w:=Sv w;subst w;cases wd;exact .inr ⟨_,_,a,rfl,VV (by decide)⟩
 have l:_[3]?=Sn v:=UI N;have sz:3<(ts.setIfInBounds 3 v).size:=by simpa using N
 refine h u (G.RB (λb m o q=>(r b m).trans q) (λb q=>by subst q;exact⟨D,B,H⟩) (λaab F7 g F8 o q hd=>⟨o,(r g λz=>hd ts (by rw[z,P]at q;replace q:=Sv q;subst q;rfl)).trans q,hd⟩) cd)
  ⟨vs,Z,es,n,(r e (UC J)).trans F,(r Z (UC K)).trans a2,a3,a4,b,c,d,.inr ⟨T,_,C,Y,J,K,D,B,a,sz,?_⟩⟩ (λg q=>⟨vs,Z,es,n,T,_,(r e (UC J)).trans F,(r Z (UC K)).trans a2,a3,a4,b,c,d,C,Y,J,K,D,B,a,sz,?_⟩) ⟨λU o q nn=>⟨o.slots,(r U λz=>nn (aa Y z)).trans q,λζ=>rfl⟩,λU o q=>?_,cd⟩
 ·induction t using Tr with
  |none=>subst I;exact .inl l
  |some g=>subst I;exact .inr ⟨g,rfl,l⟩
 ·subst q;subst I;exact l
 ·by_cases z:U=T
  ·subst z;exact⟨_,a⟩
  ·exact⟨o,(r U z).trans q⟩
def wj (n:A.frames=Sn (j::z)) (i:j.frame=Sn L) (G:aR W (j::z) p d s.heap) (y:fk W q p w (Sn L) e s.heap) (x:∀b,s.heap.get? b=none->q.get? b=none) (o:W.cb.StaysIn q) (k:∀a∈(j::z).filterMap (·.frame),(a∉W.c/\a∉p)/\q.get? a≠none) (h:∀t,aR W (j::z) p d t->fk W q p w none e t->k8 q s.heap t->Q () {s with heap:=t}):Tg M A (leaving j (.ref e)) Q E s:=Sw (wh n i G y x o k λv r u g=>(wi r u o λl f m Z c=>h l f m (g.A c)))
end
structure c7.cf (x:c7):Prop where
 kU:∃outer,x.bD=x.aK::outer
 nj:x.aK.frame=Sn x.aK.locals
def qK (F:aR W y k p h) (G:aR W y z j r):∀a∈y.filterMap (·.frame),(a∉W.c/\a∉z)/\h.get? a≠none:=λa m=>by
 refine aP (UR.mp m) λw u g=>?_;obtain⟨l,f⟩:=G.iB w u a g;obtain⟨_,o,c,_⟩:=F.eA.mem m;exact⟨⟨f,l⟩,by refine aa (λq=>nomatch q) c⟩
def qL (M:Model) (A:Vj) (env:Env) (E:SV->Tf->Prop) (e:SV) (s:Tf):Prop:=
 ax M A (do
  if(<-field e 1)==.none then unsupported "frame.own-activation:exception-without-traceback"
  setFlight e env.frame) (λζ A_=>E e A_) E s
def In (W:bk) (x:c7) (E:SV->Tf->Prop) (e:SV) (s:Tf):Prop:=
 ax W.b x.bO (do noteFrame e x.aK;theTreesLotGoes e) (λζ s'=>qL W.b x.bO x.aK E e s') (qL W.b x.bO x.aK E) s
def bu.RE (o:x.n W d u) (a:x.cf) (F:cn W x i h j L s.heap) (g:bu W x j i s r Q E):bu W x j i s r Q (In W x E):=by
 induction r using bC.casesOn with
 |bh K M=>
  intro Z e N Y P G y;obtain⟨w,J⟩:=a.kU;have k:=qK F.toaR G;rw[a.nj]at y;rw[J]at G k;refine bT (wh (aT o.eA J) a.nj G y (λb q=>P.D q) F.bn k λU p z l=>.B (wpAny_theTreesLotGoes ?_));obtain⟨I,H,A,n,T,ts,D,a2,a3,a4,b,c,d,B,t2⟩:=id z.aU;exact bT (Ua D rfl B (.B (wi p z F.bn λf m t ζ v=>(g Z e f Y (P.RB (l.A v)) (by refine aa m J) t))))
 |_=>exact g
def bu.sd {f g:List O->bC} (m:bu W x p l s (r.toS λv j=>match v with| .aq Sp=>f j| .aq Su=>g j|_=>.ak) Q E) (o:bu W x p l s (r.toS λv j=>match v with| .aq Sp=>f j| .aq Su=>g j|_=>.ak) Q w) (n:∀b u z k y,ck W l z s.heap k->aR W x.bD z u k->bu W x p z {s with heap:=k,toks:=y} (if b then f u else g u) Q E->Z b {s with heap:=k,toks:=y}):bL W x.bD l fU s (fD r) Z w:=by
 rcases vI (r:=r)with q|⟨b,j,rfl,q⟩|⟨t,j,rfl,q⟩
 ·induction r using R.casesOn with
  |aj v j=>induction v using V.casesOn<;>first|exact m.elim|exact nomatch q
  |bh t j=>exact nomatch q
  |ak=>exact m.elim
 ·intro z d k y a e c
  subst e;refine n d j z k y a c ?_;induction d using SX<;>exact bu.RB (.B a) m
 ·exact λz e k y a b c=>o z e k y (.B a) b c.A
def Io (h:dj M A (.whileLoop z y q j) (λr k=>match r with| .ok f=>Q f k| .error e=>qL M A j E e k) s):ax M A (exec (.While z y q w) j) Q E s:=aN (cE (i4 (vp h rfl nofun)))
def Ip (o:x.n W d u) (e:x.cf) {w:dk} {B} (ht:fY W x t w) (hb:jt W x b B):
  fO W x (.While t b [] k) (λl c L=>mT (λl L=>B l c L) (λl L=>w l c L) jI l L):=by
 intro p T M L s F Q E g;refine Io ?_;generalize jI=n at g;induction n generalizing p T L s with
 |zero=>exact g.elim
 |succ n i=>
  refine gE rfl ?_;show ax W.b x.bO _ _ _ s;refine i4 ?_;change bu W x M p s ((w T M L).toS λv L=>match v with
   | .aq Sp=>(match B T M L with| .aD l L| .dR l L=>mT (λl L=>B l M L) (λl L=>w l M L) n l L| .eu l L=>.aD l L|r=>r)
   | .aq Su=>.aD T L
   |_=>.ak) Q E at g
  refine aN (ht p T M L s F _ _ (bu.sd g (bu.RE o e F g) λc C D h q st G U=>?_));have m:=F.aD st G;induction c using SX with
  |false=>
   refine cg (Z:=λf a=>f=.next/\a={s with heap:=h,toks:=q}) (bb ⟨rfl,rfl⟩) λf a z=>?_;obtain⟨rfl,rfl⟩:=z;exact bb (U D h q .E m)
  |true=>
   have Y:=bu.RE o e m U;refine aN (hb D T M C _ m _ _ ?_);cases A:B T M C with
   |aD l J=>
    rw[A]at U;exact λH N K I P=>bb ⟨rfl,rfl,i H l J _ P (bu.RB I U)⟩
   |dR l J=>
    rw[A]at U;exact λH N K I P=>bb ⟨rfl,rfl,i H l J _ P (bu.RB I U)⟩
   |eu l J=>
    rw[A]at U;exact λH N K I P=>bb (U H N K I P)
   |aO v J=>
    replace U:=A▸U;exact λH v' N K I y j=>bb (U H v' N K I y j)
   |bh told J=>replace Y:=A▸Y;exact Y
   |ak=>replace U:=A▸U;exact U.elim
noncomputable def sZ (ρ:List S7) (h:TV):List V->SV->Prop
 |[x],v=>VR ρ x v
 |[x,y],v=>∃T a b n,v=.ref T/\WO h T #[a,b] n/\VR ρ x a/\VR ρ y b
 |_,_=>False
structure hM (W:bk) (fr:List Env) (I:S7) (wr:List S7) (rows:List (List V)) (keep:Option Nat) (F9:List S7) (L_:List O) (St:Nat->TV->Prop):Prop where
 QH:I∈wr
 nj:∀i h h',St i h->(∀b∈wr,∀o,h.get? b=Sn o->h'.get? b=Sn o)->St i h'
 s6:∀i h,St i h->∀b∈wr,∃o vs,h.get? b=Sn o/\o.data=.fields vs/\∀x t,vs[1]?≠Sn (.str x t)
 Iq:∀{A:Vj} (hh:A.handled=none) (tg:TQ) (i:Nat) (row:List V) ρ σ (s:Tf) (Q:SV->Tf->Prop) (E:SV->Tf->Prop),(row.length=1->∃x p,tg=.Name x p)->(row.length=2->∃e k p,tg=.Tuple e k p)->rows[i]?=Sn row->St i s.heap->aR W fr ρ σ s.heap->bn keep L_ σ=Sp->F9<+:ρ->(∀b∈wr,b∉ρ)->
  (∀v h' tk,sZ ρ h' row v->St (i+1) h'->(∀b o,b∉wr->s.heap.get? b=Sn o->h'.get? b=Sn o)->Q v {s with heap:=h',toks:=tk})->
  Tg W.b A (pyNext (.ref I)) (λr s'=>∃v,r=Sn v/\Tg W.b A (letOwnedTupleGo tg (.ref I) v) (λζ A_=>Q v A_) E s') E s
 Ir:∀{A:Vj} (hh:A.handled=none) ρ σ (s:Tf) (Q:Option SV->Tf->Prop) (E:SV->Tf->Prop),St rows.length s.heap->aR W fr ρ σ s.heap->bn keep L_ σ=Sp->F9<+:ρ->(∀b∈wr,b∉ρ)->
  (∀h' tk,(∀b o,b∉wr->s.heap.get? b=Sn o->h'.get? b=Sn o)->Q none {s with heap:=h',toks:=tk})->Tg W.b A (pyNext (.ref I)) Q E s
 Is:∀{A:Vj} (i:Nat) (s:Tf) (Q:SV->Tf->Prop) (E:SV->Tf->Prop),St i s.heap->Q (.ref I) s->Tg W.b A (VQ (.ref I)) Q E s
def hM.RA {Z:List V} {g:Nat->TV->Prop} (l:∀i h j,g i h->(∀b∈[I],∀o,h.get? b=Sn o->j.get? b=Sn o)->g i j) (e:∀i h,g i h->∃o F,h.get? I=Sn o/\o.data=.fields F/\∀x t,F[1]?≠Sn (.str x t)) (d:∀{A} (n:A.handled=none) (i) (x:V) w u (s:Tf) (Q:Option SV->Tf->Prop) (E:SV->Tf->Prop),Z[i]?=x->g i s.heap->aR W a w u s.heap->bn r y u=Sp->z<+:w->I∉w->
   (∀v j f,VR w x v->g (i+1) j->(∀b o,b≠I->s.heap.get? b=Sn o->j.get? b=o)->Q v {s with heap:=j,toks:=f})->Tg W.b A (pyNext (.ref I)) Q E s) (done:∀{A:Vj} (n:A.handled=none) w u (s:Tf) (Q:Option SV->Tf->Prop) (E:SV->Tf->Prop),g Z.length s.heap->aR W a w u s.heap->bn r y u=Sp->z<+:w->I∉w->
   (∀j f,(∀b o,b≠I->s.heap.get? b=Sn o->j.get? b=Sn o)->Q none {s with heap:=j,toks:=f})->Tg W.b A (pyNext (.ref I)) Q E s) (self:∀{A:Vj} (i:Nat) (s:Tf) (Q:SV->Tf->Prop) (E:SV->Tf->Prop),g i s.heap->Q (.ref I) s->Tg W.b A (VQ (.ref I)) Q E s):
  hM W a I [I] (Z.map λx=>[x]) r z y g:=by
 refine⟨.head _,l,λi h c b m=>?_,?_,?_,self⟩
 ·exact aa (e i h c) (SP.mp m)
 ·intro A n N i C w u s Q E T _ M c G Y J K k
  rw[Ut,TX]at M;obtain⟨x,D,rfl⟩:=M;refine pU (T rfl) λH p e0=>?_;subst e0;exact d n i x w u s _ E D c G Y J (K I (.head _)) λv j f B P U=>⟨v,rfl,(SU (k v j f B P λb o L=>U b o λq=>L (by refine aa (.head _) q)))⟩
 ·intro A n w u s Q E c G Y J K k
  rw[Sx]at c;exact done n w u s Q E c G Y J (K I (.head _)) λj f U=>k j f λb o L=>U b o λq=>L (by refine aa (.head _) q)
def Iu (L:j[u]?=Sn d) (F:z[u]?=Sn (.ah Z)) (M:d≠I):
  hM W P I [I] (Z.map λx=>[x]) (Sn u) j z (λi h=>h.IsListIter I d i):=by
 have m:∀{g l h},aR W P g l h->bn u z l=Sp->j<+:g->∃f n,bN g Z f/\Wi h d f.toArray n:=λ{g l h} G w pre=>by
  have e:=SG w;rw[F]at e;obtain⟨f,n,r,_,c⟩:= G.at e (gG pre L);exact⟨f,n,r,c⟩
 refine hM.RA (λi h a w k=> w.at λo e=>k I (.head _) o e) (λi h w=>?_) ?_ ?_ ?_
 ·refine dz w λo C hc T=>?_
  exact⟨o,_,C,T,λx t q=>nomatch q⟩
 ·intro A U i v g l s Q E D w G p Y B k
  refine fh (m G p Y) λf n r c=>?_;refine aP (r.dg D) λy N H=>?_;exact wpAny_pyNext_list_item w (fm.b c) (by refine aa ?_ Uq;exact N) λa J sb=>k y a s.toks H J λb o K e=>(sb.2 b K).trans e
 ·intro A U g l s Q E w G p Y B k
  refine fh (m G p Y) λf n r c=>?_;exact wpAny_pyNext_list_end U w (fm.b c) (by refine aa ?_ Uq;rewrite[Yc];exact aa (SJ _) r.bd) λa ex=>k a s.toks λb o K e=>ex b o K e
 ·intro A i s Q E w h
  exact wpAny_pyIter_listiter w h
def AQ (g:∀{l f h},aR W P l f h->bn p j f=Sp->z<+:l->∃m n,bN l U m/\WO h d m.toArray n) (F:d≠I):
  hM W P I [I] (U.map λx=>[x]) p z j (λi h=>h.IsTupleIter I d i):=by
 refine hM.RA (λi h c w k=>?_) (λi h w=>?_) ?_ ?_ ?_
 ·refine aP w λo a r=>?_
  exact⟨o,k I (.head _) o a,r⟩
 ·refine aQ λG M=>?_
  refine dz w λo a hc C=>?_;exact M ⟨o,_,a,C,λx t q=>nomatch q⟩
 ·intro A L i v l f s Q E T w G u Z D k
  refine fh (g G u Z) λm n r Y=>?_;refine aP (r.dg T) λy B N=>?_;exact wpAny_pyNext_tuple_item w (gH.b Y) (by refine aa ?_ Uq;exact B) λc J H=>k y c s.toks N J λb o K e=>(H.2 b K).trans e
 ·intro A L l f s Q E w G u Z D k
  refine fh (g G u Z) λm n r Y=>?_;exact wpAny_pyNext_tuple_end L w (gH.b Y) (by refine aa ?_ Uq;rewrite[Yc];exact aa (SJ _) r.bd) λc ex=>k c s.toks λb o K e=>ex b o K e
 ·intro A i s Q E w h
  exact wpAny_pyIter_tupleiter w h
def Iv (Z:dt l):
  hM W a I [I] ((l.map λc:Nat=>V.ae c).map λx=>[x]) none y j (λi h=>WH h I (bz l) t i):=by
 refine hM.RA (λi h w z k=>?_) (λi h z=>?_) ?_ ?_ ?_
 ·refine aP z λo p r=>?_
  exact⟨o,k I (.head _) o p,r⟩
 ·refine aQ λG Y=>?_
  refine dz z λo p m J=>?_;exact Y ⟨o,_,p,J,λx t q=>nomatch q⟩
 ·intro A d i v K P s Q E n z G u U L k
  rw[Ut,TX]at n;obtain⟨c,m,rfl⟩:=n;obtain⟨F,M⟩:=vN Z m;exact KBw.next_item z F λw g C=>k _ w _ ⟨s.toks,aa rfl M⟩ g λb o f e=>(C.2 b f).trans e
 ·intro A d K P s Q E z G u U L k
  exact KBw.next_end d z (by rewrite[Array.getElem?_eq_none_iff];exact aS (SJ _) (Sx _) (fT _)) λw T=>k w s.toks λb o f e=>T b o f e
 ·intro A i s Q E z h
  exact KBw.pyIter_self z h
def Iw:
  hM W a I [I] (((Te n).map λi:Nat=>V.ae i).map λx=>[x]) none y j (λi h=>IsRangeIter h I i ((n)-i) 1):=by
 refine hM.RA (λi h w z k=>k I (.head _) _ z) (λi h z=>⟨_,_,z,rfl,λx t q=>nomatch q⟩) ?_ ?_ ?_
 ·intro A m i v Z Y s Q E d z G p J K k
  refine aQ λG P=>?_;rw[Ut,TX]at d;obtain⟨c,r,rfl⟩:=d;have u:i<n:=by have:=(SO.mp r).1;simpa using this
  have g:c=i:=by rw[List.getElem?_range u]at r;exact(Sv r).symm
  subst g;refine P ?_;refine wpAny_pyNext_range_item z (Int.sub_pos_of_lt (Ul.mpr u)) λw l U=>k _ w _ ⟨s.toks,rfl⟩ ?_ λb o f e=>(U.2 b f).trans e;have e:(c+1)=c+1:=rfl;exact aS l (show n-_=(n:Int)-c-1 from(Int.sub_sub _ _ _).symm) e
 ·intro A m Z Y s Q E z G p J K k
  rw[Sx,T6]at z;exact wpAny_pyNext_range_end m z (Int.le_of_eq (Int.sub_self _)) λw L=>k w s.toks λb o f e=>L b o f e
 ·intro A i s Q E z h
  exact wpAny_pyIter_rangeiter z h
structure AS (W:bk) (L:S7) (wr:List S7) (ρ:List S7) (h₀:TV):Prop where
 i5:∀b∈wr,b∉ρ/\b∉W.c/\W.cb.get? b=none/\b≠L/\h₀.get? b=none
def cK.RJ (w:cK W L y u z h) (a:AS W L r u z) (Q:∀b∈r,∃o l,h.get? b=Sn o/\o.data=.fields l/\∀x t,l[1]?≠Sn (.str x t)) (k:∀b o,b∉r->h.get? b=Sn o->g.get? b=Sn o):
  cK W L y u z g/\(∀p q,h.CodeRec p q->g.CodeRec p q):=by
 have s:=oR (λb m o e=>k b o m e) λb m o l e d=>by
  refine aQ λG Z=>?_;refine ec (Q b m) λv Y j f n=>?_;rw[e]at j;replace j:=Sv j;subst j;replace f:=d▸f;cases f;exact Z (.inl n)
 have i:∀b o,z.get? b=Sn o->b∉r:=λb o e m=>by rw[(a.i5 b m).2.2.2.2]at e;exact aG e
 refine⟨⟨w.cY,w.dw,λb o e J K P=>?_,λb o e=>?_,λp q c=>s p q (w.ij p q c)⟩,s⟩
 ·refine aP (w.fV b o e J K P) λU F q=>?_
  exact⟨U,k b _ (i b o e) F,q⟩
 ·obtain⟨v,j⟩:=w.gk b o e
  exact⟨v,k b _ (i b o e) j⟩
def cn.RJ (F:cn W x g z y f h) (a:AS W x.aK.locals u g j) (s:∀b∈u,∃o w,h.get? b=Sn o/\o.data=.fields w/\∀x t,w[1]?≠Sn (.str x t)) (k:∀b o,b∉u->h.get? b=Sn o->l.get? b=Sn o) (v:∀c q,h.CodeRec c q->l.CodeRec c q):cn W x g z y f l:=by
 have G:=F.toaR.RB (λb m o e=>k b o m e) (λb m=>⟨(a.i5 b m).1,(a.i5 b m).2.1,(a.i5 b m).2.2.1⟩) (λn K L P o e d=>⟨o,k L o (λm=>by
  refine ec (s L m) λU w p i _=>?_;rw[e]at p;replace p:=Sv p;subst p;exact d w i) e,d⟩) v
 obtain⟨m,⟨o,Q,Z,Y,r⟩,J⟩:=F.aL;exact⟨G,F.oC,⟨m,⟨o,Q,Z,k _ o (λq=>(a.i5 _ q).2.2.2.1 rfl) Y,r⟩,J⟩,F.iS,F.m8,F.lZ,F.eT⟩
inductive gJ:TQ->List TQ->Prop
 |a7 (x:TR) (p:Pos):gJ (.Name x p) [.Name x p]
 |qM (x y:TR) (p q r:Pos) (k:Nat):gJ (.Tuple [.Name x p,.Name y q] k r) [.Name x p,.Name y q]
def gJ.b (t:gJ q z) (h:z.length=1):∃x p,q=.Name x p:=by induction t using gJ.casesOn with|a7 x p=>exact⟨x,p,rfl⟩|qM=>simp at h
def gJ.c (t:gJ q z) (h:z.length=2):∃e k p,q=.Tuple e k p:=by induction t using gJ.casesOn with|a7=>simp at h|qM=>exact⟨_,_,_,rfl⟩
def Ix {r:bC}:r.C bC.aD=r:=by induction r using bC.casesOn<;>rfl
def Iy (o:x.n W d u) (t:gJ e l) (N:cJ (hK W x) l c) (F:cn W x U Z w P s.heap) (M:Y.length=l.length) (r:sZ U s.heap Y v) (g:bu W x w U s (i8 c Y Z w P) Q E):ax W.b x.bO (WB e x.aK v) (λA K=>Q .next K) E s:=by
 induction t using gJ.casesOn with
 |a7 J p=>
  cases N with
  |ai h I=>
   refine aQ λG j=>?_;cases I;obtain⟨a,rfl⟩:=V6.mp M;have L:bu W x w U s (bC.C _ bC.aD) Q E:=g;rw[Ix]at L;exact j (h U Z w P s a v F r Q E L)
 |qM J ny p q rr k=>
  refine aQ λG j=>?_;obtain⟨a,b,rfl⟩:=Ih M;obtain⟨T,y,z,n,rfl,H,D,C⟩:=r;refine j ?_;refine we o.fL (gH.b H) rfl (λt m=>?_) λi B=>?_
  ·cases m with
   |head=>rfl
   |tail _ m=>cases SP.mp m;rfl
  ·have f:=wf B
   exact wc N U Z w P {s with heap:=i} [a,b] [y,z] (F.aD (.RA f) (F.toaR.RA f)) ⟨D,C,trivial⟩ Q E (bu.RB (.B (.RA f)) g)
def Iz (c:∀v,U0 u z v=T8 v) (h:ax M A (eval u z) (λv j=>ax M A (VQ v) (λi w=>dj M A (.forLoop l i y q z) (λr m=>match r with| .ok f=>Q f m| .error e=>qL M A z E e m) w) E j) E s):ax M A (exec (.For l u y q g) z) Q E s:=aN (cE (cg h λv j k=>(aa (aN (bb (aN (cE (cg (cy k) λi w p=>(i4 (vp p rfl nofun))))))) (c _))))
def AT (o:x.n W d u) (t:gJ l w) (e:cJ (hK W x) w m) (F:cn W x k j q c s.heap) (b:y.length=w.length) (r:sZ k s.heap y v) (g:bu W x q k s (i8 m y j q c) (λf n=>f=.next->P () n) E):ax W.b x.bO (WB l x.aK v) P E s:=gC (Iy o t e F b r g) (λp p z=>z rfl) λp p z=>z
structure kg (W:bk) (x:c7) (wr:List S7) (St:Nat->TV->Prop) (F5:List S7) (be:List Nat) (F9:List S7) (h₀:TV) (i:Nat) (ρ:List S7) (loc:bo) (σ:List O) (h:TV):Prop where
 l6:cn W x ρ loc be σ h
 oS:St i h
 s7:F5<+:ρ
 k9:AS W x.aK.locals wr ρ h₀
 gn:cK W x.aK.locals F9 ρ h₀ h
section
def kg.RB {s} (a:hM W x.bD I d g l z k s) (L:kg W x d s z r y j i Q n Y h) (c:cK W x.aK.locals Q p h v) (F:cn W x p w r f v):kg W x d s z r y j i p w f v:=by
 have Z:=a.s6 _ _ L.oS;refine⟨F,a.nj _ _ _ L.oS λb m o e=>?_,L.s7.trans c.cY,(⟨λT D=>by
  obtain⟨B,N⟩:=L.k9.i5 T D;refine⟨λH=>?_,N⟩;rcases c.dw T H with A|A
  ·exact B A
  ·obtain⟨o,e⟩:=(λb m=>(Z b m).imp λo q=>q.elim λM q=>q.1) T D
   rw[e]at A;exact aG A.symm⟩),L.gn.A c⟩
 refine aQ λG J=>?_;refine ec (Z b m) λC K t P _=>?_;rw[e]at t;replace t:=Sv t;subst t;have u:=L.k9.i5 b m;refine aP (c.fV b o e u.1 u.2.1 u.2.2.2.1) λE U q=>?_;exact J (aa (aa rfl (q ⟨K,P⟩)) U)
def kg.Iq {Y} {j:Tf} (F:hM W x.bD I Z g l y w Y) (M:A.handled=none) (t:gJ J G) (L:kg W x Z Y y e p j.heap i n d a h) (N:g[i]?=Sn u) (H:u.length=G.length) (T:bn l w a=Sp) {P:SV->Tf->Prop} {R} (k:∀v s c,sZ n s u v->kg W x Z Y y e p j.heap (i+1) n d a s->P v {j with heap:=s,toks:=c}) (use:∀v Q,(∀{o},Tg W.b A (letOwnedTupleGo J (.ref I) v) (λf K=>P v K) o Q)->R v Q):Tg W.b A (pyNext (.ref I)) R E {j with heap:=h,toks:=B}:=
 Wt (F.Iq M J i u n a _ P (λf f=>False) (λq=>t.b (H▸q)) (λq=>t.c (H▸q)) N L.oS L.l6.toaR T L.s7 (λb m=>(L.k9.i5 b m).1) λv s c r U C=>k v s c r (have D:=F.s6 _ _ L.oS
  have q:=L.gn.RJ L.k9 D C
  ⟨L.l6.RJ L.k9 D C q.2,U,L.s7,L.k9,q.1⟩))
  (λr Q z=>z.elim λv z=>aa (use v Q (Wt z.2 (λf f z=>z) λf f z=>z.elim)) z.1) λf f z=>z.elim
def kg.Ir {s} {z:Tf} (t:hM W x.bD I d p r y j s) (n:A.handled=none) (L:kg W x d s y g w z.heap p.length c l e h) (i:bn r j e=Sp) {R} (k:∀f u,cK W x.aK.locals w c z.heap f->cn W x c l g e f->R none {z with heap:=f,toks:=u}):
  Tg W.b A (pyNext (.ref I)) R E {z with heap:=h,toks:=a}:=
 t.Ir n c e _ _ _ L.oS L.l6.toaR i L.s7 (λb m=>(L.k9.i5 b m).1) λf u o=>
  have v:=t.s6 _ _ L.oS;have q:=L.gn.RJ L.k9 v o
  k f u q.1 (L.l6.RJ L.k9 v o q.2)
end
section
def bu.RF (g:bu W x w p z (r.C k) Q E) (i:bu W x w s {z with heap:=h,toks:=n} (r.C k) Q u) (Y:∀l e y m j,cK W x.aK.locals s y h m->cn W x y l w e m->bu W x w p z (k l e) Q E->Z .next {z with heap:=m,toks:=j}) (o:∀f J,f≠.next->Z f J):bu W x w s {z with heap:=h,toks:=n} r Z u:=by
 induction r using bC.casesOn with
 |aD l d=>exact λy m j a b=>Y l d y m j a b g
 |eu l d=>exact λy m j a b=>o _ _ λq=>nomatch q
 |dR l d=>exact λy m j a b=>o _ _ λq=>nomatch q
 |aO v d=>exact λy K m j a b c=>o _ _ λq=>nomatch q
 |bh t d=>exact i
 |ak=>exact g
def bu.RH {x} {y} {k:bo->List O->bC} (s:cK W x.aK.locals j d y.heap h) (g:bu W x u j y (match r with| .aD l w| .dR l w=>k l w| .eu l w=>.aD l w| .aO v w=>.aO v w|_=>.ak) Q E) (o:∀l f q p z,cK W x.aK.locals d q h p->cn W x q l u f p->bu W x u j y (k l f) Q E->Z .next {y with heap:=p,toks:=z}/\Z .cont {y with heap:=p,toks:=z}) (n:∀m,Q .next m->Z .brk m) (i:∀v m,Q (.ret v) m->Z (.ret v) m):bu W x u d {y with heap:=h,toks:=Y} r Z e:=by
 induction r using bC.casesOn with
 |aD l w=>exact λq p z a b=>(o l w q p z a b g).1
 |dR l w=>exact λq p z a b=>(o l w q p z a b g).2
 |eu l w=>exact λq p z a b=>n _ (g q p z (s.A a) b)
 |aO v w=>exact λq J p z a b c=>i _ _ (g q J p z (s.A a) b c)
 |bh t w=>exact g.elim
 |ak=>exact g.elim
def bu.aY [Decidable c] (g:bu W x y q z (if c then r else .ak) Q E):c/\bu W x y q z r Q E:=by
 by_cases h:c
 ·rw[if_pos h]at g;exact⟨h,g⟩
 ·rw[if_neg h]at g;exact g.elim
end
def AU {l:List q} (h:l.drop i=a::r):l[i]?=a/\l.drop (i+1)=r:=by
 have e:=congrArg (·[0]?) h;simp only[V3,List.getElem?_cons_zero,Nat.add_zero]at e;exact⟨e,by refine aT (aa ?_ h) YR;rfl⟩
def AV {l:List q} (h:l.drop i=[]) (z:i<=l.length):i=l.length:=V0 z (List.drop_eq_nil_iff.mp h)
def IA (o:x.n W d u) (fn:x.cf) {St} (it:hM W x.bD I wr j k p y St) (t:gJ tg ts) (hg:cJ (hK W x) ts gs) (SR:∀m∈j,m.length=ts.length) (hb:jt W x J fb) (w):∀i,j.drop i=w->i<=j.length->∀ρ Z Y h tk,kg W x wr St p s c b.heap i ρ Z Y h->bn k y Y=Sp->
   bu W x s c b (ew (λl Y=>fb l s Y) (λm l Y=>i8 gs m l s Y) (bn k y) w Z Y) Q E->
   dj W.b x.bO (.forLoop tg (.ref I) J [] x.aK) (λr A=>match r with| .ok f=>Q f A| .error e=>qL W.b x.bO x.aK E e A) {b with heap:=h,toks:=tk}:=by
 induction w with
 |nil=>
  intro i hd hi ρ Z Y h tk L hs g;cases AV hd hi;refine gE (by rfl) ?_;show ax W.b x.bO _ _ _ _;exact i4 (aN (cE (aN (i4 (ax.B (L.Ir it o.fL hs λh' f_ sp F=>bb ⟨rfl,rfl,gE rfl (aN (i4 (bb (bb (g ρ h' f_ sp F)))))⟩))))))
 |cons m w ih=>
  intro i hd hi ρ Z Y h tk L hs g;obtain⟨n,G⟩:=AU hd;have K:=SR m (Th n);refine gE (by rfl) ?_;show ax W.b x.bO _ _ _ _;refine i4 ?_;refine aN (cE (aN (i4 (ax.B (L.Iq it o.fL t n K hs (λv h' f_ rv L'=>?_) λv A z=>bT z)))));refine aN (AT o t hg L'.l6 K rv (bu.RF g (bu.RE o fn L'.l6 (bu.RB L'.gn g)) (λl M C E2 M_ T P S_ ζ=>?_) λf A hf q=>absurd q hf));have U:=L'.RB it T P;refine aN (hb C l s M _ P _ _ (bu.RH U.gn S_ (λTF D B j_ N H T_ a=>?_) (λA q=>bb q) λv A q=>bb q))
  obtain⟨Bc,a⟩:=bu.aY a;have key:=ih (i+1) G (SO.mp n).1 B TF D j_ N (U.RB it H T_) Bc a;exact⟨bb ⟨rfl,rfl,key⟩,bb ⟨rfl,rfl,key⟩⟩
section
def AW {s:Tf} {Q:Fin->Tf->Prop} (j:A.handled=none) (k:V7 y s.heap h) (p:∀z e,V7 y s.heap z->(∃o,z.get? e=Sn o/\o.cls=.type "StopIteration")->E (.ref e) {s with heap:=z}):
  Tg (Tt q w) A SmallTypes.stopIteration Q E {s with heap:=h}:=by
 refine Sw ?_;refine Sw (UZ ?_ (by size_fits));refine Sw (Tc (a:=Value.none) (by first|rfl|(rw[firstArgMember];rfl)) ?_);refine UZ ?_ (by size_fits);refine Sw (wpAny_handled ?_);refine aa ?_ j;refine Sw (SU (wpAny_throw ?_));exact p _ _ ((k.push _).push _) ⟨_,U4 _ rfl,rfl⟩
def IB {q} (z:s.heap.IsTupleIter y l i) (f:s.heap.IsTuple l q) (m:q[i]?=Sn v) (c:∀r,r.IsTupleIter y l (i+1)->UH y s.heap r->Q v {s with heap:=r}):Tg (Tt j w) A (VK (.ref y)) Q E s:=by
 refine aQ λG e=>?_;refine dz (id z) λo p t k=>?_;obtain⟨d,u,_,b,g⟩:=f;refine e ?_;refine Sw (Vr z.typeIs U9
  (Uy U9 z.typeIs Xb ?_ (W5 _)))
 show Tg _ _ (field (.ref y) 0>>=_) _ _ s;refine Sw (Ua p k (x:=.ref l) rfl ?_);refine Sw (Ua p k (x:=.int i 0) rfl ?_);refine Sw (XI u g ?_);simp only[UL,m];exact Sw (VD p k ((Td _)) (SU ⟨v,rfl,SU (c _ ⟨_,Ur _ p (Obj.isFreed_of_fields (WU k _)),(Obj.cls_mapFields ..).trans t,by refine aa ?_ (WU k _);rw[Vu];rfl⟩ (WD ..))⟩))
def IC {q} (f:A.handled=none) (z:s.heap.IsTupleIter j l i) (m:s.heap.IsTuple l q) (c:q[i]?=none) (t:∀k e,V7 j s.heap k->(∃o,k.get? e=Sn o/\o.cls=.type "StopIteration")->E (.ref e) {s with heap:=k}):Tg (Tt y w) A (VK (.ref j)) Q E s:=by
 refine aQ λG d=>?_;refine dz (id z) λo p b r=>?_;obtain⟨v,u,_,n,g⟩:=m;refine d ?_;refine Sw (Vr z.typeIs U9
  (Uy U9 z.typeIs Xb ?_ (W5 _)))
 show Tg _ _ (field (.ref j) 0>>=_) _ _ s;refine Sw (Ua p r (x:=.ref l) rfl ?_);refine Sw (Ua p r (x:=.int i 0) rfl ?_);refine Sw (XI u g ?_);simp only[UL,c];exact Sw (Xs (Sw (VD p r ((SE (S6 _))) (AW f (WD ..).extBut t))))
def ID (q:WH s.heap z b t i) (r:b[i]?=Sn c) (u:∀p,WH p z b t (i+1)->UH z s.heap p->Q (.int (c.toNat:Int) s.toks) {s with heap:=p,toks:=s.toks+1}):Tg (Tt y w) A (VK (.ref z)) Q E s:=by
 refine aQ λG g=>?_;refine dz (id q) λo k l j=>?_;refine g ?_;refine Sw (Vr (Xx q) X7
  (Uy X7 (Xx q) KBw.entry_next ?_ (KBw.args_next _)))
 show Tg _ _ (field (.ref z) 0>>=_) _ _ s;refine Sw (Ua k j (x:=.bytes b t) rfl ?_);refine Sw (Ua k j (x:=.int i 0) rfl ?_);refine Sw (Tc rfl ?_);simp only[UL,r];exact Sw (VD k j ((Td _)) (Sw (wpAny_mkInt (SU ⟨_,rfl,SU (u _ ⟨_,Ur _ k (Obj.isFreed_of_fields (WU j _)),(Obj.cls_mapFields ..).trans l,by refine aa ?_ (WU j _);rw[Vu];rfl⟩ (WD ..))⟩))))
def IE (r:A.handled=none) (q:WH s.heap y b t i) (u:b[i]?=none) (g:∀j e,V7 y s.heap j->(∃o,j.get? e=Sn o/\o.cls=.type "StopIteration")->E (.ref e) {s with heap:=j}):Tg (Tt z w) A (VK (.ref y)) Q E s:=by
 refine aQ λG l=>?_;refine dz (id q) λo k f p=>?_;refine l ?_;refine Sw (Vr (Xx q) X7
  (Uy X7 (Xx q) KBw.entry_next ?_ (KBw.args_next _)))
 show Tg _ _ (field (.ref y) 0>>=_) _ _ s;refine Sw (Ua k p (x:=.bytes b t) rfl ?_);refine Sw (Ua k p (x:=.int i 0) rfl ?_);refine Sw (Tc rfl ?_);simp only[UL,u];exact Sw (Xs (Sw (VD k p ((SE (S6 _))) (AW r (WD ..).extBut g))))
end
def IF (e:A.handled=none) (j l) (f:l≠j) (q):
  Draws y w A j [j,l] q.size (λi v=>q[i]?=v) (λi h=>h.IsTupleIter j l i/\h.IsTuple l q)where
 live:=λg g z=>let⟨o,k,_⟩:=z.1;⟨o,k⟩
 frame:=λg g g z m=>⟨let⟨o,k,r⟩:=z.1;⟨o,m j ((.head _)) o k,r⟩,let⟨o,k,r⟩:=z.2;⟨o,m l ((.tail _ (.head _))) o k,r⟩⟩
 item:=λi s Q E c z t=>IB z.1 z.2 (v:=q[i]) (by simp[c]) λd p u=>(t _ d s.toks (by simp[c]) ⟨p,z.2.extBut u.extBut f⟩ u)
 done:=λs Q E z b=>IC e z.1 z.2 (by simp) b
def IG (f:A.handled=none) (j) (b) (t):
  Draws z w A j [j] b.size (λi v=>∃c u,b[i]?=Sn c/\v=.int (c.toNat:Int) u) (λi h=>WH h j b t i)where
 live:=λk k q=>let⟨o,p,_⟩:=q;⟨o,p⟩
 frame:=λk k k q m=>let⟨o,p,r⟩:=q;⟨o,m j ((.head _)) o p,r⟩
 item:=λi s Q E l q e=>ID q (c:=b[i]) (by simp[l]) λd y g=>(e _ d _ ⟨_,_,by simp[l],rfl⟩ y g)
 done:=λs Q E q n=>IE f q (by simp) n
def II (d:e≠H) {xs:List V} {w:Nat->TV->Prop} (l:∀i h F,w i h->(∀b∈[H],∀o,h.get? b=Sn o->F.get? b=Sn o)->w i F) (n:∀i h,w i h->∃o vs,h.get? H=Sn o/\o.data=.fields vs/\∀x t,vs[1]?≠Sn (.str x t)) (dr:∀{A} (hh:A.handled=none) {f σ h i},aR W fr f σ h->bn J g σ=Sp->u<+:f->H∉f->w i h->∃a P Z,Draws W.fJ W.bg A H a xs.length P Z/\(e∈a->(h.get? e).isNone)/\Z i h/\(∀j F,Z j F->w j F)/\∀v x,xs[i]?=Sn x->P i v->VR f x v):
  hM W fr e [e,H] (xs.zipIdx.map λ(x,i)=>[.ae (i),x]) J u g (λi h=>(∃y,IsEnum h e H i y)/\w i h):=by
 refine⟨.head _,λi h F I k=>?_,λi h I b m=>?_,?_,?_,?_⟩
 ·obtain⟨⟨y,r⟩,K⟩:=I
  exact⟨⟨y,k e (.head _) _ r⟩,l i h F K λb m o q=>k b (.tail _ m) o q⟩
 ·obtain⟨⟨y,r⟩,K⟩:=I
  rcases mU m with rfl|rfl
  ·exact⟨_,_,r,rfl,λx t q=>nomatch q⟩
  ·exact n i h K
 ·intro A hh tg i row f σ s Q E _ h2 hr I G hs hp hn k
  obtain⟨⟨y,r⟩,K⟩:=I;rw[Ut,TX]at hr;obtain⟨⟨x,j⟩,Y,rfl⟩:=hr;rw[List.getElem?_zipIdx,TX]at Y;obtain⟨x',Y,q⟩:=Y;cases q;refine yr (h2 rfl) λel kk p e0=>?_;subst e0;obtain⟨a,P,Z,D,U,M,L,C⟩:=dr (A:=A.in1) hh G hs hp (hn H ((.tail _ (.head _)))) K;have T:e∉a:=λm=>by have:=U m;rw[r]at this;exact bv this
  refine wpAny_pyNext_enum_itemD D r M ((SO.mp Y).1) d T λv F tk hP F7 B ht hz kb=>⟨_,rfl,?_⟩
  refine wpAny_letOwnedTupleGo_enum F7 λKE N sb=>?_;refine k _ KE _ ⟨s.heap.objs.size,_,_,0,rfl,(sb.2 _ (TB (Uk r))).trans ht,⟨tk,?_⟩,C v x Y hP⟩ ⟨⟨v,?_⟩,l _ _ _ (L _ _ B) λb m o q=>?_⟩ λb o c q=>?_
  ·simp
  ·have e1:(i+1)=i+1:=rfl
   exact aa N e1
  ·rw[SP.mp m]at q⊢
   exact(sb.2 _ (UC d)).trans q
  ·replace c:=Ej c
   exact(sb.2 _ c.1).trans (kb b o c.1 c.2 q)
 ·intro A hh f σ s Q E I G hs hp hn k
  obtain⟨⟨y,r⟩,K⟩:=I;rw[Sx,List.length_zipIdx]at r K;obtain⟨a,P,Z,D,U,M,L,C⟩:=dr (A:=A.in1) hh G hs hp (hn H (by simp)) K;refine wpAny_pyNext_enum_endD D r M λF ex=>k F s.toks λb o c q=>ex b o (λz=>c (by simp[z])) q
 ·intro A i s Q E I h
  obtain⟨⟨y,r⟩,_⟩:=I;exact wpAny_pyIter_enum r h
section
open AutoSeq1 (wpAny_loadPart')
def IJ (h:∀b,Q b s):Tg (Tt q w) A (T8 b) Q E s:=SU (h b)
def IL (v) (P:Tf->Prop) (z:Tf->Obj) (p:∀a,v=.ref a->True) (y:∀(q:Program) (w:World) (A:Vj) (E:SV->Tf->Prop) (s:Tf) (Q:SV->Tf->Prop),P s->Q (.ref s.heap.objs.size) {s with heap:=s.heap.push (z s)}->Tg (Tt q w) A (VQ v) Q E s):
  Meets (Builtin.«enumerate.__new__» ⟨[.type "enumerate",v],[]⟩) (λr R s=>P s/\R (.ok (.ret (.ref (s.heap.push (z s)).objs.size)))
    {s with heap:=(s.heap.push (z s)).push {cls:=.type "enumerate",data:=.fields #[.none,.bool Su,.ref s.heap.objs.size,Vu 0,.none,.none]}}):=
 .of_wp λq w A R s h=>by
  obtain⟨u,g,d,l,f⟩:=s;obtain⟨j,h⟩:=h;have k:=sub_enumerate
  wp_walk
  refine wpAny_stack_any λm=>IJ λb=>?_;induction b using SX
  ·wp_walk using(y _ _ _ _ _ _ j)
   exact⟨_,rfl,h⟩
  ·wp_walk using(y _ _ _ _ _ _ j)
   exact⟨_,rfl,h⟩
section
def AX {P:Tf->Prop} {z:Tf->Obj} (r:(z s).isFreed=Su) (u:P s) (g:∀(q) (w) (A) (E) (s) (Q),P s->Q (.ref s.heap.objs.size) {s with heap:=s.heap.push (z s)}->Tg (Tt q w) A (VQ v) Q E s) (h:∀y,IsEnum y (s.heap.objs.size+1) s.heap.objs.size 0 .none->y.get? s.heap.objs.size=(z s)->(∀b o,s.heap.get? b=Sn o->y.get? b=o)->Q (.ref (s.heap.objs.size+1)) {s with heap:=y}):
  Tg (Tt q w) A (Uv (.type "enumerate") [v]) Q E s:=by
 refine callType_new PySem.F.called_enumerate rfl (PySem.F.typeCall_enumerate_1 _) (PySem.F.newCall_enumerate_1 _) (λj=>PySem.F.args_object_init_2 j _) PySem.F.entry_enumerate_new
  (IL v P z (λl l=>trivial) g) ⟨u,?_⟩
 have k:(s.heap.push (z s)).objs.size=s.heap.objs.size+1:=XO ..;refine aa ?_ k;have p:IsEnum ((s.heap.push (z s)).push {cls:=.type "enumerate",data:=.fields #[.none,.bool Su,.ref s.heap.objs.size,Vu 0,.none,.none]}) (s.heap.objs.size+1) s.heap.objs.size 0 .none:=by
  have:=U4 (s.heap.push (z s)) (o:={cls:=.type "enumerate",data:=.fields #[.none,.bool Su,.ref s.heap.objs.size,Vu 0,.none,.none]}) rfl;rw[k]at this;exact this
 exact⟨⟨_,p,rfl⟩,h _ p (SK _ (U4 _ r)) λb o x=>SK _ (SK _ x)⟩
end
def fE (W:bk) (fr:List Env) (ρ:List S7) (s:Tf) (k:It) (r:R V) (Q:SV->Tf->Prop) (E:SV->Tf->Prop):Prop:=match r with
 | .aj v σ=>(match ej av k v σ with
  |some (rows,keep)=>∀b_ h' f_ I wr St,ck W ρ b_ s.heap h'->aR W fr b_ σ h'->hM W fr I wr rows keep b_ σ St->St 0 h'->(∀b∈wr,s.heap.get? b=none/\b∉b_/\b∉W.c)->Q (.ref I) {s with heap:=h',toks:=f_}
  |none=>False)
 | .bh told σ=>∀b_ e h' f_,ck W ρ b_ s.heap h'->aR W fr b_ σ h'->fk W s.heap b_ told none e h'->E (.ref e) {s with heap:=h',toks:=f_}
 | .ak=>False
def fE.RB (p:ck W o q s.heap z) (g:fE W f o s k r Q E):fE W f q {s with heap:=z,toks:=y} k r Q E:=by
 induction r using R.casesOn with
 |aj v u=>
  delta fE at g⊢;dsimp only at g⊢;generalize ej av k v u=X at g⊢;rcases X with _|⟨t,x⟩
  ·exact g
  ·exact λj l w I n i a b c d e=>g j l w I n i (p.A a) b c d λb m=>⟨p.D (e b m).1,(e b m).2⟩
 |bh t u=>exact λj e l w a b c=>g j e l w (p.A a) b (c.B λx=>p.D)
 |ak=>exact g
def oT (W:bk) (x:c7) (e:TQ) (k:It) (f:dk):Prop:=
 ∀ρ loc be σ s,cn W x ρ loc be σ s.heap->∀Q E,fE W x.bD ρ s k (f loc be σ) Q E->ax W.b x.bO (eval e x.aK) (λv BA=>ax W.b x.bO (VQ v) Q E BA) E s
def fE.uh (g:fE W w u s k r Q E) (l:∀v z q p j y,ck W u q s.heap j->VR q v p->aR W w q z j->fE W w q {s with heap:=j,toks:=y} k (.aj v z) Q E->Z p {s with heap:=j,toks:=y}):bL W w u VR s r Z E:=by
 induction r using R.casesOn with
 |aj v z=>exact λq p j y a b c=>l v z q p j y a b c (g.RB a)
 |bh t z=>exact g
 |ak=>exact g
def qN (G:aR W y z j h) (e:h.get? b=none):h.get? b=none/\b∉z/\b∉W.c:=by
 refine⟨e,λm=>?_,λm=>?_⟩
 ·obtain⟨o,q⟩:=G.cH.gk m
  rw[e]at q;exact aG q
 ·refine cW m λp w e0=>?_;subst e0
  refine aP (G.eS p w) λk q _=>?_;rw[e]at q;exact aG q
def oU (h:TV):h.get? h.objs.size=none:=Tj (SJ _)
def IM (f:ik W) (G:aR W Y M Z s.heap) (r:VR M v y) (g:fE W Y M s .cN (.aj v Z) Q E):Tg W.b A (VQ y) Q E s:=by
 have L:∀j,∀b o,s.heap.get? b=Sn o->(s.heap.push j).get? b=o:=λj b o e=>SK _ e;have N:=qN G (oU s.heap)
 set_option tactic.hygienic true in induction v using V.casesOn<;>first|exact g.elim|skip
 ·rename_i l
  obtain⟨k,t,rfl⟩:=r;delta fE ej at g;dsimp only at g;have e:(l.map λc=>[V.ae (c:Nat)])=(l.map λc:Nat=>V.ae c).map λx=>[x]:=by refine aa ?_ Tp;rfl
  replace g:=(e)▸g;exact KBw.pyIter_bytes (g M _ s.toks s.heap.objs.size _ _ (.RA (L _)) (G.RA (L _)) (Iv k) ⟨_,fv _ _ rfl,rfl,rfl⟩ λb m=>(aa N (SP.mp m)))
 ·rename_i i
  obtain⟨a,o,rfl,B,C,r⟩:=fM G r;have H:a≠s.heap.objs.size:=λq=>N.2.1 (aT (Th B) q);delta fE ej at g;dsimp only at g;rw[C]at g;induction o using O.casesOn<;>first|exact g.elim|skip
  ·rename_i D
   obtain⟨I,n,w,p,F⟩:=r;exact wpAny_pyIter_list (fm.b F) (g M _ s.toks s.heap.objs.size _ _ (.RA (L _)) (G.RA (L _)) (Iu B C H) ⟨_,fv _ _ rfl,rfl,rfl⟩ λb m=>(aa N (SP.mp m)))
  ·rename_i D
   obtain⟨I,n,w,p,F⟩:=r;refine XY (gH.b F) (g M _ s.toks s.heap.objs.size _ _ (.RA (L _)) (G.RA (L _)) (AQ (λ{J K U} P u pre=>?_) H) ⟨_,fv _ _ rfl,rfl,rfl⟩ λb m=>?_)
   ·have e:=SG u
    rw[C]at e;obtain⟨I,n,r,_,F⟩:= P.at e (gG pre B);exact⟨I,n,r,F⟩
   ·exact aa N (SP.mp m)
 ·rename_i a
  subst r;delta fE ej at g;dsimp only at g;cases z:av a with
  |none=>rw[z]at g;exact g.elim
  |some o=>
   rw[z]at g
   set_option tactic.hygienic true in induction o using O.casesOn<;>first|exact g.elim|skip
   rename_i D;have T:∀{J K U},aR W Y J K U->∃I n,bN J D I/\WO U a I.toArray n:=λ{J K U} P=>by
    refine aQ λG d=>?_;refine aP (qy f.oF P (v:=.bW a) z rfl) λb h r'=>?_;cases h;obtain⟨I,n,r,_,F⟩:=r';exact d ⟨I,n,r,F⟩
   refine fh (T G) λI n w F=>?_;have H:a≠s.heap.objs.size:=λq=>by have:=oU s.heap;rw[<-q,F]at this;exact aG (UW this)
   exact XY (gH.b F) (g M _ s.toks s.heap.objs.size _ _ (.RA (L _)) (G.RA (L _)) (AQ (λP ζ ζ=>T P) H) ⟨_,fv _ _ rfl,rfl,rfl⟩ λb m=>(aa N (SP.mp m)))
def IN (f:ik W) (h:bf W x e y):oT W x e .cN y:=λj q z w s F Q E g=>
 h j q z w s F _ E (g.uh λv k p m c u t r G l=>.B (IM f G r l))
def IO (h:n.natAbs<=1000000):-1000000<=n/\n<=1000000:=yo h
def IP (G:aR W l k f s.heap) (r:VR k v y) (g:fE W l k s .gU (.aj v f) Q E):Tg W.b A (Uv (.type "range") [y]) (λv j=>Tg W.b A (VQ v) Q E j) E s:=by
 set_option tactic.hygienic true in induction v using V.casesOn<;>first|exact g.elim|skip
 rename_i n;obtain⟨t,rfl⟩:=r;delta fE ej at g;dsimp only at g;by_cases u:n.natAbs<=1000000
 case neg=>rw[if_neg u]at g;exact g.elim
 rw[if_pos u]at g;refine call_range_1 ?_;have p:∀b o,s.heap.get? b=Sn o->(s.heap.push {cls:=.type "range",data:=.fields #[.int 0 s.toks,.int n t,.int 1 (s.toks+1)]}).get? b=o:=λb o e=>SK _ e;generalize h:s.heap.push {cls:=.type "range",data:=.fields #[.int 0 s.toks,.int n t,.int 1 _]}=z at p⊢;have a:IsRange z s.heap.objs.size 0 n 1 s.toks t (s.toks+1):=by subst h;exact fv _ _ rfl
 have Z:YE 0 n 1=n.toNat-0:=by
  refine aa ?_ (rangeSize_one _ _);by_cases q:0<n
  ·exact aa ((Yo n).trans ((Vv (Int.le_of_lt q)).symm.trans (Yo _).symm)) (if_pos q)
  ·exact aa (by rw[Int.toNat_of_nonpos (V4.mp q)];rfl) (if_neg q)
 refine wpAny_pyIter_range a ?_ ?_
 ·unfold Builtin.Range.small
  refine aa ?_ (rangeSize_one _ _);simp only[Builtin.Range.rangeFitsLong,T3,decide_eq_true_eq,Bool.or_eq_true];have b:=IO u;have q:∀m,m=n∨m=0->-2^63<=m/\m<2^63:=λm q=>q.elim (λq=>aa ⟨UO (by decide) b.1,V1 b.2 (by decide)⟩ q) λq=>aa ⟨by decide,by decide⟩ q;refine⟨⟨⟨⟨q _ (.inr rfl),q n (.inl rfl)⟩,by decide,by decide⟩,?_⟩,?_⟩
  ·split
   ·exact q _ (.inl (Yo n))
   ·exact q _ (.inr rfl)
  ·right
   refine aa ?_ (if_pos (by decide));simp only[T3,decide_eq_true_eq];exact q _ (.inl (Int.add_zero n))
 ·have c:∀b o,s.heap.get? b=Sn o->(z.push {cls:=.type "range_iterator",data:=.fields #[Vu 0,Vu (YE 0 n 1),Vu 1]}).get? b=o:=λb o e=>SK _ (p b o e)
  have e:((Te n.toNat).map λ(i:Nat)=>[V.ae i])=((Te n.toNat).map λi:Nat=>V.ae i).map λx=>[x]:=by refine aa ?_ Tp;rfl
  rw[e]at g;refine g k _ _ z.objs.size _ _ (.RA c) (G.RA c) Iw ?_ λb m=>?_
  ·exact aa (fv _ _ rfl) Z
  ·refine aa ?_ (SP.mp m)
   have d:=qN (G.RA p) (oU z);refine⟨?_,d.2⟩;cases q:s.heap.get? z.objs.size with
   |none=>rfl
   |some o=>have:=p _ _ q;rw[d.1]at this;exact aG this
end
def AY:de [z] l c q=(z l c q).C λv q=>.aj [v] q:=by
 dsimp only[de];cases z l c q<;>rfl
def AZ (o:x.n W d u) (f:df W) (U:b8 x.bq w=Sn .globalImplicit) (h:w∈qf) (L:Yj w=Sn y) (M:oM y) (C:bf W x e m) (T:cD e=Sp) (D:∀c b (s) v n Q E,aR W x.bD c b s.heap->VR c v n->fE W x.bD c s k (.aj v b) Q E->Tg W.b x.bO (Uv y [n]) (λu j=>Tg W.b x.bO (VQ u) Q E j) E s):oT W x (.Call (.Name w p) [e] [] i) k m:=by
 intro c a Z b s F Q E g;refine bT (oG o f.toik F.bn U (f.m9 w h) L ?_ ?_ ?_)
 ·intro q
  subst q;revert h;decide
 ·cases q:(w==_)with
  |false=>rfl
  |true=>
   rw[beq_iff_eq]at q;subst q;revert h;decide
 ·refine zV M (.ai C .ao) (by simpa using T) F ?_
  refine aa ?_ AY;cases Y:m a Z b with
  |ak=>replace g:=Y▸g;exact g.elim
  |bh t l=>replace g:=Y▸g;exact g
  |aj v l=>
   replace g:=(Y)▸g;intro J K H P B r G;rcases K with _|⟨n,_|⟨_,_⟩⟩<;>first|exact r.elim|exact r.2.elim|skip
   exact gC (ax.B (D J l _ v n Q E G r.1 (fE.RB B g))) (λu j z=>.B z) λI I z=>z
def wk {s:Tf} {e:List V} {y:Nat->TV->Prop} (G:aR W l f c s.heap) (g:∀q z d I n p,ck W f q s.heap z->aR W l q c z->hM W l I n (e.zipIdx.map λ(x,i)=>[.ae (i:Nat),x]) w q c p->p 0 z->(∀b∈n,s.heap.get? b=none/\b∉q/\b∉W.c)->Q (.ref I) {s with heap:=z,toks:=d}) (k:∀i h z,y i h->(∀b∈[s.heap.objs.size],∀o,h.get? b=Sn o->z.get? b=Sn o)->y i z) (r:∀i h,y i h->∃o a,h.get? s.heap.objs.size=Sn o/\o.data=.fields a/\∀x t,a[1]?≠Sn (.str x t)) (K:∀{A:Vj} (F:A.handled=none) {q u h i},aR W l q u h->bn w c u=Sp->f<+:q->s.heap.objs.size∉q->y i h->∃Z P p,Draws W.fJ W.bg A s.heap.objs.size Z e.length P p/\((s.heap.objs.size+1)∈Z->(h.get? (s.heap.objs.size+1)).isNone)/\p i h/\(∀j z,p j z->y j z)/\∀v x,e[i]?=Sn x->P i v->VR q x v) (Y:IsEnum z (s.heap.objs.size+1) s.heap.objs.size 0 .none) (U:y 0 z) (J:∀b o,s.heap.get? b=Sn o->z.get? b=o):Tg W.b A (VQ (.ref (s.heap.objs.size+1))) Q E {s with heap:=z}:=by
 refine wpAny_pyIter_enum Y (g f z s.toks _ _ _ (.RA J) (G.RA J) (II (Nat.succ_ne_self _) k r K) ⟨⟨_,Y⟩,U⟩ λb m=>?_);rcases mU m with rfl|rfl
 ·exact qN G (Tj ((Tx _)))
 ·exact qN G (oU _)
def IQ (f:ik W) (G:aR W fr ρ σ s.heap) (r:VR ρ v y) (g:fE W fr ρ s .jh (.aj v σ) Q E):Tg W.b A (Uv (.type "enumerate") [y]) (λu BA=>Tg W.b A (VQ u) Q E BA) E s:=by
 set_option tactic.hygienic true in induction v using V.casesOn<;>first|exact g.elim|skip
 ·rename_i l
  obtain⟨ok,t,rfl⟩:=r;delta fE ej at g;dsimp only at g;have e:(l.zipIdx.map λ(x)=>match x with|(c,i)=>[V.ae (i),V.ae (c)])=((l.map λc:Nat=>V.ae c).zipIdx.map λ(x,i)=>[V.ae (i),x]):=by
   refine aa ?_ List.zipIdx_map;refine aa ?_ Tp;rfl
  rw[e]at g;refine AX (P:=λζ=>True) rfl trivial (λJ w A E s Q ζ h=>KBw.pyIter_bytes h) λY he hi kk=>?_;refine wk G g (λi h Y p k=>?_) (λi h p=>?_) (λ{A'} hh {d Z h i} N p pre no ow=>⟨_,_,_,aT (IG hh s.heap.objs.size (bz l) t) (show(bz l).size=(l.map λc:Nat=>V.ae c).length by simp),λm=>?_,ow,λj Y z=>z,λv x I K=>?_⟩) he ⟨_,hi,rfl,rfl⟩ kk
  ·refine aP p λo F r=>?_;exact⟨o,k _ (.head _) o F,r⟩
  ·refine dz p λo F hc hd=>?_;exact⟨o,_,F,hd,λx t q=>nomatch q⟩
  ·simp at m
  ·obtain⟨c,u,h1,rfl⟩:=K
   rw[Ut,TX]at I;obtain⟨c',hc,rfl⟩:=I;obtain⟨M,h3⟩:=vN ok hc;rw[h1]at M;replace M:=Sv M;subst M;exact⟨u,aa rfl h3⟩
 ·rename_i i
  obtain⟨a,o,rfl,e1,e2,r⟩:=fM G r;have C:a≠s.heap.objs.size:=λq=>(qN G (oU s.heap)).2.1 (aT (Th e1) q);have U:a≠s.heap.objs.size+1:=λq=>absurd (G.cH.bX (Th e1)) (by refine aa ?_ q;exact TN.mpr (Tx _));delta fE ej at g;dsimp only at g;rw[e2]at g;induction o using O.casesOn<;>first|exact g.elim|skip
  rename_i xs;obtain⟨H,n,rs,hl,T⟩:=r;refine call_enumerate_list (fm.b T) λY he hi hz kk=>?_;refine wk (y:=λi h=>h.IsListIter s.heap.objs.size a i) G g (λi h Y p k=> p.at λo e=>k _ (.head _) o e) (λi h p=>?_) (λ{A'} hh {d Z h j} N p pre no ow=>?_) he hi kk
  ·refine dz p λo F hc hd=>?_;exact⟨o,_,F,hd,λx t q=>nomatch q⟩
  ·have e:Z[i]?=σ[i]?:=SG p
   rw[e2]at e;obtain⟨ws,n',L,_,B⟩:= N.at e (gG pre e1);have D:=Draws.list (prog:=W.fJ) (w:=W.bg) hh s.heap.objs.size a C ws.toArray;rw[show ws.toArray.size=xs.length by refine aa ?_ T4;exact L.bd]at D;refine⟨_,_,_,D,λm=>?_,⟨ow,fm.b B⟩,λj Y z=>z.1,λv x I K=>?_⟩
   ·rcases mU m with q|q
    ·exact absurd q (TB (Td _))
    ·exact absurd q.symm U
   ·obtain⟨y,h1,M⟩:=L.dg I
    rw[Uq,h1]at K;replace K:=Sv K;subst K;exact M
 ·rename_i a
  cases r;delta fE ej at g;dsimp only at g;cases hg:av a with
  |none=>rw[hg]at g;exact g.elim
  |some o=>
   rw[hg]at g
   set_option tactic.hygienic true in induction o using O.casesOn<;>first|exact g.elim|skip
   rename_i xs;have src:∀{d Z Y},aR W fr d Z Y->∃H n,bN d xs H/\WO Y a H.toArray n:=λ{d Z Y} N=>by
    refine aQ λG kG=>?_;refine aP (qy f.oF N (v:=.bW a) hg rfl) λb hb r'=>?_;cases hb;obtain⟨H,n,r,_,T⟩:=r';refine kG ?_;exact⟨H,n,r,T⟩
   refine fh (src G) λH n rs T=>?_;have C:a≠s.heap.objs.size:=λq=>by have:=oU s.heap;rw[<-q,T]at this;exact aG (UW this)
   have U:a≠s.heap.objs.size+1:=λq=>by have:s.heap.get? (s.heap.objs.size+1)=none:=Tj (Tx _);rw[<-q,T]at this;exact aG (UW this)
   refine AX rfl T (λJ w A E s Q ht h=>XY (gH.b ht) h) λY he hi kk=>?_;refine wk (y:=λi h=>h.IsTupleIter s.heap.objs.size a i) G g (λi h Y p k=>?_) (λi h p=>?_) (λ{A'} hh {d Z h j} N p pre no ow=>?_) he ⟨_,hi,rfl,rfl⟩ kk
   ·refine aP p λo F r=>?_;exact⟨o,k _ (.head _) o F,r⟩
   ·refine dz p λo F hc hd=>?_;exact⟨o,_,F,hd,λx t q=>nomatch q⟩
   ·obtain⟨ws,n',L,B⟩:=src N
    have D:=IF (y:=W.fJ) (w:=W.bg) hh s.heap.objs.size a C ws.toArray;rw[show ws.toArray.size=xs.length by refine aa ?_ T4;exact aa rfl L.bd]at D;refine⟨_,_,_,D,λm=>?_,⟨ow,gH.b B⟩,λj Y z=>z.1,λv x I K=>?_⟩
    ·rcases mU m with q|q
     ·exact absurd q (TB (Td _))
     ·exact absurd q.symm U
    ·obtain⟨y,h1,M⟩:=L.dg I
     rw[Uq,h1]at K;replace K:=Sv K;subst K;exact M
def IR (o:x.n W d u) (fn:x.cf) {f} (t:gJ D J) (hg:cJ (hK W x) J B) (hi:oT W x f k U) (hf:∀v,U0 f x.aK v=T8 v) (hb:jt W x r N):
  fO W x (.For D f r [] L) (λl c j=>(U l c j).toS λv j=>match ej av k v j with
   |some (z,w)=>if z.all (λy=>y.length==J.length)then ew (λl j=>N l c j) (λy l j=>i8 B y l c j) (bn w j) z l j else .ak
   |none=>.ak):=by
 intro H n Z j s F Q E g;refine Iz hf (hi H n Z j s F _ E ?_);dsimp only at g;cases M:U n Z j with
 |ak=>replace g:=M▸g;exact g.elim
 |bh A i=>replace g:=M▸g;exact λp e K h a b c=>g p e K h (.B a) b c.A
 |aj v i=>
  replace g:=M▸g;dsimp only[R.toS]at g;delta fE;dsimp only;cases Y:ej av k v i with
  |none=>rw[Y]at g;exact g.elim
  |some q=>
   obtain⟨z,w⟩:=q;replace g:=Y▸g;dsimp only at g⊢;by_cases P:(z.all λy=>y.length==J.length)=Sp
   case neg=>rw[if_neg P]at g;exact g.elim
   rw[if_pos P]at g;rw[SN]at P;refine λp K h I wr St st G it s0 hw=>IA o fn it t hg (λy m=>by simpa using P y m) hb z 0 rfl (S6 _) p n i K h ⟨(F.aD st G),s0,VA _,⟨λb m=>?_⟩,(.B st)⟩ ?_ g
   ·refine j4 (hw b m) λT h2 h3=>?_
    refine⟨h2,h3,oE F.bn T,?_,T⟩;rintro rfl;obtain⟨m,⟨o,_,_,ho,_⟩,_⟩:=F.aL;rw[T]at ho;exact aG ho
   ·unfold bn;induction w using Tr<;>simp
noncomputable def gp (env:Env):List (TR×NameKind)->List (TR×S7)->List (TR×S7)
 |[],acc=>acc
 |(n,k)::r,acc=>if k==.free then(match env.cells.lookup n with|some a=>gp env r ((n,a)::acc)|none=>gp env r acc)else gp env r acc
def A0:gp q (p::r) z=if p.2==.free then(match q.cells.lookup p.1 with|some a=>gp q r ((p.1,a)::z)|none=>gp q r z)else gp q r z:=rfl
def IS {env} {f} (hf:∀n k acc,f (n,k) acc=if k==.free then(do let a<-cellOf env n;T8 (.yield ((n,a)::acc)))else T8 (.yield acc)):
  ∀names acc,(∀x∈names,x.2=.free->(env.cells.lookup x.1).isSome=Sp)->forIn names acc f=(T8 (gp env names acc):Sem (List (TR×S7))):=by
 intro Q;induction Q with
 |nil=>intro acc _;exact rfl
 |cons P0 r IH=>
  obtain⟨n,k⟩:=P0;intro acc h;rewrite[Xv];refine aa ?_ (hf _ _ _);rewrite[A0];have hr:=λx m=>h x (.tail _ m);by_cases hk:(k==.free)=Sp
  ·refine aa (aa ?_ (if_pos hk)) (if_pos hk)
   obtain⟨a,ha⟩:=Ug.mp (h (n,k) (.head _) (by simpa using hk));unfold cellOf;exact aa (IH _ hr) ha
  ·exact aa (aa (IH _ hr) (if_neg hk)) (if_neg hk)
def wm (h:∀x∈q.names,x.2=.free->(z.cells.lookup x.1).isSome=Sp):Xy q z=T8 (gp z q.names []):=by
 unfold Xy;dsimp only;refine aa ?_ (IS (λn k y=>rfl) q.names [] h);rfl
def wn:∀{w} {j},(∀p∈j,u.cells.lookup p.1=p.2)->(n,Xf)∈w∨(∃a,(n,a)∈j)->(u.cells.lookup n).isSome=Sp->(gp u w j).lookup n=u.cells.lookup n:=by
 intro Q;induction Q with
 |nil=>
  intro j l y g;rcases y with y|⟨a,y⟩
  ·cases y
  ·induction j with
   |nil=>cases y
   |cons p r c=>
    obtain⟨k,b⟩:=p;refine aa ?_ T2;by_cases q:(n==k)=Sp
    ·refine aa ?_ q;rw[beq_iff_eq]at q;subst q
     exact(l _ (.head _)).symm
    ·rw[Yv]at q
     refine aa ?_ q;refine c (λp m=>l p (.tail _ m)) ?_;rcases Tq.mp y with z|z
     ·cases z;simp at q
     ·exact z
 |cons P0 r IH=>
  obtain⟨k,t⟩:=P0;intro j l y g;rewrite[A0]
  split
  ·rename_i f
   rw[beq_iff_eq]at f;subst f
   set_option tactic.hygienic true in split
   ·rename_i a e
    refine IH (λp m=>?_) ?_ g
    ·rcases Tq.mp m with rfl|m
     ·exact e
     ·exact l p m
    ·rcases y with y|⟨b,y⟩
     ·rcases Tq.mp y with z|z
      ·cases z;exact .inr ⟨a,.head _⟩
      ·exact .inl z
     ·exact .inr ⟨b,.tail _ y⟩
   ·rename_i e
    refine IH l ?_ g;rcases y with y|y
    ·rcases Tq.mp y with z|z
     ·cases z;replace g:=e▸g;exact bv g
     ·exact .inl z
    ·exact .inr y
  ·rename_i f
   refine IH l ?_ g;rcases y with y|y
   ·rcases Tq.mp y with z|z
    ·cases z;simp at f
    ·exact .inl z
   ·exact .inr y
def A2 {y} {f:z->Option y} {m:List y} (h:(c::l).mapM f=m):∃b q,f c=Sn b/\l.mapM f=Sn q/\m=b::q:=by
 rw[YT]at h;cases j:f c with
 |none=>rw[j]at h;exact aG h
 |some b=>
  replace h:=j▸h;cases w:l.mapM f with
  |none=>replace h:=w▸h;exact aG h
  |some q=>rw[w]at h;replace h:=Sv h;subst h;exact⟨b,q,rfl,rfl,rfl⟩
def wo {q z:Type} {f:q->Option z} {l:List q}:∀{m:List z},l.mapM f=m->∀{i:Nat} {a:q},l[i]?=a->∃b,f a=Sn b/\m[i]?=b:=by
 induction l with
 |nil=>intro m h i a e;exact aG e
 |cons c l y=>
  intro m h i a e;refine ec (A2 h) λb k j w e0=>?_;subst e0;cases i with
  |zero=>replace e:=Sv e;subst e;exact⟨b,j,rfl⟩
  |succ i=>exact y w e
def nk {q z:Type} {f:q->Option z} {l:List q}:∀{m:List z},l.mapM f=m->m.length=l.length:=by
 induction l with
 |nil=>intro m h;replace h:=Sv h;subst h;rfl
 |cons c l y=>
  intro m h;refine ec (A2 h) λb w k j e0=>?_;subst e0;exact congrArg (·+1) (y j)
def IT [Decidable c] (h:ax M A (k ()) Q E s):
  ax M A (if c then(Yf q>>=k)else k ()) Q E s:=by
 split
 ·exact aN (cE h)
 ·exact h
def IU (C:clausesOf e=g::gs) (hs:∀x,U0 g.iter j x=T8 x) (n:Xy q j=T8 H) (k:q.kind=.function) (c:∀x∈q.names,x.2= .local ->q.names.lookup x.1=Sn .local) (h:ax M A first (λx d=>ax M A (VQ x) (λit o=>ax M A w (λt b=>ax M A (Wd q j.globals H [] j.qual none .none j) (λz v=>
    dj M A (.compStart e 0 it t {z with scope:=Yh q j}) (λr J=>match r with
     | .error _=>False
     | .ok _=>match use with
      |none=>∃m,J.heap.Ns z.locals m/\∀p i,p.Ns z.locals i->UH z.locals J.heap p->Q t {J with heap:=p}
      |some u=>ax M A (u t) (λζ l=>∃m,l.heap.Ns z.locals m/\∀p i,p.Ns z.locals i->UH z.locals l.heap p->Q .none {l with heap:=p}) E J) v) E b) E o) E d) E s):
  ax M A (comprehension e q j F w Su first use) Q E s:=by
 unfold comprehension;refine aS ?_ C n;refine cg h λx d W=>aN (cE (bT (Tc (hs x) (cg (cy W) λit o K=>
  IT (cg K λt b P=>aN (bb (cg P λz v U=>?_)))))))
 dsimp only;have T:∀x∈(q.names.filter λx=>(x.2== .local ||x.2==.cell)&&x.1 !=(".0":TR)).reverse,x.2= .local ->
   Env.kindOf {z with scope:=Yh q j} x.1=Sn .local :=λx D L=>lookup_relabel_local (c x (Xz.mp (Yu.mp D)).1 L)
 have B:∀x∈(q.names.filter λx=>_&&x.1 !=_).reverse.drop 1++(q.names.filter λx=>_&&x.1 !=_).reverse.take 1,x.2= .local ->Env.kindOf {z with scope:=Yh q j} x.1=Sn .local :=λx D L=>by
  rcases Tn.mp D with N|N
  ·exact T x (Wv N) L
  ·exact T x (Wu N) L
 refine cy (aN (zn (cy (vp (m4 U λr J G=>?_) rfl nofun))));cases r with
 |error y=>exact G.elim
 |ok f=>
  induction use using Tr with
  |none=>
   refine aP G λm I G=>?_;exact bT (Ui (wpAny_comp_letGo k _ J m T I λp i a Z=>bb (G p i a Z)))
  |some u=>
   refine aN (qq (cg (cy G) λζ l Y=>?_));refine aP Y λm I Y=>?_;exact bT (wpAny_comp_letGo (cenv:={z with scope:=Yh q j}) k _ l m B I λp i a Z=>bb (Y p i a Z))
noncomputable def kh (x:c7) (sc:Ub) (C:S7):c7:={bO:=x.bO,aK:=compEnvC sc (gp x.aK sc.names []) C x.aK,bD:=x.bD,bq:=sc}
def IV {z:Env} {q:List (TR×NameKind)}:q.lookup y=Sn k->
  (q.map λ(n,k)=>if(k==Xf&&z.scope.kind==.function&&z.kindOf n==Sn .cell)then(n,NameKind.cell)else(n,k)).lookup y=k∨
  (k=.free/\(q.map λ(n,k)=>if(k==Xf&&z.scope.kind==.function&&z.kindOf n==Sn .cell)then(n,NameKind.cell)else(n,k)).lookup y=Sn .cell):=by
 induction q with
 |nil=>exact λh=>nomatch h
 |cons e r p=>
  obtain⟨n,u⟩:=e;refine λh=>aa ?_ Tz;dsimp only;rw[T2]at h;by_cases w:(u==Xf&&z.scope.kind==.function&&z.kindOf n==Sn .cell)=Sp
  ·refine aa (aa ?_ T2) (if_pos w)
   cases j:y==n with
   |true=>
    rw[j]at h;replace h:=Sv h;subst h;exact .inr ⟨SG (bH (bH w).1).1,rfl⟩
   |false=>rw[j]at h;exact p h
  ·refine aa (aa ?_ T2) (if_neg w)
   cases j:y==n with
   |true=>rw[j]at h;replace h:=Sv h;subst h;exact .inl rfl
   |false=>rw[j]at h;exact p h
structure A3 (sc:Ub):Prop where
 dP:sc.kind=.function
 ke:∀y∈sc.names,y.2≠.cell/\y.1≠au "__class__"
 ca:(cX sc).Nodup
 IW:∀y∈sc.names,(y.2 != .local ||sc.names.lookup y.1==Sn .local)=Sp
def la (q:lM z=Sp):A3 z:=by
 refine cZ q λq j=>?_;refine cZ q λq w=>?_;refine cZ q λk p=>?_;exact⟨SG k,λy m=>(Sz.mp (SN.mp p y m)).imp bne_iff_ne.mp bne_iff_ne.mp,of_decide_eq_true w,SN.mp j⟩
def A3.Bb (c:A3 y):∀x∈y.names,x.2= .local ->y.names.lookup x.1=Sn .local :=λx m q=>(TZ.mp (c.IW x m)).elim (λz=>absurd q (bne_iff_ne.mp z)) SG
def l7 (o:x.n W d u) (z:lM q=Sp):(kh x q C).n W d u:=⟨o.j9,o.lY,o.fL,o.eA,(la z).dP,o.bW,o.m7,(la z).ca,λy k h=>IV h⟩
def fZ (W:bk) (x:c7) (be:List Nat) (ρ:List S7) (s:Tf) (r:R V) (j:Nat) (acc:S7) (K:List S7->Tf->Prop):Prop:=match r with
 | .aj _ σ=>∀b_ h' f_ l,cK W x.aK.locals ρ b_ s.heap h'->cn W x b_ l be σ h'->b_[j]?=Sn acc->K b_ {s with heap:=h',toks:=f_}
 |_=>False
def wp (W:bk) (x:c7) (ifs:List TQ) (f:dk):Prop:=
 (ifs=[]/\f=λζ ζ σ=>.aj (.aq Sp) σ)∨∃c,ifs=[c]/\fY W x c f
def IX (y:f c Sp=(do let j<-Vk c q (eval c q);T8 (.yield j))) (h:ax M A (Vk c q (eval c q)) Q E s):ax M A (forIn [c] Sp f) Q E s:=by
 rewrite[Xv];refine aa ?_ y;exact aN (cg h λb w z=>bb (bb z))
def IY {z}:∀{q} {l},(∀i∈z,i<l.length)->mS z q l=Sn y->i8 (z.map jM) q l c j=.aD y j/\q.length=z.length:=by
 induction z with
 |nil=>
  intro q l _ h;induction q using SD with
  |nil=>replace h:=Sv h;subst h;exact⟨rfl,rfl⟩
  |cons=>exact aG h
 |cons t z k=>
  intro q l w h;induction q using SD with
  |nil=>exact aG h
  |cons v u=>
   obtain⟨p,r⟩:=k (λi m=>aa (w i (.tail _ m)) SS) h;refine⟨?_,congrArg (·+1) r⟩;show bC.C _ _=_;exact aa p (AN (w t (.head _)))
abbrev qO (K:List S7->Tf->Prop) (r:Result) (s':Tf):Prop:=match r with
 | .error _=>False
 | .ok _=>∃b_,K b_ s'
def fZ.aY {K} [Decidable c] (g:fZ W x q y s (if c then r else .ak) j z K):c/\fZ W x q y s r j z K:=by
 by_cases h:c
 ·rw[if_pos h]at g;exact⟨h,g⟩
 ·rw[if_neg h]at g;exact g.elim
section
def fZ.A {K} {k:bo->R V} (g:fZ W x y q z (match r with|none=>.ak|some l=>k l) j w K):∃l,r=Sn l/\fZ W x y q z (k l) j w K:=by
 induction r using Tr with
 |none=>exact g.elim
 |some l=>exact⟨l,rfl,g⟩
def fZ.RD {K} {m c:List O->R V} (g:fZ W x u q y (match r with| .aj (.aq Sp) p=>m p| .aj (.aq Su) p=>c p|_=>.ak) j l K) (o:∀b w z f k,ck W d z s.heap f->aR W x.bD z w f->fZ W x u q y (if b then m w else c w) j l K->Z b {s with heap:=f,toks:=k}):bL W x.bD d fU s (fD r) Z E:=by
 induction r using R.casesOn with
 |ak=>exact g.elim
 |bh t p=>exact g.elim
 |aj v p=>
  set_option tactic.hygienic true in induction v using V.casesOn<;>first|exact g.elim|skip
  rename_i b;intro z i f k n e G;cases e;induction b using SX<;>exact o _ p z f k n G g
def fZ.B {K} {i:List O->Bool} {k:List O->R V} (g:fZ W x f z p (match r with
    | .aj v q=>(match q[j]? with
     |some (.ah u)=>if cR (u.length+1)&&i (q.set j (.ah (u++[v])))then k (q.set j (.ah (u++[v])))else .ak
     |_=>.ak)
    |_=>.ak) j m K) (Y:∀v w u y d e l,w[j]?=Sn (.ah u)->cR (u.length+1)=Sp->i (w.set j (.ah (u++[v])))=Sp->ck W h y s.heap e->VR y v d->aR W x.bD y w e->fZ W x f z p (k (w.set j (.ah (u++[v])))) j m K->Z d {s with heap:=e,toks:=l}):db W x.bD h s r Z E:=by
 induction r using R.casesOn with
 |ak=>exact g.elim
 |bh t o=>exact g.elim
 |aj v o=>
  dsimp only at g;cases n:o[j]? with
  |none=>replace g:=n▸g;exact g.elim
  |some J=>
   rw[n]at g;induction J using O.casesOn<;>first|exact g.elim|skip
   obtain⟨Q,g⟩:=fZ.aY g;exact λy d e l a b c=>Y v o _ y d e l n (bH Q).1 (bH Q).2 a b c g
end
def IZ (f:df W) (G:aR W m k p s.heap) (e:p[j]?=Sn (.ah g)) (t:cR (g.length+1)=Sp) (d:k[j]?=Sn z) (r:VR k v l) (h:∀q u w y,ck W k q s.heap w->aR W m q (p.set j (.ah (g++[v]))) w->Q u {s with heap:=w,toks:=y}):ax W.b A (Uv (.builtin "list.append") [.ref z,l]) Q E s:=by
 refine Ax f G (qG e) (⟨z,d,rfl⟩) (u:=[v]) (j:=[l]) ⟨r,trivial⟩ Q E ?_;dsimp only[ei];refine aa ?_ e;dsimp only;exact aa (λq u w y a o c=>h q u w y a c) (if_pos t)
def I0 (o:x.n W d u) (f:df W) {St} (it:hM W x.bD I wr A M J Q St) {ite} (t:gJ tg ts) (hg:cJ (hK W x) ts (p_.map jM)) (F_:∀i∈p_,i<(cX x.bq).length) {fe fc:dk} (he:bf W x elt fe) (hc:wp W x ifs fc) {K} (C):∀(i:Nat),A.drop i=C->i<=A.length->∀ρ loc N h tk,kg W x wr St J s n l.heap i ρ loc N h->bn M Q N=Sp->ρ[j]?=Sn P->
   fZ W x s n l (fI av (λH N=>fe H s N) (λH N=>fc H s N) (bn M Q) p_ j C loc N) j P K->
   dj W.b x.bO (.compLoop (.ListComp elt [⟨tg,ite,ifs,0⟩] sc pos) 0 (.ref I) (.ref P) x.aK) (qO K) {l with heap:=h,toks:=tk}:=by
 induction C with
 |nil=>
  refine λi hd hi ρ loc N h tk L hs hj g=>aQ λG kG=>?_;cases AV hd hi;exact kG (gE (by rfl) (i4 (aN (cE (aN (ax.B (L.Ir it o.fL hs λh' f_ sp F=>bb ⟨ρ,g ρ h' f_ loc sp F hj⟩)))))))
 |cons row C ih=>
  intro i hd hi ρ loc N h tk L hs hj g;obtain⟨N_,U_⟩:=AU hd;refine aP (fZ.A g) λH VC g=>?_;obtain⟨J5,T⟩:=IY (λi m=>aa (F_ i m) L.l6.oC) VC;have T:row.length=ts.length:=aS ((Sx _).symm) hg.bd T;have next:∀{p Z l_ y k r w} {E},kg W x wr St J s n l.heap (i+1) p H l_ Z->p[j]?=P->cK W x.aK.locals p y Z k->cn W x y H s w k->bn M Q w=Sp->fZ W x s n l _ j P K->
    ax W.b x.bO (again _) (λfin s'=>match fin with
     | .done f=>qO K (.ok f) s'
     | .again c'=>c'.quiet=Sp/\iR c'=Su/\dj W.b x.bO c' (qO K) s') E {l with heap:=k,toks:=r}:=λD a q B Bc e=>
   bb ⟨rfl,rfl,ih (i+1) U_ (SO.mp N_).1 _ H _ _ _ (D.RB it q B) Bc (gG q.cY a) e⟩
  refine gE (by rfl) ?_;show ax W.b x.bO _ _ _ _;refine i4 ?_;refine aN (cE (aN (ax.B (L.Iq it o.fL t N_ T hs (λv h' f_ rv L'=>?_) λv s' z=>bT z))));refine aN (AT o t hg L'.l6 T rv (J5▸λp Z M_ O_ Y ζ=>?_));have D:=L'.RB it O_ Y;have a:=gG O_.cY hj;have emit:∀y k r w,cK W x.aK.locals p y Z k->cn W x y H s w k->fZ W x s n l (pR (λH N=>fe H s N) _ j _ H w) j P K->∀{E},ax W.b x.bO (do let _<-Uv _ [.ref P,<-eval elt x.aK]) (λζ s'=>ax W.b x.bO (again _) (λfin s'=>match fin with
     | .done f=>qO K (.ok f) s'
     | .again c'=>c'.quiet=Sp/\iR c'=Su/\dj W.b x.bO c' (qO K) s') E s') E {l with heap:=k,toks:=r}:=λy k r w q B e E=>aN (he y H s w _ B _ E (fZ.B e λv aac xs aad v' V_ aae hx hb Bc U Wc Pg Wn=>(aN (IZ f Pg hx hb (gG U.cY (gG q.cY a)) Wc λaaf u W_ aag PQ K1=>(bb (next D a ((q.A (.B U)).A (.B PQ)) ((B.aD U Pg).aD PQ K1) Bc Wn))))))
  rcases hc with⟨rfl,rfl⟩|⟨c,rfl,XS⟩
  ·exact aN (bb (aN (emit p Z M_ N .E Y g)))
  ·refine aN (IX rfl (XS p H s N _ Y _ _ (fZ.RD g λb w y k r q q_ e=>?_)))
   induction b using SX with
   |true=>
    exact aN (emit y k r w (.B q) (Y.aD q q_) e)
   |false=>
    obtain⟨Bc,e⟩:=fZ.aY e;exact next D a (.B q) (Y.aD q q_) Bc e
def wq (h:(n,Xf)∈q.names) (z:n≠au "__class__"):∃i:Nat,(c9 q)[i]?=n:=by
 have:n∈c9 q:=by
  unfold c9;rewrite[UR];exact⟨_,h,by simp only[or_true,true_and];exact if_pos z⟩
 obtain⟨i,y,e⟩:=U3 this;exact⟨i,by refine aa ?_ (S0 y);exact aa rfl e⟩
def s8 (z:lM q=Sp) (h:y∈q.names):y.1≠au "__class__"/\y.2≠.cell:=((la z).ke y h).symm
def qP (u:kR x.bq w=Sn z) (F:cn W x k y q g h) {i:Nat} (e:(c9 w)[i]?=Sn n):
  ∃b j c,z[i]?=Sn b/\q[b]?=Sn j/\x.aK.cells.lookup n=Sn c/\k[j]?=c:=by
 refine aQ λG l=>?_;refine aP (wo u e) λb f m=>?_;have p:=js f;have r:b<q.length:=aa ((SO.mp p).1) F.eT;refine aP (F.lZ b n q[b] p (S0 r)) λc t d=>?_;exact l ⟨b,q[b],c,m,S0 r,t,d⟩
def A5 (r:kR x.bq g=Sn q) (F:cn W x f k z t h):∃y,q.mapM (z[·]?)=Sn y:=by
 suffices H:∀l:List Nat,(∀b∈l,b<z.length)->∃y,l.mapM (z[·]?)=Sn y by
  refine H q λb m=>?_;refine aQ λG d=>?_;obtain⟨i,u,e⟩:=U3 m;have p:=(nk r)▸u;refine mV (qP r F (S0 p)) λn j c w o _=>?_;rw[S0 u,e]at w;replace w:=Sv w;subst w;exact d ((SO.mp o).1)
 intro l;induction l with
 |nil=>exact λa=>⟨[],rfl⟩
 |cons b l v=>
  intro h;obtain⟨y,e⟩:=v λc m=>h c (.tail _ m);exact⟨z[b]'(h b (.head _))::y,by refine aa (aa ?_ (S0 (h b (.head _)))) YT;refine aa ?_ e;rfl⟩
def qQ (sc:Ub) (te:TQ) (i:Nat):Prop:=∃nm p,te=.Name nm p/\b8 sc nm=Sn .local /\eM nm (cX sc)=Sn i
def I7 (o:x.n W d u) (h:cJ (qQ x.bq) z q):cJ (hK W x) z (q.map jM):=by
 induction h with
 |ao=>exact .ao
 |ai h k y=>
  refine ec h λr p e j w=>?_;exact .ai (aa (AJ o j w) e) y
def I8 (h:cJ (qQ y) j z):∀i∈z,i<(cX y).length:=by
 induction h with
 |ao=>exact λr m=>nomatch m
 |ai h u w=>
  refine ec h λg p e l k=>?_;exact λi m=>(Tq.mp m).elim (λq=>aa ((SO.mp (js k)).1) q) (w i)
noncomputable def nq (σ:List O):Option (List (List V)×Option Nat)->Prop
 |some (_,Sn i)=>i<σ.length
 |_=>True
def I9 (k) (v) (z):nq z (ej av k v z):=by
 cases k with
 |gU=>
  induction v using V.casesOn with
  |ae n=>
   show nq z (if n.natAbs<=1000000 then _ else _);by_cases q:n.natAbs<=1000000
   ·refine aa ?_ (if_pos q);trivial
   ·refine aa ?_ (if_neg q);trivial
  |_=>trivial
 |cN=>
  induction v using V.casesOn with
  |ab i=>
   show nq z (match z[i]? with|some (.ah y)=>Sn _|some (.aX y)=>Sn _|_=>none);cases e:z[i]? with
   |none=>trivial
   |some o=>induction o using O.casesOn<;>first|exact(SO.mp e).1|trivial
  |bW a=>
   show nq z (match av a with|some (.aX y)=>Sn _|_=>none);cases av a with
   |none=>trivial
   |some o=>induction o using O.casesOn<;>trivial
  |_=>trivial
 |jh=>
  induction v using V.casesOn with
  |ab i=>
   show nq z (match z[i]? with|some (.ah y)=>Sn _|_=>none);cases e:z[i]? with
   |none=>trivial
   |some o=>induction o using O.casesOn<;>first|exact(SO.mp e).1|trivial
  |bW a=>
   show nq z (match av a with|some (.aX y)=>Sn _|_=>none);cases av a with
   |none=>trivial
   |some o=>induction o using O.casesOn<;>trivial
  |_=>trivial
def jN (W:bk) (fr:List Env) (ρ:List S7) (s:Tf) (r:R V) (post:SV->S7->Tf->Prop) (E:SV->Tf->Prop):Prop:=match r with
 | .aj v c_=>∀b_ v' h' f_ C m,ck W ρ b_ s.heap h'->VR b_ v v'->aR W fr b_ c_ h'->h'.Ns C m->C∉b_->C∉W.c->s.heap.get? C=none->post v' C {s with heap:=h',toks:=f_}
 | .bh told c_=>∀b_ e h' f_,ck W ρ b_ s.heap h'->aR W fr b_ c_ h'->fk W s.heap b_ told none e h'->E (.ref e) {s with heap:=h',toks:=f_}
 | .ak=>False
noncomputable def qR (j:Nat):R V->Prop
 | .aj v _=>v=.ab j
 | .bh _ _=>False
 | .ak=>True
def I' {y} (w:∀z,qR j (k z)) (l) (z):qR j (pR f y j k l z):=by
 unfold pR;cases f l z with
 |aj v q=>
  dsimp only;cases q[j]? with
  |none=>trivial
  |some o=>
   induction o using O.casesOn with
   |ah p=>
    dsimp only;cases cR _&&y _
    ·trivial
    ·exact w _
   |_=>trivial
 |_=>trivial
def A6 {r} (z):∀l w,qR j (fI G u p r g j z l w):=by
 induction z with
 |nil=>exact λc c=>rfl
 |cons k f m=>
  intro l w;show qR j (match mS g k l with|none=>.ak|some y=>j2 u p r j _ y w);cases mS g k l with
  |none=>trivial
  |some y=>
   show qR j (j2 u p r j _ y w);unfold j2;cases p y w with
   |aj v q=>
    induction v using V.casesOn with
    |aq b=>
     induction b using SX with
     |true=>exact I' (m y) y q
     |false=>
      dsimp only;cases r q
      ·trivial
      ·exact m y _
    |_=>trivial
   |_=>trivial
def Ja {w} (h:fI G z y w k j q l r=.aj v p):v=.ab j:=by
 have:=A6 (G:=G) (u:=z) (p:=y) (r:=w) (g:=k) (j:=j) q l r;rw[h]at this;exact this
def cK.cH (y:cK W C j z h w) (k:h.get? C=none):ck W j z h w:=
 ⟨y.cY,y.dw,λb o e p r=>y.fV b o e p r λq=>by rw[q,k]at e;exact aG e,y.gk,y.ij⟩
noncomputable abbrev qS (k:It) (fi fe fc:dk) (nl:Nat) (p_ i_:List Nat):dk:=λl c σ=>(fi l c σ).C λv σ=>match ej av k v σ,i_.mapM (c[·]?)with
 |some (rows,keep),Sn cs=>fI av (λl' σ=>fe l' cs σ) (λl' σ=>fc l' cs σ) (bn keep σ) p_ σ.length rows (SI nl none) (σ++[.ah []])
 |_,_=>.ak
def A7 {W:bk} {z} {R} (g:dj W.b A (.compLoop (.ListComp q [⟨r,z,y,0⟩] u j) 0 p w k) R s) (l:∀Q E,Q p s->Tg W.b A (VQ p) Q E s):dj W.b A (.compStart (.ListComp q [⟨r,z,y,0⟩] u j) 0 p w k) R s:=by
 refine gE rfl ?_;show ax W.b A _ _ _ _;refine i4 ?_;refine aN (ax.B (Yt ?_))
 split
 ·exact bb ⟨rfl,rfl,g⟩
 ·exact aN (qq (aN (cE (aN (ax.B (l _ _ (bb ⟨rfl,rfl,g⟩)))))))
def RC (post:SV->S7->Tf->Prop) (acc:SV) (C:S7) (r:Result) (s':Tf):Prop:=match r with
 | .error _=>False
 | .ok _=>post acc C s'
def Jb (o:x.n W d u) (f:df W) {ite} {fe fc:dk} (hk:lM J=Sp) (t:gJ tg ts) (F_:cJ (qQ J) ts p_) (U:kR x.bq J=Sn N) (hi:oT W x ite k fi) (he:∀C,bf W (kh x J C) elt fe) (hc:∀C,wp W (kh x J C) ifs fc) (F:cn W x ρ D B H s.heap) (g:jN W x.bD ρ s (qS k fi fe fc (cX J).length p_ N D B H) post E):
  ax W.b x.bO (eval ite x.aK) (λv BA=>ax W.b x.bO (VQ v) (λit t_=>ax W.b x.bO (newList []) (λacc E4=>ax W.b x.bO (Wd J x.aK.globals (gp x.aK J.names []) [] x.aK.qual none .none x.aK) (λA E5=>
   dj W.b x.bO (.compStart (.ListComp elt [⟨tg,ite,ifs,0⟩] J pos) 0 it acc {A with scope:=Yh J x.aK}) (RC post acc A.locals) E5) E E4) E t_) E BA) E s:=by
 refine hi ρ D B H s F _ E ?_;obtain⟨cs,Cx⟩:=A5 U F;dsimp only[qS]at g;cases hr:fi D B H with
 |ak=>rw[hr]at g;exact g.elim
 |bh told P=>rw[hr]at g;exact g
 |aj v P=>
  rw[hr]at g;dsimp only[R.C]at g;dsimp only[fE];cases hit:ej av k v P with
  |none=>rw[hit]at g;exact g.elim
  |some q=>
   obtain⟨rows,keep⟩:=q;rw[hit,Cx]at g;dsimp only at g⊢;intro Z w aah I wr St Y G it s0 hw;have E1:=F.aD Y G;refine .B (wpAny_newList ?_ (S6 _));refine ax.B (VL (λy m=>(s8 hk m).2) (λζ m=>by cases m) (λL r_ u_=>?_) ((la hk).dP));dsimp only;have a:∀b o,w.get? b=Sn o->(w.push {cls:=.type "list",data:=.seq #[]}).get? b=o:=λb o e=>SK _ e;generalize PR:w.push _=n at r_ u_ a;have K2:w.get? w.objs.size=none:=Tj (SJ _)
   have M:aR W x.bD _ (P++[.ah []]) n:=G.dC a K2 ⟨[],0,trivial,S6 _,aT (fv _ _ rfl) PR⟩;have hC:n.get? n.objs.size=none:=Tj (SJ _);have P1:∀b o,n.get? b=Sn o->L.get? b=o:=λb o e=>by
    refine aa ?_ (u_.2 b (SQ (Uk e)));exact SK _ e
   have v_:W.cb.objs.size<=n.objs.size:=by
    obtain⟨m,⟨T,_,_,ho,_⟩,_⟩:=E1.aL;exact Sq F.m8 (Tu (Uk (a _ _ ho)))
   generalize n.objs.size=C at r_ u_ hC v_;have X_:C∉Z++[w.objs.size]:=λq=>by obtain⟨T,e⟩:=M.cH.gk q;rw[hC]at e;exact aG e
   have P2:C∉W.c:=λq=>by
    refine cW q λp hp e=>?_;refine aP (M.eS p hp) λps e' _=>?_;rw[e,hC]at e';exact aG e'
   have P4:w.get? C=none:=by cases q:w.get? C with|none=>rfl|some T=>rw[a _ _ q]at hC;exact aG (UW hC)
   have P5:=Y.D P4;have hj:(Z++[w.objs.size])[P.length]?=w.objs.size:=by
    refine aT ?_ G.cH.bd;refine aa ?_ (Ts (SJ _));refine aa ?_ (Uw _);rfl
   have Fc:cn W (kh x J C) (Z++[w.objs.size]) (SI (cX J).length none) cs (P++[.ah []]) L:=by
    refine⟨(M.RA P1),Uh ..,⟨_,r_,λi nm v e1 e2=>?_⟩,⟨X_,P2⟩,?_,λi nm j e1 e2=>?_,(nk Cx).trans (nk U)⟩
    ·rw[Vs]at e2
     split at e2<;>(first|exact nomatch e2|exact aG e2)
    ·exact v_
    ·obtain⟨b,j',c,q1,q2,q3,q4⟩:=qP U E1 e1
     refine aP (wo Cx q1) λj'' q5 q6=>?_;rw[q2]at q5;replace q5:=Sv q5;subst q5;rw[e2]at q6;replace q6:=Sv q6;subst q6;refine⟨c,?_,gG (TJ _ _) q4⟩;show(gp x.aK J.names []).lookup nm=_;refine aa ?_ (wn (λζ m=>by cases m) (.inl (by
      obtain⟨⟨a,k⟩,y,e⟩:=UR.mp (Th e1);obtain⟨q,e⟩:=V8.mp e;exact Sv e▸aT y (q.1.resolve_left ((la hk).ke _ y).1))) (by rw[q3];rfl));exact aa rfl q3
   have sk:=λb o e=>P1 b o (a b o e);refine A7 (m4 (I0 (n:=ρ) (K:=λζ s'=>post (.ref w.objs.size) C s') (l7 o hk) f it t (I7 (l7 o hk) F_) (I8 F_) (he C) (hc C) rows 0 rfl (S6 _) _ _ _ L _
    ⟨Fc,it.nj _ _ _ s0 λb m T e=>sk b T e,TJ _ _,⟨λb m=>?_⟩,?_⟩ ?_ hj ?_) λr s' z=>?_) ?_
   ·refine j4 (hw b m) λq1 q2 q3=>?_
    refine fh (it.s6 _ _ s0 b m) λob _ eb _=>?_;refine⟨λz=>?_,q3,oE F.bn q1,λz=>?_,q1⟩
    ·rcases Tn.mp z with z|z
     ·exact q2 z
     ·rw[SP.mp z,K2]at eb;exact aG eb
    ·rw[show(kh x J C).aK.locals=C from rfl]at z
     rw[z,P4]at eb;exact aG eb
   ·exact(cK.B Y).A (.B ⟨TJ _ _,λb m=>(Tn.mp m).imp id λq=>by refine aa ?_ (SP.mp q);exact K2,λb T e ζ ζ=>⟨T.slots,sk b _ e,λζ=>rfl⟩,λb T e=>⟨T,sk b T e⟩,λζ ζ c=>c.keeps sk⟩)
   ·unfold bn
    induction keep using Tr with
    |none=>rfl
    |some i=>dsimp only;refine aa ?_ (SM ((show nq P (Sn (rows,Sn i))from aT (I9 k v P) hit)));exact beq_self_eq_true _
   ·cases hT:fI av (λl' H=>fe l' cs H) (λl' H=>fc l' cs H) _ p_ P.length rows _ _ with
    |ak=>rw[hT]at g;exact g.elim
    |bh told l_=>exact(λh=>by
     have:=A6 (G:=av) (u:=(λl' H=>fe l' cs H)) (p:=(λl' H=>fc l' cs H)) (r:=(bn keep P)) (g:=p_) (j:=P.length) rows (SI (cX J).length none) (P++[O.ah []]);rw[h]at this;exact this) hT
    |aj aai l_=>
     rw[hT]at g;intro b_ h' f_ l YS FF YW;refine aP FF.aL λm hm _=>?_;refine g b_ _ h' f_ C m (YS.cH P5) ?_ FF.toaR hm FF.iS.1 P2 P5;refine aa ?_ (Ja hT);exact⟨_,YW,rfl⟩
   ·cases r with
    |error e=>exact z
    |ok f=>obtain⟨_,z⟩:=z;exact z
   ·exact λQ E h=>it.Is 0 _ Q E (it.nj _ _ _ s0 λb m T e=>sk b T e) h
def aR.RM (G:aR W j q w h) (p:h.Ns C m) (r:C∉q) (u:C∉W.c) (g:W.cb.get? C=none) (y:z.Ns C k) (l:UH C h z):aR W j q w z/\cK W C q q h z:=by
 refine aP (i7 p) λo e d=>?_;refine aP (i7 y) λt f c=>?_;exact G.RF r u g e d f c λb n=>l.2 b n
structure s9 (W:bk) (x:c7) (elt tg ite:TQ) (ifs:List TQ) (sc:Ub) (k:It) (fi fe fc:dk) (p_ i_:List Nat):Prop where
 aj:lM sc=Sp
 Jc:∃ts,gJ tg ts/\cJ (qQ sc) ts p_
 A8:kR x.bq sc=Sn i_
 iD:oT W x ite k fi
 Jd:∀C,bf W (kh x sc C) elt fe
 A9:∀C,wp W (kh x sc C) ifs fc
 l8:∀v,U0 ite x.aK v=T8 v
def s9.Bb {j} (c:s9 W x y r j w z k u g l p q):z.kind=.function/\∀x∈z.names,x.2= .local ->z.names.lookup x.1=Sn .local :=⟨(la c.aj).dP,(la c.aj).Bb⟩
def Je (M:Model) (A:Vj) (E:SV->Tf->Prop) (use:Option (SV->Sem Unit)) (Q:SV->Tf->Prop) (acc:SV) (C:S7) (s':Tf):Prop:=match use with
 |none=>∃m,s'.heap.Ns C m/\∀h' m',h'.Ns C m'->UH C s'.heap h'->Q acc {s' with heap:=h'}
 |some u=>ax M A (u acc) (λζ A_=>∃m,A_.heap.Ns C m/\∀h' m',h'.Ns C m'->UH C A_.heap h'->Q .none {A_ with heap:=h'}) E s'
def Ba (n:clausesOf e=g::a) (Z:∀x,U0 g.iter j x=T8 x) (f:Xy y j=T8 i) (m:y.kind=.function) (l:∀x∈y.names,x.2= .local ->y.names.lookup x.1=Sn .local) (Y:∀w C b,post w C b->Je M A E use Q w C b) (h:ax M A first (λx c=>ax M A (VQ x) (λJ t=>ax M A k (λw d=>ax M A (Wd y j.globals i [] j.qual none .none j) (λp o=>
    dj M A (.compStart e 0 J w {p with scope:=Yh y j}) (RC post w p.locals) o) E d) E t) E c) E s):
  ax M A (comprehension e y j v k Su first use) Q E s:=by
 refine IU n Z f m l (gC h (λu u z=>gC z (λu u z=>gC z (λw u z=>gC z (λp u z=>m4 z λr b q=>?_) λu u z=>z) λu u z=>z) λu u z=>z) λu u z=>z);cases r with
 |error e=>exact q
 |ok _=>exact Y w p.locals b q
structure oV (W:bk) (x:c7) (elt tg ite:TQ) (ifs:List TQ) (sc:Ub) (D:dk):Prop where
 dP:sc.kind=.function
 Bb:∀y∈sc.names,y.2= .local ->sc.names.lookup y.1=Sn .local
 Bd:∀{ρ loc be σ h},cn W x ρ loc be σ h->Xy sc x.aK=T8 (gp x.aK sc.names [])
 l8:∀v,U0 ite x.aK v=T8 v
 Be:∀{ρ:List S7} {loc:bo} {be:List Nat} {σ:List O} {s:Tf} (pos:Pos),cn W x ρ loc be σ s.heap->∀(post:SV->S7->Tf->Prop) (E:SV->Tf->Prop),jN W x.bD ρ s (D loc be σ) post E->
  ax W.b x.bO (PySem.eval ite x.aK) (λv BA=>ax W.b x.bO (VQ v) (λit t_=>ax W.b x.bO (newList []) (λacc E4=>ax W.b x.bO (Wd sc x.aK.globals (gp x.aK sc.names []) [] x.aK.qual none .none (Sn x.aK)) (λcenv E5=>
   dj W.b x.bO (.compStart (.ListComp elt [⟨tg,ite,ifs,0⟩] sc pos) 0 it acc {cenv with scope:=Yh sc x.aK}) (RC post acc cenv.locals) E5) E E4) E t_) E BA) E s
def s9.bG (o:x.n W d u) (f:df W) {z} (c:s9 W x y l z j p k m e s w q):
  oV W x y l z j p (qS k m e s (cX p).length w q):=
 ⟨c.Bb.1,c.Bb.2,λF=>(wm λh Q J=>by
   obtain⟨n,Y⟩:=h;subst J;obtain⟨i,K⟩:=wq Q (s8 c.aj Q).1;obtain⟨P,U,a,_,_,Z,_⟩:=qP c.A8 F K;refine aa ?_ Z;rfl),c.l8,λb F post E g=>by refine aP c.Jc λv t r=>?_;exact Jb o f c.aj t r c.A8 c.iD c.Jd c.A9 F g⟩
def ta {q} (c:oV W x y b q j n D):
  bf W x (.ListComp y [⟨b,q,j,0⟩] n w) D:=by
 intro T k p Y s F Q E g;refine Ba rfl c.l8 (c.Bd F) c.dP c.Bb (λi i i z=>z) (c.Be w F _ _ ?_);cases u:D k p Y with
 |ak=>replace g:=u▸g;exact g
 |bh h l=>replace g:=u▸g;exact g
 |aj v l=>
  replace g:=u▸g;refine λf J B e C m K r G a P U Z=>⟨m,a,λt N d L=>?_⟩
  obtain⟨M,o⟩:=G.RM a P U (oE F.bn Z) d L;exact g f J t e (((cK.B K).A o).cH Z) r M
def Bf {f} (c:oV W x t tg f o sc D) (h:∀ts k p,w≠.Tuple ts k p) (h2:∀ts p,w≠.List ts p) (ht:cD w=Sp) (hg:hK W x w g):
  fO W x (.Assign [w] (.ListComp t [⟨tg,f,o,0⟩] sc n) u) (λl c σ=>(D l c σ).toS λv σ=>g v l c σ):=λρ U Y σ s F Q E K=>by
 rewrite[arm_exec_Assign];refine pL ?_ (sX λt' m=>by rw[SP.mp m];exact ht) (AK h h2) wg;refine aN (cE ?_);have sw:∃b,swapsWith (.ListComp t [⟨tg,f,o,0⟩] sc n) w u.line x.aK=T8 b:=by
  induction w using Uo<;>exact⟨_,rfl⟩
 obtain⟨b,sw⟩:=sw;refine(aa (aN (bb ?_)) sw);induction b using SX with
 |false=>
  exact aN (ta c ρ U Y σ s F _ E (bu.toS K λv Z A v' N j a b c g'=>(aN (bb (cg (hg A U Y Z _ v v' (F.aD a c) b Q E g') λH s' z=>bb z)))))
 |true=>
  let PC:=λacc C s'=>ax W.b x.bO (WB w x.aK acc) (λH M=>∃m,M.heap.Ns C m/\∀N m',N.Ns C m'->UH C M.heap N->Q .next {M with heap:=N}) E s'
  refine aN (aN (Ba rfl c.l8 (c.Bd F) c.dP c.Bb (post:=PC) (λacc C s' z=>gC z (λH M ⟨m,hn,q⟩=>⟨m,hn,λN m' a b=>bb (bb (q N m' a b))⟩) λH H z=>z) (c.Be n F _ _ ?_)));cases hr:D U Y σ with
  |ak=>dsimp only at K;replace K:=hr▸K;exact K
  |bh told Z=>dsimp only at K;replace K:=hr▸K;exact λA e N j a b c=>K A e N j (.B a) b c.A
  |aj v Z=>
   dsimp only at K;replace K:=hr▸K;change bu W x Y ρ s (g v U Y Z) Q E at K;refine λA v' N j C m st r G hn h1 h2 h3=>gC (hg A U Y Z {s with heap:=N,toks:=j} v v' (F.aD st G) r (λfl M=>fl=.next->∃m,M.heap.Ns C m/\∀N m',N.Ns C m'->UH C M.heap N->Q .next {M with heap:=N}) E ?_) (λH H z=>z rfl) λH H z=>z;have P6:C≠x.aK.locals:=λq=>by
    obtain⟨_,⟨oo,_,_,e,_⟩,_⟩:=F.aL;rw[<-q,h3]at e;exact aG e
   cases hp:g v U Y Z with
   |ak=>rw[hp]at K;exact K
   |bh told L=>rw[hp]at K;exact λI e B P a b c=>K I e B P ((cK.B st).A a) b (c.B λH=>st.D)
   |eu l L=>exact λH H H H H q=>nomatch q
   |dR l L=>exact λH H H H H q=>nomatch q
   |aO v L=>exact λH H H H H H H q=>nomatch q
   |aD l L=>
    rw[hp]at K;intro I B P T J _;have i:C∉I:=λq=>by
     refine aP (i7 hn) λoo e _=>?_;rcases T.dw _ q with z|z
     ·exact h1 z
     ·rw[show N.get? C=none from z]at e;exact aG e
    refine aQ λG kG=>?_;obtain⟨oo,es,ep,e,d,r1,r2⟩:=hn;refine aP (T.fV C oo e h1 h2 P6) λsl YX _=>?_;have y:B.Ns C m:=⟨_,es,ep,YX,d,r1,r2⟩
    refine kG ?_;refine⟨m,y,λKE m' E3 sb=>?_⟩;obtain⟨G',YY⟩:=J.toaR.RM y i h2 (oE F.bn h3) E3 sb;refine K I KE P (by
      have a:=(cK.B st).A T;refine⟨a.cY,a.dw,λb ob e1 q1 q2 q3=>?_,λb ob e1=>?_,λcv q cc=>YY.ij cv q (a.ij cv q cc)⟩
      ·refine aQ λG kG=>?_
       refine aP (a.fV b ob e1 q1 q2 q3) λsl e2 q=>?_;exact kG ⟨sl,by refine aa ?_ (sb.2 b λq=>by rw[q,h3]at e1;exact aG e1);exact e2,q⟩
      ·obtain⟨o',e2⟩:=a.gk b ob e1
       exact⟨o',by refine aa ?_ (sb.2 b λq=>by rw[q,h3]at e1;exact aG e1);exact e2⟩) ⟨G',J.oC,?_,J.iS,J.m8,J.lZ,J.eT⟩
    refine aQ λG kG=>?_;obtain⟨m₂,⟨YZ,Y0,Y1,Y2,Y3⟩,Y4⟩:=J.aL;exact kG ⟨m₂,⟨YZ,Y0,Y1,by refine aa Y2 (sb.2 _ λq=>P6 q.symm),Y3⟩,Y4⟩
section
def Bg {R} (h:ax (Tt z w) (A.deeper q) (execs y q) (λf k=>R (.ok (.ret (match f with| .ret v=>v|_=>.none))) k)
   (λe k=>ax (Tt z w) (A.deeper q) (leaving q e) (λr j=>R (.error e) j) (λu j=>R (.error u) j) k) s):
  dj (Tt z w) A (.func y q) R s:=by
 refine gE rfl ?_;refine aN (qp (aN (i4 (gC h (λf k p=>?_) λr r p=>p))));cases f<;>exact bb p
def Jf {R} (h:ax (Tt z w) (A.under (.expr e q)) (eval e q) (λv j=>R (.ok (.ret v)) j)
   (λx j=>ax (Tt z w) (A.under (.expr e q)) (leaving q x) (λp y=>R (.error x) y) (λr y=>R (.error r) y) j) s):
  dj (Tt z w) A (.expr e q) R s:=by
 refine gE rfl ?_;show ax _ _ (do let v<-(eval e q).onRaise _;ret v) _ _ s;exact aN (i4 (gC h (λf j k=>bb k) λp p k=>k))
def tc {R} {j} (g:A.depth<recursionLimit) (K:s.heap.get? a=Sn o) (t:o.data=.func q) (d:q.scope.isCoroutine=Su) (f:q.scope.isGenerator=Su) (l:(∃b,q.body=.stmts b/\j=λy=>.func b y)∨∃e,q.body=.expr e/\j=λy=>.expr e y) (v:s.heap.CodeRec q.code q.qualname) (h:Tg (Tt z w) A.in1 (bindArgs q args) (λk r=>
   Tg (Tt z w) A.in1 (Wd q.scope q.globals q.closure k (q.qualname++".<locals>.") (Sn a) q.code none q.builtins)
    (λy p=>p.heap.NoLimit/\dj (Tt z w) A (j y) R p) (λe n=>R (.error e) n) r) (λe n=>R (.error e) n) s):
  dj (Tt z w) A (.call (.ref a) args) R s:=by
 refine gE (by rfl) ?_;show ax _ A.in1 _ _ _ s;refine bT (Ww K ?_);refine aQ λG P=>?_;obtain⟨c,U,L,F,J,i,x,Q⟩:=v;refine P ?_;rw[t];delta callFunction;dsimp only;rw[d,f,J];rw[J]at h;refine bT (Ua i x Q (aN (bb ?_)));rcases l with⟨b,W,rfl⟩|⟨b,W,rfl⟩<;>rw[W]
 all_goals
 exact bT (Wt h (λk r m=>bT (Wt m (λy p u=>bT (wpAny_enterFrame u.1 g
  (bb ⟨by rfl,by rfl,u.2⟩))) λZ Z Y=>Y)) λZ Z Y=>Y)
end
def hQ {α:Type} (M:Model) (A:Vj) (c:Code) (t:Sem α) (Q:α->Tf->Prop) (E:SV->Tf->Prop) (s:Tf):Prop:=
 ∀Γ p,Γ.code=c->Γ.In A->NC Γ->Sem.wp M Γ t (λa ζ s'=>Q a s') (λe ζ s'=>E e s') p s
section
def hQ.B (h:ax M A t Q E s):hQ M A c t Q E s:=λz p w y j=>h z p y j
def hQ.at (h:PySem.wpAt M A c t Q E s):hQ M A c t Q E s:=λz p y j w=>h z p y j
def Bh (h:hQ M A c t Q E s) (w:∀a s,Q a s->z a s) (k:∀e s,E e s->y e s):hQ M A c t z y s:=
 λj p r u g=>VE M j t (λa l s=>w a s) (λe l s=>k e s) p s (h j p r u g)
def nu (h:hQ M A c m (λa w=>hQ M A c (f a) Q E w) E s):hQ M A c (m>>=f) Q E s:=λq p k r u=>by
 rewrite[Sem.wp_bind'];exact VE M q m (λa l w z=>z q l k r u) (λg g g z=>z) p s (h q p k r u)
def Jg (h:hQ M A c m Q (λe r=>ax M A (k e) (λq z=>E e z) E r) s):hQ M A c (m.onRaise k) Q E s:=λy p l u g=>by
 rewrite[Sem.wp_onRaise];exact VE M y m (λq q q j=>j) (λe f r j=>j y f u g) p s (h y p l u g)
def Jh {R} (m:iR c=Su) (h:hQ M (A.under c) c (M.den c) (λq j=>match q with| .done f=>R (.ok f) j| .again z=>z.quiet=Sp/\iR z=Su/\dj M A z R j) (λe j=>R (.error e) j) s):dj M A c R s:=λw p k r u=>by
 rewrite[wpCode_iff_wp];refine aa ?_ k;refine VE M w _ (λq l j y=>?_) (λg g g y=>y) p s (h w p k (aT r.in k) u);cases q with
 |done f=>exact y
 |again z=>exact⟨y.1,y.2.2 (w.goto z) l rfl (r.goto z) (u.a z y.2.1)⟩
end
section
def Ji {R} (h:hQ (Tt y w) (A.deeper q) (.func z q) (execs z q) (λf k=>R (.ok (.ret (match f with| .ret v=>v|_=>.none))) k)
   (λe k=>ax (Tt y w) (A.deeper q) (leaving q e) (λr j=>R (.error e) j) (λu j=>R (.error u) j) k) s):
  dj (Tt y w) A (.func z q) R s:=by
 refine Jh rfl ?_;refine nu (.B (qp (nu (Jg (Bh h (λf k p=>?_) λr r p=>p)))));cases f<;>exact .B (bb p)
end
def wt (h:TV) (v:SV) (n:Nat):Prop:=(n=0/\v=.none)∨∃T o k,v=.ref T/\h.get? T=Sn o/\o.data=.seq (SI n Value.none).toArray k
def Bi {m:List (TR×SV)}:(l++m).lookup k=(l.lookup k).or (m.lookup k):=List.lookup_append ..
noncomputable def lb:List (TR×SV)->List (TR×SV)->List (TR×SV)
 |slots,[]=>slots
 |slots,x::r=>lb (if(slots.lookup x.1).isNone then slots++[(x.1,x.2)]else slots) r
def Bj:lb q (x::r)=lb (if(q.lookup x.1).isNone then q++[(x.1,x.2)]else q) r:=rfl
def Jj:∀{l j},(lb j l).lookup k=(j.lookup k).or (l.lookup k):=by
 intro Q;induction Q with
 |nil=>intro j;simp[show lb j []=j from rfl]
 |cons P0 r IH=>
  obtain⟨y,d⟩:=P0;intro j;rewrite[Bj];refine aS ?_ T2 IH;by_cases h:(k==y)=Sp
  ·rw[beq_iff_eq]at h;subst h
   refine aa ?_ (beq_self_eq_true _)
   split
   ·rename_i q
    refine aS ?_ q Bi;simp
   ·rename_i q
    cases z:j.lookup k with
    |none=>rw[z]at q;exact absurd rfl q
    |some v=>rfl
  ·rw[Yv]at h
   refine aa ?_ h
   split
   ·refine aa (aa ?_ T2) Bi;refine aa ?_ h;simp
   ·rfl
def Jk (y:∀x z,f x z=if(z.lookup x.1).isNone=Sp then T8 (.yield (z++[(x.1,x.2)]))else T8 (.yield z)):
  ∀l q,forIn l q f=(T8 (lb q l):Sem (List (TR×SV))):=by
 intro Q;induction Q with
 |nil=>intro q;exact rfl
 |cons x r IH=>
  intro q;rewrite[Xv];refine aa ?_ (y _ _);rewrite[Bj];by_cases h:(q.lookup x.1).isNone=Sp
  ·exact aa (aa (IH _) (if_pos h)) (if_pos h)
  ·exact aa (aa (IH _) (if_neg h)) (if_neg h)
def wu:∀{q:List TR} {z:List SV} {i:Nat},q.Nodup->q[i]?=Sn k->(q.zip z).lookup k=z[i]?:=by
 intro q;induction q with
 |nil=>intro _ i _ e;exact aG e
 |cons a q IH=>
  intro z i j e;induction z using SD with
  |nil=>rfl
  |cons y z=>
   rw[UG]at j;refine aa (aa ?_ T2) WV;induction i using Nat.casesOn with
   |zero=>replace e:=Sv e;subst e;refine aa ?_ (beq_self_eq_true _);rfl
   |succ i=>
    have:(k==a)=Su:=by
     rewrite[beq_eq_false_iff_ne];rintro rfl;exact j.1 (Th e)
    refine aS ?_ Vp this;exact IH j.2 e
def Jl {y:List TR} (u:y.Nodup) (g:j.length<=y.length) (l:y.length<=j.length+n) (f:n<=y.length):
  y.filterMap (λk=>((lb (y.zip j) ((y.drop (y.length-n)).zip (SI n Value.none))).lookup k).map (k,·))=y.zip (j++SI (y.length-j.length) .none):=by
 have p:∀(i) k,y[i]?=Sn k->(lb (y.zip j) ((y.drop _).zip _)).lookup k=(j++SI _ Value.none)[i]?:=λi k e=>by
  have m:=(SO.mp e).1;refine aa (aa ?_ (wu u e)) Jj;by_cases q:i<j.length
  ·refine aa (aa ?_ (S0 q)) (SM q);rfl
  ·have q:=TN.mp q
   have c:=Sq (Nat.sub_le_of_le_add l) q;refine aS ?_ (List.getElem?_eq_none q) (Ts q);refine aa ?_ Vs;refine aa ?_ (if_pos (Nat.sub_lt_sub_right q m));have:=wu (q:=y.drop (y.length-n)) (z:=SI n Value.none) (i:=i-_) (u.sublist (List.drop_sublist _ _)) (by refine aa ?_ V3;exact aa e (VU c));refine aa ?_ this;refine aa ?_ Vs;refine aa ?_ (if_pos (Nat.sub_lt_left_of_lt_add c ((Nat.sub_add_cancel f).symm▸m)));rfl
 generalize lb _ _=s at p;have w:y.length<=(j++SI (y.length-j.length) Value.none).length:=aa (aa (aa (SJ _) (VU g)) Uh) Sr;generalize j++SI _ Value.none=r at p w;clear g l f u;induction y generalizing r with
 |nil=>rfl
 |cons a y t=>
  induction r using SD with
  |nil=>exact absurd w (Nat.not_succ_le_zero _)
  |cons z r=>
   refine aa ?_ U5;refine aa ?_ (p 0 a rfl);refine aa ?_ WV;show(a,z)::_=_
   congr 1
   exact t r (λi k e=>(p (i+1) k (by refine aa ?_ Vp;exact e)).trans (Vp ..)) (by simpa using w)
def th (p:j.params=⟨[],z,none,[],[],none,J⟩) (c:(z.map (·.arg)).Nodup) (t:wt s.heap j.defaults n) (d:y.length<=z.length) (b:z.length<=y.length+n) (v:n<=z.length) (h:Q ((z.map (·.arg)).zip (y++SI (z.length-y.length) .none)) s):Tg M A (bindArgs j ⟨y,[]⟩) Q E s:=by
 have W:Tg M A (seqItems? j.defaults) (λr a=>a=s/\(r.getD #[]).toList=SI n Value.none) E s:=by
  rcases t with⟨rfl,e⟩|⟨T,o,k,e,K,P⟩
  ·exact aa (Sw (SU (SU ⟨rfl,rfl⟩))) e
  ·exact aa (XI K P ⟨rfl,by rfl⟩) e
 have u:=Jl (j:=y) c (by refine aa ?_ (Sx _);exact d) (by refine aa ?_ (Sx _);exact b) (by refine aa ?_ (Sx _);exact v);rw[Sx]at u;rw[<-u]at h;clear u t;obtain⟨f1,f2,U,f4,f5,f6,f7,f8,f9,G,L,F,C,B,N⟩:=j;replace p:U=_:=p;subst p;refine Sw (SU ?_);have w:(z.map (·.arg)).length=z.length:=Sx _;have Z:∀D,D=SI n Value.none->D.drop (D.length-(z.map (·.arg)).length)=SI n Value.none:=λD e=>by
  refine aa ?_ e;refine aS ?_ w Uh;refine aa ?_ (Nat.sub_eq_zero_of_le v);rfl
 have I:∀k∈(z.map (·.arg)).take _,(((z.map (·.arg)).zip y).lookup k).isNone=Su:=λk g=>by
  obtain⟨i,l,e⟩:=U3 g;rw[U8,Sx]at l;rw[List.getElem_take]at e;have H:(z.map (·.arg))[i]?=k:=by refine aa ?_ (S0 (by rw[Sx];exact SA l (Xh _ _)));exact aa rfl e
  refine aa ?_ (wu c H);refine aa ?_ (S0 (SA l (Sq (WI _ _) (Nat.sub_le_of_le_add b))));rfl
 have f:∀D,D=SI n Value.none->(!(((z.map (·.arg)).take ((z.map (·.arg)).length-D.length)).filter λk=>(((z.map (·.arg)).zip y).lookup k).isNone).isEmpty)=Su:=λD e=>by
  refine aa ?_ e;refine aS ?_ w Uh;refine aa ?_ (List.filter_eq_nil_iff.mpr λk g=>by rw[I k g];exact Tw);rfl
 refine Sw (Wt W (λr a e=>?_) λm m x=>x);obtain⟨rfl,Y⟩:=e;refine wpAny_ite_false (decide_eq_false λq=>absurd (of_decide_eq_true (Sz.mp q).1) (TN.mpr (w.symm▸d))) ?_;refine wpAny_ite_false (decide_eq_false (by refine aa ?_ (Yv _);exact f _ (Z _ Y))) ?_;refine Sw (Tc (Jk (λm m=>rfl) _ _) ?_);refine Sw (SU ?_);refine wpAny_ite_false rfl (SU ?_);refine aa ?_ (Z _ Y);refine aS ?_ (show _=z.map (·.arg)from SY _) Uh;refine aa ?_ w
 exact h
def oW (ρ:List S7) (sc:Ub) (m:TR->Option SV) (loc:bo):Prop:=∀(i:Nat) nm v,(cX sc)[i]?=Sn nm->loc[i]?=Sn (Sn v)->∃y,m nm=Sn y/\VR ρ v y
def oX (ρ:List S7) (sc:Ub) (cm:TR->Option SV) (c:bo):Prop:=∀(j:Nat) nm v,(c9 sc)[j]?=Sn nm->c[j]?=Sn v->qv ρ v (cm nm)
inductive nv (sc:Ub):TR->Bool×Nat->Prop
 |ad {nm i}:b8 sc nm=Sn .local ->eM nm (cX sc)=Sn i->nv sc nm (Su,i)
 |aW {nm j}:b8 sc nm=Sn .cell->eM nm (c9 sc)=Sn j->nv sc nm (Sp,j)
def Bk {l:List q} (z:l.Nodup) {j:Nat} (y:l[i]?=Sn a) (w:l[j]?=Sn a):i=j:=(Xg z).mp ((SO.mp y).2.trans (SO.mp w).2.symm)
def oW.B (d:(cX g).Nodup) (h:oW l g m p) (s:eM f (cX g)=Sn i) (r:VR l v y):oW l g (λz=>if z=f then Sn y else m z) (p.set i v):=λj n w u k=>by
 have c:=js s;by_cases q:i=j
 ·subst q
  rw[c]at u;replace u:=Sv u;subst u;replace k:=Vq▸k;cases t:p[i]? with
  |none=>rw[t]at k;exact aG k
  |some z=>replace k:=t▸k;cases k;exact⟨y,if_pos rfl,r⟩
 ·rw[Ti q]at k
  refine aP (h j n w u k) λz o b=>?_;exact⟨z,by dsimp only;exact aa o (if_neg λe:n=f=>q (Bk d c (aT u e))),b⟩
def oX.B (d:(c9 g).Nodup) (h:oX l g m p) (s:eM f (c9 g)=Sn i) (r:VR l v y):oX l g (λz=>if z=f then Sn y else m z) (p.set i v):=λj n w u k=>by
 have c:=js s;by_cases q:i=j
 ·subst q
  rw[c]at u;replace u:=Sv u;subst u;replace k:=Vq▸k;cases t:p[i]? with
  |none=>rw[t]at k;exact aG k
  |some z=>rw[t]at k;replace k:=Sv k;subst k;exact⟨y,if_pos rfl,r⟩
 ·rw[Ti q]at k
  have:=h j n w u k;dsimp only;exact aa this (if_neg λe:n=f=>q (Bk d c (e▸u)))
def Bl:bindL q ((n,v)::r) m=bindL q r (if q n=Sn .local then λy=>if y=n then Sn v else m y else m):=rfl
def Bm:Xp i ((n,t)::r) a=if t==.cell then Xp (i+1) r ((n,i)::a)else Xp i r a:=rfl
def Bn (h:(cX w).Nodup) (a:(c9 w).Nodup) {q} (o:∀u,q u=b8 w u) {j} (n:cJ (nv w) z j):∀{p} {g} {m b} {loc c},bN l p g->p.length=z.length->oW l w m loc->oX l w b c->
  oW l w (bindL q (z.zip g) m) (gA j p loc c).1/\oX l w (bindC q (z.zip g) b) (gA j p loc c).2:=by
 set_option tactic.hygienic true in induction n with
 |ao=>exact λQ Q t s=>⟨t,s⟩
 |ai Z n i=>
  rename_i u d z j;intro p g m b loc c r x t s;induction p using SD with
  |nil=>exact absurd x (Yw _).symm
  |cons v p=>
   induction g using SD with
   |nil=>exact r.elim
   |cons y g=>
    have f:=U6 x;refine aa ?_ WV;rewrite[Bl];rewrite[show bindC q ((u,y)::z.zip g) b=bindC q (z.zip g) (if q u=Sn .local then b else λk=>if k=u then Sn y else b k)from rfl];induction Z using nv.casesOn with
    |ad k e=>
     exact aS (i r.2 f (t.B h e r.1) s) (if_pos ((o u).trans k)) (if_pos ((o u).trans k))
    |aW k e=>
     have:¬q u=Sn .local :=by refine aa (aa ?_ k) (o _);decide
     exact aS (i r.2 f t (s.B a e r.1)) (if_neg this) (if_neg this)
def Jm {j}:∀{z} {m},(∀x∈z,j x.1=Sn .local)->∀x,bindL j z m x=(z.reverse.lookup x).or (m x):=by
 intro Q;induction Q with
 |nil=>intro m _ x;rfl
 |cons P0 r IH=>
  obtain⟨n,v⟩:=P0;intro m h x;rewrite[Bl];refine aa (aa ?_ ((IH λy m=>h y (.tail _ m)) _)) (if_pos (h _ (.head _)));refine aa (aa ?_ List.lookup_append) List.reverse_cons;refine aa ?_ Option.or_assoc;refine aa ?_ T2;by_cases q:x=n
  ·subst q;simp
  ·exact aS rfl (beq_eq_false_iff_ne.mpr q) (if_neg q)
def Jn (q):∀z l c,(gA q z l c).1.length=l.length/\(gA q z l c).2.length=c.length:=by
 induction q with
 |nil=>exact λz l c=>⟨rfl,rfl⟩
 |cons d j y=>
  intro z l c;induction z using SD with
  |nil=>exact⟨rfl,rfl⟩
  |cons v z=>
   obtain⟨b,i⟩:=d;induction b using SX with
   |true=>exact⟨(y z l _).1,(y z l _).2.trans SS⟩
   |false=>exact⟨(y z _ c).1.trans SS,(y z _ c).2⟩
section
def aR.RH (F:aR W u w r h) {g} (s:j.length=g.length) (v:j.Nodup) (y:∀a∈j,a∉w/\W.cb.get? a=none/\a∉W.c/\∀z∈u,z.frame≠Sn a) (n:∀(i:Nat) o a,g[i]?=Sn o->j[i]?=Sn a->OR W (w++j) h a o):aR W u (w++j) (r++g) h:=by
 refine⟨⟨by simp[F.cH.bd,s],?_,?_,?_⟩,F.bn,F.eA,λz l L f=>⟨λq=>?_,(F.iB z l L f).2⟩,F.eS,λt c q=>?_⟩
 ·rewrite[W4]
  exact⟨F.cH.m5,v,λa x b Q e=>(y b Q).1 (aT x e)⟩
 ·intro a m
  rcases Tn.mp m with m|m
  ·exact F.cH.m6 a m
  ·exact(y a m).2.1
 ·intro i o a k p
  by_cases d:i<r.length
  ·rw[SM d]at k
   rw[SM (aa d F.cH.bd)]at p;exact(F.cH.dS i o a k p).RA (TJ _ _)
  ·rw[Ts (TN.mp d)]at k
   rw[Ts (by refine aa ?_ F.cH.bd;exact TN.mp d),F.cH.bd]at p;exact n _ o a k p
 ·rcases Tn.mp q with q|q
  ·exact(F.iB z l L f).1 q
  ·exact(y L q).2.2.2 z l f
 ·rcases Tn.mp q with q|q
  ·exact F.jq t c q
  ·exact(y t q).2.2.1 c
def aR.A (F:aR W w j k h) (y:h.get? a=none):a∉j/\W.cb.get? a=none/\a∉W.c/\∀z∈w,z.frame≠Sn a:=by
 refine⟨λm=>?_,oE F.bn y,λm=>?_,λz r q=>?_⟩
 ·obtain⟨o,e⟩:=F.cH.gk m;rw[y]at e;exact aG e
 ·refine cW m λp u e0=>?_;subst e0
  refine aP (F.eS p u) λg e _=>?_;rw[y]at e;exact aG e
 ·obtain⟨_,o,e,_⟩:=F.eA.mem (UR.mpr ⟨z,r,q⟩);rw[y]at e;exact aG e
def aR.RE (F:aR W w y j h) (k:z.frame=Sn L) (p:z.scope.kind=.function) (r:W.cb.get? L=none) (u:h.get? L=Sn o) (g:∀l,o.data≠.fields l) (f:L∉y) (c:L∉W.c):aR W (z::w) y j h:=
 ⟨F.cH,F.bn,⟨by refine aa ?_ p;decide,⟨L,o,k,r,u,g⟩,F.eA⟩,λe m t q=>by
  rcases Tq.mp m with rfl|m
  ·rw[k]at q;replace q:=Sv q;subst q;exact⟨f,c⟩
  ·exact F.iB e m t q,F.eS,F.jq⟩
def aR.RI (F:aR W (q::j) z y h):aR W j z y h:=⟨F.cH,F.bn,F.eA.2.2,λe m=>F.iB e (.tail _ m),F.eS,F.jq⟩
end
def Jo:∀{q} {n} {z},(∀x∈q,x.1≠j)->(Xp n q z).lookup j=z.lookup j:=by
 intro Q;induction Q with
 |nil=>intro _ _ _;exact rfl
 |cons P0 r IH=>
  obtain⟨y,k⟩:=P0;intro n z h;rewrite[Bm];have w:=λx m=>h x (.tail _ m)
  split
  ·exact aa (aa (aa rfl (beq_eq_false_iff_ne.mpr (UC (h _ (.head _))))) T2) (IH w)
  ·exact IH w
noncomputable def oY (names:List (TR×NameKind)):List TR:=names.filterMap λx=>if x.2=.cell then Sn x.1 else none
def Jp:∀{z} {n} {j} {i:Nat} {p:TR},(z.map (·.1)).Nodup->(oY z)[i]?=p->(Xp n z j).lookup p=(n+i):=by
 intro Q;induction Q with
 |nil=>intro _ _ _ _ _ e;simp[oY]at e
 |cons P0 r IH=>
  obtain⟨y,k⟩:=P0;intro n j i p w e;rw[Tz,UG]at w;rewrite[Bm];unfold oY at e;by_cases u:k=.cell
  ·subst u
   replace e:=U5▸e;dsimp only[if_true]at e;cases i with
   |zero=>
    replace e:=Sv e;subst e;refine aa ?_ (Jo λx m q=>w.1 (by show y∈_;rw[<-q];exact Tv m));refine aa (aa ?_ (beq_self_eq_true _)) T2;rfl
   |succ i=>
    refine aa ?_ (IH w.2 e);congr 1;exact Un _ _ _
  ·rw[U5]at e
   simp only[u,if_false]at e;exact aa (IH w.2 e) (if_neg (by simpa using u))
def wv (sc:Ub) (closure:List (TR×S7)):Prop:=sc.kind=.function/\(cX sc).Nodup/\
 ((closure=[]/\(sc.names.map (·.1)).Nodup/\∀x∈sc.names,x.2≠.free/\x.1≠au "__class__")∨(c9 sc=[]/\∀x∈sc.names,x.2≠.cell))
def Jq (h:∀x∈y.names,x.2≠.free/\x.1≠au "__class__"):c9 y=oY y.names:=by
 delta c9 oY;generalize y.names=l at h;induction l with
 |nil=>rfl
 |cons x l j=>
  refine(h x (.head _)).elim λw k=>?_;refine aS ?_ U5 U5;refine aa ?_ (j λx m=>h x (.tail _ m));by_cases q:x.2=.cell
  ·exact aa (aa rfl (if_pos ⟨.inl q,k⟩)) (if_pos q)
  ·exact aa (aa rfl (if_neg λz=>z.1.elim q w)) (if_neg q)
def Bo (h:((Te n).map (k+·))[i]?=Sn a):i<n/\a=k+i:=by
 rw[Ut,TX]at h;obtain⟨b,q,rfl⟩:=h;have:=SO.mp q;simp at this;exact⟨this.1,aa rfl this.2⟩
def Bp (G:aR W fr B σ s.heap) (H:W.cb.objs.size<=s.heap.objs.size) (ok:wv r w) (hd:cJ (nv r) l u) (rs:bN B N ys) (hl:N.length=l.length) {F} (h:∀(z) b_ P tk,z.scope=r->z.globals=U->z.builtins=bi->z.frame=z.locals->(z.code=F/\z.func=Sn f/\z.qual=L/\(w=[]∨z.cells=w))->ck W B b_ s.heap P->s.heap.get? z.locals=none->
   (∀A',cn W ⟨A',z,z::fr,r⟩ b_ (gA u N (SI (cX r).length none) (SI (c9 r).length none)).1 ((Te (c9 r).length).map (σ.length+·)) (σ++(gA u N (SI (cX r).length none) (SI (c9 r).length none)).2.map .a9) P)->
   (∀b o,s.heap.get? b=Sn o->P.get? b=Sn o)->Q z {s with heap:=P,toks:=tk}):
  Tg W.b A (Wd r U w (l.zip ys) L f F none bi) Q E s:=by
 refine j4 ok λhk P7 ok=>?_;have P8:∀x∈l.zip ys,(b8 r x.1=Sn .local ∨b8 r x.1=Sn .cell/\∃j,eM x.1 (c9 r)=Sn j):=by
  intro x m;have hm:=(List.of_mem_zip m).1;clear m h rs hl;induction hd with
  |ao=>cases hm
  |ai h1 _ ih=>
   rcases Tq.mp hm with e|hm
   ·refine aa ?_ e
    cases h1 with
    |ad a b=>exact .inl a
    |aW a b=>exact .inr ⟨a,_,b⟩
   ·exact ih hm
 have I:s.heap.get? s.heap.objs.size=none:=Tj (SJ _);have l0:∀m,oW B r m (SI (cX r).length none):=λm i t v n e=>by
  replace e:=(Vs)▸e;split at e<;>(first|cases e|exact aG e)
 refine(Jn u N (SI (cX r).length none) (SI (c9 r).length none)).elim λpl pc=>?_;rw[Uh]at pl pc;have c0:oX B r (λn=>none) (SI (c9 r).length none):=λi t v n e=>by
  rw[Vs]at e;split at e<;>(first|replace e:=Sv e;subst e|exact aG e);rfl
 rcases ok with⟨rfl,nd,nf⟩|⟨g,nc⟩
 ·have P9:=Jq nf
  have Z:∀{i:Nat} {t:TR},(c9 r)[i]?=t->(Xp (s.heap.objs.size+1) r.names []).lookup t=_:=λe=>Jp nd (aT e P9);refine wpAny_newFunctionEnv_cells hk (λx m=>?_) λz K s' x=>?_
  ·rcases P8 x m with q|⟨q,j,e⟩
   ·exact .inl q
   ·exact .inr ⟨q,by refine aa ?_ (Z (js e));rfl⟩
  ·have Y:=x.toInCall.ns
   have k:=x.toInCall.keep;refine pU x.toInCall.same λP tk e0=>?_;subst e0;have hL:z.locals=s.heap.objs.size:=by subst K;rfl
   have Cx:z.cells=Xp (s.heap.objs.size+1) r.names []:=by subst K;rfl
   have Y5:∀t,z.kindOf t=b8 r t:=by subst K;exact λn=>rfl
   obtain⟨bl,bc⟩:=Bn (m:=λn=>none) P7 (aa (by
     unfold oY;generalize r.names=l at nd;induction l with
     |nil=>exact UY
     |cons x l j=>
      rw[Tz,UG]at nd;by_cases q:x.2=.cell
      ·refine aa ?_ U5
       simp only[q,if_true];rewrite[UG];refine⟨λm=>nd.1 ?_,j nd.2⟩;refine aP (UR.mp m) λy w e=>?_
       split at e
       ·rewrite[Xr];exact⟨y,w,Sv e⟩
       ·exact aG e
      ·refine aa ?_ U5
       simp only[q,if_false];exact j nd.2) P9) Y5 hd rs hl (l0 _) c0
   generalize hp:gA u N _ _=p at*;have J:=x.cell;replace J:=(Cx)▸J;have G':=G.RA k;refine aP (i7 Y) λoL gL dL=>?_;have M:∀a∈(Te (c9 r).length).map (s.heap.objs.size+1+·),s.heap.get? a=none:=λa m=>by
    refine cW m λi _ e0=>?_;subst e0;exact Tj (Sq (Tx _) (SH _ _))
   have Y6:=G'.RH (g:=p.2.map .a9) (by simp[pc]) (by
     rewrite[List.nodup_iff_pairwise_ne];rewrite[List.pairwise_map];exact List.nodup_range.imp λ{a b} h=>by show s.heap.objs.size+1+a≠s.heap.objs.size+1+b;exact λe=>h (Nat.add_left_cancel e)) (λa m=>G.A (M a m)) (λi o a d C=>by
    refine(Bo C).elim λhi e0=>?_;subst e0;rw[Ut,TX]at d;obtain⟨v,d,rfl⟩:=d;have GS:=S0 hi;exact⟨_,(bc i _ v GS d).RA (TJ _ _),(J _ _ (Z GS))⟩)
   have P_:=hL▸I;refine j5 (G.A P_) λo1 o2 o3 o4=>?_;have T:z.locals∉B++(Te (c9 r).length).map _:=λm=>by
    rcases Tn.mp m with m|m
    ·exact o1 m
    ·refine cW m λi _ q=>?_
     have q:s.heap.objs.size+1+i=z.locals:=q;rw[hL]at q;exact absurd q (TB (SA (Td _) (SH _ _)))
   refine h z _ P tk (by subst K;rfl) (by subst K;rfl) (by subst K;rfl) (by subst K;rfl) (by subst K;exact⟨rfl,rfl,rfl,.inl rfl⟩)
    ⟨TJ _ _,λa m=>(Tn.mp m).imp id (M a),λb o e n n=>⟨o.slots,k b o e,λn=>rfl⟩,λb o e=>⟨o,k b o e⟩,λn n c=>c.keeps k⟩ P_ (λA'=>?_) k
   refine⟨Y6.RE (by subst K;rfl) (by subst K;exact hk) o2 gL dL T o3,pl,⟨_,Y,λi t v d C=>?_⟩,⟨T,o3⟩,?_,λi t j d C=>?_,by simp⟩
   ·refine aP (bl i t v d C) λy q1 q2=>?_
    exact⟨y,q1,q2.RA (TJ _ _)⟩
   ·show W.cb.objs.size<=z.locals;exact aa H hL
   ·obtain⟨hi,rfl⟩:=Bo C
    refine⟨s.heap.objs.size+1+i,?_,?_⟩
    ·show z.cells.lookup t=_;refine aa ?_ Cx;exact Z d
    ·refine aa ?_ (Ts (by rw[G.cH.bd];exact SH _ _));refine aa ?_ G.cH.bd;refine aa ?_ (Uj _ _)
     refine aa ?_ Ut;refine aa ?_ (List.getElem?_range hi);rfl
 ·have D:=λx m=>(P8 x m).resolve_right λ⟨_,j,e⟩=>by
   rw[g]at e;exact aG e
  refine VL nc D (λP Y sb=>?_) hk;have k:∀b o,s.heap.get? b=Sn o->P.get? b=o:=λb o e=>by
   refine aa ?_ (sb.2 b (SQ (Uk e)));exact SK _ e
  obtain⟨bl,-⟩:=Bn (m:=λn=>none) P7 (by refine aa ?_ g;exact UY) (λn=>rfl) hd rs hl (l0 _) c0;generalize hp:gA u N _ _=p at*;have Y7:=XB (by refine aa ?_ pc;refine aa ?_ g;rfl);rw[Y7,g]at h;have G':=G.RA k;refine aP (i7 Y) λoL gL dL=>?_;refine j5 (G.A I) λo1 o2 o3 o4=>?_;refine h _ B P _ rfl rfl rfl rfl ⟨rfl,rfl,rfl,.inr rfl⟩ (.RA k) I (λA'=>?_) k;refine⟨by simpa using G'.RE rfl hk o2 gL dL o1 o3,pl,⟨_,Y,λi t v d C=>?_⟩,⟨o1,o3⟩,H,λi t j d C=>?_,by simp[g]⟩
  ·refine aP (bl i t v d C) λy q1 q2=>?_
   refine⟨y,?_,q2⟩;rw[Jm D]at q1;simpa using q1
  ·have d:(c9 r)[i]?=t:=d
   rw[g]at d;exact aG d
section
inductive nz (W:bk) (a:S7) (d:iP):Prop
 |mk (o:Obj) (fd:Yi) (ho:W.cb.get? a=Sn o) (BY:o.data=.func fd) (hp:fd.params=d.dB) (hb:fd.body=.stmts d.aA) (hs:fd.scope=d.cC) (hg:fd.globals=Vf) (E6:fd.builtins=Wl)
  (hd:wt W.cb fd.defaults d.dB.defaults.length) (hc:W.cb.CodeRec fd.code fd.qualname) (co:d.cC.isCoroutine=Su) (ge:d.cC.isGenerator=Su) (sc:wv d.cC fd.closure) (nd:(d.dB.args.map (·.arg)).Nodup) (dl:d.dB.defaults.length<=d.dB.args.length)
set_option backward.match.sparseCases true in
def jO (W:bk) (A:Vj) (fr:List Env) (ρ:List S7) (s:Tf) (c:Code) (r:R V):Prop:=∀Q E,db W fr ρ s r Q E->dj W.b A c (λr s'=>match r with| .ok (.ret v)=>Q v s'| .ok _=>False| .error e=>E e s') s
def jO.jk (h:jO W A y q s (.call f ⟨z,[]⟩) r):fX W A y q s (Uv f z) r:=λQ E g=>lX (h Q E g)
structure nx (A:Vj) (fr:List Env) (d:Nat):Prop where
 j9:A.depth+1+3*d<=900
 lY:A.units+3+10*d<=9000
 fL:A.handled=none
 eA:A.frames=Sn fr
def c7.n.RD {x:c7} (o:x.n W (d+1) (10*(d+1))):nx x.bO x.bD d:=⟨mG o.j9 (by decide),mG o.lY (by decide),o.fL,o.eA⟩
inductive Bq (d:iP) (fn:cf):Prop
 |mk (par:d.dB=⟨[],d.dB.args,none,[],[],none,d.dB.defaults⟩) (np:fn.b0=d.dB.args.length) (nd:fn.ca=d.dB.defaults.length) (dest:cJ (nv d.cC) (d.dB.args.map (·.arg)) fn.cw) (nl:fn.cx=(cX d.cC).length) (nc:fn.ch=(c9 d.cC).length):Bq d fn
def ww (W:bk) (x:c7) (st:List Vo) (f:bo->List Nat->List O->bC):Prop:=
 ∀ρ loc be σ s,cn W x ρ loc be σ s.heap->∀Q E,bu W x be ρ s (f loc be σ) Q E->hQ W.b x.bO (.func st x.aK) (execs st x.aK) Q E s
def jt.at {y} (h:jt W x y f):ww W x y f:=λj q z w s F Q E g=>.B (h j q z w s F Q E g)
inductive c7.b (W:bk) (x:c7) (a:S7):Prop
 |mk (o:Obj) (fd:Yi) (ho:W.cb.get? a=Sn o) (hd:o.data=.func fd) (hc:x.aK.code=fd.code) (hf:x.aK.func=Sn a) (hq:x.aK.qual=fd.qualname++".<locals>.") (hl:fd.closure=[]∨x.aK.cells=fd.closure) (hs:x.aK.scope=x.bq)
noncomputable def tj (D:bo->List Nat->List O->bC) (f:cf) (args:List V) (σ:List O):R V:=
 if args.length<=f.b0&&f.b0-f.ca<=args.length then
  let p:=gA f.cw (args++SI (f.b0-args.length) .az) (SI f.cx none) (SI f.ch none)
  match D p.1 ((Te f.ch).map (σ.length+·)) (σ++p.2.map .a9)with
  | .aO v σ=>.aj v σ
  | .aD _ σ=>.aj .az σ
  | .bh t σ=>.bh t σ
  |_=>.ak
 else .ak
def Br (f:ik W) (K3:Bq d fn) (fa:nz W a d) (hb:∀x,x.n W n (10*n)->x.cf->x.bq=d.cC->x.b W a->ww W x d.aA D) (R:nx A fr n) (G:aR W fr ρ σ s.heap) (v_:W.cb.objs.size<=s.heap.objs.size) (rs:bN ρ vs ys):jO W A fr ρ s (.call (.ref a) ⟨ys,[]⟩) (tj D fn vs σ):=by
 intro Q E g;obtain⟨o,fd,ho,BY,M,Y,L,CD,E6,Qg,B_,E7,C,F,E8,G1⟩:=fa;obtain⟨t,body,scope⟩:=d;obtain⟨np,nd,dest,nl,nc,fb⟩:=fn;obtain⟨Qh,B,H,J,e3,e4⟩:=K3;dsimp only at M Y L Qg E7 C F E8 G1 hb Qh B H J e3 e4;generalize t.args=as at*;generalize t.defaults=ds at*;subst Qh B H e3 e4;unfold tj at g;dsimp only at g hb;by_cases hl:(SW (vs.length<=as.length)&&SW (as.length-ds.length<=vs.length))=Sp
 case neg=>rw[if_neg hl]at g;exact g.elim
 replace g:=(if_pos hl)▸g;simp only[T3,decide_eq_true_eq]at hl;have K:=rs.bd;have m:=G.bn;refine tc (uA R.j9 (by decide)) (m _ _ ho) BY (aa E7 L) (aa C L) (.inl ⟨body,Y,rfl⟩) (B_.keeps m) ?_;refine th M E8 ?_ (by refine aa ?_ K;exact hl.1) (by refine aa ?_ K;exact Nat.sub_le_iff_le_add.mp hl.2) (by simpa using G1) ?_
 ·rcases Qg with q|⟨T,oo,k,B,H,e3⟩
  ·exact .inl q
  ·exact .inr ⟨T,oo,k,B,m _ _ H,e3⟩
 have Y8:bN ρ _ (ys++SI (as.length-ys.length) Value.none):=aa (rs.A (bN.Sd (v:=V.az) rfl _)) K;refine aa ?_ L;refine Bp G v_ F J Y8 (by refine aa (aa (aa (aa ?_ K) (Sx _)) Uh) Sr;exact VU hl.1) λc P U N B H e3 e4 e5 st hL FF keep=>⟨(f.bZ.nolimit.keeps G.bn).keeps keep,Ji ?_⟩
 have i:=FF (A.deeper c);generalize hp:gA dest _ _ _=p at g i;have s_:(A.deeper c).frames=(c::fr):=by
  show A.frames.map (c::·)=_;refine aa ?_ R.eA;rfl
 refine hb _ ⟨?_,?_,R.fL,s_,by refine aa ?_ B;exact F.1,H.trans CD,e3.trans E6,F.2.1,λnm k h=>.inl ?_⟩ ⟨⟨fr,rfl⟩,e4⟩ rfl ⟨o,fd,ho,BY,e5.1,e5.2.1,e5.2.2.1,e5.2.2.2,B⟩ P p.1 _ _ {s with heap:=U,toks:=N} i _ _ ?_
 ·exact R.j9
 ·exact R.lY
 ·show c.scope.names.lookup nm=_;exact aa h B
 have I:∀{z j},cK W c.locals P z U j->ck W ρ z s.heap j:=λu=>((cK.B st).A u).cH hL;show bu W _ _ _ _ _ _ _;cases hr:D p.1 _ _ with
 |ak=>replace g:=hr▸g;exact g.elim
 |eu l r=>rw[hr]at g;exact g.elim
 |dR l r=>rw[hr]at g;exact g.elim
 |aD l r=>
  replace g:=hr▸g;exact λz j w u G3=>g z .none j w (I u) rfl G3.toaR.RI
 |aO v r=>
  replace g:=hr▸g;exact λz v' j w u rv Z=>g z v' j w (I u) rv Z.RI
 |bh told r=>
  replace g:=(hr)▸g;intro z e j w u Z y;have y:fk W U z told c.frame e j:=y;rw[e4]at y;exact .B (wj (s:={s with heap:=j,toks:=w}) s_ e4 Z y (λb q=>u.D q) i.bn (qK i.toaR Z) λj_ q_ Ck sf=>(g z e j_ w (I (u.RB sf)) q_.RI (Ck.B λb q=>st.D q)))
end
section
def Jr (h:ax M A m Q E s):ax M A (m.keep y) Q E s:=
 λj p q w=>by rewrite[Sem.wp_keep];exact h j p q w
def Bs {P:TV->Prop} (j:args.any (·.1)=Su) (l:∀h,P h->∃k,(k=Yx∨k=XQ∨k=W6)/\V' M h (keeperOf f) k) (h:ax M A (evalArgs f Sp args []) (λa q=>P q.heap/\ax M A (Uv f (first++a.pos) a.kw) Q E q) E s):ax M A (WN p f first args []) Q E s:=by
 refine cg (cy h) λa q z=>aN (cE ?_);refine aP (l _ z.1) λk u L=>?_;rw[j,List.any_nil,Bool.or_false];refine bT (L.here ?_);have y:∀{t},ax M A t Q E q->ax M A (t>>=λr=>holding [r] point>>=λd=>T8 r) Q E q:=
  λm=>cg m λr g c=>aN (cy (qp (bb c)))
 have w e:ax M A (callMarked e f _ a.kw) Q E q:=Jr z.2;rcases u with rfl|rfl|rfl<;>dsimp only<;>first|exact y z.2|(split<;>first|exact y z.2|exact y (w _))
end
def tl {P:TV->Prop} (m:cJ (bf W x) j w) (u:∀e∈j,cD e=Sp) (F:cn W x p z y r s.heap) (c:∀h,P h->∃k,(k=Yx∨k=XQ∨k=W6)/\V' W.b h (keeperOf f) k) (g:bL W x.bD p bN s (de w z y r) (λt l=>P l.heap/\ax W.b x.bO (Uv f (first++t)) Q E l) E):ax W.b x.bO (WN q f first (WM q (Vx j x.aK)) []) Q E s:=
 Bs (ng u) c (qD m u F g)
def wx (z:nz W a d) (h) (y:W.cb.StaysIn h):∃k,(k=Yx∨k=XQ∨k=W6)/\V' W.b h (keeperOf (.ref a)) k:=by
 obtain⟨o,w,j,q,-⟩:=z;exact⟨.frame,.inl rfl,(Wx (y _ _ j)).andThen (aa .now q)⟩
def cn.RL (F:cn W x y q z j h):W.cb.objs.size<=h.objs.size:=by
 refine aQ λG w=>?_;obtain⟨m,⟨o,_,_,k,_⟩,_⟩:=F.aL;exact w (Sq F.m8 (Tu (Uk k)))
def wy (o:x.n W d u) (f:ik W) (U:b8 x.bq b=Sn .globalImplicit) (G:(b==("__debug__":TR))=Su) (L:W.hJ b=Sn (.ref a)) (M:∀h,W.cb.StaysIn h->∃k,(k=Yx∨k=XQ∨k=W6)/\V' W.b h (keeperOf (.ref a)) k) (C:cJ (bf W x) Z J) (T:∀e∈Z,cD e=Sp) (Y:∀v m s n z,aR W x.bD v m s.heap->W.cb.objs.size<=s.heap.objs.size->bN v n z->jO W x.bO x.bD v s (.call (.ref a) ⟨z,[]⟩) (k n m)):
  bf W x (.Call (.Name b p) Z [] i) (λl c m=>(de J l c m).C k):=λv D B m s F Q E g=>bT (qx o f F.bn U L G (tl C T F M (g.am λn y j z K P w r q t=>⟨q.bn,(Y j y _ n z q (F.aD w q).RL r).jk Q E t⟩)))
structure qT (W:bk) (fA:Nat->Option S7):Prop extends kY W where
 l9:∀f a,fA f=Sn a->∃d,fj f=Sn d/\nz W a d
 sv:∀nm k,oj.lookup nm=Sn k->∃a,fA k=Sn a/\W.hJ nm=Sn (.ref a)
 Bt:∀c C nm m f,i3 c=Sn C->pV.lookup nm=Sn m->i0 c m=Sn f->∃a,fA f=Sn a/\Vh W.bG (.ref C) nm=Sn (Sn (.ref a))/\typeIn W.bG (.ref a)=Sn (.type "function")
 eT:∀nm c,ol.lookup nm=Sn c->∃C a,i3 c=Sn C/\W.hJ nm=Sn (.ref C)/\keepIn W.bG (.ref C)=Sp/\makesIn W.bG C=Sp/\fA (mQ c)=Sn a/\Vh W.bG (.ref C) "__init__"=Sn (Sn (.ref a))/\typeIn W.bG (.ref a)=Sn (.type "function")
def nA (W:bk) (fA:Nat->Option S7) (Φ:dy) (n:Nat):Prop:=∀f a,fA f=Sn a->∀A fr ρ σ s vs k_,nx A fr n->aR W fr ρ σ s.heap->W.cb.objs.size<=s.heap.objs.size->bN ρ vs k_->jO W A fr ρ s (.call (.ref a) ⟨k_,[]⟩) (Φ f vs σ)
noncomputable abbrev Bu (Φ:dy) (m:Nat) (fa:dk) (h:qz):dk:=λl c σ=>(fa l c σ).C λx σ=>(match x with
  | .ab i=>(match σ[i]? with
   |some (.a8 k d)=>(match σ[d]?,i0 k m with
    |some (.aL _),Sn f=>(h l c σ).C λvs σ=>Φ f (x::vs) σ
    |_,_=>.ak)
   |_=>.ak)
  |_=>.ak)
def Js (f:qT W fA) (o:x.n W (n+1) (10*(n+1))) (So:nA W fA Φ n) (hm:pV.lookup z=Sn m) (hb:jm a=Sp) (he:jl y=Sp) (hl:ap.endLine=Z.line) (ha:bf W x a fa) (hs:cJ (bf W x) y fs):
  bf W x (.Call (.Attribute a z ap) y [] Z) (Bu Φ m fa (de fs)):=by
 intro ρ j w σ s F Q E g;refine AA hb he hl (ha ρ j w σ s F _ E (bL.am g λv p N v' n_ J2 T r J H=>?_));intro pl;have M:=F.aD T J
 set_option tactic.hygienic true in induction v using V.casesOn<;>first|exact H.elim|skip
 rename_i i;obtain⟨b,ob,rfl,e1,e2,ro⟩:=fM J r;dsimp only at H;rw[e2]at H
 set_option tactic.hygienic true in induction ob using O.casesOn<;>first|exact H.elim|skip
 rename_i k d
 ·refine aQ λG kG=>?_
  refine ec (yn (P:=λr=>bL W x.bD N VR _ r Q E) H λh=>h) λY9 u e3 e4 H=>?_;obtain⟨C,dx,so,n',hc,hd,hg,gd,rn,I⟩:=sW J ro e3;refine dz (f.Bt k C z m u hc hm e4) λaf A c e=>?_;have q:=f.ka k C hc;obtain⟨⟨⟨⟨q1,q2⟩,q3⟩,q4⟩,q5⟩:=v9 q;refine aP (f.l9 u af A) λsrc Y' t=>?_;refine kG ?_;refine .B (method_fn (oN f.todf J) I (plainGet_of q1).1 (plainGet_of q1).2 c e ?_ ?_)
  ·show(lookIn z _).map _=_
   refine aa (aa ?_ (NR.d (by
    have:pV.all (λe=>(gW.lookup e.1).isNone)=Sp:=by decide+kernel
    rw[SN]at this;simpa using this _ (iA hm)) rn)) (lookIn_dict _ _ _);rfl
  ·refine tl hs (qI he) M (λh=>wx t h) (H.am λvs U Y l E2 J4 K B L D=>?_)
   refine⟨L.bn,(So u af A x.bO x.bD Y U _ (.ab i::vs) (.ref b::l) o.RD L (M.aD K L).RL ⟨⟨b,gG K.cY e1,rfl⟩,B⟩).jk Q E D⟩
def Jt (f:qT W t) (o:x.n W (n+1) (10*(n+1))) (Z:nA W t d n) (Y:b8 x.bq z=Sn .globalImplicit) (v:oj.lookup z=Sn k) (J:∀e∈y,cD e=Sp) (K:cJ (bf W x) y b):bf W x (.Call (.Name z p) y [] j) (λl c q=>(de b l c q).C λw q=>d k w q):=by
 refine aQ λG P=>?_;refine aP (f.sv z k v) λa i U=>?_;refine aP (f.l9 k a i) λL Q u=>?_;refine P ?_;refine wy o f.toik Y ?_ U (λh=>wx u h) K J λF q s w g G m r=>Z k a i x.bO x.bD F q s w g o.RD G m r;have:oj.all (λe=> !(e.1==("__debug__")))=Sp:=by decide+kernel
 rw[SN]at this;simpa using this _ (iA v)
section
section
set_option maxHeartbeats 4000000 in
def Ju {s:OsState} (Y:Makes (Tt q w) h C) (c:V' (Tt q w) h (Wr (.ref C) "__init__") (Sn (.ref j))) (Q:∀self,V' (Tt q w) h (bindSpecial (.ref j) self) (.ref j,[self])) {R:Result->Tf->Prop} (Z:dj (Tt q w) (A.under (.builtin "type.__call__" ⟨.ref C::y,[]⟩)) (.call (.ref j) ⟨.ref (h.objs.size+1)::y,[]⟩) (λr f=>match r with
   | .ok (.ret v)=>v=.none/\R (.ok (.ret (.ref (h.objs.size+1)))) f
   | .ok _=>False
   | .error e=>R (.error e) f) ⟨(h.push Wk).push (Vz C h.objs.size),g,d,t,s⟩):
  dj (Tt q w) A (.call (.ref C) ⟨y,[]⟩) R ⟨h,g,d,t,s⟩:=by
 refine aQ λG J=>?_;have W:=Y;obtain⟨⟨D,B,K,N,n,I,H,P⟩,p,i,self,U,u,m⟩:=Y;refine J ?_;refine gE (by rfl) ?_;refine bT (Ww n ?_);refine bT (u.at ?_);refine aN (bb (aN (bb ?_)));refine bb (a:=Fin.again (.call (.builtin "type.__call__") ⟨.ref C::y,[]⟩)) ⟨by rfl,by rfl,?_⟩;have l:jp.contains "type.__call__"=Su:=by decide+kernel
 refine gE (by rfl) ?_;refine bT (check_slot tc_kind tc_split m (tc_args _ _ _) (bb ⟨WT _ (by decide+kernel),l,sT entry_typeCall l ?_⟩));have L:V' (Tt q w) h (mroOf (.ref C)) K.mro:=((Wx n).andThen .now).andThen .now;refine bT (L.at ?_);refine zo (decide_eq_false (by refine aa ?_ P;decide)) ?_;refine bT (p.at ?_);refine aN (bb ?_);refine aN (cy (.B (wpAny_call (new_K W c (.inl rfl) ?_))));have k:∀b o,h.get? b=Sn o->((h.push Wk).push (Vz C h.objs.size)).get? b=Sn o:=λb o e=>SK _ (SK _ e)
 have F:((h.push Wk).push (Vz C h.objs.size)).get? (h.objs.size+1)=Sn (Vz C h.objs.size):=by heap_get
 have x:V' (Tt q w) ((h.push Wk).push (Vz C h.objs.size)) (typeOf (.ref (h.objs.size+1))) (.ref C):=(Wx F).andThen .now;have T:=(Q (.ref (h.objs.size+1))).keeps k;refine bT (Looks.at (x.andThen (self.keeps k)) ?_);refine aN (cy ?_);refine bT (Looks.at (x.andThen (c.keeps k)) ?_);refine cy (bT (T.at ?_));refine aN (lX (m4 Z λr f z=>?_));rcases r with e|(v|_|_|_)<;>first|exact z|exact z.elim|skip
 obtain⟨rfl,z⟩:=z;exact bb (bb z)
end
end
noncomputable abbrev wz (Φ:dy) (c:Nat) (vs:List V) (σ:List O):R V:=(Φ (mQ c) (.ab σ.length::vs) (σ++[.a8 c (σ.length+1),.aL []])).C λr c_=>match r with
  | .az=>.aj (.ab σ.length) c_
  |_=>.ak
def Jv (f:qT W fA) (So:nA W fA I n) (hc:ol.lookup H=Sn c) (hd:A.depth+2+3*n<=900) (hu:A.units+4+10*n<=9000) (hh:A.handled=none) (hf:A.frames=Sn P) (G:aR W P p l s.heap) (N:W.cb.objs.size<=s.heap.objs.size) (r:bN p F w):∃C,W.hJ H=Sn (.ref C)/\keepIn W.bG (.ref C)=Sp/\jO W A P p s (.call (.ref C) ⟨w,[]⟩) (wz I c F l):=by
 obtain⟨C,a,h1,h2,h3,h4,h5,h6,h7⟩:=f.eT H c hc;refine⟨C,h2,h3,λQ E g=>?_⟩;have X:=oN f.todf G;obtain⟨h,gg,d,t,os⟩:=s;dsimp only at G N X;refine Ju (makes_of X h4) (XA X h6) (λself=>bind_fn X self h7) ?_;have k:∀b o,h.get? b=Sn o->((h.push Wk).push (Vz C h.objs.size)).get? b=o:=λb o e=>SK _ (SK _ e);have hx:((h.push Wk).push (Vz C h.objs.size)).get? (h.objs.size+1)=(Vz C h.objs.size):=by heap_get
 have M:((h.push Wk).push (Vz C h.objs.size)).get? h.objs.size=(VN [] 0):=SK _ (fv _ _ rfl);have n1:h.get? (h.objs.size+1)=none:=Tj (Tx _);have n2:h.get? h.objs.size=none:=Tj (SJ _);have hl:=G.cH.bd;have u:W.cb.objs.size<=((h.push Wk).push (Vz C h.objs.size)).objs.size:=by refine aa ?_ (XO _ _);refine aa ?_ (XO _ _);exact Sq N (SH _ 2)
 generalize hh':(h.push Wk).push _=D at k hx M u;have L:aR W P (p++[h.objs.size+1,h.objs.size]) (l++[.a8 c (l.length+1),.aL []]) D:=by
  refine(G.RA k).RH rfl (by simp) (λa m=>?_) λi o a Z j=>?_
  ·rcases mU m with rfl|rfl
   ·exact G.A n1
   ·exact G.A n2
  ·match i with
   |0=>
    replace Z:=Sv Z;subst Z;replace j:=Sv j;subst j;exact⟨C,h.objs.size,h1,by refine aa ?_ (Ts (aa (Tx _) hl));refine aa ?_ hl;refine aa ?_ (Uj _ _);rfl,hx⟩
   |1=>replace Z:=Sv Z;subst Z;replace j:=Sv j;subst j;exact⟨[],0,trivial,M⟩
   |i+2=>simp at Z
 have B:ck W p (p++[h.objs.size+1,h.objs.size]) h D:=⟨TJ _ _,λb m=>(Tn.mp m).imp id λq=>by
   rcases mU q with rfl|rfl
   ·exact n1
   ·exact n2,λb o e K K=>⟨o.slots,k b o e,λK=>rfl⟩,λb o e=>⟨o,k b o e⟩,λK K cc=>cc.keeps k⟩
 have x:(p++[h.objs.size+1,h.objs.size])[l.length]?=Sn (h.objs.size+1):=by refine aT ?_ hl;refine aa ?_ (Ts (SJ _));refine aa ?_ (Uw _);rfl
 have A':nx (A.under (.builtin "type.__call__" ⟨.ref C::w,[]⟩)) P n:=by
  refine⟨?_,?_,hh,hf⟩
  ·refine aa ?_ (depth_under_make _ _ _);exact hd
  ·refine aa ?_ (units_under_make _ _ _);exact hu
 refine m4 ((So (mQ c) a h5 _ P _ _ ⟨D,gg,d,t,os⟩ (.ab l.length::F) (.ref (h.objs.size+1)::w) A' L u ⟨⟨_,x,rfl⟩,r.RA (TJ _ _)⟩) (λv s'=>v=.none/\Q (.ref (h.objs.size+1)) s') E ?_) λr s' z=>?_
 ·unfold wz at g
  cases hr:I (mQ c) _ _ with
  |ak=>rw[hr]at g;exact g.elim
  |bh told c_=>rw[hr]at g;exact λY e U T J G' y=>g Y e U T (B.A J) G' (y.B λb q=>B.D q)
  |aj v c_=>
   rw[hr]at g;dsimp only[R.C]at g;induction v using V.casesOn<;>first|exact g.elim|skip
   exact λY v' U T J rv G'=>⟨rv,g Y _ U T (B.A J) ⟨_,gG J.cY x,rfl⟩ G'⟩
 ·rcases r with e|(v|_|_|_)<;>first|exact z|exact z.elim
def Jw (f:qT W u) (o:x.n W (n+1) (10*(n+1))) (v:nA W u g n) (i:b8 x.bq q=Sn .globalImplicit) (w:ol.lookup q=Sn c) (Q:∀e∈y,cD e=Sp) (Z:cJ (bf W x) y m):bf W x (.Call (.Name q p) y [] j) (λl Y z=>(de m l Y z).C λt z=>wz g c t z):=by
 obtain⟨C,a,L,d,J,F,M,E,T⟩:=f.eT q c w;refine wy o f.toik i ?_ d (λh K=>keeps_K J h λa o e=>K _ _ (f.X a o e)) Z Q λN z s t P G k r=>?_
 ·have:ol.all (λe=> !(e.1==("__debug__")))=Sp:=by decide+kernel
  rw[SN]at this;simpa using this _ (iA w)
 ·refine dz (Jv f v w (Sq (aa (SF (TH 2 _▸Tx _) _) (TK _ _ _)) o.j9) (Sq (aa (SF (TH 4 _▸SF (S2 rfl) _) _) (TK _ _ _)) o.lY) o.fL o.eA G k r) λI b H U=>?_
  replace b:=d▸b;cases b;exact U
def Jx (o:x.n W d u) (f:kY W) (K:jm a=Sp) (P:gW.lookup h=Sn k) (U:bf W x a Z):bf W x (.Attribute a h m) (λl c j=>(Z l c j).C λv j=>mO v k j):=by
 intro G e t j s F Q E g;rewrite[arm_eval_Attribute];refine aa ?_ (Ay K);exact aN ((U G e t j s F).am g λv b n M Y J i r w p=>(aN (cE (aN (cy (gC (HO f w P r _ E p) (λy C q=>(bT (Xt (bb q)))) λL L z=>z))))))
def Jy:bf W x (.UnaryOp .USub (.Constant (.int i) k p) q) (λy y z=>.aj (.ae (-i)) z):=λr j w z s F Q E g=>vq (.B (XU (.B (PySem.P.neg_int (g.x F.toaR ⟨_,rfl⟩ _)))))
section
def Jz {K} [DecidableEq K] {y} {k:K} (h:(y.map (·.1)).Nodup):((WA y k v).map (·.1)).Nodup:=by
 unfold WA
 split
 ·have:(y.map λz=>if z.1=k then(z.1,v)else z).map (·.1)=y.map (·.1):=by
   refine aa ?_ Tp;refine UM λz p=>?_;show(if z.1=k then(z.1,v)else z).1=z.1
   split<;>rfl
  exact aa h this
 ·rename_i q
  refine aa ?_ Ta;rewrite[W4];refine⟨h,by simp,λa w b j e=>q ?_⟩;simp only[Tz,Wb,SP]at j;subst j;subst e;refine cW w λz m e=>?_;rewrite[Wq];exact⟨z,m,by simpa using e⟩
noncomputable abbrev wA {α:Type} (ps:List (α×α)):List α:=ps.flatMap λp=>[p.1,p.2]
def Bv {W:bk} {K} [DecidableEq K] {g:U7 W.fJ W.bg K} {R} {c:V->Bool} (conv:∀k t v s,c k=Sp->VR w k t->VR w v s->∃q,g.is q t=Sp/\∀j z,L3 R (λf e=>VR w f.2 e.2) j z->(z.map (·.1)).Nodup->L3 R (λf e=>VR w f.2 e.2) (dT j k v) (WA z q s)) (l):
  ∀{u},bN w (wA l) (wA u)->(l.all λe=>c e.1)=Sp->∃y,Carries g u y/\
  ∀j z,L3 R (λf e=>VR w f.2 e.2) j z->(z.map (·.1)).Nodup->L3 R (λf e=>VR w f.2 e.2) (l.foldl (λd e=>dT d e.1 e.2) j) (merged z y):=by
 induction l with
 |nil=>
  intro u r _;induction u using SD with
  |nil=>exact⟨[],trivial,λj z r a=>r⟩
  |cons=>exact r.elim
 |cons p l b=>
  intro u r m;induction u using SD with
  |nil=>exact r.elim
  |cons n u=>
   have m:=bH m;refine aP (b r.2.2 m.2) λy i x=>?_;refine aP (conv _ _ _ _ m.1 r.1 r.2.1) λq e h=>?_;exact⟨(q,n.2)::y,⟨e,rfl,i⟩,λj z r o=>x _ _ (h j z r o) (Jz o)⟩
set_option tactic.hygienic true in
def JA {W:bk} (r:bN j (y.flatMap λp=>[p.1,p.2]) (g.flatMap λp=>[p.1,p.2])) (f:eg y=Sp):∃z,Carries (Xm W.fJ W.bg) g z/\
  ∀w q,KR j w q->(q.map (·.1)).Nodup->KR j (y.foldl (λd e=>dT d e.1 e.2) w) (merged q z):=
 Bv (λk b v n o m c=>by
  induction k using V.casesOn<;>first|exact aG o|exact bv o|(cases o;done)|skip
  obtain⟨u,t,rfl⟩:=m;rename_i l;exact⟨l.map UInt8.ofNat,(beq_self_eq_true _),λw q r s=>KR.eL u c r s⟩) y r f
noncomputable def JB:V->Bool
 | .ae _=>Sp
 |_=>Su
set_option tactic.hygienic true in
def JC {W:bk} (r:bN j (y.flatMap λp=>[p.1,p.2]) (u.flatMap λp=>[p.1,p.2])) (g:kO y=Sp):∃z,Carries (intKind W.fJ W.bg) u z/\
  ∀w q,KI j w q->(q.map (·.1)).Nodup->KI j (y.foldl (λd e=>dT d e.1 e.2) w) (merged q z):=
 Bv (c:=JB) (λk c v s o l f=>by
  induction k using V.casesOn<;>first|exact aG o|exact bv o|(cases o;done)|skip
  obtain⟨t,rfl⟩:=l;rename_i i;exact⟨i,(beq_self_eq_true _),λw q r m=>KI.eL f r m⟩) y r g
theorem Bw:∀{z} {q:List (V×V)},mR z=q->z=q.flatMap λp=>[p.1,p.2]
 |[],q,h=>by replace h:=Sv h;subst h;rfl
 |[_],q,h=>aG h
 |k::v::r,q,h=>by
  refine i1 h λj y e0=>?_;subst e0;refine aa ?_ (Bw y);rfl
abbrev Bx (ρ:List S7) (vs:List V) (pv:List (SV×SV)):Prop:=bN ρ vs (pv.flatMap λp=>[p.1,p.2])
noncomputable abbrev By (env:Env) (pos:Pos) (e:TQ×TQ):Sem SV×Sem SV:=(eval e.1 env,do let v<-eval e.2 env;Yf pos;T8 v)
def R.a {r:R q}:(r.C f).C g=r.C λv j=>(f v j).C g:=by induction r using R.casesOn<;>rfl
def JD {K:List (dk×dk)} (M:cJ (λe f=>bf W x e.1 f.1/\bf W x e.2 f.2) U K):∀o q z y s,cn W x o q z y s.heap->
  jr W x.bO x.bD o Bx s (evalPairs (U.map (By x.aK P))) (de (K.flatMap λf=>[f.1,f.2]) q z y):=by
 set_option tactic.hygienic true in induction M with
 |ao=>exact λo q z y s F Q E g=>bb (bL.A g F.toaR trivial)
 |ai h M A=>
  rename_i e f U K;refine λo q z y s F Q E g=>aN (jr.am (h.1 o q z y s F) g λv j k v' C T c b n p=>?_);have l:=F.aD c n;change bL W x.bD k Bx _ (((f.2 q z j).C λw y=>(de (wA K) q z y).C λD y=>.aj (w::D) y).C λvs y=>.aj (v::vs) y) Q E at p;rw[R.a]at p;refine aN (cy (aN ((h.2 k q z j _ l).am p λw t d w' B N r i a m=>?_)));rw[R.a]at m;exact aN (cE (bb (aN (cy ((A d q z t _ (l.aD r a)).am m λD G L pv I H u Z Y J=>(bb (bL.A J Y ⟨(b.RA r.cY).RA u.cY,i.RA u.cY,Z⟩)))))))
def Bz {K} [DecidableEq K] [DecidableEq j] {z:U7 p w K} {q:U7 p w j} {h:TV} (r:h.DictOf z a []):h.DictOf q a []:=by
 refine aQ λG y=>?_;obtain⟨o,k,u,g,x,d,_,f,_⟩:=r;refine y ?_;have e:k=#[]:=by
  obtain⟨l⟩:=k;induction l using SD with
  |nil=>rfl
  |cons e l=>cases f
 refine aQ λG y=>?_;subst e;exact y ⟨o,#[],u,g,x,d,λc m=>(Array.not_mem_empty _ m).elim,Pairs.nil,UY⟩
noncomputable abbrev BB (fs:List dk):dk:=λl c σ=>(de fs l c (σ++[.aE []])).C λvs c_=>(match mR vs,c_[σ.length]? with
  |some ps,Sn (.aE [])=>if(eg ps||kO ps)&&ps.length<=15 then .aj (.ab σ.length) (c_.set σ.length (.aE (lJ ps)))else .ak
  |_,_=>.ak)
def JE {q:List (V×V)} {z:List (SV×SV)} (r:bN y (q.flatMap λp=>[p.1,p.2]) (z.flatMap λp=>[p.1,p.2])):z.length=q.length:=by
 have:=r.bd;simp only[List.length_flatMap,TS,List.length_nil,List.map_const',List.sum_replicate_nat]at this;exact Nat.eq_of_mul_eq_mul_right (T9 1) this
def JF (G:aR W w M B s.heap) (u:M[i]?=Sn D) (e:B[i]?=Sn (.aE [])) {Z:List (SV×SV)} (r:bN M (J.flatMap λp=>[p.1,p.2]) (Z.flatMap λp=>[p.1,p.2])) (g:(eg J||kO J)=Sp) (hl:J.length<=15) (h:∀L C,aR W w M (B.set i (.aE (lJ J))) L->ck W M M s.heap L->Q YU {s with heap:=L,toks:=C}):
  Tg W.b A (forIn Z YU λ(x) (_)=>(do dictSet D x.1 x.2;T8 (ForInStep.yield YU):Sem (ForInStep PUnit))) Q E s:=by
 obtain⟨-,t⟩:= G.at e u;have f:(lJ J).length<=J.length:=by
  have N:∀(l:List (V×V)) F,(l.foldl (λd e=>dT d e.1 e.2) F).length<=F.length+l.length:=λl=>by
   induction l with
   |nil=>exact λF=>(SH _ _)
   |cons a l y=>
    refine λF=>aa ?_ YG;simp only[TS];exact Sq (y (dT F a.1 a.2)) (Sq (TU (v1 F) _) (To ((TK _ _ _).trans (congrArg _ (TH 1 _)))))
  have:=N J [];unfold lJ;simpa using this
 have H:s.heap.DictOf (Xm W.fJ W.bg) D []:=by
  rcases t with⟨I,r0,q⟩|⟨n,_⟩
  ·induction I using SD with
   |nil=>exact q
   |cons _ _=>exact r0.elim
  ·exact absurd rfl n
 have sz:=JE r;have T:∀{K} [DecidableEq K] {U:U7 W.fJ W.bg K} {I:List (K×SV)} {L:TV} {C:Nat},s.heap.DictOf U D []->L.DictOf U D (merged [] I)->UH D s.heap L->fK W M L D (lJ J)->Q YU {s with heap:=L,toks:=C}:=λq0 q Y dd=>by
  obtain⟨o0,es0,ep0,g0,x0,d0,_⟩:=q0;obtain⟨G',st⟩:=G.RG (o:=.aE _) u g0 (λvs z=>by replace z:=(d0)▸z;cases z) (λb n=>Y.2 b n) ⟨a5 (Sq f hl) rfl,dd⟩;exact h _ _ G' st
 by_cases P:eg J=Sp
 ·obtain⟨I,c,m⟩:=JA r P
  have hc:=c.length;exact wpAny_storeAll Z I [] s _ c H (by refine aa ?_ TO;simp;rw[hc,sz];exact a5 hl rfl) λL q Y=>T H q Y (.inl ⟨_,m [] [] trivial UY,q⟩)
 ·have j:kO J=Sp:=by rw[Bool.or_eq_true]at g;exact g.resolve_left P
  obtain⟨I,c,m⟩:=JC r j;refine wpAny_storeAll Z I [] s _ c (Bz H) (by refine aa ?_ TO;simp;rw[c.length,sz];exact a5 hl rfl) λL q Y=>T (Bz H) q Y (.inr ⟨?_,_,m [] [] trivial UY,q⟩);induction J using SD with
  |nil=>exact absurd rfl P
  |cons a l=>
   have N:∀(l:List (V×V)) F,F≠[]->l.foldl (λd e=>dT d e.1 e.2) F≠[]:=λl=>by
    induction l with
    |nil=>exact λζ h=>h
    |cons a l y=>exact λF ζ=>y _ (v2 F)
   exact N l _ (v2 _)
def JG {env} {pos}:∀(es:List (TQ×TQ)),(evalEachOpt (es.map λe=>Sn e.1) env).zip ((evalEach (es.map (·.2)) env).map λv=>do let x<-v;Yf pos;T8 x)=(es.map (By env pos)).map λp=>(Sn p.1,p.2):=by
 intro Q;induction Q with
 |nil=>exact rfl
 |cons e es IH=>
  rw[Tz,Tz,arm_evalEachOpt_cons,arm_evalEach_cons,Tz,WV,IH];rfl
def JH {t:List (TQ×TQ)} {i:List (dk×dk)} (Z:cJ (λe f=>bf W x e.1 f.1/\bf W x e.2 f.2) t i) (L:t.length<=15):
  bf W x (.Dict (t.map λe=>Sn e.1) (t.map (·.2)) a) (BB (i.flatMap λf=>[f.1,f.2])):=by
 intro Y d v p s F Q E g;rewrite[arm_eval_Dict];refine aa ?_ (JG _);have G:=F.toaR;have k:∀b o,s.heap.get? b=Sn o->(s.heap.push {cls:=.type "dict",data:=.dict #[]}).get? b=o:=λB B e=>SK _ e;have M:s.heap.get? s.heap.objs.size=none:=Tj (SJ _);have u:aR W x.bD _ (p++[.aE []]) _:=G.dC k M ⟨S6 _,.inl ⟨[],trivial,Heap.DictOf.new _⟩⟩;have z:ck W Y _ s.heap _:=.dC k M;have C:(Y++[s.heap.objs.size])[p.length]?=s.heap.objs.size:=by refine aT (aa ?_ (Ts (SJ _))) G.cH.bd;refine aa ?_ (Uw _);rfl
 refine aN (cE ?_)
 set_option tactic.hygienic true in cases Z with
 |ao=>
  show ax _ _ newDict _ _ _;have g:db W x.bD Y s (.aj (.ab p.length) ((p++[O.aE []]).set p.length (O.aE []))) Q E:=by
   have:BB [] d v p=.aj (.ab p.length) ((p++[O.aE []]).set p.length (O.aE [])):=by
    show(R.aj [] _).C _=_;dsimp only[R.C];refine aa (aa ?_ (Uw _)) (Ts (SJ _));rfl
   exact aT g this
  rw[List.set_append_right _ _ (SJ _),Uw]at g;exact bT (wpAny_alloc (bb (g _ _ _ _ z ⟨_,C,rfl⟩ u)))
 |ai h Z=>
  rename_i e t f i;refine aa ?_ (dictDisplay_pairs _ (by simp) (by simpa using S8 L (by decide)));refine aN (bT (wpAny_alloc (aN (cy ?_))));refine vo (decide_eq_true (by simpa using L)) ?_;refine aN ((JD (.ai h Z) _ d v _ {s with heap:=s.heap.push {cls:=.type "dict",data:=.dict #[]}} (F.aD z u)).am (bL.RB z g) λI l j pv T D m y n q=>?_);refine cy ?_;cases J:mR I with
  |none=>replace q:=J▸q;exact q.elim
  |some ps=>
   rw[J]at q;cases K:l[p.length]? with
   |none=>rw[K]at q;exact q.elim
   |some H=>
   rw[K]at q;induction H using O.casesOn<;>first|exact q.elim|skip
   rename_i c;induction c using SD with
   |cons=>exact q.elim
   |nil=>
    ·obtain⟨U,q⟩:=lK (P:=λr=>db W x.bD j _ r Q E) q λh=>h
     rw[T3,decide_eq_true_eq]at U;have y:=y;rw[Bw J]at y;have w:=gG m.cY C;exact bT (JF n w K y U.1 U.2 λA tk G' st=>bb (bb (bb (q j _ A tk st ⟨_,w,rfl⟩ G'))))
end
section
noncomputable def oZ:PyProof.Rows.KeyKind:={PyProof.Rows.strKind with
 keyOf:=λv=>match v with| .bytes b _=>Sn (b.toList.map (·.toNat))|_=>none
 dflt:=[]}
def JI:∀a b,(YO a b==.lt)=SW (a.map (·.toNat)<b.map (·.toNat)):=by
 intro a;induction a with
 |nil=>intro b;cases b<;>rfl
 |cons x q IH=>
  intro b;cases b with
  |nil=>rw[YO];rfl
  |cons y z=>
   rewrite[YO];by_cases h:x<y
   ·refine aa ?_ (if_pos h)
    have:x.toNat<y.toNat:=h;simp[We,this]
   ·refine aa ?_ (if_neg h)
    have j:¬x.toNat<y.toNat:=h;by_cases g:x>y
    ·refine aa ?_ (if_pos g)
     have:x.toNat≠y.toNat:=(TB (by assumption))
     simp[We,j,this]
    ·refine aa ?_ (if_neg g)
     have:x.toNat=y.toNat:=V0 (TN.mp g) (TN.mp j);refine aa ?_ (IH z);simp[We,this]
namespace BD
def BC:Slot "bytes" "__lt__" "bytes.__lt__":=
 .of (owner:="bytes") (n:="__lt__") (by refine aS ?_ TG (T5 _ _);kernel_rfl) (by decide+kernel) (by decide+kernel) (by decide+kernel)
  (by first|exact .inl (by decide+kernel)|exact .inr (by decide+kernel)) (by refine aa ?_ (UX _ _);kernel_rfl)
def JJ:VB WE "bytes.__lt__"=Builtin.«bytes.__lt__»:=VO (by kernel_rfl)
end BD
def JK (h:Q (.bool (SW (a.toList.map (·.toNat)<b.toList.map (·.toNat)))) s):
  Tg (Tt q w) A (Uv (.builtin "bytes.__lt__") [.bytes a t,.bytes b u]) Q E s:=by
 refine Uy BD.BC (Uc s a t) BD.JJ ?_ (by unfold W';kernel_rfl);show Tg _ _ (do
  if !(<-isInstance _ _)then rule _;return<-ret .notImplemented
  ret _) _ _ s
 refine Sw (Tc rfl (Sw (Tc rfl ?_)));refine SU ⟨_,rfl,?_⟩;show Q (.bool (YO a.toList b.toList==.lt)) s;exact aa h (JI _ _)
set_option tactic.hygienic true in
def JL:oZ.OneLt:=by
 intro k w A E s x y a b Q z j h;induction x using VS<;>simp only[oZ,reduceCtorEq,Option.some.injEq]at z
 induction y using VS<;>simp only[oZ,reduceCtorEq,Option.some.injEq]at j
 replace z:=Sv z;subst z;replace j:=Sv j;subst j;rename_i p t q u;refine Sw (wpAny_cRoomFor_byValue rfl ?_);refine Sw (wpAny_callSpecialIfBound?_slot (Uc s p t) BD.BC (JK ?_));exact UK h
abbrev gK (vs:List SV) (ls:List (List Nat)):Prop:=L2 BV ls vs
def gK.dF (h:gK z q):∀v∈z,∃l t,v=.bytes (bz l) t/\dt l/\l∈q:=λv m=>by
 refine aQ λG y=>?_;obtain⟨l,j,w,t,e⟩:=L2.RF q ((W8 q).symm▸h) v m;exact y ⟨l,t,e,w,j⟩
def BE {f:q->Sem z} {l:List q} (h:∀a∈l,f a=T8 b):l.mapM f=T8 (l.map λj=>b):=by
 induction l with
 |nil=>rfl
 |cons a l y=>
  refine aa (aa ?_ (y λa m=>h a (.tail _ m))) YT;refine aa ?_ (h a (.head _));exact rfl
def JM (w:gK (q::z::j) k):keyKind' (q::z::j).toArray=T8 oneType':=by
 refine aa (aa ?_ List.mapM_toArray) (keyKind'_eq _);refine aa ?_ (BE λu g=>by
  obtain⟨f,c,rfl,-⟩:=gK.dF w u g;rfl)
 rw[map_pure,pure_bind];refine aa (aa ?_ (if_neg (by simp))) (if_neg (by simp));refine aa (aa ?_ List.mapM_toArray) (oneTypeOnly'_eq _);refine aa ?_ (BE λv m=>by
  obtain⟨l,t,rfl,-⟩:=gK.dF w v m;rfl)
 simp only[map_pure,pure_bind];have y:((XN (λp=>YV "bytes") (q::z::j)).toArray.all λx=>x==YV "bytes")=Sp:=by
  simp only[List.all_toArray,List.all_map,SN];intro _ _;rfl
 have r:(XN (λp=>YV "bytes") (q::z::j)).toArray[0]?=(YV "bytes"):=by rfl
 refine aa ?_ r;simp only[y,if_true,pure_bind,Option.isSome_some]
noncomputable def ki:SV->List Nat
 | .bytes b _=>b.toList.map (·.toNat)
 |_=>[]
def tm (h:dt l):(bz l).toList.map (·.toNat)=l:=aa (aa ((UM λc m=>WQ.trans (Wp (h.2 c m))).trans (W8 l)) Tp) List.toList_toArray
def JN (h:∀v∈q,∃l t,v=.bytes (bz l) t/\dt l):gK q (q.map ki):=by
 induction q with
 |nil=>trivial
 |cons v q y=>
  refine fh (h v (.head _)) λl t e0 z=>?_;subst e0;have e:ki (.bytes (bz l) t)=l:=tm z;exact⟨by refine aa ⟨z,t,rfl⟩ e,y λu m=>h u (.tail _ m)⟩
def BF:∀a b,og a b=SW (a<b):=by
 intro a;induction a with
 |nil=>intro b;induction b using SD with
  |nil=>rfl
  |cons b y=>exact(decide_eq_true (List.nil_lt_cons b y)).symm
 |cons x q IH=>
  intro b;induction b using SD with
  |nil=>exact(decide_eq_false (List.not_lt_nil (x::q))).symm
  |cons y z=>
   rewrite[Ef];refine aa ?_ (IH z);rewrite[Vl];simp[We]
def BG (x):∀l,(mN x l).Perm (x::l):=by
 intro Q;induction Q with
 |nil=>exact .refl _
 |cons y r IH=>
  rewrite[yj]
  split
  ·exact((IH).cons y).trans (.swap _ _ _)
  ·exact .refl _
def BH:∀l,(kQ l).Perm l:=by
 intro Q;induction Q with
 |nil=>exact .refl _
 |cons x r IH=>exact(BG x (kQ r)).trans ((IH).cons x)
def JO (x):∀l,l.Pairwise (λa b:List Nat=>¬b<a)->(mN x l).Pairwise λa b=>¬b<a:=by
 intro Q;induction Q with
 |nil=>intro _;simp[show mN x []=[x]from rfl]
 |cons y r IH=>
  intro h;obtain⟨j,w⟩:=Vc.mp h;rewrite[yj]
  split
  ·rename_i q
   rw[BF,decide_eq_true_eq]at q;refine Vc.mpr ⟨λz m=>?_,IH w⟩;rcases Tq.mp ((BG x r).mem_iff.mp m)with rfl|m
   ·exact λz=>List.lt_irrefl _ (List.lt_trans q z)
   ·exact j z m
  ·rename_i q
   rw[BF,decide_eq_true_eq]at q;refine Vc.mpr ⟨λz m=>?_,h⟩;rcases Tq.mp m with rfl|m
   ·exact q
   ·exact λk=>by
     have:=List.lt_of_le_of_lt (List.not_lt.mp (j z m)) k;exact q this
def JP:∀l,(kQ l).Pairwise λa b=>¬b<a:=by
 intro Q;induction Q with
 |nil=>exact .nil
 |cons x r IH=>exact JO x _ (IH)
def JQ (p:m.Perm l) (h:m.Pairwise λa b:List Nat=>¬b<a):m=kQ l:=
 List.Perm.eq_of_pairwise (λa b q q z y=>List.le_antisymm (List.not_lt.mp z) (List.not_lt.mp y)) h (JP l) (p.trans (BH l).symm)
def JR (f:gK y g) (b:q.Perm (pairsOf y)) (x:SortedToK oZ q (pairsOf y).size):gK (q.map (·.2)).toList (kQ g):=by
 have n:q.toList.Perm (y.zip y):=aT (Array.perm_iff_toList_perm.mp b) (pairsOf_toList _);have z:∀p,p∈q.toList->p.1=p.2/\p.1∈y:=λp w=>mem_zip_self (n.mem_iff.mp w);have e:(q.map (·.2)).toList=q.toList.map (·.1):=aa (UM λp w=>(z p w).1.symm) Array.toList_map;refine aa ?_ e;have r:=JN λv h=>by
  refine aQ λG c=>?_;obtain⟨p,w,rfl⟩:=Xr.mp h;refine ec (gK.dF f _ (z p w).2) λl t e o _=>?_;exact c ⟨l,t,e,o⟩
 rw[Tp]at r;have a:q.toList.map (ki∘λp=>p.1)=kQ g:=by
  refine JQ ?_ ?_
  ·have Q:=n.map (ki∘λp=>p.1)
   have:(y.zip y).map (ki∘λp=>p.1)=g:=by
    have:(y.zip y).map _=((y.zip y).map WK).map ki:=Tp.symm;exact aa (aa (L2.c (P:=λg y=>y.map ki=g) rfl (λL F M C E T D=>by
      obtain⟨B,N,rfl⟩:=E;exact aa (aa (congrArg (·::M) (tm B)) D) Tz) g y f) (List.map_fst_zip (SJ _))) this
   rwa [this]at Q
  ·rewrite[List.pairwise_iff_getElem]
   refine λi j Z Y d=>aQ λG c=>?_;have s:i<q.size:=by simpa using Z
   have k:j<q.size:=by simpa using Y
   have r:=x i j (Tu d) (aT k b.size_eq);refine fh (gK.dF f _ (z q[i] (by simp)).2) λl t J _=>?_;refine fh (gK.dF f _ (z q[j] (Array.getElem_mem_toList k)).2) λm u W _=>?_;refine c ?_;have K:KK oZ q i=ki q[i].1:=by
    unfold KK;refine aa ?_ (getElem?_pos q i s);dsimp only;refine aa ?_ J;rfl
   have P:KK oZ q j=ki q[j].1:=by
    unfold KK;refine aa ?_ (getElem?_pos q j k);dsimp only;refine aa ?_ W;rfl
   rw[K,P]at r;simp only[List.getElem_map,Array.getElem_toList,Function.comp_apply];exact of_decide_eq_false r
 rw[a]at r;exact r
end
def BI (h:isBytes (l.map UInt8.ofNat) v=Sp):∃t,v=.bytes (bz l) t:=by
 set_option tactic.hygienic true in induction v using VS<;>first|exact aG h|exact bv h|(cases h;done)|skip
 rename_i b t;refine⟨t,congrArg (Value.bytes · t) (Array.ext' ?_)⟩;simp only[isBytes,decide_eq_true_eq,beq_iff_eq]at h;refine aa ?_ h;rfl
def BJ {W:bk} (r:KR d u q):∀{p} {z:List SV},u.map (·.1)=p.map V.ag->z.length=q.length->
  (∀(j:Nat) v,z[j]?=Sn v->∃k x,q[j]?=Sn (k,x)/\(Xm W.fJ W.bg).is k v=Sp)->gK z p:=
 L3.c (P:=λu q=>∀{p:List (List Nat)} {z:List SV},u.map (·.1)=p.map V.ag->z.length=q.length->
  (∀(j:Nat) v,z[j]?=Sn v->∃k x,q[j]?=Sn (k,x)/\(Xm W.fJ W.bg).is k v=Sp)->gK z p) (λ{p z} h g c=>by
   cases List.map_eq_nil_iff.mp h.symm;cases W1.mp g;trivial) (λa b u q k c c s p z h g t=>by
  induction p using SD with
  |nil=>cases h
  |cons l p=>
   induction z using SD with
   |nil=>cases g
   |cons v z=>
    refine aQ λG o=>?_;refine fh (t 0 v rfl) λZ y f n=>?_;replace f:=Sv f;subst f;refine dz k λm i Q e0=>?_;subst e0;rw[Tz,Tz,i]at h;cases(Uu h).1;refine o ?_;exact⟨⟨Q,BI n⟩,s (Uu h).2 (U6 g) λj w e=>t (j+1) w e⟩) u q r
def gK.a (h:gK q z):bN j (z.map V.ag) q:=
 L2.c (R:=BV) (P:=λz q=>bN j (z.map V.ag) q) trivial (λy y y y r y w=>⟨r,w⟩) z q h
def JS (y:h.get? a=Sn (seqObj "list" z.toArray n)) (q):(∃k,(sortedHeap h a z q).get? a=(seqObj "list" q k))/\∀b o,b≠a->h.get? b=Sn o->(sortedHeap h a z q).get? b=o:=by
 have u:=Uk y;refine⟨⟨_,get?_update_seq (SK _ (SK _ (get?_update_seq y λj=>(#[])))) λj=>q⟩,λb o w e=>?_⟩;refine aa ?_ (TL _ _ (UC w));refine SK _ (SK _ ?_);refine aa ?_ (TL _ _ (UC w));exact e
section
def JT (f:df W) (H:A.handled=none) (F:aR W C h M s.heap) (r:VR h a v):fX W A C h s (Uv (.builtin "sorted") [v]) (u1 av .lD a M):=by
 intro Q E g;apply ax.B
 set_option tactic.hygienic true in induction a using V.casesOn<;>first|exact S9 g|skip
 rename_i i;obtain⟨b,o,rfl,e1,e2,r⟩:=fM F r;dsimp only[u1]at g;rw[e2]at g;induction o using O.casesOn<;>first|exact S9 g|skip
 rename_i es;obtain⟨hl,d⟩:=r;dsimp only at g;cases p:ig (es.map (·.1))with
 |none=>replace g:=p▸g;exact g.elim
 |some ls=>
  rw[p]at g;obtain⟨T,g⟩:=bL.aY g
  ·refine aQ λG Z=>?_
   obtain⟨Y,D,hD⟩:=d.ag (SN.mpr λe m=>by
    have k:e.1∈es.map (·.1):=Tv m;rw[oI p]at k;refine cW k λl _ q=>?_;refine aT ?_ q;rfl)
   obtain⟨ep,J⟩:=hD.dictAt;refine Z ?_;refine call_function_entry kind_sorted plain_sorted entry_sorted (args_sorted1 _) ?_;refine Sw (SU ?_);have kl:=D.bd;refine Sw (kdu_collect (kdl_dict (bk.d f.l2 F e1)) H J (kdl_size (kl▸j3 hl)) λt B z N l=>?_);have n:z.toList.length=Y.length:=aa l.1 Array.length_toList;have u:=BJ D (oI p) n λj v e=>l.2 j v (by refine aT ?_ Array.getElem?_toList;exact e);refine Sw (wpAny_newList ?_ (by refine aa (aa ?_ TO) n;exact kl▸j3 hl))
   have c:(t.push (seqObj "list" z.toList.toArray 0)).get? t.objs.size=(seqObj "list" z.toList.toArray 0):=U4 _ rfl;have bl:=u.bd;refine Sw (Ui (Uy slot_list_sort ⟨_,c,rfl⟩ entry_list_sort (list_sort_treeK JL c (by
    intro K P;rw[pairsOf_toList]at P;refine fh (gK.dF u _ (mem_zip_self P).2) λU L e _=>?_;exact⟨_,by refine aa ?_ e;rfl⟩) (λy w k e=>JM (by refine aT ?_ e;exact u)) (bl▸S8 T (S2 rfl)) λx a1 a2=>⟨_,rfl,?_⟩) (args_list_sort _)))
   refine SU ⟨_,rfl,?_⟩;refine aQ λG Z=>?_;obtain⟨⟨n',q1⟩,q2⟩:=JS c ((arrOf x).map (·.2));refine Z ?_;refine g.C F (λb o e=>by
     have I:=N b o e;exact q2 b o (SQ (Uk I)) (SK _ I)) (by
       cases q:s.heap.get? t.objs.size with
       |none=>rfl
       |some o=>exact absurd (Uk (N _ _ q)) (VI _)) ⟨_,n',gK.a (JR u a1 a2),?_,?_⟩
   ·refine aa (aa ?_ ((BH ls).length_eq)) (Sx _);exact a5 T rfl
   ·exact aa q1 Array.toArray_toList
end
noncomputable abbrev wB (y w:TR) (p1 p2 p3 p4 p5 p6 p7 p8:Pos):TQ:=.Compare (.Subscript (.Name y p1) (.Slice none (Sn (.Call (.Name (au "len") p2) [.Name w p3] [] p4)) none p5) p6) [.Eq] [.Name w p7] p8
def BL {W:bk} {x:c7} (z:x.aK.scope.kind=.function) (y:x.aK.kindOf q=Sn .local) (j:s.heap.Ns x.aK.locals m) (w:m q=Sn v) (k:q≠au "__debug__") (h:Q v s):Tg W.b A (eval (.Name q p) x.aK) Q E s:=
 Wo (VJ z y j w h) (beq_eq_false_iff_ne.mpr k)
def BN {W:bk} {x:c7} (y:x.aK.scope.kind=.function) (z:x.aK.kindOf q=Sn .cell∨x.aK.kindOf q=Sn .free) (j:x.aK.cells.lookup q=Sn c) (w:s.heap.IsCell c (Sn v)) (k:q≠au "__debug__") (r:q≠au "__classdict__") (h:Q v s):Tg W.b A (eval (.Name q p) x.aK) Q E s:=by
 rcases z with z|z
 ·exact Wo (wpAny_loadName_cell y z j w h) (beq_eq_false_iff_ne.mpr k)
 ·exact Wo (XC y z j w h (beq_eq_false_iff_ne.mpr r)) (beq_eq_false_iff_ne.mpr k)
def JU {x:c7} (o:x.n W d u) (f:df W) (T:W.cb.StaysIn s.heap) (v:s.heap.Ns x.aK.locals m) (D:b8 x.bq y=Sn .local) (N:m y=Sn (.bytes (bz l) t)) (z:dt l) (i:y≠au "__debug__") (j:w≠au "__debug__") (p:w≠au "__classdict__") (K:x.aK.kindOf w=Sn .cell∨x.aK.kindOf w=Sn .free) {c:S7} (P:x.aK.cells.lookup w=c) (U:s.heap.IsCell c (Sn (.bytes (bz b) B))) (r:dt b) (g:b8 x.bq (au "len")=Sn .globalImplicit) (h:∀L,Keeps s L->Q (l.take b.length==b) L):Tg W.b A (Vk (wB y w Z Y F G H I J p8) x.aK (eval (wB y w Z Y F G H I J p8) x.aK)) Q E s:=by
 refine wpAny_isTrue_Compare1 ?_ (by rfl);refine Sw (BL o.dP ((o.i6 y _ D).resolve_right (λq=>by cases q.1)) v N i (Sw (Ui ?_)));refine Sw (SU (Sw (Ui ?_)));refine Sw (oG o f.toik T g (f.m9 _ (by decide)) PyProof.Rows.Boot.«len» (by decide) rfl ?_);refine callWith_builtin (by rfl) ?_;refine evalArgs_plain ?_;refine spliced_cons ?_;refine BN o.dP K P U j p ?_;refine spliced_nil ?_;refine PySem.W.len_bytes (by simp;exact a5 r.1 rfl) ?_
 refine aa ?_ (fT _);refine Sw (Ui (SU ?_));refine UZ ?_;refine Sw (XZ ?_);generalize hB:b.length=n;refine kX (Uc _ _ _) UE.lookup (getItem_meets (Uc _ _ _) rfl UE V5 (VW _ _) (KBc.meets_slice2 (bz l) t _ .none (.int _ _))
  ⟨V2 _ _ _ _,Sq (KBc.size_picked_le _ _ _) (by refine aS ?_ TO (fT _);exact j3 z.1),λt' k=>?_⟩)
 have M:∀C:Obj,∀b o,s.heap.get? b=Sn o->(s.heap.push C).get? b=Sn o:=λC b o e=>SK _ e;refine BN o.dP K P (U.keeps (M _)) j p ?_;refine PySem.W.eq_bytes (UK ?_);have eq:KBy.picked (bz l) none (Sn (n:Int))=bz (l.take n):=by
  refine aa ?_ (KBc.picked_eq _ _ _);refine aa ?_ (fT _);show(List.take (Wz l.length (n:Int)-0) _).toArray=_;refine aS ?_ (Nat.sub_zero _) List.drop_zero;refine aa ?_ (clipAt_nat _ _);have e:List.take (min n l.length) (bz l).toList=((l.take n).map UInt8.ofNat):=by refine aa ?_ X3;show List.take _ (XN _ l)=_;refine aT ?_ (Sx (f:=UInt8.ofNat));exact aT rfl List.take_eq_take_min
  exact congrArg WS e
 refine aa ?_ eq;refine aa ?_ (sJ ⟨Sq (by simp;exact Xh _ _) z.1,λc m=>z.2 c (Wu m)⟩ r);refine aT ?_ hB;exact h _ ⟨_,_,rfl,M _⟩
noncomputable abbrev tn (b:List Nat) (k:V):Bool:=match k with| .ag l=>l.take b.length==b|_=>Su
noncomputable abbrev JV (fi:dk) (i:Nat):dk:=λl c σ=>(fi l c σ).C λv σ=>(match v,(c[i]?).bind (σ[·]?)with
  | .ab j,Sn (.a9 (Sn (.ag b)))=>(match σ[j]? with
   |some (.aE es)=>if eg es&&es.length<=1000 then ea (.ah ((es.map (·.1)).filter (tn b))) σ else .ak
   |_=>.ak)
  |_,_=>.ak)
def JW (h:eg q=Sp):∃z:List (List Nat),q.map (·.1)=z.map V.ag:=by
 induction q with
 |nil=>exact⟨[],rfl⟩
 |cons e q j=>
  obtain⟨k,v⟩:=e;obtain⟨z,e⟩:=j (bH h).2;have y:uC k=Sp:=(bH h).1;clear h
  set_option tactic.hygienic true in induction k using V.casesOn<;>first|exact aG y|exact bv y|(cases y;done)|skip
  rename_i l;exact⟨l::z,congrArg _ e⟩
noncomputable def o7 (b:List Nat) (v:SV):Bool:=(ki v).take b.length==b
def JX (h:gK z y):bN j ((y.map V.ag).filter (tn b)) (z.filter (o7 b)):=
 L2.c (P:=λy z=>bN j ((y.map V.ag).filter _) (z.filter (o7 b))) trivial (λl v y z r p w=>by
  obtain⟨k,t,rfl⟩:=r;have e:o7 b (.bytes (bz l) t)=tn b (.ag l):=by
   show(((bz l).toList.map (·.toNat)).take b.length==b)=_;exact aa rfl (tm k)
  refine aa (aa ?_ Yy) Tz;refine aa (aa ?_ e) Yy;by_cases q:tn b (.ag l)=Sp
  ·exact aa (aa ⟨⟨k,t,rfl⟩,w⟩ (if_pos q)) (if_pos q)
  ·exact aa (aa w (if_neg q)) (if_neg q)) y z h
def JY {m:List SV} (h:Paired (λv y=>y=v) l m):m=l:=by
 induction h with
 |nil=>rfl
 |cons h _ q=>exact aS rfl q h
def jN.RB (p:ck W n z s.heap y) (g:jN W o n s r post E):jN W o z {s with heap:=y,toks:=j} r post E:=by
 induction r using R.casesOn with
 |aj v u=>exact λw i l k C m a b c d e f q=>g w i l k C m (p.A a) b c d e f (p.D q)
 |bh t u=>exact λw e l k a b c=>g w e l k (p.A a) b (c.B λx=>p.D)
 |ak=>exact g
def jN.am (g:jN W w u s (r.C k) post E) (l:∀v z q p j y,ck W u q s.heap j->VR q v p->aR W w q z j->jN W w q {s with heap:=j,toks:=y} (k v z) post E->Z p {s with heap:=j,toks:=y}):bL W w u VR s r Z E:=by
 induction r using R.casesOn with
 |aj v z=>exact λq p j y a b c=>l v z q p j y a b c (jN.RB a g)
 |bh t z=>exact g
 |ak=>exact g
def JZ (o:x.n W d u) (f:df W) {T:TQ} (hk:lM A=Sp) (Qi:y≠au "__debug__") (Y_:w≠au "__debug__") (Za:w≠au "__classdict__") (hlen:b8 A (au "len")=Sn .globalImplicit) (hy:b8 A y=Sn .local) (hw:b8 A w=Sn .free) (hi:eM w (c9 x.bq)=Sn i) (Zb:kR x.bq A=Sn i_) (ha:bf W x T fi) (Zc:∀v,U0 T x.aK v=T8 v):
  oV W x (.Name y py) (.Name y px) T [wB y w p1 p2 p3 p4 p5 p6 p7 p8] A (JV fi i):=by
 have B:=(la hk).dP;have Zd:∀{ρ loc be σ h},cn W x ρ loc be σ h->Xy A x.aK=T8 (gp x.aK A.names []):=λF=>wm λy m q=>by
  refine aQ λG kG=>?_;obtain⟨n,kd⟩:=y;have q:kd=.free:=q;subst q;refine(wq m (s8 hk m).1).elim λi e=>?_;obtain⟨b,j,a,_,_,e',_⟩:=qP Zb F e;refine kG ?_;refine aa ?_ e';rfl
 refine⟨B,((la hk).Bb),Zd,Zc,λ{ρ loc be σ s} pos F post E g=>?_⟩;refine ha ρ loc be σ s F _ E (jN.am g λv N I v' p J2 J3 Ze Y Z=>?_)
 set_option tactic.hygienic true in induction v using V.casesOn<;>first|exact Z.elim|skip
 rename_i j;cases hb:(be[i]?).bind (N[·]?)with
 |none=>rw[hb]at Z;exact Z.elim
 |some M=>
 rw[hb]at Z
 set_option tactic.hygienic true in induction M using O.casesOn<;>first|exact Z.elim|skip
 rename_i M;induction M using Tr with
 |none=>exact Z.elim
 |some M=>
 set_option tactic.hygienic true in induction M using V.casesOn<;>first|exact Z.elim|skip
 rename_i b;cases E9:N[j]? with
 |none=>dsimp only at Z;rw[E9]at Z;exact Z.elim
 |some M=>
 dsimp only at Z;rw[E9]at Z
 set_option tactic.hygienic true in induction M using O.casesOn<;>first|exact Z.elim|skip
 rename_i es;refine aQ λG kG=>?_;refine(lK (P:=λr=>jN W x.bD I _ r _ E) Z λh=>h).elim λhc Z=>?_;rw[T3,decide_eq_true_eq]at hc;refine aP Ze λdA e1 e0=>?_;subst e0;refine(Y.at E9 e1).elim λ_ dd=>?_;refine aP (dd.ag hc.1) λH rk hD=>?_;have kl:=rk.bd;obtain⟨ep,K4⟩:=hD.dictAt;refine aP (Vt.mp hb) λjj q1 q2=>?_;refine aP ((F.aD J3 Y).lZ i w jj (js hi) q1) λcA q3 q4=>?_;obtain⟨yv,⟨yv',rfl,Zf,tb,rfl⟩,ic⟩:= Y.at q2 q4
 refine(JW hc.1).elim λls Qj=>?_;refine kG ?_;refine .B (wpAny_pyIter_dict (bk.d f.l2 Y e1) K4 ?_);refine .B (wpAny_newList ?_ (S6 _));refine ax.B (VL (λy m=>(s8 hk m).2) (λζ m=>by cases m) (λj_ r_ u_=>?_) B);dsimp only;have Qk:dA≠p.objs.size:=λq=>by refine(Y.cH.gk (Th e1)).elim λoo eo=>?_;rw[q,(Tj (SJ _))]at eo;exact aG eo
 have kI:∀b o,p.get? b=Sn o->(p.push {cls:=.type "dict_keyiterator",data:=.fields #[.ref dA,.int 0 0,.int (H.length:Int) 0,.int (ep:Int) 0]}).get? b=o:=λb o e=>SK _ e;have gI:=fv p {cls:=.type "dict_keyiterator",data:=.fields #[.ref dA,.int 0 0,.int (H.length:Int) 0,.int (ep:Int) 0]} rfl;generalize p.push {cls:=.type "dict_keyiterator",data:=.fields #[.ref dA,.int 0 0,.int (H.length:Int) 0,.int (ep:Int) 0]}=hI at r_ u_ kI gI
 have nD:hI.get? hI.objs.size=none:=Tj (SJ _);have kD:∀b o,hI.get? b=Sn o->(hI.push {cls:=.type "list",data:=.seq #[]}).get? b=o:=λb o e=>SK _ e;have gD:=fv hI {cls:=.type "list",data:=.seq #[]} rfl;generalize hI.objs.size=D at nD gD⊢;generalize PR:hI.push _=J at r_ u_ kD gD;have nC:J.get? J.objs.size=none:=Tj (SJ _);have U:∀b o,J.get? b=Sn o->j_.get? b=o:=λb o e=>aa (SK _ e) (u_.2 b (SQ (Uk e)));generalize J.objs.size=C at r_ u_ nC
 have K5:p.get? D=none:=by cases q:p.get? D with|none=>rfl|some oo=>rw[kI _ _ q]at nD;exact aG (UW nD)
 have G4:∀{a o},J.get? a=Sn o->a≠C:=λe q=>by rw[q,nC]at e;exact aG e
 have Zg:D≠p.objs.size:=λq=>by rw[q,gI]at nD;exact aG (UW nD)
 have Qt:=G4 gD;have G_:C≠dA:=by
  refine aQ λG kG=>?_;obtain⟨oo,eo⟩:=Y.cH.gk (Th e1);refine kG ?_;exact(G4 (kD _ _ (kI _ _ eo))).symm
 have Zh:D≠dA:=λq=>by
  obtain⟨oo,eo⟩:=Y.cH.gk (Th e1);rw[q,kI _ _ eo]at nD;exact aG (UW nD)
 have HC:∀b o,p.get? b=Sn o->j_.get? b=o:=λb o e=>U _ _ (kD _ _ (kI _ _ e));have K:∀{b o},p.get? b=Sn o->b≠C/\b∉[p.objs.size]/\b≠D:=λ{b o} e=>⟨G4 (kD _ _ (kI _ _ e)),by simpa using SQ (Uk e),λq=>by rw[q,K5]at e;exact aG e⟩
 refine A7 (dj.B ?_) ?_
 ·refine codeAny_compLoop_walk (cenv:=(kh x A C).aK) (Walks.dictKeys (knd:=Xm W.fJ W.bg) o.fL p.objs.size dA Qk H ep) (o7 b) (λv y=>y=v) ?_ ?_ Qt ?_ ?_ ?_ ⟨0,U _ _ gD⟩ r_ ?_ ?_ ?_
  ·exact((l7 o hk).i6 y _ hy).resolve_right λq=>by cases q.1
  ·have:((kh x A C).aK.scope.kind)=.function:=(l7 o hk).dP
   refine aa ?_ this;rfl
  ·exact yq Zg Zh
  ·exact yq (G4 (kD _ _ gI)).symm G_
  ·exact⟨⟨_,U _ _ (kD _ _ gI),rfl,rfl⟩,K4.at' λo e=>HC _ _ e⟩
  ·refine λi v t_ m₂ hp hn hm L ht=>aQ λG kG=>?_
   refine fh hp λk xx e5 e6=>?_;obtain⟨_,l,-,Qx,rfl⟩:=
    L3.c (P:=λy H=>∀i,H[i]?=(k,xx)->∃a,BK a (k,xx)) (λi e5=>by rw[X9]at e5;exact aG e5) (λa c es H r y y j i e5=>by
     cases i with
     |zero=>replace e5:=Sv e5;subst e5;exact⟨a,r⟩
     |succ i=>exact j i e5) es H rk i e5
   obtain⟨t,rfl⟩:=BI e6;have kk:=λ{b M} e=>L b M (K e).1 (K e).2.1 (K e).2.2 (HC _ _ e);have Qy:=l7 (C:=C) o hk;refine kG ?_;refine wpAny_tests_one (JU Qy f (λa M e=>kk (Y.bn a M e)) hn hy hm Qx Qi Y_ Za ?_ (c:=cA) ?_ (B:=tb) ?_ Zf hlen λs' z=>⟨?_,z⟩)
   ·exact(Qy.i6 w _ hw).elim .inr λq=>.inl q.2
   ·refine aa ?_ (wn (λζ m=>by cases m) (.inl (mem_of_lookup hw)) (by rw[q3];rfl));exact aa rfl q3
   ·refine aP ic λoc gc dc=>?_
    exact⟨oc,kk gc,dc⟩
   ·show _=(((bz l).toList.map (·.toNat)).take b.length==b)
    exact aa rfl (tm Qx)
  ·intro i v t_ m₂ hp _ hn hm L ht
   exact BL (l7 o hk).dP (((l7 o hk).i6 y _ hy).resolve_right λq=>by cases q.1) hn hm Qi ⟨rfl,_,_,rfl,λζ ζ e=>e⟩
  ·intro h' tk m' ys vs hn il pl Zi hP Zj L
   refine pl.elim λnn pl=>?_;have old:=λb M e=>L b M (K e).1 (K e).2.1 (K e).2.2 (HC _ _ e);have ey:ys=(vs.filter (o7 b)).toArray:=by
    have:=JY Zj;exact aT rfl this
   rw[ey]at pl;have Qz:p.get? C=none:=by
    cases q:p.get? C with
    |none=>rfl
    |some oo=>exact absurd rfl (K q).1
   refine j5 (Y.A Qz) λc1 _ c3 _=>?_;refine Z (I++[D]) (.ref D) h' tk C m' (.dC old K5) ⟨D,by refine aT ?_ Y.cH.bd;refine aa ?_ (Ts (SJ _));refine aa ?_ (Uw _);rfl,rfl⟩ (Y.dC old K5 ⟨vs.filter (o7 b),nn,?_,?_,pl⟩) hn ?_ c3 Qz
   ·refine aa ?_ Qj;exact JX (BJ rk Qj Zi hP)
   ·refine Sq (Vb _ _) ?_
    refine aa ?_ (Sx _);exact a5 (show eg es=Sp/\_ by assumption).2 rfl
   ·intro m
    rcases Tn.mp m with m|m
    ·exact c1 m
    ·exact Qt (SP.mp m).symm
 ·exact λQ E h=>(Walks.dictKeys o.fL p.objs.size dA Qk H ep).self 0 _ Q E ⟨⟨_,U _ _ (kD _ _ gI),rfl,rfl⟩,K4.at' λo e=>HC _ _ e⟩ h
noncomputable abbrev lR.dS (b:lR):Obj:=excClassObj b.sv b.u7 45 b.Ew b.gX b.bK b.gY b.Ey b.fS b.Ez b.EA b.EB b.EC b.qh b.EE b.EF b.EG "Exception.__new__"
def J0 (e:yS d=Sn q):d=.cls q:=by
 induction d using XR<;>first|exact aG e|exact congrArg Data.cls (Sv e)
def J6 {P:List q->Prop} (k:∀a b c d e g,f a b c d e g=Sn x->P [a,b,c,d,e,g]):∀l,yT l f=Sn x->P l:=λl h=>by
 rcases l with _|⟨a,_|⟨b,_|⟨c,_|⟨d,_|⟨e,_|⟨g,_|_⟩⟩⟩⟩⟩⟩<;>first|exact aG h|exact k _ _ _ _ _ _ h
structure BP (h:TV) (b:lR):Prop where
 dS:h.get? 45=Sn b.dS
 QM:b.bK.contains (.type "Exception")=Sp
 BO:b.bK.contains (.type "BaseException")=Sp
 QN:b.bK.contains (.type "AttributeError")=Su
 QO:b.bK.contains (.type "NameError")=Su
theorem wC:∀{b},(!b)=Sp->b=Su
 |false,_=>rfl
def J7 (e:lR.aj b c q y z=Sp):c=.type "type"/\q=.ref 45::b.bK/\y=Sn (.builtin "Exception.__new__")/\z=Su/\b.bK.contains (.type "Exception")=Sp/\b.bK.contains (.type "BaseException")=Sp/\b.bK.contains (.type "AttributeError")=Su/\b.bK.contains (.type "NameError")=Su:=by
 refine aQ λG j=>?_;refine cZ e λw k=>?_;refine cZ w λp r=>?_;refine cZ p λu g=>?_;refine cZ u λl f=>?_;refine cZ l λm t=>?_;refine cZ m λd s=>?_;refine cZ d λo v=>?_;exact j ⟨SG o,SG v,SG s,wC t,f,g,wC r,wC k⟩
def tp:∀{o:Obj} {c d s},o.cls=c->o.data=d->o.slots=s->o=⟨c,o.dict,d,s⟩:=λq z y=>aT (aT (aT rfl y) z) q
def wD {K} (X:K.In h) (e:u8 K=Sp):∃b,BP h b:=by
 have e:=(Sz.mp (Sz.mp e).1).1;obtain⟨b,e⟩:=Ug.mp e;refine aP (Vt.mp e) λo q e=>?_;exact⟨b,(by
  refine aP (Vt.mp e) λx z e=>?_;refine J6 (P:=λl=>o.slots.toList=l->BP h b) (λy j w p a r e u=>?_) _ e rfl;obtain⟨g,f⟩:=V8.mp e;refine Sv f▸?_;obtain⟨m,c,t,d,s,v,n,i⟩:=J7 g;exact⟨(X _ _ q).trans (congrArg Sn (tp m ((J0 z).trans (congrArg Data.cls ((λQ Z=>Q▸Z▸rfl) c d))) (congrArg Array.mk (u.trans (congrArg (λk=>[y,j,w,p,k,r]) t))))),s,v,n,i⟩)⟩
section
def J8 {R:Result->Tf->Prop} {c} (B:BP h b) (s:R (.ok (.ret (.ref (h.objs.size+1)))) ⟨(h.push {cls:=.type "tuple",data:=.seq q.toArray}).push
   {cls:=.ref 45,data:=.fields #[.ref h.objs.size,.none,.none,.none,.bool Su,.none]},g,d,t,c⟩) (k:q.length<=Vy):
  Ye (Tt y w) A (.call (.builtin "Exception.__new__") ⟨.ref 45::q,[]⟩) R ⟨h,g,d,t,c⟩:=by
 obtain⟨j,e,-,o,v⟩:=B;have z:=F.excBase_Exception;refine codeAny_call_builtin_code (WT _ z.quiet) (wpAny_check_new_subU z e (.base) j ?_);have r:=z.ends;have u:(Wg 45::b.bK).contains (.type "Exception")=Sp:=by refine aa ?_ Ux;exact aa (Bool.or_true _) e
 have l:(Wg 45::b.bK).contains (.type "AttributeError")=Su:=by refine aa ?_ Ux;refine aa ?_ o;rfl
 have f:(Wg 45::b.bK).contains (.type "NameError")=Su:=by refine aa ?_ Ux;refine aa ?_ v;rfl
 refine codeAny_builtinAt z.entry ?_;refine PySem.wpAt_bind ?_;refine PySem.wpAt_bind (PySem.wpAt_stack λp m=>PySem.wpAt_of_wpAny ?_)
 wp_walk
 refine PySem.wpAt_of_wpAny ?_;refine aa ?_ z.owner
 repeat (first|with_reducible refine wpAny_madeHere_exc z.canon j ?_|with_reducible refine wpAny_loadPart_at j ?_|(with_reducible refine XD j ?_;first|rewrite[u]|rewrite[l]|rewrite[f])|wp_step)
 show R _ _;refine aa ?_ (XO _ _);exact s
end
def J9 (self) (h:l.dropWhile u9=[.type "Exception",.type "BaseException",.type "object"]):refuseLoop self "__setattr__" l=T8 ()/\l.contains (.type "object")=Sp:=by
 induction l with
 |nil=>exact absurd h (by decide)
 |cons v l q=>
  cases z:u9 v with
  |false=>
   rw[List.dropWhile_cons_of_neg (by refine aa ?_ z;decide)]at h;exact aa ⟨PySem.F.store_Exception.passes self,by decide⟩ h
  |true=>
   rw[List.dropWhile_cons_of_pos z]at h;obtain⟨y,j⟩:=q h;induction v using VS<;>first|exact bv z|skip
   exact⟨(refuseLoop_ref ..).trans y,by refine aa (aa (Bool.or_true _) j) Ux⟩
def J' {K} {R} (X:K.In s.heap) (I:InstAt s.heap x t C d) (o:sy K C=Sp) (n:Yd K C name=Sn none) (h:∀b,Tg (Tt z w) A.in1 (Builtin.ObjectAttr.storeInOwnDict (.ref x) (.ref C) (.str name l) name v b)
   (λp k=>match p with| .done f=>R (.ok f) k| .again m=>m.quiet=Sp/\Ye (Tt z w) A m R k) (λe k=>R (.error e) k) s):
  Ye (Tt z w) A (.call (.builtin "object.__setattr__") ⟨[.ref x,.str name l,v],[]⟩) R s:=by
 refine aQ λG i=>?_;refine er o λr c Q=>?_;obtain⟨Z,u⟩:=J9 (.ref x) (SG Q);refine i ?_;have Y:r.mro.isEmpty=Su:=by
  cases q:r.mro with
  |nil=>rw[q]at u;exact bv u
  |cons=>rfl
 have J:V' (Tt z w) s.heap (mroOf (.ref C)) r.mro:=(looks_clsIn X c).andThen .now;have g:mroIn K C (.type "object")=Sp:=by unfold mroIn;refine aa (aa ?_ (Wm _ _)) c;refine aS ?_ u Y;rfl
 have j:=PySem.F.store_object;refine codeAny_call_builtin j.slot.plain j.entry (@check_slot _ _ _ s "object.__setattr__" "object" "__setattr__" (.ref x) _ [] _ j.kind j.split (I.type.andThen (looks_mroIn X g)) (j.args (.ref x) _ v) ?_);refine aP (Vt.mp n) λy W P=>?_;rewrite[osa_eq];refine aa ?_ (refuse_eq _ _);refine Sw (Sw (I.type.here (Sw (J.here ?_))));refine aa ?_ Z;have U:V' (Tt z w) s.heap (ObjectAttr.storeTaker? y) none:=by
  induction y using Tr with
  |none=>exact .now
  |some a=>
   refine i1 P λb L q=>?_;induction b using SX with
   |true=>exact aG (UW q)
   |false=>exact(looks_takesIn X L).andThen .now
 exact SU (Sw (I.type.here (Sw ((XA X W).here (Sw (U.here (h _)))))))
noncomputable abbrev o8 (C:S7) (vs:Array SV):Obj:={cls:=.ref C,data:=.fields vs}
def Ka {K} (X:K.In s.heap) (j:s.heap.get? a=Sn (o8 C m)) (Y:Vh K (.ref C) "__setattr__"=Sn (Sn (.builtin "object.__setattr__"))) (J:sy K C=Sp) (W:Yd K C name=Sn none) (P:WJ K C=Sp) (h:∀t U z n u,s.heap.get? z=none->(∀b o,b≠a->s.heap.get? b=Sn o->u.get? b=Sn o)->u.get? a=Sn {cls:=.ref C,dict:=z,data:=.fields m}->u.get? z=Sn (VN [⟨Va w.params name,.str name t,v⟩] n)->Q () {s with heap:=u,toks:=U}):
  Tg (Tt y w) A (setAttr (.ref a) name v) Q E s:=by
 have I:InstAt s.heap a _ C none:=⟨j,rfl,rfl,trivial⟩
 refine set_plain X I Y ?_;refine J' X I J W λb=>?_;refine er P λF G g=>?_;refine Sw (SU (Sw (Sw (XM j (Sw (Looks.here (looks_clsIn X G) ?_))))));refine aa ?_ g;have k:s.heap.get? s.heap.objs.size=none:=Tj (SJ _);have l:s.heap.objs.size≠a:=λq=>by rw[q,j]at k;exact aG k.symm
 have f:∀b o,s.heap.get? b=Sn o->(s.heap.push {cls:=.type "dict",data:=.dict #[]}).get? b=o:=λb o e=>SK _ e;have c:=fv s.heap {cls:=.type "dict",data:=.dict #[]} rfl;generalize L:s.heap.objs.size=z at k l c;refine Sw (wpAny_alloc ?_);refine aa ?_ L;refine Sw (wpAny_update (f _ _ j) (SU ?_));have d:=Ur (λo:Obj=>{o with dict:=Sn z}) (f _ _ j) rfl;have i:∀b,b≠a->((s.heap.push {cls:=.type "dict",data:=.dict #[]}).update a λo=>{o with dict:=Sn z}).get? b=(s.heap.push {cls:=.type "dict",data:=.dict #[]}).get? b:=λb p=>TL _ _ (UC p)
 have D:=(i z l).trans c;have x:∀b o,b≠a->s.heap.get? b=Sn o->((s.heap.push {cls:=.type "dict",data:=.dict #[]}).update a λo=>{o with dict:=Sn z}).get? b=o:=λb o p e=>(i b p).trans (f _ _ e);generalize((s.heap.push {cls:=.type "dict",data:=.dict #[]}).update a λo=>{o with dict:=Sn z})=r at D d x⊢;refine Sw (SU (Sw ?_));have Z:∀t,(r.update z (Obj.putName name (Va w.params name) (.str name t) v)).get? z=_:=λt=>by
  refine aa ?_ (Ur _ D (by rw[Ys];rfl));rw[Ys]
 refine Sw (Sw (Yt (SU (Sw (wpAny_mkText (Sw (XM D ?_)))))));refine wpAny_updatePart D ?_;refine Sw (Yn (Z _) (by show(Data.dict _ _).pastItsLine=none;exact pastItsLine_dict (by refine aS ?_ TO T4;simp[putL])) ?_);refine SU (h _ _ z _ _ k (λb o p e=>?_) ?_ (Z _))
 ·refine aa ?_ (TL _ _ λq=>by rw[<-q,k]at e;exact nomatch e);exact x b o p e
 ·refine aa ?_ (TL _ _ l);exact d
section
structure BR (d:iP) (ns:List TR) (k:Nat):Prop where
 QP:d.dB=⟨[],d.dB.args,none,[],[],none,d.dB.defaults⟩
 QQ:d.dB.args.map (·.arg)=ns
 BQ:d.dB.defaults.length=k
structure Kb (d:iP):Prop extends BR d [au "self",au "told"] 1 where
 aA:∃p1 p2 p3 p4,d.aA=[.Assign [.Attribute (.Name (au "self") p1) (au "told") p2] (.Name (au "told") p3) p4]
 dG:d.cC.names.lookup (au "self")=Sn .local
 bX:d.cC.names.lookup (au "told")=Sn .local
 QR:d.cC.kind=.function
 ch:∀z∈d.cC.names,z.2≠.cell
structure o9 (W:bk) (fA:Nat->Option S7) (aI:S7):Prop extends qT W fA where
 wE:W.hJ (au "BadCommand")=Sn (.ref 45)
 BS:keepIn W.bG (.ref 45)=Sp
 j6:u8 W.bG=Sp
 m7:Vh W.bG (.ref 45) "__init__"=Sn (Sn (.ref aI))/\typeIn W.bG (.ref aI)=Sn (.type "function")
 gX:Vh W.bG (.ref 45) "__setattr__"=Sn (Sn (.builtin "object.__setattr__"))/\sy W.bG 45=Sp/\Yd W.bG 45 (au "told")=Sn none/\WJ W.bG 45=Sp
 BT:∃d,nz W aI d/\Kb d
set_option backward.match.sparseCases true in
def Kc (f:o9 W fA aI) (M:W.cb.StaysIn s.heap) (hd:A.depth<950) (he:s.heap.get? e=Sn (o8 45 vs)) {Q E:SV->Tf->Prop} (h:∀t tk Y n F,s.heap.get? Y=none->(∀b o,b≠e->s.heap.get? b=Sn o->F.get? b=Sn o)->F.get? e=Sn {cls:=.ref 45,dict:=Y,data:=.fields vs}->F.get? Y=Sn (VN [⟨Va W.iq (au "told"),.str (au "told") t,y⟩] n)->Q .none {s with heap:=F,toks:=tk}):
  dj W.b A (.call (.ref aI) ⟨[.ref e,y],[]⟩) (λr u=>match r with| .ok (.ret v)=>Q v u| .ok _=>False| .error x=>E x u) s:=by
 refine aQ λG kG=>?_;obtain⟨d,⟨o,N,ho,BY,c,w,g,CD,E6,J,B_,c1,c2,-,C,-⟩,⟨⟨D,ar,I⟩,⟨p2,p3,p1,p4,hb⟩,ls,lt,kf,nc⟩⟩:=f.BT;obtain⟨j,body,H⟩:=d;dsimp only at c w g J c1 c2 C D ar I hb ls lt kf nc;refine kG ?_;generalize j.args=as at*;generalize j.defaults=ds at*;subst D hb;have al:as.length=2:=by refine aT (aa ?_ ar) (Sx (f:=λa:Arg=>a.arg));rfl
 refine tc (by unfold recursionLimit;exact TP hd (S2 rfl)) (M _ _ ho) BY (aa c1 g) (aa c2 g) (.inl ⟨_,w,rfl⟩) (B_.keeps M) ?_;rw[I]at J;refine th c C (n:=1) ?_ (by rw[al];exact SJ _) (by simp[al]) (by simp[al]) ?_
 ·rcases J with q|⟨T,oo,k,e1,e2,e3⟩
  ·exact .inl q
  ·exact .inr ⟨T,oo,k,e1,M _ _ e2,e3⟩
 refine aa ?_ g;rw[ar];refine VL (λz m=>nc z m) (λz m=>?_) (λB K sb=>⟨?_,Bg ?_⟩) kf
 ·simp at m
  rcases m with rfl|rfl
  ·exact ls
  ·exact lt
 ·exact(f.bZ.nolimit.keeps M).fresh _ sb
 have kp:∀b i,s.heap.get? b=Sn i->B.get? b=i:=λb i e=>aa (SK _ e) (sb.2 b (SQ (Uk e)));have nL:s.heap.get? s.heap.objs.size=none:=Tj (SJ _);generalize hL:s.heap.objs.size=L at K nL;generalize hE:newEnv H L N.globals N.closure _ aI N.code none N.builtins=l;have e1:l.scope=H:=by subst hE;rfl
 have e2:l.locals=L:=by subst hE;rfl
 have kd:∀P,l.kindOf P=H.names.lookup P:=by subst hE;exact λζ=>rfl
 have name:∀{P} {p} {v:SV} {u:Tf} {A:Vj} {Q:SV->Tf->Prop} {E:SV->Tf->Prop},P≠au "__debug__"->H.names.lookup P=Sn .local ->u.heap.Ns L (λx=>([(au "self",Wg e),(au "told",y)]:List _).reverse.lookup x)->(_:List _).reverse.lookup P=Sn v->Q v u->Tg W.b A (eval (.Name P p) l) Q E u:=λhd hl hn hv hq=>
  Wo (VJ (aa kf e1) ((kd _).trans hl) (aa hn e2) hv hq) (beq_eq_false_iff_ne.mpr hd)
 refine aN (aN (cE (aN (bb ?_))));refine bT (name (by decide+kernel) lt K (by rfl) ?_);refine aN (bb ?_);refine cg (Z:=λζ u=>Q .none u) (?_) λζ u z=>bb (bb z);refine aN (cy (.B (name (by decide+kernel) ls K (by rfl) ?_)));refine aN (cE ?_);refine bT (Ui (Ka (λa i e=>kp _ _ (M _ _ (f.X a i e))) (kp _ _ he) f.gX.1 f.gX.2.1 f.gX.2.2.1 f.gX.2.2.2 λt tk Y n F D I q3 q4=>qt ?_));have Zk:s.heap.get? Y=none:=by
  cases q:s.heap.get? Y with
  |none=>rfl
  |some i=>rw[kp _ _ q]at D;exact aG (UW D)
 exact h t tk Y n F Zk (λb i nb e=>I b i nb (kp _ _ e)) q3 q4
end
section
set_option backward.match.sparseCases true in
set_option maxHeartbeats 1000000 in
def Kd (f:o9 W I H) (P:W.cb.StaysIn s.heap) (hd:A.depth<940) {Q E:SV->Tf->Prop} (h:∀t U p n t0 e l,s.heap.get? e=none->s.heap.get? p=none->e≠p->(∀b o,s.heap.get? b=Sn o->l.get? b=Sn o)->l.get? e=Sn {cls:=.ref 45,dict:=Sn p,data:=.fields #[.ref t0,.none,.none,.none,.bool Su,.none]}->
   l.get? p=Sn (VN [⟨Va W.iq (au "told"),.str (au "told") t,y⟩] n)->Q (.ref e) {s with heap:=l,toks:=U}):
  dj W.b A (.call (.ref 45) ⟨[y],[]⟩) (λr G=>match r with| .ok (.ret v)=>Q v G| .ok _=>False| .error x=>E x G) s:=by
 have X:W.bG.In s.heap:=λa m e=>P _ _ (f.X a m e);obtain⟨b,L⟩:=wD X f.j6;have c:=L.dS;have T:=Sz.mp f.j6;have w:=looks_specialIn (M:=W.b) X (SG (Sz.mp T.1).2);have i:=looks_instIn (M:=W.b) X (SG T.2);have D:=XA (M:=W.b) X f.m7.1;obtain⟨j,g,d,t,os⟩:=s;dsimp only at P X c L w i D h;refine gE (by rfl) ?_;refine bT (Ww c ?_);refine bT (w.at ?_);refine aN (bb (aN (bb ?_)));refine bb (a:=Fin.again (.call (.builtin "type.__call__") ⟨.ref 45::[y],[]⟩)) ⟨by rfl,by rfl,?_⟩
 have Z:jp.contains "type.__call__"=Su:=by decide+kernel
 refine gE (by rfl) ?_;refine bT (check_slot tc_kind tc_split i (tc_args _ _ _) (bb ⟨WT _ (by decide+kernel),Z,sT entry_typeCall Z ?_⟩));refine bT (wpAny_mroOf_exc c ?_);refine bT (wpAny_madeBy_exc c ?_);refine aN (bb ?_);refine aN (cy (.B (wpAny_call (J8 L ?_ (by simp[TO])))));have k:∀b o,j.get? b=Sn o->((j.push {cls:=.type "tuple",data:=.seq [y].toArray}).push (o8 45 #[.ref j.objs.size,.none,.none,.none,.bool Su,.none])).get? b=Sn o:=λb o e=>SK _ (SK _ e)
 have J:((j.push {cls:=.type "tuple",data:=.seq [y].toArray}).push (o8 45 #[.ref j.objs.size,.none,.none,.none,.bool Su,.none])).get? (j.objs.size+1)=Sn (o8 45 #[.ref j.objs.size,.none,.none,.none,.bool Su,.none]):=by heap_get
 have B:j.get? (j.objs.size+1)=none:=Tj (Tx _);generalize(j.push {cls:=.type "tuple",data:=.seq [y].toArray}).push (o8 45 #[.ref j.objs.size,.none,.none,.none,.bool Su,.none])=u at k J;have N:V' W.b u (typeOf (.ref (j.objs.size+1))) (.ref 45):=(Wx J).andThen .now;have s1:V' W.b u (isSubtype (.ref 45) (.ref 45)) Sp:=λA Q E s kk q=>by
  obtain⟨h3,g3,d3,t3,os3⟩:=s;refine XD (kk _ _ (k _ _ c)) ?_;refine aa ?_ Ux;simpa using q
 refine bT (Looks.at (N.andThen s1) ?_);refine aN (cy ?_);refine bT (Looks.at (N.andThen (D.keeps k)) ?_);refine cy (bT (((bind_fn (M:=W.b) X (.ref (j.objs.size+1)) f.m7.2).keeps k).at ?_));refine aN (lX (m4 (Kc f (λb m e=>k _ _ (P _ _ e)) ?_ J λt4 U p n l K q2 q3 q4=>?_) λr G z=>z))
 ·refine aa ?_ (depth_under_make _ _ _);exact SA (Xj hd) (S2 rfl)
 ·have F:j.get? p=none:=by
   cases Y:j.get? p with
   |none=>rfl
   |some m=>rw[k _ _ Y]at K;exact aG (UW K)
  have C:j.objs.size+1≠p:=λY=>by rw[<-Y,J]at K;exact aG (UW K)
  exact bb (bb (h t4 U p n _ _ l B F C (λb m e=>q2 b m (λY=>by rw[Y,B]at e;exact aG e) (k _ _ e)) q3 q4))
end
def Ke:oB 0=(au "told"):=by decide+kernel
def Kf (f:o9 W u l) (k:W.cb.StaysIn s.heap) (m:A.handled=none) (z:s.heap.get? e=Sn {cls:=.ref 45,dict:=Sn c,data:=.fields #[.ref o,.none,.none,.none,.bool Su,.none]}) (h:E (.ref e) s):ax W.b A (raiseStmt j (Sn (T8 (.ref e))) none) Q E s:=by
 obtain⟨Y,w,J,v,K,P⟩:=wD (λa b e=>k _ _ (f.X a b e)) f.j6;obtain⟨y,g,d,t,U⟩:=s;dsimp only at w z k;have p:V' W.b y (typeOf (.ref e)) (.ref 45):=(Wx z).andThen .now;have n:V' W.b y (typeOf (.ref 45)) _:=(Wx w).andThen .now;have r:V' W.b y (isType (.ref e)) Su:=(Wx z).andThen .now;have i:V' W.b y _ Sp:=λA Q E s x q=>by
  obtain⟨G,L,F,M,Z⟩:=s;exact XD (x _ _ w) (aa (aa (aa q (Bool.or_true _)) v) Ux)
 apply ax.B;exact Sw (SU (Sw (SU (Sw (Ui (Sw (Sw (r.at (SU (Sw (Looks.at (p.andThen i) (SU (Sw (r.at (Sw (Sw (p.at (Sw (n.at (SU (Sw (Sw (Ua z rfl rfl (SU (wpAny_raiseNew_none m h)))))))))))))))))))))))))
def Kg (f:o9 W fA aI) (o:x.n W (n+1) (10*(n+1))) (hk:b8 x.bq (au "BadCommand")=Sn .globalImplicit) (na:cD a=Sp) (ha:bf W x a d):
  fO W x (.Raise (Sn (.Call (.Name (au "BadCommand") p) [a] [] I)) none k) (λl c u=>(d l c u).toS λv u=>.bh v u):=by
 intro ρ i Z u s F Q E g;refine aN (cE ?_);have Y:ax W.b x.bO (do let v<-eval (.Call (.Name (au "BadCommand") p) [a] [] I) x.aK;Yf k;T8 v) (λv J=>ax W.b x.bO (raiseStmt x.aK (Sn (T8 v)) none) Q E J) E s:=by
  refine aN ?_;refine bT (qx o f.toik F.bn hk f.wE rfl ?_);refine tl (P:=λh=>W.cb.StaysIn h) (.ai ha .ao) (λe m=>by refine aa ?_ (SP.mp m);exact na) F (λh st=>keeps_K f.BS h λa o e=>st _ _ (f.X a o e)) ?_;refine aa ?_ AY;dsimp only at g;cases K:d i Z u with
  |ak=>rw[K]at g;exact g.elim
  |bh t c_=>rw[K]at g;exact λU e L M a b c=>g U e L M (.B a) b c.A
  |aj v C=>
   rw[K]at g;intro w k_ H T j rv q;refine aP (bN.a7 rv) λy e0 D=>?_;subst e0;refine⟨q.bn,lX (m4 (Kd f q.bn (S8 (Sq (SH _ _) o.j9) (by decide)) λt tk dx nn t0 e L A q2 q3 B q5 q6=>?_) λr J z=>z)⟩;refine aN (cE ?_);show ax _ _ _ _ _ _;refine bb ?_;refine Kf f (λb ob e=>B _ _ (q.bn b ob e)) o.fL q5 ?_;refine aQ λG kG=>?_;refine j5 (q.A A) λa1 a2 a3 a4=>?_;refine j5 (q.A q2) λb1 b2 b3 b4=>?_;exact kG (g w e L tk (.B (j.A (.RA B))) (q.RA B) ⟨_,dx,_,nn,q5,q6,⟨⟨au "told",Ke,rfl,t,rfl⟩,D,trivial⟩,(SH _ _),⟨j.D A,j.D q2,q3⟩,⟨a1,b1⟩,⟨a3,b3⟩,.inl rfl⟩)
 exact cg Y λv J z=>z
def Kh (l) (h:TriplesOk l):Wj q (l++[Vu a,Vu b,c])=(Wj q l).or (if a==q.line&&b==q.col then Sn c else none):=by
 fun_induction TriplesOk l with
 |case1=>rfl
 |case2 y t j u x z w=>
  show(if y==q.line&&j==q.col then Sn x else Wj q _)=Option.or (if y==q.line&&j==q.col then Sn x else Wj q z) _;refine aa ?_ (w h);cases y==q.line&&j==q.col<;>rfl
 |case3 l k p=>exact h.elim
def Ki (p) (q:a.line=b.line) (z:a.col=b.col):Wj a p=Wj b p:=by
 obtain⟨l,c,e,f⟩:=a;obtain⟨y,j,w,k⟩:=b;obtain rfl:l=y:=q;obtain rfl:c=j:=z
 kernel_rfl
structure BW (W:bk):Prop where
 ca:W.c.Nodup
 ju:∀P∈W.c,W.cb.BuiltinsAt W.hJ P
def wF (W:bk) (x:c7):Prop:=∃c P H0,x.aK.code=.ref c/\(c,P,H0)∈W.eS/\(∀p∈pX,∃q∈H0,(q:Pos×TR).1.line=p.1/\q.1.col=p.2)/\∀q∈H0,(q:Pos×TR).2=x.aK.qual++"<lambda>"
def Kj {W:bk} (q:W.c.Nodup) (h:t∈W.eS) (w:z∈W.eS) (e:t.2.1=z.2.1):t=z:=by
 unfold bk.c at q;generalize W.eS=l at*;induction l with
 |nil=>cases h
 |cons y l p=>
  rw[Tz,UG]at q;rcases Tq.mp h with rfl|k
  ·rcases Tq.mp w with rfl|j
   ·rfl
   ·exact absurd (aa (Tv j) e) q.1
  ·rcases Tq.mp w with rfl|j
   ·exact absurd (aT (Tv k) e) q.1
   ·exact p q.2 k j
def tq (p:V7 P h j) (r:h.get? P=(tabObj w)) (u:TriplesOk w.toList):h.CodeRec k q->j.CodeRec k q:=λv=>by
 obtain⟨c,o,l,t,e,g,d,z⟩:=v;exact⟨c,o,l,t,e,p _ _ (λy=>by
   subst y;rw[r]at g;replace g:=Sv g;subst g;cases d;exact triples_no_str u q t (by refine aa ?_ Array.getElem?_toList;exact z)) g,d,z⟩
noncomputable abbrev BU (k:Nat) (i_:List Nat):dk:=λζ c σ=>(match i_.mapM (c[·]?)with|some cs=>ea (.cq k cs) σ|none=>.ak)
def Kk (o:x.n W d u) (ok:W.n) (FL:BW W) (L:wF W x) (hk:∃X g,Lt k=Sn X/\l=dE B0 X g/\cB B0 C0 w X g=Sp) (hc:kR x.bq w=Sn M) (hs:uI w=Sp) (hp:(Y.line,Y.col)∈pX):
  bf W x (.Lambda jJ l w Y) (BU k M):=by
 intro ρ loc be σ s F Q E g;refine aQ λG v=>?_;obtain⟨c,P,H0,n,hm,o_,QA⟩:=L;have N:P∈W.c:=Tv hm;delta uI at hs;simp only[T3,beq_iff_eq,Vm,SN,bne_iff_ne,ne_eq]at hs;obtain⟨⟨⟨⟨s1,s2⟩,s3⟩,s4⟩,s5⟩:=hs;refine(A5 hc F).elim λcs J=>?_;delta BU at g;rw[J]at g;dsimp only at g;refine v ?_;have t:∀{i:Nat} {K},_[i]?=Sn K->∃j c,cs[i]?=Sn j/\x.aK.cells.lookup K=Sn c/\ρ[j]?=c:=λ{i K} e=>by
  refine aQ λG v=>?_;obtain⟨b,j,c,C,T,e3,e4⟩:=qP hc F e;refine aP (wo J C) λj' q1 q2=>?_;rw[T]at q1;replace q1:=Sv q1;subst q1;exact v ⟨j,c,q2,e3,e4⟩
 have free:∀y∈w.names,y.2=.free->(x.aK.cells.lookup y.1).isSome=Sp:=λy my q=>by
  refine(wq (aT my q) (s5 y my).2).elim λi e=>?_;refine ec (t e) λ_ _ _ T _=>?_;refine aa ?_ T;rfl
 have H_:=wm free;have h:∀{i} {K},_[i]?=Sn K->(gp x.aK w.names []).lookup K=x.aK.cells.lookup K:=λ{i K} e=>by
  refine ec (t e) λ_ _ _ T _=>?_;refine wn (λp m=>by cases m) (.inl ?_) (by refine aa ?_ T;rfl);have I:=Th e;unfold c9 at I;rw[UR]at I;obtain⟨⟨a,kd⟩,hx,e⟩:=I;have:=s5 _ hx
  split at e
  ·rename_i q
   replace e:=Sv e;subst e;rcases q.1 with q|q
   ·exact absurd q this.1.1
   ·have q:=q
    exact aT hx q
  ·exact aG e
 refine aQ λG v=>?_;refine dz (F.eS _ hm) λps hP ht Zl=>?_;have hg:=ok.bZ.g.keeps F.bn;have G_:CodeHd s.heap c P:=(ok.gY _ hm).keeps F.bn;refine v ?_;have Zm:Vf≠P:=λq=>by
  refine uG ok.bZ.g λo _ _ e _=>?_;rw[q,ok.i5 P N]at e;exact aG e
 have hb:s.heap.BuiltinsAt W.hJ P:=by
  refine aQ λG v=>?_;obtain⟨bm,ob,b1,b2,b3,b4,b5,b6⟩:=FL.ju P N;exact v ⟨bm,ob,b1,b2,b3,b4,F.bn _ _ b5,b6⟩
 refine dz (o_ _ hp) λq QC ql qc=>?_;have QD:=λp=>Ki p ql qc;have lam:∀{f:TV} {a} {pm D ct:SV},f.get? a=Sn {cls:=.type "function",data:=.func (kla_fn "<lambda>" (x.aK.qual++"<lambda>") _ l w _ pm D ct)}->f.CodeRec D _->
   OR W (ρ++[a]) f a (.cq k cs):=λK6 Z=>⟨gp x.aK w.names [],w,⟨l,_,_,_,_,K6,Z,hk,s1,s2,s3,λy my=>(s5 y my).1,beq_eq_false_iff_ne.mpr s4⟩,⟨(nk J).trans (nk hc),λj mj=>by
   refine aQ λG v=>?_;obtain⟨i,hi,e⟩:=U3 mj;have Zn:i<(c9 w).length:=by refine aT ?_ (nk hc);refine aT ?_ (nk J);exact hi
   refine ec (t (S0 Zn)) λj' c' C T e3=>?_;rw[S0 hi,e]at C;replace C:=Sv C;subst C;have:=(SO.mp e3).1;refine v ?_;refine aa ?_ Sr;exact Um this⟩,λi K e=>by
   refine aQ λG v=>?_;refine ec (t e) λj c' C T e3=>?_;refine v ?_;exact⟨j,c',C,(h e).trans T,gG (TJ _ _) e3⟩⟩
 have fin:∀{f:TV} {pm D ct:SV} (H:Tok),aR W x.bD ρ σ f->ck W ρ ρ s.heap f->f.CodeRec D _->
   Q _ {s with heap:=f.push {cls:=.type "function",data:=.func _},toks:=H}:=λ{f pm D ct} H G' st Z=>by
  have kk:∀b o,f.get? b=Sn o->(f.push {cls:=.type "function",data:=.func (kla_fn "<lambda>" (x.aK.qual++"<lambda>") ⟨[],[],none,[],[],none,[]⟩ l w (gp x.aK w.names []) pm D ct)}).get? b=o:=λb o e=>SK _ e;have hn:f.get? f.objs.size=none:=Tj (SJ _);refine g _ _ _ H (st.A (ck.dC kk hn)) ?_ (G'.dC kk hn (lam (U4 _ rfl) (Z.push _)));refine⟨f.objs.size,?_,rfl⟩;refine aT ?_ G'.cH.bd;refine aa ?_ (Ts (SJ _));refine aa ?_ (Uw _);rfl
 refine .B (kla_eval rfl ?_);cases U:Wj Y ps.toList with
 |none=>
  refine kla_makeFunction H_ o.bW hg n G_ hP ht U Zm hb λc' Zo f H hx hge J_ B F6=>?_;exact fin H (by
   have p:P∈W.c:=Tv hm;have Y:∀b,b∉W.c->b≠P:=λb n e=>n (aa p e);refine⟨F.toaR.cH.fU (λa m=>?_) λH H=>tq hx hP ht,λb o e=>?_,vx F.toaR.eA λJ A L o hf e=>⟨o,hx _ _ (Y _ (F.toaR.iB J A L hf).2) e,rfl⟩,F.toaR.iB,λt f=>?_,F.toaR.jq⟩
   ·obtain⟨o,e⟩:=F.toaR.cH.gk m
    exact aa (hx _ _ (λq=>F.toaR.jq P p (aT m q)) e) e
   ·exact hx _ _ (λq=>by subst q;rw[ok.i5 _ p]at e;exact aG e) (F.toaR.bn b o e)
   ·refine dz (F.toaR.eS t f) λK i e2 D=>?_
    by_cases z:t.2.1=P
    ·refine aQ λG kG=>?_
     have:=Kj FL.ca f hm z;subst this;replace i:=(hP)▸i;cases i;refine kG ?_;refine⟨_,F6,by simpa using TriplesOk_snoc _ _ _ _ ht,λq j=>?_⟩;refine aa (aa ?_ (Kh _ ht)) Array.toList_append;rcases D q j with d|⟨y,d,U⟩
     ·refine aa ?_ d
      split
      ·exact .inr ⟨c',rfl,QA q j▸B⟩
      ·exact .inl rfl
     ·exact aa (.inr ⟨y,rfl,tq hx hP ht U⟩) d
    ·exact⟨K,hx _ _ z i,e2,λq j=>(D q j).imp id λ⟨y,d,U⟩=>⟨y,d,tq hx hP ht U⟩⟩) (⟨VA _,λz m=>.inl m,λb o e z f=>⟨o.slots,hx _ _ (λq=>f (aa N q)) e,λz=>rfl⟩,λb o e=>by
    by_cases q:b=P
    ·subst q;exact⟨_,F6⟩
    ·exact⟨o,hx _ _ q e⟩,λz z=>tq hx hP ht⟩) B
 |some D=>
  refine kla_makeFunctionHit H_ o.bW hg n G_ hP ht U hb λZo f H A hsz=>?_;have Z:s.heap.CodeRec D (x.aK.qual++"<lambda>"):=by
   rcases Zl q QC with z|⟨c₂,z,r⟩
   ·rw[QD,U]at z;exact aG (UW z)
   ·rw[QD,U]at z;replace z:=Sv z;subst z
    exact QA q QC▸r
  exact fin H (F.toaR.RA A) (.RA A) (Z.keeps A)
def Kl (h:∀y∈q.names,y.2≠.cell/\y.2≠ .local):cX q=[]:=by
 unfold cX;rewrite[List.filterMap_eq_nil_iff];exact λa m=>if_neg (h a m).2
def Km (f:ik W) (hX:Lt k=Sn B) (hb:∀x g,x.n W n (10*n)->x.cf->cB B0 C0 x.bq B g=Sp->dU x.bq (au "_law_heard")=Su->bf W x (dE B0 B g) (λl c F=>ev Φ av B l c F)) (R:nx A H n) (G:aR W H J F s.heap) (v_:W.cb.objs.size<=s.heap.objs.size) (ro:OR W J s.heap a (.cq k M)):
  jO W A H J s (.call (.ref a) ⟨[],[]⟩) (ev Φ av B [] M F):=by
 intro Q E g;obtain⟨cl,sc,⟨body,T,pm,cv,ct,ho,B_,⟨B',gd,hB,K,Zp⟩,kf,c1,c2,U,CD⟩,⟨C,J_⟩,H_⟩:=ro;rw[hX]at hB;replace hB:=Sv hB;subst hB;subst K;have I:=Kl U;refine tc (uA R.j9 (by decide)) ho rfl c1 c2 (.inr ⟨_,rfl,rfl⟩) B_ ?_;refine th rfl ((by decide)) (.inl ⟨rfl,rfl⟩) (by simp) (by simp) (by simp) ?_;refine VL (λz m=>(U z m).1) (λz m=>by simp at m) (λr D sb=>⟨(f.bZ.nolimit.keeps G.bn).fresh _ sb,Jf ?_⟩) kf
 have Z:∀b o,s.heap.get? b=Sn o->r.get? b=o:=λb o e=>aa (SK _ e) (sb.2 b (SQ (Uk e)));refine aP (i7 D) λoL gL dL=>?_;refine j5 (G.A (Tj (SJ _))) λo1 o2 o3 o4=>?_;let p:=newEnv sc s.heap.objs.size Vf cl (T++".<locals>.") a cv none Wl
 have s_:(A.deeper p).frames=(p::H):=by
  show A.frames.map (p::·)=_;refine aa ?_ R.eA;rfl
 have Y:cn W ⟨A.deeper p,p,p::H,sc⟩ J [] M F r:=by
  refine⟨(G.RA Z).RE rfl kf o2 gL dL o1 o3,by refine aa ?_ I;rfl,⟨_,D,λi nm v e1 N=>by simp at N⟩,⟨o1,o3⟩,v_,λi nm j e1 N=>?_,C⟩;refine ec (H_ i nm e1) λj' c q1 q2 q3=>?_;rw[q1]at N;replace N:=Sv N;subst N;exact⟨c,q2,q3⟩
 have own:∀{w u},ck W J w r u->ck W J w s.heap u:=λP=>(ck.RA Z).A P;refine hb ⟨A.deeper p,p,p::H,sc⟩ gd ⟨?_,?_,R.fL,s_,kf,rfl,rfl,(aa UY I),λnm k h=>.inl h⟩ ⟨⟨H,rfl⟩,rfl⟩ Zp CD J [] M F {s with heap:=r,toks:=_} Y _ _ ?_
 ·exact R.j9
 ·exact R.lY
 show bL W (p::H) J VR {s with heap:=r,toks:=_} (ev Φ av B [] M F) _ _;cases hr:ev Φ av B [] M F with
 |ak=>replace g:=hr▸g;exact g.elim
 |aj v L=>
  rw[hr]at g;exact λw v' u t P rv d=>g w v' u t (own P) rv d.RI
 |bh told L=>
  rw[hr]at g;exact λw e u t P d y=>.B (wj s_ rfl d y.A (λb q=>P.D q) Y.bn (qK Y.toaR d) λj_ q_ Ck sf=>(g w e j_ t (own ((cK.RB (.B P) sf).cH (Tj (SJ _)))) q_.RI (Ck.B λb q=>(ck.RA Z:ck W J J s.heap r).D q)))
def qU (W:bk) (Φ:dy) (n:Nat):Prop:=∀k cs A fr ρ σ s a,nx A fr n->aR W fr ρ σ s.heap->W.cb.objs.size<=s.heap.objs.size->OR W ρ s.heap a (.cq k cs)->jO W A fr ρ s (.call (.ref a) ⟨[],[]⟩) (Φ (1000+k) (cs.map .ab) σ)
noncomputable abbrev qV (Φ:dy) (i:Nat):dk:=λl ζ σ=>match l[i]?.join with
 |some (.ab j)=>(match σ[j]? with|some (.cq k cs)=>Φ (1000+k) (cs.map .ab) σ|_=>.ak)
 |_=>.ak
def Kn (o:x.n W d u) (j:nx x.bO x.bD n) (w:qU W C n) (f:b8 x.bq U=Sn .local) (m:eM U (cX x.bq)=Sn i) (c:(U==("__debug__":TR))=Su):
  bf W x (.Call (.Name U p) [] [] M) (qV C i):=by
 intro e N Y D s F Q E g;unfold qV at g;have Z:=zC (k:=p) o f m c e N Y D s F;cases q:N[i]?.join with
 |none=>rw[q]at g;exact g.elim
 |some v=>
  dsimp only at Z;rw[q]at g Z;refine aN (Z _ E λK v' J L H r I=>?_);induction v using V.casesOn<;>first|exact g.elim|skip
  obtain⟨b,t,rfl,e1,l,z⟩:=fM I r;dsimp only at g;rw[l]at g
  set_option tactic.hygienic true in induction t using O.casesOn<;>first|exact g.elim|skip
  rename_i k a;have T:∃o y,J.get? b=Sn o/\o.data=.func y:=by
   refine aQ λG kG=>?_;obtain⟨_,_,⟨_,_,_,_,_,A,_⟩,_⟩:=z;exact kG ⟨_,_,A,rfl⟩
  refine fh T λoo y A B=>?_;refine Bs rfl (λh hh=>⟨.frame,.inl rfl,?_⟩) (.B<|evalArgs_nil3 ⟨rfl,?_⟩)
  ·subst hh
   exact(Wx A).andThen (aa .now B)
  ·exact(w k a x.bO x.bD K D {s with heap:=J,toks:=L} b j I (F.aD H I).RL z).jk Q E (g.RB H)
def BX:Slot "BaseException" "__getattribute__" lS:=.of (owner:="BaseException") (n:="__getattribute__") (by refine aS ?_ TG (T5 _ _);kernel_rfl) (by decide+kernel) (by decide+kernel) (by decide+kernel)
 (by first|exact .inl (by decide+kernel)|exact .inr (by decide+kernel)) (by refine aa ?_ (UX _ _);kernel_rfl)
def Ko:VB WE lS=Builtin.«object.__getattribute__»:=
 entryFor_alias (id':="object.__getattribute__") (by kernel_rfl) (by decide+kernel) (by decide+kernel) (by kernel_rfl)
def Kp:splitId lS=("BaseException","__getattribute__"):=by decide+kernel
def Kq {K} (X:K.In s.heap) (G:oy K=Sp) (f:s.heap.get? e=Sn {cls:=.ref 45,dict:=Sn k,data:=.fields l}) (o:s.heap.get? k=Sn (VN p n)) (x:getL (au "told") p=Sn (Sn v)) (Z:handedIn v=Sp) (h:Q v {s with toks:=s.toks+1}):
  Tg (Tt q w) A (getAttr (.ref e) (au "told") z) Q E s:=by
 have bt:=λ{a b:Bool}=>(Sz (x:=a) (y:=b)).mp;refine cZ G λG j=>?_;refine cZ G λG y=>?_;refine cZ G λG W=>?_;refine cZ G λY J=>?_;replace Y:=SG Y;replace J:=SG J;have j:subIn K (.ref 45) (.type "BaseException")=Sp:=by
  unfold oy.instSub at j;exact beq_iff_eq.mp j
 have I:InstAt s.heap e {cls:=.ref 45,dict:=k,data:=.fields l} 45 (Sn (VN p n)):=⟨f,rfl,rfl,o⟩
 obtain⟨P,g,d,t,D⟩:=s;dsimp only at X f o I h;have r:=I.type (M:=Tt q w);cases u:Vh K (.ref 45) (au "told")with
 |none=>rw[u]at y;exact bv y
 |some b=>
  rw[u]at y;delta getAttr getAttrBy;refine Sw (wpAny_mkText (Ui (Sw (r.at (Sw ((XA X Y).at ?_))))));have c:(onTheHeap (.ref 45)&&X8 lS==X8 "object.__getattribute__")=Su:=by decide+kernel
  dsimp only;refine aa ?_ c;refine aa ?_ (if_neg (by decide));delta getAttrByItsOwn hookBefore callGetattribute boundAndCalled;dsimp only;refine aa ?_ (if_pos (show onTheHeap (Wg 45)=Sp from rfl));refine Sw ((XA X J).at ?_);refine aa ?_ (show(z&&onTheHeap (X8 lS))=Su from by rw[show onTheHeap (X8 lS)=Su from rfl,XF]);refine aa ?_ (if_neg (by decide));refine Sw (wpAny_attempt (Ui (Sw (Tc (BX.bind (.ref e)) ?_))))
  refine wpAny_call (codeAny_call_builtin BX.plain Ko ?_);have T:V' (Tt q w) P (isInstance (.ref e) (.type "BaseException")) Sp:=by unfold isInstance;exact r.andThen (looks_subIn X j)
  refine check_slot (i:=lS) (rest:=[.str (au "told") t]) (kw:=[]) (by decide+kernel) Kp T (by unfold W';kernel_rfl) ?_;unfold Builtin.«object.__getattribute__»;refine Sw (m:=slotArgs "__getattribute__" 1 _) (SU (a:=(Wg e,[Value.str (au "told") t])) ?_);dsimp only;refine Sw (SU (a:=au "told") ?_);refine Sw (r.at (Sw ((looks_find (M:=Tt q w) X I (findObj_own W u y x)).at ?_)));dsimp only;refine SU ?_
  show Tg _ _ (handedOut v) _ _ _;refine aa ?_ (handedOut_of Z);exact SU h
def fk.C (y:fk W q j z w e h) (k:∀b,p.get? b=h.get? b):fk W q j z w e p:=by
 obtain⟨r,u,g,n,l,f,m,t,b,c,d,s⟩:=y.aU;refine⟨r,u,g,n,(k _).trans l,(k _).trans f,m,t,b,c,d,s.imp id ?_⟩;rintro⟨T,o,v,i,x,a,Q,Z,Y,J,K⟩;exact⟨T,o,v,i,x,a,Q,Z,(k _).trans Y,J,K⟩
def Kr (y:fk W z f j none e s.heap) (h:∀p,(∀b,p.get? b=s.heap.get? b)->Q () {s with heap:=p}):
  Tg M A (setFlight (.ref e) none) Q E s:=by
 obtain⟨o,v,x,n,r,a,Z,Y,b,c,d,w⟩:=y.aU;rcases w with w|⟨T,u,m,J,K,P,U,G,g,l,k⟩
 ·exact Sw (Ua r rfl w (SU (h s.heap λL=>rfl)))
 ·refine Sw (Ua r rfl m ?_)
  refine VD g rfl l ?_;have t:u.setIfInBounds 3 Value.none=u:=by
   apply Array.ext_getElem?;intro i;by_cases q:i=3
   ·subst q;refine aa ?_ (UI l);exact(k.resolve_right λ⟨_,q,_⟩=>nomatch q).symm
   ·exact(VV (UC q))
  exact h _ (AP g (by show Obj.mk _ _ _ _=_;dsimp only;exact aa rfl t) rfl)
def Ns.RB (n:h.Ns L m) (s:k8 q h z) (g:q.get? L≠none):z.Ns L m:=by
 refine aQ λG y=>?_;obtain⟨o,j,w,k,p,r,u⟩:=n;refine aP (s.fV L o k g) λl e _=>?_;exact y ⟨_,j,w,e,p,r,u⟩
def Ks (h:ax M A j (λf q=>match f with| .next=>ax M A z Q E q|f=>Q f q)
   (λe q=>ax M A (noteFrame e k) (λp r=>ax M A (setFlight e none) (λp u=>ax M A (handleBy e k (w::l)) Q E u) E r) E q) s):
  ax M A (tryStmt Su j (w::l) z [] k) Q E s:=by
 refine aN (zn (gC h (λf q y=>?_) λe q y=>?_))
 ·cases f<;>first|exact y|exact bb y
 ·exact aN (gC y (λp p g=>aN g) λp p x=>x)
noncomputable abbrev wG (p3 p4 p5 p6:Pos) (k:Nat) (n:Nat):TQ:=.Tuple [.Constant (.str (au "refused")) k p3,.Attribute (.Name (au "fault") p4) (au "told") p5] n p6
def Kt {x:c7} (f:o9 W M L) (K:oy W.bG=Sp) (o:x.n W d u) (B:x.aK.kindOf (au "fault")=Sn .local) (U:s.heap.Ns x.aK.locals m) (T:m (au "fault")=Sn (.ref e)) (G:aR W x.bD p l s.heap) (y:fk W r p w none e s.heap) (h:∀Z A a,(∀b t,s.heap.get? b=Sn t->Z.get? b=Sn t)->s.heap.get? a=none->Z.get? a≠none->aR W x.bD (p++[a]) (l++[.aX [.bx 1,w]]) Z->Q (.ret (.ref a)) {s with heap:=Z,toks:=A}):
  Tg W.b J (execs [.Return (Sn (wG I H F D k n)) C] x.aK) Q E s:=by
 obtain⟨vs,dx,es,nn,a1,a2,a3,a4,b,c,dd,tb⟩:=y.aU;refine Sw (Wt (Q:=λf j=>f≠.next/\Q f j) ?_ (λf j z=>?_) λζ ζ z=>z)
 rotate_left
 ·cases f<;>first|exact absurd rfl z.1|exact SU z.2
 refine Sw (XZ (Sw (wpAny_Tuple ?_)));show Tg _ _ (Yg ((Su,PySem.eval _ x.aK)::(Su,PySem.eval _ x.aK)::[])) _ _ _;refine spliced_cons (wpAny_Constant_str (spliced_cons ?_));refine Sw (Wo (VJ o.dP B U T ?_) (by decide+kernel));refine Sw (XZ (Sw (Ui ?_)));obtain⟨Y,hl,i⟩:∃Y,getL (au "told") es=Sn (Sn Y)/\VR p w Y:=(a3.IW (p:=au "told") (k:=0) (by decide+kernel))
 refine Kq (λa t e=>G.bn _ _ (f.X a t e)) K a1 a2 hl i.b ?_;refine Sw (Xt (SU (spliced_nil ⟨by simp[TO],?_⟩)));refine SU ⟨λq=>(nomatch q),?_⟩;have g:s.heap.get? s.heap.objs.size=none:=Tj (SJ _);have N:∀(t:Obj) b P,s.heap.get? b=Sn P->(s.heap.push t).get? b=P:=λt b P e=>SK _ e;refine h _ _ s.heap.objs.size (N _) g (by refine aa ?_ (fv s.heap _ rfl);exact λq=>nomatch q) (G.dC (N _) g ⟨[.str _ s.toks,Y],0,⟨⟨_,_,rfl,rfl⟩,i.RA (TJ _ _),trivial⟩,by simp,fv _ _ rfl⟩)
def fk.RF (y:fk W z p j r e h) (l:z.get? L≠none) (k:∀b,b≠L->u.get? b=h.get? b):fk W z p j r e u:=by
 obtain⟨f,m,t,n,s,o,v,i,b,c,d,x⟩:=y.aU;have w:∀{a},z.get? a=none->a≠L:=λe q=>l (aT e q);refine⟨f,m,t,n,(k _ (w b.1)).trans s,(k _ (w b.2)).trans o,v,i,b,c,d,x.imp id ?_⟩;rintro⟨T,Q,Z,g,Y,J,K,P,U,G,F⟩;exact⟨T,Q,Z,g,Y,J,K,P,(k _ (w g)).trans U,G,F⟩
noncomputable def tu:R V->bC
 | .aj v σ=>.aO v σ
 | .bh t σ=>.aO (.ab σ.length) (σ++[.aX [.bx 1,t]])
 | .ak=>.ak
def Ku (f:o9 W fA aI) (hg:oy W.bG=Sp) (o:x.n W d u) (fn:x.cf) (h1:bf W x e1 fd) (hB:b8 x.bq (au "BadCommand")=Sn .globalImplicit) (hk:b8 x.bq (au "fault")=Sn .local):
  fO W x (.Try [.Return e1 p1] [.ExceptHandler (Sn (.Name (au "BadCommand") p2)) (Sn (au "fault")) [.Return (Sn (wG p3 p4 p5 p6 k n)) p7] p8] [] [] p9) (λl c σ=>tu (fd l c σ)):=by
 intro ρ A be σ s F Q E g;obtain⟨M,ht⟩:=fn.kU;have C:=(o.i6 _ _ hk).resolve_right (λq=>by cases q.1);have hp:(x.aK.scope.kind==.class||(x.aK.scope.kind==.module&&x.aK.locals !=x.aK.globals))=Su:=by refine aa ?_ o.dP;rfl
 refine(aN (cE (Ks ?_)));refine cg (Z:=λfl s'=>fl≠.next/\Q fl s') ?_ (λfl s' z=>by cases fl<;>first|exact absurd rfl z.1|exact bb z.2);refine aN (cE (cg (h1 ρ A be σ s F _ _ ?_) λv s' z=>bb ⟨λq=>(nomatch q),z⟩));cases hr:fd A be σ with
 |ak=>dsimp only at g;rw[hr]at g;exact g.elim
 |aj v T=>
  dsimp only at g;rw[hr]at g;exact λp v' U t st rv w=>g p v' U t (.B st) rv w
 |bh told T=>
  dsimp only at g;rw[hr]at g;intro p e U t st w y;have j:=F.aD st w;have I1:=qK F.toaR w;have hL:s.heap.get? x.aK.locals≠none:=by
   refine aQ λG kG=>?_;refine aP F.aL λm hm _=>?_;refine aP (i7 hm) λoL gL _=>?_;exact kG (aa (λq=>nomatch q) gL)
  rw[ht]at w I1;refine .B (wh (aT o.eA ht) fn.nj w y.A (λb q=>st.D q) F.bn I1 λj_ q_ Ck E4=>?_);refine .B (wi (s:={s with heap:=j_,toks:=t}) q_ Ck F.bn λV_ r h ζ E5=>?_);replace r:=UW (ht)▸r;obtain⟨hh,gg,dd,tt,os⟩:=s;dsimp only at*;obtain⟨bm,B⟩:=wD (λa ob e=>r.bn _ _ (f.X a ob e)) f.j6;have a1:=h.aU;obtain⟨vs,dx,es,nn,a1,-⟩:=a1;refine .B (wpAny_handleBy_cons (codeAny_handlers_test (qx o f.toik r.bn hB f.wE (by decide+kernel) (wpAny_excMatches_sub_self B.dS a1 rfl B.BO ?_))) (by intro q;cases q))
  refine codeAny_handlers_suite_as (Kr h λW_ Y=>?_);have K1:=
   r.RB (S:=λz=>False) (λb z o q=>(Y b).trans q) (λz q=>q.elim) (λr g L l o q u=>⟨o,(Y L).trans q,u⟩) (oR (S:=λz=>False) (λb z o q=>(Y b).trans q) λz q=>q.elim)
  have Zq:=h.C Y;have sf:=(E4.A E5).A (⟨λb o e y=>⟨o.slots,(Y b).trans e,λy=>rfl⟩,λb o e=>⟨o,(Y b).trans e⟩,oR (S:=λy=>False) (λb y o q=>(Y b).trans q) λy q=>q.elim⟩);refine aP j.aL λm hm _=>?_;have J:=Ns.RB hm sf hL;refine wpAny_storeName_local C J (λaaj i K=>?_) hp;refine aQ λG kG=>?_;refine aP (i7 J) λoL g5 d5=>?_;refine aP (i7 i) λoL' g6 d6=>?_;obtain⟨L,D⟩:=K1.RF j.iS.1 j.iS.2 j.RK g5 d5 g6 d6 λb n=>K.2 b n
  refine kG ?_;refine Kt f hg o C i (if_pos rfl) L (Zq.RF hL λb n=>K.2 b n) λaak tk a kp na sa Zr=>?_;have P:=i.keeps kp;have Zs:x.aK.locals≠a:=λq=>by rw[<-q,g6]at na;exact aG (UW na)
  refine wpAny_nameGoes C P hp λZt aal N I=>?_;refine aQ λG kG=>?_;refine aP (i7 P) λoL7 g7 d7=>?_;refine aP (i7 N) λoL8 g8 d8=>?_;obtain⟨Zu,H⟩:=Zr.RF (λm=>by
    rcases Tn.mp m with m|m
    ·exact j.iS.1 m
    ·exact Zs (SP.mp m)) j.iS.2 j.RK g7 d7 g8 d8 λb n=>I.2 b n
  refine kG ?_;refine g (p++[a]) (.ref a) Zt _ ((((cK.B st).RB sf).A (D.A (.B (ck.dC kp na)))).A H) ⟨a,?_,rfl⟩ Zu;refine aT ?_ L.cH.bd;refine aa ?_ (Ts (SJ _));refine aa ?_ (Uw _);rfl
noncomputable def BZ (p:Nat->Pos) (w:Nat->Nat):List Vo:=[.Try [.Return (Sn (.Tuple [.Constant (.str (au "told")) (w 0) (p 1),.Call (.Name (au "call") (p 2)) [] [] (p 3)] (w 1) (p 4))) (p 5)] [.ExceptHandler (Sn (.Name (au "BadCommand") (p 6))) (Sn (au "fault")) [.Return (Sn (wG (p 7) (p 8) (p 9) (p 10) (w 2) (w 3))) (p 11)] (p 12)] [] [] (p 13)]
structure Kv (d:iP):Prop extends BR d [au "call"] 0 where
 aA:∃p w,d.aA=BZ p w
 BO:b8 d.cC (au "BadCommand")=Sn .globalImplicit
 QT:b8 d.cC (au "fault")=Sn .local
 A9:b8 d.cC (au "call")=Sn .local
 QU:cX d.cC=[au "call",au "fault"]
 QV:c9 d.cC=[]
noncomputable def pb (Φ:dy) (v:V) (σ:List O):R V:=match v with
 | .ab i=>(match σ[i]? with
  |some (.cq k cs)=>(match Φ (1000+k) (cs.map .ab) σ with
   | .aj v σ=>ea (.aX [.bx 0,v]) σ
   | .bh t σ=>ea (.aX [.bx 1,t]) σ
   | .ak=>.ak)
  |_=>.ak)
 |_=>.ak
structure wI (W:bk) (fA:Nat->Option S7) (aI aH:S7):Prop extends o9 W fA aI where
 B3:oy W.bG=Sp
 B4:W.hJ (au "_law_heard")=Sn (.ref aH)
 wH:∃d,nz W aH d/\Kv d
def B5:de (f::q)=λl c z=>(f l c z).C λx z=>(de q l c z).C λj z=>.aj (x::j) z:=rfl
def Kw (w:l[0]?=Sn (Sn v)):
  tu ((de [λp p z=>.aj (.bx 0) z,qV y 0] l c z).C λj z=>if cR j.length then ea (.aX j) z else .ak)=(match pb y v z with| .aj v z=>.aO v z| .bh t z=>.bh t z| .ak=>.ak):=by
 have r:cR 2=Sp:=by decide
 have u:l[0]?.join=v:=by refine aa ?_ w;rfl
 rewrite[B5,B5,show de []=λ_ _ z=>.aj [] z from rfl];delta R.C qV;dsimp only;rw[u];delta pb
 set_option tactic.hygienic true in induction v using V.casesOn<;>first|rfl|skip
 rename_i i;dsimp only;cases q:z[i]? with
 |none=>rfl
 |some g=>
  set_option tactic.hygienic true in induction g using O.casesOn<;>first|rfl|skip
  rename_i k f;dsimp only;cases y (1000+k) _ z with
  |ak=>rfl
  |bh t z=>rfl
  |aj v z=>exact congrArg tu (if_pos r)
def Kx (f:wI W fA aI aH) (So:qU W Φ n) (hd:A.depth+2+3*n<=900) (hu:A.units+6+10*n<=9000) (hh:A.handled=none) (I1:A.frames=Sn L) (G:aR W L ρ U s.heap) (v_:W.cb.objs.size<=s.heap.objs.size) (rv:VR ρ v y):jO W A L ρ s (.call (.ref aH) ⟨[y],[]⟩) (pb Φ v U):=by
 intro Q E g;obtain⟨d,⟨o,fd,ho,BY,D,J,F,CD,E6,N,B_,E7,B,M,E8,G1⟩,⟨⟨z1,ar,z2⟩,⟨p,w,hb⟩,hB,hk,hc,C,QF⟩⟩:=f.wH;obtain⟨t,body,sc⟩:=d;dsimp only at D J F N E7 B M E8 G1 z1 ar z2 hb hB hk hc C QF;generalize t.args=as at*;generalize t.defaults=ds at*;subst z1 hb;have al:as.length=1:=by refine aT ?_ (Sx (f:=λa:Arg=>a.arg));refine aa ?_ ar;rfl
 refine tc (uA hd (by decide)) (G.bn _ _ ho) BY (by refine aa ?_ F;exact E7) (by refine aa ?_ F;exact B) (.inl ⟨_,J,rfl⟩) (B_.keeps G.bn) ?_;rw[z2]at N;refine th D E8 (n:=0) ?_ (by simp[al]) (by simp[al]) (by simp[al]) ?_
 ·rcases N with q|⟨T,oo,k,e1,e2,e3⟩
  ·exact .inl q
  ·exact .inr ⟨T,oo,k,e1,G.bn _ _ e2,e3⟩
 refine aa ?_ F;have I:cJ (nv sc) (as.map (·.arg)) [(Su,0)]:=by
  refine aa ?_ ar;exact .ai (.ad hc (by refine aa ?_ C;decide+kernel)) .ao
 refine aa ?_ al;refine Bp G v_ M I (N:=[v]) (ys:=[y]) ⟨rv,trivial⟩ (by simp[al]) λz K P H e1 e2 e3 e4 e5 st hL FF keep=>⟨(f.bZ.nolimit.keeps G.bn).keeps keep,Bg ?_⟩
 have x:=FF (A.deeper z);rw[C,QF]at x;have s_:(A.deeper z).frames=Sn (z::L):=by
  show A.frames.map (z::·)=_;refine aa ?_ I1;rfl
 have ok:c7.n W ⟨A.deeper z,z,z::L,sc⟩ 0 0:=⟨Sq (Up (Tx _) (TM 3 (S6 n))) hd,Sq (Up (SF (by decide:3<=6) _) (S6 _)) hu,hh,s_,by refine aa ?_ e1;exact M.1,e2.trans CD,e3.trans E6,M.2.1,λnm k h=>.inl (by show z.scope.names.lookup nm=_;refine aa ?_ e1;exact h)⟩
 refine(wa (Ku f.too9 f.B3 ok ⟨⟨L,rfl⟩,e4⟩ (zT (.ai (zB (j:=0) (by decide+kernel)) (.ai (Kn ok ⟨hd,hu,hh,s_⟩ So hc (i:=0) (by refine aa ?_ C;decide+kernel) (by decide+kernel)) .ao)) (SN.mp rfl)) hB hk (p1:=p 5) (p2:=p 6) (p3:=p 7) (p4:=p 8) (p5:=p 9) (p6:=p 10) (p7:=p 11) (p8:=p 12) (p9:=p 13) (k:=w 2) (n:=w 3)) AF) K _ _ _ {s with heap:=P,toks:=H} x _ _ ?_;show bu W _ _ _ _ ((tu ((de [λζ ζ U=>.aj (.bx 0) U,qV Φ 0] [Sn v,none] [] (U++[])).C λvs U=>if cR vs.length then ea (.aX vs) U else .ak)).C λl U=>.aD l U) _ _
 refine aa ?_ (Kw (v:=v) (by rfl));refine aa ?_ (SY _);have own:∀{u m},cK W z.locals K u P m->ck W ρ u s.heap m:=λY=>((cK.B st).A Y).cH hL;cases hr:pb Φ v U with
 |ak=>rw[hr]at g;exact g.elim
 |aj r l_=>
  rw[hr]at g;exact λu v' m c Y rv Z=>g u v' m c (own Y) rv Z.RI
 |bh told l_=>
  rw[hr]at g;intro u e m c Y Z yy;have yy:fk W P u told z.frame e m:=yy;rw[e4]at yy;refine .B (wj (s:={s with heap:=m,toks:=c}) s_ e4 Z yy (λb q=>Y.D q) x.bn (qK x.toaR Z) λj_ q_ Ck sf=>?_);exact g u e j_ c (own (Y.RB sf)) q_.RI (Ck.B λb q=>st.D q)
def Ky (f:wI W P U L) (o:x.n W (n+1) (10*(n+1))) (M:qU W m n) (C:b8 x.bq (au "_law_heard")=Sn .globalImplicit) (T:bf W x a e) (D:cD a=Sp):
  bf W x (.Call (.Name (au "_law_heard") p) [a] [] z) (λl c q=>(e l c q).C λv q=>pb m v q):=by
 refine aP f.wH λd b _=>?_;have h:=wy (k:=λi q=>match i with|[v]=>pb m v q|_=>.ak) (p:=p) (i:=z) o f.toik C (by decide+kernel) f.B4 (λh=>wx b h) (.ai T .ao) (by simp[D]) λK q s i Z G Y r=>?_
 ·refine λK w u q s F Q E g=>h K w u q s F Q E ?_
  dsimp only at g;dsimp only[de];cases J:e w u q with
  |ak=>replace g:=J▸g;exact g
  |bh t j=>rw[J]at g;exact g
  |aj v j=>rw[J]at g;exact g
 ·rcases i with _|⟨v,_|⟨_,_⟩⟩<;>first|exact λQ E g=>g.elim|skip
  rcases Z with _|⟨y,_|⟨_,_⟩⟩<;>first|exact r.elim|exact r.2.elim|skip
  exact Kx f M (mG o.j9 (by decide)) (mG o.lY (by decide)) o.fL o.eA G Y r.1
inductive QW (W:bk) (w_:S7):Prop
 |mk (oc:SV) (od:Option S7) (QG:Array (Option SV)) (fd:Yi) (cc E_:S7) (I2:SV) (I3:Option S7) (I4:Array (Option SV)) (vs:Array SV) (file:TR) (tf:Tok) (cl:SV) (I5:Option S7) (I6:Array (Option SV)) (ar:Arg)
  (e1:W.cb.get? w_=Sn ⟨oc,od,.func fd,QG⟩) (e2:fd.closure=[(au "__class__",cc)]) (e3:fd.code=.ref E_) (e4:W.cb.get? E_=Sn ⟨I2,I3,.fields vs,I4⟩) (e5:vs[2]?=Sn (.str file tf))
  (e6:((W.fJ.main.file:TR)==file)=Sp) (e7:W.cb.get? cc=Sn ⟨cl,I5,.cell (Sn (.ref 298)),I6⟩) (e8:(fd.params.posonlyargs++fd.params.args).head?=Sn ar) (e9:ar.arg=au "self")
structure B6 (W:bk) (w_ C_:S7):Prop where
 l9:QW W w_
 kU:(W.fJ.main.scope.names.lookup ("super":TR)).isSome=Su
 hJ:W.hJ (au "super")=none
 Kz:∃cd,clsIn W.bG 298=Sn cd
 fS:mroIn W.bG 298 (.ref 298)=Sn Sp
 KA:nsIn W.bG cStatics "thirdparty.any"=Sn none
 i0:ks_superIn W.bG 298 298 "__init__"=Sn (Sn (.ref C_))
 KB:typeIn W.bG (.ref C_)=Sn (.type "function")
def KC {R} (z:s.heap.get? b=Sn {cls:=.type "method",dict:=none,data:=.fields #[.ref f,y],slots:=#[]}) (j:dj (Tt q w) A (.call (.ref f) {a with pos:=y::a.pos}) R s):dj (Tt q w) A (.call (.ref b) a) R s:=gE rfl (bT (Ww z (bb ⟨rfl,rfl,j⟩)))
noncomputable abbrev wJ (Φ:dy) (h:qz):dk:=λl c σ=>(dh l[0]?.join σ).C λx σ=>(match x with
  | .ab i=>(match σ[i]? with
   |some (.a8 k d)=>(match σ[d]?,i0 k 19 with
    |some (.aL _),Sn f=>(h l c σ).C λvs σ=>Φ f (x::vs) σ
    |_,_=>.ak)
   |_=>.ak)
  |_=>.ak)
def KD (h:i0 k 19=Sn f):k=4/\f=38:=by
 have a:yl.all (λe=>e.1.2 !=19||(e.1.1==4&&e.2==38))=Sp:=by decide+kernel
 have q:=SN.mp a _ (iA h);exact⟨SG (bH q).1,SG (bH q).2⟩
def KF (f:qT W fA) (o:x.n W (n+1) (10*(n+1))) (So:nA W fA Φ n) (QI:fA 38=Sn p) (S:B6 W w_ p) (T:x.b W w_) (QJ:b8 x.bq (au "super")=Sn .globalImplicit) (QK:b8 x.bq (au "__class__")=Sn .free) (Zv:b8 x.bq (au "self")=Sn .local) (hi:eM (au "self") (cX x.bq)=Sn 0) (he:jl es=Sp) (hl:ap.endLine=cp.line) (hs:cJ (bf W x) es fs) (F:cn W x ρ J be σ s.heap) (g:bL W x.bD ρ VR s (wJ Φ (de fs) J be σ) Q E):
  hQ W.b x.bO (.func body x.aK) (PySem.eval (.Call (.Attribute (.Call (.Name (au "super") p0) [] [] p1) (au "__init__") ap) es [] cp) x.aK) Q E s:=by
 have kd:∀nm,x.aK.kindOf nm=b8 x.bq nm:=λnm=>by
  obtain⟨_,_,_,_,_,_,_,_,D⟩:=T;show x.aK.scope.names.lookup nm=_;refine aa ?_ D;rfl
 refine aQ λG kG=>?_;obtain⟨oc,od,QG,fd,cc,E_,I2,I3,I4,vs,file,tf,cl,I5,I6,ar,I_,QL,Zw,Zx,Fn,Zy,Zz,hp,ZA⟩:=S.l9;obtain⟨o',ZC,B,K,c1,c2,c3,c4,c5⟩:=T;rw[I_]at B;replace B:=Sv B;subst B;cases K;refine kG ?_;have N:x.aK.cells=[(au "__class__",cc)]:=by
  rcases c4 with q|q
  ·replace q:=(QL)▸q;cases q
  ·exact aa (aa rfl QL) q
 dsimp only[wJ]at g;cases q:J[0]?.join with
 |none=>replace g:=(q)▸g;exact g.elim
 |some v=>
 rw[q]at g;have ZD:J[0]?=Sn (Sn v):=by
  cases z:J[0]? with
  |none=>rw[z]at q;exact aG q
  |some w=>rw[z]at q;have q:w=v:=q;exact aa rfl q
 refine aQ λG kG=>?_;refine aP F.aL λm r_ hm=>?_;refine aP (hm 0 _ v (js hi) ZD) λy hy rv=>?_;refine kG ?_;change bL W x.bD ρ VR s (match(generalizing:=false) v with
  | .ab i=>(match σ[i]? with
   |some (.a8 k d)=>(match σ[d]?,i0 k 19 with
    |some (.aL _),Sn f=>(de fs J be σ).C λvs σ=>Φ f (v::vs) σ
    |_,_=>.ak)
   |_=>.ak)
  |_=>.ak) Q E at g
 induction v using V.casesOn<;>first|exact g.elim|skip
 rename_i i;obtain⟨b,ob,rfl,e1,e2,ro⟩:=fM F.toaR rv;dsimp only at g;rw[e2]at g;induction ob using O.casesOn<;>first|exact g.elim|skip
 rename_i k d;dsimp only at g
 ·refine aQ λG kG=>?_
  refine ec (yn (P:=λr=>bL W x.bD ρ VR s r Q E) g λh=>h) λY9 kf e3 e4 g=>?_;refine(KD e4).elim λe0 e1=>?_;subst e0;subst e1;obtain⟨C,dx,so,n',hc,hd,hg,gd,rn,I⟩:=sW F.toaR ro e3;replace hc:=Sv hc;subst hc;have X:=oN f.todf F.toaR;refine S.Kz.elim λcd u=>?_;refine kG ?_;obtain⟨oD,QS,Q0⟩:∃oD,s.heap.get? 298=Sn oD/\oD.data=.cls cd:=by
   unfold clsIn at u;cases ho:W.bG.lookup 298 with
   |none=>rw[ho]at u;exact aG u
   |some oo=>
    rw[ho]at u;obtain⟨c,d,da,sl⟩:=oo;induction da using XR<;>first|exact aG u|exact⟨_,X _ _ ho,congrArg PySem.Data.cls (Sv u)⟩
  obtain⟨of,T,ZE⟩:∃of,s.heap.get? p=Sn of/\of.cls=.type "function":=by
   have H:(W.bG.lookup p).map (·.cls)=_:=S.KB;cases z:W.bG.lookup p with
   |none=>rw[z]at H;exact aG H
   |some of=>rw[z]at H;exact⟨of,X _ _ z,Sv H⟩
  have K7:=S.i0;unfold ks_superIn at K7;rw[u]at K7;obtain⟨hh,gg,dd,tt,os⟩:=s;dsimp only at*;refine nu (.at (ks_wpAt_super_base ((kd _).trans QJ) ((kd _).trans QK) (by decide+kernel) c2 (F.bn _ _ I_) rfl hp (c1.trans Zw) (F.bn _ _ Zx) rfl Fn Zy S.kU ?_));refine ks_loadName_global o.dP ((kd _).trans QJ) (loadGlobal_builtin (by refine aa ?_ o.bW;exact f.bZ.g.keeps F.bn) S.hJ (by refine aa ?_ o.m7;exact f.bZ.b.keeps F.bn) ((f.bZ.builtins _ (by decide+kernel)).trans (PyProof.Rows.Boot.«super»)) ⟨rfl,?_⟩)
  refine XC o.dP ((kd _).trans QK) (by refine aa ?_ N;rfl) ⟨_,F.bn _ _ Zz,rfl⟩ ?_;refine aa ?_ ZA;refine VJ o.dP ((kd _).trans Zv) r_ hy ?_;refine ks_wpAny_isType_cls QS Q0 ⟨rfl,?_⟩;refine ks_wpAny_call_super QS Q0 I.at_ I.cls (λc e=>by cases e) (looks_mroIn X S.fS) (λj ZF t=>?_);refine .B ?_;refine aN (cE ?_);have ZG:XK (es.length+([]:List Keyword).length) (WM cp (Vx es x.aK)) (backToKw cp (keywordEach [] x.aK))=Sp:=by
   have:=of_decide_eq_true (Sz.mp he).2;have e:backToKw cp (keywordEach [] x.aK)=[]:=rfl;unfold XK;refine aS ?_ e (Az (qI he));simp;exact SA this (S2 rfl)
  unfold methodCall;refine aa ?_ ZG;have U:W.bG.In j:=λa ob e=>t _ _ (X _ _ e);refine cg (Z:=λfx t_=>fx=_/\t_=_)
   (cy (.B (ks_wpAny_getMethod_super ZF (looks_opaque U S.KA) (λA Q E s k q=>Sw ((looks_clsIn U u) A _ E s k (SU q))) rfl U K7 (t _ _ T) ZE (ks_ne X I u) (by decide+kernel) ⟨rfl,rfl⟩))) λfx t_ z=>?_
  obtain⟨rfl,rfl⟩:=z;refine aN ?_;refine vo (decide_eq_true ((decide_eq_true (by assumption)))) ?_;refine bb ?_;have Y:∀b' ob,hh.get? b'=Sn ob->(j.push {cls:=.type "method",data:=.fields #[.ref p,.ref b]}).get? b'=ob:=λb' ob e=>SK _ (t _ _ e);have gm:(j.push {cls:=.type "method",data:=.fields #[.ref p,.ref b]}).get? j.objs.size=Sn {cls:=.type "method",data:=.fields #[.ref p,.ref b]}:=Heap.get?_push_at rfl rfl
  generalize j.push {cls:=.type "method",data:=.fields #[.ref p,.ref b]}=E2 at Y gm⊢;refine aQ λG kG=>?_;have G3:=F.aD (ck.RA Y) (F.toaR.RA Y);obtain⟨n1,-,n3,-⟩:=F.toaR.A (by
    cases z:hh.get? j.objs.size with
    |none=>rfl
    |some ob=>exact absurd (Uk (t _ _ z)) (VI _))
  refine aP (f.l9 38 p QI) λsrc Y' K3=>?_;obtain⟨of',ZC,ZH,K,-⟩:=id K3;refine kG ?_;refine tl (P:=λh=>h.get? j.objs.size=Sn {cls:=.type "method",data:=.fields #[.ref p,.ref b]}/\W.cb.StaysIn h) hs (qI he) G3 (λh hP=>⟨.boundFrame,.inr (.inr rfl),(Wx hP.1).andThen ?_⟩) ((g.RB (ck.RA Y)).am λk_ ZI ZJ ys j_ LC l ZK L ZL=>?_)
  ·exact(Wx (hP.2 _ _ ZH)).andThen (aa .now K)
  ·have M:=l.exact gm n1 n3 ⟨_,rfl⟩
   refine⟨⟨M,L.bn⟩,lX (KC M ?_)⟩;exact So 38 p QI x.bO x.bD ZJ ZI _ (.ab i::k_) (.ref b::ys) o.RD L (G3.aD l L).RL ⟨⟨b,gG l.cY e1,rfl⟩,ZK⟩ Q E ZL
section
structure qY (W:bk) (fA:Nat->Option S7) (aI aH:S7) (Φ:dy) (n:Nat):Prop where
 cL:wI W fA aI aH
 dV:BW W
 tw:nA W fA Φ n
 KG:qU W Φ n
structure iE (W:bk) (x:c7) (n:Nat):Prop where
 aj:x.n W (n+1) (10*(n+1))
 cq:dU x.bq (au "_law_heard")=Sp->wF W x
noncomputable abbrev iT (Φ:dy) (a:X):dk:=λl c σ=>ev Φ av a l c σ
structure tx (W:bk) (x:c7) (y:Ex) (f:dk):Prop where
 ce:bf W x y f
 bs:fY W x y f
def tx.B {f:dk} {e} (h:bf W x e f) (q:iT y a=f) (j:∀z,Vk e x.aK z=(do let v<-z;Yf e.pos;holding [v] (XT v))):tx W x e (iT y a):=aa ⟨h,(by
 intro w d o k s F Q E g;refine Fk ?_ (j _);refine jr.am (h w d o k s F) g λb p u l c m t r G g=>?_;induction b using V.casesOn<;>first|exact S9 g|skip
 obtain rfl:l=_:=r;exact .B (UK (g.A G rfl)))⟩ q
noncomputable def ld (Φ:dy):gv->List dk
 | .ao=>[]
 | .ai a r=>iT Φ a::ld Φ r
def aF (h:(a&&b)=Sp):a=Sp/\b=Sp:=bH h
def kj (h:(!a)=Sp):a=Su:=by induction a using SX<;>first|rfl|exact bv h
def fF (h:dU q z=Sp):b8 q z=Sn .globalImplicit:=SG h
def qW (h:qa q=Sp):(q==("__debug__":TR))=Su/\(q==("__classdict__":TR))=Su:=⟨kj (aF h).1,kj (aF h).2⟩
def pd {q:List Ex} (h:q.all p=Sp):∀e∈q,p e=Sp:=SN.mp h
section
variable(W:bk) (B:Nat->Ex->Ex) (C:Nat->Ub->Ex->Bool) (Φ:dy) (n:Nat)
abbrev PX (a:X):Prop:=∀(x:c7),iE W x n->∀g,cB B C x.bq a g=Sp->tx W x (dE B a g) (iT Φ a)
abbrev PL (es:gv):Prop:=(∀l c σ,ix Φ av es l c σ=de (ld Φ es) l c σ)/\∀(x:c7),iE W x n->∀gs,jo B C x.bq es gs=Sp->cJ (bf W x) (ez B es gs) (ld Φ es)
end
section
def ty (h:pZ q i z=Sp):(b8 q z=Sn .cell∨b8 q z=Sn .free)/\eM z (c9 q)=i:=
 ⟨(TZ.mp (aF h).1).imp SG SG,SG (aF h).2⟩
def KH {W} {B} {C} {Φ} {n} (f:df W) (j:PX W B C Φ n a):PX W B C Φ n (.ba o a):=λx z g h=>by
 have k:=j x z _ (aF h).1;have q:=(aF h).2;induction o using Ea.casesOn with
 |em=>exact⟨Gf k.ce,Gg k.bs⟩
 |bd=>exact .B (oO z.aj f (fF (aF q).1) (by decide) PyProof.Rows.Boot.«len» (.bs _) k.ce ((aF q).2) λg q s v m F r=>Gt f F r) rfl λy=>rfl
 |jg=>exact .B (vK z.aj f (fF (aF (aF q).1).1) k.ce ((aF q).2) rfl (λs Q E e h=>oG z.aj f.toik e (fF (aF (aF q).1).2) (f.m9 _ (by decide)) PyProof.Rows.Boot.«bytes» (by decide) rfl h) λt z s v b F r=>Gv f F r) rfl λy=>rfl
 |n9=>exact .B (Gw z.aj f (fF (aF (aF q).1).1) (fF (aF (aF q).1).2) k.ce (aF q).2) rfl λy=>rfl
 |gS=>exact .B (vK z.aj f (fF (aF (aF q).1).1) k.ce ((aF q).2) rfl (λp Q E e u=>qx z.aj f.toik e (fF (aF (aF q).1).2) f.zU rfl u) λt l p c b d I=>λH Z Y=>by
   apply ax.B;have J:=f.qC;simp only[T3]at J;induction c using V.casesOn with
   |ag K=>obtain⟨P,U,rfl⟩:=I;exact kW f kitx_bytes trivial J.1.1.1.1.1.1.1.1.2 (by intro G;cases G) d Y
   |ab i=>
    obtain⟨L,M,rfl,T,D,I⟩:=fM d I;dsimp only[u1]at Y;rw[D]at Y;induction M using O.casesOn<;>first|exact S9 Y|skip
    refine zX f d I (λA B=>?_) Y;have N:=f.sQ _ A B;simp only[qg,T3]at N;exact N.1.1.1.1.2
   |_=>exact S9 Y) rfl λy=>rfl
 |ag=>exact .B (He z.aj f (fF (aF q).1) k.ce (aF q).2) rfl λy=>rfl
 |bE=>exact .B (Hf z.aj f (fF (aF q).1) k.ce (aF q).2) rfl λy=>rfl
 |ah=>exact .B (GA z.aj f (fF (aF q).1) k.ce (aF q).2) rfl λy=>rfl
 |lD=>exact .B (oO z.aj f (fF (aF q).1) (by decide) (by decide+kernel) (.bs _) k.ce ((aF q).2) λg q s v m F r=>JT f z.aj.fL F r) rfl λy=>rfl
 |mH=>exact .B (GB z.aj f (fF (aF q).1) k.ce (aF q).2) rfl λy=>rfl
def KJ {p:Prop} (h:a=b) (k:U' a b=Su):p:=absurd h (Nat.ne_of_beq_eq_false k)
def KL {B} (h:r7 b=if k then 1 else 2):∃e q p,dE B b g=.BoolOp (oK k) (e::q) p/\p=g.pos:=by
 induction k using SX<;>induction b using X.casesOn<;>first|exact⟨_,_,_,rfl,rfl⟩|exact KJ h rfl
def B7 {W} {B} {C} {Φ} {n} (r:PX W B C Φ n a) (u:PX W B C Φ n b) (w:iE W x n) (l:cB B C x.bq a (aJ 0 g)=Sp) (f:cB B C x.bq b (lN k g)=Sp) (m:(SW ((cz g).length<=2)||r7 b==if k then 1 else 2)=Sp):
  tx W x (j6 k (dE B a (aJ 0 g)) (dE B b (lN k g)) g) (qA k (iT Φ a) (iT Φ b)):=by
 have y:=r x w _ l;have z:=u x w _ f;unfold j6;by_cases j:2<(cz g).length
 ·refine aa ?_ (if_pos j)
  obtain⟨e,t,p,q,rfl⟩:=KL (SG ((TZ.mp m).resolve_left λq=>absurd (of_decide_eq_true q) (Nat.not_le.mpr j)));have:(lN k g).pos=g.pos:=by unfold lN;refine aa ?_ (if_pos j);rfl
  rw[this]at q;rw[q]at z⊢;exact⟨zQ y.ce z.ce,zR y.bs z.bs⟩
 ·exact aa ⟨zQ y.ce (z.ce),zR y.bs (Gs z.bs)⟩ (if_neg j)
def KM {W} {B} {C} {Φ} {n} (f:ik W) (j:PX W B C Φ n a) (w:PX W B C Φ n b) (k:PX W B C Φ n c):PX W B C Φ n (.eR o p a b c):=λx z g h=>by
 have h:=aF h;have y:=aF h.1;have q:=aF y.1;exact⟨Gp z.aj f (kj h.2) (j x z _ q.1).ce (w x z _ q.2).ce (k x z _ y.2).ce,Gq z.aj f (kj h.2) (j x z _ q.1).ce (w x z _ q.2).ce (k x z _ y.2).ce⟩
def tz {W} {B} {C} {Φ} {n} (i:PL W B C Φ n z) {k:bo->List Nat->List O->List V->List O->R V}:(λl c q=>(ix Φ av z l c q).C (k l c q))=λl c q=>(de (ld Φ z) l c q).C (k l c q):=by
 funext l c q;exact aa rfl (i.1 _ _ _)
end
end
section
def B8 {α β:Type} (r:α->β->Prop) (l:List α) (fs:List β):Prop:=l.length%2=0->∃(es:List (α×α)) (gs:List (β×β)),r9 l=es.map (·.1)/\uM l=es.map (·.2)/\fs=gs.flatMap (λf=>[f.1,f.2])/\cJ (λe f=>r e.1 f.1/\r e.2 f.2) es gs/\es.length*2=l.length
def KN (h:cJ r l q):B8 r l q/\∀a b,r a b->B8 r (a::l) (b::q):=by
 induction h with
 |ao=>exact⟨λy=>⟨[],[],rfl,rfl,rfl,.ao,rfl⟩,λy y y h=>absurd (show 1%2=0 from h) (by decide)⟩
 |ai h o p=>
  refine⟨p.2 _ _ h,λa b j u=>aQ λG g=>?_⟩;obtain⟨f,m,c,e,t,d,s⟩:=p.1 ((Nat.add_mod_right _ 2).symm.trans u);exact g ⟨(a,_)::f,(b,_)::m,congrArg (a::·) c,congrArg (_::·) e,congrArg (λz=>b::_::z) t,.ai ⟨j,h⟩ d,(Nat.succ_mul _ _).trans (congrArg (·+2) s)⟩
def qX (i:PL W B C z n q):(λl c y=>ix z av q l c y)=de (ld z q):=funext λl=>funext λc=>funext λy=>i.1 l c y
def B9 (h:mX l=Sp):l=.az:=by induction l using X.casesOn<;>first|rfl|exact bv h
def tA (h:bf W x e (iT z l)):vQ W x (uN (mX l) e) (iT z l):=by
 cases q:mX l with
 |false=>exact h
 |true=>cases B9 q;exact λw y j k s F Q E g=>bb (g.A F.toaR rfl)
def KO (f:df W) (j:PX W B C q n a) (w:PX W B C q n b) (k:PX W B C q n c):PX W B C q n (.cT a b c):=λx z g h=>by
 have h:=aF h;have y:=aF h.1;exact .B (z5 (GI f) ((j x z _ y.1).ce) (tA (w x z _ y.2).ce) (tA (k x z _ h.2).ce)) rfl λp=>rfl
def Ca (h:uQ a q g=Sp):jm a=Sp/\jl q=Sp/\(aJ 0 g).pos.endLine=g.pos.line:=
 ⟨(aF (aF h).1).1,(aF (aF h).1).2,SG (aF h).2⟩
section
variable{W:bk} {B:Nat->Ex->Ex} {C:Nat->Ub->Ex->Bool} {Φ:dy} {n:Nat} {fA:Nat->Option S7} {aI aH:S7} (L:qY W fA aI aH Φ n)
include L
def KP {k} {es} (i:PL W B C Φ n es):PX W B C Φ n (.bR k es):=λx hx g h=>by
 have h:=aF h;have h1:=aF h.1;have h2:=aF h1.1;exact .B (Jt L.cL.too9.toqT hx.aj L.tw (fF h2.2) (SG h1.2) (pd h.2) (i.2 x hx _ h2.1)) (tz i) λζ=>rfl
def KQ {k} {es} (i:PL W B C Φ n es):PX W B C Φ n (.dw k es):=λx hx g h=>by
 have h:=aF h;have h1:=aF h.1;have h2:=aF h1.1;exact .B (Jw L.cL.too9.toqT hx.aj L.tw (fF h2.2) (SG h1.2) (pd h.2) (i.2 x hx _ h2.1)) (tz i) λζ=>rfl
def KS {m} {a} {es} (ia:PX W B C Φ n a) (i:PL W B C Φ n es):PX W B C Φ n (.cU m a es):=λx hx g h=>by
 have h:=aF h;have h1:=aF h.1;have h2:=aF h1.1;have q:=Ca h.2;exact .B (Js L.cL.too9.toqT hx.aj L.tw (SG h1.2) q.1 q.2.1 q.2.2 (ia x hx _ h2.1).ce (i.2 x hx _ h2.2)) (congrArg (Bu Φ m (iT Φ a)) (qX i)) λζ=>rfl
def KT {m} {a} {es} (ia:PX W B C Φ n a) (i:PL W B C Φ n es):PX W B C Φ n (.bK m a es):=λx hx g h=>by
 have h:=aF h;have h2:=aF h.1;have q:=Ca h.2;exact .B (HM hx.aj L.cL.too9.toqT.tokY.todf m q.1 q.2.1 q.2.2 (ia x hx _ h2.1).ce (i.2 x hx _ h2.2)) (congrArg (sV m (iT Φ a)) (qX i)) λζ=>rfl
def KU {a} (ia:PX W B C Φ n a):PX W B C Φ n (.iv a):=λx hx g h=>by
 have h:=aF h;have h1:=aF h.1;exact .B (Ky L.cL hx.aj L.KG (fF h1.2) (ia x hx _ h1.1).ce h.2) rfl λζ=>rfl
def KV:W.n:=L.cL.too9.toqT.tokY.todf.toik.ton
def KW (hL:∀k sc g,C k sc g=Sp->∃X g',Lt k=Sn X/\B k g=dE B0 X g'/\cB B0 C0 sc X g'=Sp) {k} {i_}:PX W B C Φ n (.cq k i_):=λx hx g h=>by
 have h:=aF h;have h1:=aF h.1;have h2:=aF h1.1;have h3:=aF h2.1;exact .B (Kk hx.aj (KV L) L.dV (hx.cq h1.2) (hL k _ _ h3.1) (SG h3.2) h2.2 (Vd.mp h.2)) rfl λζ=>rfl
end
def wK (h:r8 e=Sp):∀v,U0 e q v=T8 v:=by
 induction e using Uo<;>first|exact λz=>rfl|exact bv h
def wL {b:TR} (h:(a==b)=Su):a≠b:=beq_eq_false_iff_ne.mp h
def Cb (f:df W) (t:PX W B C q n a) (z:iE W x n) (h:cB B C x.bq (.mJ a w) g=Sp):
  oV W x (.Name (dq (aJ 0 g)) (aJ 0 g).pos) (.Name (dq (aJ 0 g)) (aJ 1 g).pos) (dE B a (aJ 2 g)) [sd (dq (aJ 0 g)) (dq (aJ 1 (aJ 3 g))) (aJ 3 g)] (fu g) (iT q (.mJ a w)):=by
 have h:=aF h;have y:=aF h.1;have j:=aF y.1;have k:=aF j.1;have p:=aF k.1;have r:=aF p.1;have u:=aF r.1;have l:=aF u.1;have m:=aF l.1;obtain⟨c,d⟩:=Ug.mp y.2;have e:=qW u.2;exact JZ z.aj f m.2 (wL (qW l.2).1) (wL e.1) (wL e.2) (fF r.2) (SG p.2) (SG k.2) (SG j.2) d (t x z _ m.1).ce (wK h.2)
theorem KX:∀{q},uR z q (mZ q.length g)=Sp->∃l,gJ (m0 q.length g) l/\cJ (qQ z) l q
 |[],h=>bv h
 |[i],h=>by
  have h:=aF (aF h).1;exact⟨_,.a7 _ _,.ai ⟨_,_,rfl,SG h.1,SG h.2⟩ .ao⟩
 |[i,j],h=>by
  have y:=aF h;have w:=aF y.1;have k:=aF (aF y.2).1;exact⟨_,.qM _ _ _ _ _ _,.ai ⟨_,_,rfl,SG w.1,SG w.2⟩ (.ai ⟨_,_,rfl,SG k.1,SG k.2⟩ .ao)⟩
 |_::_::_::_,h=>bv ((aF (aF h).2).2)
def Cc (o:x.n W d u) (f:df W) {z:dk} (q:bf W x a z) (h:uP x.bq k a=Sp):oT W x (mY k a g) k z:=by
 induction k using Ec.casesOn with
 |cN=>exact IN f.toik q
 |gU=>exact AZ o f (fF (aF h).1) (by decide) PyProof.Rows.Boot.«range» (.ed _) q ((aF h).2) λk l s v m Q E G r g=>IP G r g
 |jh=>exact AZ o f (fF (aF h).1) (by decide) PyProof.Rows.Boot.«enumerate» (.ed _) q ((aF h).2) λp l s v m Q E G r c=>IQ f.toik G r c
def KY (h:yw l=Sp):l=.aq Sp:=by
 set_option tactic.hygienic true in induction l using X.casesOn<;>first|exact bv h;done|skip
 rename_i b;induction b using SX<;>first|rfl|exact bv h
def Cd (f:df W) (Z:PX W B C w n e) (Y:PX W B C w n c) (u:iE W x n) (J:cB B C x.bq a (jn k (aJ 2 g))=Sp->bf W x (dE B a (jn k (aJ 2 g))) m) (h:cB B C x.bq (.dp e c k a p r y) g=Sp):
  oV W x (dE B e (aJ 0 g)) (m0 r.length (aJ 1 g)) (mY k (dE B a (jn k (aJ 2 g))) (aJ 2 g)) (if(cz g).length=3 then[]else[dE B c (aJ 3 g)]) (fu g) (qS k m (iT w e) (iT w c) p r y):=by
 have h:=aF h;have t:=aF h.1;have d:=aF t.1;have s:=aF d.1;have o:=aF s.1;have b:=aF o.1;have l:=aF b.1;have v:=aF l.1;have i:=aF v.1;have Q:=aF i.1;have j:∀C,iE W (kh x (fu g) C) n:=λC=>⟨l7 u.aj l.2,λq=>absurd ((kj b.2).symm.trans q) (by decide)⟩
 obtain rfl:p=(cX (fu g)).length:=SG s.2;refine s9.bG u.aj f ⟨l.2,KX d.2,SG o.2,Cc u.aj f (J i.2) t.2,λC=>(Z _ (j C) _ Q.1).ce,λC=>?_,wK h.2⟩;by_cases q:(cz g).length=3
 ·refine aa ?_ (if_pos q)
  have:=KY ((TZ.mp v.2).resolve_left λz=>of_decide_eq_true z q);subst this;exact .inl ⟨rfl,rfl⟩
 ·exact aa (.inr ⟨_,rfl,(Y _ (j C) _ Q.2).bs⟩) (if_neg q)
def Ce (f:df W) (p:PX W B C z n e) (r:PX W B C z n c) (u:PX W B C z n a) (w:iE W x n) (h:cB B C x.bq (.dp e c k a j y q) g=Sp):
  oV W x (dE B e (aJ 0 g)) (m0 y.length (aJ 1 g)) (mY k (dE B a (jn k (aJ 2 g))) (aJ 2 g)) (if(cz g).length=3 then[]else[dE B c (aJ 3 g)]) (fu g) (iT z (.dp e c k a j y q)):=Cd f p r w (λl=>(u x w _ l).ce) h
theorem Cf (A:∀a,PX W B C z n a) (y:PL W B C z n .ao) (q:∀a j,PX W B C z n a->PL W B C z n j->PL W B C z n (.ai a j)):∀j,PL W B C z n j
 | .ao=>y
 | .ai a r=>q a r (A a) (Cf A y q r)
def wM (L:qY W s o Q y n) (Z:∀k e g,C k e g=Sp->∃X t,Lt k=Sn X/\B k g=dE B0 X t/\cB B0 C0 e X t=Sp):(∀a,PX W B C y n a)/\∀r,PL W B C y n r:=by
 have d:=L.cL.too9.toqT.tokY;have w:=d.todf;have u:PL W B C y n .ao:=⟨λq q q=>rfl,λq q q q=>.ao⟩
 have p:∀a r,PX W B C y n a->PL W B C y n r->PL W B C y n (.ai a r):=λa r f i=>⟨λl c j=>by
  show(ev y av a l c j).C (λx j=>(ix y av r l c j).C λm j=>R.aj (x::m) j)=(ev y av a l c j).C λx j=>(de (ld y r) l c j).C λm j=>R.aj (x::m) j
  congr 1
  funext v j
  exact aa rfl (i.1 _ _ _),λx z K h=>.ai (f x z _ (aF h).1).ce (i.2 x z _ (aF h).2)⟩
 have A:=@X.rec _ _ (λx z g h=>⟨(λq q q q q q q q g=>S9 g),(λq q q q q q q q g=>S9 g
)⟩) (λx z g h=>.B Fz rfl λq=>rfl) (λb x z g h=>.B FA rfl λq=>rfl) (λq=>(λx z g h=>by
  show tx W x (if q<0 then _ else _) _
  split
  ·exact .B Jy (funext λl=>funext λc=>funext λy=>(aa rfl (Int.neg_neg _))) λq=>rfl
  ·exact .B FC rfl λq=>rfl)) (λq=>(λx z g h=>by
  have h:=aF h;refine .B (FG (by refine aa ?_ (Sx _);exact of_decide_eq_true h.1)) (funext λq=>funext λq=>funext λy=>?_) λq=>rfl;exact aa rfl (SG h.2)))
  (λq x z g h=>.B (zB (SG h)) rfl λq=>rfl) (λq=>(λx q g h=>by
   have h:=aF h;have k:=aF h.1;exact .B (zC q.aj (SG k.1) (SG k.2) (qW h.2).1) rfl λz=>rfl)) (λq=>(λx q g h=>by
   have h:=aF h;have k:=ty h.1;exact .B (FH q.aj k.1 k.2 (qW h.2).1 (qW h.2).2) rfl λz=>rfl)) (λq=>(λx q g h=>by
   have h:=aF h;exact .B (FI q.aj w.toik (fF h.1) (SG h.2)) rfl λz=>rfl)) (λq=>(λq=>λx z g h=>
   have k:=q x z g h
   ⟨FJ k.ce,Go k.bs⟩)) (λq q q=>(λz y=>λx q g h=>
   .B (Ge (z x q _ (aF h).1).ce (y x q _ (aF h).2).ce) rfl λj=>rfl)) (λq q=>KH w) (λq q=>(λq z=>λx y g h=>by
   have h:=aF h;exact B7 q z y (aF h.1).1 (aF h.1).2 h.2)) (λq q=>(λq z=>λx y g h=>by
   have h:=aF h;exact B7 q z y (aF h.1).1 (aF h.1).2 h.2)) (λq q q=>(λy j w=>λx q g h=>by
   have h:=aF h;have z:=aF h.1;exact⟨Gh (y x q _ z.1).bs (j x q _ z.2).ce (w x q _ h.2).ce,Gj (y x q _ z.1).bs (j x q _ z.2).bs (w x q _ h.2).bs⟩)) (λq q q=>(λy j=>λx q g h=>by
   have h:=aF h;have z:=aF h.1;exact⟨Gk q.aj w.toik (kj h.2) (y x q _ z.1).ce (j x q _ z.2).ce,Gn q.aj w.toik (kj h.2) (y x q _ z.1).ce (j x q _ z.2).ce⟩)) (λq q q q q=>KM w.toik)
  (λq=>(λi=>λx z g h=>
   .B (zS (i.2 x z _ (aF h).1) (pd (aF h).2)) (tz i) λy=>rfl)) (λq=>(λi=>λx z g h=>
   .B (zT (i.2 x z _ (aF h).1) (pd (aF h).2)) (tz i) λy=>rfl)) (λq=>(λi=>λP U F M=>by
   refine aQ λG E=>?_;have M:=aF M;have T:=aF M.1;obtain⟨D,N,I,H,t,s,a⟩:=((KN (i.2 P U _ T.1)).1) (SG M.2)
   have k:=JH (a:=F.pos) s (Nat.le_of_mul_le_mul_right (a▸of_decide_eq_true T.2:_<=15*2) (T9 1));rw[<-t,<-H]at k;have o:D.map (λe=>Sn e.1)=(r9 (ez B q (cz F))).map Sn:=by refine aa (aa ?_ Tp) I;rfl
   rw[o]at k;refine E ?_;exact .B k (congrArg (λd:qz=>(λl c y=>(d l c (y++[.aE []])).C λb z=>(match mR b,z[y.length]? with
    |some D,Sn (.aE [])=>if(eg D||kO D)&&D.length<=15 then .aj (.ab y.length) (z.set y.length (.aE (lJ D)))else .ak
    |_,_=>.ak):dk)) (qX i)) λQ=>rfl)) (λq q=>(λj=>λx z g h=>by
   have h:=aF h;have y:=aF h.1;exact .B (Jx z.aj d y.2 (SG h.2) (j x z _ y.1).ce) rfl λw=>rfl)) (λq q=>(λy j=>λx z g h=>
   .B (GE w (y x z _ (aF h).1).ce (j x z _ (aF h).2).ce) rfl λw=>rfl)) (λq q q=>KO w) (λq=>(λz=>λx y g h=>
   .B (GK w (z x y _ h).ce) rfl λj=>rfl)) (λx z g h=>.B (Hg z.aj w (fF h)) rfl λq=>rfl) (λq q=>KP L) (λq q q=>KS L) (λq q=>KQ L) (λq=>KU L) (λq q q=>KT L)
  (λq q=>KW L Z) (λq q f x z g h=>.B (ta (Cb w f z h)) rfl λq=>rfl) (λq q q q q q q Y J f x z g h=>.B (ta (Ce w Y J f z h)) rfl λq=>rfl) u p
 exact⟨A,Cf A u p⟩
end
noncomputable abbrev qZ (Φ:dy) (t:bZ):PD:=λv l c σ=>eL Φ av t v l c σ
noncomputable abbrev lf (Φ:dy) (s:S):bo->List Nat->List O->bC:=λl c σ=>aU Φ av s l c σ
structure rc (W:bk) (x:c7) (Φ:dy) (t:bZ) (e:Ex):Prop where
 bU:hK W x e (qZ Φ t)
 aL:cD e=Sp
 QX:uL e=Sp
 dV:∀nm p,e=.Name nm p->x.aK.kindOf nm=Sn .local ->∃i,eM nm (cX x.bq)=Sn i/\qZ Φ t=jM i
def wN (h:uL e=Sp):(∀y k p,e≠.Tuple y k p)/\(∀y p,e≠.List y p):=
 ⟨λz z z q=>by(subst q;exact bv h),λz z q=>by(subst q;exact bv h)⟩
def KZ {x:c7} (o:x.n W d u) (h:b8 x.bq z=Sn .cell∨b8 x.bq z=Sn .free) (j:x.aK.kindOf z=Sn .local):False:=by
 have y:∀k,k≠ .local ->b8 x.bq z=Sn k->False:=λk p h=>by
  rcases o.i6 z k h with q|⟨q,w⟩
  ·rw[j]at q;exact p (Sv q).symm
  ·rw[j]at w;exact absurd w (by decide)
 exact h.elim (y _ (by decide)) (y _ (by decide))
def Cg (o:x.n W d u) (h:kT x.bq i (dq g)=Sp):rc W x q (.ad i) (i2 g):=
 ⟨AJ o (SG (aF h).1) (SG (aF h).2),rfl,rfl,λz p e y=>⟨i,by cases e;exact SG (aF h).2,rfl⟩⟩
def Ch (o:x.n W d u) (h:pZ x.bq i (dq g)=Sp):rc W x q (.aW i) (i2 g):=
 ⟨HT o (ty h).1 (ty h).2,rfl,rfl,λy p e z=>by cases e;exact(KZ o (ty h).1 z).elim⟩
def wO (f:kY W) (A:∀a,PX W B C j n a) (z:iE W x n) (h:uS B C x.bq t g=Sp):rc W x j t (uO B t g):=by
 induction t using bZ.casesOn with
 |ad i=>exact Cg z.aj h
 |aW i=>exact Ch z.aj h
 |ay a k=>
  have h:=aF h;have w:=aF h.1;exact⟨HU z.aj f w.2 (SG h.2) (A a x z _ w.1).ce,rfl,rfl,λy y q=>nomatch q⟩
 |aM a b=>
  have h:=aF h;exact⟨HX z.aj f (A a x z _ h.1).ce (A b x z _ h.2).ce,rfl,rfl,λy y q=>nomatch q⟩
def Ci (f:kY W) (A:∀a,PX W B C y n a) (j:iE W x n):∀q z,se B C x.bq q z=Sp->cJ (rc W x y) q (pY B q z):=by
 intro Q;induction Q with
 |nil=>intro _ _;exact .ao
 |cons _ q IH=>intro z h;exact .ai (wO f A j (aF h).1) (IH z.tail (aF h).2)
def K' (o:x.n W d u):∀q z,qb x.bq q z=Sp->cJ (rc W x y) q (z.map i2):=by
 intro q;induction q with
 |nil=>intro z h;induction z using SD with
  |nil=>exact .ao
  |cons=>exact bv h
 |cons t q IH=>
  intro z h;induction z using SD with
  |nil=>cases t<;>exact bv h
  |cons n z=>cases t with
   |ad _=>exact .ai (Cg o (aF h).1) (IH z (aF h).2)
   |aW _=>exact .ai (Ch o (aF h).1) (IH z (aF h).2)
   |_=>exact bv h
structure QY (W:bk) (x:c7) (Φ:dy) (ts:List bZ) (es:List Ex):Prop where
 bU:cJ (hK W x) es (ts.map (qZ Φ))
 aL:∀e∈es,cD e=Sp
 dm:es.length=ts.length
 dV:∀(j:Nat) nm p,es[j]?=Sn (.Name nm p)->x.aK.kindOf nm=Sn .local ->∃i,eM nm (cX x.bq)=Sn i/\(ts.map (qZ Φ))[j]?=Sn (jM i)
def wP (h:cJ (rc W x k) y w):QY W x k y w:=by
 induction h with
 |ao=>exact⟨.ao,λz m=>(nomatch m),rfl,λz z z e=>nomatch e⟩
 |ai h f q=>
  refine⟨.ai h.bU q.bU,λe m=>?_,congrArg (·+1) q.dm,λj r p e u=>?_⟩
  ·cases m with
   |head=>exact h.aL
   |tail _ m=>exact q.aL e m
  ·cases j with
   |zero=>
    refine aP (h.dV r p (Sv e) u) λi g l=>?_;exact⟨i,g,congrArg Sn l⟩
   |succ j=>exact q.dV j r p e u
def wQ:(λz l c y=>dZ j av q z l c y)=i8 (q.map (qZ j)):=by
 funext z l c y;exact HY q z l c y
def fO.B {z} (h:fO W x z f) (q:lf y a=f):fO W x z (lf y a):=aa h q
abbrev PS (W:bk) (B:Nat->Ex->Ex) (C:Nat->Ub->Ex->Bool) (Φ:dy) (x:c7) (s:S):Prop:=
 (∀g,(iz B C x.bq s).1 g=Sp->fO W x ((iy B s).1 g) (lf Φ s))/\(∀gs,(iz B C x.bq s).2 gs=Sp->jt W x ((iy B s).2 gs) (lf Φ s))
def La (f:kY W) (A:∀a,PX W B C z n a) (P:∀m,PL W B C z n m) (y:iE W x n) (h:(iz B C x.bq (.en j q)).1 g=Sp):fO W x ((iy B (.en j q)).1 g) (lf z (.en j q)):=by
 have h:=aF h;have w:=aF h.1;have r:=aF w.1;have u:=aF r.1;have l:=aF u.1;have T:=wP (Ci f A y _ _ l.1);have k:=Il (k:=kE (b7 1 g)) (p:=(b7 1 g).pos) (k':=kE (b7 0 g)) (p':=(b7 0 g).pos) (g:=g.pos) y.aj (SG u.2) (of_decide_eq_true r.2) (pd w.2) T.aL (kj h.2) ((P q).2 x y _ l.2) T.bU T.dV;rw[<-qX (P q),<-wQ]at k;exact k
def Lb {x:c7} (h:qb x.bq q (mZ q.length g)=Sp):gJ (m0 q.length g) ((mZ q.length g).map i2):=by
 delta m0 mZ
 split
 ·exact .a7 _ _
 ·exact .qM _ _ _ _ _ _
def Lc (f:kY W) (A:∀a,PX W B C q n a) (z:iE W x n) (r:x.cf) (u:PS W B C q x b) (h:(iz B C x.bq (.eG k y a b)).1 g=Sp):fO W x ((iy B (.eG k y a b)).1 g) (lf q (.eG k y a b)):=by
 have h:=aF h;have w:=aF h.1;have p:=aF w.1;have j:=aF p.1;have T:=wP (K' (y:=q) z.aj _ _ j.1);have k:=IR (L:=g.pos) z.aj r (Lb j.1) T.bU (Cc z.aj f.todf (A a x z _ j.2).ce p.2) (wK w.2) (u.2 _ h.2);rw[<-wQ,T.dm]at k;exact k
def Cj (L:qY W e d o p n) (A:∀a,PX W B C p n a) (P:∀f,PL W B C p n f) (y:iE W x n) (u:x.cf) (s):PS W B C p x s:=by
 have r:=L.cL.too9.toqT.tokY;induction s with
 |ak=>exact⟨λz h=>(nomatch h),λz h=>nomatch h⟩
 |aw=>exact⟨λz z=>(λy j w z s F Q E g=>aa (aN (cE (bb (g y s.heap s.toks .E F)))) (arm_exec_Pass _ _)),λz z=>AF⟩
 |am a b j w=>exact⟨λz h=>(nomatch h),λv h=>wa (j.1 _ (aF h).1) (w.2 _ (aF h).2)⟩
 |aU a=>exact⟨λg h=>.B (HR y.aj (kj (aF h).2) (A a x y _ (aF h).1).ce) rfl,λz h=>nomatch h⟩
 |a6 t a=>exact⟨λg h=>(by
  have h:=aF h;have j:=aF h.1;obtain⟨w,k,z,-⟩:=wO r A y j.1;have z:=wN z;cases q:lL _ with
  |false=>exact .B (AL q z.1 z.2 k (A a x y _ j.2).ce w) rfl
  |true=>
   have p:yx a=Sp:=by have:=h.2;rw[q]at this;exact this
   have u:=j.2;induction a using X.casesOn<;>first|exact aG p|exact bv p|(cases p;done)|skip
   ·exact .B (Bf (Cb r.todf (A _) y u) z.1 z.2 k w) rfl
   ·exact .B (Bf (Ce r.todf (A _) (A _) (A _) y u) z.1 z.2 k w) rfl),λz h=>nomatch h⟩
 |en l i=>exact⟨λg h=>La r A P y h,λz h=>nomatch h⟩
 |mK l a=>exact⟨λg h=>(by
  have h:=aF h;have j:=aF h.1;have w:=aF j.1;have T:=wP (Ci r A y _ _ w.1);have k:=H3 (k:=kE (b7 1 g)) (p:=(b7 1 g).pos) (P:=g.pos) y.aj (kj j.2) (wN h.2).1 T.aL (A a x y _ w.2).ce T.bU;rw[<-wQ,T.dm]at k;exact k),λz h=>nomatch h⟩
 |aY c a b j w=>exact⟨λg h=>.B (HS (A c x y _ (aF (aF h).1).1).bs (j.2 _ (aF (aF h).1).2) (w.2 _ (aF h).2)) rfl,λz h=>nomatch h⟩
 |eG k l a b w=>exact⟨λg h=>Lc r A y u w h,λz h=>nomatch h⟩
 |iO c a j=>exact⟨λg h=>.B (Ip y.aj u (A c x y _ (aF h).1).bs (j.2 _ (aF h).2)) rfl,λz h=>nomatch h⟩
 |aO a=>
  refine⟨λg h=>?_,λz h=>nomatch h⟩;have h:=aF h;show fO W x (.Return _ _) _;cases q:(vw g).1.isEmpty with
  |false=>exact .B (λr j w q s F Q E g=>by
   refine aN (cE (cg (((A a x y _ h.1).ce) r j w q s F _ E (bu.toS g λv u k m t p a b c d=>d k m t p .E b c)) λv o z=>bb z))) rfl
  |true=>
   have m:mX a=Sp:=by have:=h.2;rw[q]at this;exact this
   cases B9 m;exact .B HQ rfl
 |ib a=>exact⟨λg h=>.B (Kg L.cL.too9 y.aj (fF (aF (aF h).1).2) (aF h).2 (A a x y _ (aF (aF h).1).1).ce) rfl,λz h=>nomatch h⟩
 |eu=>exact⟨λg z=>(λy j w z s F Q E g=>aa (aN (cE (bb (g y s.heap s.toks .E F)))) (arm_exec_Break _ _)),λz h=>nomatch h⟩
 |dR=>exact⟨λg z=>(λy j w z s F Q E g=>aa (aN (cE (bb (g y s.heap s.toks .E F)))) (arm_exec_Continue _ _)),λz h=>nomatch h⟩
structure Cr (W:bk) (fA:Nat->Option S7) (aI aH:S7):Prop extends wI W fA aI aH where
 dV:BW W
 cq:∀k a,fA k=Sn a->∀d,fj k=Sn d->dU d.cC (au "_law_heard")=Sp->∀x,c7.b W x a->wF W x
 Cl:∀w_,fA 39=Sn w_->∃C_,fA 38=Sn C_/\B6 W w_ C_
def Ld:∀{z} {y},vm q z y=Sp->cJ (nv q) z y:=by
 intro z;induction z with
 |nil=>intro y h;induction y using SD with
  |nil=>exact .ao
  |cons=>exact bv h
 |cons a z IH=>
  intro y h;induction y using SD with
  |nil=>exact bv h
  |cons p y=>
   obtain⟨b,k⟩:=p;induction b using SX with
   |true=>exact .ai (.aW (SG (aF (aF h).1).1) (SG (aF (aF h).1).2)) (IH (aF h).2)
   |false=>exact .ai (.ad (SG (aF (aF h).1).1) (SG (aF (aF h).1).2)) (IH (aF h).2)
def Cn (h:fj k=Sn d):k<51:=by
 unfold fj at h;by_cases q:k<30
 ·exact a5 (by assumption) rfl
 ·rw[if_neg q]at h
  by_cases z:k<51
  ·exact z
  ·rw[if_neg z]at h;exact aG h
def Co (h:fj k=Sn d) (r:Ft k=Sn j):Bq d j/\(k=39∨((iz B1 C1 d.cC j.aA).2 d.aA=Sp/\d.aA=(iy B1 j.aA).2 d.aA)):=by
 have w:=UD.mpr (Cn h);have p:=Yb.mp EY k w;have o:=SN.mp E0 k w;rw[h]at p o;rw[Option.all_some,r]at o;have o:=aF o;have q:=aF o.1;have u:=aF q.1;have g:=aF u.1;have l:=aF g.1;refine⟨⟨Sv p,SG l.1,SG l.2,Ld g.2,SG u.2,SG q.2⟩,?_⟩;by_cases z:k=39
 ·exact .inl z
 ·have b:=Yb.mp EZ k (Xz.mpr ⟨w,bne_iff_ne.mpr z⟩)
  rw[h,r]at b;exact .inr ⟨(TZ.mp o.2).resolve_left λy=>z (SG y),Sv b⟩
def Cq:∀k z g,C1 k z g=Sp->∃X y,Lt k=Sn X/\B1 k g=dE B0 X y/\cB B0 C0 z X y=Sp:=λk z g h=>by
 unfold C1 at h;unfold B1;cases q:Lt k with
 |none=>rw[q]at h;exact bv h
 |some X=>rw[q]at h;exact⟨X,g,rfl,rfl,h⟩
def wR:jO W A q z s c .ak:=λQ E g=>g.elim
def Le (L:qY W M B N j n) (C:iE W x n) (K:M 38=Sn e) (S:B6 W m e) (P:x.b W m) (U:b8 x.bq (au "__class__")=Sn .free) {o} (I:(λl c k=>ix j av d l c k)=de (ld j d)) (H:cJ (bf W x) t (ld j d)) (A:jt W x y (lf j r)) (hp:jl t=Sp) (hl:(aJ 0 (b7 0 o)).pos.endLine=(b7 0 o).pos.line) (hg:dU x.bq (au "super")=Sp) (E:kT x.bq 0 (au "self")=Sp):
  ww W x (oA t o::y) (lf j (.am (.aU (.tr (.cU 19 (.ad 0) d))) r)):=by
 intro ρ i w k s F Q J g;have g':bu W x w ρ s (((fg k (wJ j (de (ld j d)) i w k)).toS λT k=>.aD i k).C λl k=>lf j r l w k) Q J:=aT g I;have gB:=bu.C (Z:=λf p=>match f with| .next=>hQ W.b x.bO (.func (oA t o::y) x.aK) _ Q J p|f=>Q f p) g'
  (λl h u D Y a b c=>.B (A u l w h _ b Q J c)) λf p hf q=>by cases f<;>first|exact q|exact absurd rfl hf
 refine aa ?_ (execs_cons _ _ _);refine nu (Bh (Q:=λf p=>match f with| .next=>hQ W.b x.bO (.func (oA t o::y) x.aK) (execs y x.aK) Q J p|f=>Q f p) ?_ (λf p z=>?_) λT T z=>z)
 ·unfold oA
  exact aa (aa (nu (.B (cE (aa (nu (.B (bb (aa (nu (KF L.cL.too9.toqT C.aj L.tw K S P (fF hg) U (SG (aF E).1) (SG (aF E).2) hp hl H F (bL.fg F.toaR (bu.toS gB λv h u v' D Y a b c G=>(.B (.B (wpAny_dropValue (G u D Y .E (F.aD a c))))))))) (if_neg (by decide)))))) (if_neg (by decide)))))) (AG C.aj.dP)) (arm_exec_Expr _ _ _)
 ·cases f<;>first|exact z|exact .B (bb z)
def Lf:∀(q:List Nat),oi (q.map .ab)=q:=by
 intro Q;induction Q with
 |nil=>exact rfl
 |cons c q IH=>refine aa ?_ Tz;rewrite[Ei];refine aa ?_ (IH);rfl
def Lg (F:Cr W l P U) (n):nA W l (jk Ft Lt av n) n/\qU W (jk Ft Lt av n) n:=by
 induction n with
 |zero=>exact⟨λf a p A m c y s t o R G z M=>wR,λk b A m c y s a R G z v=>wR⟩
 |succ n E=>
  have L:qY W l P U _ n:=⟨F.towI,F.dV,E.1,E.2⟩
  obtain⟨A1,i⟩:=wM L Cq;constructor
  ·intro f a p A m c y s t o R G z M
   refine aP (F.l9 f a p) λd r fa=>?_;have e:jk Ft Lt av (n+1) f t y=match Ft f with|some T=>pT _ av T t y|none=>.ak:=if_pos (SA (Cn r) (S2 rfl))
   refine aa ?_ e;cases D:Ft f with
   |none=>exact wR
   |some T=>
    obtain⟨Q,hb⟩:=Co r D;refine Br F.toik Q fa (λx Z N j w=>?_) R G z M;have Y:iE W x n:=⟨Z,λq=>F.cq f a p d r (aT q j) x w⟩
    have I:=λs=>Cj L A1 i Y N s;rcases hb with J|⟨b1,b2⟩
    ·subst J
     obtain⟨s1,s2,H⟩:=Fb D r;refine aP (F.Cl a p) λC_ K S=>?_;rw[<-j]at H;have q:=aF H;have q1:=aF q.1;have q2:=aF q1.1;have q3:=aF q2.1;have q4:=aF q3.1;have q5:=aF q4.1;exact aS (Le L Y K S w (SG q.2) (qX (i _)) ((i _).2 x Y _ q5.1) ((I _).2 _ q5.2) q4.2 (SG q3.2) q2.2 q1.2) s2 s1
    ·exact aa (((I _).2 _ (by refine aa b1 j)).at) b2
  ·intro k b A m c y s a R G z v
   have u:∃B,Lt k=Sn B:=by
    obtain⟨_,_,⟨_,_,_,_,_,_,_,⟨B,_,h,_⟩,_⟩,_⟩:=v;exact⟨B,h⟩
   obtain⟨X,u⟩:=u;have e:jk Ft Lt av (n+1) (1000+k) (b.map .ab) y=ev (jk Ft Lt av n) av X [] b y:=by
    show(if _ then _ else _)=_;exact aa (aa (aa (aa rfl (Lf _)) u) (Uj _ _)) (if_neg (TN.mpr (SH _ _)))
   exact aa (Km F.toik u (λx g Z N hB hg=>(((wM (C:=C0) L λk sc g h=>nomatch h).1 X x ⟨Z,λq=>by rw[hg]at q;exact bv q⟩ g hB).ce)) R G z v) e
end
end
section
@[reducible] noncomputable def S.fW:S->S
 | .am a _=>a| .aY _ a _=>a| .iO _ a=>a| .eG _ _ _ a=>a|s=>s
@[reducible] noncomputable def S.bs:S->S
 | .am _ b=>b| .aY _ _ b=>b|s=>s
@[reducible] noncomputable def S.d:S->X
 | .iO c _=>c| .aY c _ _=>c| .aU x=>x| .aO x=>x| .a6 _ x=>x| .eG _ _ x _=>x|_=>.ak
def Lh (n) (q z):gz n q (q++z)=Sp:=by
 induction q with
 |nil=>rfl
 |cons o q y=>exact Sz.mpr ⟨TZ.mpr (.inl (beq_self_eq_true o)),y⟩
def tB (h:c8 q.length v=Sp) (k:gz q.length q z=Sp):fg q (.aj v z)=.aj v (z.take q.length):=if_pos (Sz.mpr ⟨h,k⟩)
def di {r:R q} (h:r=.aj v z):r.C k=k v z:=h▸rfl
def AR {r:R q} (h:r=.bh v z):r.C k=.bh v z:=h▸rfl
def i9 {r:R V} (h:r=.aj v q):r.toS k=k v q:=h▸rfl
def Li {r:R V} (h:r=.bh v q):r.toS k=.bh v q:=h▸rfl
def jv {r:bC} (h:r=.aD l q):r.C k=k l q:=h▸rfl
abbrev EV (Φ:dy) (l:bo) (c:List Nat) (e:X) (σ:List O) (v:V) (c_:List O):Prop:=ev Φ av e l c σ=.aj v c_
def EV.ae:EV z l c (.ae i) q (.ae i) q:=rfl
def EV.aq:EV z l c (.aq i) q (.aq i) q:=rfl
def EV.az:EV z l c .az q .az q:=rfl
def EV.ag:EV z l c (.ag i) q (.ag i) q:=rfl
def EV.bx:EV z l c (.bx k) q (.bx k) q:=rfl
def EV.cr:EV z l c (.cr v) q v q:=rfl
def ma (h:o=Sn v):dh o q=.aj v q:=h▸rfl
def EV.ad (h:autoParam (l[i]?.join=Sn v) tR):EV z l c (.ad i) q v q:=ma h
def EV.aV (r:EV k l c a p x q) (u:EV k l c b q y j) (g:ie av o x y j=.aj z w):EV k l c (.aV o a b) p z w:=(di r).trans ((di u).trans g)
def EV.ba (k:EV j l c a w x q) (p:u1 av o x q=.aj z y):EV j l c (.ba o a) w z y:=(di k).trans p
def EV.tr (j:EV z l c a q x (q++y)) (h:autoParam (c8 q.length x=Sp) tR):EV z l c (.tr a) q x q:=(congrArg (fg q) j).trans ((tB h (Lh _ q y)).trans (congrArg (R.aj x) W0))
def EV.P (y:EV z l c a q x q) (h:autoParam (c8 q.length x=Sp) tR):EV z l c (.tr a) q x q:=.tr (y:=[]) ((SY q).symm▸y) h
def EV.aB (p:EV w l c a k x j) (r:EV w l c b j y z) (u:dY av o x y z=Sn t):EV w l c (.aB o a b) k (.aq t) z:=(di p).trans ((di r).trans (congrArg (λq=>dh _ z) u))
def EV.and (k:EV j l c a w (.aq Sp) q) (p:EV j l c b q y z):EV j l c (.and a b) w y z:=(di k).trans p
def EV.RG (j:EV z l c a y (.aq Su) q):EV z l c (.and a b) y (.aq Su) q:=di j
def EV.RX (j:EV z l c a y (.aq Sp) q):EV z l c (.or a b) y (.aq Sp) q:=di j
def EV.RK (k:EV j l c a w (.aq Su) q) (p:EV j l c b q y z):EV j l c (.or a b) w y z:=(di k).trans p
def EV.RY (y:EV z l c a q (.aq s) q) (j:EV z l c b q (.aq t) q):EV z l c (.and a b) q (.aq (s&&t)) q:=by
 induction s using SX
 ·exact .RG y
 ·exact .and y j
def EV.RL (y:EV z l c a q (.aq s) q) (j:EV z l c b q (.aq t) q):EV z l c (.or a b) q (.aq (s||t)) q:=by
 induction s using SX
 ·exact .RK y j
 ·exact .RX y
def EV.em (j:EV z l c a y (.aq t) q):EV z l c (.ba .em a) y (.aq !t) q:=.ba j rfl
def EV.E (j:EV z l c a q x q) (w:EV z l c b q y q) (k:dY av o x y q=Sn t):EV z l c (.tr (.aB o a b)) q (.aq t) q:=.P (.aB j w k)
def EV.bY (y:EV z l c a q (.ae i) q) (w:EV z l c b q (.ae j) q):EV z l c (.tr (.aB .bY a b)) q (.aq (SW (i<=j))) q:=.E y w rfl
def EV.Q (y:EV z l c a q (.ae i) q) (w:EV z l c b q (.ae j) q):EV z l c (.tr (.aB .bp a b)) q (.aq (i==j)) q:=.E y w rfl
theorem Lj {i j}:∀{p},SW (i<=j)=p->EV w l c a y (.ae i) y->EV w l c b y (.ae j) y->EV w l c d y (.ae k) y->EV w l c (.eR .bY .bY a b d) y (.aq (p&&SW (j<=k))) y
 |true,r,u,g,f=>(di u).trans ((di g).trans ((congrArg (λq=>match Sn q with
  |some Sp=>(ev w av d l c y).C λz y=>dh ((dY av .bY (.ae j) z y).map .aq) y
  |some Su=>.aj (.aq Su) y
  |Option.none=>.ak) r).trans (di f)))
 |false,r,u,g,f=>(di u).trans ((di g).trans (congrArg (λq=>match Sn q with
  |some Sp=>(ev w av d l c y).C λz y=>dh ((dY av .bY (.ae j) z y).map .aq) y
  |some Su=>.aj (.aq Su) y
  |Option.none=>.ak) r))
def EV.RU (y:EV z l c a q (.ae i) q) (w:EV z l c b q (.ae j) q) (p:EV z l c d q (.ae k) q):EV z l c (.tr (.eR .bY .bY a b d)) q (.aq (SW (i<=j)&&SW (j<=k))) q:=.P (Lj rfl y w p)
abbrev cO (Φ:dy) (l:bo) (c:List Nat) (es:gv) (σ:List O) (vs:List V) (c_:List O):Prop:=ix Φ av es l c σ=.aj vs c_
def cO.ao:cO z l c .ao q [] q:=rfl
def cO.ai (p:EV y l c a j v q) (r:cO y l c w q k z):cO y l c (.ai a w) j (v::k) z:=(di p).trans (di r)
def cO.a7 (j:EV z l c a y v q):cO z l c (.ai a .ao) y [v] q:=.ai j .ao
def EV.bR (p:cO y l c j w k q) (r:y f k q=.aj v z):EV y l c (.bR f j) w v z:=(di p).trans r
def EV.RV (p:cO y l c j w k q) (r:y f k q=.bh v z):ev y av (.bR f j) l c w=.bh v z:=(di p).trans r
def EV.dO (k:cO y l c j w z q) (p:autoParam (cR z.length=Sp) tR):EV y l c (.dO j) w (.ab q.length) (q++[.aX z]):=(di k).trans (if_pos p)
def EV.bj (k:cO y l c j w z q) (p:autoParam (cR z.length=Sp) tR):EV y l c (.bj j) w (.ab q.length) (q++[.ah z]):=(di k).trans (if_pos p)
def EV.aM (r:EV k l c a p x q) (u:EV k l c b q y j) (g:jG av x y j=.aj z w):EV k l c (.aM a b) p z w:=(di r).trans ((di u).trans g)
def EV.cT {u} (g:EV p l c a r x j) (f:EV p l c b j y w) (m:EV p l c d w z k) (e:gx x y z k=.aj u q):EV p l c (.cT a b d) r u q:=(di g).trans ((di f).trans ((di m).trans e))
def EV.ay (w:EV y l c a j x q) (p:mO x k q=.aj v z):EV y l c (.ay a k) j v z:=(di w).trans p
def EV.bK (u:EV j l c a k x q) (g:lI m (eK q x)=Sp) (f:cO j l c p q r z) (w:eK z x=eK q x) (e:ei av m x r z=.aj v y):EV j l c (.bK m a p) k v y:=
 (di u).trans ((if_pos g).trans ((di f).trans ((if_pos w).trans e)))
abbrev EX (Φ:dy) (l:bo) (c:List Nat) (s:S) (σ:List O) (r:bC):Prop:=aU Φ av s l c σ=r
def EX.aw:EX z l c .aw q (.aD l q):=rfl
def EX.am (w:EX z l c s y (.aD j q)) (k:EX z j c t q r):EX z l c (.am s t) y r:=(jv w).trans k
def EX.A {Φ:dy} {l:bo} {c:List Nat} {σ a_:List O} {v:V} {s t:S} (h1:EX Φ l c s σ (.aO v a_)):EX Φ l c (.am s t) σ (.aO v a_):=congrArg (λr:bC=>r.C λl σ=>aU Φ av t l c σ) h1
def EX.B {Φ:dy} {l:bo} {c:List Nat} {σ a_:List O} {v:V} {s t:S} (h1:EX Φ l c s σ (.bh v a_)):EX Φ l c (.am s t) σ (.bh v a_):=congrArg (λr:bC=>r.C λl σ=>aU Φ av t l c σ) h1
def EX.a6 (j:EV z l c a y v q) (h:autoParam (UT (i+1) l.length=Sp) tR):EX z l c (.a6 (.ad i) a) y (.aD (l.set i v) q):=(i9 j).trans (if_pos (S2 h))
def EX.aU (j:EV z l c a y v q):EX z l c (.aU a) y (.aD l q):=i9 j
def EX.D (j:EV z l c a y (.aq Sp) q) (w:EX z l c s q r):EX z l c (.aY a s t) y r:=(i9 j).trans w
def EX.C (j:EV z l c a y (.aq Su) q) (w:EX z l c t q r):EX z l c (.aY a s t) y r:=(i9 j).trans w
def EX.aO (j:EV z l c a y v q):EX z l c (.aO a) y (.aO v q):=i9 j
def EX.ib (j:EV z l c a y v q):EX z l c (.ib a) y (.bh v q):=i9 j
noncomputable def gM:bC->R V
 | .aO v σ=>.aj v σ
 | .aD _ σ=>.aj .az σ
 | .bh t σ=>.bh t σ
 |_=>.ak
def wT (y:autoParam (Ft f=Sn q) tR) (h:autoParam (f<1000) tD):Ph (n+1) f args z=pT (Ph n) av q args z:=
 (if_pos h).trans (congrArg (λo=>match o with|some q=>pT (Ph n) av q args z|Option.none=>R.ak) y)
def wU (j:(SW (args.length<=q.b0)&&SW (q.b0-q.ca<=args.length))=Sp):pT y av q args z=gM (aU y av q.aA (gA q.cw (args++SI (q.b0-args.length) .az) (SI q.cx Option.none) (SI q.ch Option.none)).1 ((Te q.ch).map (z.length+·))
  (z++(gA q.cw (args++SI (q.b0-args.length) .az) (SI q.cx Option.none) (SI q.ch Option.none)).2.map .a9)):=if_pos j
def cj (y:gA q.cw (args++SI (q.b0-args.length) .az) (SI q.cx Option.none) (SI q.ch Option.none)=(l,[])) (j:EX (Ph n) l [] q.aA z r) (w:autoParam (Ft f=Sn q) tR) (h:autoParam (f<1000) tD) (k:autoParam ((SW (args.length<=q.b0)&&SW (q.b0-q.ca<=args.length))=Sp) tR) (p:autoParam (q.ch=0) tR):Ph (n+1) f args z=gM r:=by
 refine aa (aa ?_ (wU k)) (wT w h);refine aa (aa ?_ p) y;refine aT ?_ j;exact congrArg (λz=>gM _) (SY z)
abbrev jw (Φ:dy) (c:List Nat) (i:Nat) (body:S) (w:List Nat) (l:bo) (σ:List O) (r:bC):Prop:=
 ew (λl σ=>Internal.aU Φ av body l c σ) (λrow l σ=>dZ Φ av [.ad i] row l c σ) (λζ=>Sp) (w.map λ(k:Nat)=>[.ae k]) l σ=r
def mc (h:UT (i+1) l.length=Sp):dZ z av [.ad i] [v] l c q=.aD (l.set i v) q:=
 jv (if_pos (S2 h))
def fP (c:p g l w=.aD k j) (e:f k j=.aD m z) (t:u z=Sp) (d:ew f p u y m z=r):ew f p u (g::y) l w=r:=
 (jv c).trans ((congrArg (λq:bC=>match q with
  | .aD l w| .dR l w=>if u w then ew f p u y l w else .ak
  | .eu l w=>.aD l w
  | .aO v w=>.aO v w
  |_=>.ak) e).trans ((if_pos t).trans d))
def Lk (c:p g l w=.aD k j) (e:f k j=.dR m z) (t:u z=Sp) (d:ew f p u y m z=r):ew f p u (g::y) l w=r:=
 (jv c).trans ((congrArg (λq:bC=>match q with
  | .aD l w| .dR l w=>if u w then ew f p u y l w else .ak
  | .eu l w=>.aD l w
  | .aO v w=>.aO v w
  |_=>.ak) e).trans ((if_pos t).trans d))
def Cs (g:p r l j=.aD k z) (m:f k z=.aO v y):ew f p u (r::w) l j=.aO v y:=
 (jv g).trans (congrArg (λq:bC=>match q with
  | .aD l j| .dR l j=>if u j then ew f p u w l j else .ak
  | .eu l j=>.aD l j
  | .aO v j=>.aO v j
  |_=>.ak) m)
def jw.ao:jw z c i s [] l q (.aD l q):=rfl
def jw.aD (p:EX z (l.set i (Sn (.ae k))) c s y (.aD j q)) (u:jw z c i s w j q r) (h:autoParam (UT (i+1) l.length=Sp) tR):jw z c i s (k::w) l y r:=fP (mc h) p rfl u
def jw.aO (j:EX z (l.set i (Sn (.ae k))) c s y (.aO v q)) (h:autoParam (UT (i+1) l.length=Sp) tR):jw z c i s (k::w) l y (.aO v q):=Cs (mc h) j
def ja {f:y->V} (h:n=1) (q:List y):(q.map λx=>[f x]).all (λz=>z.length==n)=Sp:=by
 subst h;induction q with
 |nil=>rfl
 |cons x q j=>exact j
def EX.eG (f:EV p l c a k v z) (m:ej av g v z=(y,w)) (e:y.all (λj=>j.length==u.length)=Sp) (t:ew (λl k=>Internal.aU p av s l c k) (λj l k=>dZ p av u j l c k) (bn w z) y l z=r):EX p l c (.eG g u a s) k r:=
 (i9 f).trans ((congrArg (λq:Option _=>match q with
  |some (y,w)=>if y.all (λj=>j.length==u.length)then ew (λl k=>Internal.aU p av s l c k) (λj l k=>dZ p av u j l c k) (bn w z) y l z else .ak
  |Option.none=>.ak) m).trans ((if_pos e).trans t))
def EX.G (j:EV z l c a y (.ag w) q) (k:jw z c i s w l q r):EX z l c (.eG .cN [.ad i] a s) y r:=.eG j rfl (ja rfl w) k
noncomputable def Ll (c:Int) (first:Bool):Bool:=(SW (65<=c)&&SW (c<=90))||((SW (97<=c)&&SW (c<=122))||c==95)||(!first&&(SW (48<=c)&&SW (c<=57)))
end
section
noncomputable def Ct:List Nat:=[45,95,46,47,58,44,61,43,64,37,94,42,63,60,62,33,124,38,91,93,40,41,126]
noncomputable def im (c:Nat):Bool:=Ll c Su||Ct.any λd=>((d:Nat):Int)==(c:Int)
def Cu {c:Nat} (h:c<256):(SW ((0:Int)<=c)&&SW ((c:Int)<256))=Sp:=Sz.mpr ⟨decide_eq_true (TA c),decide_eq_true (Ul.mpr h)⟩
def tC {c:Nat} (h:c<256):dY av .d' (.ae c) (.ag w) q=(w.any λd=>((d):Int)==(c)):=if_pos (Cu h)
def Lm:∀w p q,(∀c∈w,c<256)->∃j k,jw (Ph (n+1)) [] 1 (.am (.a6 (.ad 2) (.or (.tr (.bR 1 (.ai (.ad 1) (.ai (.aq Su) .ao)))) (.tr (.aB .d' (.ad 1) (.cr (.ag Ct)))))) (.am (.aY (.ba .em (.ad 2)) (.am (.aO (.aq Su)) .aw) .aw) .aw)) w [Sn b,p,q] z
  (if w.all im then .aD [Sn b,j,k] z else .aO (.aq Su) z):=by
 intro Q;induction Q with
 |nil=>intro p q _;exact⟨p,q,.ao⟩
 |cons c w IH=>
  intro p q h;obtain⟨j,k,r⟩:=IH _ (Sn (.aq (im c))) λd m=>h d (.tail _ m);refine⟨j,k,?_⟩;have y:EV (Ph (n+1)) [Sn b,Sn (.ae c),q] [] (.or (.tr (.bR 1 (.ai (.ad 1) _))) (.tr (.aB .d' (.ad 1) _))) z (.aq (im c)) z:=
   .RL (.P (.bR (.ai .ad (.ai .aq .ao)) (by
    have h:∀p,_=p->EX (Ph n) _ [] yB.aA z (.aO (.aq (p||(!Su&&_))) z):=λp y=>by
     have z:EV (Ph n) [Sn (.ae (↑c)),Sn (.aq Su)] [] (.or (.tr (.eR .bY .bY (.ae 65) (.ad 0) (.ae 90))) (.or (.tr (.eR .bY .bY (.ae 97) (.ad 0) (.ae 122))) (.tr (.aB .bp (.ad 0) (.ae 95))))) z (.aq p) z:=y▸.RL (.RU .ae .ad .ae) (.RL (.RU .ae .ad .ae) (.Q .ad .ae));induction p using SX
     ·exact .am (.C z .aw) (.A (.aO (.RY (.em .ad) (.RU .ae .ad .ae))))
     ·exact .A (.D z (.A (.aO .aq)))
    exact cj rfl (h _ rfl)))) (.P (.aB .ad .cr (tC (h c (.head _)))))
  refine aa ?_ Xc;cases u:im c with
  |true=>
   rw[u]at y r;exact .aD (.am (.a6 y) (.am (.C (.em (t:=Sp) .ad) .aw) .aw)) r
  |false=>
   rw[u]at y;exact .aO (.am (.a6 y) (.A (.D (.em (t:=Su) .ad) (.A (.aO .aq)))))
def EV.RO (j:EV y l c a q x z) (h:z.length=q.length):EV y l c (.tr a) q x z:=(congrArg (fg q) j).trans (by
 show(if c8 q.length x&&gz q.length q z then R.aj x _ else .aj x z)=_;cases c8 q.length x&&gz q.length q z
 ·rfl
 ·exact congrArg (R.aj x) (aT VP h))
def bA (q z:List y) (k):(q++z)[q.length+k]?=z[k]?:=by
 induction q with
 |nil=>exact congrArg (z[·]?) (Ud k)
 |cons o q j=>exact(congrArg (λn=>_[n]?) (Nat.succ_add q.length k)).trans j
def bV {o:O}:(q++[o])[q.length]?=o:=bA q [o] 0
def hU (q z:List y) (k) (p):(q++z).set (q.length+k) p=q++z.set k p:=by
 induction q with
 |nil=>exact congrArg (λn=>z.set n p) (Ud k)
 |cons o q j=>exact(congrArg (λn=>(o::(q++z)).set n p) (Nat.succ_add q.length k)).trans (congrArg (o::·) j)
def jx {p:O}:(q++[o]).set q.length p=q++[p]:=hU q [o] 0 p
def tE {n:Nat} (h:i<n):gV (i) n=i:=(if_pos (Sz.mpr ⟨decide_eq_true (TA i),decide_eq_true (Ul.mpr h)⟩)).trans (congrArg Sn (UL i))
def bQ {w:List q} (h:w[i]?=Sn k):i<w.length:=(SO.mp h).1
def io {k:Nat} (h:w[i]?=k):jG av (.ag w) (.ae (i:Nat)) z=.aj (.ae k) z:=
 (congrArg (λq=>match q with|some i=>dh (w[i]?.map λ(c:Nat)=>V.ae c) z|none=>R.ak) (tE (bQ h))).trans (ma (congrArg (UA λ(c:Nat)=>V.ae c) h))
def Ln:dY av .d' (.ae k) (.ab y.length) (y++[.aX z])=mM (.ae k) z:=
 congrArg (λq:Option O=>match q with
   |some (.aX w)=>mM (V.ae k) w
   |some (.aE j)=>if eJ (V.ae k) j then Sn (j.any λe=>e.1==V.ae k)else none
   |_=>none) bV
def EV.Se (w:EV y l c a q (.ae k) q) (p:cO y l c j q z q) (r:mM (.ae k) z=Sn t) (u:autoParam (cR z.length=Sp) tR):EV y l c (.tr (.aB .d' a (.dO j))) q (.aq t) q:=
 .tr (.aB w (.dO p u) (Ln.trans r))
noncomputable def nB (w:List Nat):Bool:=match w with
 |[]=>Su
 |c::_=> !([37,126].contains (c:Int))&&w.all im
def Lo (u:∀c∈w,c<256):Ph (n+2) 5 [.ag w] q=.aj (.aq (nB w)) q:=by
 induction w using SD with
 |nil=>
  have h:EX (Ph (n+1)) [Sn (.ag []),none,none] [] qd.aA q _:=.A (.D (.RX (.P (.aB .ad .ag rfl))) (.A (.aO .aq)));exact cj rfl h
 |cons k w=>
  have j:∀p,[37,126].contains (k:Int)=p->EV (Ph (n+1)) [Sn (.ag (k::w)),none,none] [] (.or (.tr (.aB .bp (.ad 0) (.ag []))) (.tr (.aB .d' (.aM (.ad 0) (.ae 0)) (.dO (.ai (.ae 37) (.ai (.ae 126) .ao)))))) q (.aq p) q:=λp z=>
   .RK (.P (.aB .ad .ag rfl)) (aT (.Se (.aM .ad .ae (io rfl)) (.ai .ae (.ai .ae .ao)) rfl) z)
  obtain⟨g,l,y⟩:=Lm (k::w) none none u;unfold nB;dsimp only;cases z:[37,126].contains (k:Int)with
  |true=>
   have h:EX (Ph (n+1)) _ [] qd.aA q _:=.A (.D (j _ z) (.A (.aO .aq)));show _=_;exact cj rfl h
  |false=>
   cases r:(k::w).all im with
   |true=>
    rw[r]at y;have h:EX (Ph (n+1)) _ [] qd.aA q _:=.am (.C (j _ z) .aw) (.am (.G .ad y) (.A (.aO .aq)));show _=_;exact cj rfl h
   |false=>
    rw[r]at y;have h:EX (Ph (n+1)) _ [] qd.aA q _:=.am (.C (j _ z) .aw) (.A (.G .ad y));show _=_;exact cj rfl h
def Cv (h:q[i]?=Sn (.bE b)):eK q (.ab i)=3:=by
 show(match q[i]? with|some (.ah _)=>2|some (.bE _)=>3|some (.aE _)=>4|_=>0)=3;exact aa rfl h
def lg {q:List O}:(q.set i o).length=q.length:=SS
def Lp (p:z[i]?=Sn (.bE b)) (h:cR (b.length+k.length)=Sp):ei av .h8 (.ab i) [.ag k] z=.aj .az (z.set i (.bE (b++k))):=
 (congrArg (λq:Option O=>match q with
   |some (.ah y)=>(match V.ag k with
    | .ab j=>(match z[j]? with
     |some (.ah w)=>if i≠j/\cR (y.length+w.length)then R.aj V.az (z.set i (.ah (y++w)))else .ak
     |_=>.ak)
    |_=>.ak)
   |some (.bE l)=>(match V.ag k with| .ag k=>if cR (l.length+k.length)then R.aj V.az (z.set i (.bE (l++k)))else .ak|_=>.ak)
   |_=>.ak) p).trans (if_pos h)
def Lq {j:Nat} (w:z[i]?=Sn (.bE b)) (p:j<256) (h:cR (b.length+1)=Sp):ei av .dN (.ab i) [.ae j] z=.aj .az (z.set i (.bE (b++[j]))):=
 (congrArg (λq:Option O=>match q with
   |some (.ah y)=>if cR (y.length+1)then R.aj V.az (z.set i (.ah (y++[V.ae j])))else .ak
   |some (.bE l)=>(match V.ae j with| .ae k=>if 0<=k&&k<256&&cR (l.length+1)then R.aj V.az (z.set i (.bE (l++[k.toNat])))else .ak|_=>.ak)
   |_=>.ak) w).trans (if_pos (Sz.mpr ⟨Cu p,h⟩))
def Cw (j:z[i]?=Sn (.ah y)) (h:iw y=Sn k) (w:cR k.length=Sp):u1 av .ag (.ab i) z=.aj (.ag k) z:=
 (congrArg (λq:Option O=>match q with
   |some (.bE l)=>R.aj (V.ag l) z
   |some (.ah p)=>(match iw p with|some l=>lG l z|none=>.ak)
   |_=>.ak) j).trans ((congrArg (λq:Option (List Nat)=>match q with|some l=>lG l z|none=>.ak) h).trans (if_pos w))
def Cy (y:z[i]?=Sn (.bE b)):u1 av .ag (.ab i) z=.aj (.ag b) z:=
 congrArg (λq:Option O=>match q with
   |some (.bE l)=>R.aj (V.ag l) z
   |some (.ah j)=>(match iw j with|some l=>lG l z|none=>.ak)
   |_=>.ak) y
def EV.jb (w:cO y l c j q z q) (p:iw z=Sn k) (r:autoParam (cR k.length=Sp) tR) (u:autoParam (cR z.length=Sp) tR):EV y l c (.tr (.ba .ag (.bj j))) q (.ag k) q:=
 .tr (.ba (.bj w u) (Cw bV p r))
def EV.Sh (j:EV z l c a q (.ab i) q) (w:EV z l c e q (.ag k) q) (y:q[i]?=Sn (.bE b)) (h:cR (b.length+k.length)=Sp):
  EV z l c (.tr (.bK .h8 a (.ai e .ao))) q .az (q.set i (.bE (b++k))):=
 .RO (.bK j ((Cv y).symm▸rfl) (.ai w .ao) rfl (Lp y h)) lg
def EV.Si {j:Nat} (w:EV z l c a q (.ab i) q) (k:EV z l c e q (.ae j) q) (y:q[i]?=Sn (.bE b)) (p:j<256) (h:cR (b.length+1)=Sp):
  EV z l c (.tr (.bK .dN a (.ai e .ao))) q .az (q.set i (.bE (b++[j]))):=
 .RO (.bK w ((Cv y).symm▸rfl) (.ai k .ao) rfl (Lq y p h)) lg
def EV.Sk (y:EV z l c a (q++[.bE b]) (.ab q.length) (q++[.bE b])) (j:EV z l c e (q++[.bE b]) (.ag k) (q++[.bE b])) (h:cR (b.length+k.length)=Sp):
  EV z l c (.tr (.bK .h8 a (.ai e .ao))) (q++[.bE b]) .az (q++[.bE (b++k)]):=(EV.Sh y j bV h).trans (congrArg _ jx)
noncomputable def fw (c:Nat):List Nat:=if[34,36,92].contains (c:Int)then[92,c]else if SW ((c:Int)<32)||(c:Int)==127 then[92,48+c/64,48+c/8%8,48+c%8]else[c]
noncomputable def eU (w:List Nat):List Nat:=if nB w then w else[34]++w.flatMap fw++[34]
def wV (c):(fw c).length<=4:=by
 unfold fw;generalize[34,36,92].contains (c:Int)=p;generalize(SW ((c:Int)<32)||(c:Int)==127)=q;induction p using SX
 ·induction q using SX
  ·exact S2 rfl
  ·exact S2 rfl
 ·exact S2 rfl
def wW (w:List Nat):(w.flatMap fw).length<=4*w.length:=by
 induction w with
 |nil=>exact SJ _
 |cons c w q=>
  refine aa (aa ?_ Sr) Uz;refine aa ?_ (TH _ _);exact Up q (wV c)
def Lr:∀c:Nat,c<256->iw [.ae 92,.ae (c)]=Sn [92,c]:=by decide+kernel
def Ls:∀c:Nat,c<256->iw [.ae 92,.ae (48+(c:Int).fdiv 64),.ae (48+((c:Int).fdiv 8).fmod 8),.ae (48+(c:Int).fmod 8)]=Sn [92,48+c/64,48+c/8%8,48+c%8]:=by decide+kernel
def et (h:n<=1048576):cR n=Sp:=decide_eq_true h
def tF (h:a+4*(w+1)<=1048576) (e:k<=4):a+k<=1048576:=Sq (SH _ _) (mG h e)
def tG {x:List Nat} (h:b.length+4*(w+1)<=1048576) (e:x.length<=4):(b++x).length<=1048576:=Sq (To Sr) (tF h e)
def Cz {y:List Nat} (h:b.length+4*(w+1)<=1048576) (e:(x++y).length<=4):(b++x++y).length<=1048576:=Sq (To (congrArg _ (Ss b x y))) (tG h e)
noncomputable abbrev Lu:S:=si.aA.bs.bs.fW.fW
def EV.bX (y:EV z l c a q (.ae i) q) (w:EV z l c e q (.ae j) q):EV z l c (.tr (.aB .bX a e)) q (.aq (SW (i<j))) q:=.E y w rfl
def Lv {σ} {n} {u}:∀(w) (b) (p:Option V),(∀c∈w,c<256)->b.length+4*w.length<=1048576->∃p',jw (Ph n) [] 2 Lu w [Sn u,Sn (.ab σ.length),p] (σ++[.bE b]) (.aD [Sn u,Sn (.ab σ.length),p'] (σ++[.bE (b++w.flatMap fw)])):=by
 intro Q;induction Q with
 |nil=>intro b p _ _;exact⟨p,by refine aa ?_ Yz;refine aa ?_ (SY _);exact .ao⟩
 |cons i w IH=>
  intro b p h hb;have h4:=wV i;rw[TS]at hb;obtain⟨p',ih⟩:=IH (b++fw i) (Sn (.ae i)) (λd m=>h d (.tail _ m)) (by refine aa ?_ Sr;exact mG hb h4);refine⟨p',?_⟩;refine aa ?_ Uz;refine aT ?_ (Ss _ _ _);have hi:=h i (.head _);refine .aD ?_ ih;unfold fw;have h1:EV (Ph n) [Sn u,Sn (.ab σ.length),Sn (.ae i)] [] (.tr (.aB .d' (.ad 2) _)) (σ++[.bE b]) (.aq ([34,36,92].contains (i:Int))) (σ++[.bE b]):=.Se .ad (.ai .ae (.ai .ae (.ai .ae .ao))) rfl
  cases hp:[34,36,92].contains (i:Int)with
  |true=>
   rw[hp]at h1;exact .am (.D h1 (.am (.aU (.Sk .ad (.jb (.ai .ae (.ai .ad .ao)) (Lr i hi)) (et (tF hb (S2 rfl))))) .aw)) .aw
  |false=>
   rw[hp]at h1;have h2:EV (Ph n) [Sn u,Sn (.ab σ.length),Sn (.ae i)] [] (.or (.tr (.aB .bX (.ad 2) (.ae 32))) (.tr (.aB .bp (.ad 2) (.ae 127)))) (σ++[.bE b]) _ (σ++[.bE b]):=.RL (.bX .ad .ae) (.Q .ad .ae);cases hq:(SW ((i:Int)<32)||(i:Int)==127)with
   |true=>
    rw[hq]at h2;exact .am (.C h1 (.am (.D h2 (.am (.aU (.Sk .ad (.jb (.ai .ae (.ai (.aV .ae (.aV .ad .ae rfl) rfl) (.ai (.aV .ae (.aV (.aV .ad .ae rfl) .ae rfl) rfl) (.ai (.aV .ae (.aV .ad .ae rfl) rfl) .ao)))) (Ls i hi)) (et (tF hb (S2 rfl))))) .aw)) .aw)) .aw
   |false=>
    rw[hq]at h2;exact .am (.C h1 (.am (.C h2 (.am (.aU ((EV.Si .ad .ad bV hi (et (tF hb (by decide)))).trans (congrArg _ jx))) .aw)) .aw)) .aw
def EV.RZ (w:EV y l c a j (.ag b) q) (p:EV y l c e q (.ag k) z) (h:cR (b++k).length=Sp):EV y l c (.aV .bB a e) j (.ag (b++k)) z:=.aV w p (if_pos h)
def CA (y:∀c∈w,c<256) (u:w.length<=100000):∃k,Ph (n+3) 6 [.ag w] q=.aj (.ag (eU w)) (q++k):=by
 have z:EV (Ph (n+2)) [Sn (.ag w),none,none] [] (.tr (.bR 5 (.ai (.ad 0) .ao))) q _ q:=.P (.bR (.ai .ad .ao) (Lo y));unfold eU;cases j:nB w with
 |true=>
  rw[j]at z;have h:EX _ _ [] si.aA q _:=.A (.D z (.A (.aO .ad)));exact⟨[],(aa (cj rfl h) (SY _))⟩
 |false=>
  rw[j]at z;obtain⟨g,p⟩:=Lv w [34] none y (a5 (SF (TM 4 u) 1) rfl);have r:=wW w;have h:EX _ _ [] si.aA q _:=
   .am (.C z .aw) (.am (.a6 (.ba .ag rfl)) (.am (.G .ad p) (.A (.aO (.RZ (.P (.ba .ad (Cy bV))) .ag (et (by refine aa (aa ?_ Sr) Sr;exact a5 (TU (SF (Sq r (TM 4 u)) 1) 1) rfl)))))))
  exact⟨_,cj rfl h⟩
def EV.RR (w:cO z l c y q j q) (p:z f j q=.aj v (q++k)) (h:autoParam (c8 q.length v=Sp) tR):EV z l c (.tr (.bR f y)) q v q:=.tr (.bR w p) h
def CB (h:∀i,q=Sn i->i<z.length):bn q z (z++y)=Sp:=by
 induction q using Tr with
 |none=>rfl
 |some i=>exact beq_iff_eq.mpr (SM (h i rfl))
def pe (e:mS u r l=Sn k) (t:g k c=.aj (.aq Sp) w) (d:f k w=.aj v z) (s:z[j]?=Sn (.ah m)) (o:(cR (m.length+1)&&p (z.set j (.ah (m++[v]))))=Sp):fI av f g p u j (r::y) l c=fI av f g p u j y k (z.set j (.ah (m++[v]))):=by
 refine(congrArg (λq:Option bo=>match q with|none=>R.ak|some k=>j2 f g p j (fI av f g p u j y k) k c) e).trans ?_;show j2 f g p j _ k c=_;delta j2 pR;refine aa ?_ t;dsimp only;refine aa ?_ d;dsimp only;exact aa (if_pos o) s
def Lw (m:mS r p l=Sn w) (c:g w u=.aj (.aq Su) z) (e:k z=Sp):fI av f g k r j (p::y) l u=fI av f g k r j y w z:=by
 refine(congrArg (λq:Option bo=>match q with|none=>R.ak|some w=>j2 f g k j (fI av f g k r j y w) w u) m).trans ?_;show j2 f g k j _ w u=_;unfold j2;exact aa (if_pos e) c
def Lx {u} (b:∀i,r=Sn i->i<k.length) (w:List V):∀(j:List V) (q:Option V),(∀x∈w,∀j,EV d [none,Sn x] s u (k++[.ah j]) (.aq (p x)) (k++[.ah j]))->(∀x∈w,p x=Sp->∀j,EV d [none,Sn x] s g (k++[.ah j]) (e x) (k++[.ah j]))->j.length+w.length<=1048576->
  fI av (λl k=>ev d av g l s k) (λl k=>ev d av u l s k) (bn r k) [1] k.length (w.map λx=>[x]) [none,q] (k++[.ah j])=.aj (.ab k.length) (k++[.ah (j++(w.filter p).map e)]):=by
 induction w with
 |nil=>exact λj q v v v=>congrArg (λz=>R.aj (V.ab k.length) (k++[O.ah z])) (SY j).symm
 |cons x w n=>
  intro j q h a Q;have o:=h x (.head _) j;have f:=λy m=>h y (.tail _ m);have c:=λy m=>a y (.tail _ m);rw[TS]at Q;cases t:p x with
  |true=>
   rw[t]at o;refine(pe (k:=[none,Sn x]) rfl o (a x (.head _) t j) bV (Sz.mpr ⟨et (Sq (SE (SH _ _)) Q),(congrArg (bn r k) jx).trans (CB b)⟩)).trans ?_;refine aa ?_ jx;refine aa ?_ (n (j++[e x]) x f c (by rw[Sr];show j.length+1+_<=_;exact Un _ 1 _▸Q));refine aa ?_ (List.filter_cons_of_pos t);refine aS ?_ (Ss _ _ _) Tz;rfl
  |false=>
   rw[t]at o;refine(Lw (w:=[none,Sn x]) rfl o (CB b)).trans ?_;refine aa ?_ (n j x f c (UB Q));exact aa rfl (List.filter_cons_of_neg (t▸Tw))
def EV.RI {K} {G:List V} (j:EV N l c L z v F) (w:ej av y v F=(G.map λx=>[x],I)) (k:∀i,I=Sn i->i<F.length) (r:J.mapM (c[·]?)=Sn q) (u:∀x∈G,∀H,EV N [Option.none,Sn x] q K (F++[.ah H]) (.aq (p x)) (F++[.ah H])) (g:∀x∈G,p x=Sp->∀H,EV N [Option.none,Sn x] q M (F++[.ah H]) (e x) (F++[.ah H])) (f:G.length<=1048576):
  EV N l c (.dp M K y L 2 [1] J) z (.ab F.length) (F++[.ah ((G.filter p).map e)]):=(di j).trans (aS (Lx k G [] Option.none u g ((Ud _).symm▸f)) r w)
def CC:ej av .cN (.ag w) q=Sn ((w.map λ(k:Nat)=>V.ae k).map λx=>[x],none):=congrArg (λz=>Sn (z,none)) (Tp (g:=λx=>[x])).symm
def lh (w:q[i]?=Sn (.ah z)) (k:q[j]?=Sn (.ah y)) (p:i≠j):dY av .bp (.ab i) (.ab j) q=if z.length=y.length then fC (cV q gw) z y else Sn Su:=(if_neg p).trans (aS rfl k w)
def Ly:dY av .bp (.ab q.length) (.ab (q.length+1)) (q++[.ah z]++[.ah []])=(z.isEmpty):=by
 refine aa ?_ (Ss _ _ _);refine(lh (bA q _ 0) (bA q _ 1) (SQ (Td _))).trans ?_;induction z using SD<;>rfl
def CE (j:gA z.cw (args++SI (z.b0-args.length) .az) (SI z.cx none) (SI z.ch none)=(l,[q])) (w:EX (Ph n) l [y.length] z.aA (y++[.a9 q]) r) (k:autoParam (Ft f=Sn z) tR) (h:autoParam (f<1000) tD) (p:autoParam ((SW (args.length<=z.b0)&&SW (z.b0-z.ca<=args.length))=Sp) tR) (u:autoParam (z.ch=1) tR):Ph (n+1) f args y=gM r:=by
 refine aa (aa ?_ (wU p)) (wT k h);refine aa (aa ?_ u) j;refine aT ?_ w;rfl
def EX.H (k:EV y l c a w v z) (p:c[i]?=Sn j) (r:z[j]?=Sn (.a9 q)):EX y l c (.a6 (.aW i) a) w (.aD l (z.set j (.a9 v))):=by
 refine(i9 k).trans ?_;delta eL;dsimp only;refine aa ?_ p;dsimp only;exact aa rfl r
def EV.aW (z:q[j]?=Sn (.a9 v)) (y:autoParam (c[i]?=Sn j) tR):EV w l c (.aW i) q v q:=by
 show(match c[i]? with|some j=>(match q[j]? with|some (.a9 v)=>dh v q|_=>.ak)|Option.none=>.ak)=_;refine aa ?_ y;dsimp only;refine aa ?_ z;rfl
def wX {i:Nat} (h:i<256):dY av .gh (.ae i) (.ag w) q=(!(w.any λd=>((d):Int)==(i))):=congrArg (UA not) (tC (q:=q) h)
noncomputable def md (w:List Nat) (i:Nat):Bool:=w.any λd=>((d:Nat):Int)==(i:Int)
def Lz:∀i,i<256->md [34,36,92] i=[34,36,92].contains (i:Int):=by decide+kernel
def wY:∀c:Nat,c<256->iw [.ae (c)]=Sn [c]:=by decide+kernel
def LA:∀c:Nat,c<256->iw [.ae (48+(c:Int).fdiv 64),.ae (48+((c:Int).fdiv 8).fmod 8),.ae (48+(c:Int).fmod 8)]=Sn [48+c/64,48+c/8%8,48+c%8]:=by decide+kernel
noncomputable abbrev LB:S:=sm.aA.bs.bs.bs.fW.fW
def LD {σ} {n} {u} {c}:∀w b p,(∀c∈w,c<256)->b.length+4*w.length<=1048576->∃p',jw (Ph n) c 1 LB w [Sn u,p,Sn (.ag b)] σ (.aD [Sn u,p',Sn (.ag (b++w.flatMap fw))] σ):=by
 intro Q;induction Q with
 |nil=>intro b p _ _;exact⟨p,aa (aa .ao (SY _)) Yz⟩
 |cons i w IH=>
  intro b p h hb;replace hb:=TS▸hb;obtain⟨p',ih⟩:=IH (b++fw i) _ (λd m=>h d (.tail _ m)) (aa (mG hb (wV i)) Sr);refine⟨p',?_⟩;refine aa (aT ?_ (Ss _ _ _)) Uz;have hi:=h i (.head _);refine .aD ?_ ih;have h1:EV (Ph n) [Sn u,Sn (.ae i),Sn (.ag b)] c (.tr (.aB .d' (.ad 1) _)) σ (.aq (md [34,36,92] i)) σ:=.P (.aB .ad .ag (tC hi));rw[Lz i hi]at h1;unfold fw;cases hp:[34,36,92].contains (i:Int)with
  |true=>
   rw[hp]at h1;exact aa (aa (.am (.D h1 (.am (.a6 (.RZ (.RZ .ad .ag (et (tG hb (S2 rfl)))) (.jb (.ai .ad .ao) (wY i hi)) (et (Cz hb (S2 rfl))))) .aw)) .aw) (show b++[92,i]=b++[92]++[i]from by simp)) (if_pos rfl)
  |false=>
   rw[hp]at h1;refine aa ?_ (if_neg (by decide));have h2:EV (Ph n) [Sn u,Sn (.ae i),Sn (.ag b)] c (.or (.tr (.aB .bX (.ad 1) (.ae 32))) (.tr (.aB .bp (.ad 1) (.ae 127)))) σ _ σ:=.RL (.bX .ad .ae) (.Q .ad .ae);cases hq:(SW ((i:Int)<32)||(i:Int)==127)with
   |true=>
    rw[hq]at h2;exact aa (aa (.am (.C h1 (.am (.D h2 (.am (.a6 (.RZ (.RZ .ad .ag (et (tG hb (S2 rfl)))) (.jb (.ai (.aV .ae (.aV .ad .ae rfl) rfl) (.ai (.aV .ae (.aV (.aV .ad .ae rfl) .ae rfl) rfl) (.ai (.aV .ae (.aV .ad .ae rfl) rfl) .ao))) (LA i hi)) (et (Cz hb (S2 rfl))))) .aw)) .aw)) .aw) (show b++_=b++[92]++[48+i/64,48+i/8%8,48+i%8]from(Ss _ _ _).symm)) (if_pos rfl)
   |false=>
    rw[hq]at h2;exact aa (.am (.C h1 (.am (.C h2 (.am (.a6 (.RZ .ad (.jb (.ai .ad .ao) (wY i hi)) (et (tG hb (S2 rfl))))) .aw)) .aw)) .aw) (if_neg (by decide))
noncomputable abbrev iU:List Nat:=[97,98,99,100,101,102,103,104,105,106,107,108,109,110,111,112,113,114,115,116,117,118,119,120,121,122,65,66,67,68,69,70,71,72,73,74,75,76,77,78,79,80,81,82,83,84,85,86,87,88,89,90,48,49,50,51,52,53,54,55,56,57,95,45,95,46,47,58,44,61,43,64,37,94,42,63,60,62,33,124,38,91,93,40,41,126]
noncomputable def me (x:V):Bool:=match x with| .ae i=> !(iU.any λd=>((d:Nat):Int)==i)|_=>Su
noncomputable def tH (w:List Nat):Bool:=match w with
 |[]=>Su
 |i::_=> !(md [37,126] i)&&(((w.map λ(k:Nat)=>V.ae k).filter me).map id).isEmpty
noncomputable def pf (w:List Nat):List Nat:=if tH w then w else[34]++w.flatMap fw++[34]
def EV.RN (j:EV y l c a z (.ag b) q) (w:EV y l c e q (.ag k) z):EV y l c (.tr (.aB .bM a e)) z (.aq (!(b==k))) z:=.P (.aB j w rfl)
def LE:A++[x]++[y]=A++[x,y]:=(Ss _ _ _)
def LF (p:∀c∈i::w,c<256) (e:(i::w).length<=100000):EV (Ph n) [Sn (.ag (i::w)),q,r] [z.length] (.tr (.aB .bp (.dp (.ad 1) (.tr (.aB .gh (.ad 1) (.aW 0))) .cN (.ad 0) 2 [1] [0]) (.bj .ao))) (z++[.a9 (Sn (.ag iU))])
  (.aq (((((i::w).map λ(k:Nat)=>V.ae k).filter me).map id).isEmpty)) (z++[.a9 (Sn (.ag iU))]):=by
 have u:EV (Ph n) [Sn (.ag (i::w)),q,r] [z.length] (.dp (.ad 1) (.tr (.aB .gh (.ad 1) (.aW 0))) .cN (.ad 0) 2 [1] [0]) (z++[.a9 (Sn (.ag iU))]) (.ab (z++[O.a9 (Sn (.ag iU))]).length)
   ((z++[.a9 (Sn (.ag iU))])++[.ah ((((i::w).map λ(k:Nat)=>V.ae k).filter me).map id)]):=
  .RI .ad CC (λi h=>nomatch h) (q:=[z.length]) rfl (λx m y=>by
   refine cW m λj g e0=>?_;subst e0;exact .P (.aB .ad (.aW (j:=z.length) (by simp)) (wX (p j g)))) (λx m t y=>.ad) (by refine aa ?_ (Sx _);exact a5 e rfl)
 have f:EV (Ph n) [Sn (.ag (i::w)),q,r] [z.length] (.bj .ao) ((z++[.a9 (Sn (.ag iU))])++[.ah ((((i::w).map λ(k:Nat)=>V.ae k).filter me).map id)]) (.ab ((z++[O.a9 (Sn (.ag iU))]).length+1))
   (((z++[.a9 (Sn (.ag iU))])++[.ah ((((i::w).map λ(k:Nat)=>V.ae k).filter me).map id)])++[.ah []]):=by
  have:=EV.bj (y:=Ph n) (l:=[Sn (.ag (i::w)),q,r]) (c:=[z.length]) (w:=(z++[.a9 (Sn (.ag iU))])++[.ah ((((i::w).map λ(k:Nat)=>V.ae k).filter me).map id)]) cO.ao;rw[Sr]at this;exact this
 have:=EV.aB u f Ly;rw[LE]at this;exact .tr this rfl
def CF (j:∀c∈w,c<256) (g:w.length<=100000):∃f,Ph (n+1) 23 [.ag w] y=.aj (.ag (pf w)) (y++f):=by
 let z:=y++[O.a9 (Sn (.ag iU))]
 have k:EX (Ph n) [Sn (.ag w),none,none] [y.length] (.a6 (.aW 0) (.ag iU)) (y++[.a9 none]) (.aD [Sn (.ag w),none,none] z):=by
  have:=EX.H (y:=Ph n) (l:=[Sn (.ag w),none,none]) (c:=[y.length]) (i:=0) (q:=none) (EV.ag (i:=iU)) rfl (z:=y++[.a9 none]) (bV)
  rwa [jx]at this
 have r:∀p,tH w=p->EV (Ph n) [Sn (.ag w),none,none] [y.length] (.and (.tr (.aB .bM (.ad 0) (.ag []))) (.and (.tr (.aB .gh (.aM (.ad 0) (.ae 0)) (.ag [37,126]))) _)) z (.aq p) z:=λp m=>by
  subst m;induction w using SD with
  |nil=>
   have h:EV (Ph n) [Sn (.ag []),none,none] [y.length] (.tr (.aB .bM (.ad 0) (.ag []))) z (.aq (!([]==[]))) z:=.RN .ad .ag;exact .RG h
  |cons i w=>
   have h:EV (Ph n) [Sn (.ag (i::w)),none,none] [y.length] (.tr (.aB .bM (.ad 0) (.ag []))) z (.aq (!((i::w)==[]))) z:=.RN .ad .ag;exact .and h (.RY (.P (.aB (.aM .ad .ae (io rfl)) .ag (wX (j i (.head _))))) (LF j g))
 unfold pf;cases u:tH w with
 |true=>
  have h:EX (Ph n) [Sn (.ag w),none,none] [y.length] sm.aA (y++[.a9 none]) (.aO (.ag w) z):=.am k (.A (.D (r _ u) (.A (.aO .ad))));exact⟨_,CE rfl h⟩
 |false=>
  obtain⟨s,t⟩:=LD w [34] none j (a5 (SF (TM 4 (by assumption)) 1) rfl);have d:=wW w;have h:EX (Ph n) [Sn (.ag w),none,none] [y.length] sm.aA (y++[.a9 none]) _:=
   .am k (.am (.C (r _ u) .aw) (.am (.a6 .ag) (.am (.G .ad t) (.A (.aO (.RZ .ad .ag (et (by refine aa (aa ?_ Sr) Sr;exact a5 (TU (SF (Sq d (TM 4 (by assumption))) 1) 1) rfl))))))))
  exact⟨_,CE rfl h⟩
def LG:∀c,c<256->im c=iU.any λd=>((d):Int)==(c):=by decide+kernel
def LH:∀c:Nat,c<256->[37,126].contains (c:Int)=md [37,126] c:=by decide+kernel
def LJ:∀w:List Nat,(∀c∈w,c<256)->w.all im=(((w.map λ(k:Nat)=>V.ae k).filter me).map id).isEmpty:=by
 intro Q;induction Q with
 |nil=>intro _;exact rfl
 |cons c w IH=>
  intro h;have e:me (.ae c)=!im c:=by refine aa ?_ (LG c (h c (.head _)));rfl
  refine aS ?_ Tz Xc;refine aa (aa ?_ e) Yy;refine aa ?_ (IH λd m=>h d (.tail _ m));cases im c<;>rfl
def LK (h:∀c∈w,c<256):eU w=pf w:=by
 unfold eU pf;have:nB w=tH w:=by
  induction w using SD with
  |nil=>rfl
  |cons c w=>
   show(!([37,126].contains (c:Int))&&(c::w).all im)=_;exact aS rfl (LJ (c::w) h) (LH c (h c (.head _)))
 exact aa rfl this
def fo (σ:List O) (i c:Nat) (fs:List (Nat×V)):Prop:=∃d,σ[i]?=Sn (.a8 c d)/\σ[d]?=Sn (.aL fs)
def aC {i:Nat} {z:List O} (h:q[i]?=Sn o):(q++z)[i]?=Sn o:=(SM (bQ h)).trans h
theorem fo.A:fo z i c q->fo (z++y) i c q
 |⟨d,j,w⟩=>⟨d,aC j,aC w⟩
def gq (j:z[i]?=Sn (.a8 q d)) (w:z[d]?=Sn (.aL y)) (p:y.lookup k=Sn v):mO (.ab i) k z=.aj v z:=by
 delta mO;dsimp only;refine aa ?_ j;dsimp only;exact aa (ma p) w
def EV.at (p:EV j l c a w (.ab i) z) (r:fo z i q y) (u:autoParam (y.lookup k=Sn v) tR):EV j l c (.ay a k) w v z:=by
 refine aP r λd g f=>?_;exact .ay p (gq g f u)
def jP (h:z[i]?=Sn (.ah q)):ej av .cN (.ab i) z=(q.map λx=>[x],Sn i):=by
 delta ej;dsimp only;exact aa rfl h
def wZ:∀q:List (List Nat),ig (q.map .ag)=q:=by
 intro Q;induction Q with
 |nil=>exact rfl
 |cons w q IH=>refine aa ?_ Tz;rewrite[Ee];refine aa ?_ (IH);rfl
def CG (h:z[i]?=Sn (.ah y)) (w:ig y=Sn j) (k:cR (fp q j).length=Sp):ei av .mI (.ag q) [.ab i] z=.aj (.ag (fp q j)) z:=by
 delta ei;dsimp only;refine aa ?_ h;dsimp only;exact aa (if_pos k) w
def LL (y:∀c∈w,c<256) (j:w.length<=100000):∃z,Ph (n+4) 7 [.ag w] q=.aj (.ag (eU w)) (q++z):=by
 obtain⟨z,k⟩:=CA y j;have p:EV (Ph (n+3)) [Sn (.ag w)] [] (.tr (.ba .gS (.ad 0))) q _ q:=.P (.ba .ad rfl);have h:EX _ _ [] yC.aA q _:=.am (.C p .aw) (.A (.aO (.RR (.ai .ad .ao) k)));exact⟨[],by refine aa (cj rfl h) (SY _)⟩
def LM (ws:List (List Nat)):Prop:=∀w∈ws,(∀c∈w,c<256)/\w.length<=10
noncomputable def CH:V->V
 | .ag w=>.ag (eU w)
 |v=>v
def mf {q:List V}:q.filter (λz=>Sp)=q:=List.filter_eq_self.mpr λz z=>rfl
def LN (t:fo y i q r) (d:r.lookup 2=Sn (.ab p)) (u:y[p]?=Sn (.ah (z.map .ag))) (g:LM z) (v:z.length<=10) (s:cR (fp [32] (z.map eU)).length=Sp):
  ∃l,Ph (n+5) 8 [.ab i] y=.aj (.ag (fp [32] (z.map eU))) (y++l):=by
 have f:EV (Ph (n+4)) [Sn (.ab i)] [] (.dp (.tr (.bR 7 (.ai (.ad 1) .ao))) (.aq Sp) .cN (.ay (.ad 0) 2) 2 [1] []) y _ (y++[.ah (((z.map V.ag).filter λo=>Sp).map CH)]):=
  .RI (.at .ad t d) (jP u) (λj e=>by replace e:=Sv e;subst e;exact(SO.mp u).1) (q:=[]) rfl (λx m k=>.aq) (λx m o k=>by
   refine cW m λw c e0=>?_;subst e0;obtain⟨l,h⟩:=LL (g w c).1 (a5 (g w c).2 rfl);exact .RR (.ai .ad .ao) h) (by refine aa ?_ (Sx _);exact a5 v rfl)
 have e:(z.map V.ag).map CH=(z.map eU).map V.ag:=by refine aS ?_ Tp Tp;rfl
 rw[mf,e]at f;have h:EX _ _ [] yD.aA y _:=.A (.aO (.tr (.bK .ag rfl (.ai f .ao) rfl (CG bV (wZ _) s))));exact⟨[],by refine aa (cj rfl h) (SY _)⟩
def EX.N (h:EV p l c a k v q) (g:EV p l c r q x z) (f:EV p l c u z y j) (m:oh x y v j=Sn w):EX p l c (.a6 (.aM r u) a) k (.aD l w):=by
 refine(i9 h).trans ?_;delta eL;dsimp only;refine aa ?_ g;dsimp only;refine aa ?_ f;dsimp only;exact aa rfl m
def pg (h:z[i]?=Sn (.ah q)) (y:q[k]?=Sn v):jG av (.ab i) (.ae (k:Nat)) z=.aj v z:=by
 show(match z[i]? with|some (.ah q)=>(match gV k q.length with|some i=>dh q[i]? z|Option.none=>R.ak)|some (.aX q)=>(match gV k q.length with|some i=>dh q[i]? z|Option.none=>.ak)|some (.aE j)=>if eJ _ j then dh _ z else .ak|_=>.ak)=_;refine aa ?_ h;dsimp only;exact aa (ma y) (tE (bQ y))
def EV.RT (w:EV y l c a j (.ab i) q) (h:q[i]?=Sn (.ah z)) (p:autoParam (z[k]?=Sn v) tR):EV y l c (.aM a (.ae (k:Nat))) j v q:=.aM w .ae (pg h p)
def EV.D (k:EV y l c a j (.aq Sp) q) (p:EV y l c w q v z):EV y l c (.aY a w e) j v z:=(di k).trans p
def EV.C (w:EV y l c a j (.aq Su) q) (k:EV y l c e q v z):EV y l c (.aY a p e) j v z:=(di w).trans k
def LO (h:q[i]?=Sn (.ah z)):u1 av .bd (.ab i) q=.aj (.ae (z.length:Nat)) q:=by
 show(match q[i]? with|some (.ah z)=>R.aj _ q|some (.aX z)=>.aj _ q|_=>.ak)=_;exact aa rfl h
def dH {q:List O} (h:q[i]?=Sn o):(q.set i p)[i]?=p:=List.getElem?_set_self (bQ h)
def eB {q:List O} (h:i≠j) (z:q[j]?=Sn o):(q.set i p)[j]?=Sn o:=(Ti h).trans z
def EV.RD (j:EV y l c a q (.ab i) q) (h:q[i]?=Sn (.ah z)):EV y l c (.tr (.ba .bd a)) q (.ae (z.length:Nat)) q:=.P (.ba j (LO h))
structure eC (σ:List O) (t j k:Nat) (L:List Int):Prop where
 fy:σ[t]?=Sn (.ah [.ab j,.ae (k:Nat)])
 nE:σ[j]?=Sn (.ah (L.map V.ae))
 bM:j≠t
noncomputable def iV (L:List Int) (k:Nat) (n:Int):Int:=if k<L.length then(L[k]?.getD 0).fmod n else 0
def LP (h:0<n):0<=iV L k n/\iV L k n<n:=by
 unfold iV
 split
 ·exact⟨Int.fmod_nonneg_of_pos _ h,Int.fmod_lt_of_pos _ h⟩
 ·exact⟨Int.le_refl _,h⟩
def mh (T:eC z t j k L) (p:0<m):Ph (n+1) 16 [.ab t,.ae m] z=.aj (.ae (iV L k m)) (z.set t (.ah [.ab j,.ae ((k+1:Nat):Int)])):=by
 have l:=(SO.mp T.fy).1;let S:=z.set t (.ah [.ab j,.ae ((k+1:Nat):Int)])
 have y:S[t]?=_:=dH T.fy;have w:S[j]?=_:=eB (UC T.bM) T.nE;have q:EV (Ph n) [Sn (.ab t),Sn (.ae m)] [] (.tr (.aB .bY (.aM (.ad 0) (.ae 1)) (.tr (.ba .bd (.aM (.ad 0) (.ae 0)))))) S _ S:=
  .bY (.RT .ad y) (.RD (.RT .ad y) w)
 have u:EV (Ph n) [Sn (.ab t),Sn (.ae m)] [] (.aY (.tr (.aB .bY (.aM (.ad 0) (.ae 1)) (.tr (.ba .bd (.aM (.ad 0) (.ae 0)))))) (.aV .iN (.aM (.aM (.ad 0) (.ae 0)) (.aV .fS (.aM (.ad 0) (.ae 1)) (.ae 1))) (.ad 1)) (.ae 0)) S (.ae (iV L k m)) S:=by
  unfold iV;by_cases h:k<L.length
  ·rw[show SW _=Sp from decide_eq_true (by refine aa ?_ (Sx _);exact T7.mpr h)]at q
   refine aa ?_ (if_pos h);have g:(L.map V.ae)[k]?=Sn (.ae (L[k]?.getD 0)):=by refine aa (aa ?_ (S0 h)) Ut;rfl
   refine .D q (.aV (x:=.ae (L[k]?.getD 0)) (j:=S) (.aM (.RT .ad y) (.aV (.RT .ad y) .ae rfl) ?_) .ad ?_)
   ·exact aa (pg w g) (show(_:Int)-1=(k:Nat)from Int.add_sub_cancel _ _)
   ·exact if_pos (bne_iff_ne.mpr (Int.ne_of_gt p))
  ·rw[show SW _=Su from decide_eq_false (by refine aa ?_ (Sx _);exact λe=>h (T7.mp e))]at q
   exact aa (.C q .ae) (if_neg h)
 have h:EX (Ph n) _ [] yF.aA z _:=.am (.N (.aV (.RT .ad T.fy) .ae rfl) .ad .ae (by
  delta oh;dsimp only;exact aa (if_pos rfl) T.fy)) (.A (.aO u))
 exact cj rfl h
structure jQ (σ c_:List O):Prop where
 bd:c_.length=σ.length
 dS:∀(i:Nat) (o:O),c_[i]?=Sn o->σ[i]?=Sn o∨jH σ.length o=Sp
def jQ.E:jQ q q:=⟨rfl,λz z h=>.inl h⟩
def jQ.B (h:jQ w y) (k:jH w.length o=Sp):jQ w (y.set i o):=by
 refine⟨by refine aa ?_ SS;exact h.bd,λj p e=>?_⟩;by_cases q:i=j
 ·subst q
  rw[Vq]at e;cases z:y[i]? with
  |none=>rw[z]at e;exact aG e
  |some _=>rw[z]at e;replace e:=Sv e;subst e;exact .inr k
 ·rw[Ti q]at e;exact h.dS j p e
def LR {τ} {n}:∀{σ c_:List O},c_.length=σ.length->(∀(i:Nat) o,c_[i]?=Sn o->σ[i]?=o∨jH n o=Sp)->gz n σ (c_++τ)=Sp:=by
 intro s;induction s with
 |nil=>intro _ _ _;rfl
 |cons o s IH=>
  intro t h f;induction t using SD with
  |nil=>cases h
  |cons p t=>exact Sz.mpr ⟨TZ.mpr ((f 0 p rfl).imp (λq=>beq_iff_eq.mpr (Sv q)) id),IH (U6 h) λi q e=>f (i+1) q e⟩
def EV.Sl (w:EV j l c a z x (q++k)) (y:jQ z q) (h:autoParam (c8 z.length x=Sp) tR):EV j l c (.tr a) z x q:=(congrArg (fg z) w).trans ((tB h (LR y.bd y.dS)).trans (congrArg (R.aj x) (aT W0 y.bd)))
def mi (j:ev y av a l c z=.bh x q):ev y av (.tr a) l c z=.bh x q:=congrArg (fg z) j
abbrev WL (Φ:dy) (c:List Nat) (cond:X) (body:S) (k:Nat) (l:bo) (σ:List O) (r:bC):Prop:=∀n,k<=n->mT (λl σ=>aU Φ av body l c σ) (λl σ=>ev Φ av cond l c σ) n l σ=r
def WL.a {z} (h:EV j l c z w (.aq Su) q):WL j c z y 1 l w (.aD l q):=λn k=>by
 cases n with
 |zero=>cases k
 |succ n=>exact i9 h
def WL.RB {y} (h:EV p l c y z (.aq Sp) w) (g:EX p l c j w q) (f:∀n,k<=n->(match(generalizing:=false) q with
   | .aD l z| .dR l z=>mT (λl z=>aU p av j l c z) (λl z=>ev p av y l c z) n l z
   | .eu l z=>.aD l z
   |r=>r)=r):WL p c y j (k+1) l z r:=λn u=>by
 cases n with
 |zero=>cases u
 |succ n=>exact(i9 h).trans ((congrArg (λq:bC=>match q with
   | .aD l z| .dR l z=>mT (λl z=>aU p av j l c z) (λl z=>ev p av y l c z) n l z
   | .eu l z=>.aD l z
   |r=>r) g).trans (f n (Xa u)))
def WL.aD {q} (h:EV w l c q p (.aq Sp) z) (g:EX w l c y z (.aD u j)) (f:WL w c q y k u j r):WL w c q y (k+1) l p r:=.RB h g f
def WL.aO {y} (h:EV w l c y k (.aq Sp) q) (p:EX w l c j q (.aO v z)):WL w c y j 1 l k (.aO v z):=.RB h p λr r=>rfl
def WL.bh {y} (h:EV w l c y k (.aq Sp) q) (p:EX w l c j q (.bh v z)):WL w c y j 1 l k (.bh v z):=.RB h p λr r=>rfl
def EX.iO {q} (h:WL y c q z k l j r) (w:k<=jI):EX y l c (.iO q z) j r:=h jI w
def w2 (u:cO j l c p y w z) (g:dZ j av k w l c z=r):EX j l c (.en k p) y r:=
 (congrArg (λq:R (List V)=>match q with
  | .aj w y=>dZ j av k w l c y
  | .bh t y=>bC.bh t y
  | .ak=>bC.ak) u).trans g
def EX.E (t:EV r l c f e x q) (d:EV r l c m q y z) (s:eL r av u x l c z=.aD k j) (o:eL r av g y k c j=.aD p w):
  EX r l c (.en [u,g] (.ai f (.ai m .ao))) e (.aD p w):=w2 (.ai t (.ai d .ao)) ((jv s).trans (jv o))
def EX.K (n:EV m l c s v x w) (i:EV m l c o w y k) (h:EV m l c b k z p) (a:eL m av e x l c p=.aD u r) (Q:eL m av t y u c r=.aD g q) (Z:eL m av d z g c q=.aD f j):
  EX m l c (.en [e,t,d] (.ai s (.ai o (.ai b .ao)))) v (.aD f j):=w2 (.ai n (.ai i (.ai h .ao))) ((jv a).trans ((jv Q).trans (jv Z)))
noncomputable def O.f:O->Nat
 | .ah _=>0| .aX _=>1| .aE _=>2| .bE _=>3| .a8 _ _=>4| .aL _=>5| .a9 _=>6| .cq _ _=>7
def fQ {y:List O} {j:Nat} (w:y[j]?=Sn o) (q:y[i]?=Sn z) (k:autoParam (U' o.f z.f=Su) tR):i≠j:=λh=>by
 subst h;rw[w]at q;replace q:=Sv q;subst q;exact Bool.noConfusion ((Nat.beq_refl o.f).symm.trans k)
def cF {q:List O} {j:Nat} (y:q[j]?=Sn o) (w:q[i]?=Sn z) (k:autoParam (U' o.f z.f=Su) tR):(q.set i p)[j]?=o:=eB (fQ y w k) y
def CI (r:EV y l c a j (.ab i) q) (u:q[i]?=Sn (.a8 k d)) (g:q[d]?=Sn (.aL e)) (t:cO y l c w q p z) (s:autoParam (i0 k m=Sn f) tR):ev y av (.cU m a w) l c j=y f (.ab i::p) z:=by
 refine(di r).trans ?_;dsimp only;refine aa ?_ u;dsimp only;exact aS (di t) s g
def EV.cU (u:EV j l c a w (.ab i) q) (g:q[i]?=Sn (.a8 k d)) (e:q[d]?=Sn (.aL t)) (s:cO j l c p q r z) (o:j f (.ab i::r) z=.aj v y) (b:autoParam (i0 k m=f) tR):EV j l c (.cU m a p) w v y:=(CI u g e s b).trans o
def LS (j:z[i]?=Sn (.a8 q d)) (w:z[d]?=Sn (.aL y)) (p:autoParam (UT y.length 100=Sp) tR):pQ (.ab i) k v z=(z.set d (.aL (kP y k v))):=by
 delta pQ;dsimp only;refine aa ?_ j;dsimp only;exact aa (if_pos (S2 p)) w
def EX.I (h:EV y l c a w v z) (r:EV y l c p z (.ab i) z) (u:z[i]?=Sn (.a8 q d)) (g:z[d]?=Sn (.aL j)) (f:autoParam (UT j.length 100=Sp) tR):EX y l c (.a6 (.ay p k) a) w (.aD l (z.set d (.aL (kP j k v)))):=by
 refine(i9 h).trans ?_;delta eL;dsimp only;refine aa ?_ r;dsimp only;exact aa rfl (LS u g f)
def EX.dw (h:EV w l c a (z++(.a8 q (z.length+1)::.aL y::p)) v (z++(.a8 q (z.length+1)::.aL y::j))) (r:autoParam (l[0]?.join=Sn (.ab z.length)) tR) (u:autoParam (UT y.length 100=Sp) tR):
  EX w l c (.a6 (.ay (.ad 0) k) a) (z++(.a8 q (z.length+1)::.aL y::p)) (.aD l (z++(.a8 q (z.length+1)::.aL (kP y k v)::j))):=
 (EX.I h (.ad r) (bA z _ 0) (bA z _ 1) u).trans (congrArg (bC.aD l) (hU z _ 1 _))
def EV.dw (r:cO y l c j w p q) (u:y (mQ k) (.ab q.length::p) (q++[.a8 k (q.length+1),.aL []])=.aj .az z):EV y l c (.dw k j) w (.ab q.length) z:=(di r).trans (di u)
def re:Ph (n+1) 30 [.ab q.length,u,v,w] (q++[.a8 0 (q.length+1),.aL []])=.aj .az (q++[.a8 0 (q.length+1),.aL [(1,u),(2,v),(3,w)]]):=
 have h:EX (Ph n) [Sn _,Sn u,Sn v,Sn w] [] yG.aA _ _:=.am (.dw .ad) (.am (.dw .ad) (.am (.dw .ad) .aw))
 cj rfl h
def w3:Ph (n+1) 31 [.ab q.length,u] (q++[.a8 1 (q.length+1),.aL []])=.aj .az (q++[.a8 1 (q.length+1),.aL [(4,u)]]):=
 have h:EX (Ph n) [Sn _,Sn u] [] yH.aA _ _:=.am (.dw .ad) .aw
 cj rfl h
def EV.gj (h:cO j l c w (y++[.aE []]) k q) (p:mR k=Sn z) (r:q[y.length]?=Sn (.aE [])) (u:autoParam (((eg z||kO z)&&SW (z.length<=15))=Sp) tR):EV j l c (.gj w) y (.ab y.length) (q.set y.length (.aE (lJ z))):=(di h).trans (aS (if_pos u) r p)
def EV.R4:EV z l c (.gj .ao) q (.ab q.length) (q++[.aE []]):=(EV.gj .ao rfl bV).trans (congrArg _ jx)
noncomputable def LT:O->Nat
 | .ah _=>2| .bE _=>3| .aE _=>4|_=>0
def jy (h:q[i]?=Sn o):eK q (.ab i)=LT o:=by
 show(match q[i]? with|some (.ah _)=>2|some (.bE _)=>3|some (.aE _)=>4|_=>0)=_;refine aa ?_ h;induction o using O.casesOn<;>rfl
def EV.dg {u} (m:EV j l c a r (.ab i) q) (e:EV j l c w q k q) (t:EV j l c p q u z) (g:q[i]?=Sn (.aE y)) (f:z[i]?=Sn (.aE y)) (d:eJ k y=Sp):EV j l c (.bK .dg a (.ai w (.ai p .ao))) r ((y.lookup k).getD u) z:=
 .bK m ((jy g).symm▸rfl) (.ai e (.ai t .ao)) ((jy f).trans (jy g).symm) (by
  show(match z[i]? with|some (.aE y)=>if eJ k y then R.aj _ z else .ak|_=>.ak)=_;exact aa (if_pos d) f)
noncomputable def CJ:List (V×V):=[(.ae 97,.ae 7),(.ae 98,.ae 8),(.ae 101,.ae 27),(.ae 102,.ae 12),(.ae 110,.ae 10),(.ae 114,.ae 13),(.ae 115,.ae 32),(.ae 116,.ae 9),(.ae 118,.ae 11)]
structure bP {α:Type} (T:List α) (p:Nat) (L:List α):Prop where
 bp:T.drop p=L
 bY:p<=T.length
def bP.bd {T:List q} (h:bP T p L):T.length=p+L.length:=aT (aa ((VU h.bY).symm) Xi) h.bp
def bP.dg {T:List q} (h:bP T p L) (k):T[p+k]?=L[k]?:=aT (aa rfl V3) h.bp
def bP.aD {T:List q} (h:bP T p (M++L)):bP T (p+M.length) L:=⟨aT (aa List.drop_left h.bp) YR,aa (aa (SF (SH _ _) p) Sr) h.bd⟩
def bP.b {T:List q} (h:bP T p (k::L)):bP T (p+1) L:=h.aD (M:=[k])
def bP.RD {T:List Nat} (h:bP T p L) (a k):fB T (p+a) (p+a+k)=(L.drop a).take k:=by
 delta fB;exact aT (aS (aa rfl (Uj _ _)) List.drop_take YR) h.bp
def ml (h:p<=q):oe (p:Nat) q=p:=by
 unfold oe PySem.clipAt;exact aa (aa (aa (UL _) (Int.max_eq_right (TA _))) (Int.min_eq_left (T7.mpr h))) (if_neg (V4.mpr (TA p)))
def LU (h:q<=p):oe (p:Nat) q=q:=by
 unfold oe PySem.clipAt;exact aa (aa (aa (UL _) (Int.max_eq_right (TA _))) (Int.min_eq_right (T7.mpr h))) (if_neg (V4.mpr (TA p)))
def mm (z:p<=1100000):ji j q (.ae (p:Nat))=(oe (p) q):=if_pos (S8 z (of_decide_eq_true rfl))
def ph {T} (j:ji 0 T.length u=Sn q) (w:ji T.length T.length v=Sn z):gx (.ag T) u v y=.aj (.ag (fB T q z)) y:=by
 delta gx;dsimp only;exact aS rfl w j
def bP.cT {T} (h:bP T p L) (w:T.length<=1000000) (a k:Nat) (r:autoParam (UT a L.length=Sp) tR) (u:autoParam (UT k 9=Sp) tR):gx (.ag T) (.ae ((p+a:Nat))) (.ae ((p+(a+k):Nat))) q=.aj (.ag ((L.drop a).take k)) q:=by
 refine aT ?_ (TK _ _ _);have y:=h.bd▸SF (S2 r) p;have j:p+a+k<=1100000:=a5 (Up (Sq y w) (S2 u)) rfl;refine aa (aa ?_ (ml y)) (ph (mm (Sq (SH _ k) j)) (mm j));refine aT ?_ (h.RD a k);rcases Nat.le_total (p+a+k) T.length with z|z
 ·exact aa rfl (ml z)
 ·refine aa ?_ (LU z);rewrite[fB];delta fB;exact aS rfl (List.take_of_length_le z) VP
noncomputable def gN (T:List Nat) (e:V) (p cl:Nat) (cmd:V) (bl br:Nat):List (Nat×V):=[(11,.ag T),(12,e),(13,.ae p),(14,.az),(4,.ab cl),(15,cmd),(1,.ae 0),(16,.ae 0),(17,.ab bl),(18,.ab br)]
structure eD (σ:List O) (i d:Nat) (T:List Nat) (e:V) (p cl:Nat) (cmd:V) (bl br:Nat):Prop where
 a8:σ[i]?=Sn (.a8 4 d)
 aL:σ[d]?=Sn (.aL (gN T e p cl cmd bl br))
def eD.at {T} (r:eD z i d T e p y q j w) (k:autoParam ((gN T e p y q j w).lookup f=Sn v) tR) (u:autoParam (l[0]?.join=Sn (.ab i)) tR):EV g l c (.ay (.ad 0) f) z v z:=.ay (.ad u) (gq r.a8 r.aL k)
def eD.fV {T} (r:eD z i d T e p y q w k) (h:z[j]?=Sn o) (g:autoParam (U' 4 o.f=Su) tR) (l:autoParam (U' 5 o.f=Su) tR):eD (z.set j u) i d T e p y q w k:=⟨cF r.a8 h g,cF r.aL h l⟩
def eD.oF {T} (r:eD z i d T e p j y w k) (h:EV u l c a z (.ae (q:Nat)) z) (g:autoParam (l[0]?.join=Sn (.ab i)) tR):EX u l c (.a6 (.ay (.ad 0) 13) a) z (.aD l (z.set d (.aL (gN T e q j y w k)))):=.I h (.ad g) r.a8 r.aL
def EV.RA (p:EV z l c y q (.ae i) q) (r:EV z l c w q (.ae j) q) (h:autoParam (i+j=k) tR):EV z l c (.aV .bB y w) q (.ae k) q:=aT (EV.aV p r rfl) h
def EV.R5 (p:EV z l c y q (.ae i) q) (r:EV z l c w q (.ae j) q) (h:autoParam (i-j=k) tR):EV z l c (.aV .fS y w) q (.ae k) q:=aT (EV.aV p r rfl) h
def EV.R0 (p:EV z l c y q (.ae i) q) (r:EV z l c w q (.ae j) q) (u:i.natAbs<2^40) (g:j.natAbs<2^40) (h:autoParam (i*j=k) tR):EV z l c (.aV .ek y w) q (.ae k) q:=aT (EV.aV p r (if_pos (Sz.mpr ⟨decide_eq_true u,decide_eq_true g⟩))) h
def eD.m {T} (r:eD q i d T e p y z j w) (k) (u:autoParam (l[0]?.join=Sn (.ab i)) tR):EV g l c (.aV .bB (.ay (.ad 0) 13) (.ae (k:Nat))) q (.ae (p+k:Nat)) q:=.RA (r.at rfl u) .ae rfl
def EV.RJ (h:EV z l c a q (.ag b) q):EV z l c (.tr (.ba .bd a)) q (.ae (b.length:Nat)) q:=.P (.ba h rfl)
def eD.b {T} (r:eD q i d T e p j z w u) (h:bP T p (k::L)) (y:autoParam (l[0]?.join=Sn (.ab i)) tR):EV g l c (.aM (.ay (.ad 0) 11) (.ay (.ad 0) 13)) q (.ae k) q:=.aM (r.at rfl y) (r.at rfl y) (io (h.dg 0))
def EV.lC (k:EV z l c y q (.ae i) q) (p:EV z l c w q (.ae j) q):EV z l c (.tr (.aB .lC y w)) q (.aq (SW (i≥j))) q:=.E k p rfl
def EV.R1 (k:EV z l c y q (.ae i) q) (p:EV z l c w q (.ae j) q):EV z l c (.tr (.aB .bM y w)) q (.aq (!(i==j))) q:=.E k p rfl
def EV.R8 (j:EV z l c y q x q):EV z l c (.tr (.aB .j0 y .az)) q (.aq (x==.az)) q:=.E j .az rfl
def EV.RE (j:EV z l c y q x q):EV z l c (.tr (.aB .hZ y .az)) q (.aq (x !=.az)) q:=.E j .az rfl
def EV.k9 (h:EV z l c a y (.aq s) q) (e:s=t):EV z l c a y (.aq t) q:=aT h e
noncomputable def LV (i j k:Int):Bool:= !(SW (48<=i)&&SW (i<=51))||(!(SW (48<=j)&&SW (j<=55))||!(SW (48<=k)&&SW (k<=55)))
def LW (h:(SW ((b.length:Int)<3)||(match b with|[i,j,k]=>LV i j k|_=>Su))=Sp):Ph (n+1) 3 [.ag b] q=.aj .az q:=by
 have y:EV (Ph n) [Sn (.ag b)] [] (.or (.tr (.aB .bX (.tr (.ba .bd (.ad 0))) (.ae 3))) (.or (.ba .em (.tr (.eR .bY .bY (.ae 48) (.aM (.ad 0) (.ae 0)) (.ae 51)))) (.or (.ba .em (.tr (.eR .bY .bY (.ae 48) (.aM (.ad 0) (.ae 1)) (.ae 55)))) (.ba .em (.tr (.eR .bY .bY (.ae 48) (.aM (.ad 0) (.ae 2)) (.ae 55))))))) q (.aq Sp) q:=by
  cases z:SW ((b.length:Int)<3)with
  |true=>exact .RX (.k9 (.bX (.RJ .ad) .ae) z)
  |false=>
   rw[z,X5]at h;rcases b with _|⟨i,_|⟨j,_|⟨k,_|_⟩⟩⟩<;>first|exact bv h|skip
   exact .RK (.k9 (.bX (.RJ .ad) .ae) z) (.k9 (.RL (.em (.RU .ae (.aM .ad .ae (io rfl)) .ae)) (.RL (.em (.RU .ae (.aM .ad .ae (io rfl)) .ae)) (.em (.RU .ae (.aM .ad .ae (io rfl)) .ae)))) h)
 have h:EX (Ph n) _ [] uU.aA q _:=.A (.D y (.A (.aO .az)));exact cj rfl h
def w4:∀k,k<256->(((48+k/64:Nat):Int)-48).natAbs<2^40/\(((48+k/8%8:Nat):Int)-48).natAbs<2^40/\(((48+k/64:Nat):Int)-48)*64+(((48+k/8%8:Nat):Int)-48)*8+((48+k%8:Nat):Int)-48=(k):=by decide+kernel
def bP.x {T:List q} (h:bP T p (k::L)):SW ((p:Int)<(T.length:Nat))=Sp:=decide_eq_true (Ul.mpr (aa (TY (T9 _)) h.bd))
def bP.Ir {T:List q} (h:bP T p []):SW ((p:Int)<(T.length:Nat))=Su:=decide_eq_false (aa (Int.lt_irrefl _) h.bd)
structure dv where
 nF:List O
 aZ:Nat
 f0:Nat
 cS:Nat
 bZ:List Nat
 ce:V
 eT:Nat
 li:V
 ju:Nat
 km:Nat
structure dv.n (C:dv):Prop where
 a8:C.nF[C.aZ]?=Sn (.a8 4 C.cS)
 aL:∃fs,C.nF[C.cS]?=Sn (.aL fs)
 w5:∃b,C.nF[C.f0]?=Sn (.bE b)
 bX:C.bZ.length<=100000
noncomputable def dv.at (C:dv) (b:List Nat) (p:Nat):List O:=(C.nF.set C.f0 (.bE b)).set C.cS (.aL (gN C.bZ C.ce p C.eT C.li C.ju C.km))
def dv.n.bM {C:dv} (h:C.n):C.f0≠C.cS:=let⟨_,q⟩:=h.aL;let⟨_,z⟩:=h.w5;fQ q z
def dv.n.rd {C:dv} (h:C.n):eD (C.at b p) C.aZ C.cS C.bZ C.ce p C.eT C.li C.ju C.km:=by
 refine aQ λG y=>?_;obtain⟨j,w⟩:=h.aL;obtain⟨k,q⟩:=h.w5;have z:(C.nF.set C.f0 (.bE b))[C.cS]?=Sn (.aL j):=cF w q;exact y ⟨cF (cF h.a8 q) z,dH z⟩
def dv.n.dg {C:dv} (h:C.n):(C.at b p)[C.f0]?=Sn (.bE b):=let⟨_,q⟩:=h.w5;eB h.bM.symm (dH q)
def dv.n.bd {C:dv}:(C.at b p).length=C.nF.length:=SS.trans SS
def dv.n.d {C:dv} (h:C.n):(C.at b p).set C.f0 (.bE q)= C.at q p:=(List.set_comm _ _ h.bM.symm).trans (congrArg (λs:List O=>s.set C.cS _) (VG _))
def dv.n.oF {C:dv} (h:C.n) (y:EV z l c a (C.at b p) (.ae (q:Nat)) (C.at b p)) (j:autoParam (l[0]?.join=Sn (.ab C.aZ)) tR):EX z l c (.a6 (.ay (.ad 0) 13) a) (C.at b p) (.aD l (C.at b q)):=(h.rd.oF y j).trans (congrArg (bC.aD l) (VG _))
def dv.n.g {C:dv} (h:C.n) (k) (q:autoParam (l[0]?.join=Sn (.ab C.aZ)) tR):EX z l c (.a6 (.ay (.ad 0) 13) (.aV .bB (.ay (.ad 0) 13) (.ae (k:Nat)))) (C.at b p) (.aD l (C.at b (p+k))):=h.oF (h.rd.m k q) q
def dv.n.A {k:Nat} {C:dv} (h:C.n) (z:EV q l c a (C.at b p) (.ab C.f0) (C.at b p)) {e} (y:EV q l c e (C.at b p) (.ae k) (C.at b p)) (j:k<256) (w:b.length<1048576):EX q l c (.aU (.tr (.bK .dN a (.ai e .ao)))) (C.at b p) (.aD l (C.at (b++[k]) p)):=
 (EX.aU (EV.Si z y h.dg j (et w))).trans (congrArg (bC.aD l) h.d)
def dv.n.i {C:dv} (h:C.n) (J:cO F l c G (C.at b p) H (C.at b p)) (K:F f (.ab C.aZ::H) (C.at b p)=.aj .az (C.at I q)) (L:autoParam (i0 4 m=f) tR) (M:autoParam (l[0]?.join=Sn (.ab C.aZ)) tR):EX F l c (.aU (.tr (.cU m (.ad 0) G))) (C.at b p) (.aD l (C.at I q)):=
 .aU (.RO (.cU (.ad M) h.rd.a8 h.rd.aL J K L) (dv.n.bd.trans dv.n.bd.symm))
def dv.n.n {C:dv} (h:C.n) (z:bP C.bZ p M) (a:Nat) (y:autoParam (UT a M.length=Sp) tR) (k:Nat) (j:autoParam (UT k 9=Sp) tR) (q:autoParam (l[0]?.join=Sn (.ab C.aZ)) tR):EV w l c (.cT (.ay (.ad 0) 11) (.aV .bB (.ay (.ad 0) 13) (.ae (a))) (.aV .bB (.ay (.ad 0) 13) (.ae ((a+k:Nat):Int)))) (C.at b p) (.ag ((M.drop a).take k)) (C.at b p):=
 .cT (h.rd.at rfl q) (h.rd.m a q) (h.rd.m (a+k) q) (z.cT (a5 h.bX rfl) a k y j)
def CK {C:dv} (h:C.n) (q:bP C.bZ p (92::k::L)) (j:Ph (n+1) 3 [.ag ((k::L).take 3)] (C.at b p)=.aj v (C.at b p)) (w:c8 (C.at b p).length v=Sp) (u:EX (Ph (n+1)) [Sn (.ab C.aZ),Sn (.ab C.f0),Sn (.ae k),Sn v] [] z (C.at b p) r):
  EX (Ph (n+1)) [Sn (.ab C.aZ),Sn (.ab C.f0),none,none] [] (.am (.aY (.tr (.aB .lC (.aV .bB (.ay (.ad 0) 13) (.ae 1)) (.tr (.ba .bd (.ay (.ad 0) 11))))) y .aw) (.am (.en [.ad 2,.ad 3] (.ai (.aM (.ay (.ad 0) 11) (.aV .bB (.ay (.ad 0) 13) (.ae 1))) (.ai (.tr (.bR 3 (.ai (.cT (.ay (.ad 0) 11) (.aV .bB (.ay (.ad 0) 13) (.ae 1)) (.aV .bB (.ay (.ad 0) 13) (.ae 4))) .ao))) .ao))) z)) (C.at b p) r:=
 .am (.C (.k9 (.lC (h.rd.m 1) (.RJ h.rd.at)) (decide_eq_false (Int.not_le.mpr (of_decide_eq_true q.b.x)))) .aw) (.am (.E (.aM h.rd.at (h.rd.m 1) (io (q.dg 1))) (.P (.bR (.a7 (h.n q 1 rfl 3)) j) w) rfl rfl) u)
def LX {C:dv} (h:C.n) (z:bP C.bZ p (92::(48+k/64)::(48+k/8%8)::(48+k%8)::L)) (q:k<256) (y:b.length<1048576):Ph (n+2) 43 [.ab C.aZ,.ab C.f0] (C.at b p)=.aj .az (C.at (b++[k]) (p+4)):=by
 have j:EX (Ph (n+1)) _ [] u3.aA (C.at b p) _:=
  CK h z (by
   have y:EV (Ph n) [Sn (.ag [48+k/64,48+k/8%8,48+k%8])] [] (.or (.tr (.aB .bX (.tr (.ba .bd (.ad 0))) (.ae 3))) (.or (.ba .em (.tr (.eR .bY .bY (.ae 48) (.aM (.ad 0) (.ae 0)) (.ae 51)))) (.or (.ba .em (.tr (.eR .bY .bY (.ae 48) (.aM (.ad 0) (.ae 1)) (.ae 55)))) (.ba .em (.tr (.eR .bY .bY (.ae 48) (.aM (.ad 0) (.ae 2)) (.ae 55))))))) (C.at b p) _ (C.at b p):=
    .RK (.k9 (.bX (.RJ .ad) .ae) rfl) (.k9 (.RL (.em (.RU .ae (.aM .ad .ae (io rfl)) .ae)) (.RL (.em (.RU .ae (.aM .ad .ae (io rfl)) .ae)) (.em (.RU .ae (.aM .ad .ae (io rfl)) .ae)))) ((by decide+kernel:∀k,k<256->LV (48+k/64:Nat) (48+k/8%8:Nat) (48+k%8:Nat)=false) k q))
   have h:EX (Ph n) _ [] uU.aA (C.at b p) _:=.am (.C y .aw) (.A (.aO
    (.R5 (.RA (.RA (.R0 (.R5 (.aM .ad .ae (io rfl)) .ae) .ae (w4 k q).1 (of_decide_eq_true rfl)) (.R0 (.R5 (.aM .ad .ae (io rfl)) .ae) .ae (w4 k q).2.1 (of_decide_eq_true rfl))) (.aM .ad .ae (io rfl))) .ae (w4 k q).2.2)))
   exact cj rfl h) rfl (.am (.D (.k9 (.RE .ad) rfl) (.am (h.A .ad .ad q y) (.am (h.g 4) .aw))) .aw)
 exact cj rfl j
def LY {C:dv} (h:C.n) (y:bP C.bZ p (92::k::L)) (z:k=34∨k=36∨k=92) (j:b.length<1048576):Ph (n+2) 43 [.ab C.aZ,.ab C.f0] (C.at b p)=.aj .az (C.at (b++[k]) (p+2)):=by
 have w:Ph (n+1) 3 [.ag ((k::L).take 3)] (C.at b p)=.aj .az (C.at b p):=LW (by rcases z with rfl|rfl|rfl<;>match L with
  |[]=>rfl
  |[_]=>rfl
  |_::_::_=>rfl)
 have q:(!((k:Int)==10))=Sp/\(CJ.lookup (.ae k)).isNone=Sp/\k<256:=by rcases z with rfl|rfl|rfl<;>exact⟨rfl,rfl,of_decide_eq_true rfl⟩
 have r:EX _ _ [] u3.aA (C.at b p) _:=
  CK h y w rfl (.am (.C (.k9 (.RE .ad) rfl) (.am (.D (.k9 (.R1 .ad .ae) q.1) (.am (h.A .ad (.RR (.a7 .ad) (by
   have z:EX (Ph n) [Sn (.ae (↑k)),none] [] ou.aA (C.at b p) (.aO ((CJ.lookup (.ae (↑k))).getD (.ae (↑k))) _):=
    .am (.a6 ((EV.gj (.ai .ae (.ai .ae (.ai .ae (.ai .ae (.ai .ae (.ai .ae (.ai .ae (.ai .ae (.ai .ae (.ai .ae (.ai .ae (.ai .ae (.ai .ae (.ai .ae (.ai .ae (.ai .ae (.ai .ae (.ai .ae .ao)))))))))))))))))) rfl bV).trans (congrArg _ jx)))
     (.A (.aO (.P (.dg .ad .ad .ad bV bV rfl) (by refine aa ?_ (UN.mp q.2.1);rfl))))
   rw[UN.mp q.2.1]at z;exact cj rfl z)) q.2.2 j) .aw)) (.am (h.g 2) .aw))) .aw)
 exact cj rfl r
def dv.n.eL {Φ:dy} {l:bo} {c b:List Nat} {p q:Nat} {C:dv} (h:C.n) (h0:autoParam (l[0]?.join=Sn (.ab C.aZ)) tR):eL Φ av (.ay (.ad 0) 13) (.ae (q:Nat)) l c (C.at b p)=.aD l (C.at b q):=h.oF (a:=.ae (q:Nat)) .ae h0
def dv.n.x {C:dv} (h:C.n) (z:bP C.bZ p (k::L)) (q:autoParam (l[0]?.join=Sn (.ab C.aZ)) tR):EV y l c (.tr (.aB .bX (.ay (.ad 0) 13) (.tr (.ba .bd (.ay (.ad 0) 11))))) (C.at b p) (.aq Sp) (C.at b p):=.k9 (.bX (h.rd.at rfl q) (.RJ (h.rd.at rfl q))) z.x
def LZ:∀k:Nat,k<256->[34,36,92].contains (k:Int)=Sp->k=34∨k=36∨k=92:=by decide+kernel
def L0:∀k:Nat,k<256->[34,36,92].contains (k:Int)=Su->(!((k:Int)==34))=Sp/\((k:Int)==92)=Su/\((k:Int)==36)=Su:=by decide+kernel
noncomputable abbrev L1:X:=sq.aA.bs.fW.d
noncomputable abbrev L4:S:=sq.aA.bs.fW.fW
def L5 {C:dv} (h:C.n) (w):∀(b) (p:Nat),(∀c∈w,c<256)->bP C.bZ p (w.flatMap fw++34::L)->b.length+w.length<=1048576->
  WL (Ph (n+2)) [] L1 L4 (w.length+1) [Sn (.ab C.aZ),Sn (.ab C.f0),Sn x] (C.at b p) (.aD [Sn (.ab C.aZ),Sn (.ab C.f0),Sn x] (C.at (b++w) (p+(w.flatMap fw).length))):=by
 induction w with
 |nil=>
  exact λb p g q l=>aa (.a (.and (h.x q) (.k9 (.R1 (h.rd.b q) .ae) rfl))) (SY _)
 |cons k w z=>
  intro b p g q l;have u:=g k (.head _);have y:=SA (TY (T9 _)) l;have e:(b++[k]).length+w.length<=1048576:=by refine aa ?_ Sr;exact aa (aa l (TH _ w.length)) (TK _ _ _)
  rw[Uz,Ss]at q;have z:=z (b++[k]) _ (λc m=>g c (.tail _ m)) q.aD e;refine aa ?_ Uz;refine aa ?_ Sr;refine aT ?_ (TK _ _ _);refine aa ?_ (show b++k::w=b++[k]++w from(Ss b [k] w).symm);cases j:[34,36,92].contains (k:Int)with
  |true=>
   have r:fw k=[92,k]:=if_pos j;rw[r]at q z⊢;exact .aD (.and (h.x q) (.k9 (.R1 (h.rd.b q) .ae) rfl)) (.am (.D (.k9 (.Q (h.rd.b q) .ae) rfl) (.am (h.i (.a7 .ad) (LY h q (LZ k u j) y)) .aw)) .aw) z
  |false=>
   cases t:SW ((k:Int)<32)||(k:Int)==127 with
   |true=>
    have r:fw k=_:=(if_neg (j▸Tw)).trans (if_pos t);rw[r]at q z⊢;exact .aD (.and (h.x q) (.k9 (.R1 (h.rd.b q) .ae) rfl)) (.am (.D (.k9 (.Q (h.rd.b q) .ae) rfl) (.am (h.i (.a7 .ad) (LX h q u y)) .aw)) .aw) z
   |false=>
    have r:fw k=[k]:=(if_neg (j▸Tw)).trans (if_neg (t▸Tw));rw[r]at q z⊢;refine j4 (L0 k u j) λd s o=>?_;exact .aD (.and (h.x q) (.k9 (.R1 (h.rd.b q) .ae) d)) (.am (.C (.k9 (.Q (h.rd.b q) .ae) s) (.am (.C (.k9 (.Q (h.rd.b q) .ae) o) (.am (h.A .ad (h.rd.b q) u y) (.am (h.g 1) .aw))) .aw)) .aw) z
def L6 {C:dv} (h:C.n) (z:∀c∈w,c<256) (q:bP C.bZ p (34::(w.flatMap fw++34::L))) (r:w.length<=100000):Ph (n+3) 42 [.ab C.aZ,.ab C.f0] (C.at [] p)=.aj .az (C.at w (p+1+(w.flatMap fw).length+1)):=by
 have k:EX _ [Sn (.ab C.aZ),Sn (.ab C.f0),none] [] sq.aA (C.at [] p) _:=
  .am (.E h.rd.at (h.rd.m 1) rfl h.eL) (.am (.iO (L5 (n:=n) h w [] (p+1) z q.b (by show 0+_<=_;exact a5 (SF (by assumption) _) rfl)) (by show w.length+1<=1000000;exact S8 (by assumption) (by decide))) (.am (.C (.k9 (.lC h.rd.at (.RJ h.rd.at)) (decide_eq_false (Int.not_le.mpr (of_decide_eq_true q.b.aD.x)))) .aw) (.am (h.g 1) .aw)))
 exact cj rfl k
def L7 (w):∀k,(∀c∈w,c≠q)->j1 [q] k (w++q::L)=(k+w.length):=by
 induction w with
 |nil=>exact λk j=>if_pos (by show(q==q&&List.isPrefixOf [] L)=Sp;refine aa ?_ (beq_self_eq_true _);induction L using SD<;>rfl)
 |cons c w y=>
  refine λk h=>(if_neg λz=>h c (.head _) ?_).trans ((y (k+1) λd m=>h d (.tail _ m)).trans (congrArg Sn (T1 k w.length)));exact(beq_iff_eq.mp (Sz.mp z).1).symm
def L8 {C:dv} (h:C.n) (r:∀c∈w,c≠39) (q:bP C.bZ p (39::(w++39::L))):Ph (n+1) 41 [.ab C.aZ,.ab C.f0] (C.at [] p)=.aj .az (C.at w (p+1+w.length+1)):=by
 have y:=q.b.aD;have l:ei av .lE (.ag C.bZ) [.ag [39],.ae (p+1:Nat)] (C.at [] p)=.aj _ (C.at [] p):=(if_pos (by
  rewrite[Sz];rewrite[Sz];exact⟨⟨rfl,decide_eq_true (TA _)⟩,decide_eq_true (T7.mpr q.b.bY)⟩)).trans (congrArg (λz=>R.aj (V.ae z) _) (by
    delta gy;refine aa (aa ?_ (L7 w (p+1) r)) q.b.bp;exact if_pos q.b.bY))
 have f:gx (.ag C.bZ) (.ae (p+1:Nat)) (.ae (p+1+w.length:Nat)) (C.at [] p)=.aj (.ag w) (C.at [] p):=by
  have j:p+1+w.length<=1100000:=Sq y.bY (a5 (Sq h.bX (S2 rfl:100000<=1000000)) rfl);refine aa (aa ?_ (ml y.bY)) (ph (mm (Sq (SH _ w.length) j)) (mm j));refine aa ?_ (ml q.b.bY);exact congrArg (λz=>R.aj (V.ag z) _) ((q.b.RD 0 w.length).trans W0)
 have m:=Sq (Sq (TC _ _) y.bY) h.bX;have e:EX (Ph n) [Sn (.ab C.aZ),Sn (.ab C.f0),none] [] yM.aA (C.at [] p) _:=
  .am (.a6 (.P (.bK h.rd.at rfl (.ai .ag (.a7 (h.rd.m 1))) rfl l))) (.am (.C (.k9 (.bX .ad .ae) (decide_eq_false (V4.mpr (TA _)))) .aw)
   (.am ((EX.aU (EV.Sh .ad (.cT h.rd.at (h.rd.m 1) .ad f) h.dg (et ((Ud _).symm▸a5 m rfl)))).trans (congrArg (bC.aD ([Sn (V.ab C.aZ),Sn (V.ab C.f0),none].set 2 (Sn (V.ae ↑(p+1+w.length))))) h.d)) (.am (h.oF (.RA .ad .ae)) .aw)))
 exact cj rfl e
def EX.dR:EX z l c .dR q (.dR l q):=rfl
def EX.F (w:EX y l c s z (.dR j q)):EX y l c (.am s t) z (.dR j q):=congrArg (λr:bC=>r.C λl z=>Internal.aU y av t l c z) w
def mn (L:List Nat):Prop:=L=[]∨∃M,L=32::M∨L=59::M
noncomputable abbrev tI:X:=sn.aA.bs.fW.d
noncomputable abbrev CL:S:=sn.aA.bs.fW.fW
def w6 {C:dv} (h:C.n) (q:bP C.bZ p L) (y:mn L) (z:autoParam (l[0]?.join=Sn (.ab C.aZ)) tR):EV j l c tI (C.at b p) (.aq Su) (C.at b p):=by
 rcases y with rfl|⟨M,rfl|rfl⟩
 ·exact .RG (.k9 (.bX (h.rd.at rfl z) (.RJ (h.rd.at rfl z))) q.Ir)
 ·exact .and (h.x q z) (.E (h.rd.b q z) .cr rfl)
 ·exact .and (h.x q z) (.E (h.rd.b q z) .cr rfl)
def w7 {C:dv} (h:C.n) (y:k<256) (j:md [32,9,13,10,59,125] k=Su) (q:bP C.bZ p (k::L)) (z:autoParam (l[0]?.join=Sn (.ab C.aZ)) tR):EV w l c tI (C.at b p) (.aq Sp) (C.at b p):=.and (h.x q z) (.E (h.rd.b q z) .cr ((wX y).trans (congrArg Sn ((congrArg not j).trans (Bool.not_not Sp)))))
def CM:∀k,k<256->im k=Sp->md [32,9,13,10,59,125] k=Su/\((k:Int)==39)=Su/\((k:Int)==34)=Su/\((k:Int)==92)=Su/\((k:Int)==36)=Su:=by decide+kernel
def L9 {C:dv} (h:C.n) (i:mn L) (w):∀(b) (p:Nat) (y:Option V),(∀c∈w,c<256/\im c=Sp)->(w.head?≠Sn 126∨q<p)->q<=p->bP C.bZ p (w++L)->b.length+w.length<=1048576->
  ∃g,WL (Ph n) [] tI CL (w.length+1) [Sn (.ab C.aZ),Sn (.ae q),Sn (.ab C.f0),Sn (.aq Sp),y] (C.at b p) (.aD [Sn (.ab C.aZ),Sn (.ae q),Sn (.ab C.f0),Sn (.aq Sp),g] (C.at (b++w) (p+w.length))):=by
 induction w with
 |nil=>
  exact λb p y l j f r e=>aa ⟨y,.a (w6 h r i)⟩ (SY _)
 |cons k w t=>
  intro b p y l j f r e;obtain⟨d,s⟩:=l k (.head _);obtain⟨g,t⟩:=t (b++[k]) (p+1) _ (λc m=>l c (.tail _ m)) (.inr (W7 f)) (UJ f) r.b (aa (aa (aa e (TH _ w.length)) (TK _ _ _)) Sr);obtain⟨x,a,Q,Z,Y⟩:=CM k d s;refine⟨g,?_⟩;refine aa (aa ?_ (show p+(k::w).length=p+1+w.length from(T1 p w.length).symm)) (show b++k::w=b++[k]++w from(Ss b [k] w).symm);exact .RB (w7 h d x r) (.am (.a6 (h.rd.b r)) (.F (.C (.k9 (.Q .ad .ae) a) (.F (.C (.k9 (.Q .ad .ae) Q) (.F (.C (.k9 (.Q .ad .ae) Z) (.F (.C (.k9 (.Q .ad .ae) Y) (.F (.C (by
      exact .k9 (.RY (.Q .ad .ae) (.Q h.rd.at .ad)) (Xq.mpr (j.imp (λj=>beq_false_of_ne λz=>j (congrArg Sn (VZ z))) (λj=>beq_false_of_ne λz=>TB j (VZ z))))) (.am (h.A .ad .ad d (SA (TY (T9 _)) e)) (.am (h.g 1) (.F .dR)))))))))))))) t
def pi {q:List O} (h:q[i]?=Sn o):q.set i o=q:=by
 obtain⟨z,rfl⟩:=SO.mp h;exact List.set_getElem_self z
def EV.RM (w:EV j l c a y v q) (h:c8 y.length v=Su):EV j l c (.tr a) y v q:=(congrArg (fg y) w).trans (if_neg λz=>Bool.noConfusion ((Sz.mp z).1.symm.trans h))
def EV.R9 (w:EV j l c a y v q) (h:gz y.length y q=Su):EV j l c (.tr a) y v q:=(congrArg (fg y) w).trans (if_neg λz=>Bool.noConfusion ((Sz.mp z).2.symm.trans h))
def tJ {q:List O}:c8 q.length (.ab (q.length+k))=Su:=decide_eq_false (TN.mpr (SH _ _))
def nG {n} {o:O} {p':O}:∀{σ τ} {i:Nat},σ[i]?=o->τ[i]?=p'->(o==p')=Su->jH n p'=Su->gz n σ τ=Su:=by
 intro s;induction s with
 |nil=>intro _ _ h;exact aG h
 |cons a s IH=>
  intro t i h1 h2 h3 h4;induction t using SD with
  |nil=>rfl
  |cons b t=>
   induction i using Nat.casesOn with
   |zero=>replace h1:=Sv h1;subst h1;replace h2:=Sv h2;subst h2;exact Xq.mpr (.inl (Xw.mpr ⟨h3,h4⟩))
   |succ i=>exact Xq.mpr (.inr (IH h1 h2 h3 h4))
def EX.mK (k:EV j l c a w (.ab i) q) (p:q[i]?=Sn (.aX z)) (u:dZ j av y z l c q=r) (g:autoParam (z.length=y.length) tR):EX j l c (.mK y a) w r:=by
 refine(i9 k).trans ?_;dsimp only;exact aa ((if_pos g).trans u) p
def EV.RH (u:EV w l c a k (.ab i) q) (g:EV w l c p q v z) (r:q[i]?=Sn (.ah j)) (y:z[i]?=Sn (.ah j)) (h:cR (j.length+1)=Sp):EV w l c (.bK .dN a (.ai p .ao)) k .az (z.set i (.ah (j++[v]))):=
 .bK u ((jy r).symm▸rfl) (.a7 g) ((jy y).trans (jy r).symm) (by
  delta ei;dsimp only;exact aa (if_pos h) y)
def EX.RH (k:EV z l c a q (.ab i) q) (p:EV z l c j q v q) (w:q[i]?=Sn (.ah y)) (h:y.length<1048576):EX z l c (.aU (.tr (.bK .dN a (.ai j .ao)))) q (.aD l (q.set i (.ah (y++[v])))):=.aU (.RO (.RH k p w w (et h)) lg)
def mo (x w:List Nat):Prop:=(x=w/\(∃k u,w=k::u/\k≠126/\k≠37)/\∀c∈w,c<256/\im c=Sp)∨(x=34::(w.flatMap fw++[34])/\(∀c∈w,c<256)/\w.length<=100000)∨(x=39::(w++[39])/\(∀c∈w,c≠39))
def CN (w:List Nat) (t:Bool):Prop:=t=Sp->∃k u,w=k::u/\k≠37
def Ma {T} (R:eD j i d T e p v l a Q) (P:T.length<=100000) (M:mo x w) (r:bP T p (x++L)) (Y:mn L):∃t,CN w t/\Ph (n+4) 40 [.ab i] j=.aj (.ab (j.length+1)) (j.set d (.aL (gN T e (p+x.length) v l a Q))++[.bE w,.aX [.ag w,.aq t]]):=by
 let C:dv:=⟨j++[.bE []],i,j.length,d,T,e,v,l,a,Q⟩
 have h:C.n:=⟨aC R.a8,⟨_,aC R.aL⟩,⟨_,bV⟩,P⟩
 have E:j++[.bE []]= C.at [] p:=((congrArg (λs:List O=>s.set d _) jx).trans (pi (aC R.aL))).symm;have U:∀q, C.at w q=j.set d (.aL (gN T e q v l a Q))++[.bE w]:=λq=>(congrArg (λs:List O=>s.set d _) jx).trans (Ue _ _ (bQ R.aL));have c:∀t q y,EX (Ph (n+3)) [Sn (.ab i),Sn (.ae p),Sn (.ab j.length),Sn (.aq t),y] [] (.aO (.dO (.ai (.tr (.ba .ag (.ad 2))) (.ai (.ad 3) .ao)))) (C.at w q) (.aO (.ab (j.length+1)) _):=λt q y=>by
  have G:EV (Ph (n+3)) [Sn (.ab i),Sn (.ae p),Sn (.ab j.length),Sn (.aq t),y] [] (.dO (.ai (.tr (.ba .ag (.ad 2))) (.ai (.ad 3) .ao))) (C.at w q) (.ab (C.at w q).length) (C.at w q++[.aX [.ag w,.aq t]]):=.dO (.ai (.P (.ba .ad (Cy h.dg))) (.a7 .ad));rw[dv.n.bd,U q,Ss,show C.nF.length=j.length+1 from Sr]at G;exact .aO (U q▸G)
 have f:∀(t) (y:Option V) (q k:Nat),k<=1000000->q=p+x.length->WL (Ph (n+3)) [] tI CL k [Sn (.ab i),Sn (.ae p),Sn (.ab j.length),Sn (.aq Sp),none] (C.at [] p) (.aD [Sn (.ab i),Sn (.ae p),Sn (.ab j.length),Sn (.aq t),y] (C.at w q))->
   Ph (n+4) 40 [.ab i] j=.aj (.ab (j.length+1)) _:=λt y q k B m Z=>by
  subst m;have J:EX (Ph (n+3)) [Sn (.ab i),none,none,none,none] [] sn.aA j (.aO _ _):=.am (E▸.K R.at (rfl:EV (Ph (n+3)) _ [] .pN j (.ab j.length) (j++[.bE []])) .aq rfl rfl rfl) (.am (.iO Z B) (.A (c t _ y)));exact cj rfl J
 rcases M with⟨rfl,⟨k,u,Z,o,W⟩,b⟩|⟨rfl,b,F⟩|⟨rfl,b⟩
 ·have F:=Sq (Sq (r.bd▸Sq (by refine aa ?_ Sr;exact SH _ _) (TC _ p)) P) (SJ _)
  obtain⟨N,J⟩:=L9 h Y x [] p none b (.inl (aa (λz=>o (Sv z)) Z)) (SJ _) r ((Ud _).symm▸a5 F rfl);exact⟨Sp,λI=>⟨k,u,Z,W⟩,f Sp N _ _ (Sq (SE F) (S2 rfl)) rfl J⟩
 ·have K:34::(w.flatMap fw++[34])++L=34::(w.flatMap fw++34::L):=congrArg (34::·) (Ss _ _ _)
  have g:=r.aD;have m:p+1+(w.flatMap fw).length+1=p+(34::(w.flatMap fw++[34])).length:=by refine aa (aa ?_ Sr) TS;exact congrArg (·+1) (Un p 1 _)
  rw[K]at r;rw[<-m]at g;exact⟨Su,λz=>Bool.noConfusion z,f Su _ _ 2 (by decide) m (.aD (w7 h (of_decide_eq_true rfl) rfl r) (.am (.a6 (h.rd.b r)) (.am (.C (.k9 (.Q .ad .ae) rfl) (.am (.D (.k9 (.Q .ad .ae) rfl) (.am (h.i (.a7 .ad) (L6 h b r F)) .aw)) .aw)) (.am (.a6 .aq) .aw))) (.a (w6 h g Y)))⟩
 ·have K:39::(w++[39])++L=39::(w++39::L):=congrArg (39::·) (Ss _ _ _)
  have g:=r.aD;have m:p+1+w.length+1=p+(39::(w++[39])).length:=by refine aa (aa ?_ Sr) TS;exact congrArg (·+1) (Un p 1 _)
  rw[K]at r;rw[<-m]at g;exact⟨Su,λz=>Bool.noConfusion z,f Su _ _ 2 (by decide) m (.aD (w7 h (of_decide_eq_true rfl) rfl r) (.am (.a6 (h.rd.b r)) (.am (.D (.k9 (.Q .ad .ae) rfl) (.am (h.i (.a7 .ad) (L8 h b r)) .aw)) (.am (.a6 .aq) .aw))) (.a (w6 h g Y)))⟩
noncomputable def lj (wl pl:Nat):List (Nat×V):=[(1,.ae 0),(2,.ab wl),(3,.ab pl)]
noncomputable abbrev Mb:S:=ss.aA.bs
def CO {T} (R:eD q i d T e p l (.ab k) f m) (t:q[k]?=Sn (.a8 0 r)) (s:q[r]?=Sn (.aL (lj z j))) (w:q[z]?=Sn (.ah y)) (o:q[j]?=Sn (.ah g)) (b:z≠j) (n:y.length<1048576) (x:g.length<1048576):
  EX h [Sn (.ab i),Sn v,Sn u] c Mb q (.aD [Sn (.ab i),Sn v,Sn u] ((q.set z (.ah (y++[v]))).set j (.ah (g++[u])))):=.am (.RH (.ay R.at (gq t s rfl)) .ad w n) (.am (.RH (.ay (R.fV w).at (gq (cF t w) (cF s w) rfl)) .ad (eB b o) x) .aw)
def eD.ab {T} (R:eD z i d T e p y q j w):EV k [Sn (.ab i),Sn v,Sn u] c (.tr (.aB .j0 (.ay (.ad 0) 15) .az)) z (.aq (q==.az)) z:=.R8 R.at
def Mc {T} (R:eD q i d T e p g (.ab k) l f) (m:q[k]?=Sn (.a8 0 r)) (c:q[r]?=Sn (.aL (lj z y))) (t:q[z]?=Sn (.ah j)) (s:q[y]?=Sn (.ah w)) (o:z≠y) (b:j.length<1048576) (x:w.length<1048576):
  Ph (n+1) 50 [.ab i,v,u] q=.aj .az ((q.set z (.ah (j++[v]))).set y (.ah (w++[u]))):=by
 have h:EX (Ph n) [Sn (.ab i),Sn v,Sn u] [] ss.aA q _:=.am (.C R.ab .aw) (CO R m c t s o b x);exact cj rfl h
def Md {T} (R:eD q i d T e p r .az g l):Ph (n+2) 50 [.ab i,v,u] q=.aj .az (q.set d (.aL (gN T e p r (.ab (q.length+2)) g l))++[.ah [v],.ah [u],.a8 0 (q.length+3),.aL (lj q.length (q.length+1))]):=by
 let y:=q.set d (.aL (gN T e p r (.ab (q.length+2)) g l))
 have f:y.length=q.length:=SS;let S:=y++[.ah [],.ah [],.a8 0 (q.length+3),.aL (lj q.length (q.length+1))]
 have z:∀k,S[q.length+k]?=_:=f▸bA y _;have h:EX (Ph (n+1)) [Sn (.ab i),Sn v,Sn u] [] ss.aA q (.aD [Sn (.ab i),Sn v,Sn u] ((S.set q.length (.ah [v])).set (q.length+1) (.ah [u]))):=
  .am (.D (.k9 R.ab rfl) (.am ((EX.I (by
    have s:cO (Ph (n+1)) [Sn (.ab i),Sn v,Sn u] [] (.ai (.ay (.ad 0) 1) (.ai (.bj .ao) (.ai (.bj .ao) .ao))) q [.ae 0,.ab q.length,.ab (q.length+1)] (q++[.ah [],.ah []]):=by
     have m:cO (Ph (n+1)) [Sn (.ab i),Sn v,Sn u] [] (.ai (.bj .ao) .ao) (q++[.ah []]) [.ab (q++[O.ah []]).length] (q++[.ah []]++[.ah []]):=.a7 (.bj .ao);rw[Sr,Ss]at m;exact .ai R.at (.ai (.bj .ao) m)
    have c:=EV.dw (k:=0) s (re);rw[Sr,Ss]at c;exact c) .ad (aC R.a8) (aC R.aL)).trans (congrArg (bC.aD _) (Ue _ _ (bQ R.aL)))) .aw)) (CO ⟨aC (cF R.a8 R.aL),aC (dH R.aL)⟩ (z 2) (z 3) (z 0) (z 1) (SQ (Td _)) (by decide) (by decide))
 have t:=λx k o=>f▸hU y x k o;rw[show S.set q.length (.ah [v])=y++_ from t _ 0 _,t]at h;exact cj rfl h
def Me (h:CN w Sp):dY av .d' (.ag w) (.bW 55) j=Su:=by
 refine fh (h rfl) λk u e0 q=>?_;subst e0;have e:∀z,((k::u)==37::z)=Su:=λz=>beq_false_of_ne λy=>q (Uu y).1;show Sn (List.contains [37::_,37::_,37::_,37::_] (k::u))=_;refine aa (aa ?_ Ux) Ux;refine aa (aa ?_ Ux) Ux;refine aS ?_ (e _) (e _);refine aS ?_ (e _) (e _);rfl
def CP {T} (R:eD z i d T e p j y k r) (l:T.length<=100000) (f:mo x w) (m:bP T p (x++L)) (c:mn L) (s:∀t,EX (Ph (n+4)) [Sn (.ab i),Sn (.ae p),Sn (.ag w),Sn (.aq t)] [] (.aU (.tr (.cU 16 (.ad 0) (.ai (.ad 2) (.ai (.ad 1) .ao)))))
   (z.set d (.aL (gN T e (p+x.length) j y k r))++[.bE w,.aX [.ag w,.aq t]]) (.aD [Sn (.ab i),Sn (.ae p),Sn (.ag w),Sn (.aq t)] (u++[.bE w,.aX [.ag w,.aq t]]++g))):
  ∃t,Ph (n+5) 49 [.ab i] z=.aj .az (u++[.bE w,.aX [.ag w,.aq t]]++g):=by
 obtain⟨t,o,b⟩:=Ma R l f m c;let q:=z.set d (.aL (gN T e (p+x.length) j y k r))
 have h:EX (Ph (n+4)) [Sn (.ab i),none,none,none] [] yO.aA z _:=.am (.a6 R.at) (.am (.mK (.RM (.cU .ad R.a8 R.aL .ao b) tJ) (SS▸bA q _ 1) rfl) (.am (.C (by
   induction t using SX with
   |false=>exact .RG .ad
   |true=>exact .and .ad (.E .ad .cr (Me o))) (.am (s t) .aw)) .aw))
 exact⟨t,cj rfl h⟩
def Mf {T} (R:eD q i d T e p y (.ab k) j r) (Y:T.length<=100000) (J:mo x w) (W:bP T p (x++L)) (K:mn L) (P:q[k]?=Sn (.a8 0 f)) (U:q[f]?=Sn (.aL (lj z g))) (m:f≠d) (Q:q[z]?=Sn (.ah l)) (Z:q[g]?=Sn (.ah c)) (G:z≠g) (s:l.length<1048576) (F:c.length<1048576):
  ∃t,Ph (n+5) 49 [.ab i] q=.aj .az (((q.set d (.aL (gN T e (p+x.length) y (.ab k) j r))).set z (.ah (l++[.ag w]))).set g (.ah (c++[.ae p]))++[.bE w,.aX [.ag w,.aq t]]++[]):=by
 refine CP R Y J W K λt=>?_;have o:eD (q.set d _++[.bE w,.aX [.ag w,.aq t]]) i d T e (p+x.length) y (.ab k) j r:=⟨aC (cF R.a8 R.aL),aC (dH R.aL)⟩
 have b:z<(q.set d (.aL (gN T e (p+x.length) y (.ab k) j r))).length:=by refine aa ?_ SS;exact bQ Q
 have a:g<((q.set d (.aL (gN T e (p+x.length) y (.ab k) j r))).set z (.ah (l++[.ag w]))).length:=by refine aa ?_ SS;refine aa ?_ SS;exact bQ Z
 refine aa ?_ (SY _);refine aT ?_ (Ue _ _ a);refine aT ?_ (Ue _ _ b);exact .aU (.RO (.cU .ad o.a8 o.aL (.ai .ad (.a7 .ad)) (Mc (n:=n+3) (v:=.ag w) (u:=.ae p) o (aC (cF P R.aL)) (aC (eB m.symm U)) (aC (cF Q R.aL)) (aC (cF Z R.aL)) G s F)) (lg.trans lg))
def Mg {T} (R:eD q i d T e p y .az j k) (l:T.length<=100000) (f:mo x w) (m:bP T p (x++L)) (c:mn L):
  ∃t,Ph (n+5) 49 [.ab i] q=.aj .az (q.set d (.aL (gN T e (p+x.length) y (.ab (q.length+4)) j k))++[.bE w,.aX [.ag w,.aq t]]++[.ah [.ag w],.ah [.ae p],.a8 0 (q.length+5),.aL (lj (q.length+2) (q.length+3))]):=by
 refine CP R l f m c λt=>?_;have r:eD (q.set d _++[.bE w,.aX [.ag w,.aq t]]) i d T e (p+x.length) y .az j k:=⟨aC (cF R.a8 R.aL),aC (dH R.aL)⟩
 have h:=Md (n:=n+2) (v:=.ag w) (u:=.ae p) r;have g:(q.set d (.aL (gN T e (p+x.length) y .az j k))++[O.bE w,.aX [.ag w,.aq t]]).length=q.length+2:=by refine aa ?_ Sr;refine aa ?_ SS;rfl
 have s:d<(q.set d (.aL (gN T e (p+x.length) y .az j k))).length:=by refine aa ?_ SS;exact bQ R.aL
 rw[g,Ue _ _ s,VG]at h;refine .aU (.R9 (.cU .ad r.a8 r.aL (.ai .ad (.a7 .ad)) h) ?_);refine nG r.aL (aC (aC (dH R.aL))) (beq_false_of_ne λz=>nomatch(congrArg (λo:O=>match o with| .aL b=>b.lookup 15|_=>none) z:Sn V.az=(V.ab _))) ?_;refine aa ?_ g;exact Vn.mpr ⟨(15,.ab (q.length+4)),.tail _ (.tail _ (.tail _ (.tail _ (.tail _ (.head _))))),λz=>TN.mpr (SF (of_decide_eq_true rfl:2<=4) q.length) (of_decide_eq_true z)⟩
structure bG where
 bI:Nat
 tK:Nat
 bF:Nat
 dn:Nat
 bJ:List (List Nat)
structure bG.n (k:bG) (σ:List O) (lo hi:Nat):Prop where
 aZ:σ[k.bI]?=Sn (.a8 0 k.tK)
 dm:σ[k.tK]?=Sn (.aL (lj k.bF k.dn))
 bg:σ[k.bF]?=Sn (.ah (k.bJ.map .ag))
 bU:∃ps:List Int,σ[k.dn]?=Sn (.ah (ps.map .ae))/\ps.length=k.bJ.length
 bM:k.bF≠k.dn
 cP:lo<=k.bI/\lo<=k.tK/\lo<=k.bF/\lo<=k.dn
 iD:k.bI<hi/\k.tK<hi/\k.bF<hi/\k.dn<hi
def bG.n.fV {k:bG} {z y} (h:k.n j z y) (g:∀a,z<=a->a<y->q[a]?=j[a]?):k.n q z y:=
 ⟨(g _ h.cP.1 h.iD.1).trans h.aZ,(g _ h.cP.2.1 h.iD.2.1).trans h.dm,(g _ h.cP.2.2.1 h.iD.2.2.1).trans h.bg,let⟨w,p,r⟩:=h.bU;⟨w,(g _ h.cP.2.2.2 h.iD.2.2.2).trans p,r⟩,h.bM,h.cP,h.iD⟩
def bG.n.d {k:bG} {w p} (h:k.n r w p) (y:q<=w) (j:p<=z):k.n r q z:=
 ⟨h.aZ,h.dm,h.bg,h.bU,h.bM,⟨Sq y h.cP.1,Sq y h.cP.2.1,Sq y h.cP.2.2.1,Sq y h.cP.2.2.2⟩,⟨SA h.iD.1 j,SA h.iD.2.1 j,SA h.iD.2.2.1 j,SA h.iD.2.2.2 j⟩⟩
noncomputable def nH:Option bG->V
 |none=>.az
 |some k=>.ab k.bI
structure ll where
 pj:List O
 b9:Nat
 aZ:Nat
 cS:Nat
 bZ:List Nat
 ce:V
 eT:Nat
 ju:Nat
 km:Nat
noncomputable def ll.aL (Q:ll) (p:Nat) (cmd:V):O:=.aL (gN Q.bZ Q.ce p Q.eT cmd Q.ju Q.km)
abbrev ll.eD (Q:ll) (σ:List O) (p:Nat) (cmd:V):Prop:=Internal.eD σ Q.aZ Q.cS Q.bZ Q.ce p Q.eT cmd Q.ju Q.km
structure dI (Q:ll) (σ:List O) (p m:Nat) (ks:List bG) (cur:Option bG):Prop where
 ee:∀a,a<Q.pj.length->σ[a]?=Q.pj[a]?
 rd:Q.eD σ p (nH cur)
 cS:Q.pj.length<=Q.cS/\Q.cS<Q.b9
 eN:Q.pj.length<=Q.eT/\Q.eT<Q.b9
 bs:Q.ju<Q.b9/\Q.km<Q.b9/\Q.b9<=m/\m<=σ.length
 aK:c8 Q.b9 Q.ce=Sp
 jR:σ[Q.ju]?=Sn (.ah [])
 jc:σ[Q.km]?=Sn (.ah [])
 gr:σ[Q.eT]?=Sn (.ah (ks.map λk=>.ab k.bI))
 jS:Q.eT≠Q.ju/\Q.eT≠Q.km
 dF:∀k∈ks,k.n σ Q.b9 m
 fG:ks.Pairwise λk k'=>k.bF≠k'.bF
 kn:(ks++cur.toList).length<=p
 jz:∀k,cur=Sn k->k.n σ m σ.length/\k.bJ.length<=p
 bX:Q.bZ.length<=100000
def w8 {c:Nat} (h:a<b) (q:b<=c):a≠c:=SQ (SA h q)
def dI.B0 {q} (h:dI Q z p m y q):Q.pj.length<=Q.b9:=Sq h.cS.1 (Tu h.cS.2)
def dI.b {q} (h:dI Q z p m y q) (j:a<Q.pj.length):Q.cS≠a:=TB (SA j h.cS.1)
def dI.RN {q} (h:dI Q z p m y q) (j:Q.b9<=a):Q.cS≠a:=w8 h.cS.2 j
def dI.oF {cur} (h:dI Q w p m r cur) (y:p<=q):dI Q (w.set Q.cS (Q.aL q (nH cur))) q m r cur where
 ee a z:=(Ti (h.b z)).trans (h.ee a z)
 rd:=⟨cF h.rd.a8 h.rd.aL,dH h.rd.aL⟩
 cS:=h.cS
 eN:=h.eN
 bs:=⟨h.bs.1,h.bs.2.1,h.bs.2.2.1,Sq h.bs.2.2.2 (To SS.symm)⟩
 aK:=h.aK
 jR:=cF h.jR h.rd.aL
 jc:=cF h.jc h.rd.aL
 gr:=cF h.gr h.rd.aL
 jS:=h.jS
 dF k j:=(h.dF k j).fV λa z u=>Ti (h.RN z)
 fG:=h.fG
 jz k j:=⟨aa ((h.jz k j).1.fV λa z u=>Ti (h.RN (Sq h.bs.2.2.1 z))) SS,Sq (h.jz k j).2 y⟩
 kn:=Sq h.kn y
 bX:=h.bX
def dI.C (h:dI Q w p m j (Sn k)):dI Q ((w.set Q.eT (.ah ((j++[k]).map λk=>.ab k.bI))).set Q.cS (Q.aL p .az)) p w.length (j++[k]) none where
 ee a z:=(Ti (h.b z)).trans ((Ti (TB (SA z h.eN.1))).trans (h.ee a z))
 rd:=⟨cF (h.rd.fV h.gr).a8 (h.rd.fV h.gr).aL,dH (h.rd.fV h.gr).aL⟩
 cS:=h.cS
 eN:=h.eN
 bs:=⟨h.bs.1,h.bs.2.1,Sq h.bs.2.2.1 h.bs.2.2.2,To (SS.trans SS).symm⟩
 aK:=h.aK
 jR:=cF (eB h.jS.1 h.jR) (cF h.rd.aL h.gr)
 jc:=cF (eB h.jS.2 h.jc) (cF h.rd.aL h.gr)
 gr:=cF (dH h.gr) (cF h.rd.aL h.gr)
 jS:=h.jS
 dF x q:=by
  have r:=(h.jz k rfl).1;refine bG.n.fV ?_ λa z g=>(Ti (h.RN z)).trans (Ti (w8 h.eN.2 z));rcases Tn.mp q with q|q
  ·exact(h.dF x q).d (SJ _) h.bs.2.2.2
  ·exact SP.mp q▸r.d h.bs.2.2.1 (SJ _)
 fG:=List.pairwise_append.mpr ⟨h.fG,List.pairwise_singleton _ _,λx q y u=>SP.mp u▸w8 (h.dF x q).iD.2.2.1 (h.jz k rfl).1.cP.2.2.1⟩
 jz _ r:=nomatch r
 kn:=(SY (j++[k])).symm▸h.kn
 bX:=h.bX
def dI.RH (h:dI Q l p m f (Sn k)) {r:List Int} (t:l[k.dn]?=Sn (.ah (r.map .ae))) (s:r.length=k.bJ.length) (o:k.bJ.length<p):dI Q ((l.set k.bF (.ah (k.bJ.map .ag++[.ag w]))).set k.dn (.ah (r.map .ae++[.ae v]))) p m f (Sn {k with bJ:=k.bJ++[w]}):=
 have g:=(h.jz k rfl).1;have q:=eB g.bM t;have e:=λa y=>(λa y i=>(Ti i).trans (Ti y)) a (TB (SA y g.cP.2.2.1)) (TB (SA y g.cP.2.2.2));have z:=λa y=>e a (SA y h.bs.2.2.1)
 {ee:=λa u=>(z a (SA u h.B0)).trans (h.ee a u)
  rd:=(h.rd.fV g.bg).fV q
  cS:=h.cS
  eN:=h.eN
  bs:=⟨h.bs.1,h.bs.2.1,h.bs.2.2.1,Sq h.bs.2.2.2 (To (SS.trans SS).symm)⟩
  aK:=h.aK
  jR:=(z _ h.bs.1).trans h.jR
  jc:=(z _ h.bs.2.1).trans h.jc
  gr:=(z _ h.eN.2).trans h.gr
  jS:=h.jS
  dF:=λx j=>(h.dF x j).fV λa Z u=>e a u
  fG:=h.fG
  jz:=λx j=>by
   replace j:=Sv j;subst j;refine⟨⟨cF (cF g.aZ g.bg) q,cF (cF g.dm g.bg) q,(eB g.bM.symm (dH g.bg)).trans (by refine aa ?_ Ta;rfl),⟨r++[v],(dH q).trans (by refine aa ?_ Ta;rfl),by refine aS ?_ Sr Sr;refine aa ?_ s;rfl⟩,g.bM,g.cP,?_⟩,aa o Sr⟩;exact aa (aa g.iD SS) SS
  kn:=by have:=h.kn;rw[Sr]at this⊢;exact this
  bX:=h.bX}
def dI.c (h:dI Q z p m J none) (j:p<q):dI Q (z.set Q.cS (Q.aL q (.ab (z.length+4)))++[l,f]++[.ah [.ag w],.ah [.ae v],.a8 0 (z.length+5),.aL (lj (z.length+2) (z.length+3))]) q m J (Sn ⟨z.length+4,z.length+5,z.length+2,z.length+3,[w]⟩):=by
 let y:=z.set Q.cS (Q.aL q (.ab (z.length+4)))
 let Z:List O:=[.ah [.ag w],.ah [.ae v],.a8 0 (z.length+5),.aL (lj (z.length+2) (z.length+3))]
 have e:y.length=z.length:=SS;have Y:∀(a) o,a≠Q.cS->z[a]?=Sn o->∀W r,(y++W++r)[a]?=o:=λa o U G W r=>aC (aC (eB U.symm G));have t:∀k,(y++[l,f]++Z)[z.length+k]?=_[k]?:=λk=>by refine aa ?_ (Ss _ _ _);exact e▸bA y _ k
 have P:(y++[l,f]++Z).length=z.length+6:=by refine aa ?_ (Ss _ _ _);refine aa ?_ Sr;refine aa ?_ e;rfl
 have s:=h.bs.2.2.2;refine{ee:=λa u=>?_,rd:=⟨aC (aC (cF h.rd.a8 h.rd.aL)),aC (aC (dH h.rd.aL))⟩,cS:=h.cS,eN:=h.eN,bs:=⟨h.bs.1,h.bs.2.1,h.bs.2.2.1,P▸Sq s (SH _ 6)⟩,aK:=h.aK,jR:=Y _ _ (fQ h.rd.aL h.jR) h.jR _ _,jc:=Y _ _ (fQ h.rd.aL h.jc) h.jc _ _,gr:=Y _ _ (fQ h.rd.aL h.gr) h.gr _ _,jS:=h.jS,dF:=λx g=>(h.dF x g).fV λa L u=>?_,fG:=h.fG,jz:=λx g=>?_,kn:=?_,bX:=h.bX}
 ·have:=SA u (Sq (Sq h.B0 h.bs.2.2.1) s)
  refine aa ?_ (Ss _ _ _);refine aa ?_ (SM (e.symm▸this));refine aa ?_ (Ti (h.b u));exact h.ee a u
 ·have:=SA u s
  refine aa ?_ (Ss _ _ _);refine aa ?_ (SM (e.symm▸this));exact(Ti (h.RN L))
 ·refine aa ?_ Sr
  have:=h.kn;rw[Sr]at this;exact S8 this j
 ·replace g:=Sv g;subst g
  have n:=λk=>Sq s (SH _ k);have i:∀k,k<6->z.length+k<(y++[l,f]++Z).length:=λk F=>P.symm▸Vw F _;exact⟨⟨t 4,t 5,t 2,⟨[v],t 3,rfl⟩,SQ (Td _),⟨n 4,n 5,n 2,n 3⟩,⟨i 4 (by decide),i 5 (by decide),i 2 (by decide),i 3 (by decide)⟩⟩,S8 (S6 p) j⟩
def Mh (h:dI Q q p m y z):Ph (n+1) 47 [.ab Q.aZ] q=.aj (.aq Sp) q:=by
 have w:EX (Ph n) [Sn (.ab Q.aZ)] [] yN.aA q _:=.A (.aO (.RX (.tr (.aB h.rd.at (.bj .ao) (lh (aC h.jc) bV (SQ (bQ h.jc)))))));exact cj rfl w
def CQ (h:dI Q z p m j y) (g:p<=100000):∃q l,Ph (n+2) 48 [.ab Q.aZ] z=.aj .az q/\q.length=z.length/\dI Q q p l (j++y.toList) none:=by
 have u:∀q,q.length=z.length->Internal.eD q Q.aZ Q.cS Q.bZ Q.ce p Q.eT (nH y) Q.ju Q.km->EX (Ph (n+1)) [Sn (.ab Q.aZ)] [] (.am (.a6 (.ay (.ad 0) 15) .az) .aw) q (.aD [Sn (.ab Q.aZ)] (q.set Q.cS (Q.aL p .az))):=λq c R=>.am (.I .az .ad R.a8 R.aL) .aw;induction y using Tr with
 |none=>
  have w:EX (Ph (n+1)) _ [] u5.aA z _:=.am (.C (.RG (.k9 (.RE h.rd.at) rfl)) .aw) (u z rfl h.rd);replace w:=(pi h.rd.aL)▸w;exact⟨z,m,cj rfl w,rfl,(SY j).symm▸h⟩
 |some k=>
  have w:EX (Ph (n+1)) _ [] u5.aA z (.aD _ ((z.set Q.eT (.ah (_++[.ab k.bI]))).set Q.cS (Q.aL p .az))):=
   .am (.D (.and (.k9 (.RE h.rd.at) rfl) (.P (.cU .ad h.rd.a8 h.rd.aL .ao (Mh h)))) (.am (.RH h.rd.at h.rd.at h.gr (aa (SA (by
     have:=h.kn;rw[Sr]at this;exact this) (a5 g rfl)) (Sx _))) .aw)) (u _ lg (h.rd.fV h.gr))
  rw[show _++[.ab k.bI]=(j++[k]).map λk=>V.ab k.bI from(Ta (l₂:=[k])).symm]at w;exact⟨_,_,cj rfl w,SS.trans SS,h.C⟩
def Mi (h:dI Q z p m y q):Ph (n+1) 45 [.ab Q.aZ,.ae 32] z=.aj .az (z.set Q.cS (Q.aL (p+1) (nH q))):=by
 have j:EX (Ph n) [Sn (.ab Q.aZ),Sn (.ae 32)] [] u4.aA z _:=
  .am (h.rd.oF (h.rd.m 1)) (.am (.C (.k9 (.RL (.Q .ad .ae) (.Q .ad .ae)) rfl) .aw) (.am (.C (.k9 (.Q .ad .ae) rfl) .aw) .aw))
 exact cj rfl j
def Mj (h:dI Q y p m w z) (r:p+1<=100000):∃q j,Ph (n+3) 45 [.ab Q.aZ,.ae 59] y=.aj .az q/\q.length=y.length/\dI Q q (p+1) j (w++z.toList) none:=by
 refine aQ λG u=>?_;have g:=h.oF (Tx p);obtain⟨q,j,l,k,f⟩:=CQ g r;refine u ?_;have c:EX _ [Sn (.ab Q.aZ),Sn (.ae 59)] [] u4.aA y _:=
  .am (h.rd.oF (h.rd.m 1)) (.am (.D (.k9 (.RL (.Q .ad .ae) (.Q .ad .ae)) rfl) (.am (.aU (.RO (.cU .ad g.rd.a8 g.rd.aL .ao l) k)) .aw)) (.am (.C (.k9 (.Q .ad .ae) rfl) .aw) .aw))
 exact⟨q,j,cj rfl c,k.trans SS,f⟩
noncomputable def rf (c:Int):Bool:= !(c==123)&&(!(c==125)&&(!(c==35)&&!(c==92)))
def Mk:∀k,k<256->im k=Sp->rf k=Sp:=by decide+kernel
def Ml (h:rf k=Sp):(k==123)=Su/\(k==125)=Su/\(k==35)=Su/\(k==92)=Su:=by
 have q:=Sz.mp h;have z:=Sz.mp q.2;have y:=Sz.mp z.2;exact⟨Vm _|>.mp q.1,Vm _|>.mp z.1,Vm _|>.mp y.1,Vm _|>.mp y.2⟩
def mo.a (h:mo x w):∃k u,x=k::u/\k<256/\rf k=Sp/\md [32,9,13,10,59,125] k=Su:=by
 rcases h with⟨rfl,⟨k,u,rfl,-⟩,q⟩|⟨rfl,-⟩|⟨rfl,-⟩
 ·have:=q k (.head _)
  exact⟨k,u,rfl,this.1,Mk k this.1 this.2,(CM k this.1 this.2).1⟩
 ·exact⟨34,_,rfl,of_decide_eq_true rfl,rfl,rfl⟩
 ·exact⟨39,_,rfl,of_decide_eq_true rfl,rfl,rfl⟩
noncomputable abbrev Mm:X:=sr.aA.fW.d
noncomputable abbrev rg:S:=sr.aA.fW.fW
noncomputable abbrev Mn:S:=rg.bs.fW.bs.fW.bs.fW.bs
def w9 {Q:ll} (h:Q.eD j p w) (u:bP Q.bZ p (k::L)) (g:rf k=Sp) (l:∀s t,Mn=.am (.aY (.and (.tr (.aB .bp (.ad 1) (.ae 92))) t) s (.am (.aY (.tr (.aB .d' (.ad 1) (.cr (.ag [32,9,13,10,59,125])))) (.am (.aU (.tr (.cU 11 (.ad 0) (.ai (.ad 1) .ao)))) .aw) (.am (.aU (.tr (.cU 15 (.ad 0) .ao))) .aw)) .aw)) .aw->
   EX r [Sn (.ab Q.aZ),Sn (.ae k),z] c (.am (.aY (.tr (.aB .d' (.ad 1) (.cr (.ag [32,9,13,10,59,125])))) (.am (.aU (.tr (.cU 11 (.ad 0) (.ai (.ad 1) .ao)))) .aw) (.am (.aU (.tr (.cU 15 (.ad 0) .ao))) .aw)) .aw) j (.aD [Sn (.ab Q.aZ),Sn (.ae k),z] q)):
  EX r [Sn (.ab Q.aZ),y,z] c rg j (.aD [Sn (.ab Q.aZ),Sn (.ae k),z] q):=by
 refine aQ λG f=>?_;refine j5 (Ml g) λm e d o=>?_;exact f (.am (.a6 (h.b u)) (.am (.C (.k9 (.Q .ad .ae) m) (.am (.C (.k9 (.Q .ad .ae) e) (.am (.C (.k9 (.Q .ad .ae) d) (.am (.C (.RG (.k9 (.Q .ad .ae) o)) (l _ _ rfl)) .aw)) .aw)) .aw)) .aw))
inductive eQ where
 |gn
 |pk
 |nI (x:List Nat)
 |lm (x w:List Nat)
noncomputable def eQ.e:eQ->List Nat
 | .gn=>[32]| .pk=>[59]| .nI x=>35::x| .lm x _=>x
noncomputable abbrev Ws:=List (List Nat)
noncomputable def eQ.b (q:List Ws×Option Ws):eQ->List Ws×Option Ws
 | .gn=>q| .pk=>(q.1++q.2.toList,none)| .nI _=>q| .lm _ w=>(q.1,Sn (q.2.getD []++[w]))
noncomputable def ln (cs:List eQ):List Nat:=cs.flatMap eQ.e
noncomputable def eQ.n (L:List Nat):eQ->Prop
 | .nI x=>L=[]/\∀c∈x,c≠10
 | .lm x w=>mo x w/\mn L
 |_=>True
noncomputable def nJ:List eQ->Prop
 |[]=>True
 |c::r=>c.n (ln r)/\nJ r
noncomputable def tL (ks:List bG) (cur:Option bG):List Ws×Option Ws:=(ks.map bG.bJ,cur.map bG.bJ)
inductive Mq (n:Nat) (Q:ll) (c:eQ) (L:List Nat) (ks:List bG) (cur:Option bG) (y z:Option V) (σ:List O):Prop where
 |mk {y' z':Option V} {c_:List O} {p' m':Nat} {F1:List bG} {F2:Option bG} (h1:EX (Ph n) [Sn (.ab Q.aZ),y,z] [] rg σ (.aD [Sn (.ab Q.aZ),y',z'] c_)) (h2:dI Q c_ p' m' F1 F2) (h3:bP Q.bZ p' L) (h4:tL F1 F2=c.b (tL ks cur))
theorem CR (h:a<=b):∀{v},c8 a v=Sp->c8 b v=Sp
 | .ab _,q=>decide_eq_true (SA (of_decide_eq_true q) h)
 | .az,_=>rfl
 | .aq _,_=>rfl
 | .ae _,_=>rfl
 | .ag _,_=>rfl
 | .bx _,_=>rfl
 | .bW _,_=>rfl
def dI.RB {y} (h:dI Q j p m u y):jH j.length (Q.aL q (nH y))=Sp:=by
 have w:=Sq h.bs.2.2.1 h.bs.2.2.2;have g:c8 j.length (nH y)=Sp:=by
  induction y using Tr with
  |none=>rfl
  |some k=>exact decide_eq_true (h.jz k rfl).1.iD.1
 have r:∀{a},a<Q.b9->c8 j.length (.ab a)=Sp:=λz=>decide_eq_true (SA z w);show(c8 j.length Q.ce&&(c8 j.length (.ab Q.eT)&&(c8 j.length (nH y)&&(c8 j.length (.ab Q.ju)&&(c8 j.length (.ab Q.km)&&Sp)))))=Sp;refine aa (aa ?_ (r h.eN.2)) (CR w h.aK);refine aa (aa ?_ (r h.bs.1)) g;refine aa ?_ (r h.bs.2.1);rfl
def CS {g} (y:∀a,c8 n (g a)=Sp) (l:List z):jH n (.ah (l.map g++[g a]))=Sp:=SN.mpr λx q=>by
 rcases Tn.mp q with q|q
 ·refine aP (Xr.mp q) λa _ e0=>?_;subst e0;exact y a
 ·exact SP.mp q▸y a
def Mo (w):∀k,(∀c∈w,c≠q)->j1 [q] k w=none:=by
 induction w with
 |nil=>exact λy y=>rfl
 |cons c w j=>exact λk h=>(if_neg λz=>h c (.head _) (beq_iff_eq.mp (Sz.mp z).1).symm).trans (j _ λd m=>h d (.tail _ m))
def CU {Q:ll} {k:Nat} (h:Q.eD q p w) (u:Ph (n+5) 49 [.ab Q.aZ] q=.aj .az r) (g:EV (Ph (n+5)) [Sn (.ab Q.aZ),Sn (.ae k),z] [] (.cU 15 (.ad 0) .ao) q .az r->EV (Ph (n+5)) [Sn (.ab Q.aZ),Sn (.ae k),z] [] (.tr (.cU 15 (.ad 0) .ao)) q .az j) (l:bP Q.bZ p (k::M)) (f:k<256) (m:rf k=Sp) (c:md [32,9,13,10,59,125] k=Su):
  EX (Ph (n+5)) [Sn (.ab Q.aZ),y,z] [] rg q (.aD [Sn (.ab Q.aZ),Sn (.ae k),z] j):=
 w9 h l m λs t e=>.am (.C (.E .ad .cr ((tC f).trans (congrArg Sn c))) (.am (.aU (g (.cU .ad h.a8 h.aL .ao u))) .aw)) .aw
def Mp (h:dI Q q p m g j) (l:∀c∈x,c≠10) (w:bP Q.bZ p (35::x)):Mq n Q (.nI x) [] g j y z q:=by
 have f:gy Q.bZ [10] p=-1:=by
  delta gy;refine aa ?_ w.bp;exact aa rfl (Mo (35::x) p λc u=>by
   rcases Tq.mp u with rfl|u
   ·exact of_decide_eq_true rfl
   ·exact l c u)
 have e:ei av .lE (.ag Q.bZ) [.ag [10],.ae p] q=.aj (.ae (-1)) q:=(if_pos (by
  rewrite[Sz];rewrite[Sz];exact⟨⟨rfl,decide_eq_true (TA _)⟩,decide_eq_true (T7.mpr w.bY)⟩)).trans (congrArg (λz=>R.aj (V.ae z) _) f)
 exact .mk (.am (.a6 (h.rd.b w)) (.am (.C (.k9 (.Q .ad .ae) rfl) (.am (.C (.k9 (.Q .ad .ae) rfl) (.am (.D (.k9 (.Q .ad .ae) rfl) (.am (.a6 (.P (.bK h.rd.at rfl (.ai .ag (.a7 h.rd.at)) rfl e))) (.am (h.rd.oF (.C (.k9 (.lC .ad .ae) rfl) (w.bd▸.RJ h.rd.at))) .aw))) .aw)) .aw)) .aw)) (h.oF (SH p _)) (((SY (35::x)).symm▸w).aD) rfl
def Mr (h:dI Q r p m u q) (j:bP Q.bZ p (c.e++L)) (k:c.n L):Mq (n+5) Q c L u q y z r:=by
 induction c using eQ.casesOn with
 |gn=>exact(.mk (w9 h.rd j rfl λs t r=>.am (.D (.E .ad .cr rfl) (.am (.aU (.RO (.cU .ad h.rd.a8 h.rd.aL (.a7 .ad) (Mi h)) lg)) .aw)) .aw) (h.oF (Tx p)) j.b rfl)
 |pk=>exact(by
  obtain⟨b,Z,D,B,N⟩:=Mj h (Sq j.b.bY h.bX);refine .mk (w9 h.rd j rfl λI H A=>.am (.D (.E .ad .cr rfl) (.am (.aU (.RO (.cU .ad h.rd.a8 h.rd.aL (.a7 .ad) D) B)) .aw)) .aw) N j.b ?_;induction q using Tr with
  |none=>exact congrArg (λz=>(z,none)) ((congrArg _ (SY u)).trans (SY _).symm)
  |some k=>exact congrArg (λz=>(z,none)) Ta)
 |nI x=>
  obtain⟨rfl,g⟩:=k;exact Mp h g (SY (35::x)▸j)
 |lm x w=>exact(by
  refine Ek k.1.a λs i e0 Y J W=>?_;subst e0;have l:p<p+(s::i).length:=TY (T9 _);induction q using Tr with
  |none=>
   obtain⟨t,d⟩:=Mg h.rd h.bX k.1 j k.2;have a:=dI.c (w:=w) (v:=p) (l:=.bE w) (f:=.aX [.ag w,.aq t]) h l;exact .mk (CU h.rd d (λz=>.R9 z (nG h.rd.aL a.rd.aL (beq_false_of_ne λz=>nomatch(congrArg (λo:O=>match o with| .aL F=>F.lookup 15|_=>none) z:Sn V.az=(V.ab _))) (Vn.mpr ⟨_,.tail _ (.tail _ (.tail _ (.tail _ (.tail _ (.head _))))),λz=>TN.mpr (SH _ 4) (of_decide_eq_true z)⟩))) j Y J W) a j.aD rfl
  |some K=>
   refine aQ λG M=>?_;obtain⟨f,U⟩:=h.jz K rfl;refine aP f.bU λC P e=>?_;have T:K.bJ.length<1048576:=S8 (Sq U (Sq j.bY h.bX)) (of_decide_eq_true rfl);obtain⟨t,d⟩:=Mf h.rd h.bX k.1 j k.2 f.aZ f.dm (h.RN (Sq h.bs.2.2.1 f.cP.2.1)).symm f.bg P f.bM (aa T (Sx _)) (aa (aa T e) (Sx _));rw[SY]at d;exact M (.mk (CU h.rd d (λz=>.Sl z (((jQ.E.B h.RB).B (CS (λE=>rfl) K.bJ)).B (CS (λE=>rfl) C))) j Y J W) (dI.RH (h.oF (Tu l)) (cF P h.rd.aL) e (S8 U l)) j.aD rfl))
def eQ.d {c:eQ} (h:c.n L):∃k u,c.e=k::u:=by
 induction c using eQ.casesOn with
 |gn=>exact⟨_,_,rfl⟩
 |pk=>exact⟨_,_,rfl⟩
 |nI x=>exact⟨_,_,rfl⟩
 |lm x w=>refine fh h.1.a λk u h _=>?_;exact⟨k,u,h⟩
inductive QZ (n:Nat) (Q:ll) (cs:List eQ) (ks:List bG) (cur:Option bG) (y z:Option V) (σ:List O):Prop where
 |mk {y' z':Option V} {c_:List O} {p' m':Nat} {F1:List bG} {F2:Option bG} (h1:WL (Ph n) [] Mm rg (cs.length+1) [Sn (.ab Q.aZ),y,z] σ (.aD [Sn (.ab Q.aZ),y',z'] c_)) (h2:dI Q c_ p' m' F1 F2) (h3:p'<=100000) (h4:tL F1 F2=cs.foldl eQ.b (tL ks cur))
def Ms (j):∀{g} {p m} {l} {q} {y z},dI Q g p m l q->bP Q.bZ p (ln j)->nJ j->QZ (n+5) Q j l q y z g:=by
 induction j with
 |nil=>exact λh w Y=>⟨.a (.k9 (.bX h.rd.at (.RJ h.rd.at)) w.Ir),h,Sq w.bY h.bX,rfl⟩
 |cons c j e=>
  intro g p m l q y z h w f;refine aQ λG t=>?_;refine pU (eQ.d f.1) λk u d=>?_;have r:bP Q.bZ p (c.e++ln j):=w;rw[d]at r;obtain⟨s,o,b,v⟩:=Mr h w f.1;obtain⟨i,x,a,Z⟩:=e o b f.2;exact t ⟨.aD (.k9 (.bX h.rd.at (.RJ h.rd.at)) r.x) s i,x,a,Z.trans (congrArg (List.foldl eQ.b · j) v)⟩
def CV (z:q[i]?=Sn (.ah [])) (j:EV y l c a q (.ab i) q):EV y l c (.tr (.aB .bM a (.bj .ao))) q (.aq Su) q:=
 .tr (.aB j (.bj .ao) (congrArg (UA not) (lh (aC z) bV (SQ (bQ z)):dY av .bp _ _ _=Sp)))
def Mt (h:dI Q k 0 m [] none) (u:Q.bZ=ln q) (g:nJ q) (l:q.length<jI):∃z f c y,Ph (n+6) 44 [.ab Q.aZ] k=.aj (.ab Q.eT) z/\dI Q z f c y none/\y.map bG.bJ=(q.foldl eQ.b ([],none)).1++(q.foldl eQ.b ([],none)).2.toList:=by
 refine aQ λG e=>?_;obtain@⟨_,_,_,_,_,t,w,d,p,s,o⟩:=Ms q h ⟨u,S6 _⟩ g;obtain⟨r,b,v,i,j⟩:=CQ p s;have x:EX _ _ [] sr.aA k _:=.am (.iO d l) (.am (.aU (.RO (.cU .ad p.rd.a8 p.rd.aL .ao v) i)) (.am (.C (CV j.jR j.rd.at) .aw) (.am (.C (CV j.jc j.rd.at) .aw) (.A (.aO j.rd.at)))));refine e ?_;refine⟨r,_,b,_,cj rfl x,j,?_⟩;refine aS ?_ Ta o.symm;induction w using Tr<;>rfl
def EV.R':EV y l c (.bj .ao) (z++(o::p::q)) (.ab (z.length+(q.length+2))) (z++(o::p::(q++[.ah []]))):=by
 have h:EV y l c (.bj .ao) (z++(o::p::q)) _ _:=.bj .ao;rw[Sr,Ss]at h;exact h
inductive xa (σ:List O) (r:bC) (ws:List Ws):Prop where
 |mk {τ:List O} {cl:Nat} {ks:List bG} (h:r=.aO (.ab cl) (σ++τ)) (lo:σ.length<=cl) (c:(σ++τ)[cl]?=Sn (.ah (ks.map λk=>.ab k.bI))) (all:∀k∈ks,k.n (σ++τ) σ.length (σ++τ).length) (ap:ks.Pairwise λk k'=>k.bF≠k'.bF) (hw:ks.map bG.bJ=ws)
noncomputable def pn (Q1:List eQ):List Ws:=(Q1.foldl eQ.b ([],none)).1++(Q1.foldl eQ.b ([],none)).2.toList
def nK {q:List j} (h:∀a,a<y.length->q[a]?=y[a]?) (w:y.length<=q.length):q=y++q.drop y.length:=by
 refine List.ext_getElem? λa=>?_;rcases YA a y.length with z|z
 ·refine aa ?_ (SM z);exact(h a z)
 ·refine aa (aa ?_ V3) (Ts z);exact aa rfl (VU z)
def CW {T} (Y:T.length<=100000) (J:T=ln y) (W:nJ y) (K:y.length<jI) (P:∀a,a<p.length->q[a]?=p[a]?) (u:p.length<=q.length) (U:c8 q.length e=Sp) (G:cO (Ph (n+6)) l c s p [.ag T,e,.az] q):xa p (Internal.aU (Ph (n+6)) av (.aO (.tr (.cU 18 (.dw 4 s) .ao))) l c p) (pn y):=by
 let w:=q++[.a8 4 (q.length+1),.aL (gN T e 0 (q.length+2) .az (q.length+3) (q.length+4)),.ah [],.ah [],.ah []]
 let Q:ll:=⟨p,q.length+5,q.length,q.length+1,T,e,q.length+2,q.length+3,q.length+4⟩
 have z:∀k,w[q.length+k]?=_:=bA q _;have v:w.length=q.length+5:=Sr;have f:∀{k j},k<j->q.length+k<q.length+j:=λh=>Vw h _;have h:dI Q w 0 _ [] none:=
  {ee:=λa i=>(SM (SA i u)).trans (P a i),rd:=⟨z 0,z 1⟩,cS:=⟨UJ u,f (by decide)⟩,eN:=⟨Sq u (SH _ 2),f (by decide)⟩,bs:=⟨f (by decide),f (by decide),SJ _,To v.symm⟩
   aK:=CR (SH _ 5) U,jR:=z 3,jc:=z 4,gr:=z 2,jS:=⟨SQ (f (by decide)),SQ (f (by decide))⟩,dF:=(λL h=>nomatch h),fG:=.nil,kn:=SJ _,jz:=(λL h=>nomatch h),bX:=Y}
 obtain⟨o,D,B,N,F,g,M⟩:=Mt h J W K;have x:w.length<=o.length:=aa (Sq g.bs.2.2.1 g.bs.2.2.2) v;have Z:EX (Ph (n+6)) l c (.aO (.tr (.cU 18 (.dw 4 s) .ao))) p _:=
  .aO (.RM (.cU (EV.dw G (by
   have z:EX (Ph (n+4)) [Sn (.ab q.length),Sn (.ag T),Sn e] [] yL.aA (q++[.a8 4 (q.length+1),.aL []]) _:=.am (.dw .ad) (.am (.dw .ad) (.am (.dw .ae) .aw));have y:Ph ((n+4)+1) 38 [.ab q.length,.ag T,e] (q++[.a8 4 (q.length+1),.aL []])=.aj .az _:=cj rfl z;have h:EX (Ph ((n+4)+1)) [Sn (.ab q.length),Sn (.ag T),Sn e,Sn .az] [] u2.aA (q++[.a8 4 (q.length+1),.aL []]) _:=
    .am (.aU (.RO (.cU .ad (bA q _ 0) (bA q _ 1) (.ai .ad (.a7 .ad)) y) (by refine aS ?_ Sr Sr;rfl))) (.am (.dw .ad) (.am (.dw .R') (.am (.dw .az) (.am (.dw .ae) (.am (.dw .ae) (.am (.dw .R') (.am (.dw .R') .aw)))))))
   exact cj rfl h)) (z 0) (z 1) .ao F) (decide_eq_false (TN.mpr g.eN.1)))
 have r:=λk E=>(g.dF k E).d g.B0 g.bs.2.2.2;have t:=g.gr;rw[(nK g.ee (Sq g.B0 (Sq g.bs.2.2.1 g.bs.2.2.2)))]at Z r t;exact⟨Z,g.eN.1,t,r,g.fG,M⟩
noncomputable abbrev Mu:gv:=.ai (.ad 0) (.ai (.aY (.tr (.aB .hZ (.ad 1) .az)) (.ad 1) (.gj .ao)) (.ai (.ad 2) .ao))
def CX {T} (w:T.length<=100000) (k:T=ln q) (p:nJ q) (r:q.length<jI) (u:e=.az∨∃a,e=.ab a/\a<z.length):xa z (Internal.aU (Ph (n+6)) av sh.aA [Sn (.ag T),Sn e,Sn .az] [] z) (pn q):=by
 have y:xa z (Internal.aU (Ph (n+6)) av (.aO (.tr (.cU 18 (.dw 4 Mu) .ao))) [Sn (.ag T),Sn e,Sn .az] [] z) (pn q):=by
  rcases u with rfl|⟨a,rfl,j⟩
  ·exact CW (e:=.ab z.length) w k p r (λa j=>SM j) (by refine aa ?_ Sr;exact SH _ _) (decide_eq_true (by refine aa ?_ Sr;exact Td _)) (.ai .ad (.ai (.C (.k9 (.RE .ad) rfl) .R4) (.a7 .ad)))
  ·exact CW (e:=.ab a) w k p r (λg g=>rfl) (SJ _) (decide_eq_true j) (.ai .ad (.ai (.D (.k9 (.RE .ad) rfl) .ad) (.a7 .ad)))
 obtain⟨h,l,f,m,c,t⟩:=y;exact⟨EX.A h,l,f,m,c,t⟩
def Mv (q:Ws):fC (cV z (n+1)) (q.map V.ag) (q.map V.ag)=Sp:=by
 induction q with
 |nil=>rfl
 |cons w q y=>
  show(match Sn (w==w),fC _ _ _ with|some a,Sn b=>Sn (a&&b)|_,_=>none)=_;refine aS ?_ (beq_self_eq_true _) y;rfl
def CY {z:Ws} (y:q[i]?=Sn (.ah (z.map .ag))) (w:q[j]?=Sn (.ah (z.map .ag))) (k:i≠j):dY av .bp (.ab i) (.ab j) q=Sp:=(lh y w k).trans ((if_pos rfl).trans (Mv z))
def EV.Sd {k:Nat} (w:EV z l c y q v q) (p:EV z l c j (q++[.ah [v]]) (.ae k) (q++[.ah [v]])) (r:UT k 200=Sp):EV z l c (.aV .ek (.bj (.ai y .ao)) j) q (.ab (q.length+1)) (q++[.ah [v],.ah (SI k v)]):=by
 have u:ie av .ek (.ab q.length) (.ae k) (q++[.ah [v]])=.aj (.ab (q.length+1)) (q++[.ah [v],.ah (SI k v)]):=by
  unfold ie;dsimp only;refine aa ?_ bV;dsimp only;refine(if_pos (Sz.mpr ⟨decide_eq_true (TA k),decide_eq_true (T7.mpr (S2 r))⟩)).trans ?_;delta ea;refine aa (aa ?_ (Ss _ _ _)) Sr;refine aa ?_ (UL _);rfl
 exact .aV (.bj (.a7 w)) p u
def CZ (q:∀c∈w,c<256) (z:w.length<=100000):mo (eU w) w:=by
 unfold eU;cases h:nB w with
 |true=>exact aa (by
  induction w using SD with
  |nil=>exact Bool.noConfusion h
  |cons k u=>
   refine cZ h λl r=>?_;have y:∀f,f=37∨f=126->k≠f:=λf g e=>by
    subst e;rcases g with rfl|rfl
    ·exact Bool.noConfusion l
    ·exact Bool.noConfusion l
   exact .inl ⟨rfl,⟨k,u,rfl,y _ (.inr rfl),y _ (.inl rfl)⟩,λm j=>⟨q m j,SN.mp r m j⟩⟩) (if_pos rfl)
 |false=>exact aa (.inr (.inl ⟨rfl,q,z⟩)) (if_neg (by decide))
noncomputable def lp:Ws->List eQ
 |[]=>[]
 |w::r=>.lm (eU w) w::match r with|[]=>[]|_::_=>.gn::lp r
def Mw (w) (r:Ws):ln (lp (w::r))=fp [32] ((w::r).map eU):=by
 induction r generalizing w with
 |nil=>exact SY _
 |cons q r z=>
  show eU w++([32]++ln (lp (q::r)))=eU w++[32]++fp [32] _;exact aa ((Ss _ _ _).symm) (z q)
def Mx (w) (r:Ws) (h:∀u∈w::r,(∀c∈u,c<256)/\u.length<=10):nJ (lp (w::r)):=by
 have z:=h w (.head _);have y:=CZ z.1 (a5 z.2 rfl);induction r generalizing w with
 |nil=>exact⟨⟨y,.inl rfl⟩,trivial⟩
 |cons j r k=>
  have q:=h j (.tail _ (.head _));exact⟨⟨y,.inr ⟨_,.inl rfl⟩⟩,trivial,k j (λu m=>h u (.tail _ m)) q (CZ q.1 (a5 q.2 rfl))⟩
def My (w) (r) (u):(lp (w::r)).foldl eQ.b ([],Sn u)=([],Sn (u++(w::r))):=by
 induction r generalizing w u with
 |nil=>rfl
 |cons q r z=>
  refine(z q (u++[w])).trans ?_;refine aa ?_ (Ss _ _ _);rfl
def Mz (w) (r):pn (lp (w::r))=[w::r]:=by
 delta pn;refine aa ?_ (My w r []);rfl
def MA (w) (r:Ws):(lp (w::r)).length<=2*(r.length+1):=by
 induction r generalizing w with
 |nil=>exact S2 rfl
 |cons q r z=>exact SE (SE (z q))
def MB (q) (h:∀x∈q,x.length<=B):(fp [32] q).length<=q.length*(B+1):=by
 induction q with
 |nil=>exact S6 _
 |cons x q w=>
  have j:=h x (.head _);induction q using SD with
  |nil=>exact Sq j (by refine aa (aa (Tx B) (Nat.one_mul _)) List.length_singleton)
  |cons y q=>
   have:=w λz m=>h z (.tail _ m);refine aa (aa ?_ Sr) Sr;refine aa (aa ?_ (Nat.succ_mul _ _)) (TS (a:=x));refine aa ?_ (TH _ (B+1));exact Up (TU j 1) this
def nM (ws:Ws):Prop:=∀u∈ws,(∀c∈u,c<256)/\u.length<=10
def MC (z:∀w,h (.ag w)=.ag (g w)) (q:Ws):(q.map V.ag).map h=(q.map g).map V.ag:=aS (UM λw y=>z w) Tp Tp
def EV.Sc {u:Ws} (Y:EV t l c r y (.ab a) y) (q:y[a]?=Sn (.ah (u.map .ag))) (W:u.length<=1048576) (U:∀w∈u,∀z,∃s,t f [.ag w] (y++[.ah z])=.aj (.ag (g w)) (y++[.ah z]++s)):
  EV t l c (.dp (.tr (.bR f (.ai (.ad 1) .ao))) (.aq Sp) .cN r 2 [1] []) y (.ab y.length) (y++[.ah ((u.map g).map V.ag)]):=by
 have:=EV.RI (M:=.tr (.bR f (.ai (.ad 1) .ao))) (J:=[]) (p:=λZ=>Sp) (e:=λv=>match v with| .ag w=>.ag (g w)|v=>v) (q:=[]) Y (jP q) (λj e=>by replace e:=Sv e;subst e;exact bQ q) rfl (λx m z=>.aq) (λx m Z z=>by
  refine cW m λw T e0=>?_;subst e0;obtain⟨s,h⟩:=U w T z;exact .RR (.a7 .ad) h) (by refine aa W (Sx _))
 rw[mf,MC (λZ=>rfl)]at this;exact this
def C2 (h:nM q):q.map eU=q.map pf:=UM λw m=>LK (h w m).1
def MD (y:nM z) (p:q[a]?=Sn (.ah (z.map .ag))) (u:z.length<=100):EV (Ph (n+3)) (Sn (.ab a)::l) c lO.aA.bs.bs.bs.fW.d q (.aq Su) q:=by
 have j:z.length<=1048576:=a5 u rfl;have r:EV (Ph (n+3)) (Sn (.ab a)::l) c (.dp _ _ .cN (.ad 0) 2 [1] []) (q++[.ah ((z.map eU).map V.ag)]) _ _:=.Sc .ad (aC p) j λw m k=>CF (y w m).1 (a5 (y w m).2 rfl);rw[<-C2 y,Sr,Ss]at r;have f:=CY (q:=q++[.ah ((z.map eU).map V.ag),.ah _]) (bA q _ 0) (bA q _ 1) (SQ (Td _));exact .tr (.aB (.Sc .ad p j λw m k=>CA (y w m).1 (a5 (y w m).2 rfl)) r (congrArg (UA not) f))
def xb (q:nM (w::r)) (z:r.length<=9):(fp [32] ((w::r).map eU)).length<=1000:=by
 have:=MB ((w::r).map eU) λx m=>by
  refine cW m λu y e0=>?_;subst e0;exact Sq (by
   have h:=wW u;unfold eU;cases nB u
   ·refine aa (aa ?_ Sr) (if_neg (by decide));refine aa ?_ Sr
    exact SE (TH 1 (4*u.length)▸SF h 1)
   ·refine aa ?_ (if_pos rfl)
    exact Sq (Nat.le_mul_of_pos_left _ (T9 3)) (SH _ _)) (TU (TM 4 (q u y).2) 2)
 rw[Sx,TS]at this;exact Sq this (a5 (Nat.mul_le_mul_right _ (SE z)) rfl)
def ME (p:nM (w::r)) (y:q[a]?=Sn (.ah ((w::r).map .ag))) (j:r.length<=9):EV (Ph (n+5)) (Sn (.ab a)::l) c lO.aA.bs.bs.bs.bs.fW.d q (.ag (fp [32] ((w::r).map eU))) q:=by
 have e:=bQ y;have u:EV (Ph (n+5)) (Sn (.ab a)::l) c (.aV .ek (.bj (.ai (.ae 0) .ao)) (.tr (.ba .bd (.ad 0)))) q (.ab (q.length+1)) _:=.Sd .ae (.RD .ad (aC y)) (aa (Us (a5 (SE j) rfl)) (Sx _));generalize s:[O.ah [.ae 0],.ah (SI ((w::r).map V.ag).length (.ae 0))]=z at u;have g:=EV.dw (k:=0) (.ai (.ae (i:=0)) (.ai (.ad (i:=0)) (.a7 u))) re;obtain⟨o,f⟩:=LN ⟨_,(bA (q++z) _ 0),(bA (q++z) [.a8 0 ((q++z).length+1),.aL [(1,.ae 0),(2,.ab a),(3,.ab (q.length+1))]] 1)⟩ rfl (aC (aC y)) p (SE j) (et (a5 (xb p j) rfl))
 rw[Ss,Ss]at f;rw[Ss]at g;exact .tr (.bR (.a7 g) f)
def jd {k:Nat} (h:q[i]?=Sn (.ah y)) (w:y[k]?=Sn v) (p:EV z l c a q (.ab i) q) (r:EV z l c j q (.ae k) q):EV z l c (.aM a j) q v q:=.aM p r (pg h w)
def MF (d:nM (w::r)) (s:q[A]?=Sn (.ah ((w::r).map .ag))) (o:r.length<=9):∃p,EX (Ph (n+7)) [Sn (.ab A),y,Sn (.ag (fp [32] ((w::r).map eU))),z] c lO.aA.bs.bs.bs.bs.bs.bs q (.aO (.aq Sp) (q++p)):=by
 set_option tactic.hygienic true in obtain⟨h,x,b,a,J,u⟩:=CX (z:=q++[.aE []]) (a5 (xb d o) rfl) (Mw w r).symm (Mx w r d) (S8 (MA w r) (S8 (TM 2 (SE o)) (of_decide_eq_true rfl))) (.inr ⟨_,rfl,aa (Td _) Sr⟩)
 rename_i p Q g;rw[Mz]at u;have Y:EX (Ph (n+7)) [Sn (.ab A),y,Sn _,z] c (.a6 (.ad 3) (.tr (.bR 4 (.ai (.ad 2) (.ai (.gj .ao) .ao))))) q _:=
  .a6 (.RM (.bR (.ai .ad (.a7 .R4)) (cj rfl h)) (decide_eq_false (TN.mpr (Sq (by exact aa (SH _ _) Sr) x))))
 induction g using SD with
 |nil=>exact nomatch u
 |cons k g=>
  induction g using SD with
  |cons W g=>exact nomatch(Uu u).2
  |nil=>
   have l:=a k (.head _);have j:=l.bg;rw[show k.bJ=w::r from(Uu u).1]at j;have v:=EX.am (t:=.am (.aO (.and (.tr (.aB .bp (.tr (.ba .bd (.ad 3))) (.ae 1))) (.tr (.aB .bp (.ay (.aM (.ad 3) (.ae 0)) 2) (.ad 0))))) .aw) Y (.A (.aO (.and (.k9 (.Q (.RD .ad b) .ae) rfl) (.E (.ay (jd b rfl .ad .ae) (gq l.aZ l.dm rfl)) .ad (CY j (aC (aC s)) (TB (SA (bQ s) (Sq (by exact aa (SH _ _) Sr) l.cP.2.2.1))))))));rw[Ss]at v
   exact⟨_,v⟩
def MG (q:nM (w::r)) (p:j[A]?=Sn (.ah ((w::r).map .ag))) (u:r.length<=9):∃g,EX (Ph (n+7)) [Sn (.ab A),y,f,z] c lO.aA.bs.bs.bs j (.aO (.aq Sp) (j++g)):=by
 obtain⟨g,h⟩:=MF q p u;have k:(w::r).length<=100:=a5 (SE u) rfl;have l:EV (Ph (n+7)) [Sn (.ab A),y,Sn (.ag (fp [32] ((w::r).map eU))),z] c (.dp _ (.aq Sp) .cN (.ad 0) 2 [1] []) j _ _:=.Sc .ad p (a5 k rfl) λw m t=>CF (q w m).1 (a5 (q w m).2 rfl);rw[<-C2 q]at l;exact⟨g,.am (.C (MD q p k) .aw) (.am (.a6 (ME q p u)) (.am (.C (.k9 (.RN .ad (.tr (.bK .ag rfl (.a7 l) rfl (CG bV (wZ _) (et (a5 (xb q u) rfl)))))) (congrArg not (beq_self_eq_true _))) .aw) h))⟩
noncomputable abbrev po:List Nat:=[97,126,37,45,123,125,59,35,32,39,34,36,92,10,0,127,195,42,48,91,93,94,124,38,9,40,90]
noncomputable def wS (σ:List O) (t j k:Nat) (ws:Ws) (τ:List O):List O:=σ.set t (.ah [.ab j,.ae k])++(.a9 (Sn (.ab t))::.a9 (Sn (.ag po))::.ah (ws.map .ag)::τ)
def lq (q):(wS z t j k y w)[z.length+q]?=(O.a9 (Sn (.ab t))::.a9 (Sn (.ag po))::.ah (y.map .ag)::w)[q]?:=(congrArg (λn=>_[n+q]?) SS.symm).trans (bA _ _ q)
def C3 (q):(wS z t j k y w).set (z.length+q) o=z.set t (.ah [.ab j,.ae k])++(O.a9 (Sn (.ab t))::.a9 (Sn (.ag po))::.ah (y.map .ag)::w).set q o:=(congrArg (λn=>(wS z t j k y w).set (n+q) o) SS.symm).trans (hU _ _ q o)
def MH (T:eC z t j m L) (p:0<q):Ph (n+1) 16 [.ab t,.ae q] (wS z t j k y w)=.aj (.ae (iV L k q)) (wS z t j (k+1) y w):=by
 refine(mh (⟨aC (dH T.fy),aC (eB T.bM.symm T.nE),T.bM⟩) p).trans (congrArg (R.aj _) ?_);delta wS;refine aa (aa ?_ (VG _)) (Ue _ _ (aT (bQ T.fy) SS.symm));rfl
def EV.mh (T:eC z t j m L) (r:0<q) (u:cO (Ph (n+1)) l c p (wS z t j k y w) [.ab t,.ae q] (wS z t j k y w)):EV (Ph (n+1)) l c (.tr (.bR 16 p)) (wS z t j k y w) (.ae (iV L k q)) (wS z t j (k+1) y w):=.RO (.bR u (MH T r)) (by delta wS;exact aS (aS rfl SS SS) Sr Sr)
def MI (w:List Nat) (h:∀c∈w,c<256):iw (w.map λ(k:Nat)=>V.ae k)=w:=by
 induction w with
 |nil=>rfl
 |cons c w q=>
  refine(if_pos ⟨TA c,Ul.mpr (h c (.head _))⟩).trans ?_;refine aa ?_ (q λd m=>h d (.tail _ m));rfl
def EV.R2 {K} (p:EV q l c M L v F) (r:ej av k v F=(H,I)) (u:J.mapM (c[·]?)=Sn y) (h:fI av (λz L=>ev q av N z y L) (λz L=>ev q av K z y L) (bn I F) w F.length H (SI j Option.none) (F++[.ah []])=.aj x G):EV q l c (.dp N K k M j w J) L x G:=(di p).trans (aS h u r)
def mp (h:autoParam (UT d 1000000=Sp) tR):ej av .gU (.ae d) q=Sn ((Te d).map λ(i)=>[.ae i],none):=if_pos (S2 h)
def jT {q:Nat} (h:0<q):∃i,i<q/\iV L k q=(i):=by
 obtain⟨z,y⟩:=LP (Ul.mpr h);exact⟨(iV L k q).toNat,(Int.toNat_lt z).mpr y,(Vv z).symm⟩
def MJ:wS q t j k z y++[o]=wS q t j k z (y++[o]):=Ss _ _ _
def C4:(wS q t j k y z).length=q.length+(z.length+3):=by delta wS;refine aa (aa ?_ SS) Sr;rfl
def MK:∀i,i<27->∃c,po[i]?=Sn c/\c<256:=by decide+kernel
noncomputable abbrev C5:S:=lO.aA.bs.bs.fW.fW
noncomputable abbrev xc:X:=.aM (.aW 0) (.tr (.bR 16 (.ai (.aW 1) (.ai (.tr (.ba .bd (.aW 0))) .ao))))
def ML (T:eC z t j m L):∃c,c<256/\EV (Ph (n+1)) l [z.length+1,z.length] xc (wS z t j k y w) (.ae (c:Nat)) (wS z t j (k+1) y w):=by
 refine aQ λG p=>?_;obtain⟨i,r,u⟩:=jT (q:=27) (by decide);refine aP (MK i r) λc g h=>?_;exact p ⟨c,h,.aM (.aW (lq 1)) (u▸.mh T (by decide) (.ai (.aW (lq 0)) (.a7 (.P (.ba (.aW (lq 1)) rfl))))) (io g)⟩
inductive Q3 (n t j:Nat) (σ τ:List O) (st:List O->Bool) (rows:List Nat) (k:Nat) (ws:Ws) (acc:List Nat) (q:Option V):Prop where
 |mk {k':Nat} {w:List Nat} (h:fI av (λl' a_=>ev (Ph (n+1)) av xc l' [σ.length+1,σ.length] a_) (λl' a_=>ev (Ph (n+1)) av (.aq Sp) l' [σ.length+1,σ.length] a_) st [1] (σ.length+(τ.length+3)) (rows.map λ(i:Nat)=>[.ae i]) [none,q] (wS σ t j k ws (τ++[.ah (acc.map λ(k:Nat)=>V.ae k)]))=.aj (.ab (σ.length+(τ.length+3))) (wS σ t j k' ws (τ++[.ah ((acc++w).map λ(k:Nat)=>V.ae k)])))
  (hl:w.length=rows.length) (hw:∀c∈w,c<256)
def MM (T:eC r t j m L) (x:∀r,v r=Sp) (p):∀{k} {y} {q},y.length+p.length<=1000->Q3 n t j r e v p k s y q:=by
 induction p with
 |nil=>exact λ{k y q} K=>⟨(congrArg (λz:List Nat=>R.aj _ (wS r t j k s (e++[O.ah (z.map λ(k:Nat)=>V.ae k)]))) (SY y).symm:fI av _ _ v _ _ [] _ _=_),rfl,λK h=>nomatch h⟩
 |cons i p P=>
  intro k y q J;obtain⟨c,U,h⟩:=ML (l:=[none,Sn (.ae i)]) T;have a:(y++[c]).length+p.length<=1000:=by refine aa ?_ Sr;refine aa ?_ (TK _ _ _);refine aa ?_ (TH _ p.length);exact J
  set_option tactic.hygienic true in obtain⟨G,F,M⟩:=P a
  rename_i C w;have Q:(wS r t j (k+1) s _)[r.length+(e.length+3)]?=Sn (.ah (y.map λ(k:Nat)=>V.ae k)):=(lq _).trans bV;have o:(wS r t j (k+1) s (e++[.ah (y.map λ(k:Nat)=>V.ae k)])).set (r.length+(e.length+3)) (.ah ((y.map λ(k:Nat)=>V.ae k)++[.ae c]))=wS r t j (k+1) s (e++[.ah ((y++[c]).map λ(k:Nat)=>V.ae k)]):=by
   refine aS ?_ Ta (C3 _);exact congrArg (λz=>_++(_::_::_::z)) jx
  have W:=pe (g:=λZ u=>ev (Ph (n+1)) av (.aq Sp) Z [r.length+1,r.length] u) (f:=λZ u=>ev (Ph (n+1)) av xc Z [r.length+1,r.length] u) (u:=[1]) (y:=p.map λ(i:Nat)=>[.ae i]) (l:=[none,q]) (r:=[.ae i]) rfl (rfl:_=R.aj (V.aq Sp) _) h Q (Sz.mpr ⟨(et (by refine aa ?_ (Sx _);exact a5 (Sq (SF (T9 _) _) J) rfl)),x _⟩);rw[o]at W;refine⟨W.trans (G.trans (congrArg (λz:List Nat=>R.aj _ (wS r t j C s (e++[O.ah (z.map λ(k:Nat)=>V.ae k)]))) (Ss y [c] w))),congrArg (·+1) F,λd Y=>?_⟩
  rcases Tq.mp Y with rfl|Y
  ·exact U
  ·exact M d Y
def nN (k:gA q.cw (args++SI (q.b0-args.length) .az) (SI q.cx none) (SI q.ch none)=(l,j)) (p:EX (Ph n) l w q.aA (z++j.map .a9) r) (u:autoParam (Ft f=Sn q) tR) (y:autoParam ((Te q.ch).map (z.length+·)=w) tR) (h:autoParam (f<1000) tD) (g:autoParam ((SW (args.length<=q.b0)&&SW (q.b0-q.ca<=args.length))=Sp) tR):Ph (n+1) f args z=gM r:=aa (aa (aS (aT rfl p) y k) (wU g)) (wT u h)
inductive Q4 (n t j:Nat) (σ τ:List O) (k:Nat) (ws:Ws) (y z:Option V):Prop where
 |mk {k':Nat} {w:List Nat} {o:O} {x:V} (h:EX (Ph (n+1)) [Sn (.ab (σ.length+2)),y,z,none] [σ.length,σ.length+1] C5 (wS σ t j k ws τ) (.aD [Sn (.ab (σ.length+2)),y,Sn x,none] (wS σ t j k' (ws++[w]) (τ++[o])))) (hw:(∀c∈w,c<256)/\w.length<=10)
def MN (T:eC p t j m L) (v:g.length<=1000):Q4 n t j p e k g y z:=by
 refine aQ λG x=>?_;obtain⟨d,s,a⟩:=jT (q:=6) (by decide)
 set_option tactic.hygienic true in obtain⟨h,o,b⟩:=MM (y:=[]) T (λY=>rfl) _ (aa (Sq (To (Ud d)) (a5 (Tu s) rfl)) T6)
 rename_i Q w;replace o:=T6▸o;rw[<-MJ,<-C4]at h;have r:=EX.RH (.ad (i:=0)) (EV.RO (q:=wS p t j Q g _) (l:=[Sn (.ab (p.length+2)),y,Sn (.ab (wS p t j (k+1) g e).length),none]) (y:=Ph (n+1)) (c:=[p.length,p.length+1]) (.ba (.ad (i:=2)) (Cw (by exact aa ((lq _).trans bV) C4) (MI _ b) (et (aa (a5 (Tu s) rfl) o)))) rfl) (lq 2) (by refine aa (S8 v (by decide)) (Sx _));rw[C3]at r;refine x ?_;refine⟨.am (.a6 (EV.R2 (a▸.mh T (by decide) (.ai (.aW (lq 0)) (.a7 .ae))) (mp (Us (a5 (Tu s) rfl))) rfl h)) (.am (r.trans (congrArg (λz=>bC.aD _ (_++(_::_::O.ah z::_))) (Ta (l₂:=[[]++w])).symm)) .aw),b,aa (a5 (Tu s) rfl) o⟩
inductive Q5 (n t j:Nat) (σ τ:List O) (st:List O->Bool) (rows:List Nat) (k:Nat) (ws:Ws) (y z:Option V):Prop where
 |mk {k':Nat} {r:Ws} {d_:List O} {y' z':Option V} (h:ew (λl a_=>Internal.aU (Ph (n+1)) av C5 l [σ.length,σ.length+1] a_) (λrow l a_=>dZ (Ph (n+1)) av [.ad 1] row l [σ.length,σ.length+1] a_) st (rows.map λ(i:Nat)=>[.ae i]) [Sn (.ab (σ.length+2)),y,z,none] (wS σ t j k ws τ)=.aD [Sn (.ab (σ.length+2)),y',z',none] (wS σ t j k' (ws++r) d_)) (hr:nM r) (hl:r.length=rows.length)
def MO (T:eC r t j m L) (f:∀r,l r=Sp) (q):∀{g} {k} {p} {y z},p.length+q.length<=1000->Q5 n t j r g l q k p y z:=by
 induction q with
 |nil=>exact λ{g k p y z} d=>⟨(congrArg (λu=>bC.aD _ (wS r t j k u g)) (SY p).symm:ew _ _ l [] _ _=_),λd h=>(nomatch h),rfl⟩
 |cons i q s=>
  intro g k p y z e
  set_option tactic.hygienic true in obtain⟨h,b⟩:=MN T (Sq (SH _ _) e)
  rename_i w o x;obtain⟨v,a,Q⟩:=s (p:=p++[w]) (aa (aa (aa e (TH _ q.length)) (TK _ _ _)) Sr);refine⟨(fP (mc rfl) h (f _) v).trans (congrArg (λu=>bC.aD _ (wS r t j _ u _)) (Ss p [w] _)),λu c=>?_,congrArg (·+1) Q⟩;rcases Tq.mp c with rfl|c
  ·exact b
  ·exact a u c
def MP (T:eC z t j m L):∃k p,Ph (n+8) 24 [.ab t] z=.aj (.aq Sp) (z.set t (.ah [.ab j,.ae (k:Nat)])++p):=by
 refine aQ λG v=>?_;obtain⟨d,g,x⟩:=jT (q:=4) (by decide);have a:z++[.a9 (Sn (.ab t)),.a9 (Sn (.ag po)),.ah [.ag [99]]]=wS z t j m [[99]] []:=by delta wS;refine aa ?_ (pi T.fy);rfl
 set_option tactic.hygienic true in obtain⟨h,Q,o⟩:=MO (p:=[[99]]) T (l:=bn none (wS z t j (m+1) [[99]] [])) (λF=>rfl) (Te d) (by refine aa ?_ T6;exact a5 (SF (Tu g) 1) rfl)
 rename_i w r y Z Y;rw[T6]at o;refine v ?_;obtain⟨s,W⟩:=MG (λu f=>by
   rcases Tq.mp f with rfl|f
   ·exact⟨λc e=>SP.mp e▸by decide,by decide⟩
   ·exact Q u f) (lq (k:=w) (y:=[99]::r) (w:=y) 2) (aa (a5 (Tu g) rfl) o)
 have U:EX (Ph (n+7)) [Sn (.ab (z.length+2)),none,none,none] [z.length,z.length+1] lO.aA.bs.bs.fW (wS z t j m [[99]] []) (.aD [Sn (.ab (z.length+2)),Z,Y,none] (wS z t j w ([99]::r) y)):=
  .eG (x▸.mh T (q:=4) (by decide) (.ai (.aW (lq 0)) (.a7 .ae))) (mp (Us (a5 (Tu g) rfl))) (ja rfl _) h
 have b:EX (Ph (n+7)) [none,none,none,none] [z.length,z.length+1] lO.aA (z++[.a9 (Sn (.ab t)),.a9 none]) (.aO (.aq Sp) (wS z t j w ([99]::r) y++s)):=.am ((EX.H .ag rfl (bA z _ 1)).trans (congrArg (bC.aD _) (hU z _ 1 _))) (.am (by
   have:=EX.a6 (i:=0) (l:=[none,none,none,none]) (z:=Ph (n+7)) (c:=[z.length,z.length+1]) (EV.bj (w:=z++[.a9 (Sn (.ab t)),.a9 (Sn (.ag po))]) (.a7 (EV.ag (i:=[99]))));rw[Ss,Sr]at this;exact aT this a) (.am U W))
 delta wS at b;rw[Ss]at b;exact⟨w,_,(nN (j:=[Sn (.ab t),none]) rfl b)⟩
noncomputable def bw:Nat->List Nat
 |0=>[115,112,108,105,116]|1=>[115,112,108,105,116,45,97,108,108]|2=>[115,104,111,119]|3=>[115,104,111,119,45,114,111,119]|4=>[115,119,97,112]|_=>[110,101,119,45,112,97,110,101]
noncomputable def ko:Nat->List Nat
 |0=>[115,112]|1=>[]|2=>[115]|3=>[115,112,108]|4=>[]|_=>[110,112]
noncomputable def d9:Nat->List Nat
 |0=>[97,116,58,98]|1=>[]|2=>[110,58,120,58]|3=>[113]|4=>[97]|_=>[100,104,99,58]
noncomputable def tM:Nat->Int
 |2=>1|_=>0
noncomputable def tN:Nat->Option Int
 |0=>Sn 2|1=>none|2=>Sn 1|3=>Sn 0|4=>Sn 3|_=>Sn 1
noncomputable def nO (i:Nat):V:=match tN i with|some k=>.ae k|none=>.az
noncomputable def C6 (i:Nat):List V:=[.ag (bw i),.ag (ko i),.ag (d9 i),.ae (tM i),nO i]
noncomputable def jA (i:Nat):List (Nat×V):=[(5,.ag (bw i)),(6,.ag (ko i)),(7,.ag (d9 i)),(8,.ae (tM i)),(9,nO i)]
def MQ:∀i,i<6->av (454+i)=Sn (.aX (C6 i)):=by decide+kernel
noncomputable abbrev Es:=List (Nat×Nat)
noncomputable def ef (es:Es):List (V×V):=es.map λe=>(.ag (bw e.1),.ab e.2)
noncomputable def rh (m i:Nat):Bool:=((m:Int).fdiv (2^i)).fmod 2==0
noncomputable def cG (m:Nat):List Nat:=(Te 6).filter (rh m)
structure dW (σ:List O) (td m:Nat) (es:Es):Prop where
 aE:σ[td]?=Sn (.aE (ef es))
 a8:∀e∈es,fo σ e.2 2 (jA e.1)
 kq:es.map (·.1)=cG m
def ri (q):eg (ef q)=Sp:=SN.mpr λx z=>by
 refine cW z λe _ e0=>?_;subst e0;rfl
def C7:∀i,i<6->∀j,j<6->bw i=bw j->i=j:=by decide+kernel
def MR (q) (h:∀e∈q,e.1≠k):dT q k v=q++[(k,v)]:=by
 induction q with
 |nil=>rfl
 |cons e q z=>exact(if_neg (h e (.head _))).trans (congrArg (e::·) (z λx m=>h x (.tail _ m)))
def C8 (h:av a=Sn (.aX y)) (j:y[k]?=Sn v):jG av (.bW a) (.ae (k:Nat)) q=.aj v q:=by
 show(match av a with|some (.ah z)=>(match gV k z.length with|some i=>dh z[i]? q|none=>R.ak)|some (.aX z)=>(match gV k z.length with|some i=>dh z[i]? q|none=>.ak)|some (.aE w)=>if eJ _ w then dh _ q else .ak|_=>.ak)=_;refine aa ?_ h;dsimp only;exact aa (ma j) (tE (bQ j))
def EV.RF (j:i<6) (w:EV z l c y q (.bW (454+i)) q) (p:(C6 i)[k]?=Sn v):EV z l c (.aM y (.ae (k:Nat))) q v q:=.aM w .ae (C8 (MQ i j) p)
def EX.L (h:EV y l c a j v q) (r:EV y l c w q (.ab i) q) (u:EV y l c p q k q) (g:q[i]?=Sn (.aE z)) (f:(eJ k z&&SW (z.length<=1000))=Sp):EX y l c (.a6 (.aM w p) a) j (.aD l (q.set i (.aE (dT z k v)))):=.N h r u (by
 delta oh;dsimp only;exact aa (if_pos f) g)
def MS:∀i,i<6->(SW ((2^i:Int).natAbs<1073741824)&&(2^i:Int) !=0)=Sp:=by decide+kernel
def MT {i:Nat} (y:i<6) (p:EV z l c j q (.ae (k:Nat)) q) (r:EV z l c w q (.ae i) q):EV z l c (.tr (.aB .bp (.aV .iN (.aV .hW j (.aV .lA (.ae 2) w)) (.ae 2)) (.ae 0))) q (.aq (rh k i)) q:=
 .Q (.aV (.aV p (.aV .ae r (if_pos (Sz.mpr ⟨Sz.mpr ⟨rfl,decide_eq_true (TA i)⟩,decide_eq_true (T7.mpr (a5 (Tu y) rfl))⟩))) (if_pos (MS i y))) .ae rfl) .ae
noncomputable abbrev C9:S:=uX.aA.bs.fW.fW
inductive Q6 (n m:Nat) (σ:List O) (st:List O->Bool) (i j:Nat) (es:Es) (τ:List O) (y z:Option V):Prop where
 |mk {so:Es} {d_:List O} {y' z':Option V} (h:ew (λl a_=>Internal.aU (Ph (n+1)) av C9 l [] a_) (λrow l a_=>dZ (Ph (n+1)) av [.ad 2,.ad 3] row l [] a_) st ((YN i j).map λ(i:Nat)=>[.ae i,.bW (454+i)]) [Sn (.ae m),Sn (.ab σ.length),y,z] (σ++.aE (ef es)::τ)=.aD [Sn (.ae m),Sn (.ab σ.length),y',z'] (σ++.aE (ef so)::d_))
  (hi:∀e∈so,fo (σ++.aE (ef so)::d_) e.2 2 (jA e.1)) (hs:so.map (·.1)=es.map (·.1)++(YN i j).filter (rh m))
def fo.B (h:fo z i q y) (g:z[k]?=Sn o) (j:autoParam (U' 4 o.f=Su) tR) (w:autoParam (U' 5 o.f=Su) tR):fo (z.set k p) i q y:=
 let⟨d,r,u⟩:=h;⟨d,cF r g j,cF u g w⟩
def MU (s:∀w,P w=Sp) (j):∀{i} {q} {r} {y z},i+j=6->(∀e∈q,e.1<i)->q.length<=i->(∀e∈q,fo (w++.aE (ef q)::r) e.2 2 (jA e.1))->Q6 n k w P i j q r y z:=by
 induction j with
 |zero=>exact λ{i q r y z} U U U h=>⟨rfl,h,(SY _).symm⟩
 |succ j G=>
  intro i q r y z o g d b;have u:=o▸TY (T9 j);have f:i+1+j=6:=(T1 i j).trans o;have a:EV (Ph (n+1)) [Sn (.ae k),Sn (.ab w.length),Sn (.ae i),Sn (.bW (454+i))] [] C9.fW.d (w++.aE (ef q)::r) (.aq (rh k i)) (w++.aE (ef q)::r):=MT u .ad .ad;have L:dZ (Ph (n+1)) av [.ad 2,.ad 3] [.ae i,.bW (454+i)] [Sn (.ae k),Sn (.ab w.length),y,z] [] (w++.aE (ef q)::r)=.aD _ (w++.aE (ef q)::r):=rfl;cases Q:rh k i with
  |false=>
   rw[Q]at a;obtain⟨Z,Y,J⟩:=G f (λe m=>Um (g e m)) (UJ d) b;exact⟨fP L (EX.am (.C a .aw) .aw) (s _) Z,Y,J.trans (congrArg (_++·) (List.filter_cons_of_neg (Q▸Tw)).symm)⟩
  |true=>
   rw[Q]at a;let S:=w++.aE (ef q)::r
   have K:(S++[O.a8 2 (S.length+1),.aL (jA i)])[w.length]?=Sn (.aE (ef q)):=aC (bA w _ 0);have t:(S++[O.a8 2 (S.length+1),.aL (jA i)]).set w.length (.aE (dT (ef q) (.ag (bw i)) (.ab S.length)))=w++.aE (ef (q++[(i,S.length)]))::(r++[.a8 2 (S.length+1),.aL (jA i)]):=by
    refine aa ?_ (MR _ (λe p F=>by
      refine cW p λe v e0=>?_;subst e0;exact SQ (g e v) (C7 _ (TP (g e v) u) _ u (V.ag.inj F))));refine aa ?_ (Ss _ _ _)
    refine(hU w _ 0 _).trans ?_;rewrite[ef];delta ef;refine aa ?_ Ta;rfl
   have M:=EX.L (l:=[Sn (.ae k),Sn (.ab w.length),Sn (.ae i),Sn (.bW (454+i))]) (c:=[]) (EV.dw (.ai (.RF (k:=0) u (.ad (i:=3)) rfl) (.ai (.RF (k:=1) u (.ad (i:=3)) rfl) (.ai (.RF (k:=2) u (.ad (i:=3)) rfl) (.ai (.RF (k:=3) u (.ad (i:=3)) rfl) (.a7 (.RF (k:=4) u (.ad (i:=3)) rfl)))))) (have h:EX (Ph n) [Sn _,Sn (V.ag (bw i)),Sn (V.ag (ko i)),Sn (V.ag (d9 i)),Sn (V.ae (tM i)),Sn (nO i)] [] yI.aA _ _:=.am (.dw .ad) (.am (.dw .ad) (.am (.dw .ad) (.am (.dw .ad) (.am (.dw .ad) .aw))))
    cj rfl h))
    (.ad (i:=1)) (.RF (k:=0) u (.ad (i:=3)) rfl) K (Sz.mpr ⟨ri q,decide_eq_true (by delta ef;exact aa (Sq d (a5 (Tu u) rfl)) (Sx _))⟩)
   have x:∀e∈q++[(i,S.length)],fo (w++.aE (ef (q++[(i,S.length)]))::_) e.2 2 (jA e.1):=λe p=>by
    refine aT ?_ t;rcases Tn.mp p with p|p
    ·exact(b e p).A.B K
    ·refine aa ?_ (SP.mp p)
     exact fo.B ⟨S.length+1,bA S _ 0,bA S _ 1⟩ K
   obtain⟨Z,Y,J⟩:=G f (λe p=>by
    rcases Tn.mp p with p|p
    ·exact Um (g e p)
    ·refine aa ?_ (SP.mp p);exact Td i) (by refine aa ?_ Sr;exact SE d) x
   refine⟨fP L (EX.am (.D a (.am (M.trans (congrArg (bC.aD _) t)) .aw)) .aw) (s _) Z,Y,J.trans ?_⟩;refine aa ?_ Ta;refine aa ?_ (Ss _ _ _);exact congrArg (_++·) (List.filter_cons_of_pos Q).symm
def MV:∃z y,Ph (n+2) 17 [.ae (k:Nat)] q=.aj (.ab q.length) (q++.aE (ef z)::y)/\dW (q++.aE (ef z)::y) q.length k z:=by
 set_option tactic.hygienic true in obtain⟨h,w,p⟩:=MU (q:=[]) (λj=>rfl) 6 rfl (λj h=>nomatch h) (SJ _) (λj h=>nomatch h)
 rename_i z y g l;have r:EX _ [Sn (.ae k),none,none,none] [] uX.aA q _:=.am (.a6 .R4) (.am (.eG .cr rfl rfl h) (.A (.aO .ad)));exact⟨z,y,(cj rfl r),bA q _ 0,w,p⟩
noncomputable def iF (es:Es) (i:Nat):Nat:=(es.lookup i).getD 0
def xd:(V.ag a==V.ag b)=(a==b):=by
 cases h:a==b with
 |true=>exact aa (beq_self_eq_true _) (beq_iff_eq.mp h)
 |false=>exact beq_false_of_ne λz=>by rw[V.ag.inj z,beq_self_eq_true]at h;exact bv h.symm
def MW (q:i<6) (z:j<6):(bw i==bw j)=(i==j):=(by decide+kernel:∀i,i<6->∀j,j<6->(bw i==bw j)=(i==j)) i q j z
def MX (z:i<6) (q) (h:∀e∈q,e.1<6):(ef q).lookup (.ag (bw i))=(q.lookup i).map .ab:=by
 induction q with
 |nil=>rfl
 |cons e q y=>
  show(match V.ag (bw i)==V.ag (bw e.1)with|true=>Sn (V.ab e.2)|false=>(ef q).lookup _)=(match i==e.1 with|true=>Sn e.2|false=>q.lookup i).map .ab;refine aa (aa ?_ (MW z (h e (.head _)))) xd;refine aa ?_ (y λx m=>h x (.tail _ m));cases i==e.1<;>rfl
def tO (h:i∈cG m):i<6:=UD.mp (Xz.mp h).1
def MY (y) (h:i∈y.map (·.1)):y.lookup i=(iF y i)/\(i,iF y i)∈y:=by
 induction y with
 |nil=>exact nomatch h
 |cons e y k=>
  obtain⟨j,a⟩:=e;cases q:i==j with
  |true=>
   have w:List.lookup i ((j,a)::y)=a:=aa (aa rfl q) T2;rewrite[iF];refine aS ?_ w (beq_iff_eq.mp q);exact⟨rfl,.head _⟩
  |false=>
   have w:List.lookup i ((j,a)::y)=List.lookup i y:=aa (aa rfl q) T2;rewrite[iF];refine aa ?_ w;obtain⟨p,r⟩:=k ((Tq.mp h).resolve_left λz=>Bool.noConfusion ((beq_iff_eq.mpr z).symm.trans q));exact⟨p,.tail _ r⟩
def dW.IW (T:dW z j m q) (y:i∈cG m):(ef q).lookup (.ag (bw i))=Sn (.ab (iF q i))/\fo z (iF q i) 2 (jA i):=by
 obtain⟨w,k⟩:=MY q (aT y T.kq.symm);exact⟨(MX (tO y) q λe p=>tO (aT (Tv p) T.kq)).trans (congrArg _ w),T.a8 _ k⟩
def dW.A (T:dW q z m y):dW (q++j) z m y:=⟨aC T.aE,λe w=>(T.a8 e w).A,T.kq⟩
def rj (h:q[i]?=Sn (.aE z)) (y:eJ u z=Sp) (j:z.lookup u=Sn v):jG av (.ab i) u q=.aj v q:=by
 show(match q[i]? with|some (.ah w)=>_|some (.aX w)=>_|some (.aE k)=>if eJ u k then dh _ q else .ak|_=>.ak)=_;exact aa ((if_pos y).trans (ma j)) h
def dW.aM (T:dW q j m z) (p:i∈cG m) (r:EV y l c w q (.ab j) q) (u:EV y l c k q (.ag (bw i)) q):EV y l c (.aM w k) q (.ab (iF z i)) q:=.aM r u (rj T.aE (ri z) (T.IW p).1)
def rm (h:z[i]?=Sn (.aE q)) (y:eJ (.ag w) q=Sp):dY av .d' (.ag w) (.ab i) z=(q.any λe=>e.1==.ag w):=by
 show(match z[i]? with|some (.aX j)=>mM (.ag w) j|some (.aE k)=>if eJ (V.ag w) k then Sn _ else none|_=>none)=_;exact aa (if_pos y) h
noncomputable def gt (s:List Nat) (w:List Nat):Bool:=s.any λi=>bw i==w
def Da (q):((ef q).any λe=>e.1==.ag w)=gt (q.map (·.1)) w:=by
 induction q with
 |nil=>rfl
 |cons e q z=>
  show((V.ag (bw e.1)==V.ag w)||(ef q).any λe=>e.1==.ag w)=_;exact aS rfl xd z
def dW.in (T:dW q j m z) (r:EV y l c k q (.ag w) q) (u:EV y l c p q (.ab j) q):EV y l c (.tr (.aB .d' k p)) q (.aq (gt (cG m) w)) q:=.E r u ((rm T.aE (ri z)).trans (congrArg Sn (aT (Da z) T.kq)))
noncomputable def jB (s:List Nat):List Nat:=[5,2,3,0,1,4].filter s.contains
def MZ:∀m,m<64->kQ ((cG m).map bw)=(jB (cG m)).map bw:=by decide+kernel
noncomputable def kr (w:List Nat):List Nat->List Nat->Option Nat×List Nat
 |acc,[]=>(none,acc)
 |acc,i::r=>if ko i==w then(Sn i,acc)else if w.isPrefixOf (bw i)then kr w (acc++[i]) r else kr w acc r
noncomputable def iG (s:List Nat) (w:List Nat):Option Nat:=
 if w==[]then none else if gt s w then s.find? (λi=>bw i==w)else
  (kr w [] (jB s)).1<|>(if(kr w [] (jB s)).2.length==1 then(kr w [] (jB s)).2.head? else none)
noncomputable def Db (es:Es) (q:Option Nat) (p:V) (σ:List O):R V:=match q with|some i=>.aj (.ab (iF es i)) σ|none=>.bh p σ
noncomputable abbrev rp:S:=j7.aA.bs.bs.bs.fW.fW
noncomputable def f' (σ:List O) (es:Es) (acc:List Nat) (ns:List Nat):List O:=σ++[.ah (acc.map λi=>.ab (iF es i)),.ah (ns.map λi=>.ag (bw i))]
inductive xf (n td:Nat) (w:List Nat) (p:V) (σ:List O) (es:Es) (acc ns r:List Nat) (z:Option V):Prop where
 |pq {i:Nat} {DC:List Nat} (h:ew (λl a_=>Internal.aU (Ph n) av rp l [] a_) (λrow l a_=>dZ (Ph n) av [.ad 4] row l [] a_) (bn (Sn (σ.length+1)) (f' σ es [] ns)) (r.map λi=>[.ag (bw i)]) [Sn (.ab td),Sn (.ag w),Sn p,Sn (.ab σ.length),z] (f' σ es acc ns)=.aO (.ab (iF es i)) (f' σ es DC ns)) (hs:kr w acc r=(Sn i,DC))
 |pt {DC:List Nat} {z':Option V} (h:ew (λl a_=>Internal.aU (Ph n) av rp l [] a_) (λrow l a_=>dZ (Ph n) av [.ad 4] row l [] a_) (bn (Sn (σ.length+1)) (f' σ es [] ns)) (r.map λi=>[.ag (bw i)]) [Sn (.ab td),Sn (.ag w),Sn p,Sn (.ab σ.length),z] (f' σ es acc ns)=.aD [Sn (.ab td),Sn (.ag w),Sn p,Sn (.ab σ.length),z'] (f' σ es DC ns)) (hs:kr w acc r=(none,DC)) (hl:DC.length<=acc.length+r.length)
def xe:(f' z j q y)[z.length+1]?=Sn (.ah (y.map λi=>.ag (bw i))):=bA z _ 1
def tP:bn (Sn (z.length+1)) (f' z j [] y) (f' z j q y)=Sp:=beq_iff_eq.mpr (xe.trans xe.symm)
def M0 (T:dW y u m k) (r):∀{q} {z},(∀i∈r,i∈cG m)->q.length+r.length<=100->xf n u w p y k q g r z:=by
 induction r with
 |nil=>exact λ{q z} K K=>.pt rfl rfl (SJ _)
 |cons i r a=>
  intro q z Q v;have Z:=Q i (.head _);have t:=λj m=>Q j (.tail _ m);have Y:dW (f' y k q g) u m k:=T.A;have d:dZ (Ph n) av [.ad 4] [.ag (bw i)] [Sn (.ab u),Sn (.ag w),Sn p,Sn (.ab y.length),z] [] (f' y k q g)=.aD _ (f' y k q g):=mc rfl;have x:EV (Ph n) [Sn (.ab u),Sn (.ag w),Sn p,Sn (.ab y.length),Sn (.ag (bw i))] [] (.aM (.ad 0) (.ad 4)) _ (.ab (iF k i)) _:=Y.aM Z .ad .ad;have l:EV (Ph n) _ [] rp.fW.d _ _ _:=.E (.at x (Y.IW Z).2) .ad rfl
  cases o:ko i==w with
  |true=>
   rw[o]at l;exact .pq (Cs d (EX.A (.D l (.A (.aO x))))) (if_pos o)
  |false=>
   rw[o]at l;have J:kr w q (i::r)=if w.isPrefixOf (bw i)then kr w (q++[i]) r else kr w q r:=if_neg (o▸Tw)
   have e:EV (Ph n) [Sn (.ab u),Sn (.ag w),Sn p,Sn (.ab y.length),Sn (.ag (bw i))] [] rp.bs.fW.d (f' y k q g) _ _:=.P (.bK .ad rfl (.a7 .ad) rfl rfl);cases b:w.isPrefixOf (bw i)with
   |false=>
    replace e:=b▸e;have s:=J.trans (if_neg (b▸Tw));induction a t (Sq (SF (Tx _) _) v)using xf.casesOn with
    |pq f c=>exact .pq (fP d (EX.am (.C l .aw) (.am (.C e .aw) .aw)) tP f) (s.trans c)
    |pt f c h=>exact .pt (fP d (EX.am (.C l .aw) (.am (.C e .aw) .aw)) tP f) (s.trans c) (Sq h (SF (Tx _) _))
   |true=>
    rw[b]at e;have s:=J.trans (if_pos b);have W:EX (Ph n) [Sn (.ab u),Sn (.ag w),Sn p,Sn (.ab y.length),Sn (.ag (bw i))] [] rp.bs.fW.fW.fW (f' y k q g) (.aD [Sn (.ab u),Sn (.ag w),Sn p,Sn (.ab y.length),Sn (.ag (bw i))] (f' y k (q++[i]) g)):=by
     refine(EX.RH .ad x (bA y _ 0) (by refine aa ?_ (Sx _);exact S8 (Sq (SH _ _) v) (by decide))).trans (congrArg (bC.aD _) ?_);refine(hU y _ 0 _).trans ?_;delta f';refine aa ?_ Ta;rfl
    induction a (q:=q++[i]) t (aa (aa (aa v (TH _ r.length)) (TK _ _ _)) Sr)using xf.casesOn with
    |pq f c=>exact .pq (fP d (EX.am (.C l .aw) (.am (.D e (.am W .aw)) .aw)) tP f) (s.trans c)
    |pt f c h=>exact .pt (fP d (EX.am (.C l .aw) (.am (.D e (.am W .aw)) .aw)) tP f) (s.trans c) (Sq h (by refine aa (aa (aa (SJ _) (TH _ r.length)) (TK _ _ _)) Sr))
def M1 (h:q[i]?=Sn (.aE y)) (j:ig (y.map (·.1))=Sn z) (w:z.length<=8):u1 av .lD (.ab i) q=.aj (.ab q.length) (q++[.ah ((kQ z).map .ag)]):=by
 delta u1;dsimp only;refine aa ?_ h;dsimp only;exact aa (if_pos w) j
def Dc (h:q[i]?=Sn (.a8 k d)):u1 av .gS (.ab i) q=.aj (.aq (k==1)) q:=by
 delta u1;dsimp only;exact aa rfl h
def M2 (y:q[B]?=Sn (.a8 1 d)):Ph (n+1) 11 [.ab z,.ab B,p] q=.bh p q:=by
 have h:EX (Ph n) [Sn (.ab z),Sn (.ab B),Sn p,none,none] [] j7.aA q (.bh p q):=.B (.D (.RX (.P (.ba .ad (Dc y)))) (.B (.ib .ad)));exact cj rfl h
def xg (z:(w==[])=Su) (h:gt s w=Sp):∃i,i∈s/\bw i=w/\iG s w=i:=by
 refine aP (Wq.mp h) λi y k=>?_;cases q:s.find? (λi=>bw i==w)with
 |none=>exact absurd k (List.find?_eq_none.mp q i y)
 |some j=>exact⟨j,WG q,beq_iff_eq.mp (YH (p:=λi=>bw i==w) q),(if_neg (z▸Tw)).trans ((if_pos h).trans q)⟩
def xh (T:dW q u m f) (W:m<64):∃Y,Ph (n+1) 11 [.ab u,.ag w,p] q=Db f (iG (cG m) w) p (q++Y):=by
 have g:EV (Ph n) [Sn (.ab u),Sn (.ag w),Sn p,none,none] [] j7.aA.fW.d q (.aq (w==[])) q:=.k9 (.RL (.P (.ba .ad rfl)) (.E .ad .ag rfl)) (X5 _);have e:EV (Ph n) [Sn (.ab u),Sn (.ag w),Sn p,none,none] [] j7.aA.bs.fW.d q (.aq (gt (cG m) w)) q:= T.in .ad .ad;cases b:w==[]with
 |true=>
  replace g:=(b)▸g;have h:EX (Ph n) [Sn (.ab u),Sn (.ag w),Sn p,none,none] [] j7.aA q (.bh p q):=.B (.D g (.B (.ib .ad)));have o:iG (cG m) w=none:=if_pos b;exact aa ⟨[],(SY q).symm▸cj rfl h⟩ o
 |false=>
  rw[b]at g;cases a:gt (cG m) w with
  |true=>
   refine aQ λG K=>?_;rw[a]at e;refine dz (xg b a) λi Q e0 o=>?_;subst e0;refine K ?_;refine aa ?_ o;have h:EX (Ph n) [Sn (.ab u),Sn (.ag (bw i)),Sn p,none,none] [] j7.aA q (.aO (.ab (iF f i)) q):=.am (.C g .aw) (.A (.D e (.A (.aO (T.aM Q .ad .ad)))));exact⟨[],(SY q).symm▸cj rfl h⟩
  |false=>
   rw[a]at e;have o:iG (cG m) w=_:=(if_neg (b▸Tw)).trans (if_neg (a▸Tw));have v:∀i∈jB (cG m),i∈cG m:=λi Q=>Vd.mp (Xz.mp Q).2;have x:(jB (cG m)).length<=6:=Vb _ _;have P:ig ((ef f).map (·.1))=((cG m).map bw):=by
    refine aT ?_ (wZ _);refine aT ?_ T.kq;delta ef;refine aa ?_ Tp;refine aa ?_ Tp;refine aa ?_ Tp;rfl
   have t:EV (Ph n) [Sn (.ab u),Sn (.ag w),Sn p,Sn (.ab q.length),none] [] (.ba .lD (.ad 0)) (q++[.ah []]) (.ab (q.length+1)) (f' q f [] (jB (cG m))):=by
    have:=EV.ba (.ad (z:=Ph n) (l:=[Sn (.ab u),Sn (.ag w),Sn p,Sn (.ab q.length),none]) (c:=[]) (i:=0)) (M1 (aC T.aE:(q++[.ah []])[u]?=_) P (by exact aa (a5 (Vb _ _) rfl) (Sx _)));rw[MZ m W,Sr,Ss,Tp]at this;exact this
   have hit:ej av .cN (.ab (q.length+1)) (f' q f [] (jB (cG m)))=_:=(jP xe).trans (congrArg (λz=>Sn (z,Sn (q.length+1))) Tp);have k:∀r,EX (Ph n) [Sn (.ab u),Sn (.ag w),Sn p,Sn (.ab q.length),none] [] j7.aA.bs.bs.bs (q++[.ah []]) r->EX (Ph n) [Sn (.ab u),Sn (.ag w),Sn p,none,none] [] j7.aA q r:=λr h=>.am (.C g .aw) (.am (.C e .aw) (.am (.a6 (.bj .ao)) h));induction M0 (q:=[]) T (jB (cG m)) v (a5 (SF x 0) rfl)using xf.casesOn with
   |@pq i y d Z=>
    refine aa ?_ o;refine aa ?_ Z;exact⟨_,cj rfl (k _ (.A (.eG t hit (ja rfl _) d)))⟩
   |@pt y J d Z U=>
    have s:EV (Ph n) [Sn (.ab u),Sn (.ag w),Sn p,Sn (.ab q.length),J] [] j7.aA.bs.bs.bs.bs.fW.d (f' q f y (jB (cG m))) (.aq (!((y.length:Int)==1))) (f' q f y (jB (cG m))):=by
     have:=EV.R1 (z:=Ph n) (l:=[Sn (.ab u),Sn (.ag w),Sn p,Sn (.ab q.length),J]) (c:=[]) (.RD (.ad (i:=3)) (bA q [.ah (y.map λi=>.ab (iF f i)),.ah ((jB (cG m)).map λi=>.ag (bw i))] 0)) (EV.ae (i:=1));rw[Sx]at this;exact this
    refine aa ?_ o;refine aa ?_ Z;rcases y with _|⟨i,_|⟨j,r⟩⟩
    ·exact⟨_,cj rfl (k _ (.am (.eG t hit (ja rfl _) d) (.B (.D s (.B (.ib .ad))))))⟩
    ·exact⟨_,cj rfl (k _ (.am (.eG t hit (ja rfl _) d) (.am (.C s .aw) (.A (.aO (jd (bA q _ 0) rfl .ad .ae))))))⟩
    ·have L:=congrArg not (beq_false_of_ne λz=>Yw r.length (U6 (VZ z)))
     have F:((i::j::r).length==1)=Su:=beq_false_of_ne λz=>by cases z
     exact⟨_,cj rfl (k _ (.am (.eG t hit (ja rfl _) d) (.B (.D s (.B (.ib .ad))))))⟩
def xi (y:q[i]?=Sn (.ah z)) (w:q[j]?=Sn (.ah [])) (k:i≠j):dY av .bp (.ab i) (.ab j) q=z.isEmpty:=by
 refine(lh y w k).trans ?_;induction z using SD<;>rfl
def EV.R6 (k:EV z l c y q (.ab i) q) (j:q[i]?=Sn (.ah w)):EV z l c (.tr (.aB .bp y (.bj .ao))) q (.aq w.isEmpty) q:=.tr (.aB k (.bj .ao) (xi (aC j) bV (SQ (bQ j))))
def EV.R3 (k:EV z l c y q (.ab i) q) (j:q[i]?=Sn (.ah w)):EV z l c (.tr (.aB .bM y (.bj .ao))) q (.aq (!w.isEmpty)) q:=.tr (.aB k (.bj .ao) (congrArg (UA Bool.not) (xi (aC j) bV (SQ (bQ j)))))
noncomputable def jU:Option Nat->V
 |some i=>.ag (bw i)
 |none=>.az
noncomputable def mq (s:List Nat) (w:List Nat):Option Nat:=
 if w==[]then none else if gt s w then s.find? (λi=>bw i==w)else
  ((Te 6).filter λi=>gt s (bw i)&&ko i==w).head?<|>(if(s.filter λi=>(bw i).take w.length==w).length==1 then(s.filter λi=>(bw i).take w.length==w).head? else none)
def EV.mJ (p:EV y l c w q (.ab i) q) (r:c[k]?=Sn j) (u:q[j]?=Sn (.a9 (Sn (.ag b)))) (g:q[i]?=Sn (.aE z)) (f:(eg z&&SW (z.length<=1000))=Sp):
  EV y l c (.mJ w k) q (.ab q.length) (q++[.ah ((z.map (·.1)).filter λk=>match k with| .ag l=>l.take b.length==b|_=>Su)]):=by
 refine(di p).trans ?_;refine aa (aa ?_ (Wm _ _)) r;refine aa ?_ u;dsimp only;exact aa (if_pos f) g
noncomputable def gu (σ:List O) (td:Nat) (w:List Nat):List O:=σ++[.a9 (Sn (.ab td)),.a9 (Sn (.ag w))]
def M3 (T:dW q k m g):EV f l [q.length,q.length+1] ov.aA.bs.fW.d (gu q k w) (.ab (gu q k w).length) (gu q k w++[.ah (((Te 6).filter λi=>gt (cG m) (bw i)&&ko i==w).map λi=>.ag (bw i))]):=by
 have h:∀i,i<6->∀y,EV f [none,Sn (.bW (454+i))] [q.length,q.length+1] (.and (.tr (.aB .d' (.aM (.ad 1) (.ae 0)) (.aW 0))) (.tr (.aB .bp (.aM (.ad 1) (.ae 1)) (.aW 1)))) (gu q k w++[.ah y]) _ (gu q k w++[.ah y]):=λi r y=>
  .RY (dW.in (dW.A (dW.A T)) (.RF r .ad rfl) (.aW (aC (bA q _ 0)))) (.E (.RF r .ad rfl) (.aW (aC (bA q _ 1))) rfl)
 have:=EV.RI (l:=l) (c:=[q.length,q.length+1]) (J:=[0,1]) (q:=[q.length,q.length+1]) (y:=.cN) (G:=(Te 6).map λi=>.bW (454+i)) (p:=λv=>match v with| .bW a=>gt (cG m) (bw (a-454))&&ko (a-454)==w|_=>Su) (e:=λv=>match v with| .bW a=>.ag (bw (a-454))|v=>v)
  (M:=.aM (.ad 1) (.ae 0)) (.cr (v:=.bW 460)) rfl (λj h=>nomatch h) rfl (λx u y=>by
   refine aQ λG t=>?_;refine cW u λi r e0=>?_;subst e0;refine t ?_;refine .k9 (h i (UD.mp r) y) ?_;dsimp only;exact aa rfl (Uj _ _)) (λx u d y=>by
   refine cW u λi r e0=>?_;subst e0;dsimp only;refine aa ?_ (Uj _ _);exact .RF (UD.mp r) .ad rfl) (by decide)
 rw[YI,Tp]at this;refine this.trans (congrArg (λz=>R.aj _ (gu q k w++[O.ah z])) ?_);have s:=funext λi=>by
  show(gt (cG m) (bw (454+i-454))&&ko (454+i-454)==w)=_;exact aa rfl (Uj _ _)
 exact UM λi d=>by
  show V.ag (bw (454+i-454))=_;exact aa rfl (Uj _ _)
def M4 (q:(w==[])=Su) (h:gt s w=Sp):jU (mq s w)=.ag w:=by
 refine dz (xg q h) λi z e0 e=>?_;subst e0;have:mq s (bw i)=i:=((if_neg (q▸Tw)).trans (if_pos h)).trans (((if_neg (q▸Tw)).trans (if_pos h)).symm.trans e);refine aa ?_ this;rfl
def M5 {w q:List Nat} (r:y[a]?=Sn (.ah (w.map λi=>.ag (bw i)))) (u:y[b]?=Sn (.ah (q.map λi=>.ag (bw i)))):
  EV p [Sn (.ab a),Sn (.ab b)] c ov.aA.bs.bs.bs.fW.d y (jU (w.head?<|>(if q.length==1 then q.head? else none))) y:=by
 have g:EV p [Sn (.ab a),Sn (.ab b)] c (.tr (.aB .bM (.ad 0) (.bj .ao))) y _ y:=.R3 .ad r;have k:EV p [Sn (.ab a),Sn (.ab b)] c (.tr (.aB .bp (.tr (.ba .bd (.ad 1))) (.ae 1))) y _ y:=.Q (.RD .ad u) .ae;rw[Sx]at k;induction w using SD with
 |cons i w=>exact .D g (jd r rfl .ad .ae)
 |nil=>
  refine .C g ?_;induction q using SD with
  |nil=>exact .C k .az
  |cons i q=>
   induction q using SD with
   |nil=>exact .D k (jd u rfl .ad .ae)
   |cons j q=>exact .C (.k9 k (beq_false_of_ne λz=>Yw q.length (U6 (VZ z)))) .az
def Dd (T:dW q z m d):∃u,Ph (n+1) 18 [.ab z,.ag w] q=.aj (jU (mq (cG m) w)) (q++u):=by
 have x:dW (gu q z w) z m d:=T.A;have Q:∀S,(gu q z w++S)[q.length]?=_:=λS=>aC (bA q _ 0);have Z:∀S,(gu q z w++S)[q.length+1]?=_:=λS=>aC (bA q _ 1);have o:∀p,_=p->EV (Ph n) [none,none] [q.length,q.length+1] ov.aA.fW.d (gu q z w) (.aq p) (gu q z w):=λp Y=>Y▸.RL (.E (.aW (bA q _ 1)) .ag rfl) (x.in (.aW (bA q _ 1)) (.aW (bA q _ 0)));have g:EV (Ph n) [none,none] [q.length,q.length+1] (.tr (.aB .bM (.aW 1) (.ag []))) (gu q z w) (.aq (!(w==[]))) (gu q z w):=.RN (.aW (bA q _ 1)) .ag
 have t:∀{v S},EX (Ph n) [none,none] [q.length,q.length+1] ov.aA (gu q z w) (.aO v (gu q z w++S))->v=jU (mq (cG m) w)->∃u,Ph (n+1) 18 [.ab z,.ag w] q=.aj _ (q++u):=λ{v S} h e=>by
  subst e;delta gu at h;rw[Ss]at h;have J:Ph (n+1) 18 [.ab z,.ag w] q=gM (.aO _ _):=nN rfl h;exact⟨_,J⟩
 have y:∀{v},EX (Ph n) [none,none] _ ov.aA (gu q z w) _->v=jU (mq (cG m) w)->∃u,Ph (n+1) 18 [.ab z,.ag w] q=.aj _ (q++u):=λ{v} h=>t (h.trans (congrArg (bC.aO v) (SY (gu q z w)).symm));cases j:w==[]with
 |true=>
  replace g:=(j)▸g;exact y (.A (.D (o Sp (by refine aa ?_ j;rfl)) (.A (.aO (.C g .az))))) (congrArg jU (if_pos j:mq (cG m) w=none)).symm
 |false=>
  rw[j]at g;cases s:gt (cG m) w with
  |true=>exact y (.A (.D (o Sp (by refine aS ?_ j s;rfl)) (.A (.aO (.D g (.aW (bA q _ 1))))))) (M4 j s).symm
  |false=>
   have b:mq (cG m) w=_:=(if_neg (j▸Tw)).trans (if_neg (s▸Tw));have a:=M3 (f:=Ph n) (l:=[none,none]) (w:=w) T;generalize((Te 6).filter λi=>gt (cG m) (bw i)&&ko i==w)=W at b a;have r:=EV.mJ (y:=Ph n) (l:=[Sn (.ab (gu q z w).length),none]) (c:=[q.length,q.length+1]) (k:=1) (.aW (i:=0) (Q [.ah (W.map λi=>.ag (bw i))])) rfl (Z _) (aC x.aE) (Sz.mpr ⟨ri d,decide_eq_true (by delta ef;refine aa (aT ?_ (Sx (f:=(·.1)))) (Sx _);exact aa (a5 (Vb _ _) rfl) T.kq)⟩)
   rw[show(ef d).map (·.1)=(cG m).map λi=>.ag (bw i)from by refine aT ?_ T.kq;rewrite[ef];refine aS ?_ Tp Tp;rfl,YI,Sr,Ss]at r;generalize _=K at b r;exact t (.am (.C (o Su (by refine aS ?_ s j;rfl)) .aw) (.am (.a6 a) (.am (.a6 r) (.A (.aO (M5 (bA _ _ 0) (bA _ _ 1))))))) (congrArg jU b.symm)
noncomputable def kt:List (List Nat):=[[115,112,108,105,116],[115,112],[115,112,108],[115],[115,104],[115,104,111,119],[115,119],[110],[110,112],[110,101,119,45,112,97,110,101],[120],[],[115,112,108,105,116,45],[115,104,111,119,45,114,111,119,115]]
def xj:∀m,m<64->∀w∈kt++(Te 6).map bw,(iG (cG m) w==mq (cG m) w&&(iG (cG m) w).all (cG m).contains)=Sp:=by decide+kernel
def EV.iv (r:EV j l c p y (.ab i) q) (u:q[i]?=Sn (.cq k w)) (g:j (1000+k) (w.map .ab) q=.aj v z):EV j l c (.iv p) y (.ab z.length) (z++[.aX [.bx 0,v]]):=by
 refine(di r).trans ?_;delta ea;dsimp only;refine aa ?_ u;dsimp only;refine aa ?_ g;rfl
def EV.RW (r:EV j l c p y (.ab i) q) (u:q[i]?=Sn (.cq k w)) (g:j (1000+k) (w.map .ab) q=.bh v z):EV j l c (.iv p) y (.ab z.length) (z++[.aX [.bx 1,v]]):=by
 refine(di r).trans ?_;delta ea;dsimp only;refine aa ?_ u;dsimp only;refine aa ?_ g;rfl
def EV.cq (h:q.mapM (c[·]?)=Sn y):EV j l c (.cq k q) z (.ab z.length) (z++[.cq k y]):=by
 show(match q.mapM (c[·]?)with|some y=>ea _ z|Option.none=>.ak)=_;refine aa ?_ h;rfl
def M6 (q:List Nat):oi (q.map .ab)=q:=by
 induction q with
 |nil=>rfl
 |cons c q z=>exact congrArg _ z
def mr (y:Lt k=Sn x):Ph (n+1) (1000+k) (q.map .ab) z=ev (Ph n) av x [] q z:=(if_neg (TN.mpr (SH 1000 k))).trans (aa (aa (aa rfl (M6 _)) y) (Uj _ _))
def rt (w:q[i]?=Sn (.aX z)) (k:q[j]?=Sn (.aX y)) (p:i≠j):dY av .bp (.ab i) (.ab j) q=fC (cV q gw) z y:=(if_neg p).trans (aS rfl k w)
def xk (w):cV q (n+1) (.ag w) (.ag w)=Sp:=congrArg Sn (beq_self_eq_true w)
def nP (k):cV q (n+1) (.ae k) (.ae k)=Sp:=congrArg Sn (beq_self_eq_true k)
def tQ (z:cV q gw v v=Sp):fC (cV q gw) [.bx k,v] [.bx k,v]=Sp:=by
 show(match Sn (k==k),(match cV q gw v v,Sn Sp with|some a,Sn b=>Sn (a&&b)|_,_=>none)with|some a,Sn b=>Sn (a&&b)|_,_=>none)=_;refine aS ?_ (beq_self_eq_true _) z;rfl
def EV.nQ (w:EV z l c y q (.ab (q++A).length) (q++A++[.aX [.bx k,v]])) (p:EV z l c j (q++A++[.aX [.bx k,v]]) (.ab ((q++A).length+1)) (q++A++[.aX [.bx k,v],.aX [.bx k,v]])) (r:∀S,Internal.cV S gw v v=Sp):EV z l c (.tr (.aB .bp y j)) q (.aq Sp) q:=
 .tr (y:=A++[.aX [.bx k,v],.aX [.bx k,v]]) (Ss q A _▸.aB w p ((rt (bA (q++A) _ 0) (bA (q++A) _ 1) (SQ (Td _))).trans (tQ (r _))))
noncomputable def M7 (q:Option Nat) (p:V) (σ:List O):R V:=match q with|some i=>.aj (.ag (bw i)) σ|none=>.bh p σ
noncomputable def kS (σ:List O) (td:Nat) (y:Option V) (τ:List O):List O:=σ++(.a9 (Sn (.ab td))::.a9 y::.aX (kt.map .ag)::τ)
def ms (k):(kS q z y j)[q.length+k]?=(O.a9 (Sn (.ab z))::.a9 y::.aX (kt.map .ag)::j)[k]?:=bA q _ k
def De (T:dW z q m j):dW (kS z q y w) q m j:=T.A
def M8 (T:dW q j m r) (u:m<64) (e:w∈kt++(Te 6).map bw):∃z,ev (Ph (n+1)) av yP [] [q.length,q.length+1] (kS q j (Sn (.ag w)) k++A)=M7 (iG (cG m) w) (.ae 7) (kS q j (Sn (.ag w)) k++A++z):=by
 have g:dW (kS q j (Sn (.ag w)) k++A) j m r:=(De T).A;obtain⟨z,h⟩:=xh g u;have y:=(Sz.mp (xj m u w e)).2;have l:cO (Ph (n+1)) [] [q.length,q.length+1] (.ai (.aW 0) (.ai (.aW 1) (.ai (.ae 7) .ao))) (kS q j (Sn (.ag w)) k++A) _ _:=.ai (.aW (aC (ms 0))) (.ai (.aW (aC (ms 1))) (.a7 .ae));cases f:iG (cG m) w with
 |some i=>
  rw[f]at h y;have c:=(g.IW (Vd.mp y)).2;have p:=let⟨_,t,_⟩:=c;decide_eq_true (bQ t)
  exact⟨[],(EV.at (.tr (.bR l h) p) c).trans (congrArg (R.aj _) (SY _).symm)⟩
 |none=>
  rw[f]at h;exact⟨z,AR (mi (EV.RV l h))⟩
def tS (z:c[i]?=Sn j) (w:q[j]?=Sn (.a9 y)):dZ k av [.aW i] [v] l c q=.aD l (q.set j (.a9 v)):=by
 refine jv ?_;delta eL;dsimp only;refine aa ?_ z;dsimp only;exact aa rfl w
def Df:(kS q z y j)[q.length+2]?=Sn (.aX (kt.map .ag)):=ms 2
def xl:kS q z y j++A=kS q z y (j++A):=Ss _ _ _
noncomputable abbrev tT:S:=sj.aA.fW.fW
noncomputable abbrev xm:X:=.aY (.tr (.aB .j0 (.ad 0) .az)) (.dO (.ai (.bx 1) (.ai (.ae 7) .ao))) (.dO (.ai (.bx 0) (.ai (.ad 0) .ao)))
def M9 {A:List O} (w:(k,v)=match q with|some i=>(0,.ag (bw i))|none=>(1,.ae 7)) (p:z[A.length]?=Sn (.aX [.bx k,v])) (r:A.length<z.length):
  EV j [Sn (jU q),Sn (.ab A.length)] c (.tr (.aB .bM (.ad 1) xm)) z (.aq Su) z:=by
 have y:∀S:List O,EV j [Sn (jU q),Sn _] c xm z _ _->(∀S,cV S gw v v=Sp)->EV j _ c (.tr (.aB .bM (.ad 1) xm)) z (.aq Su) z:=λg h u=>
  .tr (.aB .ad h (congrArg (UA Bool.not) ((rt (aC p) bV (SQ r)).trans (tQ (u _)))))
 induction q using Tr with
 |some i=>
  cases w;exact y [] (.C (.k9 (.R8 .ad) rfl) (.dO (.ai .bx (.a7 .ad)))) λS=>xk _
 |none=>
  cases w;exact y [] (.D (.k9 (.R8 .ad) rfl) (.dO (.ai .bx (.a7 .ae)))) λS=>nP _
inductive Na (n td:Nat) (σ τ:List O) (w:List Nat) (l:bo):Prop where
 |mk {d_:List O} {x y:V} (h:EX (Ph (n+2)) l [σ.length,σ.length+1] tT (kS σ td (Sn (.ag w)) τ) (.aD [Sn x,Sn y] (kS σ td (Sn (.ag w)) d_)))
def M' (T:dW p g m b) (t:m<64) (x:w∈kt):Na n g p f w [y,z]:=by
 have u:w∈kt++(Te 6).map bw:=List.mem_append_left _ x;let S:=kS p g (Sn (.ag w)) f
 obtain⟨h,d⟩:=Dd (q:=S) (De T);obtain⟨c,l⟩:=M8 T t u;rw[<-(beq_iff_eq.mp (Sz.mp (xj m t w u)).1)]at d;have j:EV (Ph (n+2)) [Sn (jU (iG (cG m) w)),z] [p.length,p.length+1] (.cq 0 [0,1]) S (.ab S.length) (S++[.cq 0 [p.length,p.length+1]]):=.cq rfl;have a:∀q,c8 S.length (jU q)=Sp:=λq=>by induction q using Tr<;>rfl
 have Q:EX (Ph (n+2)) [y,z] [p.length,p.length+1] tT.fW S _:=.a6 (.RR (.ai (.aW (ms 0)) (.a7 (.aW (ms 1)))) d (a _));have r:∀{k} {v} {A},EV (Ph (n+2)) _ _ _ S (.ab A.length) _->(k,v)=_->A=S++[.cq 0 [p.length,p.length+1]]++c->Na n g p f w [y,z]:=λ{k v A} Z Y J=>by
  have s:EX (Ph (n+2)) [y,z] _ tT S _:=.am Q (.am (.a6 Z) (.am (.C (M9 Y bV (aa (Td _) Sr)) .aw) .aw));rw[J,xl,xl,xl]at s;exact⟨s⟩
 cases o:iG (cG m) w with
 |some i=>
  rw[o]at l r j;exact r (.iv j bV ((mr rfl).trans l)) rfl rfl
 |none=>
  rw[o]at l r j;exact r (.RW j bV ((mr rfl).trans l)) rfl rfl
inductive Q7 (n td:Nat) (σ:List O) (st:List O->Bool) (ws:Ws) (y:Option V) (τ:List O) (l:bo):Prop where
 |mk {y' a b:Option V} {d_:List O} (h:ew (λl a_=>Internal.aU (Ph (n+2)) av tT l [σ.length,σ.length+1] a_) (λrow l a_=>dZ (Ph (n+2)) av [.aW 1] row l [σ.length,σ.length+1] a_) st (ws.map λw=>[.ag w]) l (kS σ td y τ)=.aD [a,b] (kS σ td y' d_))
def Nb (T:dW q j m l) (f:m<64) (p:∀y z,r (kS q j y z)=Sp) (k):∀{y} {z} {a b},(∀w∈k,w∈kt)->Q7 n j q r k y z [a,b]:=by
 induction k with
 |nil=>exact λs=>⟨rfl⟩
 |cons w k c=>
  intro y z a b g;obtain⟨e⟩:=M' T f (g w (.head _));obtain⟨t⟩:=c λu m=>g u (.tail _ m);exact⟨fP ((tS rfl (ms 1)).trans (congrArg _ (hU q _ 1 _))) e (p _ _) t⟩
def Nc (T:dW q z m d) (s:m<64):∃u,Ph (n+3) 19 [.ab z] q=.aj (.aq Sp) (q++u):=by
 set_option tactic.hygienic true in obtain⟨h⟩:=Nb (r:=bn (Sn (q.length+2)) (kS q z none [])) T s (λy u=>beq_iff_eq.mpr (Df.trans Df.symm)) kt λJ h=>h
 rename_i o a b g;have j:EV (Ph (n+2)) [none,none] [q.length,q.length+1] sj.aA.fW.d (q++[.a9 (Sn (.ab z)),.a9 none]) (.ab (q.length+2)) (kS q z none []):=by
  have:EV (Ph (n+2)) [none,none] [q.length,q.length+1] sj.aA.fW.d (q++[.a9 (Sn (.ab z)),.a9 none]) _ _:=.dO (.ai .ag (.ai .ag (.ai .ag (.ai .ag (.ai .ag (.ai .ag (.ai .ag (.ai .ag (.ai .ag (.ai .ag (.ai .ag (.ai .ag (.ai .ag (.ai .ag .ao))))))))))))));rw[Ss,Sr]at this;exact this
 have f:ej av .cN (.ab (q.length+2)) (kS q z none [])=Sn (kt.map λw=>[.ag w],Sn (q.length+2)):=by
  delta ej;dsimp only;refine aa ?_ (ms 2);rfl
 let S:=kS q z o g
 have t:∃A,ev (Ph (n+1)) av yQ [] [q.length] (S++[.cq 1 [q.length]])=.bh (.ae 9) (S++A):=by
  have:=mi (EV.RV (cO.ai (EV.aW (i:=0) (aC (ms 0):(S++[.cq 1 [q.length]])[q.length]?=_)) (.ai (EV.dw (k:=1) (y:=Ph (n+1)) (l:=[]) (c:=[q.length]) (.a7 (.bj .ao)) w3) (.a7 (EV.ae (i:=9))))) (M2 (bA _ _ 0)));rw[Ss,Ss]at this;exact⟨_,this⟩
 obtain⟨A,Q⟩:=t;have Y:Ph (n+3) 19 [.ab z] q=gM (.aO _ _):=nN (j:=[Sn (.ab z),none]) rfl (.am (.eG j f (ja rfl _) h) (.A (.aO (.nQ (.RW (.cq rfl) bV ((mr (q:=[q.length]) rfl).trans Q)) (by
   have:=EV.dO (y:=Ph (n+2)) (l:=[a,b]) (c:=[q.length,q.length+1]) (w:=S++A++[.aX [.bx 1,.ae 9]]) (.ai (.bx (k:=1)) (.a7 (.ae (i:=9))));rw[Sr (as:=S++A),Ss (S++A)]at this;exact this) λS=>nP _))))
 exact⟨_,Y⟩
noncomputable abbrev FD:=List (Nat×List V)
noncomputable def dC:FD->Nat->V->FD
 |[],o,v=>[(o,[v])]
 |g::r,o,v=>if g.1=o then(o,g.2++[v])::r else g::dC r o v
def tU:dC (g::r) o v=if g.1=o then(o,g.2++[v])::r else g::dC r o v:=rfl
noncomputable abbrev GD:=List (Nat×Nat×List V)
noncomputable def gF (G:GD):FD:=G.map λg=>(g.1,g.2.2)
noncomputable def dJ (G:GD):List (V×V):=G.map λg=>(.ag [g.1],.ab g.2.1)
noncomputable def cr:GD->Nat->Option (Nat×List V)
 |[],_=>none
 |g::r,o=>if g.1=o then Sn g.2 else cr r o
def rx:cr (g::r) o=if g.1=o then Sn g.2 else cr r o:=rfl
noncomputable def gb:GD->Nat->(Nat×List V->Nat×List V)->Nat×List V->GD
 |[],o,_,q=>[(o,q)]
 |g::r,o,f,q=>if g.1=o then(o,f g.2)::r else g::gb r o f q
def lr:gb (g::r) o f q=if g.1=o then(o,f g.2)::r else g::gb r o f q:=rfl
def Dg:(V.ag [i]==V.ag [j])=(i==j):=xd.trans (by
 cases h:i==j with
 |true=>exact aa (beq_self_eq_true _) (beq_iff_eq.mp h)
 |false=>exact beq_false_of_ne λz=>by rw[(Uu z).1,beq_self_eq_true]at h;exact bv h.symm)
def pu (G):(dJ G).lookup (.ag [o])=(cr G o).map λp=>.ab p.1:=by
 induction G with
 |nil=>rfl
 |cons g G q=>
  show(match V.ag [o]==V.ag [g.1]with|true=>Sn _|false=>(dJ G).lookup _)=(if g.1=o then Sn g.2 else cr G o).map λp=>.ab p.1;refine aS ?_ q Dg;by_cases h:g.1=o
  ·refine aa (aa ?_ h) (if_pos h);refine aa ?_ (beq_self_eq_true _);rfl
  ·exact aa (aa rfl (beq_false_of_ne λz=>h z.symm)) (if_neg h)
def Dh (G) (q) (f) (y:∀p,(f p).1=q.1):dT (dJ G) (.ag [o]) (.ab q.1)=dJ (gb G o f q):=by
 induction G with
 |nil=>rfl
 |cons g G j=>
  show(if V.ag [g.1]=V.ag [o]then _::dJ G else _::dT (dJ G) _ (.ab q.1))=dJ (if g.1=o then(o,f g.2)::G else g::gb G o f q);by_cases h:g.1=o
  ·refine aS ?_ (if_pos h) (if_pos (aa rfl h));refine aa (aT ?_ (y g.2)) h;rfl
  ·refine aS ?_ (if_neg h) (if_neg λz=>h (Uu (V.ag.inj z)).1);refine aa ?_ j;rfl
def Nd (G) (q) (f) (z:∀p,(f p).1=p.1) (h:cr G o=Sn p):dJ (gb G o f q)=dJ G:=by
 induction G with
 |nil=>exact aG h
 |cons g G y=>
  by_cases e:g.1=o
  ·rewrite[lr];refine aa ?_ (if_pos e)
   show(V.ag [o],V.ab (f g.2).1)::dJ G=(V.ag [g.1],V.ab g.2.1)::dJ G;exact aS rfl e (z _)
  ·rw[rx,if_neg e]at h
   rewrite[lr];refine aa ?_ (if_neg e);exact congrArg (_::·) (y h)
def xn (G) (q) (f) (z:∀p,(f p).2=p.2++[v]):gF (gb G o f (q,[v]))=dC (gF G) o v:=by
 induction G with
 |nil=>rfl
 |cons g G y=>
  show gF (if g.1=o then(o,f g.2)::G else g::gb G o f (q,[v]))=if g.1=o then(o,g.2.2++[v])::gF G else(g.1,g.2.2)::dC (gF G) o v
  by_cases h:g.1=o
  ·refine aa (aa ?_ (if_pos h)) (if_pos h);refine aT ?_ (z _);rfl
  ·refine aa (aa ?_ (if_neg h)) (if_neg h);refine aT ?_ y;rfl
structure cQ (S:List O) (B D:Nat) (G:GD) (N:Nat):Prop where
 aE:S[D]?=Sn (.aE (dJ G))
 dG:∀g∈G,S[g.2.1]?=Sn (.ah g.2.2)/\B<=g.2.1
 fG:G.Pairwise λg g'=>g.2.1≠g'.2.1
 je:D<B
 gO:G.length<=N/\∀g∈G,g.2.2.length<=N
structure eE (B D:Nat) (S S':List O):Prop where
 dg:∀m,m<B->m≠D->S'[m]?=S[m]?
 bd:B<=S.length->B<=S'.length
def eE.A {S} (h:eE B D S y) (j:eE B D y q):eE B D S q:=⟨λm w k=>(j.dg m w k).trans (h.dg m w k),λz=>j.bd (h.bd z)⟩
def ku (G) (h:cr G o=Sn p):(o,p)∈G:=by
 induction G with
 |nil=>exact aG h
 |cons g G q=>
  by_cases e:g.1=o
  ·rw[rx,if_pos e]at h
   replace h:=Sv h;subst h;exact aT (.head _) e
  ·rw[rx,if_neg e]at h
   exact .tail _ (q h)
def xo (G) (k:G.Pairwise λg j=>g.2.1≠j.2.1) (h:g∈gb G o f q):(g∈G/\∀p,cr G o=Sn p->p.1≠g.2.1)∨g=(o,q)/\cr G o=none∨∃p,cr G o=Sn p/\g=(o,f p):=by
 induction G with
 |nil=>exact .inr (.inl ⟨SP.mp h,rfl⟩)
 |cons j G r=>
  obtain⟨w,u⟩:=Vc.mp k;by_cases e:j.1=o
  ·rw[lr,if_pos e]at h
   rcases Tq.mp h with h|h
   ·exact .inr (.inr ⟨j.2,if_pos e,h⟩)
   ·exact .inl ⟨.tail _ h,λp y=>Sv ((if_pos e).symm.trans y)▸w g h⟩
  ·rw[lr,if_neg e]at h
   rcases Tq.mp h with h|h
   ·exact .inl ⟨aa (.head _) h,λp y=>aa ((w _ (ku G ((if_neg e).symm.trans y))).symm) h⟩
   ·exact(r u h).imp (λz=>⟨.tail _ z.1,λp y=>z.2 p ((if_neg e).symm.trans y)⟩) (.imp (λz=>⟨z.1,(if_neg e).trans z.2⟩) λ⟨p,z⟩=>⟨p,(if_neg e).trans z.1,z.2⟩)
def Di (G) (h:G.Pairwise λg y=>g.2.1≠y.2.1) (k:∀p,cr G o=Sn p->(f p).1=p.1∨∀g∈G,g.2.1≠(f p).1) (c:∀g∈G,g.2.1≠q.1):(gb G o f q).Pairwise λg y=>g.2.1≠y.2.1:=by
 induction G with
 |nil=>exact List.pairwise_singleton _ _
 |cons g G t=>
  obtain⟨r,u⟩:=Vc.mp h;by_cases e:g.1=o
  ·rewrite[lr];refine aa ?_ (if_pos e)
   refine Vc.mpr ⟨λy j=>?_,u⟩;rcases k g.2 (if_pos e)with z|z
   ·exact aa (r y j) z
   ·exact(z y (.tail _ j)).symm
  ·rewrite[lr];refine aa ?_ (if_neg e)
   refine Vc.mpr ⟨λy j=>?_,t u (λp w=>(k p ((if_neg e).trans w)).imp id λz y m=>z y (.tail _ m)) λy m=>c y (.tail _ m)⟩;rcases xo G u j with z|⟨rfl,-⟩|⟨p,w,rfl⟩
   ·exact r y z.1
   ·exact c g (.head _)
   ·rcases k p ((if_neg e).trans w)with z|z
    ·exact aa (r _ (ku G w)) z
    ·exact z g (.head _)
def Dj (G):(gb G o f q).length<=G.length+1:=by
 induction G with
 |nil=>exact SJ _
 |cons g G z=>
  by_cases e:g.1=o
  ·rewrite[lr];exact aa (Tx _) (if_pos e)
  ·rewrite[lr];exact aa (SE z) (if_neg e)
noncomputable def Dk (v:V):Option (Nat×List V)->List V
 |some p=>p.2++[v]
 |none=>[v]
def cQ.m6 {S} (F:cQ S B D G N) (l:B<=S.length) (e:k[D]?=Sn (.aE (dJ (gb G o (λp=>(q,p.2++[v])) (q,[v]))))) (t:∀m,m<S.length->m≠D->k[m]?=S[m]?) (w:k[q]?=Sn (.ah (Dk v (cr G o)))) (j:S.length<=q):
  cQ k B D (gb G o (λp=>(q,p.2++[v])) (q,[v])) (N+1):=by
 have r:=λg y=>bQ (F.dG g y).1;have f:∀g∈gb G o (λp=>(q,p.2++[v])) (q,[v]),(k[g.2.1]?=_/\B<=g.2.1)/\g.2.2.length<=N+1:=λg y=>by
  rcases xo G F.fG y with⟨z,-⟩|⟨rfl,z⟩|⟨p,c,rfl⟩
  ·exact⟨⟨(t _ (r g z) (TB (SA F.je (F.dG g z).2))).trans (F.dG g z).1,(F.dG g z).2⟩,UJ (F.gO.2 g z)⟩
  ·replace w:=z▸w
   exact⟨⟨w,Sq l j⟩,SE (S6 _)⟩
  ·replace w:=c▸w
   exact⟨⟨w,Sq l j⟩,by refine aa (SE (F.gO.2 _ (ku G c))) Sr⟩
 have u:=λg y=>SQ (SA (r g y) j);exact⟨e,λg y=>(f g y).1,Di G F.fG (λp d=>.inr u) u,F.je,Sq (Dj G) (SE F.gO.1),λg y=>(f g y).2⟩
inductive Dl (Φ:dy) (l:bo) (c:List Nat) (s:Internal.S) (S:List O) (B D:Nat) (G:GD) (N o:Nat) (v:V):Prop where
 |mk {S':List O} {G':GD} (h:EX Φ l c s S (.aD l S')) (f:cQ S' B D G' (N+1)) (e:gF G'=dC (gF G) o v) (old:eE B D S S')
def jV (G):eg (dJ G)=Sp:=SN.mpr λx q=>by
 refine cW q λe _ e0=>?_;subst e0;rfl
def Nf (h:q[i]?=Sn (.aE z)) (j:(eJ u z&&SW (z.length<=1000))=Sp):ei av .lF (.ab i) [u,v] q=match z.lookup u with|some w=>.aj w q|none=>.aj v (q.set i (.aE (dT z u v))):=by
 delta ei;dsimp only;exact aa (if_pos j) h
def cQ.bX {S} (F:cQ S B D G N) (q:N<=900) (z:b=Sp):(b&&SW ((dJ G).length<=1000))=Sp:=Sz.mpr ⟨z,decide_eq_true (by delta dJ;exact aa (Sq F.gO.1 (a5 q rfl)) (Sx _))⟩
def Ng (G) (h:cr G o=none):gb G o f q=G++[(o,q)]:=by
 induction G with
 |nil=>rfl
 |cons g G z=>
  by_cases e:g.1=o
  ·rw[rx,if_pos e]at h;exact aG h.symm
  ·rw[rx,if_neg e]at h
   rewrite[lr];refine aa (aa ?_ (z h)) (if_neg e);rfl
def Nh {S} (F:cQ S B D G N) (W:N<=900) (K:B<=S.length) (H:EV j l c P S (.ab D) S) (A:∀e,EV j l c U e (.ag [o]) e) (L:∀e,EV j l c M e v e):Dl j l c (.aU (.tr (.bK .dN (.tr (.bK .lF P (.ai U (.ai (.bj .ao) .ao)))) (.ai M .ao)))) S B D G N o v:=by
 have C:(S++[.ah []])[D]?=Sn (.aE (dJ G)):=aC F.aE;have t:=Nf (u:=.ag [o]) (v:=.ab S.length) C (F.bX W (jV G));rw[pu]at t;have y:∀{w T},ei av .lF (.ab D) _ _=.aj w T->EV j l c _ S w T:=λh=>.bK H ((jy F.aE).symm▸rfl) (.ai (A S) (.a7 (.bj .ao))) ((jy C).trans (jy F.aE).symm) h;cases d:cr G o with
 |some p=>
  obtain⟨k,vs⟩:=p;rw[d]at t;have a:=ku G d;have E:=(F.dG _ a).1;have x:EV j l c _ S (.ab k) S:=.tr (y t) (decide_eq_true (bQ E));refine⟨.RH x (L S) E (S8 (F.gO.2 _ a) (S8 W (by decide))),(by
   have w:=ku G d;have r:=(F.dG _ w).1;have u:∀g∈gb G o (λp=>(p.1,p.2++[v])) (0,[v]),((S.set k (.ah (((o,k,vs).snd.snd)++[v])))[g.2.1]?=_/\B<=g.2.1)/\g.2.2.length<=N+1:=λg q=>by
    rcases xo G F.fG q with⟨z,l⟩|⟨-,z⟩|⟨p,y,rfl⟩
    ·exact⟨⟨eB (l _ d) (F.dG g z).1,(F.dG g z).2⟩,UJ (F.gO.2 g z)⟩
    ·replace z:=(d)▸z;exact aG z.symm
    ·rw[d]at y
     replace y:=Sv y;subst y;exact⟨⟨dH r,(F.dG _ w).2⟩,by refine aa (SE (F.gO.2 _ w)) Sr⟩
   refine⟨?_,λg q=>(u g q).1,Di G F.fG (λp f=>.inl rfl) λg q z=>?_,F.je,Sq (Dj G) (SE F.gO.1),λg q=>(u g q).2⟩
   ·refine aa ?_ (Nd G (0,[v]) (λp=>(p.1,p.2++[v])) (λf=>rfl) d);exact cF F.aE r
   ·exact absurd (F.dG g q).2 (Nat.not_le.mpr (aa (S8 (S6 _) F.je) z))),xn G 0 _ λQ=>rfl,⟨λm s Q=>Ti (TB (SA s (F.dG _ a).2)),λz=>Sq z (To SS.symm)⟩⟩
 |none=>
  rw[d]at t;have ep:dT (dJ G) (.ag [o]) (.ab S.length)=dJ (gb G o (λp=>(S.length,p.2++[v])) (S.length,[v])):=Dh G (S.length,[v]) _ λQ=>rfl;rw[ep,Ue _ _ (bQ F.aE)]at t;have x:EV j l c _ S (.ab S.length) _:=.RM (y t) (tJ (k:=0));have r:(S.set D (.aE (dJ (gb G o (λp=>(S.length,p.2++[v])) (S.length,[v]))))).length=S.length:=SS;generalize Y:S.set D _=T at x r;have b:(T++[O.ah []])[S.length]?=Sn (.ah []):=aT (bA T _ 0) r
  have n:=Y▸dH F.aE;have g:(T++[O.ah []]).set S.length (O.ah ([]++[v]))=T++[.ah [v]]:=aT (hU T _ 0 _) r;have I:=EV.RH x (L _) b b rfl;rw[g]at I;have i:=Ng G (f:=λp=>(S.length,p.2++[v])) (q:=(S.length,[v])) d;refine⟨.aU (.R9 I (nG F.aE (aC n) ?_ ?_)),F.m6 K (aC n) (λm s J=>?_) ?_ (SJ _),xn G _ _ λQ=>rfl,⟨λm s J=>?_,λz=>by refine aa ?_ Sr;exact aa (Sq z (SH _ _)) r⟩⟩
  ·exact aa (beq_false_of_ne λz=>SQ (by rewrite[dJ];delta dJ;refine aS ?_ (Sx _) (Sx _);refine aa ?_ Sr;exact Td _) (congrArg US (O.aE.inj z))) i
  ·refine aa ?_ i
   exact Vn.mpr ⟨(.ag [o],.ab S.length),by delta dJ;refine aa ?_ Ta;exact Ve _ (.head _),λz=>VI _ (of_decide_eq_true (Sz.mp z).2)⟩
  ·refine aa ?_ (SM (r.symm▸s));refine aT ?_ Y;exact aa rfl (Ti J.symm)
  ·refine aa ?_ d;exact aT (bA T _ 0) r
  ·refine aa ?_ (SM (r.symm▸SA s K));refine aT ?_ Y;exact aa rfl (Ti J.symm)
def EV.Sa (H:EV y l c p F (.ab i) z) (I:EV y l c G z (.ab j) q) (J:q[i]?=Sn (.ah w)) (K:q[j]?=Sn (.ah k)) (L:cR (w.length+k.length)=Sp):EV y l c (.aV .bB p G) F (.ab q.length) (q++[.ah (w++k)]):=.aV H I (by
 delta ie;dsimp only;exact aS (if_pos L) K J)
def Ni {S} (F:cQ S B D G N) (x:N<=900) (h:B<=S.length) (a:∀j,EV u l c f j (.ab D) j) (Q:∀j,EV u l c e j (.ag [o]) j) (Z:∀j,EV u l c t j v j):Dl u l c (.a6 (.aM f e) (.aV .bB (.tr (.bK .dg f (.ai e (.ai (.bj .ao) .ao)))) (.bj (.ai t .ao)))) S B D G N o v:=by
 have y:=EV.dg (a S) (Q S) (.bj .ao) F.aE (aC F.aE) (jV G);rw[pu]at y;have w:∀q T s,EV u l c (.aV .bB (.tr (.bK .dg f (.ai e (.ai (.bj .ao) .ao)))) (.bj (.ai t .ao))) S (.ab q) (S++T)->S.length<=q->(S++T)[q]?=Sn (.ah s)->Dk v (cr G o)=s->
   Dl u l c _ S B D G N o v:=λq T s r Y P U=>by
  have J:=EX.L r (a _) (Q _) (aC F.aE) (F.bX x (jV G));have L:dT (dJ G) _ (.ab q)=dJ (gb G o (λp=>(q,p.2++[v])) (q,[v])):=Dh G (q,[v]) _ λM=>rfl;rw[L]at J;have g:∀m,m<S.length->m≠D->((S++T).set D (.aE (dJ (gb G o (λp=>(q,p.2++[v])) (q,[v])))))[m]?=S[m]?:=λm b n=>(Ti n.symm).trans (SM b);exact⟨J,F.m6 h (dH (aC F.aE)) g (aa (eB (SQ (SA (bQ F.aE) Y)) P) U) Y,xn G q _ λM=>rfl,⟨λm b n=>g m (SA b h) n,λz=>by refine aa (aa (Sq z (SH _ _)) Sr) SS⟩⟩
 cases i:cr G o with
 |some p=>
  obtain⟨k,C⟩:=p;rw[i]at y w;have W:=ku G i;have g:=(F.dG _ W).1;have r:=EV.Sa (.tr y (decide_eq_true (bQ g))) (.bj (.a7 (Z S))) (aC g) bV (et (a5 (TU (Sq (F.gO.2 _ W) x) 1) rfl));rw[Ss,Sr]at r;exact w _ _ _ r (Tx _) (bA S _ 1) rfl
 |none=>
  rw[i]at y w;have r:=EV.Sa (.RM y (tJ (k:=0))) (.bj (.a7 (Z _))) (aC bV) bV rfl;rw[Ss,Ss,Sr]at r;exact w _ _ _ r (SH _ 2) (bA S _ 2) rfl
noncomputable def jC (fl:List Nat) (o:Nat):V:=if(o:Int)==58||SW (gy fl [o] 0<0)then .az else match ji 0 fl.length (.ae (gy fl [o] 0+1)),ji fl.length fl.length (.ae (gy fl [o] 0+2))with
 |some lo,Sn hi=>.aq (fB fl lo hi==[58])
 |_,_=>.az
def Nj:∀i,i<6->∀o:Nat,o<256->((o:Int)==58||SW (gy (d9 i) [o] 0<0)||((ji 0 (d9 i).length (.ae (gy (d9 i) [o] 0+1))).isSome&&(ji (d9 i).length (d9 i).length (.ae (gy (d9 i) [o] 0+2))).isSome))=Sp:=by decide+kernel
def Nk {o:Nat} (h:fo q k 2 (jA i)) (l:i<6) (j:o<256):Ph (n+1) 33 [.ab k,.ae o] q=.aj (jC (d9 i) o) q:=by
 have w:EV (Ph n) [Sn (.ab k),Sn (.ae o),none] [] qe.aA.fW.d q _ q:=.P (.bK (.at .ad h) rfl (.a7 (.jb (.a7 .ad) (wY o j))) rfl rfl);have z:EV (Ph n) [Sn (.ab k),Sn (.ae o),Sn (.ae (gy (d9 i) [o] 0))] [] qe.aA.bs.fW.d q _ q:=.RL (.Q .ad .ae) (.bX .ad .ae);have p:=Nj i l o j;unfold jC;cases r:(o:Int)==58||SW (gy (d9 i) [o] 0<0)with
 |true=>
  rw[r]at z;have y:EX (Ph n) _ [] qe.aA q _:=.am (.a6 w) (.A (.D z (.A (.aO .az))));exact cj rfl y
 |false=>
  rw[r]at z p;refine cZ p λf m=>?_;obtain⟨e,u⟩:=Ug.mp f;obtain⟨c,g⟩:=Ug.mp m;have y:EX (Ph n) _ [] qe.aA q _:=.am (.a6 w) (.am (.C z .aw) (.A (.aO (.E (.cT (.at .ad h) (.RA .ad .ae) (.RA .ad .ae) (ph u g)) .ag rfl))));exact aS (cj rfl y) g u
noncomputable def tV (o:Nat) (r:List Nat) (ws:List V) (F:FD) (next:Option (FD×List V)):V->Option (FD×List V)
 | .aq Sp=>(match r with
  |[]=>(match ws with| .ag u::e_=>Sn (dC F o (.ag u),e_)|_=>none)
  |_::_=>Sn (dC F o (.ag r),ws))
 | .aq Su=>next
 |_=>none
noncomputable def iH (i:Nat):List Nat->List V->FD->Option (FD×List V)
 |[],ws,F=>Sn (F,ws)
 |o::r,ws,F=>tV o r ws F (iH i r ws (dC F o .az)) (jC (d9 i) o)
structure mt (S:List O) (B i c:Nat) (fs:List (Nat×V)):Prop where
 aU:∃d,S[i]?=Sn (.a8 c d)/\S[d]?=Sn (.aL fs)/\d<B
 bX:i<B
def mt.a8 {S} (h:mt S B i k q):fo S i k q:=let⟨d,z,y,_⟩:=h.aU;⟨d,z,y⟩
structure pz (S:List O) (B i:Nat) (xs:List V):Prop where
 dg:S[i]?=Sn (.ah xs)
 bX:i<B
def eE.fV {S} (h:eE B D S q) (z:∃y,S[D]?=Sn (.aE y)) (j:m<B) (g:S[m]?=Sn o) (w:U' o.f 2=Su):q[m]?=o:=let⟨_,k⟩:=z;(h.dg m j (fQ g k w).symm).trans g
def mt.ee {S} (h:mt S B i k q) (g:eE B D S z) (y:∃w,S[D]?=Sn (.aE w)):mt z B i k q:=let⟨d,p,r,j⟩:=h.aU;⟨⟨d,g.fV y h.bX p rfl,g.fV y j r rfl,j⟩,h.bX⟩
def pz.ee {S} (h:pz S B i q) (g:eE B D S z) (y:∃j,S[D]?=Sn (.aE j)):pz z B i q:=⟨g.fV y h.bX h.dg rfl,h.bX⟩
def ip (S:List O) (B:Nat) (v:V):Prop:=(∃w,v=.ag w/\(∀c∈w,c<256)/\w.length<=20)∨∃b d,v=.ab b/\S[b]?=Sn (.a8 1 d)/\b<B
def ip.ee {S} (h:ip S B v) (g:eE B D S q) (y:∃j,S[D]?=Sn (.aE j)):ip q B v:=h.imp id λ⟨b,d,w,k,z⟩=>⟨b,d,w,g.fV y z k rfl,z⟩
noncomputable def tW:V->Bool
 | .ag _=>Sp
 |_=>Su
def ip.e {S} (h:ip S B v) (q:EV z l c y S v S):EV z l c (.tr (.ba .gS y)) S (.aq (!tW v)) S:=by
 rcases h with⟨w,rfl,-⟩|⟨b,d,rfl,j,-⟩
 ·exact .P (.ba q rfl)
 ·exact .P (.ba q (Dc j))
structure pA where
 b9:Nat
 cu:Nat
 eV:Nat
 bF:Nat
 dn:Nat
 ka:Nat
 eW:Nat
 aZ:Nat
 dQ:List V
 iq:List V
 l8:List (Nat×V)
structure fz (Q:pA) (S:List O):Prop where
 li:∃g,mt S Q.b9 Q.eV 0 [(1,g),(2,.ab Q.bF),(3,.ab Q.dn)]
 bg:pz S Q.b9 Q.bF Q.dQ
 bU:pz S Q.b9 Q.dn Q.iq
 dP:mt S Q.b9 Q.ka 2 (jA Q.aZ)
 pB:mt S Q.b9 Q.eW 3 Q.l8/\Q.l8.lookup 7=Sn (.ab Q.cu)
 dF:∀v∈Q.dQ,ip S Q.b9 v
 jW:Q.aZ<6
 bd:Q.dQ.length=Q.iq.length/\Q.dQ.length<=20
 aE:∃ds,S[Q.cu]?=Sn (.aE ds)
 gX:Q.b9<=S.length
def fz.ee {S} (h:fz Q S) (g:eE Q.b9 Q.cu S q) (y:∃j,q[Q.cu]?=Sn (.aE j)):fz Q q:=
 ⟨let⟨a,z⟩:=h.li;⟨a,z.ee g h.aE⟩,h.bg.ee g h.aE,h.bU.ee g h.aE,h.dP.ee g h.aE,⟨h.pB.1.ee g h.aE,h.pB.2⟩,λv w=>(h.dF v w).ee g h.aE,h.jW,h.bd,y,g.bd h.gX⟩
def fz.b {S} (h:fz Q S) (j:EV q l c y S (.ab Q.eV) S):EV q l c (.ay y 2) S (.ab Q.bF) S:=let⟨_,z⟩:=h.li; .at j z.a8
def fz.e {S} (h:fz Q S) (j:EV q l c y S (.ab Q.eV) S):EV q l c (.ay y 3) S (.ab Q.dn) S:=let⟨_,z⟩:=h.li; .at j z.a8
def fz.d {S} (h:fz Q S) (y:EV q l c z S (.ab Q.eV) S):EV q l c (.tr (.ba .bd (.ay z 2))) S (.ae (Q.dQ.length:Nat)) S:=.RD (h.b y) h.bg.dg
def bP.c (h:bP w p L) (z:w.length<=1000000):gx (.ag w) (.ae (p)) .az q=.aj (.ag L) q:=by
 refine aa (aa ?_ (ml h.bY)) (ph (mm (Sq h.bY (a5 z rfl))) rfl);delta fB;exact aa (aa rfl h.bp) VP
def bP.a7 (h:bP w p (o::L)) (z:w.length<=1000000):gx (.ag w) (.ae (p)) (.ae ((p+1:Nat))) q=.aj (.ag [o]) q:=h.cT z 0 1
noncomputable abbrev jD:Internal.S:=m1.aA.bs.fW.fW.bs.bs.bs.bs.bs.fW
def rA (h:bP y p (v::r)) (u:EV z l c j q (.ab k) q) (g:q[k]?=Sn (.ah y)) (f:EV z l c w q (.ae (p)) q):EV z l c (.aM j w) q v q:=.aM u f (pg g (h.dg 0))
noncomputable def Dm:V->Bool
 | .az| .aq _=>Sp
 |_=>Su
def xp:∀i,i<6->∀o,o<256->Dm (jC (d9 i) o)=Sp:=by decide+kernel
def Nl (h:Dm v=Sp):c8 n v=Sp:=by
 induction v using V.casesOn with
 |ab i=>exact bv h
 |_=>rfl
def Nm {S} (h:fz Q S) (j:bP w p (o::L)) (u:w.length<=20) (k:o<256) (f:EX (Ph (n+1)) [Sn (.ab Q.eV),Sn (.ab Q.ka),Sn (.ab Q.eW),Sn (.ae q),Sn (.ag w),Sn z,Sn (.ae (p+1:Nat)),Sn (.ag [o]),Sn (jC (d9 Q.aZ) o),y] [] jD.fW.bs.bs S r):
  EX (Ph (n+1)) [Sn (.ab Q.eV),Sn (.ab Q.ka),Sn (.ab Q.eW),Sn (.ae q),Sn (.ag w),Sn z,Sn (.ae p),g,l,y] [] jD.fW S r:=by
 refine aQ λG m=>?_;refine aP h.dP.a8 λd e t=>?_;exact m (.am (.E (.cT .ad .ad (.RA .ad .ae rfl) (j.a7 (a5 u rfl))) (.P (.cU .ad e t (.a7 (.aM .ad .ad (io (j.dg 0)))) (Nk h.dP.a8 h.jW k)) (Nl (xp Q.aZ h.jW o k))) rfl rfl) (.am (j:=[Sn (.ab Q.eV),Sn (.ab Q.ka),Sn (.ab Q.eW),Sn (.ae q),Sn (.ag w),Sn z,Sn _,Sn _,Sn _,y]) (.a6 (.RA .ad .ae rfl)) f))
def eE.E {S}:eE B D S S:=⟨λq q q=>rfl,id⟩
def cQ.RH {S} (F:cQ S B D G N) (h:N<=q):cQ S B D G q:=⟨F.aE,F.dG,F.fG,F.je,Sq F.gO.1 h,λg z=>Sq (F.gO.2 g z) h⟩
def WL.RA {S} {q} (h:WL z c q s j l S r) (y:j<=k):WL z c q s k l S r:=λn w=>h n (Sq y w)
noncomputable abbrev ir (Q:pA) (at':Nat) (w:List Nat) (pv:V) (p:Nat) (y7 y8 y9:Option V):bo:=[Sn (.ab Q.eV),Sn (.ab Q.ka),Sn (.ab Q.eW),Sn (.ae at'),Sn (.ag w),Sn pv,Sn (.ae p),y7,y8,y9]
inductive Q8 (n:Nat) (Q:pA) (G:GD) (N o:Nat) (v:V) (l:bo) (S:List O):Prop where
 |mk {S':List O} {G':GD} (h:EX (Ph (n+1)) l [] jD.fW.bs.bs.bs.bs.bs S (.aD l S')) (hp:fz Q S') (f:cQ S' Q.b9 Q.cu G' (N+1)) (e:gF G'=dC (gF G) o v) (old:eE Q.b9 Q.cu S S')
def Dn {S} (h:fz Q S) (F:cQ S Q.b9 Q.cu G N) (r:N<=900):Q8 n Q G N o v (ir Q q w z p (Sn (.ag [o])) y v) S:=by
 obtain⟨u,g⟩:=h.pB;obtain⟨f,j,m,k⟩:=Nh (l:=ir Q q w z p _ y v) (P:=.ay (.ad 2) 7) (U:=.ad 7) (M:=.ad 9) F r h.gX (.at .ad u.a8 g) (λc=>.ad) λc=>.ad;exact⟨.am f .aw,h.ee k ⟨_,j.aE⟩,j,m,k⟩
inductive tX (n:Nat) (Q:pA) (w L:List Nat) (ws:List V) (G:GD) (N:Nat) (pv:V) (l:bo) (S:List O):Prop where
 |ak {S':List O} (h:WL (Ph (n+1)) [] jD.d jD.fW (L.length+1) l S (.bh pv S')) (e:iH Q.aZ L ws (gF G)=none) (old:eE Q.b9 Q.cu S S')
 |aj {S':List O} {G':GD} {at' p':Nat} {y7 y8 y9:Option V} {e_:List V} (h:WL (Ph (n+1)) [] jD.d jD.fW (L.length+1) l S (.aD (ir Q at' w pv p' y7 y8 y9) S')) (hp:fz Q S') (f:cQ S' Q.b9 Q.cu G' (N+L.length)) (hA:bP Q.dQ at' e_) (e:iH Q.aZ L ws (gF G)=Sn (gF G',e_)) (hl:e_.length<=ws.length) (old:eE Q.b9 Q.cu S S')
def xq {S} (u:bP w p L):EV r (ir Q q w z p y j k) [] jD.d S (.aq (SW ((p:Int)<w.length))) S:=.bX .ad (.RJ .ad)
def Nn (hw:w.length<=20) (hc:∀c∈w,c<256) (L:List Nat):∀{S:List O} {G:GD} {N q p:Nat} {l:List V} {v i a:Option V},fz Q S->cQ S Q.b9 Q.cu G N->N+L.length<=900->bP w p L->bP Q.dQ q l->tX n Q w L l G N k (ir Q q w k p v i a) S:=by
 induction L with
 |nil=>exact λh F ζ t e=>.aj (.a (.k9 (xq t) t.Ir)) h F e rfl (SJ _) .E
 |cons o r ih=>
  intro S G N q p l v i a h F hN t e;have ho:=hc o (Th (t.dg 0));have J:=Sq (SH _ _) hN;have g:=xq (r:=Ph (n+1)) (S:=S) (Q:=Q) (q:=q) (z:=k) (y:=v) (j:=i) (k:=a) t;replace g:=(t.x)▸g;have ht:=xp Q.aZ h.jW o ho;have y:=λ{r:bC} (hb:EX (Ph (n+1)) (ir Q q w k (p+1) (Sn (.ag [o])) _ a) [] jD.fW.bs.bs S r)=>Nm (g:=v) (l:=i) h t hw ho hb;have j:iH Q.aZ (o::r) l (gF G)=tV o r l (gF G) _ (jC (d9 Q.aZ) o):=rfl
  generalize jC (d9 Q.aZ) o=tv at ht y j;induction tv using V.casesOn with
  |az=>exact .ak ((WL.bh g (y (.B (.D (.k9 (.R8 .ad) rfl) (.B (.ib .ad)))))).RA (SE (S6 _))) j .E
  |aq b=>
   have Y:∀{r:bC},EX (Ph (n+1)) (ir Q q w k (p+1) (Sn (.ag [o])) (Sn (.aq b)) (Sn .az)) [] jD.fW.bs.bs.bs.bs S r->EX (Ph (n+1)) (ir Q q w k (p+1) (Sn (.ag [o])) (Sn (.aq b)) a) [] jD.fW.bs.bs S r:=λB=>.am (.C (.k9 (.R8 .ad) rfl) .aw) (.am (.a6 .az) B);induction b using SX with
   |false=>
    refine aQ λG kG=>?_;obtain⟨h1,E,I,H,T⟩:=Dn h F J;replace j:=UW (H)▸j;have Z:=y (Y (.am (.C .ad .aw) h1));refine kG ?_;induction ih E I ((T1 N r.length).symm▸hN) t.b e using tX.casesOn with
    |ak W K P=>exact .ak (.aD g Z W) (j.trans K) (T.A P)
    |aj W K P A g5 g6 g7=>exact .aj (.aD g Z W) K (aT P (T1 N r.length)) A (j.trans g5) g6 (T.A g7)
   |true=>
    have E:EX (Ph (n+1)) (ir Q q w k (p+1) (Sn (.ag [o])) (Sn (.aq Sp)) (Sn .az)) [] (.en [.ad 9,.ad 6] (.ai (.cT (.ad 4) (.ad 6) .az) (.ai (.tr (.ba .bd (.ad 4))) .ao))) S (.aD (ir Q q w k w.length (Sn (.ag [o])) (Sn (.aq Sp)) (Sn (.ag r))) S):=
     .E (.cT .ad .ad .az (t.b.c (a5 hw rfl))) (.RJ .ad) rfl rfl
    have f:bP w w.length ([]:List Nat):=⟨List.drop_length,SJ _⟩
    have U:∀{m:Nat} {x:V} {s:List V},EX (Ph (n+1)) _ [] jD.fW.bs.bs.bs.bs.fW.fW.bs S (.aD (ir Q m w k w.length (Sn (.ag [o])) (Sn (.aq Sp)) x) S)->bP Q.dQ m s->s.length<=l.length->iH Q.aZ (o::r) l (gF G)=Sn (dC (gF G) o x,s)->tX n Q w (o::r) l G N k (ir Q q w k p v i a) S:=λ{m x s} I H T h6=>by
     obtain⟨W,K,P,A,g5⟩:=Dn h F J;replace h6:=UW (A)▸h6;exact .aj ((WL.aD g (y (Y (.am (.D .ad (.am E I)) W))) (.a (.k9 (xq f) f.Ir))).RA (SE (SE (S6 _)))) K (P.RH (SF (SE (S6 _)) N)) H h6 T g5
    induction r using SD with
    |cons o' r'=>exact U (.am (.C (.E .ad .ag rfl) .aw) .aw) e (SJ _) j
    |nil=>
     have he:EV (Ph (n+1)) (ir Q q w k w.length (Sn (.ag [o])) (Sn (.aq Sp)) (Sn (.ag []))) [] (.tr (.aB .bp (.ad 9) (.ag []))) S (.aq Sp) S:=.E .ad .ag rfl;have hn:EV (Ph (n+1)) (ir Q q w k w.length (Sn (.ag [o])) (Sn (.aq Sp)) (Sn (.ag []))) [] (.tr (.aB .bp (.ad 3) (.tr (.ba .bd (.ay (.ad 0) 2))))) S _ S:=.Q .ad (h.d .ad);have bad:EV (Ph (n+1)) _ [] _ S (.aq Sp) S->iH Q.aZ [o] l (gF G)=none->tX n Q w [o] l G N k (ir Q q w k p v i a) S:=λB hs=>
      .ak ((WL.bh g (y (Y (.B (.D .ad (.am E (.B (.D he (.B (.D B (.B (.ib .ad)))))))))))).RA (SE (S6 _))) hs .E
     induction l using SD with
     |nil=>exact bad (.RX (.k9 hn (beq_iff_eq.mpr (congrArg Int.ofNat (e.bd.trans (Nat.add_zero _)).symm)))) j
     |cons u l=>
      have M:=beq_false_of_ne λz=>SQ (e.bd▸TY (T9 _)) (VZ z);have hu:EV (Ph (n+1)) (ir Q q w k w.length (Sn (.ag [o])) (Sn (.aq Sp)) (Sn (.ag []))) [] (.aM (.ay (.ad 0) 2) (.ad 3)) S u S:=rA e (h.b .ad) h.bg.dg .ad;have C:=(h.dF u (Th (e.dg 0))).e hu;rcases h.dF u (Th (e.dg 0))with⟨ub,rfl,-⟩|⟨b,d,rfl,-⟩
      ·exact U (.am (.D he (.am (.C (.RK (.k9 hn M) C) .aw) (.am (.E hu (.RA .ad .ae rfl) rfl rfl) .aw))) .aw) e.b (Tx _) j
      ·exact bad (.RK (.k9 hn M) C) j
  |_=>exact bv ht
inductive eX where
 |aj (F:FD) (ws:List V)
 |ak (k:Nat)
noncomputable def eX.ctorIdx (r:eX):Nat:=eX.casesOn r (λ_ _=>0) (λ_=>1)
def eX.aj.inj (h:eX.aj F w=.aj q z):F=q/\w=z:=by cases h;exact⟨rfl,rfl⟩
noncomputable def eX.B (k:Nat) (g:FD->List V->eX):Option (FD×List V)->eX
 |none=>.ak k
 |some p=>g p.1 p.2
noncomputable def nR:V->Bool
 | .ag w=>w.take 1==[45]&&!(w==[45])
 |_=>Su
noncomputable def jb:V->List Nat
 | .ag w=>w
 |_=>[]
noncomputable def gP (i:Nat):Nat->List V->FD->eX
 |0,ws,F=>.aj F ws
 |_+1,[],F=>.aj F []
 |f+1,v::ws,F=>if nR v then(if jb v==[45,45]then .aj F ws else eX.B (ws.length+1) (λF' e_=>gP i f e_ F') (iH i ((jb v).drop 1) ws F))else .aj F (v::ws)
noncomputable abbrev kv:Internal.S:=m1.aA.bs.fW
noncomputable abbrev lu (Q:pA) (at':Nat) (y4 y5 y6 y7 y8 y9:Option V):bo:=[Sn (.ab Q.eV),Sn (.ab Q.ka),Sn (.ab Q.eW),Sn (.ae at'),y4,y5,y6,y7,y8,y9]
inductive Q9 (n:Nat) (Q:pA) (ws:List V) (G:GD) (j:Nat) (l:bo) (S:List O) (R:eX):Prop where
 |ak {S':List O} {k:Nat} {pv:V} (h:WL (Ph (n+1)) [] kv.d kv.fW j l S (.bh pv S')) (e:R=.ak k) (hk:k<=Q.dQ.length) (hp:Q.iq[Q.dQ.length-k]?=Sn pv) (old:eE Q.b9 Q.cu S S')
 |aO {S':List O} {G':GD} {N' at':Nat} {e_:List V} (h:WL (Ph (n+1)) [] kv.d kv.fW j l S (.aO (.ae at') S')) (hp:fz Q S') (f:cQ S' Q.b9 Q.cu G' N') (hA:bP Q.dQ at' e_) (e:R=.aj (gF G') e_) (old:eE Q.b9 Q.cu S S')
 |aD {S':List O} {G':GD} {N' at':Nat} {y4 y5 y6 y7 y8 y9:Option V} {e_:List V} (h:WL (Ph (n+1)) [] kv.d kv.fW j l S (.aD (lu Q at' y4 y5 y6 y7 y8 y9) S')) (hp:fz Q S') (f:cQ S' Q.b9 Q.cu G' N') (hA:bP Q.dQ at' e_) (e:R=.aj (gF G') e_) (old:eE Q.b9 Q.cu S S')
def No {S} (h:ip S Q.b9 v):EV z (lu Q q v y j r u g) [] (.or (.tr (.ba .gS (.ad 4))) (.or (.tr (.aB .bM (.cT (.ad 4) .az (.ae 1)) (.ag [45]))) (.tr (.aB .bp (.ad 4) (.ag [45]))))) S (.aq (!nR v)) S:=by
 have f:=h.e (z:=z) (l:=lu Q q v y j r u g) (c:=[]) (y:=.ad 4) .ad;rcases h with⟨w,rfl,e,t⟩|⟨b,d,rfl,-⟩
 ·have m:gx (.ag w) .az (.ae (1:Nat)) S=.aj (.ag (w.take 1)) S:=by
   refine aa ?_ (ph rfl (mm (by decide)));induction w using SD with
   |nil=>rfl
   |cons k w=>refine aa ?_ (ml (p:=1) (SE (S6 _)));rfl
  exact .RK f (.k9 (.RL (.RN (.cT .ad .az .ae m) .ag) (.E .ad .ag rfl)) (aa (aa rfl (Bool.not_not _)) (Bool.not_and _ _)))
 ·exact .RX f
def Np {S} (h:fz Q S) (y:bP Q.dQ q (v::f)):∃g,Q.iq[q]?=Sn g/\EX l (lu Q q r u j w k p) [] kv.fW.fW S (.aD (lu Q q v g j w k p) S)/\EV l (lu Q q r u j w k p) [] kv.d S (.aq Sp) S:=by
 have z:=h.bd.1▸Ul.mp (of_decide_eq_true y.x);exact⟨Q.iq[q],S0 z,.E (rA y (h.b .ad) h.bg.dg .ad) (jd h.bU.dg (S0 z) (h.e .ad) .ad) rfl rfl,.k9 (.bX .ad (h.d .ad)) y.x⟩
def Nq (f):∀{z} {S} {G} {N q} {y4 y5 c e t s},fz Q S->cQ S Q.b9 Q.cu G N->N+20*z.length<=900->bP Q.dQ q z->z.length<f->f<=50->∃j,j<=f/\Q9 n Q z G j (lu Q q y4 y5 c e t s) S (gP Q.aZ f z (gF G)):=by
 induction f with
 |zero=>exact λM M M M h=>absurd h (Nat.not_lt_zero _)
 |succ f ih=>
  intro z S G N q y4 y5 c e t s h F hN m hf C;induction z using SD with
  |nil=>exact⟨1,SE (S6 _),.aD (.a (.k9 (.bX .ad (h.d .ad)) m.Ir)) h F m rfl .E⟩
  |cons v z=>
   obtain⟨U,E,hh,o⟩:=Np h m;have hv:=h.dF v (Th (m.dg 0));have i:=No (z:=Ph (n+1)) (q:=q) (y:=U) (j:=c) (r:=e) (u:=t) (g:=s) hv;cases x:nR v with
   |false=>
    replace i:=x▸i;exact⟨1,SE (S6 _),.aO (.aO o (.am hh (.A (.D i (.A (.aO .ad)))))) h F m (if_neg (x▸Tw)) .E⟩
   |true=>
    replace i:=x▸i;have e0:gP Q.aZ (f+1) (v::z) (gF G)=if jb v==[45,45]then .aj (gF G) z else eX.B (z.length+1) (λF' a=>gP Q.aZ f a F') _:=if_pos x
    rcases hv with⟨w,rfl,hw,Z⟩|⟨b,d,rfl,-⟩
    ·have g:∀{r},EX (Ph (n+1)) _ [] kv.fW.bs.bs.bs S r->EX (Ph (n+1)) _ [] kv.fW S r:=λhx=>.am hh (.am (.C i .aw) (.am (j:=lu Q (q+1) (Sn (.ag w)) U c e t s) (.a6 (.RA .ad .ae rfl)) hx))
     have l:EV (Ph (n+1)) (lu Q (q+1) (Sn (.ag w)) U c e t s) [] (.tr (.aB .bp (.ad 4) (.ag [45,45]))) S (.aq (w==[45,45])) S:=.E .ad .ag rfl;cases L:w==[45,45]with
     |true=>
      rw[L]at l;exact⟨1,SE (S6 _),.aO (.aO o (g (.A (.D l (.A (.aO .ad)))))) h F m.b (e0.trans (if_pos L)) .E⟩
     |false=>
      rw[L]at l;have e1:=e0.trans (if_neg (L▸Tw));obtain⟨k,u,rfl⟩:∃k u,w=k::u:=by
       induction w using SD with
       |nil=>exact bv x
       |cons k u=>exact⟨k,u,rfl⟩
      induction Nn (p:=1) Z hw u h F (Sq (SF (Sq (UB Z) (Sq (To (Nat.mul_one 20).symm) (TM 20 (SE (S6 z.length))))) N) hN) ⟨rfl,SE (S6 _)⟩ m.b using tX.casesOn with
      |ak D B I=>
       refine⟨1,SE (S6 _),.ak (.bh o (g (.am (.C l .aw) (.am (.a6 .ae) (.B (.iO D (Sq (Tu (Xj Z)) (by decide)))))))) (e1.trans (congrArg (eX.B (z.length+1) _) B)) ?_ ?_ I⟩
       ·exact aa (TC _ _) m.bd
       ·exact aa ((congrArg (Q.iq[·]?) (VF q (z.length+1))).trans E) m.bd
      |@aj S' G' ZM p' x_ DQ D_ a D B I g4 g5 g6 H=>
       obtain⟨j,hj,ho⟩:=ih B I (Sq (Up (SF (UB Z) N) (TM 20 g6)) (aa (aa (aT hN (WR _ _)) (TH 20 _)) (TK _ _ _))) g4 (S8 g6 (Nat.lt_of_succ_lt_succ hf)) (UB C);have A:=e1.trans (congrArg _ g5);have y:=g (.am (.C l .aw) (.am (.a6 .ae) (.am (.iO D (Sq (Tu (Xj Z)) (by decide))) .aw)));refine⟨j+1,SE hj,?_⟩;cases ho with
       |ak Y J W K P=>exact .ak (.aD o y Y) (A.trans J) W K (H.A P)
       |aO Y J W K P o6=>exact .aO (.aD o y Y) J W K (A.trans P) (H.A o6)
       |aD Y J W K P o6=>exact .aD (.aD o y Y) J W K (A.trans P) (H.A o6)
    ·exact bv x
inductive Nt (n:Nat) (Q:pA) (G:GD) (S:List O) (R:eX):Prop where
 |ak {S':List O} {k:Nat} {pv:V} (h:Ph (n+2) 12 [.ab Q.eV,.ab Q.ka,.ab Q.eW] S=.bh pv S') (e:R=.ak k) (hk:k<=Q.dQ.length) (hp:Q.iq[Q.dQ.length-k]?=Sn pv) (old:eE Q.b9 Q.cu S S')
 |aj {S':List O} {G':GD} {N' at':Nat} {e_:List V} (h:Ph (n+2) 12 [.ab Q.eV,.ab Q.ka,.ab Q.eW] S=.aj (.ae at') S') (hp:fz Q S') (f:cQ S' Q.b9 Q.cu G' N') (hA:bP Q.dQ at' e_) (e:R=.aj (gF G') e_) (old:eE Q.b9 Q.cu S S')
def Nr {S} (h:fz Q S) (F:cQ S Q.b9 Q.cu [] 0) (f:Q.dQ=v::l):Nt n Q [] S (gP Q.aZ (l.length+1) l []):=by
 have z:=h.bd.2;replace z:=f▸z;obtain⟨j,e,d⟩:=Nq _ h F (a5 (SF (TM 20 (UB z)) 0) rfl) ⟨congrArg (List.drop 1) f,aa (SE (S6 _)) f⟩ (Td _) (a5 z rfl);have q:j<=jI:=a5 (Sq e z) rfl;have m:EX (Ph (n+1)) [Sn (.ab Q.eV),Sn (.ab Q.ka),Sn (.ab Q.eW),none,none,none,none,none,none,none] [] m1.aA.fW S _:=.a6 .ae;cases d with
 |ak y w k p r=>
  have u:=EX.am m (EX.B (t:=m1.aA.bs.bs) (EX.iO y q));have g:Ph (n+2) 12 [.ab Q.eV,.ab Q.ka,.ab Q.eW] S=gM (.bh _ _):=cj rfl u;exact .ak g w k p r
 |aO y w k p r c=>
  have u:=EX.am m (EX.A (t:=m1.aA.bs.bs) (EX.iO y q));have g:Ph (n+2) 12 [.ab Q.eV,.ab Q.ka,.ab Q.eW] S=gM (.aO _ _):=cj rfl u;exact .aj g w k p r c
 |aD y w k p r c=>
  have u:=EX.am m (EX.am (t:=m1.aA.bs.bs) (EX.iO y q) (.A (.aO .ad)));have g:Ph (n+2) 12 [.ab Q.eV,.ab Q.ka,.ab Q.eW] S=gM (.aO _ _):=cj rfl u;exact .aj g w k p r c
def Nu {n}:∀{S S'},gz n S S'=Sp->S.length<=S'.length:=by
 intro q;induction q with
 |nil=>intro _ _;exact S6 _
 |cons o q IH=>
  intro z h;induction z using SD with
  |nil=>exact bv h
  |cons p z=>exact SE (IH (Sz.mp h).2)
def Nv {S} (h:fz Q y) (F:cQ y Q.b9 Q.cu G N) (w:S.length=Q.b9) (l:S[Q.cu]?=Sn (.aE [])) (f:c8 S.length v=Sp):∃q,fg S (.aj v y)=.aj v q/\fz Q q/\cQ q Q.b9 Q.cu G N/\eE Q.b9 Q.cu y q:=by
 cases j:gz S.length S y with
 |false=>exact⟨y,if_neg λz=>Bool.noConfusion ((Sz.mp z).2.symm.trans j),h,F,.E⟩
 |true=>
  induction G using SD with
  |cons g G=>
   have:=nG l F.aE (beq_false_of_ne λz=>nomatch(O.aE.inj z)) (Vn.mpr ⟨_,.head _,λz=>absurd (of_decide_eq_true (Sz.mp z).2) (TN.mpr (w▸(F.dG g (.head _)).2))⟩);rw[this]at j;exact bv j
  |nil=>
   have k:=Nu j;have p:=(UP (w▸F.je)).trans F.aE;have r:eE Q.b9 Q.cu y _:=⟨λm c u=>UP (w▸c),λu=>aa (aa (To w.symm) (Nat.min_eq_left k)) U8⟩
   exact⟨y.take S.length,tB f j,h.ee r ⟨_,p⟩,⟨p,λu z=>(nomatch z),.nil,F.je,F.gO⟩,r⟩
def nS (h:q[i]?=Sn (.ah z)) (y:bP z p j) (w:z.length<=1000):gx (.ab i) (.ae (p)) .az q=.aj (.ab q.length) (q++[.ah j]):=by
 delta gx;dsimp only;refine aa ?_ h;dsimp only;refine aa (aa ?_ (ml y.bY)) (mm (Sq y.bY (a5 w rfl)));show ea _ q=_;delta fB;refine aa (aa ?_ y.bp) VP;rfl
noncomputable def iI (i k:Nat):Bool:=SW ((k:Int)<tM i)||(tN i).any λq=>SW ((k:Int)>q)
noncomputable def nT (i:Nat) (ws:List V):eX:=match gP i (ws.length+1) ws []with
 | .ak k=>.ak k
 | .aj F e_=>if iI i e_.length then .ak (ws.length+1)else .aj F e_
structure xr (S:List O) (ti:Nat) (name place group:V) (D:Nat) (ws ps:List V):Prop where
 aU:∃a b,fo S ti 3 [(5,name),(10,place),(1,group),(7,.ab D),(2,.ab a),(3,.ab b)]/\S[a]?=Sn (.ah ws)/\S[b]?=Sn (.ah ps)
inductive Nz (n ci td:Nat) (W P:List V) (g:V) (i:Nat) (S:List O) (R:eX):Prop where
 |ak {S':List O} {k:Nat} {pv:V} (h:Ph (n+3) 13 [.ab ci,.ab td] S=.bh pv S') (e:R=.ak k) (hk:k<=W.length) (hp:P[W.length-k]?=Sn pv) (old:∃τ,S'=S++τ)
 |aj {S':List O} {G:GD} {N B D at':Nat} {e_ y_:List V} (h:Ph (n+3) 13 [.ab ci,.ab td] S=.aj (.ab S.length) S') (t:xr S' S.length (.ag (bw i)) (P.head?.getD .az) g D e_ y_) (f:cQ S' B D G N) (hA:bP W at' e_) (hP:bP P at' y_) (e:R=.aj (gF G) e_) (old:∃τ,S'=S++τ) (hB:S.length<=B/\S.length<=D)
def Do (p:EV j l c w z (.ab i) z) (r:z[i]?=Sn (.a8 q d)) (u:z[d]?=Sn (.aL y)) (g:autoParam (UT y.length 100=Sp) tR):eL j av (.ay w k) v l c z=.aD l (z.set d (.aL (kP y k v))):=EX.I .cr p r u g
noncomputable abbrev pC (name p0 g:V) (D a b:Nat):List (Nat×V):=[(5,name),(10,p0),(1,g),(7,.ab D),(2,.ab a),(3,.ab b)]
def Nw {S} (h:fz Q S) (F:cQ S Q.b9 Q.cu G N) (hf:Q.l8=pC name d g Q.cu a b) (hA:bP Q.dQ y q) (hP:bP Q.iq y p) (J:Q.iq[0]?=d):
  ∃s,xr s Q.eW name d g Q.cu q p/\cQ s Q.b9 Q.cu G N/\(∃j,Q.eW<Q.b9/\S[Q.eW]?=Sn (.a8 3 j)/\(∀m,m<S.length->m≠j->s[m]?=S[m]?)/\S.length<=s.length)/\
   EX f [Sn (.ab Q.eV),Sn t,Sn (.ab Q.ka),Sn (.ab Q.eW),Sn (.ae y),none] c jK.aA.bs.bs.bs S (if iI Q.aZ q.length then .bh d s else .aO (.ab Q.eW) s):=by
 refine dz h.pB.1.aU λj i w t3=>?_;replace w:=(hf)▸w;let u:=(S++[O.ah q,O.ah p]).set j (.aL (pC name d g Q.cu S.length (S.length+1)))
 have r:∀{m o},S[m]?=Sn o->m≠j->u[m]?=Sn o:=λP U=>eB U.symm (aC P);have E:=r i (fQ w i);have T:u[j]?=Sn (.aL (pC name d g Q.cu S.length (S.length+1))):=dH (aC w);have D:u[S.length]?=Sn (.ah q):=eB (SQ (bQ w)) (bA S _ 0);refine⟨u,⟨S.length,S.length+1,⟨j,E,T⟩,D,(eB (SQ (Um (bQ w))) (bA S _ 1))⟩,⟨r F.aE (fQ w F.aE),λg L=>⟨r (F.dG g L).1 (fQ w (F.dG g L).1),(F.dG g L).2⟩,F.fG,F.je,F.gO⟩,⟨j,h.pB.1.bX,i,λm P U=>(Ti U.symm).trans (SM P),by refine aa ?_ SS;refine aa ?_ Sr;exact SH _ _⟩,?_⟩
 have B:EX f [Sn (.ab Q.eV),Sn t,Sn (.ab Q.ka),Sn (.ab Q.eW),Sn (.ae y),none] c jK.aA.bs.bs.bs.fW S (.aD [Sn (.ab Q.eV),Sn t,Sn (.ab Q.ka),Sn (.ab Q.eW),Sn (.ae y),none] u):=by
  have I:EV f [Sn (.ab Q.eV),Sn t,Sn (.ab Q.ka),Sn (.ab Q.eW),Sn (.ae y),none] c (.cT (.ay (.ad 0) 3) (.ad 4) .az) (S++[.ah q]) (.ab (S++[O.ah q]).length) (S++[.ah q]++[.ah p]):=.cT (let⟨_,z⟩:=h.li; .at .ad z.a8.A) .ad .az (nS (aC h.bU.dg) hP (aT (Sq h.bd.2 (by decide)) h.bd.1));rw[Sr,Ss]at I;have H:=Do (j:=f) (c:=c) (z:=(S++[O.ah q,O.ah p]).set j (.aL (pC name d g Q.cu S.length b))) (w:=.ad 3) (k:=3) (v:=.ab (S.length+1)) (l:=[Sn (.ab Q.eV),Sn t,Sn (.ab Q.ka),Sn (.ab Q.eW),Sn (.ae y),none]) .ad (cF (aC i) (aC w)) (dH (aC w))
  rw[VG]at H;exact .E (.cT (h.b .ad) .ad .az (nS h.bg.dg hA (Sq h.bd.2 (by decide)))) I (Do (j:=f) (c:=c) (w:=.ad 3) (k:=2) (v:=.ab S.length) (l:=[Sn (.ab Q.eV),Sn t,Sn (.ab Q.ka),Sn (.ab Q.eW),Sn (.ae y),none]) .ad (aC i) (aC w)) H
 refine aP h.dP.a8 λkd A k2=>?_;have x:∃Z,fo u Q.eV 0 [(1,Z),(2,.ab Q.bF),(3,.ab Q.dn)]:=by
  obtain⟨Z,z⟩:=h.li;refine aP z.a8 λcd c1 c2=>?_;exact⟨Z,cd,r c1 (fQ w c1),r c2 λe=>by subst e;replace w:=(c2)▸w;cases w⟩
 have n:fo u Q.ka 2 (jA Q.aZ):=⟨kd,r A (fQ w A),r k2 λe=>by subst e;replace w:=(k2)▸w;cases w⟩
 have s5:EX f [Sn (.ab Q.eV),Sn t,Sn (.ab Q.ka),Sn (.ab Q.eW),Sn (.ae y),none] c jK.aA.bs.bs.bs.bs.fW u _:=.a6 (.RD (.at .ad ⟨j,E,T⟩) D);have Y:EV f [Sn (.ab Q.eV),Sn t,Sn (.ab Q.ka),Sn (.ab Q.eW),Sn (.ae y),Sn (.ae q.length)] c jK.aA.bs.bs.bs.bs.bs.fW.d u (.aq (iI Q.aZ q.length)) u:=by
  have W:EV f [Sn (V.ab Q.eV),Sn t,Sn (V.ab Q.ka),Sn (V.ab Q.eW),Sn (V.ae ↑y),Sn (V.ae ↑q.length)] c (.ay (X.ad 2) 9) u (nO Q.aZ) u:= .at .ad n;refine .RL (.bX .ad (.at .ad n)) ?_;unfold nO at W;cases K:tN Q.aZ with
  |none=>
   replace W:=K▸W;exact .RG (.k9 (.RE W) rfl)
  |some M=>
   rw[K]at W;exact .and (.k9 (.RE W) rfl) (.E .ad W rfl)
 cases hb:iI Q.aZ q.length with
 |true=>
  rw[hb]at Y;obtain⟨Z,z⟩:=x;exact .am B (.am s5 (.B (.D Y (.B (.ib (jd (r h.bU.dg (fQ w h.bU.dg)) J (.at .ad z) .ae))))))
 |false=>
  rw[hb]at Y;exact .am B (.am s5 (.am (.C Y .aw) (.A (.aO .ad))))
section
def EX.P (h:ev z av a l c y=.bh v q):EX z l c (.a6 t a) y (.bh v q):=Li h
structure Dp (S:List O) (ci wl pl:Nat) (g:V) (w0:List Nat) (ws:List V) (p0:V) (ps:List V):Prop where
 a8:fo S ci 0 [(1,g),(2,.ab wl),(3,.ab pl)]
 bg:S[wl]?=Sn (.ah (.ag w0::ws))
 bU:S[pl]?=Sn (.ah (p0::ps))
 bd:ws.length=ps.length/\ws.length<=19
 dF:∀v∈V.ag w0::ws,ip S S.length v
noncomputable abbrev rB (ci td:Nat) (a b c d:Option V):bo:=[Sn (.ab ci),Sn (.ab td),a,b,c,d]
noncomputable def pD (S:List O) (name p0 g:V):List O:=S++[.a8 3 (S.length+1),.aL (pC name p0 g (S.length+2) (S.length+3) (S.length+4)),.aE [],.ah [],.ah []]
def Nx {S} (C:Dp S u l f g r m q c) (o:fo S e 2 (jA i)) (n:i<6):fz ⟨S.length+5,S.length+2,u,l,f,e,S.length,i,.ag r::m,q::c,pC (.ag (bw i)) q g (S.length+2) (S.length+3) (S.length+4)⟩ (pD S (.ag (bw i)) q g):=by
 have z:∀{a},a<S.length->a<S.length+5:=λh=>SA h (SH _ 5);have t:∀{a k s},fo S a k s->mt (pD S (.ag (bw i)) q g) _ a k s:=λ⟨d,y,j⟩=>⟨⟨d,aC y,aC j,z (bQ j)⟩,z (bQ y)⟩
 exact{li:=⟨g,t C.a8⟩,bg:=⟨aC C.bg,z (bQ C.bg)⟩,bU:=⟨aC C.bU,z (bQ C.bU)⟩,dP:=t o,pB:=⟨⟨⟨S.length+1,bA S _ 0,bA S _ 1,Vw (by decide) _⟩,TY (by decide)⟩,rfl⟩,dF:=λv x=>(C.dF v x).imp id λ⟨b,d,y,j,Q⟩=>⟨b,d,y,aC j,z Q⟩,jW:=n,bd:=⟨congrArg (·+1) C.bd.1,SE C.bd.2⟩,aE:=⟨_,bA S _ 2⟩,gX:=by delta pD;exact aa (SJ _) Sr}
set_option tactic.hygienic true in
def Ny {S} (T:dW S t m J) (w:m<64) (W:iG (cG m) Y=Sn i) (B:i∈cG m) (C:Dp S d wl pl g Y z c a):Nz n d t (.ag Y::z) (c::a) g i S (nT i z):=by
 obtain⟨τ,N⟩:=xh T w;rw[W]at N;have s:=(T.IW B).2;have K:=let⟨_,h,_⟩:=s;decide_eq_true (bQ h)
 have e1:EX (Ph (n+2)) (rB d t none none none none) [] jK.aA.fW S _:=
  .a6 (.tr (.bR (.ai .ad (.ai (jd C.bg rfl (.at .ad C.a8) .ae) (.a7 (jd C.bU rfl (.at .ad C.a8) .ae)))) N) K)
 have e2:EX (Ph (n+2)) (rB d t (Sn (.ab (iF J i))) none none none) [] jK.aA.bs.fW S (.aD _ (pD S (.ag (bw i)) c g)):=
  .a6 (.dw (.ai (.at .ad s) (.ai (jd C.bU rfl (.at .ad C.a8) .ae) (.a7 (.at .ad C.a8)))) (by
   have z:EV (Ph (n+1)) [Sn (.ab S.length),Sn (V.ag (bw i)),Sn c,Sn g] [] (.gj .ao) (S++[.a8 3 (S.length+1),.aL [(5,(V.ag (bw i))),(10,c),(1,g)]]) (.ab (S.length+2)) (S++[.a8 3 (S.length+1),.aL [(5,(V.ag (bw i))),(10,c),(1,g)],.aE []]):=by
    have:EV (Ph (n+1)) [Sn (.ab S.length),Sn (V.ag (bw i)),Sn c,Sn g] [] (.gj .ao) (S++[.a8 3 (S.length+1),.aL [(5,(V.ag (bw i))),(10,c),(1,g)]]) _ _:=.R4;rw[Sr,Ss]at this;exact this
   have h:EX (Ph (n+1)) _ [] yJ.aA (S++[.a8 3 (S.length+1),.aL []]) _:=
    .am (.dw .ad) (.am (.dw .ad) (.am (.dw .ad) (.am (.dw z) (.am (.dw .R') (.am (.dw .R') .aw)))))
   exact cj rfl h))
 have I:(pD S (.ag (bw i)) c g).length=S.length+5:=by delta pD;refine aa ?_ Sr;rfl
 have pre:∀{r},EX (Ph (n+2)) _ [] jK.aA.bs.bs _ r->Ph (n+3) 13 [.ab d,.ab t] S=gM r:=λh=>cj rfl (.am e1 (.am e2 h));have y:nT i z=match gP i (z.length+1) z []with| .ak k=>.ak k| .aj F p=>if iI i p.length then .ak (z.length+1)else .aj F p:=rfl
 induction Nr (Nx C s (tO B)) ⟨bA S _ 2,λζ h=>(nomatch h),.nil,Vw (by decide) _,SJ _,λζ h=>nomatch h⟩ rfl using Nt.casesOn with
 |ak h e W L j=>
  rw[show gP i (z.length+1) z []=_ from e]at y;have Q:EX (Ph (n+2)) (rB d t (Sn (.ab (iF J i))) (Sn (.ab S.length)) none none) [] jK.aA.bs.bs.fW _ (.bh _ _):=.P (mi (EV.RV (.ai .ad (.ai .ad (.a7 .ad))) h));exact .ak (pre (.B Q)) y W L ⟨_,nK (λm w=>(j.dg m (SA w (SH _ 5)) (SQ (SA w (SH _ 2)))).trans (SM w)) (Sq (SH _ 5) (j.bd (To I.symm)))⟩
 |aj h L f M e j=>
  refine aQ λG kG=>?_;rw[show gP i (z.length+1) z []=_ from e]at y;obtain⟨S3,h3,o,f3,H⟩:=Nv L f I (bA S _ 2) (v:=.ae _) rfl;have Q:EX (Ph (n+2)) (rB d t _ (Sn (.ab S.length)) none none) [] jK.aA.bs.bs.fW _ _:=.a6 ((congrArg (fg _) (EV.bR (.ai .ad (.ai .ad (.a7 .ad))) h)).trans h3);rename_i S' G' N' b p;have A:bP (c::a) b ((c::a).drop b):=⟨rfl,Sq M.bY (To (congrArg (·+1) C.bd.1))⟩
  obtain⟨S4,hT,f4,⟨E,-,g1,g2,g3⟩,q⟩:=Nw o f3 rfl M A rfl;refine kG ?_;have u:∀m,m<S.length->S4[m]?=S[m]?:=λm w=>by
   have x:=SA w (SH _ 5);have e4:E=S.length+1:=by
    have:=(bA S _ 0).symm.trans (((j.A H).dg _ (TY (by decide):S.length<S.length+5) (SQ (TY (by decide)))).symm.trans g1);cases this;rfl
   exact aa (aa (SM w) ((j.A H).dg m x (SQ (SA w (SH _ 2))))) (g2 m (SA x o.gX) (aa (SQ (Um w)) e4))
  have l:=Sq (Sq (SH _ 5) o.gX) g3;cases Z:iI i p.length with
  |true=>
   rw[Z]at q;exact .ak (pre (.am Q q)) (y.trans (if_pos Z)) (SJ _) (by refine aa (aa ?_ (Uw _)) TS;rfl) ⟨_,nK u l⟩
  |false=>
   rw[Z]at q;exact .aj (pre (.am Q q)) hT f4 M A (y.trans (if_neg (Z▸Tw))) ⟨_,nK u l⟩ ⟨SH _ 5,SH _ 2⟩
end
noncomputable def jX:List Nat->List (V×V)->List (V×V)
 |[],d=>d
 |o::r,d=>jX r (if o==58 then d else dT d (.ag [o]) (.aq (r.take 1==[58])))
def Dq:jX (o::r) d=jX r (if o==58 then d else dT d (.ag [o]) (.aq (r.take 1==[58]))):=rfl
noncomputable def Dr:V->Option V
 | .az=>none
 |v=>Sn v
def NA:∀i,i<6->eg (jX (d9 i) [])=Sp/\∀o,o<256->(jX (d9 i) []).lookup (.ag [o])=Dr (jC (d9 i) o)/\((jX (d9 i) []).any λe=>e.1==.ag [o])=(Dr (jC (d9 i) o)).isSome:=by decide+kernel
structure pE where
 b9:Nat
 cu:Nat
 rC:Nat
 bF:Nat
 dn:Nat
 aZ:Nat
 dQ:List V
 iq:List V
structure mv (Q:pE) (S:List O):Prop where
 bg:pz S Q.b9 Q.bF Q.dQ
 bU:pz S Q.b9 Q.dn Q.iq
 pF:S[Q.rC]?=Sn (.aE (jX (d9 Q.aZ) []))/\Q.rC<Q.b9/\Q.rC≠Q.cu
 dF:∀v∈Q.dQ,ip S Q.b9 v
 jW:Q.aZ<6
 bd:Q.dQ.length=Q.iq.length/\Q.dQ.length<=19
 aE:∃ds,S[Q.cu]?=Sn (.aE ds)
 gX:Q.b9<=S.length
def ip.a {S} (h:ip S B v) (q:EV z l c y S v S):EV z l c (.tr (.ba .jg y)) S (.aq (tW v)) S:=by
 rcases h with⟨w,rfl,-⟩|⟨b,d,rfl,j,-⟩
 ·exact .P (.ba q rfl)
 ·refine .P (.ba q ?_)
  delta u1;dsimp only;refine aa ?_ j;rfl
noncomputable def eY (Q:pE) (k:Nat) (y7 here rest g_ h_:Option V):bo:=[Sn (.bW (454+Q.aZ)),Sn (.ab Q.bF),Sn (.ae 20),Sn (.ab Q.dn),Sn (.ab Q.rC),Sn (.ab Q.cu),Sn (.ae k),y7,here,rest,g_,h_,none]
noncomputable abbrev mu:Internal.S:=kV.aA.bs.bs.fW
noncomputable abbrev jY:Internal.S:=mu.fW.bs.bs.fW
inductive t8 (n:Nat) (Q:pE) (L:List Nat) (ws:List V) (G:GD) (N:Nat) (hv:V) (y7:Option V) (l:bo) (S:List O):Prop where
 |ak {S':List O} (h:WL (Ph n) [] jY.d jY.fW (L.length+1) l S (.aO hv S')) (e:iH Q.aZ L ws (gF G)=none) (old:eE Q.b9 Q.cu S S')
 |aj {S':List O} {G':GD} {at':Nat} {g_ h_:Option V} {e_:List V} (h:WL (Ph n) [] jY.d jY.fW (L.length+1) l S (.aD (eY Q at' y7 (Sn hv) (Sn (.ag [])) g_ h_) S')) (hp:mv Q S') (f:cQ S' Q.b9 Q.cu G' (N+L.length)) (hA:bP Q.dQ at' e_) (e:iH Q.aZ L ws (gF G)=Sn (gF G',e_)) (hl:e_.length<=ws.length) (old:eE Q.b9 Q.cu S S')
def tY (o) (r):gx (.ag (o::r)) .az (.ae (1:Nat)) q=.aj (.ag [o]) q:=by
 refine aa (aa ?_ (ml (p:=1) (SE (S6 _)))) (ph rfl (mm (by decide)));rfl
def Ds (o) (r) (h:r.length<=100):gx (.ag (o::r)) (.ae (1:Nat)) .az q=.aj (.ag r) q:=bP.c ⟨rfl,SE (S6 _)⟩ (SE (a5 h rfl))
def tZ (h:z[i]?=Sn (.aE q)) (y:eJ (.ag w) q=Sp):dY av .gh (.ag w) (.ab i) z=(!(q.any λe=>e.1==.ag w)):=congrArg (UA not) (rm h y)
inductive Q' (n:Nat) (Q:pE) (G:GD) (N o:Nat) (v:V) (l:bo) (S:List O):Prop where
 |mk {S':List O} {G':GD} (h:EX (Ph n) l [] jY.fW.bs.bs.bs.bs S (.aD l S')) (hp:mv Q S') (f:cQ S' Q.b9 Q.cu G' (N+1)) (e:gF G'=dC (gF G) o v) (old:eE Q.b9 Q.cu S S')
def Du {S} (h:mv Q S) (F:cQ S Q.b9 Q.cu G N) (r:N<=900):Q' n Q G N o v (eY Q k z y q (Sn (.ag [o])) v) S:=by
 obtain⟨u,j,g,w⟩:=Ni (l:=eY Q k z y q _ v) (f:=.ad 5) (e:=.ad 10) (t:=.ad 11) F r h.gX (λp=>.ad) (λp=>.ad) λp=>.ad;exact⟨.am u .aw,(⟨h.bg.ee w h.aE,h.bU.ee w h.aE,⟨(w.dg _ h.pF.2.1 h.pF.2.2).trans h.pF.1,h.pF.2⟩,λv j=>(h.dF v j).ee w h.aE,h.jW,h.bd,⟨_,j.aE⟩,w.bd h.gX⟩),j,g,w⟩
def NB (L:List Nat):∀{S:List O} {G:GD} {N k:Nat} {p:List V} {l q:Option V},mv Q S->cQ S Q.b9 Q.cu G N->N+L.length<=900->L.length<=20->(∀c∈L,c<256)->bP Q.dQ k p->t8 n Q L p G N w g (eY Q k g w (Sn (.ag L)) l q) S:=by
 have m:∀{S:List O} {k:Nat} {l q:Option V} (L:List Nat),EV (Ph n) (eY Q k g w (Sn (.ag L)) l q) [] jY.d S (.aq (!(L==[]))) S:=λM=>.RN .ad .ag;induction L with
 |nil=>exact λh F M M M f=>.aj (.a (m [])) h F f rfl (SJ _) .E
 |cons o r ih=>
  intro S G N k p l q h F hN hl hL f;have ho:=hL o (.head _);obtain⟨hk,ht⟩:=NA Q.aZ h.jW;obtain⟨j,C⟩:=ht o ho;have Z:=Sq (SH _ _) hN;have h1:EX (Ph n) (eY Q k g w (Sn (.ag (o::r))) l q) [] jY.fW.fW S (.aD (eY Q k g w (Sn (.ag r)) (Sn (.ag [o])) q) S):=.E (.cT .ad .az .ae (tY o r)) (.cT .ad .ae .az (Ds o r (a5 (UB hl) rfl))) rfl rfl;have P:EV (Ph n) (eY Q k g w (Sn (.ag r)) (Sn (.ag [o])) q) [] jY.fW.bs.fW.d S _ S:=.E .ad .ad (tZ h.pF.1 hk)
  have s:∀{q:Option V} {v:V} {r:Option V},(jX (d9 Q.aZ) []).lookup (.ag [o])=v->EV (Ph n) (eY Q k g w r (Sn (.ag [o])) q) [] (.aM (.ad 4) (.ad 10)) S v S:=λw=>.aM .ad .ad (rj (u:=.ag [o]) h.pF.1 hk w);rw[C]at P;have y:iH Q.aZ (o::r) p (gF G)=tV o r p (gF G) (iH Q.aZ r p (dC (gF G) o .az)) (jC (d9 Q.aZ) o):=rfl;have Y:=xp Q.aZ h.jW o ho;generalize jC (d9 Q.aZ) o=tv at j P y Y;induction tv using V.casesOn with
  |az=>exact .ak ((WL.aO (m _) (.am h1 (.A (.D P (.A (.aO .ad)))))).RA (SE (S6 _))) y .E
  |aq b=>
   have i:∀{z:bC},EX (Ph n) (eY Q k g w (Sn (.ag r)) (Sn (.ag [o])) (Sn .az)) [] jY.fW.bs.bs.bs S z->EX (Ph n) _ [] jY.fW S z:=λE=>.am h1 (.am (.C P .aw) (.am (.a6 .az) E));induction b using SX with
   |false=>
    obtain⟨T,D,B,I,U⟩:=Du h F Z;rw[<-I]at y;have t:=i (.am (.C (.RG (s j)) (.am (.C (s j) .aw) .aw)) T);induction ih D B ((T1 N r.length).symm▸hN) (UB hl) (λc m=>hL c (.tail _ m)) f using t8.casesOn with
    |ak H A k3=>exact .ak (.aD (m _) t H) (y.trans A) (U.A k3)
    |aj H A k3 k4 k5 k6 k7=>exact .aj (.aD (m _) t H) A (aT k3 (T1 N r.length)) k4 (y.trans k5) k6 (U.A k7)
   |true=>
    have J:∀{k':Nat} {x:V} {e:List V},EX (Ph n) _ [] jY.fW.bs.bs.bs.fW S _->bP Q.dQ k' e->e.length<=p.length->iH Q.aZ (o::r) p (gF G)=Sn (dC (gF G) o x,e)->t8 n Q (o::r) p G N w g _ S:=λ{k' x e} h3 h4 h5 h6=>by
     obtain⟨T,D,B,I,U⟩:=Du h F Z;rw[<-I]at h6;exact .aj ((WL.aD (m _) (i (.am h3 T)) (.a (m _))).RA (SE (SE (S6 _)))) D (B.RH (SF (SE (S6 _)) N)) h4 h6 h5 U
    have a:EV (Ph n) (eY Q k g w (Sn (.ag r)) (Sn (.ag [o])) (Sn .az)) [] (.tr (.aB .bM (.ad 9) (.ag []))) S (.aq (!(r==[]))) S:=.RN .ad .ag;induction r using SD with
    |cons o' r'=>exact J (.D (.and (s j) a) (.am (.E .ad .ag rfl rfl) .aw)) f (SJ _) y
    |nil=>
     have hn:EV (Ph n) (eY Q k g w (Sn (.ag [])) (Sn (.ag [o])) (Sn .az)) [] (.tr (.aB .bp (.ad 6) (.tr (.ba .bd (.ad 1))))) S _ S:=.Q .ad (.RD .ad h.bg.dg);have bad:EV (Ph n) _ [] _ S (.aq Sp) S->iH Q.aZ [o] p (gF G)=none->t8 n Q [o] p G N w g _ S:=λE hs=>
      .ak ((WL.aO (m _) (i (.A (.C (.and (s j) a) (.A (.D (s j) (.A (.D E (.A (.aO .ad)))))))))).RA (SE (S6 _))) hs .E
     induction p using SD with
     |nil=>exact bad (.RX (.k9 hn (beq_iff_eq.mpr (congrArg Int.ofNat (f.bd.trans (Nat.add_zero _)).symm)))) y
     |cons u p=>
      have W:=beq_false_of_ne λz=>SQ (f.bd▸TY (T9 _)) (VZ z);have hu:EV (Ph n) (eY Q k g w (Sn (.ag [])) (Sn (.ag [o])) (Sn .az)) [] (.aM (.ad 1) (.ad 6)) S u S:=rA f .ad h.bg.dg .ad;have K:=EV.em ((h.dF u (Th (f.dg 0))).a hu);rcases h.dF u (Th (f.dg 0))with⟨ub,rfl,-⟩|⟨b,d,rfl,-⟩
      ·exact J (.C (.and (s j) a) (.am (.D (s j) (.am (.C (.RK (.k9 hn W) K) .aw) (.am (.E hu (.RA .ad .ae rfl) rfl rfl) .aw))) .aw)) f.b (Tx _) y
      ·exact bad (.RK (.k9 hn W) K) y
  |_=>exact bv Y
def EX.T (w:EX y l c s z (.eu j q)):EX y l c (.am s t) z (.eu j q):=congrArg (λr:bC=>r.C λl z=>Internal.aU y av t l c z) w
inductive Ra (n:Nat) (Q:pE) (ws:List V) (G:GD) (j:Nat) (l:bo) (S:List O) (R:eX):Prop where
 |ak {S':List O} {k:Nat} {pv:V} (h:WL (Ph n) [] mu.d mu.fW j l S (.aO pv S')) (e:R=.ak k) (hk:k<=Q.dQ.length/\0<k) (hp:Q.iq[Q.dQ.length-k]?=Sn pv) (old:eE Q.b9 Q.cu S S')
 |aj {S':List O} {G':GD} {N' at':Nat} {y7 y8 y9 g_ h_:Option V} {e_:List V} (h:WL (Ph n) [] mu.d mu.fW j l S (.aD (eY Q at' y7 y8 y9 g_ h_) S')) (hp:mv Q S') (f:cQ S' Q.b9 Q.cu G' N') (hA:bP Q.dQ at' e_) (e:R=.aj (gF G') e_) (old:eE Q.b9 Q.cu S S')
def ND {S} (h:mv Q S) (y:bP Q.dQ k (v::e)):EV g (eY Q k j p u q z) [] mu.d S (.aq (nR v)) S:=by
 have f:=h.dF v (Th (y.dg 0));have m:EV g (eY Q k j p u q z) [] (.tr (.aB .bX (.ad 6) (.tr (.ba .bd (.ad 1))))) S _ S:=.k9 (.bX .ad (.RD .ad h.bg.dg)) y.x;have l:EV g (eY Q k j p u q z) [] (.aM (.ad 1) (.ad 6)) S v S:=rA y .ad h.bg.dg .ad;have c:=f.a l;rcases f with⟨w,rfl,-,-⟩|⟨b,d,rfl,-⟩
 ·have t:gx (.ag w) .az (.ae 1) S=.aj (.ag (w.take 1)) S:=by
   induction w using SD with
   |nil=>rfl
   |cons o r=>exact tY o r
  exact .and m (.and c (.RY (.E (.cT l .az .ae t) .ag rfl) (.RN l .ag)))
 ·exact .and m (.RG c)
def NE (f):∀{q} {S} {G} {N k} {e i x z y},mv Q S->cQ S Q.b9 Q.cu G N->N+20*q.length<=900->bP Q.dQ k q->q.length<f->f<=50->∃j,j<=f/\Ra n Q q G j (eY Q k e i x z y) S (gP Q.aZ f q (gF G)):=by
 induction f with
 |zero=>exact λY Y Y Y h=>absurd h (Nat.not_lt_zero _)
 |succ f ih=>
  intro q S G N k e i x z y h F I r hf J;induction q using SD with
  |nil=>exact⟨1,SE (S6 _),.aj (.a (.RG (.k9 (.bX .ad (.RD .ad h.bg.dg)) r.Ir))) h F r rfl .E⟩
  |cons v q=>
   have g:=ND (g:=Ph n) (j:=e) (p:=i) (u:=x) (q:=z) (z:=y) h r;cases t:nR v with
   |false=>
    replace g:=t▸g;exact⟨1,SE (S6 _),.aj (.a g) h F r (if_neg (t▸Tw)) .E⟩
   |true=>
    replace g:=(t)▸g;have H:gP Q.aZ (f+1) (v::q) (gF G)=if jb v==[45,45]then .aj (gF G) q else eX.B (q.length+1) (λF' a=>gP Q.aZ f a F') _:=if_pos t
    have W:=h.bd.1▸Ul.mp (of_decide_eq_true r.x);have s:=S0 W;generalize Q.iq[k]=A at s;have hu:EV (Ph n) (eY Q k e i x z y) [] (.aM (.ad 1) (.ad 6)) S v S:=rA r .ad h.bg.dg .ad;rcases h.dF v (Th (r.dg 0))with⟨w,rfl,hw,hl⟩|⟨b,d,rfl,-⟩
    ·obtain⟨o,u,rfl⟩:∃o u,w=o::u:=by
      induction w using SD with
      |nil=>exact bv t
      |cons o u=>exact⟨o,u,rfl⟩
     have ho:o=45:=by
      have:=(Sz.mp t).1;exact(Uu (beq_iff_eq.mp this)).1
     subst ho;have p:=UB hl;have K:EX (Ph n) _ [] mu.fW.fW S (.aD (eY Q (k+1) e A (Sn (.ag u)) z y) S):=.K (jd h.bU.dg s .ad .ad) (.cT hu .ae .az (Ds 45 u (a5 p rfl))) (.RA .ad .ae rfl) rfl rfl rfl;have l:EV (Ph n) (eY Q (k+1) e A (Sn (.ag u)) z y) [] (.tr (.aB .bp (.ad 9) (.ag [45]))) S (.aq (u==[45])) S:=.E .ad .ag rfl;have hd2:_=(u==[45]):=rfl;cases Z:u==[45]with
     |true=>
      rw[Z]at l;exact⟨1,SE (S6 _),.aj (.RB g (.am K (.T (.D l (.T rfl)))) λP P=>rfl) h F r.b (H.trans (if_pos Z)) .E⟩
     |false=>
      rw[Z]at l;have e1:=H.trans (if_neg (Z▸Tw));induction NB u h F (Sq (SF (Sq p (Sq (To (Nat.mul_one 20).symm) (TM 20 (SE (S6 q.length))))) N) I) p (λc g=>hw c (.tail _ g)) r.b using t8.casesOn with
      |ak U L M=>
       exact⟨1,SE (S6 _),.ak (.aO g (.am K (.am (.C l .aw) (.A (.iO U (Sq (SE p) (by decide))))))) (e1.trans (congrArg (eX.B (q.length+1) _) L)) ⟨aa (TC _ _) r.bd,T9 _⟩ (aa ((congrArg (Q.iq[·]?) (VF k (q.length+1))).trans s) r.bd) M⟩
      |@aj S' G' ZM aam aan a U L M g4 g5 g6 g7=>
       obtain⟨j,hj,hr⟩:=ih L M (Sq (Up (SF p N) (TM 20 g6)) (aa (aa (aT I (WR _ _)) (TH 20 _)) (TK _ _ _))) g4 (S8 g6 (Nat.lt_of_succ_lt_succ hf)) (UB J);have e2:=e1.trans (congrArg _ g5);have m:EX (Ph n) _ [] mu.fW S (.aD _ S'):=.am K (.am (.C l .aw) (.am (.iO U (Sq (SE p) (by decide))) .aw));refine⟨j+1,SE hj,?_⟩;cases hr with
       |ak C E T D B=>exact .ak (.aD g m C) (e2.trans E) T D (g7.A B)
       |aj C E T D B o6=>exact .aj (.aD g m C) E T D (e2.trans B) (g7.A o6)
    ·exact bv t
def NF (h:eg q=Sp):eg (dT q (.ag w) v)=Sp/\(dT q (.ag w) v).length<=q.length+1:=by
 induction q with
 |nil=>exact⟨rfl,SJ _⟩
 |cons e q y=>
  refine cZ h λj z=>?_;rewrite[rZ]
  split
  ·exact⟨Sz.mpr ⟨j,z⟩,Tx _⟩
  ·exact⟨Sz.mpr ⟨j,(y z).1⟩,SE (y z).2⟩
noncomputable abbrev Dv:Internal.S:=kV.aA.bs.fW.fW
noncomputable def nU (i wl pl Dt D:Nat) (y7:Option V):bo:=[Sn (.bW (454+i)),Sn (.ab wl),Sn (.ae 20),Sn (.ab pl),Sn (.ab Dt),Sn (.ab D),Sn (.ae 0),y7,none,none,none,none,none]
def NG (m:∀S,W S=Sp) (K:i<6) (j):∀{a} {p} {c} {S},bP (d9 i) a j->S[D]?=Sn (.aE p)->eg p=Sp->p.length+j.length<=100->
  ∃v,ew (λl y=>Internal.aU u av Dv l [] y) (λn l y=>dZ u av [.ad 7] n l [] y) W ((YN a j.length).map λ(i:Nat)=>[.ae i]) (nU i g f D q c) S=.aD (nU i g f D q v) (S.set D (.aE (jX j p))):=by
 induction j with
 |nil=>exact λ{a p c S} P e P P=>⟨c,congrArg (bC.aD _) (pi e).symm⟩
 |cons o r U=>
  intro a p c S t e x Q;have w:EV u (nU i g f D q (Sn (.ae a))) [] (.aM (.ad 0) (.ae 2)) S (.ag (d9 i)) S:=.RF K .ad rfl;have d:EV u _ [] Dv.fW.d S _ S:=.R1 (.aM w .ad (io (t.dg 0))) .ae;have G:dZ u av [.ad 7] [.ae a] (nU i g f D q c) [] S=.aD (nU i g f D q (Sn (.ae a))) S:=mc rfl;have L:=(by decide+kernel:∀i,i<6->(d9 i).length<=1000000) i K;have F:((o:Int)==58)=(o==58):=by
   cases h:o==58 with
   |true=>refine aa ?_ (beq_iff_eq.mp h);rfl
   |false=>exact beq_false_of_ne λz=>by rw[VZ z]at h;exact bv (UW h)
  rw[F]at d;cases k:o==58 with
  |true=>
   rw[k]at d;obtain⟨Z,b⟩:=U t.b e x (Sq (SF (Tx _) _) Q);refine⟨Z,fP G (EX.am (.C d .aw) .aw) (m _) (b.trans ?_)⟩;rewrite[Dq];refine aa ?_ k;rfl
  |false=>
   rw[k]at d;have C:EV u _ [] (.cT (.aM (.ad 0) (.ae 2)) (.ad 7) (.aV .bB (.ad 7) (.ae 1))) S (.ag [o]) S:=.cT w .ad (.RA .ad .ae rfl) (t.a7 L);have s:eg _=Sp/\(dT p (.ag [o]) (.aq (r.take 1==[58]))).length<=p.length+1:=NF x;obtain⟨Z,b⟩:=U t.b (dH e) s.1 (Sq (TU s.2 _) ((T1 _ _).symm▸Q));rw[VG]at b;refine⟨Z,fP G (EX.am (.D d (.am (EX.L (.E (.cT w (.RA .ad .ae rfl) (.RA .ad .ae rfl) (t.cT L 1 1)) .ag rfl) (.ad (i:=4)) C e (Sz.mpr ⟨x,decide_eq_true (a5 (Sq (SH _ _) Q) rfl)⟩)) .aw)) .aw) (m _) (b.trans ?_)⟩
   rewrite[Dq];refine aa ?_ k;rfl
inductive NJ (n wl pl:Nat) (W P:List V) (i:Nat) (S:List O) (R:eX):Prop where
 |ak {τ:List O} {k:Nat} {pv:V} (h:Ph (n+1) 20 [.bW (454+i),.ab wl,.ae 20,.ab pl] S=.aj pv (S++τ)) (e:R=.ak k) (hk:k<=W.length+1/\0<k) (hp:(V.ae 20::P)[W.length+1-k]?=Sn pv)
 |aj {τ:List O} {G:GD} {N B D at' t a b:Nat} {e_ y_:List V} (h:Ph (n+1) 20 [.bW (454+i),.ab wl,.ae 20,.ab pl] S=.aj (.ab t) (S++τ)) (ht:(S++τ)[t]?=Sn (.aX [.ab D,.ab a,.ab b])) (lt:S.length<=t) (f:cQ (S++τ) B D G N) (ha:(S++τ)[a]?=Sn (.ah e_)) (hb:(S++τ)[b]?=Sn (.ah y_)) (hA:bP W at' e_) (hP:bP P at' y_) (e:R=.aj (gF G) e_)
noncomputable abbrev ua (Q:pE) (k:Nat) (y7 here rest g_ h_:Option V) (z:V):bo:=[Sn (.bW (454+Q.aZ)),Sn (.ab Q.bF),Sn (.ae 20),Sn (.ab Q.dn),Sn (.ab Q.rC),Sn (.ab Q.cu),Sn (.ae k),y7,here,rest,g_,h_,Sn z]
def NH {S} (h:mv Q S) (g:bP Q.dQ k q):EX j (eY Q k w p r z y) [] kV.aA.bs.bs.bs S (if iI Q.aZ q.length then .aO (.ae 20) S else .aO (.ab (S.length+2)) (S++[.ah q,.ah (Q.iq.drop k),.aX [.ab Q.cu,.ab S.length,.ab (S.length+1)]])):=by
 have l:EX j (eY Q k w p r z y) [] kV.aA.bs.bs.bs.fW S _:=.a6 (.R5 (.RD .ad h.bg.dg) .ad (by refine aa ?_ g.bd;exact aa (aa (aa rfl (Int.add_sub_cancel _ _)) (Int.add_comm _ _)) (Int.natCast_add _ _)));have u:EV j (ua Q k w p r z y (.ae q.length)) [] kV.aA.bs.bs.bs.bs.fW.d S (.aq (iI Q.aZ q.length)) S:=by
  have t:EV j (ua Q k w p r z y (V.ae ↑q.length)) [] (.aM (X.ad 0) (.ae 4)) S (nO Q.aZ) S:=.RF h.jW .ad rfl;refine .RL (.bX .ad (.RF h.jW .ad rfl)) ?_;unfold nO at t;cases d:tN Q.aZ with
  |none=>
   replace t:=d▸t;exact .RG (.k9 (.RE t) rfl)
  |some o=>
   rw[d]at t;exact .and (.k9 (.RE t) rfl) (.E .ad t rfl)
 have f:Q.dQ.length<=1000:=Sq h.bd.2 (by decide);cases e:iI Q.aZ q.length with
 |true=>
  rw[e]at u;exact .am l (.A (.D u (.A (.aO .ad))))
 |false=>
  rw[e]at u;exact .am l (.am (.C u .aw) (.A (.aO (by
    have s:EV j (ua Q k w p r z y (.ae q.length)) [] (.cT (.ad 1) (.ad 6) .az) S (.ab S.length) (S++[.ah q]):=.cT .ad .ad .az (nS h.bg.dg g f);have m:EV j (ua Q k w p r z y (.ae q.length)) [] (.cT (.ad 3) (.ad 6) .az) (S++[.ah q]) (.ab (S++[O.ah q]).length) _:=.cT .ad .ad .az (nS (aC h.bU.dg) ⟨rfl,aT g.bY h.bd.1⟩ (aT f h.bd.1));rw[Sr,Ss]at m;have c:EV j _ [] (.dO (.ai (.ad 5) _)) S _ _:=.dO (.ai .ad (.ai s (.a7 m)))
    rw[Sr,Ss]at c;exact c))))
def NI {S} (E:i<6) (hw:S[f]?=Sn (.ah z)) (hp:S[c]?=Sn (.ah t)) (Z:z.length=t.length/\z.length<=19) (Y:∀v∈z,ip S S.length v):NJ n f c z t i S (nT i z):=by
 let B:=S++[.aE [],.aE []]
 let x:=S++[.aE (jX (d9 i) []),.aE []]
 have ZN:EX (Ph n) [Sn (.bW (454+i)),Sn (.ab f),Sn (.ae 20),Sn (.ab c),none,none,none,none,none,none,none,none,none] [] kV.aA.fW S (.aD (nU i f c S.length (S.length+1) none) B):=by
  have N:EV (Ph n) [Sn (.bW (454+i)),Sn (.ab f),Sn (.ae 20),Sn (.ab c),none,none,none,none,none,none,none,none,none] [] (.gj .ao) (S++[.aE []]) (.ab (S++[O.aE []]).length) (S++[.aE []]++[.aE []]):=.R4;rw[Sr,Ss]at N;exact .K .R4 N .ae rfl rfl rfl
 have J:=(by decide+kernel:∀i,i<6->(d9 i).length<=4) i E;obtain⟨y7,ht⟩:=NG (D:=S.length) (λζ=>rfl) E (d9 i) (S:=B) ⟨rfl,S6 _⟩ (bA S _ 0) rfl (a5 (SF J 0) rfl);rw[show B.set S.length (.aE (jX (d9 i) []))=x from hU S _ 0 _,<-List.range_eq_range']at ht;let Q:pE:=⟨S.length+2,S.length+1,S.length,f,c,i,z,t⟩
 have l:∀{a},a<S.length->a<S.length+2:=λh=>SA h (SH _ 2);have W:mv Q x:=⟨⟨aC hw,l (bQ hw)⟩,⟨aC hp,l (bQ hp)⟩,⟨bA S _ 0,TY (by decide),SQ (Td _)⟩,λv hv=>(Y v hv).imp id λ⟨b,d,h1,N,h3⟩=>⟨b,d,h1,aC N,l h3⟩,E,Z,⟨_,bA S _ 1⟩,by refine aa ?_ Sr;exact SJ _⟩
 have hF:cQ x Q.b9 Q.cu [] 0:=⟨bA S _ 1,λζ h=>(nomatch h),.nil,Td _,SJ _,λζ h=>nomatch h⟩
 have K:EX (Ph n) (nU i f c S.length (S.length+1) none) [] kV.aA.bs.fW B (.aD (eY Q 0 y7 none none none none) x):=.eG (.RJ (.RF E .ad rfl)) (mp (Us (a5 J rfl))) (ja rfl _) ht;obtain⟨j,hj,ho⟩:=NE (z.length+1) W hF (a5 (SF (TM 20 Z.2) 0) rfl) ⟨rfl,S6 _⟩ (Td _) (a5 (SE Z.2) rfl);have s:j<=jI:=Sq (Sq hj (SE Z.2)) (by decide);have pre:∀{r},EX (Ph n) (eY Q 0 y7 none none none none) [] kV.aA.bs.bs x r->Ph (n+1) 20 [.bW (454+i),.ab f,.ae 20,.ab c] S=gM r:=λh=>cj rfl (.am ZN (.am K h))
 have e:∀{P},eE Q.b9 Q.cu x P->∃w,P=S++w:=λ{P} U=>⟨_,nK (λm hm=>(U.dg m (l hm) (SQ (Um hm))).trans (SM hm)) (Sq (SH _ 2) (U.bd W.gX))⟩
 have p:nT i z=match gP i (z.length+1) z []with| .ak k=>.ak k| .aj F q=>if iI i q.length then .ak (z.length+1)else .aj F q:=rfl
 set_option tactic.hygienic true in cases ho with
 |ak I o2 u G o5=>
  rename_i P k pv;obtain⟨w,rfl⟩:=e o5;rw[show gP i (z.length+1) z []=_ from o2]at p;exact .ak (pre (.A (.iO I s))) p ⟨UJ u.1,u.2⟩ (aa G (Nat.succ_sub u.1))
 |aj I o2 u G o5 o6=>
  rename_i P G' N' o x_ y8 y9 L M q;have y:=NH (j:=Ph n) (w:=x_) (p:=y8) (r:=y9) (z:=L) (y:=M) o2 G;rw[show gP i (z.length+1) z []=_ from o5]at p;obtain⟨w,rfl⟩:=e o6;cases H:iI i q.length with
  |true=>
   rw[show iI Q.aZ q.length=Sp from H]at y;exact .ak (pre (.am (.iO I s) y)) (p.trans (if_pos H)) ⟨SJ _,T9 _⟩ (by refine aa ?_ (Uw _);rfl)
  |false=>
   rw[show iI Q.aZ q.length=Su from H]at y;have hx:=pre (.am (.iO I s) y);have F':cQ (S++w++[.ah q,.ah (t.drop o),.aX [.ab Q.cu,.ab (S++w).length,.ab ((S++w).length+1)]]) Q.b9 Q.cu G' N':=⟨aC u.aE,λg hg=>⟨aC (u.dG g hg).1,(u.dG g hg).2⟩,u.fG,u.je,u.gO⟩
   have A:=bA (S++w) [.ah q,.ah (t.drop o),.aX [.ab Q.cu,.ab (S++w).length,.ab ((S++w).length+1)]];generalize C:S++w++[.ah q,.ah (t.drop o),.aX [.ab Q.cu,.ab (S++w).length,.ab ((S++w).length+1)]]=T at hx F' A;rw[Ss]at C;subst C;exact .aj hx (A 2) (by refine aa ?_ Sr;exact Sq (SH _ _) (SH _ _)) F' (A 0) (A 1) G ⟨rfl,Sq G.bY (To Z.1)⟩ (p.trans (if_neg (H▸Tw)))
noncomputable def nV:List (List Nat):=[[45,97],[45,116],[45,116,118],[45,97,116],[45,100],[45,104,100],[45,99,55],[45,99],[45,110],[45,110,45,49,50],[45,45],[45],[119],[45,53],[45,120],[],[56]]
noncomputable def NL (w:List Nat):List (List Nat):=(Te (w.length+1)).map w.drop
noncomputable def kx:List (List Nat):=nV.flatMap NL
noncomputable def mw:List Nat->Nat->Option Nat
 |[],n=>Sn n
 |c::r,n=>if SW ((48:Int)<=c)&&SW ((c:Int)<=57)then mw r (10*n+(c-48))else none
noncomputable def ky (u:List Nat):Option Nat:=if u==[]then none else mw u 0
noncomputable def kz:Option Nat->V
 |some n=>.ae n
 |none=>.az
def uc:(∀u∈kx,u.length<=5/\(∀c∈u,c<256)/\u.tail∈kx)/\∀u∈nV,u∈kx:=by decide+kernel
noncomputable abbrev Dw:Internal.S:=ot.aA.bs.bs.fW.fW
def NM (d:48<=c):10*n+c-48=((10*n+(c-48):Nat):Int):=aa (aa (aa (Int.add_sub_assoc _ _ _) (Int.natCast_sub d)) (Int.natCast_mul _ _)) (Int.natCast_add _ _)
def NN (w):∀{n:Nat} {y},w.length<=9->n<10^(10-w.length)->∃r q,jw m [] 2 Dw w [Sn u,Sn (.ae n),y] z (match mw w n with|some k=>.aD [Sn u,Sn (.ae k),r] z|none=>.aO .az z)/\q=r:=by
 induction w with
 |nil=>exact λ{n y} s s=>⟨y,y,.ao,rfl⟩
 |cons c w o=>
  intro n y t d;have g:EV m [Sn u,Sn (.ae n),Sn (.ae c)] [] Dw.fW.d z _ z:=.em (.RU .ae .ad .ae);cases j:SW ((48:Int)<=c)&&SW ((c:Int)<=57)with
  |false=>
   rw[j]at g;exact aa ⟨y,y,.aO (.A (.D g (.A (.aO .az)))),rfl⟩ (show mw (c::w) n=none from if_neg (j▸Tw))
  |true=>
   rw[j]at g;refine aa ?_ (show mw (c::w) n=mw w _ from if_pos j);refine cZ j λb v=>?_;have h:10^(10-w.length)=10^(10-(c::w).length)*10:=aT (aa (aa (aT rfl (Nat.succ_sub (Xa (UJ t)))) (Nat.succ_sub_succ_eq_sub 9 _)) TS) (Nat.pow_succ _ _);obtain⟨r,q,a,e⟩:=o (UB t) (aa (Nat.mul_comm (10^(10-(c::w).length)) 10▸SA (Vw (W7 (Nat.sub_le_sub_right (T7.mp (of_decide_eq_true v:(c:Int)<=_)) 48)) (10*n)) (TM 10 d)) h)
   exact⟨r,q,.aD (.am (.C g .aw) (.am (.a6 (.R5 (.RA (.R0 .ae .ad (by decide) (TP (SA d (Nat.pow_le_pow_right (by decide) (Nat.sub_le 10 _))) (by decide))) .ad) .ae (NM (T7.mp (of_decide_eq_true b))))) .aw)) a,e⟩
def NO (r:w.length<=9):Ph (n+1) 0 [.ag w] q=.aj (kz (ky w)) q:=by
 have j:EV (Ph n) [Sn (.ag w),none,none] [] ot.aA.fW.d q _ q:=.Q (.RJ .ad) .ae;induction w using SD with
 |nil=>
  have z:EX (Ph n) _ [] ot.aA q _:=.A (.D j (.A (.aO .az)));exact cj rfl z
 |cons c w=>
  obtain⟨u,-,y,-⟩:=NN (c::w) r (Nat.pow_pos (by decide));refine aa ?_ (show ky (c::w)=mw (c::w) 0 from rfl);cases p:mw (c::w) 0 with
  |some k=>
   rw[p]at y;have z:EX (Ph n) _ [] ot.aA q _:=.am (.C j .aw) (.am (.a6 .ae) (.am (.G .ad y) (.A (.aO .ad))));exact cj rfl z
  |none=>
   replace y:=p▸y;have z:EX (Ph n) _ [] ot.aA q _:=.am (.C j .aw) (.am (.a6 .ae) (.A (.G .ad y)));exact cj rfl z
structure iW (S:List O) (ti D B:Nat) (G:GD) (N:Nat):Prop where
 ed:∃fs,fo S ti 3 fs/\fs.lookup 7=Sn (.ab D)/\fs.lookup 10=Sn (.ae 20)
 cL:cQ S B D G N
def xt (G):((dJ G).any λe=>e.1==.ag [o])=(cr G o).isSome:=by
 induction G with
 |nil=>rfl
 |cons g G q=>
  show((V.ag [g.1]==V.ag [o])||(dJ G).any λe=>e.1==V.ag [o])=(if g.1=o then Sn g.2 else cr G o).isSome;refine aS ?_ q Dg;by_cases h:g.1=o
  ·refine aa (aa ?_ h) (if_pos h);refine aa ?_ (beq_self_eq_true _);rfl
  ·refine aa (aa ?_ (beq_false_of_ne h)) (if_neg h);rfl
def cQ.in {S} (F:cQ S B D G N) (j:EV q l c z S (.ag [o]) S) (w:EV q l c y S (.ab D) S):EV q l c (.tr (.aB .d' z y)) S (.aq (cr G o).isSome) S:=.E j w ((rm F.aE (jV G)).trans (congrArg Sn (xt G)))
def ud (h:q[i]?=Sn (.ah (z++[v]))):jG av (.ab i) (.ae (-1)) q=.aj v q:=by
 show(match q[i]? with|some (.ah y)=>(match gV (-1) y.length with|some i=>dh y[i]? q|none=>R.ak)|some (.aX y)=>(match gV (-1) y.length with|some i=>dh y[i]? q|none=>.ak)|some (.aE j)=>if eJ _ j then dh _ q else .ak|_=>.ak)=_;refine aa ?_ h;dsimp only;have w:gV (-1) (z++[v]).length=z.length:=by
  refine aa ?_ Sr;show(if 0<=(-1)+_&&(-1)+_<_ then Sn ((-1)+_).toNat else none)=_;have e:(-1:Int)+(z.length+1)=z.length:=(Int.add_comm _ _).trans (Int.add_neg_cancel_right _ 1);exact aa ((if_pos (Sz.mpr ⟨decide_eq_true (TA _),decide_eq_true (Ul.mpr (Td _))⟩)).trans (congrArg Sn (UL _))) e
 exact aa (ma ((bA z [v] 0))) w
def cQ.gf {S} (F:cQ S B D G N) (z:cr G o=Sn (k,w++[v])) (p:EV q l c y S (.ab D) S) (r:EV q l c j S (.ag [o]) S):EV q l c (.aM (.aM y j) (.ae (-1))) S v S:=
 .aM (.aM p r (rj F.aE (jV G) ((pu G).trans (congrArg _ z)))) .ae (ud (F.dG _ (ku G z)).1)
def Dx {S} (T:iW S q D B G N):Ph (n+1) 35 [.ab q,.ag [o]] S=.aj (.aq (cr G o).isSome) S:=by
 refine aQ λG z=>?_;refine dz T.ed λw h y _=>?_;have j:EX (Ph n) [Sn (.ab q),Sn (.ag [o])] [] yK.aA S _:=.A (.aO (T.cL.in .ad (.at .ad h y)));exact z (cj rfl j)
noncomputable def rD:Option Nat->Option Nat
 |some k=>if SW ((1:Int)<=k)&&SW ((k:Int)<=9)then Sn k else none
 |none=>none
noncomputable def Dy (q:Option Nat) (σ:List O):R V:=match q with
 |some k=>.aj (.ae (k:Nat)) σ
 |none=>.bh (.ae 20) σ
def NP {S} (T:iW S q D B G N) {u} (m:cr G o=Sn (k,s++[.ag u])) (b:u.length<=9) (g:(u.take 1==[45])=Su):Ph (n+2) 37 [.ab q,.ag [o],.ae 1,.ae 9,.az] S=Dy (rD (ky u)) S:=by
 refine dz T.ed λP h y l=>?_;let c:bo:=[Sn (.ab q),Sn (.ag [o]),Sn (.ae 1),Sn (.ae 9),Sn .az,Sn (.ag u),none]
 have v:EV (Ph (n+1)) [Sn (.ab q),Sn (.ag [o]),Sn (.ae 1),Sn (.ae 9),Sn .az,none,none] [] lQ.aA.fW.d S (.aq Su) S:=.E (x:=.ag [o]) .ad (.at .ad h y) (congrArg (UA not) ((rm T.cL.aE (jV G)).trans (congrArg Sn ((xt G).trans (congrArg Wy m)))));have i:EX (Ph (n+1)) [Sn (.ab q),Sn (.ag [o]),Sn (.ae 1),Sn (.ae 9),Sn .az,none,none] [] lQ.aA.bs.fW S (.aD c S):=.a6 (T.cL.gf m (.at .ad h y) .ad);have a:gx (.ag u) .az (.ae (1:Nat)) S=.aj (.ag (u.take 1)) S:=by
  induction u using SD with
  |nil=>rfl
  |cons o r=>exact tY o r
 have e:∀z,EV (Ph (n+1)) [Sn (.ab q),Sn (.ag [o]),Sn (.ae 1),Sn (.ae 9),Sn .az,Sn (.ag u),z] [] (.tr (.aB .bp (.cT (.ad 5) .az (.ae 1)) (.ag [45]))) S (.aq Su) S:=λz=>.k9 (.E (.cT .ad .az .ae a) .ag rfl) g;let j:=[Sn (.ab q),Sn (.ag [o]),Sn (.ae 1),Sn (.ae 9),Sn .az,Sn (.ag u),Sn (kz (ky u))]
 have Q:c8 S.length (kz (ky u))=Sp:=by cases ky u<;>rfl
 have Z:EX (Ph (n+1)) c [] lQ.aA.bs.bs.fW S (.aD j S):=.a6 (.P (.bR (.a7 (.C (e _) .ad)) (NO b)) Q);have w:∀{r},EX (Ph (n+1)) j [] lQ.aA.bs.bs.bs.bs S r->Ph (n+2) 37 [.ab q,.ag [o],.ae 1,.ae 9,.az] S=gM r:=λW=>cj rfl (.am (.C v .aw) (.am i (.am Z (.am (.C (by
   have J:EV (Ph (n+1)) j [] (.tr (.aB .hZ (.ad 6) .az)) S _ S:=.RE .ad;exact .k9 (.RY J (e _)) (XF _)) .aw) W))))
 have p:=λK=>w (.B (.D K (.B (.ib (.at .ad h l)))));cases t:ky u with
 |none=>
  refine p (.RX (.k9 (.R8 .ad) ?_));show _=Sp;refine aa ?_ t;rfl
 |some k=>
  have f:EV (Ph (n+1)) j [] (.ad 6) S (.ae k) S:=.ad (by show Sn (kz (ky u))=_;refine aa ?_ t;rfl);have y:EV (Ph (n+1)) j [] lQ.aA.bs.bs.bs.bs.fW.d S _ S:=.RL (.R8 f) (.em (.RU .ad f .ad));show _=Dy (if SW ((1:Int)<=k)&&SW _ then Sn k else none) S;cases d:SW ((1:Int)<=k)&&SW ((k:Int)<=9)with
  |false=>
   rw[d]at y;exact p y
  |true=>
   rw[d]at y;exact w (.am (.C y .aw) (.A (.aO f)))
noncomputable def nW (k:Nat):List Nat->List Int
 |[]=>[]
 |c::r=>((c:Int)-48)*10^k::nW (k+1) r
noncomputable def xu (u:List Nat):Bool:= !(u==[])&&(u.filter λ(c:Nat)=> !(SW ((48:Int)<=c)&&SW ((c:Int)<=57))).isEmpty
def NQ:∀u∈kx,(if xu u then Sn (nW 0 u.reverse).sum else none)=(ky u).map Int.ofNat:=by decide+kernel
noncomputable abbrev xv:X:=.aV .ek (.aV .fS (.ad 2) (.ae 48)) (.aV .lA (.ae 10) (.ad 1))
def NS {k w:Nat} (j:w<256) (z:k<=9):EV p [y,Sn (.ae k),Sn (.ae w)] [] xv q (.ae (((w)-48)*10^k)) q:=by
 have r:ie av .lA (.ae 10) (.ae k) q=.aj _ q:=if_pos (Sz.mpr ⟨Sz.mpr ⟨rfl,decide_eq_true (TA k)⟩,decide_eq_true (T7.mpr (a5 z rfl))⟩);exact .R0 (.R5 .ad .ae) (.aV .ae .ad r) ((by decide+kernel:∀w:Nat,w<256->((w:Int)-48).natAbs<2^40) w j) ((by decide+kernel:∀k,k<10->(10^k:Int).natAbs<2^40) k (W7 z)) rfl
def NT {S} (u:∀S,f S=Sp) (w):∀{k} {q:List V} {g l:Option V},(∀c∈w,c<256)->k+w.length<=9->q.length+w.length<=100->
  fI av (λp j=>ev r av xv p [] j) (λp j=>ev r av (.aq Sp) p [] j) f [1,2] S.length ((w.zipIdx k).map λz=>[.ae (z.2:Nat),.ae (z.1:Nat)]) [none,g,l] (S++[.ah q])=.aj (.ab S.length) (S++[.ah (q++(nW k w).map .ae)]):=by
 induction w with
 |nil=>exact λ{k q g l} e e e=>congrArg (λz=>R.aj _ (S++[O.ah z])) (SY q).symm
 |cons c w b=>
  intro k q g l t s o;refine(pe rfl (rfl:_=R.aj _ _) (NS (p:=r) (q:=S++[.ah q]) (y:=none) (t c (.head _)) (Sq (SH k _) s)) bV (Sz.mpr ⟨et (Sq (Sq (SF (T9 _) _) o) (by decide)),u _⟩)).trans ?_;refine aa ?_ jx;refine(b (λd m=>t d (.tail _ m)) ((T1 k w.length).symm▸s) (by refine aa ?_ Sr;refine aa ?_ (TK _ _ _);exact aa o (TH _ w.length))).trans ?_;refine aa ?_ (Ss _ _ _);rfl
def NU (l:List Int):lH (l.map .ae)=l:=by
 induction l with
 |nil=>rfl
 |cons c l q=>exact congrArg _ q
def NV (w):∀{k},(∀c∈w,c<256)->k+w.length<=9->((nW k w).length=w.length)/\∀z∈nW k w,z.natAbs<2^400:=by
 induction w with
 |nil=>exact λy y=>⟨rfl,λy h=>nomatch h⟩
 |cons c w r=>
  intro k j p;obtain⟨u,g⟩:=r (λd m=>j d (.tail _ m)) ((T1 k w.length).symm▸p);refine⟨congrArg (·+1) u,λz q=>?_⟩;rcases Tq.mp q with rfl|q
  ·exact aa (SA (Nat.mul_lt_mul_of_lt_of_le ((by decide+kernel:∀w:Nat,w<256->((w:Int)-48).natAbs<2^40) c (j c (.head _))) (Tu ((by decide+kernel:∀k,k<10->(10^k:Int).natAbs<2^40) k (W7 (Sq (SH k _) p)))) (Nat.pow_pos (by decide))) (aT (Nat.pow_le_pow_right (by decide) (by decide)) (Nat.pow_add _ _ _))) (Int.natAbs_mul _ _)
  ·exact g z q
def EV.Sj {S} {u} (p:∀c∈u,c<256) (r:u.length<=9) (g:EV y l c w S (.ag u) S):EV y l c (.tr (.ba .mH (.dp xv (.aq Sp) .jh (.pM w) 3 [1,2] []))) S (.ae (nW 0 u.reverse).sum) S:=by
 have j:=λc f=>p c (Yu.mp f);have q:=Sq (To List.length_reverse) r;obtain⟨d,s⟩:=NV u.reverse j (Sq (To (Ud _)) q);refine .tr (y:=[.ah ((nW 0 u.reverse).map .ae)]) (.ba (.R2 ((di g).trans rfl) rfl rfl (NT (λv=>rfl) u.reverse j (Sq (To (Ud _)) q) (Sq (To (Ud _)) (a5 q rfl)))) ?_);delta u1;dsimp only;refine aa ?_ bV;dsimp only;exact aa (if_pos (Sz.mpr ⟨decide_eq_true (aa (a5 q rfl) d),SN.mpr λz b=>decide_eq_true (s z b)⟩)) (NU _)
noncomputable def kA:FD->Nat->Option (List V)
 |[],_=>none
 |g::r,o=>if g.1=o then Sn g.2 else kA r o
def Dz:kA (g::r) o=if g.1=o then Sn g.2 else kA r o:=rfl
def DA (G):kA (gF G) o=(cr G o).map (·.2):=by
 induction G with
 |nil=>rfl
 |cons g G q=>
  show(if g.1=o then Sn g.2.2 else kA (gF G) o)=(if g.1=o then Sn g.2 else cr G o).map (·.2);refine aa ?_ q;by_cases h:g.1=o
  ·refine aa (aa ?_ (if_pos h)) (if_pos h);rfl
  ·exact aa (aa rfl (if_neg h)) (if_neg h)
def nX (v:V):Prop:=v=.az∨∃u∈kx,v=.ag u
def xw (F:FD):Prop:=∀g∈F,∃ys v,g.2=ys++[v]/\nX v
def NW (F) (h:kA F o=Sn q):(o,q)∈F:=by
 induction F with
 |nil=>exact aG h
 |cons g F z=>
  by_cases e:g.1=o
  ·rw[Dz,if_pos e]at h
   replace h:=Sv h;subst h;exact aT (.head _) e
  ·rw[Dz,if_neg e]at h
   exact .tail _ (z h)
def DB (h:kA (gF G) o=none):cr G o=none:=Option.map_eq_none_iff.mp ((DA G).symm.trans h)
def xy (h:kA (gF G) o=Sn q):∃k,cr G o=Sn (k,q):=by
 refine aQ λG y=>?_;rw[DA]at h;obtain⟨⟨k,j⟩,w,p⟩:=TX.mp h;exact y ⟨k,w.trans (congrArg (λz=>Sn (k,z)) p)⟩
def nX.bp {S} (h:nX v):r3 S gw v v=Sp:=by
 rcases h with rfl|⟨u,-,rfl⟩
 ·rfl
 ·exact congrArg Sn (beq_self_eq_true u)
noncomputable abbrev mx:Internal.S:=uY.aA.fW.fW
structure kB (S:List O) (a0 a1 ti o:Nat):Prop where
 ed:S[a0]?=Sn (.a9 (Sn (.ab ti)))
 cL:S[a1]?=Sn (.a9 (Sn (.ag [o])))
def kB.A {S} (h:kB S q z y o):kB (S++j) q z y o:=⟨aC h.ed,aC h.cL⟩
def iW.A {S} (T:iW S q D B G N):iW (S++y) q D B G N:=⟨let⟨j,h,w⟩:=T.ed;⟨j,h.A,w⟩,⟨aC T.cL.aE,λg z=>⟨aC (T.cL.dG g z).1,(T.cL.dG g z).2⟩,T.cL.fG,T.cL.je,T.cL.gO⟩⟩
def kB.i {S} (h:kB S z y j o) (T:iW S j D B G N) (r:cO w l [z,y] k S p S) (u:w q (.ab j::p) S=.aj v S) (g:c8 S.length v=Sp) (f:i0 3 m=q):EV w l [z,y] (.tr (.cU m (.aW 0) k)) S v S:=by
 refine aQ λG c=>?_;obtain⟨s,⟨d,e,t⟩,-⟩:=T.ed;exact c (.P (.cU (.aW h.ed) e t r u f) g)
def NX {S} (C:kB S z y t o) (T:iW S t D B G N) (v:cQ S x q d h) (s:cr G o=none) (a:cr d o=none):EX (Ph (n+2)) [Sn (.ab q),b,j,w,p] [z,y] mx S (.aD [Sn (.ab q),Sn (.ab S.length),j,w,p] (S++[.ah []])):=by
 have r:kB (S++[.ah []]) z y t o:=C.A;have u:iW (S++[.ah []]) t D B G N:=T.A;have g:EV (Ph (n+2)) [Sn (.ab q),Sn (.ab S.length),j,w,p] [z,y] (.tr (.aB .bM (.ad 1) (.bj .ao))) (S++[.ah []]) (.aq Su) (S++[.ah []]):=.R3 .ad bV;exact .am (by
   have:=EV.dg (j:=Ph (n+2)) (l:=[Sn (.ab q),b,j,w,p]) (c:=[z,y]) (.ad (i:=0)) (.aW (i:=1) C.cL) (.bj .ao) v.aE (aC v.aE) (jV d);rw[pu,a]at this;exact .a6 (.RM this (tJ (k:=0)))) (.am (.C (.RK (.E (r.i u (.a7 (.aW r.cL)) ((Dx u).trans (by refine aa ?_ s;rfl)) rfl rfl) g rfl) (.E (r.i u (.ai (.aW r.cL) (.a7 .ag)) (by
    refine aQ λG j=>?_;refine dz u.ed λp h w _=>?_;have z:= u.cL.in (q:=Ph (n+1)) (l:=[Sn (.ab t),Sn (.ag [o]),Sn (V.ag [110,111,110,101])]) (c:=[]) (.ad (i:=1)) (.at (.ad (i:=0)) h w);rw[s]at z;have k:EX (Ph (n+1)) _ [] uZ.aA (S++[O.ah []]) (.aO (V.ag [110,111,110,101]) (S++[O.ah []])):=.A (.aO (.C z .ad));exact j (cj rfl k)) rfl rfl) (.C g .ag) rfl)) .aw) (.am (.D (.R6 .ad bV) (.am (.C (.E (r.i u (.ai (.aW r.cL) (.ai .ae (.ai .ae (.a7 .ae)))) (by
    refine dz u.ed λf m e _=>?_;have Q:EV (Ph (n+1)) [Sn (.ab t),Sn _,Sn (V.ae 0),Sn (V.ae 9),Sn (V.ae 5),none,none] [] lQ.aA.fW.d (S++[O.ah []]) _ (S++[O.ah []]):=.E (x:=.ag [o]) .ad (.at .ad m e) (congrArg (UA not) ((rm u.cL.aE (jV G)).trans (congrArg Sn ((xt G).trans (congrArg Wy s)))));have Y:EX (Ph (n+1)) _ [] lQ.aA (S++[O.ah []]) (.aO (V.ae 5) (S++[O.ah []])):=.A (.D Q (.A (.aO .ad)));exact cj rfl Y) rfl rfl) .ae rfl) .aw) .aw)) .aw))
def NY {S} (C:kB S z y W o) (T:iW S W D B G N) (h:cQ S L q b F) (K:cr G o=Sn (k,x++[v])) (P:cr b o=(g,x++[v])) (U:nX v) (M:EX (Ph (n+2)) [Sn (.ab q),Sn (.ab g),j,w,p] [z,y] mx.bs.bs.fW.bs S r) (E:∃a Q,r=.aD a Q):EX (Ph (n+2)) [Sn (.ab q),Z,j,w,p] [z,y] mx S r:=by
 have f:=(h.dG _ (ku b P)).1;have m:(x++[v]).isEmpty=Su:=by induction x using SD<;>rfl
 have t:EV (Ph (n+2)) [Sn (.ab q),Sn (.ab g),j,w,p] [z,y] (.tr (.aB .bM (.ad 1) (.bj .ao))) S _ S:=.k9 (.R3 .ad f) (congrArg not m);have H:c8 S.length v=Sp:=by rcases U with rfl|⟨u,-,rfl⟩<;>rfl
 exact .am (by
   have:=EV.dg (j:=Ph (n+2)) (l:=[Sn (.ab q),Z,j,w,p]) (c:=[z,y]) (.ad (i:=0)) (.aW (i:=1) C.cL) (.bj .ao) h.aE (aC h.aE) (jV b);rw[pu,P]at this;exact .a6 (.tr this (decide_eq_true (bQ f)))) (.am (.C (.RK (.E (C.i T (.a7 (.aW C.cL)) ((Dx T).trans (by refine aa ?_ K;rfl)) rfl rfl) t rfl) (.E (C.i T (.ai (.aW C.cL) (.a7 .ag)) (by
    refine aQ λG e=>?_;refine dz T.ed λd s Y _=>?_;have J:= T.cL.in (q:=Ph (n+1)) (l:=[Sn (.ab W),Sn (.ag [o]),Sn (V.ag [110,111,110,101])]) (c:=[]) (.ad (i:=1)) (.at (.ad (i:=0)) s Y);rw[K]at J;have r:EX (Ph (n+1)) _ [] uZ.aA S (.aO v S):=.A (.aO (.D J (T.cL.gf K (.at .ad s Y) .ad)));exact e (cj rfl r)) H rfl) (.D t (.aM .ad .ae (ud f))) (congrArg (UA not) U.bp))) .aw) (by
     refine aQ λG kG=>?_;obtain⟨a,Q,rfl⟩:=E;exact kG (.am (.C (.k9 (.R6 .ad f) m) M) .aw)))
noncomputable abbrev nY:Internal.S:=mx.bs.bs.fW.bs.fW.fW
noncomputable abbrev NZ:X:=.aY (.ad 4) (.dO (.ai (.bx 0) (.ai (.ad 3) .ao))) (.dO (.ai (.bx 1) (.ai (.ae 20) .ao)))
def N0 {S} (C:kB S y j Z o) (T:iW S Z D B G N) (h1:cr G o=Sn (k,ys++[.ag u])) (hu:u∈kx) (A:(u.take 1==[45])=Su) (b:EV (Ph (n+4)) [f,Sn (.ab m),M,E,a] [y,j] (.aM (.ad 1) (.ae (-1))) S (.ag u) S):∃z2 z3 z4,EX (Ph (n+4)) [f,Sn (.ab m),M,E,a] [y,j] nY S (.aD [f,Sn (.ab m),z2,z3,z4] S):=by
 refine j4 (uc.1 u hu) λZO Y _=>?_;have J:u.length<=9:=a5 ZO rfl;have r:=NQ u hu;let Q:bo:=[f,Sn (.ab m),Sn (.ag u),Sn .az,a]
 have g:EV (Ph (n+4)) Q [y,j] nY.bs.fW.d S (.aq (xu u)) S:=by
  have hc:=EV.RI (F:=S) (N:=Ph (n+4)) (l:=Q) (c:=[y,j]) (J:=[]) (M:=.ad 1) (K:=.ba .em (.tr (.eR .bY .bY (.ae 48) (.ad 1) (.ae 57)))) (p:=λv=>match v with| .ae c=> !(SW ((48:Int)<=c)&&SW (c<=57))|_=>Su) (e:=id) (EV.ad (i:=2)) CC (λζ h=>nomatch h) rfl (λx hx acc=>by
   refine cW hx λw _ e0=>?_;subst e0;exact .em (.RU .ae .ad .ae)) (λx ζ ζ acc=>.ad) (by refine aa ?_ (Sx _);exact a5 J rfl)
  rw[W8,YI]at hc;have he:=EV.aB hc (.bj .ao) (xi (aC bV) bV (SQ (by refine aa ?_ Sr;exact Td _)));rw[Ss,List.isEmpty_map]at he;exact .RY (.RN .ad .ag) (.tr he)
 have t:kB (S++[.cq 3 [j,y]]) y j Z o:=C.A;have hT:iW (S++[.cq 3 [j,y]]) Z D B G N:=T.A;have s:∀l,EV (Ph (n+4)) l [y,j] (.cq 3 [1,0]) S (.ab S.length) (S++[.cq 3 [j,y]]):=λζ=>.cq rfl;have ZP:ev (Ph (n+3)) av (.cU 3 (.aW 1) (.ai (.aW 0) (.ai (.ae 1) (.ai (.ae 9) .ao)))) [] [j,y] (S++[.cq 3 [j,y]])=Ph (n+3) 37 [.ab Z,.ag [o],.ae 1,.ae 9] (S++[.cq 3 [j,y]]):=by
  obtain⟨fs,⟨d,t1,t2⟩,-⟩:=hT.ed;exact CI (.aW t.ed) t1 t2 (.ai (.aW t.cL) (.ai .ae (.a7 .ae)))
 have K:=ZP.trans (rfl.trans (NP (n:=n+1) hT h1 J A));have P:∀{k:Nat} {v:V} (q:Option Nat),EX (Ph (n+4)) Q [y,j] nY.bs.fW S (.aD [f,Sn (.ab m),Sn (.ag u),Sn (kz q),a] S)->EV (Ph (n+4)) [f,Sn (.ab m),Sn (.ag u),Sn (kz q),a] [y,j] nY.bs.bs.fW.d S (.aq (rD q).isSome) S->
   EV (Ph (n+4)) [f,Sn (.ab m),Sn (.ag u),Sn (kz q),Sn (.aq (rD q).isSome)] [y,j] (.iv (.cq 3 [1,0])) S (.ab (S++[O.cq 3 [j,y]]).length) (S++[.cq 3 [j,y]]++[.aX [.bx k,v]])->
   (∀S,EV (Ph (n+4)) [f,Sn (.ab m),Sn (.ag u),Sn (kz q),Sn (.aq (rD q).isSome)] [y,j] NZ S (.ab S.length) (S++[.aX [.bx k,v]]))->(∀S,cV S gw v v=Sp)->∃z2 z3 z4,EX (Ph (n+4)) [f,Sn (.ab m),M,E,a] [y,j] nY S (.aD [f,Sn (.ab m),z2,z3,z4] S):=λ{k v} q I U g3 g4 g5=>
  ⟨_,_,_,.am (.E b .az rfl rfl) (.am I (.am (.a6 U) (.am (.C (.tr (y:=[O.cq 3 [j,y]]++[.aX [.bx k,v]]++[.aX [.bx k,v]]) (Ss S _ _▸Ss S [O.cq 3 [j,y]] _▸.aB g3 (g4 _) (congrArg (UA Bool.not) ((rt (aC bV) bV (SQ (by refine aa ?_ (Sr (as:=S++[O.cq 3 [j,y]]));exact Td _))).trans (tQ (g5 _)))))) .aw) .aw)))⟩
 cases hd:xu u with
 |false=>
  rw[hd]at g r;have H:ky u=none:=Option.map_eq_none_iff.mp r.symm;rw[H]at K;exact P (v:=.ae 20) none (.C g .aw) (.RG (.k9 (.RE .ad) rfl)) (.RW (s _) bV ((mr (q:=[j,y]) rfl).trans (mi K))) (λS=>.C .ad (.dO (.ai .bx (.a7 .ae)))) (λS=>nP _)
 |true=>
  rw[hd]at g r;refine i1 r.symm λq H hs=>?_;rw[H]at K;have I:EX (Ph (n+4)) Q [y,j] nY.bs.fW S (.aD [f,Sn (.ab m),Sn (.ag u),Sn (kz q),a] S):=.D g (.am (.a6 (by
    have h:=EV.Sj (y:=Ph (n+4)) (l:=Q) (c:=[y,j]) (S:=S) Y J (.ad (i:=2));rw[(Sv ((if_pos rfl).symm.trans (r.trans (congrArg (UA Int.ofNat) H))))]at h;exact h)) .aw)
  have U:EV (Ph (n+4)) [f,Sn (.ab m),Sn (.ag u),Sn (kz q),a] [y,j] nY.bs.bs.fW.d S (.aq (SW ((1:Int)<=q)&&SW ((q:Int)<=9))) S:=.and (.k9 (.RE .ad) rfl) (.RU .ae .ad .ae);have b:rD q=if SW ((1:Int)<=q)&&SW ((q:Int)<=9)then Sn q else none:=rfl
  cases hb:SW ((1:Int)<=q)&&SW ((q:Int)<=9)with
  |true=>
   rw[hb]at U b;rw[b]at K;exact P (k:=0) (v:=.ae q) q I (aa U b) (.iv (s _) bV ((mr (q:=[j,y]) rfl).trans (EV.P K))) (λS=>.D (.ad (congrArg (λz=>Sn (V.aq (Wy z))) b)) (.dO (.ai .bx (.a7 .ad)))) (λS=>nP _)
  |false=>
   rw[hb]at U b;rw[b]at K;exact P (k:=1) (v:=.ae 20) q I (aa U b) (.RW (s _) bV ((mr (q:=[j,y]) rfl).trans (mi K))) (λS=>.C (.ad (congrArg (λz=>Sn (V.aq (Wy z))) b)) (.dO (.ai .bx (.a7 .ae)))) (λS=>nP _)
noncomputable def rE:List Nat:=[97,116,110,99,122]
noncomputable def vS (σ:List O) (ti:Nat) (y:Option V) (τ:List O):List O:=σ++(.a9 (Sn (.ab ti))::.a9 y::.aX (rE.map λo=>.ag [o])::τ)
def ue (k):(vS q z y j)[q.length+k]?=(O.a9 (Sn (.ab z))::.a9 y::.aX (rE.map λo=>.ag [o])::j)[k]?:=bA q _ k
def xz:(vS q z y j)[q.length+2]?=Sn (.aX (rE.map λo=>.ag [o])):=ue 2
inductive N3 (n ti:Nat) (σ τ:List O) (o:Nat) (f:V) (l:bo):Prop where
 |mk {d_:List O} {z1 z2 z3 z4:Option V} (h:EX (Ph (n+4)) l [σ.length,σ.length+1] mx (vS σ ti (Sn (.ag [o])) τ) (.aD [Sn f,z1,z2,z3,z4] (vS σ ti (Sn (.ag [o])) d_)))
def N1 (T:iW z y D B G N) (l:cQ z Q j s Z) (Y:gF G=gF s) (i:xw (gF G)):N3 n y z w o (.ab j) [Sn (.ab j),b,m,c,t]:=by
 have C:kB (vS z y _ w) z.length _ y o:=⟨ue 0,ue 1⟩
 have x:iW (vS z y (Sn (.ag [o])) w) y D B G N:=T.A;have k:cQ (vS z y (Sn (.ag [o])) w) Q j s Z:=⟨aC l.aE,λg J=>⟨aC (l.dG g J).1,(l.dG g J).2⟩,l.fG,l.je,l.gO⟩
 cases d:kA (gF G) o with
 |none=>
  have h:=NX (n:=n+2) (b:=b) (j:=m) (w:=c) (p:=t) C x k (DB d) (DB (aT d Y));rw[vS,Ss]at h;exact⟨h⟩
 |some L=>
  refine aQ λG F=>?_;refine fh (i _ (NW _ d)) λM v e W=>?_;replace e:L=M++[v]:=e;subst e;obtain⟨k1,K⟩:=xy d;obtain⟨P,U⟩:=xy (aT d Y);have q:EV (Ph (n+4)) [Sn (.ab j),Sn (.ab P),m,c,t] [z.length,z.length+1] (.aM (.ad 1) (.ae (-1))) _ v _:=.aM .ad .ae (ud (k.dG _ (ku s U)).1);have a:∀{E I H},EX (Ph (n+4)) _ _ mx.bs.bs.fW.bs _ (.aD [Sn (.ab j),Sn (.ab P),E,I,H] (vS z y _ w))->N3 n y z w o (.ab j) [Sn (.ab j),b,m,c,t]:=λh=>⟨NY C x k K U W h ⟨_,_,rfl⟩⟩
  refine F ?_;rcases W with rfl|⟨u,A,rfl⟩
  ·exact a (.am (.C (.RG (.k9 (.RE q) rfl)) .aw) .aw)
  ·have hs:gx (.ag u) .az (.ae (1:Nat)) (vS z y (Sn (.ag [o])) w)=.aj (.ag (u.take 1)) (vS z y (Sn (.ag [o])) w):=by
    induction u using SD with
    |nil=>rfl
    |cons o r=>exact tY o r
   have f:EV _ _ _ mx.bs.bs.fW.bs.fW.d _ _ _:=.and (.k9 (.RE q) rfl) (.RN (.cT q .az .ae hs) .ag);cases p:u.take 1==[45]with
   |true=>
    replace f:=p▸f;exact a (.am (.C f .aw) .aw)
   |false=>
    replace f:=p▸f;refine yr (N0 C x K A p q) λ_ _ _ h'=>?_;exact a (.am (.D f h') .aw)
inductive Rc (n ti:Nat) (σ:List O) (st:List O->Bool) (os:List Nat) (y:Option V) (τ:List O) (l:bo):Prop where
 |mk {y':Option V} {l':bo} {d_:List O} (h:ew (λl a_=>Internal.aU (Ph (n+4)) av mx l [σ.length,σ.length+1] a_) (λrow l a_=>dZ (Ph (n+4)) av [.aW 1] row l [σ.length,σ.length+1] a_) st (os.map λo=>[.ag [o]]) l (vS σ ti y τ)=.aD l' (vS σ ti y' d_))
def N4 (T:iW q j D B G N) (e:cQ q t u m d) (s:gF G=gF m) (g:xw (gF G)) (l:∀y z,c (vS q j y z)=Sp) (f):∀{y} {z} {w k p r},Rc n j q c f y z [Sn (.ab u),w,k,p,r]:=by
 induction f with
 |nil=>exact⟨rfl⟩
 |cons o f b=>
  intro y z w k p r;obtain⟨v⟩:=N1 T e s g;obtain⟨i⟩:=b;exact⟨fP ((tS rfl (ue 1)).trans (congrArg (bC.aD _) (hU q _ 1 _))) v (l _ _) i⟩
def N5 (T:iW q z D B G N) (g:cQ q l j u f) (m:gF G=gF u) (k:xw (gF G)):∃p,Ph (n+5) 22 [.ab z,.ab j] q=.aj (.aq Sp) (q++p):=by
 obtain⟨h⟩:=N4 (c:=bn (Sn (q.length+2)) _) T g m k (λy p=>beq_iff_eq.mpr (xz.trans xz.symm)) rE;have r:ej av .cN (.ab (q.length+2)) (vS q z none [])=Sn (rE.map λo=>[.ag [o]],Sn (q.length+2)):=by
  delta ej;dsimp only;refine aa ?_ xz;rfl
 have d:Ph (n+5) 22 [.ab z,.ab j] q=gM (.aO _ _):=nN rfl (EX.am (EX.eG (by
   have:EV (Ph (n+4)) [Sn (.ab j),none,none,none,none] [q.length,q.length+1] uY.aA.fW.d (q++[.a9 (Sn (.ab z)),.a9 none]) _ _:=.dO (.ai .ag (.ai .ag (.ai .ag (.ai .ag (.ai .ag .ao)))));rw[Ss,Sr]at this;exact this) r (ja rfl _) h) (.A (.aO .aq)))
 exact⟨_,d⟩
noncomputable def pS (σ:List O) (td t j k:Nat) (c1 c2 c3:Option V) (τ:List O):List O:=σ.set t (.ah [.ab j,.ae k])++(.a9 (Sn (.ab td))::.a9 c1::.a9 c2::.a9 c3::τ)
def iX (q):(pS z y t j k w p r u)[z.length+q]?=(O.a9 (Sn (.ab y))::.a9 w::.a9 p::.a9 r::u)[q]?:=(congrArg (λn=>_[n+q]?) SS.symm).trans (bA _ _ q)
def rF (q):(pS z y t j k w p r u).set (z.length+q) o=z.set t (.ah [.ab j,.ae k])++(O.a9 (Sn (.ab y))::.a9 w::.a9 p::.a9 r::u).set q o:=(congrArg (λn=>(pS z y t j k w p r u).set (n+q) o) SS.symm).trans (hU _ _ q o)
def rG:pS z y t j k w p r u++q=pS z y t j k w p r (u++q):=Ss _ _ _
def rH:(pS q y t j k w p r z).length=q.length+(z.length+4):=by delta pS;refine aa (aa ?_ SS) Sr;rfl
def xA (T:eC z t j m L) (f:0<q) (e:cO (Ph (n+1)) l c g (pS z y t j k w p r u) [.ab t,.ae q] (pS z y t j k w p r u)):EV (Ph (n+1)) l c (.tr (.bR 16 g)) (pS z y t j k w p r u) (.ae (iV L k q)) (pS z y t j (k+1) w p r u):=by
 have s:Ph (n+1) 16 [.ab t,.ae q] (pS z y t j k w p r u)=.aj (.ae (iV L k q)) (pS z y t j (k+1) w p r u):=by
  refine(mh ⟨aC (dH T.fy),aC (eB T.bM.symm T.nE),T.bM⟩ f).trans (congrArg (R.aj _) ?_);delta pS;refine aa (aa ?_ (VG _)) (Ue _ _ (aT (bQ T.fy) SS.symm));rfl
 exact .RO (.bR e s) (rH.trans rH.symm)
noncomputable def jZ:List (List Nat):=nV.take 16
def N6:∀i,i<16->∃u,jZ[i]?=Sn u/\u∈nV:=by decide+kernel
def lv (S:List O) (v:V):Prop:=(∃u,u∈nV/\v=.ag u)∨∃b d,v=.ab b/\S[b]?=Sn (.a8 1 d)
def lv.RA {S} (h:lv S v) (g:∀(b d:Nat),S[b]?=Sn (.a8 1 d)->q[b]?=Sn (.a8 1 d)):lv q v:=h.imp id λ⟨b,d,z,y⟩=>⟨b,d,z,g b d y⟩
def N7:∀u∈nV,(∀c∈u,c<256)/\u.length<=20:=by decide+kernel
def lv.a {S} (h:lv S v):ip S S.length v:=h.imp (λ⟨u,z,q⟩=>⟨u,q,N7 u z⟩) λ⟨b,d,z,q⟩=>⟨b,d,z,q,bQ q⟩
noncomputable abbrev xB:Internal.S:=ox.aA.bs.bs.fW.fW
noncomputable def iJ (t a:Nat) (y2 y3:Option V):bo:=[Sn (.ab t),Sn (.ab a),y2,y3,none,none,none,none,none,none,none]
noncomputable abbrev gQ (σ:List O):List Nat:=[σ.length,σ.length+1,σ.length+2,σ.length+3]
noncomputable abbrev W3 (σ:List O):Option V:=Sn (.ab (σ.length+4))
noncomputable def pW (σ:List O) (td t j k:Nat) (c2:Option V) (vs:List V) (τ:List O):List O:=pS σ td t j k none c2 (W3 σ) (.ah vs::.ah (jZ.map .ag)::τ)
inductive N9 (n td t j:Nat) (σ:List O) (c2:Option V) (k:Nat) (vs:List V) (τ:List O) (y2 y3:Option V):Prop where
 |mk {k':Nat} {v x:V} {d_:List O} (h:EX (Ph (n+1)) (iJ t (σ.length+5) y2 y3) (gQ σ) xB (pW σ td t j k c2 vs τ) (.aD (iJ t (σ.length+5) y2 (Sn x)) (pW σ td t j k' c2 (vs++[v]) d_))) (hv:lv (pW σ td t j k' c2 (vs++[v]) d_) v) (ho:∀(b d:Nat),(pW σ td t j k c2 vs τ)[b]?=Sn (.a8 1 d)->(pW σ td t j k' c2 (vs++[v]) d_)[b]?=Sn (.a8 1 d))
def nZ:(pW q y t j k w z p)[q.length+4]?=Sn (.ah z):=iX 4
def xC:(pW q z t j k y r w).set (q.length+4) (.ah p)=pW q z t j k y p w:=rF 4
def xD:pW z y t j k w p r++q=pW z y t j k w p (r++q):=rG
def xE:(pW q y t j k w p z).length=q.length+(z.length+6):=rH
def N8 (T:eC y t j m L) (i:x.length<=100):N9 n w t j y s k x r Y N:=by
 refine aQ λG B=>?_;obtain⟨d,hd,A⟩:=jT (q:=19) (by decide);have H:EX (Ph (n+1)) (iJ t (y.length+5) Y N) (gQ y) xB.fW (pW y w t j k s x r) (.aD (iJ t (y.length+5) Y (Sn (.ae d))) (pW y w t j (k+1) s x r)):=.a6 (aT (xA T (by decide) (.ai .ad (.a7 .ae))) A);refine B ?_;let S:=pW y w t j (k+1) s x r
 have F:EV (Ph (n+1)) (iJ t (y.length+5) Y (Sn (.ae d))) (gQ y) (.aW 3) S (.ab (y.length+4)) S:=.aW (iX 3);have p:EV (Ph (n+1)) (iJ t (y.length+5) Y (Sn (.ae d))) (gQ y) (.tr (.aB .lB (.ad 3) (.ae 16))) S (.aq (SW ((d:Int)>16))) S:=.E .ad .ae rfl;have Z:EV (Ph (n+1)) (iJ t (y.length+5) Y (Sn (.ae d))) (gQ y) (.tr (.aB .bX (.ad 3) (.ae 16))) S (.aq (SW ((d:Int)<16))) S:=.bX .ad .ae;have U:∀(o) (W) (g) (b d:Nat),(pW y w t j k s x r)[b]?=Sn (.a8 1 d)->(pW y w t j o s W (r++g))[b]?=Sn (.a8 1 d):=λo W g b d M=>by
  refine aT ?_ xD;refine aC ?_;have e0:(pW y w t j k s x r).set t (.ah [.ab j,.ae o])=pW y w t j o s x r:=by
   delta pW;rewrite[pS];refine aa ?_ (Ue _ _ (aT (bQ T.fy) SS.symm));refine aa ?_ (VG _);rfl
  exact aT (cF (cF M (aC (dH T.fy))) (eB (SQ (SA (bQ T.fy) (SH _ 4))) nZ)) ((congrArg (λz:List O=>z.set _ _) e0).trans xC)
 have f:∀{u},u∈nV->EV (Ph (n+1)) (iJ t (y.length+5) Y (Sn (.ae d))) (gQ y) _ S (.ag u) S->N9 n w t j y s k x r Y N:=λ{u} K h2=>by
  have J:=EX.RH F h2 nZ (S8 i (by decide));replace J:=(xC)▸J;have E:=U (k+1) (x++[.ag u]) [];rw[SY]at E;exact⟨.am H (.am J .aw),.inl ⟨u,K,rfl⟩,E⟩
 by_cases a:d>16
 ·rw[show SW ((d:Int)>16)=Sp from decide_eq_true (Ul.mpr a)]at p
  have D:=EV.dw (k:=1) (y:=Ph (n+1)) (l:=iJ t (y.length+5) Y (Sn (.ae d))) (c:=gQ y) (.a7 (.bj (w:=S) .ao)) w3;rw[Ss,Sr]at D;have C:=EV.RH F (EV.D (e:=.aY (.tr (.aB .bX (.ad 3) (.ae 16))) (.aM (.ad 1) (.ad 3)) (.ag [56])) p D) nZ (aC nZ) (et (a5 (TU i 1) rfl));rw[xD,xC]at C;exact⟨.am H (.am (.aU (.R9 C (by
    refine nG nZ nZ (beq_false_of_ne λz=>?_) ?_
    ·have:=congrArg US (O.ah.inj z)
     rw[Sr]at this;exact SQ (Td _) this
    ·exact Vn.mpr ⟨.ab (S.length+1),Ve _ (.head _),λz=>TN.mpr (Tx _) (of_decide_eq_true z)⟩))) .aw),.inr ⟨_,_,rfl,(by
      exact aT ((congrArg (λq=>_[q+1]?) (xE.trans xE.symm).symm).trans (bA (pW y w t j (k+1) s (x++[.ab (S.length+1)]) r) _ 1)) xD)⟩,U _ _ _⟩
 ·replace p:=(show SW ((d:Int)>16)=Su from decide_eq_false λz=>a (Ul.mp z))▸p
  by_cases P:d<16
  ·replace Z:=(show SW ((d:Int)<16)=Sp from decide_eq_true (Ul.mpr P))▸Z
   refine aP (N6 d P) λu K I=>?_;have hg:(jZ.map V.ag)[d]?=Sn (.ag u):=by refine aa ?_ Ut;refine aa ?_ K;rfl
   exact f I (.C p (.D Z (jd (iX 5) hg .ad .ad)))
  ·replace Z:=(show SW ((d:Int)<16)=Su from decide_eq_false λz=>P (Ul.mp z))▸Z
   exact f (by decide+kernel) (.C p (.C Z .ag))
noncomputable def lw:List (List Nat)->gv
 |[]=>.ao
 |w::r=>.ai (.ag w) (lw r)
def cO.b (q):cO y l c (lw q) z (q.map .ag) z:=by
 induction q with
 |nil=>exact .ao
 |cons w q j=>exact .ai .ag j
inductive Re (n td t j:Nat) (σ:List O) (c2:Option V) (st:List O->Bool) (rows:List Nat) (k:Nat) (vs:List V) (τ:List O) (y2 y3:Option V):Prop where
 |mk {k':Nat} {k_:List V} {d_:List O} {ZQ ZR:Option V} (h:ew (λl a_=>Internal.aU (Ph (n+1)) av xB l (gQ σ) a_) (λrow l a_=>dZ (Ph (n+1)) av [.ad 2] row l (gQ σ) a_) st (rows.map λ(i:Nat)=>[.ae i]) (iJ t (σ.length+5) y2 y3) (pW σ td t j k c2 vs τ)=.aD (iJ t (σ.length+5) ZQ ZR) (pW σ td t j k' c2 k_ d_)) (hv:∀v∈k_,lv (pW σ td t j k' c2 k_ d_) v) (hl:k_.length=vs.length+rows.length)
def Oa (T:eC r t j m L) (u:∀S,f S=Sp) (q):∀{k} {z} {p} {g l},(∀v∈z,lv (pW r c t j k e z p) v)->z.length+q.length<=100->Re n c t j r e f q k z p g l:=by
 induction q with
 |nil=>exact λh Y=>⟨rfl,h,rfl⟩
 |cons i q s=>
  intro k z p g l h d;obtain⟨o,b,x⟩:=N8 T (Sq (SH _ _) d);obtain⟨a,Q,Z⟩:=s (λv w=>by
    rcases Tn.mp w with w|w
    ·exact(h v w).RA x
    ·exact SP.mp w▸b) (aa (aa (aa d (TH _ q.length)) (TK _ _ _)) Sr)
  refine⟨fP (mc rfl) o (u _) a,Q,Z.trans ?_⟩;refine aa (aa ?_ (TK _ _ _)) Sr;refine aa ?_ (TH _ q.length);rfl
noncomputable def iu (n:Nat):List V:=(Te n).map λ(k:Nat)=>.ae ((30+3*k:Nat):Int)
structure eF (S:List O) (N td pa wl i m:Nat) (es:Es) (vs:List V):Prop where
 rI:S[N]?=Sn (.a9 (Sn (.ab td)))
 uf:S[N+1]?=Sn (.a9 (Sn (.ab pa)))
 rJ:S[N+2]?=Sn (.a9 (Sn (.bW (454+i))))
 ug:S[N+3]?=Sn (.a9 (Sn (.ab wl)))
 bg:S[wl]?=Sn (.ah vs)
 bU:S[pa]?=Sn (.ah (iu vs.length))
 bZ:dW S td m es
 dF:∀v∈vs,lv S v
 bX:i<6/\m<64/\vs.length<=6
def eF.A {S} (h:eF S N y q z i m j F):eF (S++G) N y q z i m j F:=⟨aC h.rI,aC h.uf,aC h.rJ,aC h.ug,aC h.bg,aC h.bU,h.bZ.A,λv H=>(h.dF v H).RA λI I=>aC,h.bX⟩
inductive Rf (n td t j m:Nat) (es:Es) (σ:List O):Prop where
 |mk {i k pa:Nat} {vs:List V} {τ:List O} {y2 y3:Option V} (h:∀r,EX (Ph (n+1)) (iJ t (σ.length+5) y2 y3) (gQ σ) ox.aA.bs.bs.bs.bs (σ.set t (.ah [.ab j,.ae k])++τ) r->EX (Ph (n+1)) [Sn (.ab t),none,none,none,none,none,none,none,none,none,none] (gQ σ) ox.aA (σ++[.a9 (Sn (.ab td)),.a9 none,.a9 none,.a9 none]) r)
  (hc:eF (σ.set t (.ah [.ab j,.ae k])++τ) σ.length td pa (σ.length+4) i m es vs)
theorem Ob:∀i,i<6->∃q,av 460=Sn (.aX q)/\q[i]?=Sn (.bW (454+i))
 |i,h=>⟨_,rfl,(by decide+kernel:∀i,i<6->[V.bW 454,.bW 455,.bW 456,.bW 457,.bW 458,.bW 459][i]?=some (.bW (454+i))) i h⟩
def Oc {k:Nat} (h:k<=100):EV z [y,Sn (.ae k)] c (.aV .bB (.ae 30) (.aV .ek (.ae 3) (.ad 1))) q (.ae ((30+3*k:Nat):Int)) q:=.RA .ae (.R0 .ae .ad (by decide) (S8 h (by decide))) rfl
def Od (A:eC y t j q L) (T:dW y w m N) (hm:m<64):Rf n w t j m N y:=by
 refine aQ λG kG=>?_;obtain⟨i,I,F⟩:=jT (q:=6) (by decide);obtain⟨d,M,C⟩:=jT (q:=7) (by decide);have E:y++[.a9 (Sn (.ab w)),.a9 none,.a9 none,.a9 none]=pS y w t j q none none none []:=by delta pS;exact aa rfl (pi A.fy)
 refine aP (Ob i I) λgl g1 g2=>?_;refine kG ?_;let u:Option V:=Sn (.bW (454+i))
 let Y:bo:=[Sn (.ab t),none,none,none,none,none,none,none,none,none,none]
 set_option tactic.hygienic true in obtain⟨h,hv,H⟩:=Oa (z:=[]) A (λK=>rfl) (Te d) (λK h=>nomatch h) (by refine aa ?_ T6;exact a5 (SF (Tu M) 0) rfl)
 rename_i Z s Q P U;rw[T6]at H;have J:s.length<=6:=Sq (To H) (Sq (To (Ud d)) (V9 M));let W:=(pW y w t j Z u s Q).length
 have s4:EX (Ph (n+1)) (iJ t (y.length+5) P U) (gQ y) ox.aA.bs.bs.bs.fW (pW y w t j Z u s Q) (.aD (iJ t (y.length+5) P U) (pS y w t j Z (Sn (.ab W)) u (W3 y) (.ah s::.ah (jZ.map .ag)::Q++[.ah (iu s.length)]))):=by
  have hc:=EV.RI (N:=Ph (n+1)) (l:=iJ t (y.length+5) P U) (c:=gQ y) (J:=[]) (q:=[]) (z:=pW y w t j Z u s Q) (F:=pW y w t j Z u s Q) (y:=.gU) (G:=(Te s.length).map λ(k:Nat)=>.ae k) (I:=none) (p:=λK=>Sp) (e:=λv=>match v with| .ae k=>.ae (30+3*k)|v=>v) (M:=.aV .bB (.ae 30) (.aV .ek (.ae 3) (.ad 1))) (K:=.aq Sp) (L:=.tr (.ba .bd (.aW 3))) (v:=.ae s.length)
   (.RD (.aW (iX 3)) nZ) ((mp (Us (a5 J rfl))).trans (congrArg (λz=>Sn (z,none)) (Tp (f:=λ(k:Nat)=>V.ae k) (g:=λx=>[x]) (l:=Te s.length)).symm)) (λK h=>nomatch h) rfl (λx hx D=>.aq) (λx hx K D=>by
    refine cW hx λk hk e0=>?_;subst e0;exact Oc (Sq (Tu (UD.mp hk)) (Sq J (by decide)))) (by refine aa ?_ (Sx _);refine aa ?_ T6;exact Sq J (by decide))
  rw[mf,Tp]at hc;exact(EX.H (i:=1) (hc.trans (congrArg (λz=>R.aj (V.ab W) (pW y w t j Z u s Q++[O.ah z])) (rfl:_=iu s.length))) rfl (aC (iX 1))).trans (congrArg (bC.aD _) (by delta pW;refine aa ?_ rG;exact rF 1))
 have hH:∀{a} {o:O},(pW y w t j Z u s Q)[a]?=o->a≠y.length+1->(pS y w t j Z (Sn (.ab W)) u (W3 y) (.ah s::.ah (jZ.map .ag)::Q++[.ah (iu s.length)]))[a]?=o:=λ{a o} h hn=>by
  have e:(pW y w t j Z u s Q++[O.ah (iu s.length)]).set (y.length+1) (O.a9 (Sn (.ab W)))=pS y w t j Z (Sn (.ab W)) u (W3 y) (.ah s::.ah (jZ.map .ag)::Q++[.ah (iu s.length)]):=by delta pW;refine aa ?_ rG;exact rF 1
  refine aT ?_ e;exact eB hn.symm (aC h)
 refine⟨(λr hr=>E▸.am ((EX.H (.aM .cr (F▸xA A (by decide) (.ai .ad (.a7 .ae))) (C8 g1 g2)) rfl (iX 2)).trans (congrArg (bC.aD _) (rF 2))) (.am (by
   have e2:cO (Ph (n+1)) Y (gQ y) (.ai (.bj .ao) (.ai (.bj (lw jZ)) .ao)) (pS y w t j (q+1) none u none []) [.ab (y.length+4),.ab (y.length+5)] (pS y w t j (q+1) none u none [.ah [],.ah (jZ.map .ag)]):=by
    have:=EV.bj (y:=Ph (n+1)) (l:=Y) (c:=gQ y) (w:=pS y w t j (q+1) none u none [.ah []]) (cO.b jZ);rw[rH,rG]at this;exact .ai (by
      have:EV (Ph (n+1)) Y (gQ y) (.bj .ao) (pS y w t j (q+1) none u none []) _ _:=.bj .ao;rw[rH,rG]at this;exact this) (.a7 this)
   exact w2 e2 ((jv (((EX.H (i:=3) .cr rfl (iX 3):Internal.aU (Ph (n+1)) av _ Y (gQ y) (pS y w t j (q+1) none u none [.ah [],.ah (jZ.map .ag)])=_)).trans (congrArg (bC.aD _) (rF 3)))).trans rfl)) (.am (.eG (C▸xA A (by decide) (.ai .ad (.a7 .ae))) (mp (Us (Sq (Tu M) (by decide)))) (ja rfl _) h) (.am s4 hr)))),⟨iX 0,iX 1,iX 2,iX 3,iX 4,?_,⟨aC (cF T.aE A.fy),λe f=>((T.a8 e f).B A.fy).A,T.kq⟩,λv B=>(hv v B).RA λb d hb=>hH hb (fQ (iX 1) hb),I,hm,J⟩⟩
 have e:W=y.length+(Q.length+6):=xE;refine aa ?_ e;exact(iX (Q.length+6)).trans (bA (O.ah s::.ah (jZ.map .ag)::Q) [.ah (iu s.length)] 0)
structure kC (F:FD):Prop where
 uh:∀g∈F,g.2≠[]/\∀v∈g.2,nX v
 ca:(F.map (·.1)).Nodup
def Oe (F) (h:g∈dC F o v):g∈F∨∃q,g=(o,q++[v])/\(q=[]∨(o,q)∈F):=by
 induction F with
 |nil=>exact .inr ⟨[],SP.mp h,.inl rfl⟩
 |cons z F y=>
  by_cases e:z.1=o
  ·rw[tU,if_pos e]at h
   rcases Tq.mp h with h|h
   ·exact .inr ⟨z.2,h,.inr (aT (.head _) e)⟩
   ·exact .inl (.tail _ h)
  ·rw[tU,if_neg e]at h
   rcases Tq.mp h with h|h
   ·exact .inl (aa (.head _) h)
   ·exact(y h).imp (.tail _) λ⟨q,j,w⟩=>⟨q,j,w.imp id (.tail _)⟩
def Of (F):(dC F o v).map (·.1)=if o∈F.map (·.1)then F.map (·.1)else F.map (·.1)++[o]:=by
 induction F with
 |nil=>rfl
 |cons g F y=>
  by_cases e:g.1=o
  ·rewrite[tU];refine aS ?_ (if_pos e) (if_pos (aT (.head _) e))
   show o::_=g.1::_;exact aa rfl e
  ·rewrite[tU];refine aS ?_ Tz (if_neg e);refine aa (aa ?_ y) Tz
   by_cases h:o∈F.map (·.1)
   ·exact aa ((if_pos (.tail _ h)).symm) (if_pos h)
   ·refine aa (aa ?_ (if_neg λz=>(Tq.mp z).elim (λq=>e q.symm) h)) (if_neg h);rfl
def kC.dC {v:V} {o:Nat} {F:FD} (h:kC F) (hv:nX v):kC (dC F o v):=by
 refine⟨λg hg=>?_,?_⟩
 ·rcases Oe F hg with hg|⟨vs,rfl,Fn⟩
  ·exact h.uh g hg
  ·refine⟨(λz=>nomatch(List.append_eq_nil_iff.mp z).2),λu hu=>?_⟩
   rcases Tn.mp hu with hu|hu
   ·rcases Fn with rfl|Fn
    ·exact nomatch hu
    ·exact(h.uh _ Fn).2 u hu
   ·exact SP.mp hu▸hv
 ·refine aa ?_ (Of _)
  by_cases e:o∈F.map (·.1)
  ·refine aa ?_ (if_pos e);exact h.ca
  ·refine aa ?_ (if_neg e)
   exact W4.mpr ⟨h.ca,UG.mpr ⟨List.not_mem_nil,UY⟩,λa ha b hb z=>e (SP.mp hb▸z▸ha)⟩
def pG (ws:List V):Prop:=∀u,V.ag u∈ws->u∈kx
def Og (L):∀{z} {F},L∈kx->pG z->kC F->iH i L z F=Sn p->kC p.1/\pG p.2:=by
 induction L with
 |nil=>exact λc y j h=>by replace h:=Sv h;subst h;exact⟨j,y⟩
 |cons o r k=>
  intro z F g y j h;have w:r∈kx:=(uc.1 _ g).2.2;have q:tV o r z F _ _=p:=h;generalize jC (d9 i) o=l at q;induction l using V.casesOn with
  |aq b=>
   induction b using SX with
   |false=>exact k w y (j.dC (.inl rfl)) q
   |true=>
    induction r using SD with
    |cons e t=>replace q:=Sv q;subst q;exact⟨j.dC (.inr ⟨_,w,rfl⟩),y⟩
    |nil=>
     induction z using SD with
     |nil=>exact aG q
     |cons u z=>
      induction u using V.casesOn with
      |ag u=>replace q:=Sv q;subst q;exact⟨j.dC (.inr ⟨u,y u (.head _),rfl⟩),λf m=>y f (.tail _ m)⟩
      |_=>exact aG q
  |_=>exact aG q
def Oh (f):∀{y} {F j} {q},pG y->kC F->gP i f y F=.aj j q->kC j/\pG q:=by
 induction f with
 |zero=>exact λw k h=>by cases h;exact⟨k,w⟩
 |succ f t=>
  intro y F j q w k h;induction y using SD with
  |nil=>cases h;exact⟨k,w⟩
  |cons v y=>
   have r:pG y:=λu g=>w u (.tail _ g);have z:(if nR v then(if jb v==[45,45]then eX.aj F y else eX.B _ (λj q=>gP i f q j) _)else .aj F (v::y))=.aj j q:=h;cases l:nR v with
   |false=>
    replace z:=l▸z;cases z;exact⟨k,w⟩
   |true=>
    rw[l,if_pos rfl]at z;cases e:jb v==[45,45]with
    |true=>
     replace z:=e▸z;cases z;exact⟨k,r⟩
    |false=>
     rw[e,if_neg (by decide)]at z;induction v using V.casesOn with
     |ag u=>
      cases m:iH i _ y F with
      |none=>replace z:=m▸z;cases z
      |some p=>
       replace z:=m▸z;have c:u.drop 1∈kx:=aa ((uc.1 u (w u (.head _))).2.2) List.drop_one;obtain⟨d,s⟩:=Og _ c r k m;exact t s d z
     |_=>exact bv l
def Oi (u:pG y) (h:nT i y=.aj j z):kC j:=by
 unfold nT at h;cases p:gP i _ y []with
 |ak k=>replace h:=p▸h;cases h
 |aj F w=>
  replace h:=p▸h;have q:(if iI i w.length then eX.ak _ else .aj F w)=.aj j z:=h;cases r:iI i w.length with
  |true=>replace q:=r▸q;cases q
  |false=>
   replace q:=r▸q;cases q;exact(Oh _ u (⟨λg h=>(nomatch h),UY⟩:kC []) p).1
def Oj {S} (q) (h:∀v∈q,nX v):fC (cV S (n+1)) q q=Sp:=by
 induction q with
 |nil=>rfl
 |cons v q z=>
  have y:cV S (n+1) v v=Sp:=by
   rcases h v (.head _)with rfl|⟨u,-,rfl⟩
   ·rfl
   ·exact xk u
  show(match cV S (n+1) v v,fC _ q q with|some a,Sn b=>Sn (a&&b)|_,_=>none)=_;refine aS ?_ (z λu j=>h u (.tail _ j)) y;rfl
def Ok (F) (h:(F.map (·.1)).Nodup) (q:g∈F):kA F g.1=g.2:=by
 induction F with
 |nil=>exact nomatch q
 |cons y F j=>
  obtain⟨w,k⟩:=UG.mp h;rcases Tq.mp q with rfl|q
  ·exact if_pos rfl
  ·exact(if_neg λz:y.1=g.1=>w (by show y.1∈_;exact aa (Tv q) z)).trans (j k q)
def Ol {S} (f:cQ S B D G N) (m:cQ S s p q o) (c:gF G=gF q) (z:kC (gF G)) (b:D≠p) (r:∀g∈G,∀v∈q,g.2.1≠v.2.1):dY av .bp (.ab D) (.ab p) S=Sp:=by
 have n:(dJ G).length=(dJ q).length:=by
  have:=congrArg US c;rw[gF,gF,Sx,Sx]at this;delta dJ;exact aS this (Sx _) (Sx _)
 refine(if_neg b).trans ?_;refine aS ?_ m.aE f.aE;dsimp only;refine aS ?_ (jV _) (jV _);refine(if_pos rfl).trans ((if_pos n).trans ?_);have l:∀y,(∀g∈y,g∈G)->mL (cV S gw) (dJ q) (dJ y)=Sp:=λy=>by
  induction y with
  |nil=>exact λi=>rfl
  |cons g y x=>
   intro e;have j:=e g (.head _);have t:_∈gF G:=Tv j;obtain⟨k,d⟩:=xy (aT (Ok _ z.ca t) c);have w:=ku q d;have a:(dJ q).lookup _=Sn (.ab k):=(pu q).trans (congrArg _ d);have Q:cV S gw (.ab g.2.1) (.ab k)=Sp:=(if_neg (r g j _ w)).trans (aS ((if_pos rfl).trans (Oj _ (z.uh _ t).2)) ((m.dG _ w).1) ((f.dG g j).1));show(match(dJ q).lookup _ with|none=>Sn Su|some u=>_)=_;refine aa ?_ a;dsimp only;refine aS ?_ (x λg j=>e g (.tail _ j)) Q;rfl
 exact l G λi h=>h
noncomputable def lx (S:List O) (i:Nat) (vs:List V):List O:=S++[.ah [.ag (bw i)],.ah (.ag (bw i)::vs),.ah [.ae 20],.ah (.ae 20::iu vs.length),.a8 0 (S.length+5),.aL [(1,.ae 4),(2,.ab (S.length+1)),(3,.ab (S.length+3))]]
def xF:(iu n).length=n:=by delta iu;exact aa T6 (Sx _)
def DD {S} (h:eF S N y j k i m r q):Dp (lx S i q) (S.length+4) (S.length+1) (S.length+3) (.ae 4) (bw i) q (.ae 20) (iu q.length)where
 a8:=⟨S.length+5,bA S _ 4,bA S _ 5⟩
 bg:=bA S _ 1
 bU:=bA S _ 3
 bd:=⟨xF.symm,a5 h.bX.2.2 rfl⟩
 dF v z:=by
  rcases Tq.mp z with rfl|z
  ·exact .inl ⟨_,rfl,(by decide+kernel:∀i,i<6->(∀c∈bw i,c<256)/\(bw i).length<=20) i h.bX.1⟩
  ·exact((h.dF v z).RA λu u=>aC).a
def DE {S} (h:eF S N y j w i m p z):cO (Ph (n+1)) [] [N+1,N+2,N,N+3] (.ai (.dw 0 (.ai (.ae 4) (.ai (.aV .bB (.bj (.ai (.aM (.aW 1) (.ae 0)) .ao)) (.aW 3)) (.ai (.aV .bB (.bj (.ai (.ae 20) .ao)) (.aW 0)) .ao)))) (.ai (.aW 2) .ao)) S [.ab (S.length+4),.ab y] (lx S i z):=by
 have q:∀{k},k<=6->Internal.cR (1+k)=Sp:=λe=>et (a5 (SF e 1) rfl);have r:=EV.Sa (y:=Ph (n+1)) (l:=[]) (c:=[N+1,N+2,N,N+3]) (.bj (.a7 (.RF (k:=0) h.bX.1 (.aW (i:=1) h.rJ) rfl))) (.aW (i:=3) (aC h.ug)) bV (aC h.bg) (q h.bX.2.2);rw[Ss,Sr]at r;let t:=S++[.ah [.ag (bw i)],.ah (.ag (bw i)::z)]
 have u:eF t N y j w i m p z:=h.A;have g:=EV.Sa (y:=Ph (n+1)) (l:=[]) (c:=[N+1,N+2,N,N+3]) (.bj (.a7 (.ae (i:=20)))) (.aW (i:=0) (aC u.uf)) bV (aC u.bU) (q (aa h.bX.2.2 xF));rw[Ss,Sr,Sr,Ss]at g;have f:=EV.dw (k:=0) (.ai (.ae (i:=4)) (.ai r (.a7 g))) re;rw[Ss,Sr,Ss]at f;exact .ai f (.a7 (.aW (aC h.rI)))
def jE (q y:List z):q.length<=(q++y).length:=aa (SH _ _) Sr
inductive xH (n N i i':Nat) (S:List O) (vs:List V) (R:eX) (l:bo):Prop where
 |ak {A:List O} {k:Nat} {pv:V} (h:EV (Ph (n+5)) l [N,N+1,N+2,N+3] (.iv (.cq 2 [1,2,0,3])) S (.ab (S++A).length) (S++A++[.aX [.bx 1,pv]])) (e:R=.ak k) (hp:(V.ae 20::iu vs.length)[vs.length+1-k]?=Sn pv)
 |aj {A:List O} {G:GD} {N' B D ti at':Nat} {e_ y_:List V} (h:EV (Ph (n+5)) l [N,N+1,N+2,N+3] (.iv (.cq 2 [1,2,0,3])) S (.ab (S++A).length) (S++A++[.aX [.bx 0,.ab ti]])) (t:xr (S++A) ti (.ag (bw i')) (.ae 20) (.ae 4) D e_ y_) (f:cQ (S++A) B D G N') (hB:S.length<=B/\S.length<=D/\S.length<=ti) (hA:bP (V.ag (bw i)::vs) at' e_) (hP:bP (V.ae 20::iu vs.length) at' y_) (e:R=.aj (gF G) e_)
def xG {S} (h:eF S N v x a i m Q p) (W:iG (cG m) (bw i)=Sn u) (f:u∈cG m):xH n N i u S p (nT u p) l:=by
 let y:=S++[.cq 2 [N+1,N+2,N,N+3]]
 have c:eF y N v x a i m Q p:=h.A;have j:EV (Ph (n+5)) l [N,N+1,N+2,N+3] (.cq 2 [1,2,0,3]) S _ y:=.cq rfl;have r:=DE (n:=n+3) c;have w:∀{g},(∃Z,g=lx y i p++Z)->∃A,g=S++A:=λ⟨Z,e⟩=>by
  refine aa ?_ e;refine aa (aa ?_ (Ss _ _ _)) (Ss _ _ _);exact⟨_,rfl⟩
 have q:S.length<=(lx y i p).length:=Sq (jE S _) (jE y _);have z:∀{R},ev _ av yR [] [N+1,N+2,N,N+3] y=R->Ph (n+5) (1000+2) _ y=R:=λe=>(mr rfl).trans e;induction Ny c.bZ.A h.bX.2.1 W f (DD c)using Nz.casesOn with
 |@ak g k C t d Y s o=>
  refine aQ λG K=>?_;obtain⟨A,rfl⟩:=w o;exact K (.ak (.RW j bV (z (mi (EV.RV r t)))) d s)
 |@aj g G E B D P U L t d Y s o F M J=>
  obtain⟨A,rfl⟩:=w M;exact .aj (.iv j bV (z (EV.RM (.bR r t) (decide_eq_false (TN.mpr (jE y _)))))) d Y ⟨Sq q J.1,Sq q J.2,q⟩ s o F
def Om {S} (h:eF S N j r u i m w z) (c:iG (cG m) (bw i)=none):∃A,EV (Ph (n+5)) l [N,N+1,N+2,N+3] (.iv (.cq 2 [1,2,0,3])) S (.ab (S++A).length) (S++A++[.aX [.bx 1,.ae 20]]):=by
 let q:=S++[.cq 2 [N+1,N+2,N,N+3]]
 have k:eF q N j r u i m w z:=h.A;have C:=DD k;obtain⟨g,f⟩:∃g,Ph (n+3) 11 _ (lx q i z)=Db w _ (.ae 20) _:=xh (k.bZ.A) h.bX.2.1;obtain⟨A,e⟩:∃A,lx q i z++g=S++A:=by delta lx;exact aa (aa ⟨_,rfl⟩ (Ss _ _ _)) (Ss _ _ _)
 rw[c,e]at f;have t:ev (Ph (n+3)) av jK.aA.fW.d (rB ((q).length+4) j none none none none) [] (lx q i z)=.bh (.ae 20) _:=mi (EV.RV (.ai .ad (.ai (jd C.bg rfl (.at .ad C.a8) .ae) (.a7 (jd C.bU rfl (.at .ad C.a8) .ae)))) f);have s:Ph (n+4) 13 [.ab (q.length+4),.ab j] (lx q i z)=gM _:=cj rfl (.B (.P t));exact⟨A,(EV.RW (.cq rfl) bV ((mr rfl).trans (mi (EV.RV (DE k) s))))⟩
noncomputable abbrev rK:Internal.S:=ox.aA.bs.bs.bs.bs
noncomputable abbrev t7:Internal.S:=rK.bs.bs
noncomputable abbrev On:Internal.S:=t7.bs
noncomputable abbrev xI:Internal.S:=On.bs
noncomputable abbrev Oo:Internal.S:=xI.bs
noncomputable def gR (t a:Nat) (y2 y3 y4 y5 y6:Option V):bo:=[Sn (.ab t),Sn (.ab a),y2,y3,y4,y5,y6,none,none,none,none]
noncomputable abbrev iK (N:Nat):List Nat:=[N,N+1,N+2,N+3]
def eF.a {S} (h:eF S N q z y i m F G):EV H l (iK N) (.aM (.aW 2) (.ae 0)) S (.ag (bw i)) S:=.RF h.bX.1 (.aW h.rJ) rfl
def eF.in {S} (h:eF S N q z y i m F G):EV H l (iK N) (.tr (.aB .d' (.aM (.aW 2) (.ae 0)) (.aW 0))) S (.aq (gt (cG m) (bw i))) S:= h.bZ.in h.a (.aW h.rI)
def eF.gh {S} (h:eF S N y j F i m q G):EV H l (iK N) (.tr (.aB .gh (.aM (.aW 2) (.ae 0)) (.aW 0))) S (.aq (!gt (cG m) (bw i))) S:=.E h.a (.aW h.rI) ((tZ h.bZ.aE (ri q)).trans (congrArg (λz=>Sn !z) (aT (Da q) h.bZ.kq)))
def rL (h:q[a]?=Sn (.aX [u,v])) (r:EV j l c p q (.ab a) q):EV j l c (.aM p (.ae 0)) q u q/\EV j l c (.aM p (.ae 1)) q v q:=by
 have z:∀k w,[u,v][k]?=Sn w->jG av (.ab a) (.ae (k:Nat)) q=.aj w q:=λk w g=>by
  show(match q[a]? with|some (.ah y)=>(match gV k y.length with|some i=>dh y[i]? q|none=>R.ak)|some (.aX y)=>(match gV k y.length with|some i=>dh y[i]? q|none=>.ak)|some (.aE f)=>if eJ _ f then dh _ q else .ak|_=>.ak)=_;refine aa ?_ h;dsimp only;exact aa (ma g) (tE (bQ g))
 exact⟨.aM r .ae (z 0 u rfl),.aM r .ae (z 1 v rfl)⟩
def DF {S} (p:S[y]?=Sn (.aX [.bx 1,j])) (w:∃z,j=.ae z) (k:y<(S++A).length):EX r (gR t a u g (Sn (.ab y)) l (Sn (.ab (S++A).length))) c xI.fW (S++A++[.aX [.bx 1,j]]) (.aO (.aq Sp) (S++A++[.aX [.bx 1,j]])):=by
 obtain⟨z,rfl⟩:=w;have q:(S++A++[.aX [.bx 1,.ae z]])[y]?=_:=aC (aC p);exact .D (.E (rL q .ad).1 .bx rfl) (.A (.aO (.E .ad .ad ((rt bV q (TB k)).trans (tQ (nP z))))))
def Op {k:Nat} (h:(V.ae 20::iu n)[k]?=Sn q):∃z,q=.ae z:=by
 rcases Tq.mp (Th h)with rfl|h
 ·exact⟨_,rfl⟩
 ·refine cW h λk _ e0=>?_;subst e0;exact⟨_,rfl⟩
def Oq {S} (h:eF S N e d s i m o b) (U:gt (cG m) (bw i)=Su) (W:S[z]?=Sn (.aX [.bx 1,.ae 20])):∃w,EX (Ph (n+5)) (gR t a y j (Sn (.ab z)) none none) (iK N) t7 S (.aO (.aq Sp) (S++w)):=by
 refine cZ (xj m h.bX.2.1 (bw i) (Ve _ (Tv (UD.mpr h.bX.1)))) λx K=>?_;have q:∀{A} {l},EV (Ph (n+5)) l (iK N) (.tr (.aB .hZ (.tr (.bR 18 (.ai (.aW 0) (.ai (.aM (.aW 2) (.ae 0)) .ao)))) .az)) (S++A) _ (S++A):=λ{A l}=>by
  have Q:eF (S++A) N e d s i m o b:=h.A;obtain⟨w,P⟩:=Dd Q.bZ;rw[<-(beq_iff_eq.mp x)]at P;exact .RE (.RR (.ai (.aW Q.rI) (.a7 Q.a)) P (by cases iG (cG m) (bw i)<;>rfl))
 have k:∀{A} {l},EV (Ph (n+5)) l (iK N) _ (S++A) (.aq Sp) (S++A):=λ{A l}=>.k9 (h.A:eF (S++A) N e d s i m o b).gh (congrArg not U);cases p:iG (cG m) (bw i)with
 |none=>
  obtain⟨A,Z⟩:=Om h p;have r:=q (A:=A++[.aX [.bx 1,.ae 20]]) (l:=gR t a y j (Sn (.ab z)) none (Sn (.ab (S++A).length)));rw[p,<-Ss]at r;have g:=k (A:=A++[.aX [.bx 1,.ae 20]]) (l:=gR t a y j (Sn (.ab z)) none (Sn (.ab (S++A).length)));rw[<-Ss]at g;have f:EX (Ph (n+5)) (gR t a y j (Sn (.ab z)) none none) (iK N) t7 S _:=.am (.a6 Z) (.am (.C (.and g r) .aw) (.A (DF W ⟨_,rfl⟩ (SA (bQ W) (jE _ _)))));rw[Ss]at f
  exact⟨_,f⟩
 |some F=>
  rw[p]at K;have c:∀{A} {u},EV (Ph (n+5)) (gR t a y j (Sn (.ab z)) none none) (iK N) (.iv (.cq 2 [1,2,0,3])) S (.ab (S++A).length) (S++A++[.aX u])->∃w,EX (Ph (n+5)) (gR t a y j (Sn (.ab z)) none none) (iK N) t7 S (.aO (.aq Sp) (S++w)):=λ{A u} Z=>by
   have r:=q (A:=A++[.aX u]) (l:=gR t a y j (Sn (.ab z)) none (Sn (.ab (S++A).length)));rw[p,<-Ss]at r;have g:=k (A:=A++[.aX u]) (l:=gR t a y j (Sn (.ab z)) none (Sn (.ab (S++A).length)));rw[<-Ss]at g;have f:EX (Ph (n+5)) (gR t a y j (Sn (.ab z)) none none) (iK N) t7 S (.aO (.aq Sp) (S++A++[.aX u])):=.am (.a6 Z) (.A (.D (.and g r) (.A (.aO .aq))));rw[Ss]at f;exact⟨_,f⟩
  induction xG h p (Vd.mp K)using xH.casesOn with
  |ak J G L=>exact c J
  |aj J G L M C E T=>exact c J
def rM (v:V):Prop:=∀S n,cV S (n+1) v v=Sn Sp
def rN {S} (q) (h:∀v∈q,rM v):fC (cV S (n+1)) q q=Sp:=by
 induction q with
 |nil=>rfl
 |cons v q z=>
  show(match cV S (n+1) v v,fC _ q q with|some a,Sn b=>Sn (a&&b)|_,_=>none)=_;refine aS ?_ (z λu y=>h u (.tail _ y)) (h v (.head _) S n);rfl
def DG {S} (z:S[i]?=Sn (.ah q)) (y:S[j]?=Sn (.ah q)) (w:i≠j) (h:∀v∈q,rM v):dY av .bM (.ab i) (.ab j) S=Su:=congrArg (UA not) ((lh z y w).trans ((if_pos rfl).trans (rN q h)))
def ui (w):rM (.ag w):=λq q=>xk w
def uj (k):rM (.ae k):=λq q=>nP k
noncomputable def n0 (v:V):V:=if tW v then v else .bx 2
def EV.Sf {S} (k:EV z l c r S (.ab i) S) (u:S[i]?=Sn (.ah y)) (f:∀v∈y,ip S B v) (t:y.length<=1000):EV z l c (.dp (.aY (.tr (.ba .jg (.ad 1))) (.ad 1) (.bx 2)) (.aq Sp) .cN r 2 [1] []) S (.ab S.length) (S++[.ah (y.map n0)]):=by
 have:=EV.RI (M:=.aY _ (.ad 1) (.bx 2)) (J:=[]) (q:=[]) (p:=λs=>Sp) (e:=n0) k (jP u) (λj e=>by replace e:=Sv e;subst e;exact bQ u) rfl (λx m q=>.aq) (λx m s q=>by
  have w:=ip.a (S:=S++[O.ah q]) (z:=z) (l:=[Option.none,Sn x]) (c:=[]) (y:=.ad 1) ((f x m).imp id λ⟨b,d,k,o,n⟩=>⟨b,d,k,aC o,n⟩) .ad;unfold n0;cases g:tW x with
  |true=>
   rw[g]at w;exact .D w .ad
  |false=>
   rw[g]at w;exact .C w .bx) (a5 t rfl)
 replace this:=mf▸this;exact this
structure Rg where
 cu:Nat
 b9:Nat
 uk:GD
 bG:Nat
 ul:Nat
 Os:Nat
 xJ:GD
 Ot:Nat
 bs:Nat
 eN:Nat
 Ou:Nat
 bJ:List V
 dK:List V
structure Ow (Q:Rg) (S:List O) (ti tt i:Nat):Prop where
 ed:xr S ti (.ag (bw i)) (.ae 20) (.ae 4) Q.cu Q.bJ Q.dK
 cL:cQ S Q.b9 Q.cu Q.uk Q.bG
 ou:cQ S Q.Os Q.ul Q.xJ Q.Ot
 DH:S[tt]?=Sn (.aX [.ab Q.ul,.ab Q.bs,.ab Q.eN])
 bs:S[Q.bs]?=Sn (.ah Q.bJ)
 eN:S[Q.eN]?=Sn (.ah Q.dK)
 cI:gF Q.uk=gF Q.xJ
 dF:kC (gF Q.uk)
 bM:Q.cu≠Q.ul/\∀g∈Q.uk,∀g'∈Q.xJ,g.2.1≠g'.2.1
 bg:(∀v∈Q.bJ,ip S Q.Ou v)/\Q.bJ.length<=100
 bU:∀v∈Q.dK,rM v
noncomputable abbrev DI (t a:Nat) (y2 y3 y4 y5 y6 y7 y8 y9 g_:Option V):bo:=[Sn (.ab t),Sn (.ab a),y2,y3,y4,y5,y6,y7,y8,y9,g_]
def Ov {S} (h:Ow Q S r Y i) (m:∀l g,EV (Ph (n+5)) l c (.aM (.aW 2) (.ae 0)) (S++g) (.ag (bw i)) (S++g)) (J:S[d]?=Sn (.aX [.bx 0,.ab Y])) (W:S[f]?=Sn (.aX [.bx 0,.ab r])):∃g,EX (Ph (n+5)) (gR t q y j (Sn (.ab d)) k (Sn (.ab f))) c xI S (.aO (.aq Sp) (S++g)):=by
 refine aQ λG F=>?_;refine ec h.ed.aU λa b p K M=>?_;refine F ?_;let L:=DI t q y j (Sn (.ab d)) k (Sn (.ab f)) (Sn (.ab r)) (Sn (.ab Q.ul)) (Sn (.ab Q.bs)) (Sn (.ab Q.eN))
 have x:EV (Ph (n+5)) L c Oo.bs.bs.bs.fW.d S (.aq Su) S:=by
  have N:EV (Ph (n+5)) L c (.tr (.aB .bM (.ba .ah (.ay (.ad 7) 3)) (.ad 10))) S (.aq Su) S:=by
   have I:u1 av .ah (.ab b) S=.aj (.ab S.length) (S++[.ah Q.dK]):=by
    delta u1;dsimp only;refine aa ?_ M;rfl
   exact .tr (.aB (.ba (.at .ad p) I) .ad (DG bV (aC h.eN) (TB (bQ h.eN)) h.bU))
  exact .RK (.E (.at .ad p) .ad (congrArg (UA not) (Ol h.cL h.ou h.cI h.dF h.bM.1 h.bM.2))) (.RK (.k9 (.R1 (.RD (.at .ad p) K) (.RD .ad h.bs)) (congrArg not (beq_self_eq_true _))) N)
 obtain⟨g,z⟩:=N5 ⟨⟨_,p,rfl,rfl⟩,h.cL⟩ h.ou h.cI (λg z=>by
  obtain⟨q,y⟩:=h.dF.uh g z;exact⟨_,_,(List.dropLast_concat_getLast q).symm,y _ (List.getLast_mem q)⟩)
 exact⟨[],.am (.C (.E (rL J .ad).1 .bx rfl) .aw) (.am (.a6 (rL W .ad).2) (.am (.C (by
   have P:EV (Ph (n+5)) (DI t q y j (Sn (.ab d)) k (Sn (.ab f)) (Sn (.ab r)) none none none) c (.dO (.ai (.aM (.aW 2) (.ae 0)) (.ai (.ae 20) (.ai (.ae 4) .ao)))) (S++[.aX [.ag (bw i),.ae 20,.ae 4]]) (.ab (S++[O.aX [.ag (bw i),.ae 20,.ae 4]]).length) _:=.dO (.ai (m _ _) (.ai .ae (.a7 .ae)));rw[Sr,Ss]at P;exact .RK (.E (rL W .ad).1 .bx rfl) (.tr (.aB (.dO (.ai (.at .ad p) (.ai (.at .ad p) (.a7 (.at .ad p))))) P (congrArg (UA not) ((rt (bA S _ 0) (bA S _ 1) (SQ (Td _))).trans (rN _ λv z=>by
     rcases Tq.mp z with rfl|z
     ·exact ui _
     ·rcases Tq.mp z with rfl|z
      ·exact uj _
      ·exact SP.mp z▸uj 4)))))) .aw) (.am (.mK (rL J .ad).2 h.DH rfl) (.am (.C x .aw) (.am (.C (by
     have U:EV (Ph (n+5)) L c (.dp (.aY (.tr (.ba .jg (.ad 1))) (.ad 1) (.bx 2)) (.aq Sp) .cN (.ad 9) 2 [1] []) (S++[.ah (Q.bJ.map n0)]) (.ab (S++[O.ah (Q.bJ.map n0)]).length) (S++[.ah (Q.bJ.map n0)]++[.ah (Q.bJ.map n0)]):=.Sf .ad (aC h.bs) (λv z=>(h.bg.1 v z).imp id λ⟨b,d,h1,h2,h3⟩=>⟨b,d,h1,aC h2,h3⟩) (Sq h.bg.2 (by decide));rw[Sr,Ss]at U;exact .tr (.aB (.Sf (.at .ad p) K h.bg.1 (Sq h.bg.2 (by decide))) U (DG (bA S _ 0) (bA S _ 1) (SQ (Td _)) λv z=>by
      refine cW z λu _ e0=>?_;subst e0;induction u using V.casesOn with
      |ag w=>exact ui w
      |_=>exact λq q=>congrArg Sn (beq_self_eq_true 2)))) .aw) (.A (.aO ((EV.RR (.ai .ad (.a7 .ad)) z).trans (congrArg (R.aj _) (SY S).symm)))))))))⟩
def Ox {R:eX} (h:R=.ak k) (w:R=.ak y) (p:(V.ae 20::iu n)[n+1-k]?=Sn j) (z:(V.ae 20::iu n)[n+1-y]?=Sn q):j=q:=by
 subst h;cases w;exact Sv (p.symm.trans z)
def Oy {S} (h:eF S N Q Z Y i m J o) (hq:gt (cG m) (bw i)=Sp):∃y,EX (Ph (n+5)) (gR t q j e (Sn (.ab I)) none none) (iK N) rK.bs S (.aO (.aq Sp) (S++y)):=by
 refine aQ λG kG=>?_;refine dz (xg ((by decide+kernel:∀i:Nat,i<6->(bw i==[])=false) i h.bX.1) hq) λx W hn hk=>?_;have ZS:x=i:=C7 x (tO W) i h.bX.1 hn;subst ZS;refine kG ?_;have Q2:∀{A} {l},EV (Ph (n+5)) l (iK N) (.tr (.aB .gh (.aM (.aW 2) (.ae 0)) (.aW 0))) (S++A) (.aq Su) (S++A):=λ{A l}=>.k9 (h.A:eF (S++A) N Q Z Y x m J o).gh (congrArg not hq);have go:∀{S'} {l1} {r},EX (Ph (n+5)) (gR t q j e (Sn (.ab I)) none none) (iK N) rK.bs.fW.fW S (.aD l1 S')->EX (Ph (n+5)) l1 (iK N) t7 S' r->EX (Ph (n+5)) (gR t q j e (Sn (.ab I)) none none) (iK N) rK.bs S r:=λH h2=>.am (.D (.k9 h.in hq) H) h2
 induction NI h.bX.1 h.bg h.bU ⟨xF.symm,a5 h.bX.2.2 rfl⟩ (λv hv=>(h.dF v hv).a)using NJ.casesOn with
 |@ak y k pv q1 q2 q3 C=>
  refine aQ λG kG=>?_;obtain⟨z,rfl⟩:=Op C;refine kG ?_;have h':eF (S++[.aX [.bx 1,.ae z]]) N Q Z Y x m J o:=h.A;induction xG h' hk W using xH.casesOn with
  |@ak A k' ZT r1 K s=>
   obtain rfl:ZT=.ae z:=Ox K q2 s C;have e8:=Q2 (A:=[.aX [.bx 1,.ae z]]++(A++[.aX [.bx 1,.ae z]])) (l:=gR t q j e (Sn (.ab S.length)) (Sn (.ae z)) (Sn (.ab (S++[O.aX [.bx 1,.ae z]]++A).length)));rw[<-Ss,<-Ss]at e8;have hx:=go (.am (.a6 (.RR (.ai (.aW h.rJ) (.ai (.aW h.ug) (.ai .ae (.a7 (.aW h.uf))))) q1)) (.am (.a6 (.D (.P (.ba .ad rfl)) (.dO (.ai .bx (.a7 .ad))))) .aw)) (.am (.a6 r1) (.am (.C (.RG e8) .aw) (.A (DF bV ⟨z,rfl⟩ (SA (by refine aa ?_ Sr;exact Td _) (jE _ A))))))
   rw[Ss,Ss]at hx;exact⟨_,hx⟩
  |aj r1 K s r4 r5 r6 E=>replace E:=(q2)▸E;cases E
 |@aj y G2 N2 B2 D2 P tt a2 b2 Q_ ZU q1 q2 q3 C q5 q6 q7 q8 q9=>
  let U:=S++y++[.aX [.bx 0,.ab tt]]
  have h':eF U N Q Z Y x m J o:=(h.A:eF (S++y) N Q Z Y x m J o).A;induction xG (n:=n) (l:=gR t q j e (Sn (.ab (S++y).length)) (Sn (.ab tt)) none) h' hk W using xH.casesOn with
  |ak r1 K s=>rw[q9]at K;cases K
  |@aj A G N' B D ti ZV ZW Rb r1 K s r4 r5 r6 E=>
   have hG:gF G=gF G2/\Q_=ZW:=by
    obtain⟨z1,z2⟩:=eX.aj.inj (q9.symm.trans E);exact⟨z1.symm,z2⟩
   obtain⟨hG,rfl⟩:=hG;have ZX:Rb=ZU:=by
    have e1:ZV=P+1:=Nat.add_right_cancel (r5.bd.symm.trans ((congrArg (·+1) q7.bd).trans (Nat.succ_add P _).symm));subst e1;exact r6.bp.symm.trans q8.bp
   subst ZX;let T:=U++A++[.aX [.bx 0,.ab ti]]
   have hle:(S++y).length<U.length:=by refine aa ?_ (Sr (as:=S++y));exact Td _
   have hT:eF T N Q Z Y x m J o:=(h'.A:eF (U++A) N Q Z Y x m J o).A;have ZY:Ow ⟨D,B,G,N',D2,B2,G2,N2,a2,b2,T.length,Q_,Rb⟩ T ti tt x:=
    {ed:=let⟨a,b,z1,z2,z3⟩:=K.aU;⟨a,b,z1.A,aC z2,aC z3⟩
     cL:=⟨aC s.aE,λg L=>⟨aC (s.dG g L).1,(s.dG g L).2⟩,s.fG,s.je,s.gO⟩
     ou:=(λF=>⟨aC (aC (aC F.aE)),λg L=>⟨aC (aC (aC (F.dG g L).1)),(F.dG g L).2⟩,F.fG,F.je,F.gO⟩) C
     DH:=aC (aC (aC q2))
     bs:=aC (aC (aC q5))
     eN:=aC (aC (aC q6))
     cI:=hG
     dF:=Oi (λu hu=>by
       rcases h.dF _ hu with⟨u',H,h2⟩|⟨b,d,H,-⟩
       ·exact V.ag.inj h2▸uc.2 u' H
       ·cases H) E
     bM:=⟨TB (SA (bQ C.aE) (Sq (Tu hle) r4.2.1)),λg L g' K6=>TB (SA (bQ (C.dG g' K6).1) (Sq (Tu hle) (Sq r4.1 (s.dG g L).2)))⟩
     bg:=⟨λv hv=>(hT.dF v (Wv (aT hv q7.bp.symm:v∈o.drop P))).a,by have:=q7.bd;exact Sq (Sq (TC _ _) (To this.symm)) (Sq h.bX.2.2 (by decide))⟩
     bU:=(λv y=>by
      refine cW (Wv (aT y q8.bp.symm)) λz _ e0=>?_;subst e0;exact uj _)}
   have e8:=Q2 (A:=y++([.aX [.bx 0,.ab tt]]++(A++[.aX [.bx 0,.ab ti]]))) (l:=gR t q j e (Sn (.ab (S++y).length)) (Sn (.ab tt)) (Sn (.ab (U++A).length)));rw[<-Ss,<-Ss,<-Ss]at e8;obtain⟨d_,ZZ⟩:=Ov ZY (λl y=>(hT.A:eF (T++y) N Q Z Y x m J o).a) (aC (aC bV)) bV;have hx:=go (.am (.a6 (.RM (.bR (.ai (.aW h.rJ) (.ai (.aW h.ug) (.ai .ae (.a7 (.aW h.uf))))) q1) (decide_eq_false (TN.mpr q3)))) (.am (.a6 (.C (.P (.ba .ad (by
     delta u1;dsimp only;exact aa rfl q2))) (.dO (.ai .bx (.a7 .ad))))) .aw)) (EX.am (.a6 r1) (.am (.C (.RG e8) .aw) ZZ))
   obtain⟨M,h3⟩:∃M,T++d_=S++M:=⟨_,by show S++y++_++A++_++d_=_;refine aa ?_ (Ss _ _ _);refine aa ?_ (Ss _ _ _);refine aa ?_ (Ss _ _ _);exact aa rfl (Ss _ _ _)⟩
   rw[h3]at hx;exact⟨M,hx⟩
def DJ (A:eC z t j q L) (T:dW z p m f) (s:m<64):∃k r,Ph (n+6) 21 [.ab t,.ab p] z=.aj (.aq Sp) (z.set t (.ah [.ab j,.ae (k:Nat)])++r):=by
 set_option tactic.hygienic true in obtain⟨o,b⟩:=Od A T s
 rename_i i k v x r c e;let S:=z.set t (.ah [.ab j,.ae k])++r
 have u:eF (S++[.aX [.bx 1,.ae 20]]) z.length p v _ i m f x:=b.A;have g:∃y,EX (Ph (n+5)) (gR t (z.length+5) c e (Sn (.ab S.length)) none none) (gQ z) rK.bs (S++[.aX [.bx 1,.ae 20]]) (.aO (.aq Sp) (S++[.aX [.bx 1,.ae 20]]++y)):=by
  cases l:gt (cG m) (bw i)with
  |true=>exact Oy u l
  |false=>
   obtain⟨y,h⟩:=Oq u l bV;exact⟨y,.am (.C (.k9 u.in l) .aw) h⟩
 obtain⟨y,h⟩:=g;have d:=o _ (.am (.a6 (.dO (.ai .bx (.a7 .ae)))) h);rw[Ss,Ss]at d;have w:Ph (n+6) 21 [.ab t,.ab p] z=gM (.aO _ _):=nN rfl d;exact⟨k,_,w⟩
structure dX where
 bI:Nat
 cS:Nat
 bF:Nat
 dn:Nat
 cI:Int
 bJ:Ws
 dK:List Int
structure dX.n (e:dX) (S:List O) (B:Nat):Prop where
 aZ:S[e.bI]?=Sn (.a8 0 e.cS)
 dm:S[e.cS]?=Sn (.aL [(1,.ae e.cI),(2,.ab e.bF),(3,.ab e.dn)])
 bg:S[e.bF]?=Sn (.ah (e.bJ.map .ag))
 bU:S[e.dn]?=Sn (.ah (e.dK.map .ae))
 cP:B<=e.bI/\B<=e.cS/\B<=e.bF/\B<=e.dn
def xK (B:Nat) (S S':List O):Prop:=∀(a:Nat) (o:O),B<=a->S[a]?=Sn o->S'[a]?=Sn o
def dX.n.fV {S} {e:dX} (h:e.n S B) (g:xK B S q):e.n q B:=⟨g _ _ h.cP.1 h.aZ,g _ _ h.cP.2.1 h.dm,g _ _ h.cP.2.2.1 h.bg,g _ _ h.cP.2.2.2 h.bU,h.cP⟩
def dX.n.A {S} {e:dX} (h:e.n S B):e.n (S++z) B:=h.fV λq q q=>aC
def xL {w k r:Type} {p} {q} {d} {u:k->r} (j:List w):∀{z:List k},j.map d=z.map u->(∀x∈j,∀y∈z,d x=u y->f (p x) (q y)=Sn Sp)->fC f (j.map p) (z.map q)=Sp:=by
 induction j with
 |nil=>
  intro z h _;induction z using SD with
  |nil=>rfl
  |cons y z=>cases h
 |cons x j l=>
  intro z h g;induction z using SD with
  |nil=>cases h
  |cons y z=>
   obtain⟨m,c⟩:=Uu h;show(match f (p x) (q y),fC f (j.map p) (z.map q)with|some a,Sn b=>Sn (a&&b)|_,_=>none)=_;refine aS ?_ (l c λx e y t=>g x (.tail _ e) y (.tail _ t)) (g x (.head _) y (.head _) m);rfl
noncomputable abbrev WP:=Nat×Ws
noncomputable abbrev GP:=Nat×List WP
structure mz (T:List O) (lo hi:Nat) (g:GP):Prop where
 bs:lo<=g.1/\g.1<hi
 dV:T[g.1]?=Sn (.ah (g.2.map λw=>.ab w.1))
 bg:∀w∈g.2,lo<=w.1/\w.1<hi/\T[w.1]?=Sn (.ah (w.2.map .ag))
structure um (T:List O) (lo hi a:Nat) (gs:List GP):Prop where
 bs:lo<=a/\a<hi
 dV:T[a]?=Sn (.ah (gs.map λg=>.ab g.1))
 cI:∀g∈gs,mz T lo hi g
noncomputable def jf (gs:List GP):List (List Ws):=gs.map λg=>g.2.map (·.2)
def pH {S} (y:S[i]?=Sn (.ah q)) (w:S[j]?=Sn (.ah z)) (k:i≠j) (h:fC (cV S n) q z=Sp) (p:q.length=z.length):cV S (n+1) (.ab i) (.ab j)=Sp:=(if_neg k).trans (aS ((if_pos p).trans h) w y)
def Oz {T} (h:um T i r a k) (l:um T z f p q) (Q:r<=z) (b:jf k=jf q):dY av .bM (.ab a) (.ab p) T=Su:=by
 have m:∀{x y},x<r->z<=y->x≠y:=λZ Y=>SQ (SA Z (Sq Q Y))
 suffices c:dY av .bp (.ab a) (.ab p) T=Sp from congrArg (UA not) c
 refine(lh h.dV l.dV (m h.bs.2 l.bs.1)).trans ((if_pos (aS (by
   have:=congrArg US b;rw[jf,jf,Sx,Sx]at this;exact this) (Sx _) (Sx _))).trans ?_)
 refine xL k b λg W K e n=>?_;have G:=h.cI g W;have t:=l.cI K e;refine pH G.dV t.dV (m G.bs.2 t.bs.1) (xL g.2 n λw P U d s=>?_) (by refine aS ?_ (Sx _) (Sx _);have:=congrArg US n;rw[Sx,Sx]at this;exact this);refine j4 (G.bg w P) λ_ L F=>?_;refine j4 (t.bg U d) λo _ j=>?_;rw[<-s]at j;exact pH F j (m L o) (rN _ λv M=>by
  refine cW M λu _ e0=>?_;subst e0;exact ui u) rfl
def mz.d {S T} (h:mz T z y g) (j:y<=q) (k:∀a,z<=a->a<y->T[a]?=S[a]?):mz S z q g:=⟨⟨h.bs.1,SA h.bs.2 j⟩,(k _ h.bs.1 h.bs.2).symm.trans h.dV,λw p=>let⟨a,b,c⟩:=h.bg w p;⟨a,SA b j,(k _ a b).symm.trans c⟩⟩
noncomputable def n5:List (Int×Ws)->List (List Ws)->List Ws->Int->List (List Ws)
 |[],i,c,_=>i++[c]
 |(g,w)::r,i,c,l=>if g==l then n5 r i (c++[w]) l else n5 r (i++[c]) [w] g
noncomputable def OA:List (Int×Ws)->List (List Ws)
 |[]=>[]
 |(g,w)::r=>n5 r [] [w] g
noncomputable abbrev xM:Internal.S:=yE.aA.bs.fW.fW
noncomputable def kF (a L:Nat) (last y3 y4:Option V):bo:=[Sn (.ab a),Sn (.ab L),last,y3,y4]
structure iY (S T:List O) (L:Nat) (gi:List GP) (gl:GP):Prop where
 dV:T[L]?=Sn (.ah ((gi++[gl]).map λg=>.ab g.1))
 cI:∀g∈gi,mz T (L+1) gl.1 g
 gf:mz T gl.1 T.length gl/\∀w∈gl.2,gl.1<w.1
 cP:L+1<=gl.1
 ee:∀m,m<L->T[m]?=S[m]?
def xN (w:EV z l c y q (.ab i) q) (h:q[i]?=Sn (.ah (j++[v]))):EV z l c (.aM y (.ae (-1))) q v q:=.aM w .ae (ud h)
def OB {S} {q:Ws} (g:EV w l c k S (.ab y) S) (r:S[y]?=Sn (.ah (q.map .ag))) (f:q.length<=1000):EV w l c (.dp (.aY (.tr (.ba .gS (.ad 1))) (.tr (.bR 10 (.ai (.ay (.ad 1) 4) .ao))) (.ad 1)) (.aq Sp) .cN k 2 [1] []) S (.ab S.length) (S++[.ah (q.map .ag)]):=by
 have:=EV.RI (M:=.aY (.tr (.ba .gS (.ad 1))) (.tr (.bR 10 (.ai (.ay (.ad 1) 4) .ao))) (.ad 1)) (J:=[]) (q:=[]) (p:=λt=>Sp) (e:=id) g (jP r) (λj e=>by replace e:=Sv e;subst e;exact bQ r) rfl (λx m z=>.aq) (λx m t z=>by
  refine cW m λu _ e0=>?_;subst e0;exact .C (.P (.ba .ad rfl)) .ad) (by refine aa (a5 f rfl) (Sx _))
 rw[mf,W8]at this;exact this
def OC {S T} {y} (h:iY S T L l y) (c:T[k]?=Sn (.ah (p.map .ag))) (r:y.1<k):iY S (T.set y.1 (.ah ((y.2++[(k,p)]).map λw=>.ab w.1))) L l (y.1,y.2++[(k,p)]):=by
 have z:∀a,a≠y.1->(T.set y.1 (.ah ((y.2++[(k,p)]).map λw=>.ab w.1)))[a]?=T[a]?:=λa j=>Ti j.symm;have j:∀w∈y.2++[(k,p)],y.1<w.1/\T[w.1]?=_:=λw q=>by
  rcases Tn.mp q with q|q
  ·exact⟨h.gf.2 w q,(h.gf.1.bg w q).2.2⟩
  ·exact aa ⟨r,c⟩ (SP.mp q)
 refine⟨?_,λg e=>(h.cI g e).d (SJ _) λa t j=>(z a (SQ j)).symm,⟨⟨⟨SJ _,?_⟩,dH h.gf.1.dV,λw q=>⟨Tu (j w q).1,?_,(z _ (TB (j w q).1)).trans (j w q).2⟩⟩,λw q=>(j w q).1⟩,h.cP,λm f=>(z m (SQ (SA f (Sq (Tx L) h.cP)))).trans (h.ee m f)⟩
 ·refine aa (aa ?_ h.dV) (z L (SQ h.cP));refine aS ?_ Ta Ta;rfl
 ·exact aa h.gf.1.bs.2 SS
 ·exact aa (bQ (j w q).2) SS
def iY.A {S T} {y} (h:iY S T L z y):iY S (T++w) L z y where
 dV:=aC h.dV
 cI g k:=(h.cI g k).d (SJ _) λa p q=>(SM (TP q h.gf.1.bs.2)).symm
 gf:=⟨h.gf.1.d (jE _ _) λa p q=>(SM q).symm,h.gf.2⟩
 cP:=h.cP
 ee m j:=(SM (TP j (SA h.cP (Tu h.gf.1.bs.2)))).trans (h.ee m j)
def OD {S T} {k} (h:iY S T L j k):iY S ((T++[O.ah []]).set L (O.ah ((j++[k]++[(T.length,[])]).map λg:GP=>V.ab g.1))) L (j++[k]) (T.length,[]):=by
 have p:=bQ h.dV;have q:∀a,a≠L->a<T.length->((T++[O.ah []]).set L (O.ah ((j++[k]++[(T.length,[])]).map λg:GP=>V.ab g.1)))[a]?=T[a]?:=λa l f=>(Ti l.symm).trans (SM f);refine⟨dH (aC h.dV),λg y=>?_,⟨⟨⟨SJ _,?_⟩,eB (SQ p) bV,λw z=>nomatch z⟩,λw z=>nomatch z⟩,p,λm r=>(q m (SQ r) (TP r p)).trans (h.ee m r)⟩
 ·have c:mz T (L+1) T.length g:=by
   rcases Tn.mp y with y|y
   ·exact(h.cI g y).d (Tu h.gf.1.bs.2) λu u u=>rfl
   ·exact aa ⟨⟨h.cP,h.gf.1.bs.2⟩,h.gf.1.dV,λw z=>⟨Sq h.cP (h.gf.1.bg w z).1,(h.gf.1.bg w z).2⟩⟩ (SP.mp y)
  exact c.d (SJ _) λa e t=>(q a (TB e) t).symm
 ·exact aa (aa (Td _) Sr) SS
noncomputable def un (gi:List GP) (gl:GP):List (List Ws):=jf (gi++[gl])
def xO {S T} {q} {e:dX} (h:iY S T L y q) (n:L=S.length) (p:e.n S B) (x:e.bJ.length<=1000) (a:q.2.length<1000):∃d u,EX j (kF A L t (Sn (.ab e.bI)) r) [] xM.bs T (.aD (kF A L (Sn (.ae e.cI)) (Sn (.ab e.bI)) u) d)/\iY S d L y (q.1,q.2++[(T.length,e.bJ)]):=by
 have z:∀{m} {o:O},S[m]?=o->T[m]?=o:=λs=>(h.ee _ (aa (bQ s) n)).trans s;have b:fo T e.bI 0 _:=⟨e.cS,z p.aZ,z p.dm⟩
 have f:iY S (T++[.ah (e.bJ.map .ag)]) L y q:=h.A;have v:=EX.RH (z:=j) (l:=kF A L (Sn (.ae e.cI)) (Sn (.ab e.bI)) (Sn (.ab T.length))) (c:=[]) (xN (.ad (i:=1)) (Ta▸f.dV)) (.ad (i:=4)) f.gf.1.dV (aa (TP a (by decide)) (Sx _));have Y:(q.2.map λw:WP=>V.ab w.1)++[.ab T.length]=(q.2++[(T.length,e.bJ)]).map λw:WP=>V.ab w.1:=(Ta (l₂:=[(T.length,e.bJ)])).symm;rw[Y]at v;exact⟨_,_,.am (.a6 (.at .ad b)) (.am (.a6 (OB (.at .ad b) (z p.bg) x)) (.am v .aw)),OC f bV h.gf.1.bs.2⟩
def DK {T} (q:T[L]?=Sn (.ah y)) (k:y.length<=1000) (p:EV j l c w T (.ab L) T):EX j l c (.aU (.tr (.bK .dN w (.ai (.bj .ao) .ao)))) T (.aD l ((T++[O.ah []]).set L (O.ah (y++[V.ab T.length])))):=by
 refine .aU (.R9 (.RH p (.bj .ao) q (aC q) (et (a5 (TU k 1) rfl))) (nG q (dH (aC q)) (beq_false_of_ne λz=>?_) ?_))
 ·have:=congrArg US (O.ah.inj z)
  rw[Sr]at this;exact SQ (Td _) this
 ·exact Vn.mpr ⟨.ab T.length,Ve _ (.head _),λz=>VI _ (of_decide_eq_true z)⟩
inductive Ri (n:Nat) (S:List O) (A:Nat) (st:List O->Bool) (es:List dX) (T:List O) (l:bo) (D:List (List Ws)):Prop where
 |mk {T':List O} {gi:List GP} {gl:GP} {l':bo} (h:ew (λl a_=>Internal.aU (Ph n) av xM l [] a_) (λrow l a_=>dZ (Ph n) av [.ad 3] row l [] a_) st (es.map λe=>[.ab e.bI]) l T=.aD l' T') (hl:l'[1]?.join=Sn (.ab S.length)) (hr:iY S T' S.length gi gl) (hd:un gi gl=D)
def OE {S} (F:A<S.length) (p:∀T,T[A]?=S[A]?->L T=Sp) (z):∀{T} {q} {y} {g} {r k},(∀e∈z,e.n S B/\e.bJ.length<=1000)->q.length+z.length<=500/\y.2.length+z.length<=500->iY S T S.length q y->Ri n S A L z T (kF A S.length (Sn (.ae g)) r k) (n5 (z.map λe=>(e.cI,e.bJ)) (jf q) (y.2.map (·.2)) g):=by
 induction z with
 |nil=>exact λ{T q y g r k} H H h=>⟨rfl,rfl,h,by delta un;rewrite[jf];refine aa ?_ Ta;rfl⟩
 |cons e z M=>
  intro T q y g r k C hb h;obtain⟨j,u⟩:=C e (.head _);have f:=λx m=>C x (.tail _ m);have t:∀{m} {o:O},S[m]?=o->T[m]?=o:=λE=>(h.ee _ (bQ E)).trans E;have D:dZ (Ph n) av [.ad 3] [.ab e.bI] (kF A S.length (Sn (.ae g)) r k) [] T=.aD _ T:=mc rfl;have d:EV (Ph n) (kF A S.length (Sn (.ae g)) (Sn (.ab e.bI)) k) [] (.tr (.aB .bp (.ad 1) (.bj .ao))) T (.aq Su) T:=.k9 (.R6 .ad h.dV) (by refine aa ?_ Ta;induction q using SD<;>rfl)
  have Q:EV (Ph n) (kF A S.length (Sn (.ae g)) (Sn (.ab e.bI)) k) [] (.tr (.aB .bM (.ay (.ad 3) 1) (.ad 2))) T _ T:=.R1 (.at .ad ⟨e.cS,t j.aZ,t j.dm⟩) .ad;obtain⟨w,s⟩:=hb;have N:n5 ((e::z).map λe=>(e.cI,e.bJ)) (jf q) (y.2.map (·.2)) g=if e.cI==g then n5 _ (jf q) _ g else n5 _ _ [e.bJ] e.cI:=rfl
  cases b:e.cI==g with
  |true=>
   rw[b]at Q;refine aa ?_ N;refine aa ?_ b;refine aa ?_ (if_pos rfl);refine aQ λG Y=>?_;obtain⟨T',J,Z,v⟩:=xO h rfl j u (S8 (Sq (SH _ _) s) (by decide));obtain⟨W,K,P,U⟩:=M f ⟨Sq (Tx _) w,by exact aa (aa (aa s (TH _ z.length)) (TK _ _ _)) Sr⟩ v;rw[beq_iff_eq.mp b]at Z;exact Y ⟨fP D (EX.am (.C (.RK d Q) .aw) Z) (p _ (v.ee A F)) W,K,P,U.trans (by refine aa ?_ Ta;rfl)⟩
  |false=>
   rw[b]at Q;refine aa ?_ N;refine aa ?_ b;refine aa ?_ (if_neg (by decide));refine aQ λG Y=>?_;have a:(q++[y]).length=q.length+1:=Sr;have I:=DK (j:=Ph n) (l:=kF A S.length (Sn (.ae g)) (Sn (.ab e.bI)) k) (c:=[]) h.dV (by exact aa (aa (Sq (SF (SE (S6 z.length)) _) (a5 w rfl)) a) (Sx _)) (.ad (i:=1));have hs:((q++[y]).map λg:GP=>V.ab g.1)++[.ab T.length]=(q++[y]++[(T.length,[])]).map λg:GP=>V.ab g.1:=(Ta (l₂:=[((T.length,[]):GP)])).symm
   rw[hs]at I;obtain⟨T',J,Z,v⟩:=xO (OD h) rfl j u (T9 _);obtain⟨W,K,P,U⟩:=M f ⟨by refine aa ?_ a;refine aa ?_ (T1 _ _);exact w,Sq (To (TH 1 _)) (Sq (TC _ _) w)⟩ v;refine Y ?_;exact⟨fP D (EX.am (.D (.RK d Q) (.am I .aw)) Z) (p _ (v.ee A F)) W,K,P,U.trans (by delta jf;refine aa ?_ Ta;rfl)⟩
inductive Rj (n A:Nat) (S:List O) (D:List (List Ws)):Prop where
 |mk {τ:List O} {gs:List GP} (h:Ph (n+1) 10 [.ab A] S=.aj (.ab S.length) (S++τ)) (hr:um (S++τ) S.length (S++τ).length S.length gs) (hd:jf gs=D)
def DL {S T} (h:ew (λl q=>Internal.aU (Ph n) av xM l [] q) (λz l q=>dZ (Ph n) av [.ad 3] z l [] q) (bn (Sn A) (S++[.ah []])) (y.map λx=>[x]) (kF A S.length (Sn .az) Option.none Option.none) (S++[.ah []])=.aD j T) (w:j[1]?.join=Sn (.ab S.length)) (k:S[A]?=Sn (.ah y)):Ph (n+1) 10 [.ab A] S=.aj (.ab S.length) T:=
 (cj rfl (.am (.E (.bj .ao) .az rfl rfl) (.am (.eG (.ad (i:=0)) (jP (aC k)) (ja rfl _) h) (.A (.aO (.ad w))))):Ph (n+1) 10 [.ab A] S=gM (.aO _ _))
def iY.d {S T} {y} (h:iY S T S.length z y) (m:∃j,T=S++j):um T S.length T.length S.length (z++[y])where
 bs:=⟨SJ _,TP h.cP h.gf.1.bs.2⟩
 dV:=h.dV
 cI g q:=by
  have low:∀{k} {p} {g},mz T k p g->S.length<=k->p<=T.length->mz T S.length T.length g:=λh r u=>⟨⟨Sq r h.bs.1,SA h.bs.2 u⟩,h.dV,λw f=>let⟨a,b,c⟩:=h.bg w f;⟨Sq r a,SA b u,c⟩⟩
  rcases Tn.mp q with q|q
  ·exact low (h.cI g q) (Tx _) (Tu h.gf.1.bs.2)
  ·exact aa (low h.gf.1 (Sq (Tx _) h.cP) (SJ _)) (SP.mp q)
def DM {S} {z:List dX} (u:S[A]?=Sn (.ah (z.map λe=>.ab e.bI))) (j:∀e∈z,e.n S B/\e.bJ.length<=1000) (J:z.length<=400):Rj n A S (OA (z.map λe=>(e.cI,e.bJ))):=by
 induction z using SD with
 |nil=>
  exact⟨DL rfl rfl u,(⟨⟨SJ _,by refine aa (Td _) Sr⟩,bV,λg h=>nomatch h⟩:um (S++[.ah []]) S.length (S++[O.ah []]).length S.length []),rfl⟩
 |cons e z=>
  obtain⟨f,t⟩:=j e (.head _);have y:=bQ u;let q:=S++[O.ah []]
  have s:=DK (j:=Ph n) (l:=kF A S.length (Sn .az) (Sn (.ab e.bI)) Option.none) (c:=[]) (T:=q) bV (S6 _) (.ad (i:=1));have w:∀T,T[A]?=S[A]?->bn A q T=Sp:=λT h=>by
   refine beq_iff_eq.mpr (h.trans (SM y).symm)
  let K:=(q++[O.ah []]).set S.length (O.ah ([]++[V.ab q.length]))
  have o:iY S K S.length [] (q.length,[]):=by
   have k:q.length=S.length+1:=Sr;refine⟨dH (aC bV),λg h=>(nomatch h),⟨⟨⟨SJ _,?_⟩,eB (SQ (aa (Td _) k)) bV,λg h=>nomatch h⟩,λg h=>nomatch h⟩,To k.symm,λm b=>?_⟩
   ·exact aa (aa (Td q.length) (Sr (as:=q))) SS
   ·exact(Ti (TB b)).trans ((SM (aa (Um b) k)).trans (SM b))
  obtain⟨F,P,k,v⟩:=xO o rfl f t (T9 _);have p:=J;obtain⟨U,G,r,L⟩:=OE y w z (λx m=>j x (.tail _ m)) ⟨Sq (To (Ud _)) (Sq (Tx _) (Sq p (by decide))),Sq (To (TH 1 _)) (Sq p (by decide))⟩ v;have Q:=nK (λa s=>r.ee a s) (Tu (TP r.cP r.gf.1.bs.2));have Z:=DL (fP (mc rfl) (EX.am (.D (.RX (.R6 .ad bV)) (.am s .aw)) k) (w _ (v.ee A y)) (by exact aa U Tp)) G u;have Y:=r.d ⟨_,Q⟩;rw[Q]at Z Y;exact⟨Z,Y,L⟩
def EV.Sm (w:EV k l c a z .az (q++j)) (r:q.length=z.length):∃y,EV k l c (.tr a) z .az (q++y):=by
 cases p:gz z.length z (q++j)with
 |false=>exact⟨j,.R9 w p⟩
 |true=>exact⟨[],(congrArg (fg z) w).trans ((tB rfl p).trans (congrArg _ (by refine aT (aa ((SY _).symm) W0) r)))⟩
def OF (w:q[i]?=Sn (.ah z)) (k:q[j]?=Sn (.ah y)) (p:i≠j) (h:cR (z.length+y.length)=Sp):ei av .h8 (.ab i) [.ab j] q=.aj .az (q.set i (.ah (z++y))):=by
 delta ei;dsimp only;exact aS (if_pos ⟨p,h⟩) k w
def EX.M (f:EV w l c r q (.ab i) q) (m:EV w l c u q (.ab j) (q++g)) (y:q[i]?=Sn (.ah k)) (e:(q++g)[j]?=Sn (.ah p)) (t:i≠j) (h:k.length+p.length<=1000):∃z,EX w l c (.aU (.tr (.bK .h8 r (.ai u .ao)))) q (.aD l (q.set i (.ah (k++p))++z)):=by
 obtain⟨z,h⟩:=EV.Sm (.bK f ((jy y).symm▸rfl) (.a7 m) ((jy (aC y)).trans (jy y).symm) ((OF (aC y) e t (et (a5 h rfl))).trans (congrArg _ (Ue _ _ (bQ y))))) SS;exact⟨z,.aU h⟩
def DN (h:q[i]?=Sn (.ah [v])) (z:n<=200):ie av .ek (.ab i) (.ae (n:Nat)) q=.aj (.ab q.length) (q++[.ah (SI n v)]):=by
 delta ie;dsimp only;exact aa ((if_pos (Sz.mpr ⟨decide_eq_true (TA n),decide_eq_true (T7.mpr z)⟩)).trans rfl) h
def xP (w:q[i]?=Sn (.ah z)) (k:q[j]?=Sn (.ah y)) (h:z.length+y.length<=1000):ie av .bB (.ab i) (.ab j) q=.aj (.ab q.length) (q++[.ah (z++y)]):=by
 delta ie;dsimp only;exact aS ((if_pos (et (a5 h rfl))).trans rfl) k w
def xQ (h:q[i]?=Sn (.ah z)):u1 av .ah (.ab i) q=.aj (.ab q.length) (q++[.ah z]):=by
 delta u1;dsimp only;refine aa ?_ h;rfl
def OG (z:q[i]?=Sn (.a8 1 d)) (w:q[d]?=Sn (.aL [(4,.ab j)])) (p:q[j]?=Sn (.ah y)):Ph (n+1) 15 [.ab i] q=.aj (.ab q.length) (q++[.ah y]):=by
 have r:u1 av .gS (.ab i) q=.aj (.aq Sp) q:=by
  delta u1;dsimp only;refine aa ?_ z;rfl
 have u:EX (Ph n) [Sn (.ab i),Sn .az,Sn .az] [] uW.aA q _:=.A (.D (.P (.ba .ad r)) (.A (.aO (.ba (.ay .ad (gq z w rfl)) (xQ p)))));exact(cj rfl u)
def OH (h:Internal.aU (Ph n) av sh.aA [Sn (.ag b),Sn .az,Sn .az] [] q=.aO (.ab i) (q++z)) (y:q.length<=i):Ph (n+2) 15 [.ag b] q=.aj (.ab i) (q++z):=by
 have w:EX _ [Sn (.ag b),Sn .az,Sn .az] [] uW.aA q _:=.am (.C (.P (.ba .ad rfl)) .aw) (.A (.aO (.RM (.bR (.ai .ad (.ai .ad (.a7 .ad))) (cj rfl h)) (decide_eq_false (TN.mpr y)))));exact(cj rfl w)
def OI {S} {e:dX} {k:bG} (w:S[N]?=Sn (.a9 (Sn (.ab e.bI)))) (y:e.n S B) (g:e.dK=z::u) (j:k.n S f m) (t:k.bJ.length<=200):EV (Ph (n+1)) [q,Sn (.ab k.bI)] [N] (.dw 0 (.ai (.ay (.aW 0) 1) (.ai (.ay (.ad 1) 2) (.ai (.aV .ek (.bj (.ai (.aM (.ay (.aW 0) 3) (.ae 0)) .ao)) (.tr (.ba .bd (.ay (.ad 1) 2)))) .ao)))) S (.ab (S.length+2)) (S++[.ah [.ae z],.ah ((SI k.bJ.length z).map .ae),.a8 0 (S.length+3),.aL [(1,.ae e.cI),(2,.ab k.bF),(3,.ab (S.length+1))]]):=by
 have s:EV (Ph (n+1)) [q,Sn (.ab k.bI)] [N] (.bj (.ai (.aM (.ay (.aW 0) 3) (.ae 0)) .ao)) S (.ab S.length) _:=.bj (.a7 (.RT (.ay (.aW w) (gq y.aZ y.dm rfl)) y.bU (by refine aa ?_ g;rfl)));have p:=EV.aV s (by
   have:=EV.RD (y:=Ph (n+1)) (l:=[q,Sn (.ab k.bI)]) (c:=[N]) (.ay (.ad (i:=1)) (gq (aC (z:=[O.ah [.ae z]]) j.aZ) (aC j.dm) (k:=2) rfl)) (aC j.bg)
   rwa [Sx]at this) (DN bV t)
 rw[Sr,Ss,<-List.map_replicate]at p;have b:EV (Ph (n+1)) [q,Sn (.ab k.bI)] [N] (.ay (.aW 0) 1) S (.ae e.cI) S:=.ay (.aW w) (gq y.aZ y.dm rfl);have v:EV (Ph (n+1)) [q,Sn (.ab k.bI)] [N] (.ay (.ad 1) 2) S (.ab k.bF) S:=.ay .ad (gq j.aZ j.dm rfl);have r:=EV.dw (k:=0) (cO.ai b (.ai v (.a7 p))) re;rw[Sr,Ss]at r;exact r
noncomputable abbrev xR:X:=.dw 0 (.ai (.ay (.aW 0) 1) (.ai (.ay (.ad 1) 2) (.ai (.aV .ek (.bj (.ai (.aM (.ay (.aW 0) 3) (.ae 0)) .ao)) (.tr (.ba .bd (.ay (.ad 1) 2)))) .ao)))
inductive Rk (n N:Nat) (S:List O) (g p0:Int) (st:List O->Bool) (ks:List bG) (acc:List V) (τ:List O) (q:Option V):Prop where
 |mk {d_:List O} {E:List dX}
  (h:fI av (λl' a_=>ev (Ph (n+1)) av xR l' [N] a_) (λl' a_=>ev (Ph (n+1)) av (.aq Sp) l' [N] a_) st [1] S.length (ks.map λk=>[.ab k.bI]) [Option.none,q] (S++(.ah acc::τ))=.aj (.ab S.length) (S++(.ah (acc++E.map λc=>.ab c.bI)::(τ++d_))))
  (ok:∀c∈E,(∀A,c.n (S++(.ah A::(τ++d_))) 0)/\c.bF<S.length/\S.length+(τ.length+1)<=c.dn/\c.cI=g)
  (hw:E.map (λc=>(c.bF,c.bJ,c.dK))=ks.map λk=>(k.bF,k.bJ,SI k.bJ.length p0))
  (pw:E.Pairwise λa b=>a.bF≠b.bF/\a.dn≠b.dn)
def n6 {S}:(S++(O.ah A::q)).length=S.length+(q.length+1):=Sr
def OJ {S} {e:dX} (hc:S[N]?=Sn (.a9 (Sn (.ab e.bI)))) (he:e.n S B) (hp:e.dK=i::pr) (J:∀A p,Y (S++(O.ah A::p))=Sp) (t):∀{y} {p} {q},(∀k∈t,k.n S lo hi/\k.bJ.length<=200)->t.Pairwise (λk W=>k.bF≠W.bF)->y.length+t.length<=500->Rk n N S e.cI i Y t y p q:=by
 induction t with
 |nil=>exact λ{y p q} P P P=>⟨(by refine aa ?_ Wb;refine aa ?_ (SY _);refine aa ?_ (SY _);rfl:fI av _ _ Y [1] S.length [] _ (S++(.ah y::p))=.aj (.ab S.length) (S++(.ah (y++([]:List dX).map λc=>.ab c.bI)::(p++[])))),(λP h=>nomatch h),rfl,.nil⟩
 |cons k t ih=>
  intro y p q H U hb;obtain⟨w,G⟩:=H k (.head _);cases U with
  |cons L F=>
   let X:=S++(O.ah y::p)
   let d:List O:=[.ah [.ae i],.ah ((SI k.bJ.length i).map .ae),.a8 0 (X.length+3),.aL [(1,.ae e.cI),(2,.ab k.bF),(3,.ab (X.length+1))]]
   let v:dX:=⟨X.length+2,X.length+3,k.bF,X.length+1,e.cI,k.bJ,SI k.bJ.length i⟩
   have hX:∀A,(S++(O.ah A::p)).length=X.length:=λA=>n6.trans n6.symm;have o:=λA j=>(congrArg (λm=>(S++(O.ah A::p)++d)[m+j]?) (hX A).symm).trans (bA _ d j);have M:∀A,v.n _ 0:=λA=>⟨o A 2,o A 3,aC (aC w.bg),o A 1,⟨S6 _,S6 _,S6 _,S6 _⟩⟩
   have x:EV (Ph (n+1)) [Option.none,Sn (.ab k.bI)] [N] xR X (.ab v.bI) (X++d):=OI (aC hc) he.A hp ⟨aC w.aZ,aC w.dm,aC w.bg,let⟨ps,C,Z⟩:=w.bU;⟨ps,aC C,Z⟩,w.bM,w.cP,w.iD⟩ G;have T:(X++d)[S.length]?=Sn (.ah y):=aC (bA S (O.ah y::p) 0);have s:(X++d).set S.length (.ah (y++[.ab v.bI]))=S++(.ah (y++[.ab v.bI])::(p++d)):=by
    refine aa ?_ (Ss _ _ _);exact hU S (O.ah y::(p++d)) 0 _
   have a:y.length+1+t.length<=500:=by refine aa ?_ (Un _ _ _);exact hb
   have ht:=pe (g:=λD r=>ev (Ph (n+1)) av (.aq Sp) D [N] r) (f:=λD r=>ev (Ph (n+1)) av xR D [N] r) (u:=[1]) (y:=t.map λk=>[.ab k.bI]) (l:=[Option.none,q]) (r:=[.ab k.bI]) rfl (rfl:_=R.aj (V.aq Sp) _) x T (Sz.mpr ⟨et (Sq (SH _ _) (a5 a rfl)),aa (J _ _) s⟩);rw[s]at ht
   set_option tactic.hygienic true in obtain⟨C,Z,h3,h4⟩:=ih (y:=y++[.ab v.bI]) (λk b=>H k (.tail _ b)) F (by refine aa ?_ Sr;exact a)
   rename_i Q E;refine .mk (E:=v::E) ((ht.trans C).trans (by refine aS ?_ (Ss _ _ _) (Ss _ _ _);rfl)) (λc u=>?_) (congrArg (_::·) h3) (.cons (λc u=>⟨?_,?_⟩) h4)
   ·rcases Tq.mp u with rfl|u
    ·refine⟨λA=>?_,bQ w.bg,Sq (To n6.symm) (Tx X.length),rfl⟩
     have:=(M A).A (z:=Q);rw[Ss,Ss]at this;exact this
    ·refine j5 (Z c u) λg1 g2 g3 g4=>?_
     exact⟨λA=>Ss p d Q▸g1 A,g2,Sq (SF (SE (by refine aa ?_ Sr;exact SH _ _)) _) g3,g4⟩
   ·refine cW (aT (Tv u) h3:(c.bF,c.bJ,c.dK)∈t.map λk=>_) λW b I=>?_
    exact λz=>L W b (z.trans (congrArg WK I).symm)
   ·refine SQ (SA ?_ (Z c u).2.2.1)
    refine aa ?_ Sr;exact SA (Xj (S8 (To n6) (Td _))) (SF (SE (SF (by decide:2<=4) p.length)) S.length)
noncomputable abbrev mA:Internal.S:=uV.aA.bs.fW.fW
noncomputable def eZ (A al F:Nat) (y4 y5:Option V):bo:=[Sn (.ab A),Sn (.ab al),Sn .az,Sn (.ab F),y4,y5]
def dX.n.a {S} {c:dX} (h:c.n S B) (q:S[F]?=Sn (.ah z)) (y:F≠c.bF) (j:F≠c.dn):c.n (S.set F o) B:=⟨cF h.aZ q,cF h.dm q,eB y h.bg,eB j h.bU,h.cP⟩
def DO (p q:Nat) (S S':List O):Prop:=∀(a:Nat) (o:O),a≠p->a≠q->S[a]?=Sn o->S'[a]?=Sn o
def dX.n.iN {S} {p} {c:dX} (h:c.n S B) (g:DO p q S I) (G:∃F,S[p]?=Sn (.ah F)) (H:∃F,S[q]?=Sn (.ah F)) (J:c.bF≠p/\c.bF≠q) (K:c.dn≠p/\c.dn≠q):c.n I B:=by
 obtain⟨F,G⟩:=G;obtain⟨L,H⟩:=H;exact⟨g _ _ (fQ h.aZ G).symm (fQ h.aZ H).symm h.aZ,g _ _ (fQ h.dm G).symm (fQ h.dm H).symm h.dm,g _ _ J.1 J.2 h.bg,g _ _ K.1 K.2 h.bU,h.cP⟩
inductive Rn (n N A al F:Nat) (y4:Option V) (m:Nat) (c:dX) (r:Ws) (pr:List Int) (S:List O):Prop where
 |mk {S':List O} (h:EX (Ph n) (eZ A al F y4 (Sn (.ab m))) [N] mA.bs.bs.bs.fW S (.aD (eZ A al F y4 (Sn (.ab m))) S')) (g:DO c.bF c.dn S S') (hw:S'[c.bF]?=Sn (.ah ((c.bJ++r).map .ag))) (hp:S'[c.dn]?=Sn (.ah ((c.dK++pr).map .ae))) (le:S.length<=S'.length)
def OK {S} {e c:dX} (K:S[N]?=Sn (.a9 (Sn (.ab e.bI)))) (j:e.n S B) (p:e.bJ=G::r) (g:e.dK=L::i) (q:c.n S D) (x:S[m]?=Sn (.ah (P++[.ab c.bI]))) (M:e.bF≠c.bF/\e.dn≠c.bF) (U:c.bF≠c.dn) (C:m≠c.bF) (l:c.bJ.length+r.length<=900) (t:c.dK.length+i.length<=900):Rn n N A w F k m c r i S:=by
 have d:∀{b} {f:b->V} {u} {Z:List b},bP ((u::Z).map f) 1 (Z.map f):=λ{b f u Z}=>⟨rfl,SE (S6 _)⟩
 have E:EV (Ph n) (eZ A w F k (Sn (.ab m))) [N] (.ay (.aM (.ad 5) (.ae (-1))) 2) S (.ab c.bF) S:=.ay (xN .ad x) (gq q.aZ q.dm rfl);have T:EV (Ph n) (eZ A w F k (Sn (.ab m))) [N] (.cT (.ay (.aW 0) 2) (.ae 1) .az) S (.ab S.length) _:=.cT (.ay (.aW K) (gq j.aZ j.dm rfl)) .ae .az (nS j.bg (aa d p) (by refine aa ?_ (Sx _);exact aa (Nat.succ_le_of_lt (S8 (Sq (TC _ _) l) (by decide))) p));obtain⟨s,I⟩:=EX.M E T q.bg bV (SQ (bQ q.bg)) (by refine aS ?_ (Sx _) (Sx _);exact Sq l (by decide))
 let z:=S.set c.bF (O.ah (c.bJ.map .ag++r.map .ag))++s
 have v:∀(a:Nat) (o:O),a≠c.bF->S[a]?=o->z[a]?=o:=λa o Y h=>aC (eB Y.symm h);have y:=v _ _ U.symm q.bU;have a2:EV (Ph n) (eZ A w F k (Sn (.ab m))) [N] (.ay (.aM (.ad 5) (.ae (-1))) 3) z (.ab c.dn) z:=.ay (xN .ad (v _ _ C x)) (gq (aC (cF q.aZ q.bg)) (aC (cF q.dm q.bg)) rfl);have b2:EV (Ph n) (eZ A w F k (Sn (.ab m))) [N] (.cT (.ay (.aW 0) 3) (.ae 1) .az) z _ _:=.cT (.ay (.aW (aC (cF K q.bg))) (gq (aC (cF j.aZ q.bg)) (aC (cF j.dm q.bg)) rfl)) .ae .az (nS (v _ _ M.2 j.bU) (aa d g) (by refine aa ?_ (Sx _);refine aa ?_ g;exact Nat.succ_le_of_lt (S8 (Sq (TC _ _) t) (by decide))))
 obtain⟨W,x2⟩:=EX.M a2 b2 y bV (SQ (bQ y)) (by refine aS ?_ (Sx _) (Sx _);exact Sq t (by decide));refine .mk (.D (.k9 (.R3 .ad x) (by induction P using SD<;>rfl)) (.am I (.am x2 .aw))) (λa o Y hb h=>aC (eB hb.symm (v a o Y h))) ?_ ?_ ?_
 ·refine aa ?_ Ta
  exact aC (eB U.symm (aC (dH q.bg)))
 ·refine aa ?_ Ta
  exact aC (dH y)
 ·refine Sq ?_ (jE _ W)
  refine aa ?_ SS;refine Sq ?_ (jE _ s);refine aa ?_ SS;exact SJ _
noncomputable def cM:Nat->List Nat
 |0=>[116,119,111]
 |1=>[111,110,101]
 |2=>[110,111]
 |_=>[111,116,104,101,114]
noncomputable def mB (k:Nat) (u:List Nat):eQ:=.lm (k::u) (k::u)
noncomputable def uo:Nat->List eQ
 |0=>[mB 111 [110,101],.gn,mB 120 [],.gn,.pk,.gn,mB 112 [],.gn,.lm [39,121,32,122,39] [121,32,122]]
 |1=>[mB 113 []]
 |2=>[.gn,.nI [32,114]]
 |_=>[mB 97 [],.gn,mB 98 [],.pk,.gn,mB 99 []]
noncomputable def pI:Nat->List Ws
 |0=>[[[111,110,101],[120]],[[112],[121,32,122]]]
 |1=>[[[113]]]
 |2=>[]
 |_=>[[[97],[98]],[[99]]]
noncomputable def kH:Nat->List Nat
 |0=>[111,110,101,32,120,32,59,32,112,32,39,121,32,122,39]
 |1=>[113]
 |2=>[32,35,32,114]
 |_=>[97,32,98,59,32,99]
def n7 (h:(!(k==126)&&(!(k==37)&&(k::u).all λc=>SW (c<256)&&im c))=Sp) (y:mn L):(mB k u).n L:=by
 have q:=Sz.mp h;have z:=Sz.mp q.2;exact⟨.inl ⟨rfl,⟨k,u,rfl,beq_eq_false_iff_ne.mp (Vm _|>.mp q.1),beq_eq_false_iff_ne.mp (Vm _|>.mp z.1)⟩,λc j=>(Sz.mp (SN.mp z.2 c j)).imp of_decide_eq_true id⟩,y⟩
theorem OL:∀d,d<4->nJ (uo d)
 |0,_=>⟨n7 (by decide+kernel) (.inr ⟨_,.inl rfl⟩),trivial,n7 (by decide+kernel) (.inr ⟨_,.inl rfl⟩),trivial,trivial,trivial,n7 (by decide+kernel) (.inr ⟨_,.inl rfl⟩),trivial,⟨.inr (.inr ⟨rfl,by decide⟩),.inl rfl⟩,trivial⟩
 |1,_=>⟨n7 (by decide+kernel) (.inl rfl),trivial⟩
 |2,_=>⟨trivial,⟨rfl,by decide⟩,trivial⟩
 |3,_=>⟨n7 (by decide+kernel) (.inr ⟨_,.inl rfl⟩),trivial,n7 (by decide+kernel) (.inr ⟨_,.inr rfl⟩),trivial,trivial,n7 (by decide+kernel) (.inl rfl),trivial⟩
 |d+4,h=>absurd h (TN.mpr (TC 4 d))
def OM:∀d,d<4->(kH d).length<=100000/\kH d=ln (uo d)/\(uo d).length<jI/\pn (uo d)=pI d:=by decide+kernel
def DP (z:d<4):xa q (Internal.aU (Ph (n+6)) av sh.aA [Sn (.ag (kH d)),Sn .az,Sn .az] [] q) (pI d):=by
 refine aQ λG y=>?_;refine j5 (OM d z) λj w k p=>?_;have:=CX (z:=q) (n:=n) j w (OL d z) k (.inl rfl);rw[p]at this;exact y this
noncomputable def kJ:List (V×V):=[(.ag (cM 0),.ag (kH 0)),(.ag (cM 1),.ag (kH 1)),(.ag (cM 2),.ag (kH 2))]
def ON:∀d,d<4->(kJ.any λe=>e.1==.ag (cM d))=SW (d<3):=by decide+kernel
def OO:∀d,d<3->kJ.lookup (.ag (cM d))=Sn (.ag (kH d)):=by decide+kernel
def DR:eJ (.ag w) kJ=Sp:=(by decide+kernel:eg kJ=true)
noncomputable abbrev CT:=Int×Ws×List Int
noncomputable def uq (r:Ws) (pr:List Int) (E:List CT):List CT:=E.dropLast++(E.getLast?.map λq=>(q.1,q.2.1++r,q.2.2++pr)).toList
noncomputable def pJ (d:Nat) (g:Int) (r:Ws) (p0:Int) (pr:List Int):List CT:=if d<3 then uq r pr ((pI d).map λw=>(g,w,SI w.length p0))else[(g,cM d::r,p0::pr)]
noncomputable def kK (c:dX):CT:=(c.cI,c.bJ,c.dK)
def OP:uq r z (E++[q])=E++[(q.1,q.2.1++r,q.2.2++z)]:=by
 delta uq;refine aa (aa ?_ List.getLast?_concat) List.dropLast_concat;rfl
structure ly (σ S:List O) (N F:Nat) (done:List dX):Prop where
 ee:∀a,a<N->S[a]?=σ[a]?
 aW:∃q,S[N]?=Sn (.a9 q)
 cL:S[F]?=Sn (.ah (done.map λc=>.ab c.bI))
 aj:∀c∈done,c.n S 0/\F≠c.bF/\F≠c.dn
structure OT (σ:List O) (e:dX) (d:Nat) (r:Ws) (p0:Int) (pr:List Int):Prop where
 aj:e.n σ 0
 bJ:e.bJ=cM d::r
 dK:e.dK=p0::pr
 rO:d<4
 bd:r.length<=100/\pr.length<=100
inductive Rp (n N A al F:Nat) (σ S:List O) (e:dX) (y4 y5:Option V) (done:List dX) (D:List CT):Prop where
 |mk {S':List O} {z_ A4:Option V} {E:List dX} (h:EX (Ph (n+7)) (eZ A al F y4 y5) [N] mA (S.set N (.a9 (Sn (.ab e.bI)))) (.aD (eZ A al F z_ A4) S')∨EX (Ph (n+7)) (eZ A al F y4 y5) [N] mA (S.set N (.a9 (Sn (.ab e.bI)))) (.dR (eZ A al F z_ A4) S')) (hx:ly σ S' N F (done++E)) (hd:E.map kK=D)
def DS (b:m≠F) (h:EX (Ph n) (eZ A y F j (Sn (.ab m))) [N] mA.bs.bs.bs.fW e (.aD (eZ A y F j (Sn (.ab m))) z)) (w:z[F]?=Sn (.ah (done.map λc=>.ab c.bI))) (p:z[m]?=Sn (.ah (E.map λc=>.ab c.bI))) (v:∀c∈done++E,c.n z 0/\F≠c.bF/\F≠c.dn) (r:∀a,a<N->z[a]?=t[a]?) (u:∃q,z[N]?=Sn (.a9 q)) (k:N<F) (x:done.length+E.length<=1000):
  ∃g,EX (Ph n) (eZ A y F j (Sn (.ab m))) [N] mA.bs.bs.bs e (.aD (eZ A y F j (Sn (.ab m))) g)/\ly t g N F (done++E):=by
 obtain⟨Q,d⟩:=EX.M (l:=eZ A y F j _) (.ad (i:=3)) (aa (.ad (i:=5)) (SY _)) w (aa p (SY _)) b.symm (by exact aS x (Sx _) (Sx _));rw[<-Ta]at d;refine⟨_,.am h (.am d .aw),λa f=>?_,?_,aC (dH w),λc Z=>?_⟩
 ·refine aa (aa ?_ (Ti (TB (TP f k)))) (SM (by
    exact aa (TP f (TP k (bQ w))) SS))
  exact r a f
 ·obtain⟨q,J⟩:=u
  exact⟨q,aC (cF J w)⟩
 ·refine j4 (v c Z) λW s o=>?_
  exact⟨(W.a w s o).A,s,o⟩
def xS:∀d,d<4->(pI d).length<=2/\∀w∈pI d,w.length<=2:=by decide+kernel
def ly.a9 {S} (h:ly w S N F done) (p:∃y,o=O.a9 y):ly w (S.set N o) N F done:=by
 obtain⟨q,j⟩:=h.aW;obtain⟨y,rfl⟩:=p;exact⟨λa k=>(Ti (TB k)).trans (h.ee a k),⟨y,dH j⟩,cF h.cL j,λc z=>⟨⟨cF ((h.aj c z).1).aZ j,cF ((h.aj c z).1).dm j,cF ((h.aj c z).1).bg j,cF ((h.aj c z).1).bU j,((h.aj c z).1).cP⟩,(h.aj c z).2⟩⟩
inductive Ro (n N A al F:Nat) (S1:List O) (e:dX) (y5:Option V) (d:Nat) (r:Ws) (p0:Int) (pr:List Int):Prop where
 |mk {τ d_:List O} {E:List dX} (h:EX (Ph (n+7)) (eZ A al F (Sn (.ag (cM d))) y5) [N] mA.bs.bs.fW S1 (.aD (eZ A al F (Sn (.ag (cM d))) (Sn (.ab (S1++τ).length))) (S1++τ++(.ah (E.map λc=>.ab c.bI)::d_)))) (ok:∀c∈E,c.n (S1++τ++(.ah (E.map λc=>.ab c.bI)::d_)) 0/\S1.length<=c.bF/\c.bF<(S1++τ).length/\(S1++τ).length<c.dn/\c.bJ.length<=2/\c.dK.length<=2)
  (pw:E.Pairwise λa b=>a.bF≠b.bF/\a.dn≠b.dn) (hd:E.map kK=(pI d).map λw=>(e.cI,w,SI w.length p0))
def OQ (l:J[N]?=Sn (.a9 (Sn (.ab e.bI)))) (Y:J[Z]?=Sn (.aE kJ)) (C:e.n J B) (i:e.dK=D::f) (m:d<3):Ro n N A Z F J e t d r D f:=by
 have K:=Um m
 set_option tactic.hygienic true in obtain⟨h,a,c,T,ap,q⟩:=DP K
 rename_i s o P;have H:∀k∈P,k.bJ.length<=2:=λk I=>(xS d K).2 _ (aT (Tv I) q);have y:P.length<=2:=by
  have:=(xS d K).1
  rwa [<-q,Sx]at this
 set_option tactic.hygienic true in obtain⟨h1,b,v,h5⟩:=OJ (y:=[]) (Y:=bn o (J++s)) (aC l) C.A i (λA' j=>beq_iff_eq.mpr (SM (bQ c))) P (λk I=>⟨T k I,a5 (H k I) rfl⟩) ap (Sq (To (Ud _)) (a5 y rfl))
 rename_i j E;have w:∀c∈E,∃k∈P,k.bF=c.bF/\k.bJ=c.bJ/\SI k.bJ.length D=c.dK:=λc Q=>by
  refine aQ λG p=>?_;refine cW (aT (Tv Q) v) λk I C=>?_;obtain⟨u,W⟩:=YP C;obtain⟨W,g⟩:=YP W;exact p ⟨k,I,u,W,g⟩
 refine .mk (.a6 (EV.R2 (.RM (.bR (.ai (.aM .ad .ad (rj Y DR (OO d m))) (.a7 .ad)) (cj rfl h)) (decide_eq_false (TN.mpr a))) (jP c) rfl (aa h1 Tp))) (λc Q=>?_) h5 (by
  have z:E.map kK=(E.map λU=>(U.bF,U.bJ,U.dK)).map λM=>(e.cI,M.2.1,M.2.2):=by
   refine aa ?_ Tp;exact UM λU f=>by delta kK;refine aa ?_ ((λc Q=>(b c Q).2.2.2) U f);rfl
  refine aa (aa ?_ v) z;refine aT (aa ?_ Tp) q;refine aa ?_ Tp;rfl)
 refine aQ λG p=>?_;refine j5 (b c Q) λg1 g2 g3 g4=>?_;refine yt (w c Q) λk I u W g=>?_;exact p ⟨g1 _,aT ((T k I).cP.2.2.1) u,g2,SA (Td _) g3,aT (H k I) W,by refine aT (aa (H k I) Uh) g⟩
def OS {S} (hN:N=i.length) (U:N<F) (B:i[b]?=Sn (.aE kJ)) (hX:ly i S N F done) (l:OT i e d r p0 I) (hb:done.length<=400):Rp n N A b F i S e y4 L done (pJ d e.cI r p0 I):=by
 let j:=S.set N (O.a9 (Sn (.ab e.bI)))
 have k:ly i j N F done:=hX.a9 ⟨_,rfl⟩;have Z:j[N]?=Sn (.a9 (Sn (.ab e.bI))):=let⟨_,y⟩:=hX.aW;dH y
 have Y:∀{a:Nat} {o:O},i[a]?=o->j[a]?=o:=λh=>(k.ee _ (aa (bQ h) hN)).trans h;have M:=l.aj.fV λζ ζ ζ h=>Y h;have J:=l.rO;have GS:(e.bJ.map V.ag)[0]?=Sn (.ag (cM d)):=by refine aa ?_ l.bJ;rfl
 have s1:EX (Ph (n+7)) (eZ A b F y4 L) [N] mA.fW j (.aD (eZ A b F (Sn (.ag (cM d))) L) j):=.a6 (.RT (.ay (.aW Z) (gq M.aZ M.dm rfl)) M.bg GS);have m:EV (Ph (n+7)) (eZ A b F (Sn (.ag (cM d))) L) [N] (.tr (.aB .gh (.ad 4) (.ad 1))) j (.aq (!SW (d<3))) j:=.E .ad .ad ((tZ (Y B) DR).trans (congrArg (λq=>Sn (!q)) (ON d J)));have v:e.bF<N/\e.dn<N:=⟨aa (bQ l.aj.bg) hN,aa (bQ l.aj.bU) hN⟩
 rcases YA d 3 with H|H
 ·refine aQ λG W=>?_
  replace m:=(decide_eq_true H)▸m
  set_option tactic.hygienic true in obtain⟨h,ok,pw,hd⟩:=OQ (r:=r) Z (Y B) M l.dK H
  rename_i τ d_ E;refine W ?_;let C:=j++τ
  let x:=C++(O.ah (E.map λc=>.ab c.bI)::d_)
  have up:∀{a:Nat} {o:O},j[a]?=o->x[a]?=o:=λh=>aC (aC h);have K:x[C.length]?=Sn (.ah (E.map λc=>.ab c.bI)):=bA C _ 0;have w:j.length<=C.length:=jE _ _;have u:=bQ k.cL;have Rd:=TB (SA u w);have Rh:E.length<=2:=by
   have:=congrArg US hd;rw[Sx,Sx]at this;exact aa ((xS d J).1) this
  have t:∀{a:Nat},a<N->a<j.length:=λh=>TP h (TP U u);have hD:pJ d e.cI r p0 I=uq r I (E.map kK):=(if_pos H).trans (congrArg _ hd.symm);rcases List.eq_nil_or_concat E with rfl|⟨E',c,Rl⟩
  ·refine aQ λG W=>?_
   obtain⟨S',h9,T⟩:=DS Rd (.C (.k9 (.R3 .ad K) rfl) .aw) (up k.cL) K (λc hc=>by rw[SY]at hc;exact⟨((k.aj c hc).1.A).A,(k.aj c hc).2⟩) (λa f=>(SM (SA (t f) w)).trans ((SM (t f)).trans (k.ee a f))) ⟨_,up Z⟩ U (a5 hb rfl);refine W ?_;exact⟨.inl (.am s1 (.am (.C m .aw) (.am h h9))),T,hD.symm⟩
  ·refine aQ λG W=>?_
   rw[List.concat_eq_append]at Rl;subst Rl;obtain⟨p,c2,c3,c4,c5,c6⟩:=ok c (Ve _ (.head _));have Q:=K.trans (congrArg (λz=>Sn (O.ah z)) Ta)
   set_option tactic.hygienic true in obtain⟨Z0,g,Z1,Z2,le5⟩:=OK (up Z) (M.A.A:e.n x 0) l.bJ l.dK p Q ⟨SQ (SA (t v.1) c2),SQ (SA (t v.2) c2)⟩ (SQ (TP c3 c4)) (TB c3) (Sq (Up c5 l.bd.1) (by decide)) (Sq (Up c6 l.bd.2) (by decide))
   rename_i S5;refine W ?_;let c':={c with bJ:=c.bJ++r,dK:=c.dK++I}
   have ne:∀{a:Nat},a<j.length->a≠c.bF/\a≠c.dn:=λh=>⟨SQ (SA h c2),SQ (TP (SA h (Sq w (SJ _))) c4)⟩
   have s:∀{a:Nat} {o:O},j[a]?=o->S5[a]?=o:=λh=>g _ _ (ne (bQ h)).1 (ne (bQ h)).2 (up h);have mW:∃xs,x[c.bF]?=Sn (.ah xs):=⟨_,p.bg⟩
   have mP:∃xs,x[c.dn]?=Sn (.ah xs):=⟨_,p.bU⟩
   have hold:∀a,a<N->S5[a]?=i[a]?:=λa f=>by
    have T:j[a]?=j[a]:=S0 (t f);refine aa ?_ (s T);refine aT ?_ (k.ee a f);exact aa rfl T
   obtain⟨S',h9,T⟩:=DS Rd Z0 (s k.cL) ((g _ _ (TB c3) (SQ c4) Q).trans (congrArg (λz=>Sn (O.ah z)) (Ta (l₂:=[c'])).symm)) (λq y=>by
    rcases Tn.mp y with y|y
    ·obtain⟨q1,q2⟩:=k.aj q y
     exact⟨((q1.A).A:q.n x 0).iN g mW mP (ne (bQ q1.bg)) (ne (bQ q1.bU)),q2⟩
    ·rcases Tn.mp y with y|y
     ·refine aQ λG W=>?_
      obtain⟨o1,o2,o3,o4,-,-⟩:=ok q (List.mem_append_left _ y);have hp:=(List.pairwise_append.mp pw).2.2 q y c (.head _);refine W ?_;exact⟨o1.iN g mW mP ⟨hp.1,SQ (TP o3 c4)⟩ ⟨TB (TP c3 o4),hp.2⟩,SQ (SA u o2),SQ (TP (SA u w) o4)⟩
     ·refine aa ?_ (SP.mp y)
      exact⟨⟨g _ _ (fQ p.aZ p.bg).symm (fQ p.aZ p.bU).symm p.aZ,g _ _ (fQ p.dm p.bg).symm (fQ p.dm p.bU).symm p.dm,Z1,Z2,p.cP⟩,SQ (SA u c2),SQ (TP (SA u w) c4)⟩) hold ⟨_,s Z⟩ U (by
     rw[Sr]at Rh⊢;exact a5 (Up hb Rh) rfl)
   refine⟨.inl (.am s1 (.am (.C m .aw) (.am h h9))),T,?_⟩;refine aS ?_ Ta hD;refine aa ?_ Ta;exact(OP (q:=kK c)).symm
 ·have Z3:d=3:=V0 (V9 J) H
  subst Z3;have f:EX (Ph (n+7)) (eZ A b F (Sn (.ag (cM 3))) L) [N] (.aU (.tr (.bK .dN (.ad 3) (.ai (.aW 0) .ao)))) j (.aD (eZ A b F (Sn (.ag (cM 3))) L) (j.set F (.ah (done.map (λc=>V.ab c.bI)++[.ab e.bI])))):=.RH .ad (.aW Z) k.cL (by refine aa ?_ (Sx _);exact S8 hb (by decide));have hs:done.map (λc=>V.ab c.bI)++[.ab e.bI]=(done++[e]).map λc=>V.ab c.bI:=(Ta (l₂:=[e])).symm;rw[hs]at f;have P:F≠e.bF/\F≠e.dn:=⟨TB (TP v.1 U),TB (TP v.2 U)⟩
  refine⟨.inr (.am s1 (.F (.D m (.am f (.F .dR))))),⟨λa f=>(Ti (TB (TP f U))).trans (k.ee a f),⟨_,cF Z k.cL⟩,dH k.cL,λq y=>?_⟩,?_⟩
  ·rcases Tn.mp y with y|y
   ·refine j4 (k.aj q y) λq1 q2 q3=>?_
    exact⟨q1.a k.cL q2 q3,q2,q3⟩
   ·refine aa ?_ (SP.mp y)
    exact⟨M.a k.cL P.1 P.2,P⟩
  ·show[(e.cI,e.bJ,e.dK)]=_
   refine aS ?_ l.dK l.bJ;rfl
structure Rq where
 cS:Nat
 nh:Ws
 xT:Int
 ur:List Int
noncomputable abbrev ED:=dX×Rq
noncomputable def ED.a (q:ED):List CT:=pJ q.2.cS q.1.cI q.2.nh q.2.xT q.2.ur
def ED.n (σ:List O) (q:ED):Prop:=OT σ q.1 q.2.cS q.2.nh q.2.xT q.2.ur
theorem xU:∀d,d<4->(pJ d g r q z).length<=2
 |0,_=>SJ 2
 |1,_=>Tx 1
 |2,_=>S6 2
 |3,_=>Tx 1
 |d+4,h=>absurd h (TN.mpr (TC 4 d))
inductive Rr (n N A al F:Nat) (σ S:List O) (st:List O->Bool) (es:List ED) (y4 y5:Option V) (done:List dX):Prop where
 |mk {S':List O} {z_ A4:Option V} {E:List dX} (h:ew (λl a_=>Internal.aU (Ph (n+7)) av mA l [N] a_) (λrow l a_=>dZ (Ph (n+7)) av [.aW 0] row l [N] a_) st (es.map λq=>[.ab q.1.bI]) (eZ A al F y4 y5) S=.aD (eZ A al F z_ A4) S') (hx:ly σ S' N F (done++E)) (hd:E.map kK=es.flatMap ED.a)
def OU (Q:N=z.length) (Z:N<F) (r:z[u]?=Sn (.aE kJ)) (k:∀T,(∀a,a<N->T[a]?=z[a]?)->t T=Sp) (y):∀{S} {j w} {done},ly z S N F done->(∀q∈y,q.n z)->done.length+2*y.length<=400->Rr n N A u F z S t y j w done:=by
 induction y with
 |nil=>exact λ{S j w done} h Y Y=>.mk rfl (by refine aa h (SY _)) rfl
 |cons q y J=>
  intro S j w done h d g;have s:=d q (.head _);obtain⟨C,W⟩:=h.aW;have o:dZ (Ph (n+7)) av [.aW 0] [.ab q.1.bI] (eZ A u F j w) [N] S=.aD _ _:=tS rfl W
  set_option tactic.hygienic true in obtain⟨p,l,b⟩:=OS Q Z r h s (Sq (SH _ _) g)
  rename_i D f m E
  set_option tactic.hygienic true in obtain⟨v,e,K⟩:=J (j:=f) (w:=m) l (λx P=>d x (.tail _ P)) (by
   rw[TS,WR,TH _ 2,<-TK]at g;exact aa (Sq (TU (SF (by
     have:=congrArg US b;rw[Sx]at this;exact aa (xU _ s.rO) this) _) _) g) Sr)
  rename_i U G L M;have i:(E++M).map kK=(q::y).flatMap ED.a:=by refine aa (aa ?_ b) Ta;refine aS ?_ Uz K;rfl
  rw[Ss]at e;rcases p with p|p
  ·exact⟨fP o p (k _ l.ee) v,e,i⟩
  ·exact⟨Lk o p (k _ l.ee) v,e,i⟩
inductive Rs (n A al:Nat) (σ:List O) (D:List CT):Prop where
 |mk {τ:List O} {F:Nat} {E:List dX} (h:Ph (n+8) 14 [.ab A,.ab al] σ=.aj (.ab F) (σ++τ)) (lo:σ.length<=F) (f:(σ++τ)[F]?=Sn (.ah (E.map λc=>.ab c.bI))) (ok:∀c∈E,c.n (σ++τ) 0) (hd:E.map kK=D)
def OV {j:List ED} (t:z[A]?=Sn (.ah (j.map λq=>.ab q.1.bI))) (f:z[k]?=Sn (.aE kJ)) (v:∀q∈j,q.n z) (Q:j.length<=100):Rs n A k z (j.flatMap ED.a):=by
 let u:=z++[O.a9 Option.none]++[O.ah []]
 have y:(z++[O.a9 Option.none]).length=z.length+1:=Sr;have d:ly z u z.length (z.length+1) []:=⟨λa s=>(SM (aa (Um s) y)).trans (SM s),⟨_,aC bV⟩,aT bV y,λG h=>nomatch h⟩
 have p:=bQ t
 set_option tactic.hygienic true in obtain⟨Z,g,Y⟩:=OU (t:=bn A u) rfl (Td _) f (λT h=>beq_iff_eq.mpr ((h A p).trans (d.ee A p).symm)) j d v (Sq (To (Ud _)) (a5 (TM 2 Q) rfl))
 rename_i L J W E;have w:(j.map λq=>V.ab q.1.bI).map (λx=>[x])=j.map λq=>[V.ab q.1.bI]:=Tp;have e:EX (Ph (n+7)) _ [z.length] uV.aA _ _:=.am (by
   have:=EX.a6 (z:=Ph (n+7)) (l:=[Sn (.ab A),Sn (.ab k),Sn .az,Option.none,Option.none,Option.none]) (c:=[z.length]) (i:=3) (EV.bj (w:=z++[.a9 Option.none]) .ao);rw[y]at this;exact this) (.am (.eG .ad (jP (aC (aC t))) (ja rfl _) (aa Z w)) (.A (.aO .ad)))
 have o:Ph (n+8) 14 [.ab A,.ab k] z=gM (.aO _ _):=nN rfl e;have U:=nK g.ee (Sq (Tx _) (Tu (bQ g.cL)));have b:=g.cL;have r:=g.aj;rw[U]at o b r;exact⟨o,Tx _,b,λc m=>(r c m).1,Y⟩
noncomputable def mC (N:Nat):List (V×V):=[(.ag (cM 0),.ab (N+6)),(.ag (cM 1),.ab (N+8)),(.ag (cM 2),.ab (N+9))]
noncomputable def kL (N t:Nat) (y:Option V) (cm du:List V) (τ:List O):List O:=.a9 (Sn (.ab t))::.a9 y::.aE kJ::.aE (mC N)::.ah [.ag [111,110,101],.ag [120]]::.ah [.ag [112],.ag [121,32,122]]::.ah [.ab (N+4),.ab (N+5)]::.ah [.ag [113]]::.ah [.ab (N+7)]::.ah []::.ah cm::.ah du::τ
noncomputable def bS (σ:List O) (t j k:Nat) (y:Option V) (cm du:List V) (τ:List O):List O:=σ.set t (.ah [.ab j,.ae k])++kL σ.length t y cm du τ
def dM (q):(bS z t j k y w p r)[z.length+q]?=(kL z.length t y w p r)[q]?:=(congrArg (λn=>_[n+q]?) SS.symm).trans (bA _ _ q)
def rP (q):(bS z t j k y w p r).set (z.length+q) o=z.set t (.ah [.ab j,.ae k])++(kL z.length t y w p r).set q o:=(congrArg (λn=>(bS z t j k y w p r).set (n+q) o) SS.symm).trans (hU _ _ q o)
def iL:(bS q t j k y w p z).length=q.length+(z.length+12):=by delta bS;refine aa (aa ?_ SS) Sr;rfl
def iM:bS z t j k y w p r++q=bS z t j k y w p (r++q):=Ss _ _ _
def OW (T:eC z t j m L) (u:0<q):Ph (n+1) 16 [.ab t,.ae q] (bS z t j k y w p r)=.aj (.ae (iV L k q)) (bS z t j (k+1) y w p r):=by
 refine(mh (⟨aC (dH T.fy),aC (eB T.bM.symm T.nE),T.bM⟩) u).trans (congrArg (R.aj _) ?_);delta bS;refine aa (aa ?_ (VG _)) (Ue _ _ (aT (bQ T.fy) SS.symm));rfl
def EV.R7 (T:eC F t j m L) (K:0<q) (M:cO (Ph (n+1)) l c J (bS F t j k y G H I) [.ab t,.ae q] (bS F t j k y G H I)):EV (Ph (n+1)) l c (.tr (.bR 16 J)) (bS F t j k y G H I) (.ae (iV L k q)) (bS F t j (k+1) y G H I):=.RO (.bR M (OW T K)) (iL.trans iL.symm)
def mD:xK (z.length+12) (bS z t j k y g l u) (bS z t j f m w p (u++r)):=λa o c h=>by
 obtain⟨q,rfl⟩:=Nat.exists_eq_add_of_le c;rw[TK,TH 12 q]at h⊢;exact(dM (q+12)).trans (aC (((dM (q+12)).symm.trans h)))
def xV:(bS q t j k y w p (z++[o]))[q.length+(z.length+12)]?=Sn o:=(dM _).trans bV
def lz (q):(bS p t j k y r u (w++z))[p.length+(w.length+q+12)]?=z[q]?:=(dM _).trans (bA w z q)
def EV.Sb {S} (I:cO p l c F S q (bS z t j k y G H w)) (h:autoParam (cR q.length=Sp) tR):EV p l c (.bj F) S (.ab (z.length+(w.length+12))) (bS z t j k y G H (w++[.ah q])):=by
 have:=EV.bj I h;rw[iL,iM]at this;exact this
noncomputable abbrev iZ:Internal.S:=jL.aA.bs.bs.bs.fW.fW
noncomputable def hV (N:Nat) (y4 y5 y6 y7 y8 y9 g_ h_:Option V):bo:=[Sn (.ab (N+2)),Sn (.ab (N+3)),Sn (.ab (N+10)),Sn (.ab (N+11)),y4,y5,y6,y7,y8,y9,g_,h_]
def OX:∀d,d<4->([cM 0,cM 1,cM 2,cM 3].map V.ag)[d]?=Sn (.ag (cM d)):=by decide+kernel
noncomputable def rQ:List (List Nat):=[[118],[111,110,101],[45,97]]
inductive Rt (n t j:Nat) (σ τ:List O) (k:Nat) (y:Option V) (cm du:List V) (l:bo):Prop where
 |mk {d:Nat} {o:O} (h:EV (Ph (n+1)) l [σ.length,σ.length+1] iZ.fW.d (bS σ t j k y cm du τ) (.ab (σ.length+(τ.length+1+12))) (bS σ t j (k+1) y cm du (τ++[o,.ah [.ag (cM d)]]))) (hd:d<4)
def OY (T:eC z t j m L):Rt n t j z w k y p r l:=by
 obtain⟨d,u,f⟩:=jT (q:=4) (by decide);have e:EV (Ph (n+1)) l [z.length,z.length+1] (.tr (.bR 16 (.ai (.aW 0) _))) (bS z t j k y p r (w++[.ah ([cM 0,cM 1,cM 2,cM 3].map .ag)])) _ _:=f▸EV.R7 T (by decide) (.ai (.aW (dM 0)) (.a7 .ae));have g:=EV.Sb (.a7 (.aM (.Sb (cO.b _)) e (pg xV (OX d u))));rw[Sr,Ss]at g;exact⟨g,u⟩
def DT:(bS z t j k y p r (w++(o::q)))[z.length+(w.length+12)]?=Sn o:=lz 0
noncomputable abbrev xW:X:=.aM (.bj (lw rQ)) (.tr (.bR 16 (.ai (.aW 0) (.ai (.ae 3) .ao))))
def OZ (T:eC z t j m L):∃w,EV (Ph (n+1)) l [z.length] xW (bS z t j k y p r u) (.ag w) (bS z t j (k+1) y p r (u++[.ah (rQ.map .ag)])):=by
 obtain⟨d,g,f⟩:=jT (q:=3) (by decide);exact⟨_,.aM (.Sb (cO.b _)) (f▸EV.R7 T (by decide) (.ai (.aW (dM 0)) (.a7 .ae))) (pg xV ((Ut ..).trans (congrArg _ (S0 g))))⟩
inductive Ru (n t j:Nat) (σ τ d_:List O) (st:List O->Bool) (rows:List Nat) (k:Nat) (y:Option V) (cm du:List V) (acc:Ws) (q:Option V):Prop where
 |mk {k':Nat} {K8:List O} {r:Ws} (h:fI av (λl' a_=>ev (Ph (n+1)) av xW l' [σ.length] a_) (λl' a_=>ev (Ph (n+1)) av (.aq Sp) l' [σ.length] a_) st [1] (σ.length+(τ.length+12)) (rows.map λ(i:Nat)=>[.ae i]) [Option.none,q] (bS σ t j k y cm du (τ++(.ah (acc.map .ag)::d_)))=.aj (.ab (σ.length+(τ.length+12))) (bS σ t j k' y cm du (τ++(.ah ((acc++r).map .ag)::K8))))
  (hl:r.length=rows.length)
def O0 (T:eC e t j m L) (x:∀e,Z e=Sp) (z):∀{k} {p} {q} {u},p.length+z.length<=1000->Ru n t j e d u Z z k y s o p q:=by
 induction z with
 |nil=>exact λ{k p q u} G=>.mk (by refine aa ?_ (SY _);rfl) rfl
 |cons i z W=>
  intro k p q u Y;obtain⟨w,h⟩:=OZ (y:=y) (p:=s) (r:=o) (u:=d++(.ah (p.map .ag)::u)) T;rw[Ss,List.cons_append]at h;have a:(p++[w]).length+z.length<=1000:=by refine aa ?_ Sr;refine aa ?_ (TK _ _ _);refine aa ?_ (TH _ z.length);exact Y
  set_option tactic.hygienic true in obtain⟨K,P⟩:=W a
  rename_i F U r;have b:(bS e t j (k+1) y s o (d++(O.ah (p.map .ag)::(u++[.ah (rQ.map .ag)])))).set (e.length+(d.length+12)) (.ah (p.map .ag++[.ag w]))=bS e t j (k+1) y s o (d++(.ah ((p++[w]).map .ag)::(u++[.ah (rQ.map .ag)]))):=by
   refine aS ?_ Ta ((rP _).trans (congrArg (λz=>e.set t _++kL e.length t y s o z) (hU d ((O.ah (XN V.ag p))::(u++[O.ah (XN V.ag rQ)])) 0 (O.ah (XN V.ag p++[V.ag w])))));rfl
  have J:=pe (g:=λQ c=>ev (Ph (n+1)) av (.aq Sp) Q [e.length] c) (f:=λQ c=>ev (Ph (n+1)) av xW Q [e.length] c) (u:=[1]) (y:=z.map λ(i:Nat)=>[.ae i]) (l:=[Option.none,q]) (r:=[.ae i]) rfl (rfl:_=R.aj (V.aq Sp) _) h DT (Sz.mpr ⟨(et (by refine aa ?_ (Sx _);exact a5 (Sq (SF (T9 _) _) Y) rfl)),x _⟩);rw[b]at J;refine .mk ((J.trans K).trans (by refine aa ?_ (Ss _ _ _);rfl)) (congrArg (·+1) P)
inductive Rv (n t j:Nat) (σ τ:List O) (k:Nat) (y:Option V) (cm du:List V) (l:bo) (l':V->bo):Prop where
 |mk {d k':Nat} {d_:List O} {r:Ws} (h:∀{rest:Internal.S} {q:bC},EX (Ph (n+1)) (l' (.ab (σ.length+((τ++d_).length+12)))) [σ.length,σ.length+1] rest (bS σ t j k' y cm du (τ++d_++[.ah ((cM d::r).map .ag)])) q->EX (Ph (n+1)) l [σ.length,σ.length+1] (.am iZ.fW (.am iZ.bs.fW rest)) (bS σ t j k y cm du τ) q) (hd:d<4) (hl:r.length<=2)
def O1 (T:eC z t j m L):Rv n t j z c k y e s (hV z.length N Z F H I J g l) (λv=>hV z.length v Z F H I J g l):=by
 refine aQ λG P=>?_
 set_option tactic.hygienic true in obtain⟨U,W⟩:=OY T
 rename_i d o;obtain⟨u,a,Y⟩:=jT (q:=3) (by decide);refine P ?_;let w:=c++[o,O.ah [V.ag (cM d)]]
 set_option tactic.hygienic true in obtain⟨K,Q⟩:=O0 (p:=[]) T (λD=>rfl) _ (aa (Sq (To (Ud u)) (a5 (Tu a) rfl)) T6)
 rename_i M b r;replace Q:=T6▸Q;have x:EV (Ph (n+1)) (hV z.length (Sn (.ab (z.length+(c.length+1+12)))) Z F H I J g l) [z.length,z.length+1] (.tr (.bR 16 (.ai (.aW 0) _))) (bS z t j (k+1) y e s w) _ _:=Y▸EV.R7 T (by decide) (.ai (.aW (dM 0)) (.a7 .ae));rw[<-iM,<-iL]at K;have p:=EV.aV (.ad (i:=4)) (EV.R2 (j:=2) (J:=[0]) x (mp (Us (a5 (Tu a) rfl))) rfl K) (xP (by
   exact aa (lz 1) (Ss _ _ _)) (aa DT iL) (by
  exact aa (Sq (SF (To Q) 1) (a5 (SF (Tu a) 1) rfl)) (Sx _)))
 rw[iM,iL,Ss c]at p;exact .mk (λh=>.am (.a6 U) (.am (.a6 p) h)) W (aa (V9 a) Q)
def EX.J {S} (u:EV y l c k S (.ab i) S) (g:EV y l c p S (.ab j) (S++r)) (q:S[i]?=Sn (.ah w)) (f:w.length<=1000) (m:S.length<=j):EX y l c (.aU (.tr (.bK .dN k (.ai p .ao)))) S (.aD l ((S++r).set i (.ah (w++[.ab j])))):=by
 refine .aU (.R9 (.RH u g q (aC q) (et (a5 (TU f 1) rfl))) (nG q (dH (aC q)) (beq_false_of_ne λz=>?_) ?_))
 ·have:=congrArg US (O.ah.inj z)
  rw[Sr]at this;exact SQ (Td _) this
 ·exact Vn.mpr ⟨.ab j,Ve _ (.head _),λz=>VI _ (SA (of_decide_eq_true z) m)⟩
noncomputable def mE (i n:Nat):List Int:=10*(i:Int)::(Te n).map λa=>10*(i:Int)+((a+1:Nat):Int)
def O2 (i n:Nat):(Te (n+1)).map (λa=>10*(i:Int)+(a:Nat))=mE i n:=by
 refine aa (aa ?_ Tz) W9;refine aa ?_ Tp;exact congrArg (·::_) (Int.add_zero _)
noncomputable def DU (i:Nat):V->V
 | .ae a=>.ae (10*(i:Int)+a)
 |v=>v
def O3 {S} (t:i<5) (d:S[N]?=Sn (.a9 (Sn (.ae (i:Nat))))) (s:S[u]?=Sn (.ah ((o::r).map .ag))) (b:l[4]?.join=Sn (.ab u)) (f:r.length<=100):EV y l [B,N] (.dp (.aV .bB (.aV .ek (.ae 10) (.aW 0)) (.ad 1)) (.aq Sp) .gU (.tr (.ba .bd (.ad 4))) 2 [1] [1]) S (.ab S.length) (S++[.ah ((mE i r.length).map .ae)]):=by
 have q:EV y l [B,N] (.tr (.ba .bd (.ad 4))) S (.ae ((r.length+1:Nat):Int)) S:=by
  have:=EV.RD (y:=y) (c:=[B,N]) (.ad b) s
  rwa [Sx]at this
 have:=EV.RI (M:=.aV .bB (.aV .ek (.ae 10) (.aW 0)) (.ad 1)) (J:=[1]) (q:=[N]) (p:=λv=>Sp) (e:=DU i) q ((mp (Us (a5 (SE f) rfl))).trans (congrArg (λz=>Sn (z,none)) (Tp (g:=λx=>[x])).symm)) (λj e=>nomatch e) rfl (λx m k=>.aq) (λx m v k=>by
  refine cW m λa _ e0=>?_;subst e0;exact .RA (.R0 .ae (.aW (aC d)) (by decide) (by
   show i<2^40;exact TP t (by decide)) rfl) .ad rfl) (by refine aa (aa (Sq (SE f) (by decide)) T6) (Sx _))
 rw[mf,Tp]at this;have n:(Te (r.length+1)).map (DU i∘λ(a:Nat)=>V.ae a)=(mE i r.length).map .ae:=by
  refine aT ?_ (O2 _ _);refine aa ?_ Tp;rfl
 rw[n]at this;exact this
structure fH where
 fW:Nat
 bg:Nat
 bU:Nat
 cI:Int
 bJ:Ws
 dK:List Int
structure fH.n (q:fH) (S:List O) (B:Nat):Prop where
 ed:S[q.fW]?=Sn (.aX [.ae q.cI,.ab q.bg,.ab q.bU])
 bg:S[q.bg]?=Sn (.ah (q.bJ.map .ag))
 bU:S[q.bU]?=Sn (.ah (q.dK.map .ae))
 cP:B<=q.fW/\B<=q.bg/\B<=q.bU
def fH.n.fV {S} {q:fH} (h:q.n S B) (g:xK B S z):q.n z B:=⟨g _ _ h.cP.1 h.ed,g _ _ h.cP.2.1 h.bg,g _ _ h.cP.2.2 h.bU,h.cP⟩
noncomputable def fH.b (q:fH):CT:=(q.cI,q.bJ,q.dK)
theorem O4:∀d,d<4->((mC N).any λe=>e.1==.ag (cM d))=SW (d<3)
 |0,_=>rfl
 |1,_=>rfl
 |2,_=>rfl
 |3,_=>rfl
 |d+4,h=>absurd h (TN.mpr (TC 4 d))
def xX:eJ (.ag w) (mC N)=Sp:=rfl
def xY {S} (i) (h:EV q l c a S (.ae (i:Nat)) S):EV q l c (.aV .hW a (.ae 2)) S (.ae ((i:Int).fdiv 2)) S:=.aV h .ae rfl
def kM (h:z[q]?=Sn o):(bS w t j k y p r z)[w.length+(q+12)]?=Sn o:=(dM (q+12)).trans h
noncomputable def xZ (N i d:Nat) (r:Ws) (w m:Nat):dX:=⟨N+(m+1+12),N+(m+2+12),N+(w+12),N+(m+12),(i:Int).fdiv 2,cM d::r,mE i r.length⟩
noncomputable def n8 (N i:Nat) (r:Ws) (w m:Nat):List O:=[.ah ((mE i r.length).map .ae),.a8 0 (N+(m+2+12)),.aL [(1,.ae ((i:Int).fdiv 2)),(2,.ab (N+(w+12))),(3,.ab (N+(m+12)))]]
noncomputable abbrev lW (N w m:Nat) (y6 y7 y8 y9 g_ h_:Option V):bo:=hV N (Sn (.ab (N+(w+12)))) (Sn (.ab (N+(m+12)))) y6 y7 y8 y9 g_ h_
def O5 (u:q[w]?=Sn (.ah ((cM d::r).map .ag))):(xZ z.length i d r w q.length).n (bS z t j k y g l (q++n8 z.length i r w q.length)) (z.length+12)where
 aZ:=lz 1
 dm:=lz 2
 bg:=kM (aC u)
 bU:=lz 0
 cP:=⟨SF (TC _ _) _,SF (TC _ _) _,SF (TC _ _) _,SF (TC _ _) _⟩
def DV {e s o p u} {g} (Y:i<5) (J:y[w]?=Sn (.ah ((cM d::r).map .ag))) (W:r.length<=100) (b:f.length<=100) (h:EX (Ph (n+1)) (lW z.length w y.length c e s o p u) [z.length,z.length+1] g (bS z t j k (Sn (.ae (i:Nat))) (f++[.ab (xZ z.length i d r w y.length).bI]) m (y++n8 z.length i r w y.length)) q):
  EX (Ph (n+1)) (hV z.length (Sn (.ab (z.length+(w+12)))) a c e s o p u) [z.length,z.length+1] (.am iZ.bs.bs.fW (.am iZ.bs.bs.bs.fW g)) (bS z t j k (Sn (.ae (i))) f m y) q:=by
 have Q:=O3 (y:=Ph (n+1)) (l:=hV z.length (Sn (.ab (z.length+(w+12)))) a c e s o p u) (B:=z.length) Y (dM (t:=t) (j:=j) (k:=k) (w:=f) (p:=m) 1) (kM J) rfl W;rw[iL,iM]at Q;let v:=bS z t j k (Sn (.ae i)) f m (y++[.ah ((mE i r.length).map .ae)])
 have K:EV (Ph (n+1)) (lW z.length w y.length c e s o p u) [z.length,z.length+1] (.aV .hW (.aW 1) (.ae 2)) v _ v:=xY i (.aW (dM 1));have Z:=EX.J (.ad (i:=2)) (EV.dw (k:=0) (.ai K (.ai (.ad (i:=4)) (.a7 (.ad (i:=5))))) re) (dM 10) (a5 b rfl) (SJ _);have x:v.length=z.length+(y.length+1+12):=by refine aa (aa ?_ Sr) iL;rfl
 rw[x,iM,rP,Ss]at Z;exact .am (.a6 Q) (.am Z h)
def DW (Z:d<4) (Y:f[w]?=Sn (.ah ((cM d::r).map .ag))) (a:m.length<=100) (h:EX (Ph n) (lW z.length w p e s o b y u) [z.length,z.length+1] l (if d<3 then bS z t j k (Sn (.ae (i:Nat))) v m f else bS z t j k (Sn (.ae (i))) v (m++[.ab (z.length+(f.length+12))]) (f++[.aX [.ae ((i:Int).fdiv 2),.ab (z.length+(w+12)),.ab (z.length+(p+12))]])) q):
  EX (Ph n) (lW z.length w p e s o b y u) [z.length,z.length+1] (.am iZ.bs.bs.bs.bs.fW l) (bS z t j k (Sn (.ae (i))) v m f) q:=by
 let x:=bS z t j k (Sn (.ae i)) v m f
 have g:EV (Ph n) (lW z.length w p e s o b y u) [z.length,z.length+1] iZ.bs.bs.bs.bs.fW.d x _ x:=.E (.RT .ad (kM Y) rfl) .ad ((tZ (dM 3) xX).trans (congrArg (λq=>Sn !q) (O4 d Z)));rcases YA d 3 with c|c
 ·replace g:=(decide_eq_true c)▸g
  replace h:=(if_pos c)▸h;exact .am (.C g .aw) h
 ·rw[decide_eq_false (TN.mpr c)]at g
  rw[if_neg (TN.mpr c)]at h;have J:EV (Ph n) (lW z.length w p e s o b y u) [z.length,z.length+1] (.aV .hW (.aW 1) (.ae 2)) x _ x:=xY i (.aW (dM 1));have Q:=EX.J (.ad (i:=3)) (EV.dO (.ai J (.ai (.ad (i:=4)) (.a7 (.ad (i:=5)))))) (dM 11) (a5 a rfl) (SJ _);rw[iL,iM,rP]at Q;exact .am (.D g (.am Q .aw)) h
noncomputable abbrev x1:Internal.S:=iZ.bs.bs.bs.bs.bs.fW.fW
noncomputable def jF {α:Type} (last:Bool) (r:List α):List α:=if last then r else[]
def EV.Sg {S} {u:y} (j:EV z l c w S (.aq q) S) (p:EV z l c k S (.ab A) S) (g:S[A]?=Sn (.ah ((u::r).map f))) (m:r.length<=100):EV z l c (.aY w (.cT k (.ae 1) .az) (.bj .ao)) S (.ab S.length) (S++[.ah ((jF q r).map f)]):=by
 induction q using SX with
 |true=>exact .D j (.cT p .ae .az (nS g ⟨rfl,SE (S6 _)⟩ (by refine aa (a5 (SE m) rfl) (Sx _))))
 |false=>exact .C j (.bj .ao)
def DX (h:r.length<=100):(jF q r).length<=100:=by
 induction q using SX with
 |true=>exact h
 |false=>exact S6 _
noncomputable def us (N i m:Nat) (w1 r:Ws) (pr:List Int):List O:=[.ah (r.map .ag),.ah ((w1++r).map .ag),.ah [.ae (10*(i:Int))],.ah ((SI w1.length (10*(i:Int))).map .ae),.ah (pr.map .ae),.ah ((SI w1.length (10*(i:Int))++pr).map .ae),.aX [.ae ((i:Int).fdiv 2),.ab (N+(m+1+12)),.ab (N+(m+5+12))]]
noncomputable def nQ (N i m:Nat) (w1 r:Ws) (pr:List Int):fH:=⟨N+(m+6+12),N+(m+1+12),N+(m+5+12),(i:Int).fdiv 2,w1++r,SI w1.length (10*(i:Int))++pr⟩
def x3:(nQ q.length i z.length u r g).n (bS q t j k y l f (z++us q.length i z.length u r g)) (q.length+12)where
 ed:=lz 6
 bg:=lz 1
 bU:=lz 5
 cP:=⟨SF (TC _ _) _,SF (TC _ _) _,SF (TC _ _) _⟩
def O6 (x:(kL z.length t y f m g)[u]?=Sn (.ah (s.map .ag))) (h:g[w]?=Sn (.ah ((a::r).map .ag))) (o:s.length<=5/\r.length<=100):
  EV b (lW z.length w p (Sn (.ae l)) (Sn (.ab (z.length+u))) (Sn (.aq q)) v e d) c (.aV .bB (.ad 7) (.aY (.ad 8) (.cT (.ad 4) (.ae 1) .az) (.bj .ao))) (bS z t j k y f m g) (.ab (z.length+(g.length+1+12))) (bS z t j k y f m (g++[.ah ((jF q r).map .ag),.ah ((s++jF q r).map .ag)])):=by
 have Q:EV b (lW z.length w p (Sn (.ae l)) (Sn (.ab (z.length+u))) (Sn (.aq q)) v e d) c (.aY (.ad 8) (.cT (.ad 4) (.ae 1) .az) (.bj .ao)) (bS z t j k y f m g) _ _:=.Sg .ad .ad (kM h) o.2;have n:=EV.aV (.ad (i:=7)) Q (xP (aC ((dM u).trans x)) bV (by
  exact aS (a5 (Up o.1 (DX o.2)) rfl) (Sx _) (Sx _)))
 rw[Sr,Ss,iL,iM,<-Ta]at n;exact n
def O7 {s} {Y} {o} {m:Ws} (a:i<5) (Q:(kL q.length t (Sn (.ae (i:Nat))) r g y)[u]?=Sn (.ah (m.map .ag))) (Z:y[p]?=Sn (.ah ((Y::o).map .ae))) (b:m.length<=5/\o.length<=100):
  EV f (lW q.length w p (Sn (.ae e)) (Sn (.ab (q.length+u))) (Sn (.aq z)) n d s) [B,q.length+1] (.aV .bB (.aV .ek (.bj (.ai (.aV .ek (.ae 10) (.aW 1)) .ao)) (.tr (.ba .bd (.ad 7)))) (.aY (.ad 8) (.cT (.ad 5) (.ae 1) .az) (.bj .ao))) (bS q t j k (Sn (.ae (i))) r g y) (.ab (q.length+(y.length+3+12))) (bS q t j k (Sn (.ae (i:Nat))) r g (y++[.ah [.ae (10*(i:Int))],.ah ((SI m.length (10*(i:Int))).map .ae),.ah ((jF z o).map .ae),.ah ((SI m.length (10*(i:Int))++jF z o).map .ae)])):=by
 let v:=lW q.length w p (Sn (.ae e)) (Sn (.ab (q.length+u))) (Sn (.aq z)) n d s
 have J:EV f v [B,q.length+1] (.bj (.ai (.aV .ek (.ae 10) (.aW 1)) .ao)) (bS q t j k (Sn (.ae (i:Nat))) r g y) _ _:=.Sb (.a7 (.R0 .ae (.aW (dM 1)) (by decide) (by
  show i<2^40;exact TP a (by decide)) rfl))
 have x:=EV.aV J (by
   have:=EV.RD (y:=f) (l:=v) (c:=[B,q.length+1]) (.ad (i:=7)) (aC (z:=[O.ah [.ae (10*(i:Int))]]) ((dM (j:=j) (k:=k) u).trans Q));rw[iM,Sx]at this;exact this) (DN xV (a5 b.1 rfl))
 rw[iL,iM,Sr,Ss,<-List.map_replicate]at x;have h:=EV.aV x (EV.Sg (z:=f) (l:=v) (c:=[B,q.length+1]) (S:=bS q t j k (Sn (.ae (i:Nat))) r g (y++([.ah [.ae (10*(i:Int))]]++[.ah ((SI m.length (10*(i:Int))).map .ae)]))) (.ad (i:=8)) (.ad (i:=5)) (kM (aC Z)) b.2) (xP (aC (lz 1)) bV (by
  refine aS ?_ (Sx _) (Sx _);refine aa ?_ Uh;exact a5 (Up b.1 (DX b.2)) rfl))
 rw[Sr,Ss,iL,iM,<-Ta,Sr,Ss]at h;exact h
def x4 {l:Nat} (L:i<5) (b:(mC z.length).lookup (.ag Y)=Sn (.ab (z.length+g))) (F:∀y s d f,(kL z.length t y s d f)[g]?=Sn (.ah J)) (v:(((l)+1)==((J.length:Nat):Int))=q) (W:∀y s d f,(kL z.length t y s d f)[u]?=Sn (.ah (x.map .ag))) (K:f[w]?=Sn (.ah ((Y::r).map .ag))) (M:f[p]?=Sn (.ah ((C::a).map .ae))) (Q:x.length<=5/\r.length<=100/\a.length<=100) (Z:d.length<=200):
  EX (Ph n) (lW z.length w p (Sn (.ae l)) (Sn (.ab (z.length+u))) P h m e) [z.length,z.length+1] x1 (bS z t j k (Sn (.ae (i:Nat))) s d f) (.aD (lW z.length w p (Sn (.ae l)) (Sn (.ab (z.length+u))) (Sn (.aq q)) (Sn (.ab (z.length+(f.length+1+12)))) m e) (bS z t j k (Sn (.ae (i))) s (d++[.ab (nQ z.length i f.length x (jF q r) (jF q a)).fW]) (f++us z.length i f.length x (jF q r) (jF q a)))):=by
 let o:=f++[O.ah ((jF q r).map .ag),.ah ((x++jF q r).map .ag)]
 let D:=lW z.length w p (Sn (.ae l)) (Sn (.ab (z.length+u))) (Sn (.aq q)) (Sn (.ab (z.length+(f.length+1+12)))) m e
 have I:EV (Ph n) D [z.length,z.length+1] (.aV .hW (.aW 1) (.ae 2)) (bS z t j k _ s d o) _ _:=xY i (.aW (dM 1));have U:=EV.dO (.ai I (.ai (.ad (i:=9)) (.a7 (O7 (w:=w) (e:=l) (z:=q) (n:=Sn (.ab (z.length+(f.length+1+12)))) (d:=m) (s:=e) L (W _ s d o) (aC M:o[p]?=_) ⟨Q.1,Q.2.2⟩))));rw[iM,iL,Sr,Ss,<-iM (r:=o)]at U;have G:=EX.J (.ad (i:=3)) U (dM 11) (a5 Z rfl) (by refine aa ?_ iL;exact SF (TU (SH _ _) 12) _)
 rw[iM,rP,Sr,Ss]at G;exact .am (.a6 (.k9 (.Q (.RA .ad .ae rfl) (.RD (.aM .ad (.RT .ad (kM K) rfl) (rj (dM 3) xX b)) ((dM g).trans (F _ _ _ _)))) v)) (.am (.a6 (O6 (b:=Ph n) (c:=[z.length,z.length+1]) (j:=j) (k:=k) (p:=p) (l:=l) (q:=q) (v:=h) (e:=m) (d:=e) (W (Sn (.ae (i:Nat))) s d f) K ⟨Q.1,Q.2.1⟩)) (.am G .aw))
def ut {S} (h:S[i]?=Sn (.ah q)):ej av .jh (.ab i) S=(q.zipIdx.map (λ(x,i)=>[V.ae (i),x]),Sn i):=by
 delta ej;dsimp only;exact aa rfl h
def DY (e:z[w]?=Sn (.ah ((m::r).map .ag))):EV d (lW q.length w p s o b v u g) c (.bK .dg (.ad 1) (.ai (.aM (.ad 4) (.ae 0)) (.ai (.bj .ao) .ao))) (bS q t j k y l f z) (((mC q.length).lookup (.ag m)).getD (.ab (bS q t j k y l f z).length)) (bS q t j k y l f z++[.ah []]):=
 .dg .ad (.RT .ad (kM e) rfl) (.bj .ao) (dM 3) (aC (dM 3)) xX
inductive O9 (n t j:Nat) (σ τ:List O) (k i w p:Nat) (cm du:List V) (y6 y7 y8 y9 g_ h_:Option V) (Dt:List CT):Prop where
 |mk {d_:List O} {qs:List fH} {F3 x_ DQ D_:Option V} (h:EX (Ph n) (lW σ.length w p y6 y7 y8 y9 g_ h_) [σ.length,σ.length+1] iZ.bs.bs.bs.bs.bs.fW (bS σ t j k (Sn (.ae (i:Nat))) cm du τ) (.aD (lW σ.length w p F3 x_ DQ D_ g_ h_) (bS σ t j k (Sn (.ae (i:Nat))) cm (du++qs.map λq=>.ab q.fW) (τ++d_))))
  (ok:∀q∈qs,∀k y cm du,q.n (bS σ t j k y cm du (τ++d_)) (σ.length+12)) (hd:qs.map fH.b=Dt)
def x5 {S}:dZ u av [.ad 6,.ad 7] [y,j] (lW N w p g l k r q z) c S=.aD (lW N w p y j k r q z) S:=rfl
def x6 (i:e[w]?=Sn (.ah ((n::r).map .ag))) (z:(mC q.length).lookup (.ag n)=Sn (.ab (q.length+g))) (x:g<12):EV d (lW q.length w p s o b v u l) c iZ.bs.bs.bs.bs.bs.fW.d (bS q t j k y f m e) (.ab (q.length+g)) (bS q t j k y f m e):=by
 have h:=DY (q:=q) (d:=d) (c:=c) (t:=t) (j:=j) (k:=k) (y:=y) (l:=f) (f:=m) (p:=p) (s:=s) (o:=o) (b:=b) (v:=v) (u:=u) (g:=l) i;rw[z]at h;exact .tr h (decide_eq_true (aa (Vw (SA x (TC _ _)) _) iL))
def x7 (f:∀y z w p,(kL q.length t y z w p)[g]?=Sn o):bn (Sn (q.length+g)) (bS q t j k y z w p) (bS q t j m c r u l)=Sp:=beq_iff_eq.mpr (((dM g).trans (f _ _ _ _)).trans ((dM g).trans (f _ _ _ _)).symm)
def O8 (Y:i<5) (h:d[w]?=Sn (.ah ((cM 0::r).map .ag))) (J:d[p]?=Sn (.ah ((10*(i:Int)::o).map .ae))) (W:r.length<=100/\o.length<=100) (x:e.length<=100):O9 n t j g d k i w p m e a Q b v l f (pJ 0 ((i:Int).fdiv 2) r (10*(i:Int)) o):=by
 let s:=d++us g.length i d.length [[111,110,101],[120]] [] []
 let K:=nQ g.length i d.length [[111,110,101],[120]] [] []
 have L:=x4 (z:=g) (n:=n) (j:=j) (k:=k) (l:=1) (u:=5) (P:=Sn (.aq Su)) (h:=Sn (.ab (g.length+(d.length+1+12)))) (m:=l) (e:=f) (q:=Sp) (x:=[[112],[121,32,122]]) (t:=t) (s:=m) (d:=e++[.ab K.fW]) (f:=s) Y rfl (λz z z z=>rfl) rfl (λz z z z=>rfl) (aC h) (aC J) ⟨by decide,W⟩ (by refine aa ?_ Sr;exact a5 (TU x 1) rfl);let F:=nQ g.length i s.length [[112],[121,32,122]] r o
 have P:=EX.eG (x6 (q:=g) (d:=Ph n) (c:=[g.length,g.length+1]) (p:=p) (t:=t) (j:=j) (k:=k) (y:=Sn (.ae (i:Nat))) (f:=m) (m:=e) (s:=a) (o:=Q) (b:=b) (v:=v) (u:=l) (l:=f) h rfl (by decide)) (ut (dM 6)) rfl (fP x5 (x4 (z:=g) (n:=n) (j:=j) (k:=k) (l:=0) (u:=4) (P:=b) (h:=v) (m:=l) (e:=f) (q:=Su) (x:=[_,[120]]) (t:=t) (s:=m) Y rfl (λz z z z=>rfl) rfl (λz z z z=>rfl) h J ⟨by decide,W⟩ (a5 x rfl)) (x7 λz z z z=>rfl) (fP x5 L (x7 λz z z z=>rfl) rfl))
 rw[Ss,Ss]at P;refine .mk (qs:=[K,F]) P (λq Z k y m e=>?_) rfl;rcases Tq.mp Z with rfl|Z
 ·have:=(x3 (q:=g) (z:=d) (i:=i) (g:=[]) (t:=t) (j:=j) (k:=k) (y:=y) (l:=m) (f:=e) (u:=[[111,110,101],[120]]) (r:=[])).fV (mD (r:=us g.length i s.length [[112],[121,32,122]] r o) (f:=k) (m:=y) (w:=m) (p:=e))
  rw[Ss]at this;exact this
 ·refine aa ?_ (SP.mp Z)
  have:=x3 (q:=g) (z:=s) (i:=i) (g:=o) (t:=t) (j:=j) (k:=k) (y:=y) (l:=m) (f:=e) (u:=[[112],[121,32,122]]) (r:=r);rw[Ss]at this;exact this
noncomputable def O' (d:Nat) (g:Int) (r:Ws) (p0:Int) (pr:List Int):List CT:=if d<3 then pJ d g r p0 pr else[]
def DZ (s:d<4) (f:i<5) (q:y[w]?=Sn (.ah ((cM d::r).map .ag))) (m:y[p]?=Sn (.ah ((10*(i:Int)::u).map .ae))) (c:r.length<=100/\u.length<=100) (z:e.length<=100):O9 n t j o y k i w p b e v x a Q g l (O' d ((i:Int).fdiv 2) r (10*(i)) u):=
 match d,s,q with
 |0,_,q=>O8 f q m c z
 |1,_,q=>by
  have K:=EX.eG (x6 (s:=v) (o:=x) (l:=l) q rfl (by decide)) (ut (dM 8)) rfl (fP x5 (x4 (z:=o) (n:=n) (j:=j) (k:=k) (l:=0) (u:=7) (P:=a) (h:=Q) (m:=g) (e:=l) (q:=Sp) (x:=[[113]]) (t:=t) (s:=b) f rfl (λM M M M=>rfl) rfl (λM M M M=>rfl) q m ⟨by decide,c⟩ (a5 z rfl)) (x7 λM M M M=>rfl) rfl);exact .mk (qs:=[nQ o.length i y.length [[113]] r u]) K (λU P k L b e=>(aa x3 (SP.mp P))) rfl
 |2,_,q=>by
  have a:=EX.eG (u:=[.ad 6,.ad 7]) (s:=x1) (x6 (q:=o) (d:=Ph n) (c:=[o.length,o.length+1]) (p:=p) (t:=t) (j:=j) (k:=k) (y:=Sn (.ae i)) (f:=b) (m:=e) (s:=v) (o:=x) (b:=a) (v:=Q) (u:=g) (l:=l) q rfl (by decide)) (ut (dM 9)) rfl rfl;exact .mk (qs:=[]) (by refine aa (aa (aa a (SY _)) (SY _)) Wb) (λQ h=>nomatch h) rfl
 |3,_,q=>by
  have h:=DY (q:=o) (d:=Ph n) (c:=[o.length,o.length+1]) (p:=p) (t:=t) (j:=j) (k:=k) (y:=Sn (.ae i)) (l:=b) (f:=e) (s:=v) (o:=x) (b:=a) (v:=Q) (u:=g) (g:=l) q;exact .mk (qs:=[]) (by refine aa (aa (aT (EX.eG (u:=[.ad 6,.ad 7]) (s:=x1) (EV.RM h (decide_eq_false (VI _))) (ut bV) rfl rfl) iM) (SY _)) Wb) (λx h=>nomatch h) rfl
 |d+4,h,_=>absurd h (TN.mpr (TC 4 d))
structure x8 (q:ED):Prop where
 bJ:q.1.bJ=cM q.2.cS::q.2.nh
 dK:q.1.dK=q.2.xT::q.2.ur
 rO:q.2.cS<4
 bd:q.2.nh.length<=100/\q.2.ur.length<=100
structure mF (σ:List O) (t j:Nat) (τ:List O) (es:List ED) (ds:List fH):Prop where
 rR:∀q∈es,∀k y cm du,q.1.n (bS σ t j k y cm du τ) (σ.length+12)
 pK:∀q∈es,x8 q
 uu:∀q∈ds,∀k y cm du,q.n (bS σ t j k y cm du τ) (σ.length+12)
 uv:ds.map fH.b=es.flatMap ED.a
def mF.eL (h:mF g t j l m c) (e:∀k y w r,q.1.n (bS g t j k y w r (l++u)) (g.length+12)) (d:x8 q) (s:∀q∈f,∀k y w r,q.n (bS g t j k y w r (l++u)) (g.length+12)) (o:f.map fH.b=q.a):mF g t j (l++u) (m++[q]) (c++f)where
 rR p z k y w r:=by
  rcases Tn.mp z with z|z
  ·exact(h.rR p z k y w r).fV mD
  ·exact SP.mp z▸e k y w r
 pK p z:=by
  rcases Tn.mp z with z|z
  ·exact h.pK p z
  ·exact SP.mp z▸d
 uu p z k y w r:=by
  rcases Tn.mp z with z|z
  ·exact(h.uu p z k y w r).fV mD
  ·exact s p z k y w r
 uv:=aa (aa (aa (aa (aa (aa (aa rfl (SY _)) Yz) Uz) List.flatMap_append) o) h.uv) Ta
noncomputable abbrev eP (es:List ED):List V:=es.map λq=>.ab q.1.bI
noncomputable abbrev fR (ds:List fH):List V:=ds.map λq=>.ab q.fW
inductive Rw (n t j:Nat) (σ τ:List O) (k i:Nat) (es:List ED) (ds:List fH) (y4 y5 y6 y7 y8 y9 g_ h_:Option V):Prop where
 |mk {k':Nat} {d_:List O} {q:ED} {qs:List fH} {z_ A4 F3 x_ DQ D_:Option V} (h:EX (Ph (n+1)) (hV σ.length y4 y5 y6 y7 y8 y9 g_ h_) [σ.length,σ.length+1] iZ (bS σ t j k (Sn (.ae (i:Nat))) (eP es) (fR ds) τ) (.aD (hV σ.length z_ A4 F3 x_ DQ D_ g_ h_) (bS σ t j k' (Sn (.ae (i:Nat))) (eP (es++[q])) (fR (ds++qs)) (τ++d_))))
  (hy:mF σ t j (τ++d_) (es++[q]) (ds++qs)) (hl:qs.length<=2)
noncomputable def uw (i n:Nat):List Int:=(Te n).map λa=>10*(i:Int)+((a+1:Nat):Int)
def Pa (T:eC l t j m L) (hi:i<5) (hY:mF l t j Z Y P) (E9:Y.length<=5) (Z4:P.length<=20):Rw n t j l Z k i Y P y4 y5 y6 y7 I H s o:=by
 set_option tactic.hygienic true in obtain⟨h,U,hr⟩:=O1 (Z:=y5) T
 rename_i d k' b r;let z:=Z++b++[O.ah ((cM d::r).map .ag)]
 let w:=(Z++b).length
 let N:=l.length
 let u:=z++n8 N i r w z.length
 have e:r.length<=100:=a5 hr rfl;have a:z[w]?=Sn (.ah ((cM d::r).map .ag)):=bV;have v:u[w]?=Sn (.ah ((cM d::r).map .ag)):=aC a;have F:u[z.length]?=Sn (.ah ((mE i r.length).map .ae)):=bA z (n8 N i r w z.length) 0;let M:dX:=xZ N i d r w z.length
 let q:ED:=(M,⟨d,r,10*(i:Int),uw i r.length⟩)
 have hq:∀k y f c,M.n (bS l t j k y f c u) (l.length+12):=λk y f c=>O5 a;have C:x8 q:=⟨rfl,rfl,U,e,by show(uw i r.length).length<=100;delta uw;refine aa ?_ (Sx _);refine aa ?_ T6;exact e⟩
 have A:(eP Y).length<=100:=by refine aa ?_ (Sx _);exact a5 E9 rfl
 have Q:(fR P).length<=90:=by refine aa ?_ (Sx _);exact Sq Z4 (by decide)
 have hC:eP Y++[.ab M.bI]=eP (Y++[q]):=(Ta (l₂:=[q])).symm;have o_:(uw i r.length).length<=100:=C.bd.2;rcases YA d 3 with h3|h3
 ·refine aQ λG kG=>?_
  set_option tactic.hygienic true in obtain⟨h5,ok,E⟩:=DZ (b:=eP Y++[.ab M.bI]) (v:=y6) (x:=y7) (a:=I) (Q:=H) (g:=s) (l:=o) U hi v F ⟨e,o_⟩ (Sq Q (by decide))
  rename_i g qs z6 z7 z8 z9;have J:=h (DV hi a e A (DW U v (Sq Q (by decide)) ((congrArg (Internal.aU (Ph (n+1)) av (.am iZ.bs.bs.bs.bs.bs.fW .aw) _ _) (if_pos h3)).trans (EX.am h5 .aw))));refine kG ?_;have D:u++g=Z++(b++([O.ah ((cM d::r).map .ag)]++(n8 N i r w z.length++g))):=by
   show Z++b++[O.ah ((cM d::r).map .ag)]++n8 N i r w z.length++g=_;refine aa ?_ (Ss _ _ _);refine aa ?_ (Ss _ _ _);exact aa rfl (Ss _ _ _)
  have x:∀k y f c,M.n (bS l t j k y f c (u++g)) (l.length+12):=λk y f c=>(hq k y f c).fV mD;rw[D]at J ok x;rw[hC,<-Ta]at J;have W:qs.map fH.b=q.a:=E.trans (if_pos h3);refine .mk J (hY.eL x C ok W) ?_;have:=congrArg US W;rw[Sx]at this;exact aa (xU d U) this
 ·refine aQ λG kG=>?_
  obtain rfl:d=3:=V0 (V9 U) h3;refine kG ?_;let B:O:=.aX [.ae ((i:Int).fdiv 2),.ab (l.length+(w+12)),.ab (l.length+(z.length+12))]
  let q3:fH:=⟨l.length+(u.length+12),l.length+(w+12),l.length+(z.length+12),(i:Int).fdiv 2,cM 3::r,mE i r.length⟩
  set_option tactic.hygienic true in obtain⟨h5,ok,E⟩:=DZ (y:=u++[B]) (b:=eP Y++[.ab M.bI]) (e:=fR P++[.ab q3.fW]) (g:=s) (l:=o) U hi (aC v) (aC F) ⟨e,o_⟩ (by refine aa ?_ Sr;exact Sq (TU Q 1) (by decide))
  rename_i g qs z6 z7 z8 z9;obtain rfl:qs=[]:=List.map_eq_nil_iff.mp E;have J:=h (DV hi a e A (DW (i:=i) (p:=z.length) U v (Sq Q (by decide)) ((congrArg (Internal.aU (Ph (n+1)) av (.am iZ.bs.bs.bs.bs.bs.fW .aw) _ _) (if_neg (by decide:¬3<3))).trans (EX.am h5 .aw))));have D:u++[B]++g=Z++(b++([O.ah ((cM 3::r).map .ag)]++(n8 N i r w z.length++([B]++g)))):=by
   refine aa ?_ (Ss _ _ _);refine aa ?_ (Ss _ _ _);refine aa ?_ (Ss _ _ _);exact aa rfl (Ss _ _ _)
  have x:∀k y f c,M.n (bS l t j k y f c (u++[B]++g)) (l.length+12):=λk y f c=>((hq k y f c).fV (mD (r:=[B]) (f:=k) (m:=y) (w:=f) (p:=c))).fV mD;have K:∀k y f c,q3.n (bS l t j k y f c (u++[B]++g)) (l.length+12):=λk y f c=>⟨kM (aC bV),kM (aC (aC v)),kM (aC (aC F)),SF (TC _ _) _,SF (TC _ _) _,SF (TC _ _) _⟩
  rw[D]at J x K;rw[hC,Wb,SY]at J;have hD:fR P++[.ab q3.fW]=fR (P++[q3]):=(Ta (l₂:=[q3])).symm;rw[hD]at J;exact .mk J (hY.eL x C (λp hp=>SP.mp hp▸K) rfl) (by show 1<=2;decide)
inductive Rx (n t j:Nat) (σ τ:List O) (k:Nat) (y:Option V) (st:List O->Bool) (rows:List Nat) (es:List ED) (ds:List fH) (y4 y5 y6 y7 y8 y9 g_ h_:Option V):Prop where
 |mk {k':Nat} {d_:List O} {so:List ED} {Rm:List fH} {y' z_ A4 F3 x_ DQ D_:Option V} (h:ew (λl a_=>Internal.aU (Ph (n+1)) av iZ l [σ.length,σ.length+1] a_) (λrow l a_=>dZ (Ph (n+1)) av [.aW 1] row l [σ.length,σ.length+1] a_) st (rows.map λ(i:Nat)=>[.ae i]) (hV σ.length y4 y5 y6 y7 y8 y9 g_ h_) (bS σ t j k y (eP es) (fR ds) τ)=.aD (hV σ.length z_ A4 F3 x_ DQ D_ g_ h_) (bS σ t j k' y' (eP so) (fR Rm) d_))
  (hy:mF σ t j d_ so Rm) (hl:so.length=es.length+rows.length)
def Pb (T:eC w t j m L) (a:∀w,Y w=Sp) (z):∀{u} {k} {y g l f c e d} {p} {r},(∀i∈z,i<5)->mF w t j u p r->p.length+z.length<=5->r.length<=2*p.length->Rx n t j w u k y Y z p r g l f c e d s o:=by
 induction z with
 |nil=>exact λ{u k y g l f c e d p r} J Q J J=>.mk rfl Q rfl
 |cons i z P=>
  intro u k y g l f c e d p r W Q K b;have v:=Sq (SH _ _) K
  set_option tactic.hygienic true in obtain⟨h,G,F⟩:=Pa T (W i (.head _)) Q v (Sq b (a5 (TM 2 v) rfl))
  rename_i B M q N I H A z7 z8 z9;obtain⟨C,E,D⟩:=P (λx m=>W x (.tail _ m)) G (aa (aa K (Un _ _ _)) Sr) (by
   exact aS (Up b F) Sr Sr)
  refine .mk (fP ((tS rfl (dM 1)).trans (congrArg (bC.aD _) (rP 1))) h (a _) C) E ?_;refine aa (aa ?_ Sr) D;refine aa (aa ?_ ((TH [q].length) _)) (TK _ _ _);rfl
def EV.RP {S} (h:cO y l c j S q (z++A)) (w:autoParam (cR q.length=Sp) tR):EV y l c (.bj j) S (.ab (z.length+A.length)) (z++(A++[.ah q])):=by
 have:=EV.bj h w;rw[Sr,Ss]at this;exact this
noncomputable def x9:bo:=[none,none,none,none,none,none,none,none,none,none,none,none]
def Pc (T:eC q t j m L) (h:EX z (hV q.length none none none none none none none none) [q.length,q.length+1] k (bS q t j m none [] [] []) r):EX z x9 [q.length,q.length+1] (.am jL.aA.fW (.am jL.aA.bs.fW (.am jL.aA.bs.bs.fW k))) (q++[.a9 (Sn (.ab t)),.a9 none]) r:=by
 let u:List O:=[.a9 (Sn (.ab t)),.a9 none]
 have y:∀A:List O,(q++A).length=q.length+A.length:=λA=>Sr;let w:=u++[.aE kJ]
 let p:bo:=[Sn (.ab (q.length+2)),none,none,none,none,none,none,none,none,none,none,none]
 let g:List O:=w++[.aE (mC q.length),.ah [.ag [111,110,101],.ag [120]],.ah [.ag [112],.ag [121,32,122]],.ah [.ab (q.length+4),.ab (q.length+5)],.ah [.ag [113]],.ah [.ab (q.length+7)],.ah []]
 let e:bo:=[Sn (.ab (q.length+2)),Sn (.ab (q.length+3)),none,none,none,none,none,none,none,none,none,none]
 have Q:EV z e [q.length,q.length+1] (.bj .ao) (q++(g++[.ah []])) _ _:=EV.RP .ao;have Z:bS q t j m none [] [] []=q++(g++[.ah []]++[.ah []]):=by delta bS;refine aa ?_ (pi T.fy);rfl
 rw[Z]at h;exact .am (.a6 (by
   have:=EV.gj (j:=z) (l:=x9) (c:=[q.length,q.length+1]) (y:=q++u) (z:=kJ) (cO.b [cM 0,kH 0,cM 1,kH 1,cM 2,kH 2]) rfl bV;rw[jx,y,Ss]at this;exact this)) (.am (.a6 (by
     have f:cO z p [q.length,q.length+1] (.ai (.ag (cM 0)) (.ai (.bj (.ai (.bj (lw [[111,110,101],[120]])) (.ai (.bj (lw [[112],[121,32,122]])) .ao))) (.ai (.ag (cM 1)) (.ai (.bj (.ai (.bj (lw [[113]])) .ao)) (.ai (.ag (cM 2)) (.ai (.bj .ao) .ao)))))) (q++(w++[.aE []])) _ _:=.ai .ag (.ai (EV.RP (.ai (EV.RP (cO.b _)) (.a7 (EV.RP (cO.b _))))) (.ai .ag (.ai (EV.RP (.a7 (EV.RP (cO.b _)))) (.ai .ag (.a7 (EV.RP .ao))))))
     rw[<-Ss q w]at f;have:=EV.gj (z:=mC q.length) f rfl (by refine aa ?_ (y _);exact bA q _ 3);rw[y]at this;exact this.trans (congrArg (R.aj _) (hU q _ 3 _)))) (.am (.E (EV.RP .ao) Q rfl rfl) h))
noncomputable abbrev rS:X:=.dO (.ai (.ay (.ad 1) 1) (.ai (.ba .ah (.ay (.ad 1) 2)) (.ai (.ba .ah (.ay (.ad 1) 3)) .ao)))
def Pd {S} {e:dX} (q:e.n S B) (y:l[1]?.join=Sn (.ab e.bI)):EV z l c rS S (.ab (S.length+2)) (S++[.ah (e.bJ.map .ag),.ah (e.dK.map .ae),.aX [.ae e.cI,.ab S.length,.ab (S.length+1)]]):=by
 have w:EV z l c (.ay (.ad 1) 1) S (.ae e.cI) S:=.ay (.ad y) (gq q.aZ q.dm rfl);have k:EV z l c (.ba .ah (.ay (.ad 1) 2)) S _ _:=.ba (.ay (.ad y) (gq q.aZ q.dm rfl)) (xQ q.bg);have p:EV z l c (.ba .ah (.ay (.ad 1) 3)) (S++[.ah (e.bJ.map .ag)]) _ _:=.ba (.ay (.ad y) (gq (aC q.aZ) (aC q.dm) rfl)) (xQ (aC q.bU));have j:=EV.dO (.ai w (.ai k (.a7 p)));rw[Sr,Sr,Ss,Ss]at j;exact j
inductive Ry (n:Nat) (S:List O) (st:List O->Bool) (ks:List dX) (acc:List V) (τ:List O) (q:Option V):Prop where
 |mk {d_:List O} {ts:List fH}
  (h:fI av (λl' a_=>ev (Ph n) av rS l' [] a_) (λl' a_=>ev (Ph n) av (.aq Sp) l' [] a_) st [1] S.length (ks.map λk=>[.ab k.bI]) [Option.none,q] (S++(.ah acc::τ))=.aj (.ab S.length) (S++(.ah (acc++ts.map λc=>.ab c.fW)::(τ++d_))))
  (ok:∀c∈ts,∀A,c.n (S++(.ah A::(τ++d_))) (S.length+1))
  (hd:ts.map fH.b=ks.map kK)
def Pe {S} (a:∀A w,x (S++(O.ah A::w))=Sp) (r):∀{z} {w} {q},(∀k∈r,k.n S 0)->z.length+r.length<=500->Ry n S x r z w q:=by
 induction r with
 |nil=>exact λ{z w q} o o=>⟨(by refine aa ?_ Wb;refine aa ?_ (SY _);refine aa ?_ (SY _);rfl:fI av _ _ x [1] S.length [] _ _=.aj (.ab S.length) (S++(.ah (z++([]:List fH).map λc=>.ab c.fW)::(w++[])))),(λo h=>nomatch h),rfl⟩
 |cons k r U=>
  intro z w q K G;let X:=S++(O.ah z::w)
  let u:List O:=[.ah (k.bJ.map .ag),.ah (k.dK.map .ae),.aX [.ae k.cI,.ab X.length,.ab (X.length+1)]]
  let s:fH:=⟨X.length+2,X.length,X.length+1,k.cI,k.bJ,k.dK⟩
  have L:∀A,(S++(O.ah A::w)).length=X.length:=λA=>n6.trans n6.symm;have e:=λA j=>(congrArg (λm=>_[m+j]?) (L A).symm).trans (bA _ u j);have t:S.length+1<=X.length:=Sq (SF (TC 1 w.length) _) (To n6.symm);have Z:∀A,s.n _ (S.length+1):=λA=>⟨e A 2,e A 0,e A 1,Sq t (SH _ _),t,Sq t (SH _ _)⟩
  have b:EV (Ph n) [Option.none,Sn (.ab k.bI)] [] rS X (.ab s.fW) (X++u):=Pd (K k (.head _)).A rfl;have Y:(X++u)[S.length]?=Sn (.ah z):=aC (bA S (O.ah z::w) 0);have p:(X++u).set S.length (.ah (z++[.ab s.fW]))=S++(.ah (z++[.ab s.fW])::(w++u)):=aa (hU S _ 0 _) (Ss _ _ _);have v:z.length+1+r.length<=500:=by refine aa ?_ (Un _ _ _);exact G
  have P:=pe (g:=λJ y=>ev (Ph n) av (.aq Sp) J [] y) (f:=λJ y=>ev (Ph n) av rS J [] y) (u:=[1]) (y:=r.map λk=>[.ab k.bI]) (l:=[Option.none,q]) (r:=[.ab k.bI]) rfl (rfl:_=R.aj (V.aq Sp) _) b Y (Sz.mpr ⟨et (Sq (SH _ _) (a5 v rfl)),aa (a _ _) p⟩);rw[p]at P
  set_option tactic.hygienic true in obtain⟨F,M,C⟩:=U (z:=z++[.ab s.fW]) (λk W=>K k (.tail _ W)) (by refine aa ?_ Sr;exact v)
  rename_i i E;refine .mk (ts:=s::E) ((P.trans F).trans (by refine aS ?_ (Ss _ _ _) (Ss _ _ _);rfl)) (λc d A=>?_) (congrArg (_::·) C);rcases Tq.mp d with rfl|d
  ·have:=(Z A).fV (z:=S++(O.ah A::w)++u++i) λo o o=>aC
   rw[Ss,Ss]at this;exact this
  ·exact Ss w u i▸M c d A
def Pf {S} {q z:fH} (h:q.n S B) (y:z.n S D) (j:q.fW≠z.fW/\q.bg≠z.bg/\q.bU≠z.bU) (g:q.b=z.b):cV S (n+3) (.ab q.fW) (.ab z.fW)=Sp:=by
 obtain⟨l,w⟩:=YP g;obtain⟨w,f⟩:=YP w;have p:=y.bg;have r:=y.bU;rw[<-w]at p;rw[<-f]at r;refine(if_neg j.1).trans ?_;refine aa (aa ?_ y.ed) h.ed;have m:cV S (n+2) (.ae q.cI) (.ae z.cI)=Sp:=congrArg Sn (aT (beq_self_eq_true q.cI) l);show(match cV S (n+2) (.ae q.cI) (.ae z.cI),fC _ _ _ with|some a,Sn b=>Sn (a&&b)|_,_=>none)=_;have t:fC (cV S (n+2)) [.ab q.bg,.ab q.bU] [.ab z.bg,.ab z.bU]=Sp:=by
  show(match cV S (n+2) (.ab q.bg) (.ab z.bg),(match cV S (n+2) (.ab q.bU) (.ab z.bU),Sn Sp with|some a,Sn b=>Sn (a&&b)|_,_=>none)with|some a,Sn b=>Sn (a&&b)|_,_=>none)=_;refine aS ?_ (pH h.bU r j.2.2 (rN _ λv k=>by
    refine cW k λu _ e0=>?_;subst e0;exact uj u) rfl) (pH h.bg p j.2.1 (rN _ λv k=>by
    refine cW k λu _ e0=>?_;subst e0;exact ui u) rfl);rfl
 refine aS ?_ t m;rfl
def Pi (z:List ED) (h:∀q∈z,x8 q):(z.flatMap ED.a).length<=2*z.length:=by
 induction z with
 |nil=>exact SJ 0
 |cons q z y=>
  refine aa (aa ?_ Sr) Uz;refine aa (aa ?_ (WR _ _)) TS;refine aa ?_ ((TH (2*z.length)) _);exact Up (xU _ (h q (.head _)).rO) (y λx m=>h x (.tail _ m))
inductive Rz (n t j:Nat) (σ τ:List O) (k:Nat) (y:Option V) (es:List ED) (ds:List fH) (y4 y5 y6 y7 y8 y9 g_ h_:Option V):Prop where
 |mk {τ1:List O} {F:Nat} (h:∀{rest:Internal.S} {r:bC},EX (Ph (n+8)) (hV σ.length y4 y5 y6 y7 y8 y9 (Sn (.ab F)) h_) [σ.length,σ.length+1] rest (bS σ t j k y (eP es) (fR ds) (τ++τ1)) r->EX (Ph (n+8)) (hV σ.length y4 y5 y6 y7 y8 y9 g_ h_) [σ.length,σ.length+1] (.am jL.aA.bs.bs.bs.bs.fW (.am jL.aA.bs.bs.bs.bs.bs.fW rest)) (bS σ t j k y (eP es) (fR ds) τ) r)
def Pj (W:mF G t j Y I M) (Z:I.length<=5):Rz n t j G Y k y I M m e d s o v B N:=by
 let S:=bS G t j k y (eP I) (fR M) Y
 set_option tactic.hygienic true in obtain⟨h,lo,f,ok,hd⟩:=OV (z:=S) (dM 10) (dM 2) (λq p=>by
   have T:=W.rR q p k y (eP I) (fR M);have L:=W.pK q p;exact⟨⟨T.aZ,T.dm,T.bg,T.bU,⟨S6 _,S6 _,S6 _,S6 _⟩⟩,L.bJ,L.dK,L.rO,L.bd⟩) (a5 Z rfl)
 rename_i J F E;let K:=S++J
 have c1:EX (Ph (n+8)) (hV G.length m e d s o v B N) [G.length,G.length+1] jL.aA.bs.bs.bs.bs.fW S _:=.a6 (.RM (.bR (.ai .ad (.a7 .ad)) h) (decide_eq_false (TN.mpr lo)))
 set_option tactic.hygienic true in obtain⟨L,i,hd2⟩:=Pe (x:=bn F K) (λA Y=>beq_iff_eq.mpr (SM (bQ f))) E (z:=[]) ok (Sq (To (Ud _)) (a5 (by
   have:=congrArg US hd;rw[Sx]at this;exact aa (Sq (Pi I W.pK) (TM 2 Z)) this) rfl))
 rename_i K8 r;let u:=K++(O.ah (r.map λc=>.ab c.fW)::K8)
 have Q:EV (Ph (n+8)) (hV G.length m e d s o v _ N) [G.length,G.length+1] (.dp rS (.aq Sp) .cN (.ad 10) 2 [1] []) K _ u:=EV.R2 (y:=[]) .ad (jP f) rfl (aa L Tp);have H:=hd2.trans (hd.trans W.uv.symm);have z:u[G.length+11]?=_:=aC (aC (dM 11));have heq:=congrArg (UA not) ((lh (bA K _ 0) z (TB (SA (bQ (dM 11)) (jE _ _)))).trans ((if_pos (by refine aS ?_ (Sx _) (Sx _);exact(by
   have:=congrArg US H
   rwa [Sx,Sx]at this))).trans (xL r H λq p q' Z5 he=>by
  have g:=i q p (r.map λc=>.ab c.fW);have U:=W.uu q' Z5 k y (eP I) (fR M);have ne:∀{a b},K.length+1<=a->b<S.length->a≠b:=λT L=>TB (SA (SA L (jE _ _)) (Sq (Tx _) T));exact Pf g ⟨aC (aC U.ed),aC (aC U.bg),aC (aC U.bU),S6 _,S6 _,S6 _⟩ ⟨ne g.cP.1 (bQ U.ed),ne g.cP.2.1 (bQ U.bg),ne g.cP.2.2 (bQ U.bU)⟩ he)))
 refine .mk (τ1:=J) (F:=F) λh=>.am c1 (.am (.C (.tr (.aB Q .ad heq)) .aw) ?_);show EX _ _ _ _ (bS G t j k y (eP I) (fR M) Y++J) _;exact aa h iM
def Pk (a:mF r t j d w m) (b:w.length<=5) (u:p=bS r t j k y (eP w) (fR m) d++[.a8 1 ((bS r t j k y (eP w) (fR m) d).length+1),.aL [(4,.ab (r.length+10))]]) (U:l[11]?.join=Sn (.ab (bS r t j k y (eP w) (fR m) d).length)) (G:l[2]?.join=Sn (.ab (r.length+10))):
  EV (Ph (n+8)) l c jL.aA.bs.bs.bs.bs.bs.bs.bs.fW.d p (.aq Su) p:=by
 let S:=bS r t j k y (eP w) (fR m) d
 have Q:=u▸aC (dM 10);let f:=p++[O.ah (eP w)]
 have Z:eP w=(w.map WK).map λe=>.ab e.bI:=by refine aa ?_ Tp;rfl
 have s:∀{Y:List O} {v:List O},Y=S++v->∀e∈w.map WK,e.n Y (r.length+12)/\e.bJ.length<=1000:=λC e E=>by
  refine cW E λq J e0=>?_;subst e0;refine⟨C▸(a.rR q J k y (eP w) (fR m)).A,?_⟩;have W:=a.pK q J;refine aa ?_ W.bJ;exact Sq (SE W.bd.1) (by decide)
 have K:(w.map WK).length<=400:=by refine aa ?_ (Sx _);exact Sq b (by decide)
 have o:f=S++([.a8 1 (S.length+1),.aL [(4,.ab (r.length+10))]]++[.ah (eP w)]):=by
  show p++_=_;refine aa ?_ u;exact aa rfl (Ss _ _ _)
 set_option tactic.hygienic true in obtain⟨T,D,B⟩:=DM (A:=p.length) (Z▸bV) (s o) K
 rename_i z gs;have N:EV (Ph (n+8)) l c _ p (.ab f.length) (f++z):=.RM (.bR (.a7 (.RM (.bR (.a7 (.ad U)) (OG (u▸bA S _ 0) (u▸bA S _ 1) Q)) (decide_eq_false (VI _)))) T) (decide_eq_false (TN.mpr (jE _ _)));have i:f++z=S++([.a8 1 (S.length+1),.aL [(4,.ab (r.length+10))]]++[.ah (eP w)]++z):=by refine aa ?_ o;exact aa rfl (Ss _ _ _)
 set_option tactic.hygienic true in obtain⟨I,H,q3⟩:=DM (A:=r.length+10) (Z▸aC (aC Q)) (s i) K
 rename_i g gs';have P:=EV.aB N (.RM (.bR (.a7 (.ad G)) I) (decide_eq_false (VI _))) (Oz (⟨D.bs,aC D.dV,λg p=>(D.cI g p).d (SJ _) λa u r=>(SM (SA r (SJ _))).symm⟩) H (SJ _) (B.trans q3.symm));have h:f++z++g=p++([.ah (eP w)]++z++g):=by
  show p++_++z++g=_;refine aa ?_ (Ss _ _ _);exact aS rfl (Ss _ _ _) (Ss _ _ _)
 rw[h]at P;exact .tr P
noncomputable def rT (S:List O):V->V
 | .ab a=>(match S[a]? with
  |some (.a8 _ d)=>(match S[d]? with
   |some (.aL fs)=>(fs.lookup 2).getD .az
   |_=>.az)
  |_=>.az)
 |v=>v
def ya {S} {k:bG} (h:k.n S q z):rT S (.ab k.bI)=.ab k.bF:=by
 show(match S[k.bI]? with
  |some (.a8 _ d)=>(match S[d]? with
   |some (.aL y)=>(y.lookup 2).getD .az
   |_=>.az)
  |_=>V.az)=_
 refine aa ?_ h.aZ;dsimp only;refine aa ?_ h.dm;rfl
def Pl {S:List O}:EV (Ph (n+8)) l c jL.aA.bs.bs.bs.bs.bs.bs.bs.bs.fW.d S (.aq Sp) S:=by
 set_option tactic.hygienic true in obtain⟨h,Y,f,r,ap,u⟩:=DP (d:=3) (by decide)
 rename_i t J W;let q:=S++t
 have K:EV (Ph (n+8)) l c _ S (.ab J) q:=.RM (.bR (.a7 .ag) (OH h Y)) (decide_eq_false (TN.mpr Y));have g:=EV.RI (M:=.ay (.ad 1) 2) (J:=[]) (q:=[]) (p:=λP=>Sp) (e:=rT q) K (jP f) (λj e=>by replace e:=Sv e;subst e;exact bQ f) rfl (λx m s=>.aq) (λx m P s=>by
  refine cW m λk U e0=>?_;subst e0;have o:=r k U;refine aa ?_ (ya o);exact .ay .ad (gq (aC o.aZ) (aC o.dm) rfl)) (by
  have:=congrArg US u;rw[Sx]at this;refine aa ?_ (Sx _);refine aa ?_ this;decide)
 rw[mf]at g;rcases W with _|⟨z,_|⟨y,_|⟨_,_⟩⟩⟩
 ·cases u
 ·exact nomatch(Uu u).2
 rotate_left
 ·exact nomatch(Uu (Uu u).2).2
 obtain⟨G,v⟩:=Uu u;obtain⟨v,-⟩:=Uu v;have i:=r z (.head _);have Q:=r y (.tail _ (.head _));have L:([z,y].map λk=>V.ab k.bI).map (rT q)=[.ab z.bF,.ab y.bF]:=by
  show[rT q (.ab z.bI),rT q (.ab y.bI)]=_;exact aS rfl (ya Q) (ya i)
 rw[L]at g;have F:EV (Ph (n+8)) l c (.bj (lw [[97],[98]])) (q++[.ah [.ab z.bF,.ab y.bF]]) _ _:=EV.RP (cO.b _);have M:EV (Ph (n+8)) l c (.bj (lw [[99]])) (q++([.ah [.ab z.bF,.ab y.bF]]++[.ah [.ag [97],.ag [98]]])) _ _:=EV.RP (cO.b _);let w:=q++[O.ah [.ab z.bF,.ab y.bF],.ah [.ag [97],.ag [98]],.ah [.ag [99]],.ah [.ab (q.length+1),.ab (q.length+2)]]
 have E:w[q.length]?=Sn (.ah [.ab z.bF,.ab y.bF]):=bA q _ 0;have q1:cV w gw (.ab z.bF) (.ab (q.length+1))=Sn Sp:=pH (by
   have:=aC (z:=[O.ah [.ab z.bF,.ab y.bF],.ah [.ag [97],.ag [98]],.ah [.ag [99]],.ah [.ab (q.length+1),.ab (q.length+2)]]) i.bg;rw[show z.bJ=[[97],[98]]from G]at this;exact this) (bA q _ 1) (SQ (Um (bQ i.bg))) rfl rfl
 have q2:cV w gw (.ab y.bF) (.ab (q.length+2))=Sn Sp:=pH (by
   have:=aC (z:=[O.ah [.ab z.bF,.ab y.bF],.ah [.ag [97],.ag [98]],.ah [.ag [99]],.ah [.ab (q.length+1),.ab (q.length+2)]]) Q.bg;rw[show y.bJ=[[99]]from v]at this;exact this) (bA q _ 2) (SQ (Um (Um (bQ Q.bg)))) rfl rfl
 have hq:fC (cV w gw) [.ab z.bF,.ab y.bF] [.ab (q.length+1),.ab (q.length+2)]=Sn Sp:=by
  show(match cV w gw (.ab z.bF) (.ab (q.length+1)),(match cV w gw (.ab y.bF) (.ab (q.length+2)),Sn Sp with|some a,Sn b=>Sn (a&&b)|_,_=>none)with|some a,Sn b=>Sn (a&&b)|_,_=>none)=_;refine aS ?_ q2 q1;rfl
 have h6:w=S++_:=Ss _ _ _;exact .tr ((EV.aB g (EV.RP (.ai F (.a7 M))) ((lh E (bA q _ 3) (SQ (TY (by decide)))).trans ((if_pos rfl).trans hq))).trans (congrArg (R.aj _) h6))
def Pm (T:eC z t j m L):∃k J,Ph (n+9) 25 [.ab t] z=.aj (.aq Sp) (z.set t (.ah [.ab j,.ae (k:Nat)])++J):=by
 obtain⟨u,d,E⟩:=jT (q:=5) (by decide);have r:EV (Ph (n+8)) (hV z.length none none none none none none none none) [z.length,z.length+1] (.tr (.bR 16 (.ai (.aW 0) (.ai (.ae 5) .ao)))) (bS z t j m none [] [] []) (.ae (u)) (bS z t j (m+1) none [] [] []):=aT (EV.R7 T (by decide) (.ai (.aW (dM 0)) (.a7 .ae))) E
 set_option tactic.hygienic true in obtain⟨D,g,W⟩:=Pb (p:=[]) (r:=[]) T (λo=>rfl) (Te u) (λi B=>TP (UD.mp B) d) ⟨λo h=>(nomatch h),λo h=>(nomatch h),λo h=>(nomatch h),rfl⟩ (by refine aa ?_ T6;exact Sq (To (Ud u)) (Tu d)) (SJ _)
 rename_i b w f s K P U G M v x;rw[T6,List.length_nil,Ud]at W;have e:f.length<=5:=aa (Tu d) W
 set_option tactic.hygienic true in obtain⟨I⟩:=Pj g e
 rename_i p F;let S:=bS z t j b K (eP f) (fR s) (w++p)
 have C:EX (Ph (n+8)) x9 [z.length,z.length+1] jL.aA (z++[.a9 (Sn (.ab t)),.a9 none]) (.aO (.aq Sp) (S++[.a8 1 (S.length+1),.aL [(4,.ab (z.length+10))]])):=Pc T (.am (EX.eG r (mp (Us (a5 (Tu d) rfl))) (ja rfl _) D) (I (.am (EX.a6 (EV.dw (k:=1) (w:=S) (y:=Ph (n+8)) (c:=[z.length,z.length+1]) (.a7 (.ad (i:=2))) (w3 (n:=n+7)))) (.am (.C (Pk (n:=n) (c:=[z.length,z.length+1]) (l:=hV z.length P U G M v x (Sn (.ab F)) (Sn (.ab S.length))) ⟨λq Q k y Z Y=>(g.rR q Q k y Z Y).fV mD,g.pK,λq Q k y Z Y=>(g.uu q Q k y Z Y).fV mD,g.uv⟩ e rfl rfl rfl) .aw) (.A (.aO Pl))))))
 have hS:S++[.a8 1 (S.length+1),.aL [(4,.ab (z.length+10))]]=z.set t (.ah [.ab j,.ae (b)])++(kL z.length t K (eP f) (fR s) (w++p)++[.a8 1 (S.length+1),.aL [(4,.ab (z.length+10))]]):=Ss _ _ _;rw[hS]at C;exact⟨b,_,(nN (j:=[Sn (.ab t),none]) rfl C)⟩
def dW.a (T:dW q z m y) (h:q[t]?=Sn (.ah j)):dW (q.set t o) z m y:=⟨cF T.aE h,λe w=>let⟨d,k,p⟩:=T.a8 e w;⟨d,cF k h,cF p h⟩,T.kq⟩
def eC.a (A:eC z t j k L):eC (z.set t (.ah [.ab j,.ae (q:Nat)])) t j q L:=⟨dH A.fy,eB A.bM.symm A.nE,A.bM⟩
def EV.RB (A:eC F t j k L) (K:cO G l c I F J F) (h:G f J F=.aj (.aq Sp) (F.set t (.ah [.ab j,.ae (H:Nat)])++M)):EV G l c (.tr (.bR f I)) F (.aq Sp) (F.set t (.ah [.ab j,.ae (H)])):=
 .Sl (.bR K h) (jQ.E.B (Sz.mpr ⟨decide_eq_true (bQ A.nE),rfl⟩))
noncomputable def D0:V->V
 | .ae a=>.ae (a.fmod 1048576)
 |v=>v
def Pn (p:eC w t j 0 L):∃r,EX (Ph (n+9)) [k,Sn (.ab t),none] [] lP.aA.bs w (.aO (.aq Sp) r):=by
 obtain⟨u,d,Q⟩:=jT (q:=64) (by decide);let g:=w.set t (.ah [.ab j,.ae (0+1:Nat)])
 obtain⟨b,r,Y,v⟩:=MV;let z:=g++.aE (ef b)::r
 have f:eC z t j (0+1) L:=⟨aC p.a.fy,aC p.a.nE,p.bM⟩
 obtain⟨W,K⟩:=Nc v d;obtain⟨U,G,F⟩:=MP f;have m:=f.a (q:=U);obtain⟨i,C,E⟩:=Pm m;have e:=m.a (q:=i);have x:dW ((z.set t _).set t (.ah [.ab j,.ae i])) g.length u b:=(v.a f.fy).a m.fy;obtain⟨D,B,N⟩:=DJ e x d;have h:=e.a (q:=D);obtain⟨H,a,s⟩:=DJ h (x.a e.fy) d;exact⟨_,.am (.a6 (.RM (.bR (.a7 (Q▸EV.RO (.bR (.ai .ad (.a7 .ae)) (mh p (by decide))) lg)) Y) (decide_eq_false (TN.mpr (To lg.symm))))) (.am (.C (.RK (.em (.tr (.bR (.a7 .ad) K))) (.RK (.em (.RB f (.a7 .ad) F)) (.em (.RB m (.a7 .ad) E)))) .aw) (.A (.aO (.and (.RB e (.ai .ad (.a7 .ad)) N) (EV.RB h (.ai .ad (.a7 .ad)) s)))))⟩
end
section
section
open PySem PySem.W PyProof.Rows PySem.Calls
def dD {l:List Bool} (H:l.all id=Sp) {i:Nat} (e:l[i]?=Sn b):b=Sp:=SN.mp H b (Th e)
def yb (e:(K0 h).lookup a=Sn o):h.get? a=o/\a∉iQ.map (·.2):=by
 refine aP (UR.mp (iA e)) λb _ y=>?_;cases z:(iQ.map (·.2)).contains b with
 |true=>rw[z,if_pos rfl]at y;exact aG y
 |false=>
  rw[z,if_neg (by decide)]at y;refine i1 y λw j q=>?_;cases q;exact⟨j,λm=>by rw[Vd.mpr m]at z;exact bv z.symm⟩
def yc {K} (e:lT K a=Sn q):∃o,K.lookup a=Sn o/\o.data=.func q:=(Vt.mp e).imp λz r=>⟨r.1,EL r.2⟩
def D1 (h:vB v y=Sp):VR [] v y:=by
 induction v using V.casesOn with
 |az=>exact SG h
 |ae i=>exact EO (SG h)
 |ag l=>exact⟨⟨of_decide_eq_true (bH (bH h).2).1,λc m=>of_decide_eq_true (SN.mp (bH (bH h).2).2 c m)⟩,EP (SG (bH h).1)⟩
 |bW a=>exact SG h
 |_=>exact bv h
def Po:∀{q},vh z q=Sp->bN [] z q:=by
 induction z with
 |nil=>intro q h;induction q using SD with|nil=>exact trivial|cons=>exact bv h
 |cons x z j=>intro q h;induction q using SD with|nil=>exact bv h|cons y q=>exact⟨D1 (bH h).1,j (bH h).2⟩
def Pp (h:vg o=Sn q):o=.aX q:=by
 induction o using O.casesOn<;>first|exact aG h|exact congrArg O.aX (Sv h)
def Pq (h:av a=Sn o):a∈[55,460,454,455,456,457,458,459]/\∃z,o=.aX z/\z.length<=1048576:=by
 have q:=bH (SN.mp (show u6.all (λe=>[55,460,454,455,456,457,458,459].contains e.1&&(vg e.2).any λz=>SW (z.length<=1048576))=Sp by decide+kernel) _ (iA h));refine er q.2 λz e l=>?_;exact⟨Vd.mp q.1,z,Pp e,of_decide_eq_true l⟩
noncomputable def rU (cl:Bool) (d:iP):Bool:= !d.cC.isCoroutine&&!d.cC.isGenerator&&d.cC.kind==.function&&SW (cX d.cC).Nodup&&
 (if cl then(c9 d.cC).isEmpty&&d.cC.names.all (λx=>x.2 !=.cell)else SW (d.cC.names.map (·.1)).Nodup&&d.cC.names.all λx=>x.2 !=.free&&x.1 !=au "__class__")&&
 SW (d.dB.args.map (·.arg)).Nodup&&SW (d.dB.defaults.length<=d.dB.args.length)
def Pr:((Te 51).all λk=>(fj k).all λd=>rU (k==39) d)=Sp:=by decide+kernel
def Ps:m2.all (rU Su)=Sp:=by decide+kernel
def Pt:m3.all (rU Su)=Sp:=by decide+kernel
def D3 (h:(!b)=Sp):b=Su:=by induction b using SX<;>first|rfl|exact bv h
def Pu (h:rU z d=Sp) (j:z=Su->c=[]):
  d.cC.isCoroutine=Su/\d.cC.isGenerator=Su/\wv d.cC c/\(d.dB.args.map (·.arg)).Nodup/\d.dB.defaults.length<=d.dB.args.length:=by
 refine aQ λG w=>?_;refine cZ h λh k=>?_;refine cZ h λh p=>?_;refine cZ h λh y=>?_;refine cZ h λh r=>?_;refine cZ h λh u=>?_;refine w ?_;refine⟨D3 (bH h).1,D3 (bH h).2,⟨SG u,of_decide_eq_true r,?_⟩,of_decide_eq_true p,of_decide_eq_true k⟩;induction z using SX with
 |true=>
  refine cZ y λa b=>?_;exact .inr ⟨YB.mp a,λx m=>bne_iff_ne.mp (SN.mp b x m)⟩
 |false=>
  refine cZ y λa b=>?_;refine .inl ⟨j rfl,of_decide_eq_true a,λx m=>?_⟩;have q:=bH (SN.mp b x m);exact⟨bne_iff_ne.mp q.1,bne_iff_ne.mp q.2⟩
def Pv {K:WC} (X:K.In h) (e:lT K a=Sn y) (z:qm K a n=Sp):wt h y.defaults n:=by
 refine er z λj w z=>?_;obtain rfl:=Sv (w.symm.trans e);by_cases q:n=0
 ·exact .inl ⟨q,SG ((if_pos q).symm.trans z)⟩
 ·refine er ((if_neg q).symm.trans z) λT k z=>?_
  refine er z λo r z=>?_;refine er z λp u z=>?_;exact .inr ⟨T,o,_,zd k,X _ _ r,(yY u).trans (congrArg (Data.seq · _) (SG z))⟩
def yd (X:W.bG.In W.cb) (y:sD W.bG a=Sp) (p:qm W.bG a d.dB.defaults.length=Sp) (r:lV W.bG a=(lU d)) (u:rU k d=Sp) (g:k=Su->a≠218):nz W a d:=by
 refine aQ λG l=>?_;refine i1 r λQ e q=>?_;refine aP (yc e) λo f m=>?_;refine er y λj c y=>?_;obtain rfl:=Sv (c.symm.trans e);refine cZ y λy t=>?_;refine cZ y λy s=>?_;refine cZ y λy b=>?_;obtain⟨v,n,i,x,h⟩:=Pu u λw=>(TZ.mp t).elim YB.mp λz=>absurd (SG z) (g w);exact l ⟨o,j,X _ _ f,m,congrArg WK q,congrArg (·.2.1) q,congrArg (·.2.2) q,SG y,SG b,Pv X e p,codeRec_of X s,v,n,i,x,h⟩
noncomputable def ye (K:WC) (k:Nat):TR:=match(g9 k).bind (lT K)with
 |some fd=>fd.qualname++".<locals>."++"<lambda>"
 |none=>au ""
noncomputable def Pw (K:WC):List (S7×S7×List (Pos×TR)):=qi.map λt=>(t.2.1,t.2.2,pX.map λp=>(⟨p.1,p.2,0,0⟩,ye K t.1))
noncomputable def ux (w:World) (h₀ n_:TV) (loose:List TR) (mb:TR->Option SV):bk:=⟨gZ,w,K0 h₀,topProg,loose,qn h₀,mb,ghostOf n_ iQ,Pw (K0 h₀)⟩
def D4:∀{o:Obj} {c d x},o.cls=c->o.dict=d->o.data=x->o.slots.isEmpty=Sp->o=⟨c,d,x,#[]⟩:=λq z y j=>q▸z▸y▸Array.isEmpty_iff.mp j▸rfl
def Px (k:∀b o,z.get? b=Sn o->y.get? b=Sn o) (H:(vi z).all id=Sp):TabsAt iQ y:=by
 intro t m;refine cW m λj w e0=>?_;subst e0;refine⟨(codeHd_of_K (λp p e=>(yb e).1) (bH (SN.mp (dD H (i:=26) rfl) j w)).1).keeps k,k _ _ ?_⟩;refine er (SN.mp (dD H (i:=27) rfl) _ m) λo e q=>?_;refine cZ q λq r=>?_;refine cZ q λq u=>?_;exact e.trans (congrArg Sn (D4 (SG (bH q).1) (UN.mp (bH q).2) (yZ (SG u)) r))
def Py (H:(vi q).all id=Sp) {o:O} (h:av a=o):∃y j n,o=.aX y/\bN [] y j/\y.length<=1048576/\(K0 q).lookup a=Sn ⟨.type "tuple",none,.seq j.toArray n,#[]⟩:=by
 refine aQ λG k=>?_;obtain⟨m,y,rfl,p⟩:=Pq h;have b:=SN.mp (dD H (i:=1) rfl) a m;refine er b λg e b=>?_;obtain rfl:=Sv (e.symm.trans h);refine er b λw e b=>?_;obtain rfl:y=w:=Sv e;refine er b λo z b=>?_;obtain⟨⟨⟨j⟩,n⟩,e,b⟩:=any_some b;refine cZ b λb r=>?_;refine cZ b λb u=>?_;exact k ⟨y,j,n,rfl,Po r,p,z.trans (congrArg Sn (D4 (SG (bH b).1) (UN.mp (bH b).2) (yY e) u))⟩
def D5 (h:i3 c=Sn C):c∈Te 5:=UD.mpr (SO.mp h).1
def Pz (h:a7 l=Sn x):l=[x]:=by
 rcases l with _|⟨a,_|⟨b,l⟩⟩
 ·exact aG h
 ·exact congrArg (λy=>[y]) (Sv h)
 ·exact aG h
def PA {K} (H:(ze K s).all id=Sp):∃b n r w k q u g l p j f x m c,K.lookup 218=Sn ⟨b,n,.func w,r⟩/\w.closure=[(au "__class__",k)]/\w.code=.ref q/\K.lookup q=Sn ⟨u,g,.fields p,l⟩/\
  p[2]?=Sn (.str j f)/\((gZ.main.file:TR)==j)=Sp/\K.lookup k=Sn ⟨x,m,.cell (Sn (.ref 298)),c⟩:=by
 refine aQ λG h=>?_;refine er (dD H (i:=0) rfl) λw z a=>?_;refine aP (yc z) λo Q Z=>?_;obtain⟨⟨C,k⟩,e,a⟩:=any_some a;refine cZ a λa y=>?_;refine er ((bH a).2) λt Y J=>?_;refine er y λq W y=>?_;refine er y λd P y=>?_;refine er y λp U y=>?_;refine er y λv L y=>?_;obtain⟨f,F⟩:=EQ (SG y);exact h ⟨o.cls,o.dict,o.slots,w,k,q,d.cls,d.dict,d.slots,p,_,f,t.cls,t.dict,t.slots,Q.trans (congrArg Sn (tp rfl Z rfl)),aT (Pz e) (SG (bH a).1),zd W,P.trans (congrArg Sn (tp rfl (yZ U) rfl)),L.trans (congrArg Sn F),beq_self_eq_true _,Y.trans (congrArg Sn (tp rfl (EM (SG J)) rfl))⟩
def PB:((Te 51).all λk=>k==39||g9 k !=Sn 218)=Sp:=by decide+kernel
def PE:((Te 51).all λk=>(fj k).all λd=> !dU d.cC (au "_law_heard")||qi.any λt=>t.1==k)=Sp:=by decide+kernel
def D6 (h:g9 k=Sn a):k∈Te 51:=by
 unfold g9 at h;by_cases z:26<k/\k<30
 ·rw[if_pos z]at h;exact aG h
 ·rw[if_neg z]at h
  exact UD.mpr (SO.mp h).1
noncomputable abbrev PF (d:iP):Wf:=⟨[],d.dB.args,none,[],[],none,d.dB.defaults⟩
def D7 (e:D.map (·.dB)=D.map PF) (c:D.all (λd=>(d.dB.args.map (·.arg))==q&&d.dB.defaults.length==k)=Sp) (h:D=Sn d):BR d q k:=by
 subst h;exact⟨Sv e,SG (bH c).1,SG (bH c).2⟩
def PG (h:m2=Sn d):Kb d:=by
 have a:m2.all (λd=>d.cC.names.lookup (au "self")==Sn .local &&d.cC.names.lookup (au "told")==Sn .local &&d.cC.kind==.function&&d.cC.names.all λz=>z.2 !=.cell)=Sp:=by decide+kernel
 have b:m2.map (·.aA)=Sn [.Assign [.Attribute (.Name (au "self") ⟨5,8,5,12⟩) (au "told") ⟨5,8,5,17⟩] (.Name (au "told") ⟨5,20,5,24⟩) ⟨5,8,5,24⟩]:=by kernel_rfl
 rw[h]at a b;refine cZ a λa q=>?_;refine cZ a λa y=>?_;exact⟨(D7 (by kernel_rfl) (by decide+kernel) h),⟨_,_,_,_,Sv b⟩,SG (bH a).1,SG (bH a).2,SG y,λz m=>bne_iff_ne.mp (SN.mp q z m)⟩
noncomputable def PH (i:Nat):Pos:=(#[⟨400,16,400,22⟩,⟨400,24,400,28⟩,⟨400,24,400,30⟩,⟨400,15,400,31⟩,⟨400,8,400,31⟩,⟨401,11,401,21⟩,⟨402,16,402,25⟩,⟨402,27,402,32⟩,⟨402,27,402,37⟩,⟨402,15,402,38⟩,⟨402,8,402,38⟩,⟨401,4,402,38⟩,⟨399,4,402,38⟩]:Array Pos).getD (i-1) ⟨0,0,0,0⟩
def PI (h:m3=Sn d):Kv d:=by
 have a:m3.all (λd=>b8 d.cC (au "BadCommand")==Sn .globalImplicit&&b8 d.cC (au "fault")==Sn .local &&b8 d.cC (au "call")==Sn .local &&cX d.cC==[au "call",au "fault"]&&(c9 d.cC).isEmpty)=Sp:=by decide+kernel
 have b:m3.map (·.aA)=(BZ PH λj=>0):=by kernel_rfl
 rw[h]at a b;refine cZ a λa q=>?_;refine cZ a λa z=>?_;refine cZ a λa y=>?_;exact⟨(D7 (by kernel_rfl) (by decide+kernel) h),⟨_,_,Sv b⟩,SG (bH a).1,SG (bH a).2,SG y,SG z,YB.mp q⟩
def D8 {h₀ n_:TV} (k:∀b o,h₀.get? b=Sn o->n_.get? b=Sn o):(K0 h₀).In (ghostOf n_ iQ):=λa o e=>ghost_ne (k _ _ (yb e).1) (yb e).2
def PJ {h₀ n_:TV} (k:∀b o,h₀.get? b=Sn o->n_.get? b=Sn o) (S:sE h₀=Sp) {w} {loose} {mb} {f} {a:S7} (D:(Te 51).map (λk=>(g9 k).bind (lV (K0 h₀)))=(Te 51).map (λk=>(fj k).map lU)) (h:g9 f=a):∃d,fj f=Sn d/\nz (ux w h₀ n_ loose mb) a d:=by
 have m:=D6 h;have q:=Yb.mp D f m;have b:=SN.mp (dD ((bH S).1) (i:=7) rfl) f m;have s:=SN.mp Pr f m;have n:=SN.mp PB f m;rw[h]at q b n;cases z:fj f with
 |none=>rw[z]at b;exact bv b
 |some d=>
  rw[z]at q b s;exact⟨d,rfl,yd (D8 k) (bH b).1 (bH b).2 q s λhc=>by
   rintro rfl;rw[hc]at n;exact bv n⟩
def uy {K} (h:qo K a=Sp):typeIn K (.ref a)=Sn (.type "function"):=SG h
def PK {K:WC} (h:((K.lookup 4).any λo=>o.cls==.type "module"&&o.dict==Sn Wl&&ve o.data)=Sp):∃o,K.lookup 4=Sn o/\o.cls=.type "module"/\o.dict=Wl/\o.data=.plain:=by
 refine er h λo e h=>?_;exact⟨o,e,SG (bH (bH h).1).1,SG (bH (bH h).1).2,EN (bH h).2⟩
def PM:((fj 39).all λd=>(d.dB.posonlyargs++d.dB.args).head?.any λq=>q.arg==au "self")=Sp:=by decide+kernel
def yf (h:Option.all p x=Sp) {a} (e:x=Sn a):p a=Sp:=by subst e;exact h
def PN (k:∀b o,j.get? b=Sn o->u.get? b=Sn o) (S:sE j=Sp) (D:(Te 51).map (λk=>(g9 k).bind (lV (K0 j)))=(Te 51).map (λk=>(fj k).map lU)) (eI:lV (K0 j) 29=m2.map lU) (eH:lV (K0 j) 474=m3.map lU) (T:TopRead topProg g (qn j) G (ghostOf u iQ)):Cr (ux w j u g G) g9 29 474:=by
 refine cZ S λH U=>?_;have X:=D8 k;have F:∀{f} {a:S7},g9 f=a->∃d,fj f=Sn d/\nz (ux w j u g G) a d:=PJ k S D;have f3:=dD H (i:=26) rfl;have kc:∀c C,i3 c=Sn C->qg (K0 j) c C=Sp/\su (K0 j) C=Sp:=λc C h=>by
  refine er (SN.mp (dD H (i:=5) rfl) c (D5 h)) λC' e q=>?_;obtain rfl:=Sv (e.symm.trans h);exact bH q
 refine{
  X:=X,bZ:=T
  i5:=λt m=>hideAll_none _ (by
   refine cW m λt' L e0=>?_;subst e0;refine cW L λt'' M e0=>?_;subst e0;exact Tv (Tv M))
  gY:=λt m=>by
   refine cW m λt' L e0=>?_;subst e0;exact codeHd_of_K X (bH (SN.mp f3 t' L)).1
  zz:=λn v h=>by
   refine er (SN.mp (dD H (i:=0) rfl) _ (iA h)) λy z q=>?_;exact⟨y,z,D1 q⟩
  zA:=by decide+kernel
  oF:=λa o h=>by
   obtain⟨xs,E,n,rfl,r,l,e⟩:=Py H h;exact⟨E,n,r,l,X _ _ e⟩
  l2:=by
   have q:=dD H (i:=2) rfl;cases z:(K0 j).lookup WZ with
   |none=>rw[z]at q;exact bv q
   |some o=>exact congrArg Wy (X _ _ z)
  m9:=λnm m=>UN.mp (SN.mp (dD H (i:=3) rfl) nm m)
  sQ:=λc C h=>(kc c C h).1
  qC:=dD H (i:=6) rfl
  zU:=SG (dD H (i:=4) rfl)
  ka:=λc C h=>(kc c C h).2
  l9:=λf a h=>F h
  sv:=λnm k h=>by
   refine er (SN.mp (dD H (i:=8) rfl) _ (iA h)) λa z q=>?_;exact⟨a,z,SG q⟩
  Bt:=λc C nm m f h1 h2 h3=>by
   refine er (yf (yf (SN.mp (SN.mp (dD H (i:=9) rfl) c (D5 h1)) _ (iA h2)) h1) h3) λa z q=>?_;exact⟨a,z,SG (bH q).1,uy (bH q).2⟩
  eT:=λnm c h=>by
   refine er (SN.mp (dD H (i:=10) rfl) _ (iA h)) λC z q=>?_;refine er q λa z' q=>?_;refine cZ q λq q5=>?_;refine cZ q λq q4=>?_;refine cZ q λq q3=>?_;exact⟨C,a,z,SG (bH q).1,(bH q).2,q3,z',SG q4,uy q5⟩
  wE:=SG (dD H (i:=11) rfl)
  BS:=dD H (i:=12) rfl
  j6:=dD H (i:=13) rfl
  m7:=⟨SG (dD H (i:=14) rfl),uy (dD H (i:=15) rfl)⟩
  gX:=⟨SG (dD H (i:=16) rfl),dD H (i:=17) rfl,SG (dD H (i:=18) rfl),dD H (i:=19) rfl⟩
  BT:=by
   obtain⟨d,e⟩:∃d,m2=Sn d:=Ug.mp (by decide+kernel);have q:=bH (dD H (i:=22) rfl);have i:=PG e;rw[e]at eI;have s:=Ps;rw[e]at s;exact⟨d,yd X q.1 (by refine aa q.2 i.BQ) eI s λζ=>by decide,i⟩
  B3:=dD H (i:=20) rfl
  B4:=SG (dD H (i:=21) rfl)
  wH:=by
   obtain⟨d,e⟩:∃d,m3=Sn d:=Ug.mp (by decide+kernel);have q:=bH (dD H (i:=23) rfl);have i:=PI e;rw[e]at eH;have s:=Pt;rw[e]at s;exact⟨d,yd X q.1 (by refine aa q.2 i.BQ) eH s λζ=>by decide,i⟩
  dV:=⟨show([488,502,507]:List Nat).Nodup by decide,λP m=>by
   refine yt (PK (dD H (i:=25) rfl)) λo Z J B N=>?_;refine⟨4,o,SG (dD H (i:=24) rfl),by decide,by decide,λq=>?_,X _ _ Z,J,B,N⟩;subst q;exact absurd (show 4∈([488,502,507]:List Nat)from m) (by decide)⟩
  cq:=λf a h d hd hg x hx=>?_
  Cl:=λa h=>?_}
 ·obtain⟨o,fd,Y,Q,hc,-,hq,-⟩:=hx
  have q:=SN.mp PE f (D6 h);rw[hd]at q;have q:(!dU d.cC (au "_law_heard")||qi.any λt=>t.1==f)=Sp:=q;rw[hg]at q;refine aP (Wq.mp q) λt m e=>?_;cases SG e;refine er ((bH (SN.mp f3 t m)).2) λa' za q=>?_;obtain rfl:=Sv (za.symm.trans h);refine er q λI z q=>?_;refine aP (yc z) λo' Z J=>?_;obtain rfl:=Sv ((X _ _ Z).symm.trans Y);obtain rfl:=Data.func.inj (Q.symm.trans J);refine⟨t.2.1,t.2.2,pX.map λp=>_,hc.trans (SG q),Tv m,λp W=>⟨_,Tv W,rfl,rfl⟩,λp W=>?_⟩
  refine cW W λp' _ e0=>?_;subst e0;show ye (K0 j) t.1=_;unfold ye;refine aS ?_ hq h;dsimp only[Wm];exact aa rfl z
 ·replace h:=Sv h;subst h
  obtain⟨oc,od,A,fd,cc,E_,I2,I3,I4,E,K,tf,cl,I5,I6,Z,J,B,N,e5,e6,e7⟩:=PA U;obtain⟨d,hd,o,I,Y,Q,W,-⟩:=F (f:=39) rfl;rw[show(ux w j u g G).cb=ghostOf u iQ from rfl,X _ _ Z]at Y;replace Y:=Sv Y;subst Y;cases Q;refine er (W▸yf PM hd) λar z q=>?_;exact⟨160,rfl,⟨⟨oc,od,A,fd,cc,E_,I2,I3,I4,E,K,tf,cl,I5,I6,ar,X _ _ Z,J,B,X _ _ N,e5,e6,X _ _ e7,z,SG q⟩,SG (dD U (i:=1) rfl),UN.mp (dD U (i:=2) rfl),Ug.mp (dD U (i:=3) rfl),SG (dD U (i:=4) rfl),SG (dD U (i:=5) rfl),SG (dD U (i:=6) rfl),uy (dD U (i:=7) rfl)⟩⟩
end
section
open PySem
noncomputable def rV (a:Nat) (ys:List V) (v l u:V) (σ:List O):R V:=if v=.bW a/\l=.az/\u=.ae 60 then ea (.ah (ys.take (Wz ys.length 60))) σ else .ak
noncomputable abbrev PO (Φ:dy) (a:Nat) (ys:List V):dk:=λlc c σ=>(ev Φ av (.ad 0) lc c σ).C λv σ=>(ev Φ av .az lc c σ).C λy σ=>(ev Φ av (.ae 60) lc c σ).C λz σ=>rV a ys v y z σ
noncomputable abbrev yg (Φ:dy) (a:Nat) (ys:List V):dk:=qS .cN (PO Φ a ys) (λl c σ=>ev Φ av (.aV .iN (.ad 1) (.ae 1048576)) l c σ) (λl c σ=>ev Φ av (.aq Sp) l c σ) 2 [1] []
noncomputable abbrev yh (Φ:dy) (a:Nat) (ys:List V):bo->List Nat->List O->bC:=λl c σ=>((de [yg Φ a ys,λl c σ=>ev Φ av (.ae 0) l c σ] l c σ).C λvs σ=>if cR vs.length then ea (.ah vs) σ else .ak).toS λv σ=>eL Φ av (.ad 1) v l c σ
noncomputable abbrev uz (Φ:dy) (a:Nat) (ys:List V):bo->List Nat->List O->bC:=λl c σ=>(yh Φ a ys l c σ).C λl σ=>aU Φ av lP.aA.bs l c σ
def PP {q:List Int}:∃w,uz (Ph (n+9)) a (q.map .ae) [Sn (.bW a),none,none] [] []=.aO (.aq Sp) w:=by
 let z:=(q.map V.ae).take (Wz (q.map V.ae).length 60)
 have y:z=(q.take (Wz (q.map V.ae).length 60)).map V.ae:=X3.symm;have k:(q.take (Wz (q.map V.ae).length 60)).length<=1048576:=by
  refine aS ?_ (clipAt_nat _ _) (show 60=((60:Nat):Int)from rfl);refine aa ?_ U8;exact Sq (WI _ _) (Sq (WI _ _) (S2 rfl))
 have g:=EV.RI (N:=Ph (n+9)) (l:=[Sn (.ab 0)]) (c:=[]) (F:=[.ah z]) (L:=.ad 0) (M:=.aV .iN (.ad 1) (.ae 1048576)) (J:=[]) (q:=[]) (p:=λs=>Sp) (e:=D0) .ad (jP rfl) (λj e=>by replace e:=Sv e;subst e;exact Td _) rfl (λx m u=>.aq) (λx m s u=>by
  replace m:=(y)▸m;refine cW m λb _ e0=>?_;subst e0;exact .aV .ad .ae rfl) (by refine aa ?_ y;exact aa k (Sx _))
 rw[mf,y,Tp]at g;have f:yg (Ph (n+9)) a (q.map .ae) [Sn (.bW a),none,none] [] []=.aj (.ab 1) _:=(congrArg (λr=>R.C r _) (if_pos ⟨rfl,rfl,rfl⟩)).trans (y▸g);have o:(q.take (Wz (q.map V.ae).length 60)).map (D0∘V.ae)=((q.take (Wz (q.map V.ae).length 60)).map λa=>a.fmod 1048576).map V.ae:=by refine aa ?_ Tp;rfl
 rw[o]at f;have v:yh (Ph (n+9)) a (q.map .ae) [Sn (.bW a),none,none] [] []=.aD [Sn (.bW a),Sn (.ab 2),none] ([.ah z]++[.ah (((q.take (Wz (q.map V.ae).length 60)).map λa=>a.fmod 1048576).map V.ae)]++[.ah [.ab 1,.ae 0]]):=by
  show R.toS (R.C (R.C (yg (Ph (n+9)) a (q.map .ae) [Sn (.bW a),none,none] [] []) _) _) _=_;refine aa ?_ f;rfl
 obtain⟨w,h⟩:=Pn (t:=2) (w:=[.ah z]++[.ah (((q.take (Wz (q.map V.ae).length 60)).map λa=>a.fmod 1048576).map V.ae)]++[.ah [.ab 1,.ae 0]]) ⟨rfl,rfl,by decide⟩;exact⟨w,(congrArg (λr=>bC.C r λl i=>aU (Ph (n+9)) av lP.aA.bs l [] i) v).trans h⟩
end
section
open PySem PySem.W PyProof.Rows PySem.Calls
section
def PT (q:List z):(q.take (Wz q.length 60)).length<=60:=aS (aa (Sq (WI _ _) (WI _ _)) U8) (clipAt_nat _ _) (show 60=_ from rfl)
def PU (f:IsL W.cb a j.toArray n) (m:bN [] y j) (d:y.length<=1048576):vR W x (rV a y):=by
 intro w p c v s i h Z b l u Q E F Y J K g;by_cases q:i=.bW a/\h=.az/\Z=.ae 60
 ·obtain⟨rfl,rfl,rfl⟩:=q
  have g:db W x.bD c s (ea (.ah (y.take (Wz y.length 60))) v) Q E:=by
   have:=g;unfold rV at this;rw[if_pos ⟨rfl,rfl,rfl⟩]at this;exact this
  have k:∀b o,s.heap.get? b=Sn o->(s.heap.push {cls:=.type "slice",data:=.fields #[l,u,.none]}).get? b=Sn o:=λP P e=>SK _ e;have r:=F.RA k;obtain rfl:b=.ref a:=Y;obtain rfl:l=.none:=J;obtain⟨t,rfl⟩:=K;have z:=m.bd;have G:=PT y;have L:slicePick j.toArray none (Sn 60) none=(j.take (Wz y.length 60)).toArray:=by
   refine aa ?_ (slicePick_plain _ _ _);simp[z]
  refine kX ⟨_,r.bn _ _ f,rfl⟩ Ya.lookup (wpAny_getItem_list_slice (fm.b (r.bn _ _ f)) (V2 _ _ _ _) .none (.int _ _) .none (by decide) ?_ (by refine aa ?_ T4;exact aa (aa (a5 d rfl) TO) z));refine aa ?_ L;refine(g.RB (ck.RA k)).B r ⟨j.take _,0,L2.RA (YF) (m.C _),(a5 (by assumption) rfl),fv _ _ rfl⟩
 ·have:db W x.bD c s .ak Q E:=by
   have:=g;unfold rV at this;rw[if_neg q]at this;exact this
  exact this.elim
def PV (f:kY W) (A:∀a,PX W B C w n a) (y:iE W x n) (l:vR W x (rV a k)) (h:(iz B C x.bq lP.aA.fW).1 g=Sp):fO W x ((iy B lP.aA.fW).1 g) (yh w a k):=by
 have p:=aF (aF h).1;obtain⟨m,c,j,-⟩:=wO f A y p.1;have j:=wN j;have q:=aF p.2;have r:=aF q.1;refine AL rfl j.1 j.2 c (zS (.ai (ta (Cd f.todf (A _) (A _) y (λz=>?_) r.1)) (.ai (A _ x y _ (aF r.2).1).ce .ao)) (pd q.2)) m;have z:=aF z;have u:=aF z.1;exact z5 l (A _ x y _ u.1).ce (tA (A _ x y _ u.2).ce) (tA (A _ x y _ z.2).ce)
end
def PW (F:Cr W g9 29 474) (m:IsL W.cb a r.toArray k) (c:bN [] y r) (e:y.length<=1048576) (R:nx A [] (n+1)) (G:aR W [] [] [] s.heap) (j:W.cb.objs.size<=s.heap.objs.size):
  jO W A [] [] s (.call (.ref 530) ⟨[.ref a],[]⟩) (tj (uz (Ph n) a y) lP [.bW a] []):=by
 obtain⟨t,o⟩:=Lg F n;have L:qY W g9 29 474 (Ph n) n:=⟨F.towI,F.dV,t,o⟩
 obtain⟨u,v⟩:=wM L Cq;refine aP (F.l9 26 530 rfl) λd g i=>?_;obtain⟨w,h⟩:=Co g rfl;obtain⟨l,Q⟩:=h.resolve_left (by decide);refine Br F.toik w i (λx Z Y z p=>?_) R G j ⟨rfl,trivial⟩;have f:iE W x n:=⟨Z,λq=>F.cq 26 530 rfl d g (z▸q) x p⟩
 rw[<-z]at l;have b:=aF l;refine aa ?_ Q;exact(wa (PV F.tokY u f (PU m c e) b.1) ((Cj L u v f Y _).2 _ b.2)).at
def PY {y:List Int}:∃z,tj (uz (Ph (n+9)) a (y.map .ae)) lP [.bW a] []=.aj (.aq Sp) z:=by
 obtain⟨z,h⟩:=PP;refine⟨z,?_⟩;show(match uz _ a _ _ [] []with| .aO v q=>R.aj v q| .aD _ q=>.aj .az q| .bh t q=>.bh t q|_=>.ak)=_;exact aa rfl h
section
noncomputable abbrev yi:RowW:=UU.row.toRowW
noncomputable abbrev kN:ClaimW:=yi.claim
set_option tactic.hygienic true in
def PZ {R} (h:YJ R q WShape.int=Sp):∀s,∃(y:List Int) (j:List SV) (t:Nat),layAllW R w P z q s=(j,{s with toks:=t})/\bN [] (y.map V.ae) j/\y.length=q.length:=by
 induction q with
 |nil=>exact λs=>⟨[],[],s.toks,rfl,trivial,rfl⟩
 |cons x q k=>
  intro s;refine cZ h λp u=>?_;cases x<;>first|exact bv p|skip
  refine aQ λG g=>?_;rename_i i;refine mV (k u {s with toks:=s.toks+1}) λy j t e r l=>?_;refine g ?_;refine⟨i::y,Value.int i s.toks::j,t,?_,⟨⟨_,rfl⟩,r⟩,congrArg (·+1) l⟩;show(match layAllW R w P z q {s with toks:=s.toks+1}with|some r=>Sn (Value.int i s.toks::r.1,r.2)|Option.none=>Option.none)=_;exact aa rfl e
set_option backward.match.sparseCases true in
def P' (h:kN.pre args=Sp):∃y,args=[.list y]/\YJ [] y WShape.int=Sp/\y.length<=63:=by
 obtain⟨k,j⟩:=pre_splitW h;refine ec (hasAllW_cons k) λd r e0 w p=>?_;subst e0;induction r using SD with
 |cons=>exact bv p
 |nil=>
  set_option tactic.hygienic true in cases d<;>first|exact bv w|skip
  rename_i y;refine⟨y,rfl,?_,?_⟩
  ·have:(YJ [] y WShape.int||Su)=Sp:=w
   rwa [Bool.or_false]at this
  ·have u:yi.pre=.and (.not (.lt (.lit (.int 63)) _)) (.lit _):=rfl
   rw[u]at j;unfold WTm.holds at j;by_cases z:y.length<=63
   ·exact z
   ·have q:less? (.int 63) (.int y.length)=Sp:=congrArg Sn (decide_eq_true (Ul.mpr (Nat.not_le.mp z)))
    have e:YK [] (.lt (.lit (.int 63)) (.len (.arg 0))) {args:=[.list y]}=(less? (.int 63) (.int _)).map .bool:=rfl;rw[q]at e;have g:YK [] (.not (.lt (.lit (.int 63)) (.len (.arg 0)))) {args:=[.list y]}=Sn (.bool Su):=by
     show(match YK [] (.lt (.lit (.int 63)) (.len (.arg 0))) {args:=[.list y]}with|some (.bool b)=>Sn (WData.bool !b)|_=>none)=_;refine aa ?_ e;rfl
    have l:YK [] (.and (.not (.lt (.lit (.int 63)) (.len (.arg 0)))) (.lit (.bool Sp))) {args:=[.list y]}=Sn (.bool Su):=by
     show(match YK [] _ {args:=[.list y]}with|some (.bool Su)=>Sn _|some (.bool Sp)=>_|_=>none)=_;exact aa rfl g
    rw[show yi.records=[]from rfl,l]at j;exact bv j
end
def Qa:NC ⟨.builtin "claim.caller" {},none,none,[],none⟩:=⟨by decide+kernel,λq m=>nomatch m⟩
def Qb (T:TabsAt iQ y) (p:(ghostOf y iQ).StaysIn w) (r:∀t∈iQ,∃j,w.get? t.2=(tabObj j)):OldK y w:=by
 refine⟨λb o e=>?_,λb o e=>?_⟩
 ·by_cases q:b∈iQ.map (·.2)
  ·refine cW q λt m e0=>?_;subst e0
   obtain⟨j,k⟩:=r t m;have z:=(T t m).2;rw[e]at z;replace z:=Sv z;subst z;exact .inr (.inl ⟨((T t m).1.tab (T t m).2).isCodeTable,rfl,#[],j,rfl,by refine aa k Array.empty_append⟩)
  ·exact .inl (p b o (ghost_ne e q))
 ·by_cases q:b∈iQ.map (·.2)
  ·refine cW q λt m e0=>?_;subst e0
   obtain⟨j,k⟩:=r t m;exact⟨_,k⟩
  ·exact⟨o,p b o (ghost_ne e q)⟩
def Qc (y:vj s=vk) (k:∀b o,s.heap.get? b=Sn o->z.heap.get? b=Sn o) (T:Top qw (looseW qw sB) j (qn s.heap) c z.heap) {v:List Int} (x:IsL z.heap a d.toArray 0) (Z:bN [] (v.map .ae) d) (L:v.length<=63) (h:∀u Y,OldK z.heap u->Q (.bool Sp) {z with heap:=u,toks:=Y}):ax (Tt gZ w) callerA (Uv (.ref 530) [.ref a]) Q E z:=by
 have S:=congrArg WK y;have g:=Px k (bH S).1;refine lX (PW (n:=9) (PN k S (congrArg (·.2.1) y) (congrArg (·.2.2.1) y) (congrArg (·.2.2.2) y) (topRead_of (ghost_top g T))) (ghost_get g x (λq=>by cases q)) Z (by refine aa ?_ (Sx _);exact a5 (by assumption) rfl) ⟨by decide,by decide,rfl,rfl⟩ ⟨⟨rfl,.nil,λp m=>(nomatch m),λi o a e=>nomatch e⟩,λb o e=>of_hideAll _ e,trivial,λp m=>(nomatch m),λt m=>?_,λp p m=>nomatch m⟩ (To (hideAll_size _ _)) _ _ ?_)
 ·refine cW m λJ l e0=>?_;subst e0
  exact⟨#[],(g _ (Tv l)).2,trivial,λp p=>.inl rfl⟩
 ·obtain⟨M,e⟩:=PY
  refine aa ?_ e;intro W K u f C r G;obtain rfl:K=.bool Sp:=r;refine h u f (Qb g G.bn λt m=>?_);refine cW m λJ l e0=>?_;subst e0;refine aP (G.eS _ (Tv l)) λP U _=>?_;exact⟨P,U⟩
def Qd:kN.post [.list q] (.bool Sp) [.list q]=Sp:=by kernel_rfl
def Qe {w p:Type} {A:q->z->Prop} {B:q->z->j->w->p->Prop} (x:q) (y:z) (n:j) (r:w) (s:p) (h:A x y) (k:B x y n r s):∃x y,A x y/\∃n r s,B x y n r s:=⟨x,y,h,n,r,s,k⟩
def Qf:kN.HoldsOpenBy (callStub (au "law")) [au "law"] UU.row.keeps Su:=by
 have hb:gZ.bare:=⟨rfl,rfl,rfl,rfl,rfl,by decide+kernel⟩
 refine⟨⟨hb,EU,rfl⟩,zj.witness,λw=>⟨(zh.behind (XP:=λg g=>True) (λg g=>trivial) zk w).1,λl Z6=>?_⟩⟩;refine aQ λG0 k0=>?_;obtain⟨B,hf,Z7,s,hT,hz,u,hg,G,y⟩:=(zh.behind (XP:=λg g=>True) (λg g=>trivial) zk w).2 l Z6;have u:s.gens=#[]:=Array.eq_empty_of_size_eq_zero (beq_iff_eq.mp u);obtain⟨⟨d,kwd⟩,K⟩:∃x,defOf qw (au "law")=Sn x:=Ug.mp (by decide+kernel);have hp:(defOf qw (au "law")).map (λx=>gZ.theDef (au "law"))=(defOf qw (au "law")).map (λx=>Sn (x.1.params,x.1.body,x.1.scope)):=by kernel_rfl
 have hk:(defOf qw (au "law")).map (λx=>kwWritten? x.1.params.kwonlyargs x.1.params.kw_defaults)=(defOf qw (au "law")).map (λx=>Sn x.2):=by kernel_rfl
 rw[K]at hp hk;refine k0 ⟨B,hf,Z7,s,hT,λn m=>?_,λx D=>(nomatch D),λx D=>(nomatch D),?_⟩
 ·cases SP.mp m
  exact pinned_of_view hg G K (Sv hp) (Sv hk)
 intro args N I Z U;refine aQ λGG kG=>?_;refine dz (P' N) λC e0 hi Z8=>?_;subst e0;obtain⟨zs,vs,t,e,r,hl⟩:=PZ (P:=w.params) (z:=Z) hi s;have k:layAllW kN.records (classAt s.heap) w.params Z [.list C] s=Sn ([.ref s.heap.objs.size],{s with heap:=s.heap.push {cls:=.type "list",data:=.seq vs.toArray},toks:=t}):=by
  show(match(match layAllW [] (classAt s.heap) w.params Z C s with|some r=>Sn (Wg r.2.heap.objs.size,{r.2 with heap:=r.2.heap.push {cls:=.type "list",data:=.seq r.1.toArray}})|Option.none=>Option.none)with
   |some a=>(match layAllW [] (classAt s.heap) w.params Z [] a.2 with|some r=>Sn (a.1::r.1,r.2)|Option.none=>Option.none)|Option.none=>Option.none)=_
  refine aa ?_ e;rfl
 generalize E:({s with heap:=s.heap.push {cls:=.type "list",data:=.seq vs.toArray},toks:=t}:Tf)=j at k;have ha:IsL j.heap s.heap.objs.size vs.toArray 0:=by subst E;exact fv _ _ rfl
 generalize s.heap.objs.size=a at k ha;have h:=layAllW_keeps _ _ _ k;have Q:=layAllW_rest _ _ _ k;refine dz (reads_layAllW U _ _ _ k I j.heap (λg g e=>e)) λas Z9 Z' H=>?_;have L:Laid kN.records w s j [.list C] [.ref a] as:=⟨⟨Z,U,k⟩,Z9,Z',H,h,Q.1.trans u,Q.2.2.1⟩
 have F:=G.keeps (λg g g g g=>trivial) h;have gd:∀Y A,OldK j.heap Y->(kN.Ends s [.list C] [.ref a] j (.ok (.ret (.bool Sp))) {j with heap:=Y,toks:=A}/\j.os=s.os):=λY A o=>by
  have z:=GoodWG.laid (c:=kN) (s':={j with heap:=Y,toks:=A}) rfl rfl (ident_freeW rfl rfl rfl) L (r:=.ok (.ret (.bool Sp))) ⟨.inl ⟨.bool Sp,.bool Sp,[],rfl,λg=>rfl,.bool Sp,Qd,λg=>⟨.nil,λg m=>nomatch m⟩⟩,o,rfl,.of_eq (Q.1.trans u)⟩;exact⟨z.1,Q.2.2.1⟩
 have Z_:s.heap.nsMap Vf (au "law")=Sn (.ref 530):=SG (SN.mp (dD (bH (show sE s.heap=Sp from congrArg WK y)).1 (i:=8) rfl) (au "law",26) (by decide));have ends:ax (Tt gZ w) callerA (callStub (au "law") [.ref a]).cur (λfin l=>∃f,fin=.done f/\(λr l=>(kN.Ends s [.list C] [.ref a] j r l/\l.os=s.os)/\leftWithCleanup l.gens=Su) (.ok f) l)
   (λe l=>(kN.Ends s [.list C] [.ref a] j (.error e) l/\l.os=s.os)/\leftWithCleanup l.gens=Su) j:=by
  refine bT (wpAny_nsGet F.T.g ?_);refine aa ?_ Z_;refine aN (Qc y h F.T ha r (aa Z8 hl) λY A o=>bb ⟨_,rfl,gd Y A o,?_⟩);refine aa ?_ Q.1;refine aa ?_ u;exact leftWithCleanup_false_of_bare AllBare.empty
 obtain⟨n,r',s2,s3,J,aaa,I_,hR⟩:=wp_halts_full (M:=Tt gZ w) (c:=.builtin "claim.caller" {}) (t:=(callStub (au "law") [.ref a]).cur) (p:=default) (s:=j) (R:=λr l=>kN.Ends s [.list C] [.ref a] j r l/\l.os=s.os) (Shared.asleep_of_life Q.2.2.2 hz)
  (VE _ _ _ (λfin p' l Y=>by obtain⟨f,rfl,q⟩:=Y;exact q) (λg g g Y=>Y) default j (ends _ default caller_in Qa))
 obtain⟨eh,-,-,eo,-⟩:=Shared.forget_eq I_;have T:=hR.1.congr eh;refine kG (Qe [.ref a] j n _ s3 k ⟨J,?_,λg i x D=>?_,λq=>(nomatch q),congrArg Life.seen ((runN_life _ _ _ aaa).trans Q.2.2.2),Shared.rest_eq (eo.trans hR.2)⟩)
 ·refine aQ λG2 k2=>?_
  rcases T with⟨v,hv,d1,d2,d3,d4,d5⟩|⟨e,ob,W,hv,d1,d2,d3,d4,d5⟩
  ·exact k2 (.inl ⟨v,congrArg outcomeOf hv,d1,d2,d3,λb o y g=>d4 b o y,d5⟩)
  ·exact k2 (.inr ⟨e,ob,W,congrArg outcomeOf hv,d1,d2,d3,d4,λb o y g=>d5 b o y⟩)
 ·rw[u]at D
  exact aG D
def law_holds:UU.Holds:=⟨zi,row_said zi,zj,Qf⟩
end
end
end Mine.Internal
theorem PySem.Challenge.cw_og0274_01_holds : PySem.Challenge.rw_og0274_01.Holds :=
 Mine.Internal.law_holds
