import PyProof.Rows.All
import Wide.All
import OpenK.AllK
import Wide.FinOn
import KE.BitLaws
import PyProof.StrLawsTight
import PyProof.StrLawsIn
import Lean
import PySem.Challenge.RW_nm0035_01
set_option Elab.async false
set_option linter.all false
set_option compiler.extract_closed false
set_option genSizeOf false
set_option genInjectivity false
set_option backward.match.sparseCases false
set_option maxRecDepth 100000
set_option maxHeartbeats 0
open Array renaming length_toList → g_, replicate → jA, toList_append → yU, getElem?_toList → yZ, getElem?_eq_some_iff → za, getElem?_eq_getElem → Ci, size_replicate → Fi, getD_eq_getD_getElem? → LI, getElem?_eq_none → LQ, mem_toList_iff → Ur, extract_size → arz, isEmpty_iff → arG, toList_setIfInBounds → asi, getElem?_setIfInBounds_ne → asj, getElem?_replicate → asl, toList_map → ass, size_map → ast, toList_push → asL, toList_pop → asO, find?_toList → as2
open Bool renaming and_eq_true → ku, or_eq_true → oA, noConfusion → su, and_eq_true_iff → ue, and_false → B6, false_ne_true → Ca, not_eq_true' → Cb, or_true → Fm, false_or → T_, eq_iff_iff → Ui, true_and → Uj, or_false → ark, and_true → ary, eq_false_iff → arN
open Exists renaming imp → mH
open ForInStep renaming yield → Ft
open Int renaming le_trans → ft, natCast_nonneg → gB, add_zero → jo, le_of_lt_add_one → nw, lt_of_lt_of_le → ou, ofNat_le → qC, le_of_lt → qE, ofNat_lt → sm, fmod_nonneg_of_pos → so, not_lt → sp, lt_iff_le_and_ne → tZ, fmod_lt_of_pos → ua, not_le → uf, le_add_of_nonneg_right → wi, add_nonneg → wm, add_lt_add_left → yQ, lt_of_le_of_lt → B0, toNat_natCast → B2, le_refl → B8, natCast_zero → B9, toNat_of_nonneg → B_, ne_of_gt → Fe, toNat_lt → Fg, mul_nonneg → Li, le_add_one → Lk, lt_trans → Lr, zero_add → Lw, toNat_le → TV, mul_one → TY, add_assoc → TZ, add_one_le_of_lt → T3, lt_add_of_pos_right → Ua, ne_of_lt → Ub, add_comm → Ud, natAbs_of_nonneg → Um, toNat_lt' → UI, fmod_eq_emod_of_nonneg → arb, mul_zero → arn, natCast_add → aro, mul_add → arp, add_right_comm → arq, sub_neg → art, add_sub_cancel → arv, neg_le_of_neg_le → ar5, le_natAbs → ar7
open List renaming length_map → bx, append_nil → bK, replicate → bN, length_append → bO, append_assoc → cZ, length_cons → eX, all_eq_true → fc, map_append → fx, contains_iff_mem → fW, not_mem_nil → gk, mem_cons → i6, mem_append → i7, range → jn, map_map → lW, length → mC, mem_map → mE, filterMap_cons_none → ow, length_replicate → oy, isEmpty_iff → pz, filterMap_cons_some → qF, forall_mem_singleton → qG, nodup_cons → qK, length_singleton → sr, mem_singleton → sA, getElem?_eq_getElem → ub, map_cons → uc, mem_append_right → ud, forall_mem_cons → wk, length_set → wo, drop_eq_getElem_cons → wx, length_nil → yM, foldl_append → yP, getElem?_append_left → yV, getElem?_append_right → yW, forIn_cons → yY, mem_of_getElem? → zf, any_cons → B3, nil_append → B4, drop_of_length_le → Cg, getLast?_eq_some_getLast → Fh, mem_append_left → Fk, mem_range → Fo, length_range → Fp, all_cons → Fs, getLast?_eq_getElem? → Lj, range' → Ll, length_range' → Ln, forall_mem_append → Lp, mem_replicate → Ls, range_succ_eq_map → Lx, nodup_nil → Lz, filterMap_cons → LG, getElem?_map → LU, replicate_succ → TX, lookup → T0, dropLast_concat_getLast → T7, take_left → T9, length_filterMap_le → Uc, map_replicate → Uf, filter_cons_of_pos → Ug, filter_cons_of_neg → Uh, drop_zero → Un, getD_eq_getElem?_getD → Ux, findIdx?_cons → UY, getElem?_set_ne → UZ, mem_of_mem_take → U6, of_mem_zip → U7, map_reverse → Vd, flatten_cons → arc, range'_succ → ard, set_append_right → arf, mem_range'_1 → arh, getLast?_concat → ari, map_take → arl, any_eq_true → arm, map_id → ars, length_filter_le → arw, isEmpty → arx, any_eq_false → arB, length_take_le' → arC, foldl → arF, find?_cons_of_pos → arJ, find?_cons_of_neg → arK, ext_getElem → arS, take_length → ar9, size_toArray → asn, length_eq_zero_iff → asr, nodup_append → asw, foldl_cons → asx, drop_eq_nil_iff → asY, lookup_cons → as6, mem_map_of_mem → as7, map_congr_left → as8, getElem?_replicate → as9, map_fst_zip → atd, length_take → atf, mem_filterMap → ath, length_dropLast → atm, getElem?_set_self → atq, set_set → atr
open List.Nodup renaming length_le_of_subset → Uu
open List.cons renaming inj → sB
open Nat renaming le_trans → aG, le_refl → bR, zero_le → cD, le_of_eq → cY, ne_of_lt → hO, add_le_add → iC, lt_of_lt_of_le → iD, lt_of_lt_of_eq → jD, le_succ → jV, zero_add → kq, not_lt → lX, le_add_right → mB, succ_le_succ → mD, lt_succ_self → mG, lt_of_le_of_lt → qB, add_le_add_left → sk, le_of_lt → sq, add_comm → tW, le_of_add_right_le → tX, le_of_lt_succ → wg, add_le_add_right → yK, add_right_comm → yL, le_add_left → yN, sub_self → yO, le_of_ble_eq_true → yS, add_assoc → B1, add_zero → B7, le_of_not_lt → Cd, ne_of_gt → Cj, lt_succ_of_le → Ff, succ_pos → Fj, min_eq_left → Fl, succ_ne_zero → Fq, not_lt_zero → Fw, lt_trans → Fx, lt_or_ge → FH, lt_of_le_of_ne → FK, mul_le_mul_left → Lm, add_sub_cancel_left → Lo, le_succ_of_le → Ly, succ_lt_succ → LF, le_of_succ_le_succ → LJ, lt_add_of_pos_right → T4, lt_irrefl → Uo, lt_of_succ_lt_succ → Uw, min_le_right → Uz, mod_lt → UH, lt_succ_of_lt → UN, pos_of_ne_zero → UQ, one_mul → U0, mul_succ → ara, mul_add → arj, exists_eq_add_of_le → aru, lt_one_iff → arD, le_antisymm → arE, not_le_of_lt → arO, sub_lt → asM, one_pos → asN, lt_of_not_le → asX, succ_ne_self → asZ, lt_of_succ_le → ata
open Nat.succ renaming inj → FI
open Option renaming map_eq_some_iff → iE, bind_eq_some_iff → jr, isSome_iff_exists → B5, isSome → Lu, some_ne_none → Ue, bind_some → UK, isNone_iff_eq_none → U5
open Option.some renaming inj → bH
open Prod renaming fst → sy, snd → FL
open PyProof.Rows renaming IntsAre → wn, step_dedup → ww, tail_any → Fy, StrsAre → Uq, IsTup → Us, Subscript_ → Uy, assignInOrder_nil → UW, assignInOrder_cons → UX, eq_int → arT, wpAny_operate' → arY, Attribute_any_ → asb
open PySem renaming Str → ah, Value → au, Addr → aw, model → ax, wpAny_bind → aL, wpAny → aH, Expr → aN, Shared → a8, wpAny_pure → bu, Heap → bt, World → b9, Program → cA, Obj → dy, Stmt → dT, Around → dY, intKind → eY, Pos → eZ, Env → fX, wpAny_mono → gm, callEnvC → gn, Scope → gC, wpAny_holding → i8, codeAny → i9, Sem → jW, compPost → ky, mainGlobals → la, wpAny_standAt → lb, Tok → lY, wpAny_ite_false → Fv, wpAny_of_eq → pB, IsL → mI, strKind → nz, starEach → nA, NameKind → oz, wpAny_setState_of → pA, sizeLine_eq → qH, assignEach → qM, KeyKind → sv, CmpOp → t_, DictEntry → ug, wpAny_truthy_bool → uh, bm_if_false → wq, bm_if_true → wr, Code → wu, wpAny_call → Ch, wpAny_field → wz, Flow → wA, call_meets → yX, bootBuiltins → y0, Result → y_, newFunctionEnv → zc, foldedSetIterable → zd, FuncData → zg, wpAny_execs_nil → zj, ElemsOf → Cc, newList → Ck, swappedStores → Cm, Operator → Fc, typeIs_str → FA, Comprehension → FM, swapsWithSole → FN, wpAny_call_entry → LA, wpAny_isTrue_BoolOp → LB, wpAny_Name → LD, wpAny_specialOf → UE, codeAny_call_builtin → LL, wpAny_setField → LW, wpAny_execs_cons → L2, wpAny_Expr_any → L4, wpAny_loadPart_at → L5, typeIs_int → Up, typeLookup_type → UB, builtinLookup_eq_fast → UC, codeAny_of_tree → UD, wpAny_rule → UF, wpAny_ite_true → aut, codeAny_mono → UL, wpAny_pyIter_list → UM, wpAny_comprehension_free → U3, wpAny_askSetting → U4, wpAny_loadPart → U8, wpAny_mkText → U9, wpAny_Assign_stores → U_, wpAny_setItem_pairs → Va, strKind → Vb, ClassData → Ve, Fin → arP, wpAny_typeOf → auu, wpAny_UnaryOp → arU, wpAny_isTrue_Compare1 → arV, wpAny_allTrue_And_cons → arW, wpAny_allTrue_Or_cons → arX, wpAny_loadName_local → arZ, wpAny_Constant_int → ar0, wpAny_items_nil → ar1, wpAny_items_cons → ar2, wpAny_Tuple → ar3, wpAny_List → ar4, seqIndex_neg → ar6, slot_list_getitem → ar8, sliceRange_one → ar_, wpAny_getItem_str_slice → asa, codeAny_builtin → asd, wpAny_attempt → ase, wpAny_storeSet_of → asq, wpAny_isInstance → auv, wpAny_Call_Name_kw → asB, call_range_1 → asE, slot_list_append → asH, entry_list_append → asI, args_list_append → asJ, wpAny_updateSeq → asK, call_meetsIn → asT, wpAny_pyIter_enum → as0, wpAny_pyIter_zip → as1, wpAny_assign_Name → as4, wpAny_assign_Tuple → as5, eval_ListComp → atb, wpAny_newObj_type → atc, aRefKeyMayBeTheName_at → atj, wpAny_lookBehind → atk, pastItsLine_dict → atl, ExceptHandler → atn, wpAny_release → atp, codeAny_call_cells → ats, slot_list_setitem → atu, wpAny_setSeqItemAt → atv, Drawn → atz, wpAny_typeLookup_exc → atA
open PySem.Builtin renaming bitAnd → qD
open PySem.Builtin.Bytes renaming fitsIndex → asf, tooLong → ash
open PySem.Builtin.Frozenset renaming sizeOf → Uv, quietEq → arL, subsetOf → arM, isAnySet → arQ, merge → asv
open PySem.Builtin.List renaming listFitsIndex → arI
open PySem.Builtin.Range renaming rangeSize → asD
open PySem.Builtin.Str renaming strKind → asS
open PySem.Calls renaming Name_function_global → UA, evalArgs_plain → UO, spliced_cons → UP, loadGlobal_builtin → asz, spliced_nil → asG, callWith_builtin → asW
open PySem.Code renaming compLoop → as_
open PySem.DictEntry renaming val → aty
open PySem.EntryCells renaming newEntry → atg
open PySem.F renaming called_set → wv, plainAttrs_list → LR, slot_str_split → LS, bm_called → UG, plainAttrs_str → UR, entry_str_split → US, args_str_split_2 → UT, slot_int_rmul → arH, slot_set_le → arR, bm_plain → asc, plainAttrs_dict → asP, slot_dict_get → asQ, type_dict_get → asR, slot_dict_get → asU, entry_dict_get → asV, attr_Exception → atw, excBase_Exception → atC
open PySem.Heap renaming lt_size → hR, get?_push_of_some → jp, get?_push_size → jq, get?_update_self → qL, SameBut → ui, get?_update_other → zi, get?_update_ne → FF, get?_none_of_le → UV, size_push → asy, ExtBut → as3
open PySem.Heap.SameBut renaming update → zb
open PySem.IsL renaming isList → hU
open PySem.IsRange renaming new → asF
open PySem.Manifest renaming isStub → atB
open PySem.NameKind renaming free → FJ, cell → ate
open PySem.Obj renaming mapFields → sC, mapSeq → uj, data_mapFields → zh, isFreed_of_fields → LV, putName → LY, cls_mapFields → ati
open PySem.PyData renaming keyHash → uk
open PySem.SetTable renaming bits → wt, runEnd → FC, laid → FD, fresh → FE, leap → LH, turns → LK, fits → UJ, layClean → asm, sizeAbove → aso, relaid → asp
open PySem.SetTable.layClean renaming free → qJ
open PySem.Shared renaming TypeIs → asu
open PySem.Stmt renaming Expr → ato
open PySem.Str renaming length → cM, ofString → cV, join → yT, append_empty → arA
open PySem.StrLaws renaming found_iff → Uk, subAt_eq → Ul
open PySem.Txt renaming contains → ny, join → Fd, startswith → Lh
open PySem.Value renaming ref → hG, isInt_shape → Ce, int → Fz, isStrOf → Vc
open PySem.W renaming Frag → cH, Looks → LN, InstAt → LZ, looks_findIn → L3, ns_none_of → asA, callWith_of → asC, codeRec_of → att, handedOut_of → atx
open PySem.W.Looks renaming of_pure → LP
open _root_ renaming List → G, Int → M, Nat → aj, Bool → ak, Option → ar, congrArg → az, beq_iff_eq → bw, if_neg → cB, if_pos → cE, decide_eq_true → de, of_decide_eq_true → dw, Array → eD, NeZero → fe, decide_eq_false → g9, beq_self_eq_true → jB, String → jC, Unit → jX, decide_eq_true_eq → kt, DecidableEq → k_, beq_eq_false_iff_ne → mF, UInt8 → px, bne_iff_ne → py, Decidable → tY, of_decide_eq_false → wj, congrFun → wy, beq_false_of_ne → yR, if_false → FG, ne_of_beq_false → Lq, or_congr → LM, ForInStep → Ut, ne_true_of_eq_false → UU
open Option renaming none → z, some → q
open Bool renaming true → D, false → j
open _root_ renaming rfl → C
open Decidable renaming decide → aa
open PySem PySem.W PyProof.Rows
namespace Mine
noncomputable section
local macro_rules |`(())=>`(by kernel_rfl)
local macro_rules (kind:=«term{}»)|`({})=>`(by decide)
local macro_rules |`(⋯)=>`(⟨[],[]⟩)
local macro_rules |`(#v[$x,*])=>`(⟨[$[.list $x],*],[]⟩)
local macro_rules (kind:=«term{_}»)|`({$x,*})=>`(⟨[$x,*],[]⟩)
local macro_rules |`(tactic|calc $f:term)=>match f with|`($f $a*)=>`(tactic|refine $f $a* ?_)|_=>`(tactic|refine $f ?_)
section
def q1{a b c:aj}(h:a<=b:=by assumption)(d:b<=c:=by decide):a<=c:=aG h d
def q2{a b c:aj}(h:a<=b:=by assumption)(d:b<c:=by decide):a<c:=qB h d
def q3{a b c d e:aj}(h:a<=b:=by assumption)(g:c<=d:=by assumption)(k:b+d<=e:=by decide):a+c<=e:=aG (iC h g) k
def q4{a b c d e:aj}(h:a<=b:=by assumption)(g:c<=d:=by assumption)(k:b+d<e:=by decide):a+c<e:=qB (iC h g) k
def q5{a b c:M}(h:a<=b:=by assumption)(d:b<=c:=by decide):a<=c:=ft h d
def q6{a b c:M}(h:a<=b:=by assumption)(d:b<c:=by decide):a<c:=B0 h d
def q8{a b c:M}(h:b<=a:=by assumption)(d:c<=b:=by decide):c<=a:=ft d h
def FP{a b c:aj}(h:p/\a<=b:=by assumption)(d:b<=c:=by decide):a<=c:=aG h.2 d
def z1{x a b c d:M}(h:a<=x/\x<b:=by assumption)(l:c<=a:=by decide)(u:b<=d:=by decide):c<=x/\x<d:=⟨ft l h.1,ou h.2 u⟩
def z2{x a b c d:M}(h:a<=x/\x<b:=by assumption)(l:c<=a:=by decide)(u:b<=d+1:=by decide):c<=x/\x<=d:=⟨ft l h.1,nw<|ou h.2 u⟩
def z3{x b d:M}(h:p/\x<b:=by assumption)(u:b<=d:=by decide):x<d:=ou h.2 u
def z4{x b d:M}(h:x<b:=by assumption)(u:b<=d+1:=by decide):x<=d:=nw<|ou h u
def z5{x b d:M}(h:b<=x/\p:=by assumption)(u:d<=b:=by decide):d<=x:=ft u h.1
def z7{x a b c d:M}(g:a<=x:=by assumption)(h:x<b:=by assumption)(l:c<=a:=by decide)(u:b<=d+1:=by decide):c<=x/\x<=d:=z2 ⟨g,h⟩ l u
def zk{n:aj}(a: -(n:M)<=x)(b:x<=n):x.natAbs<=n:=by cases x with|ofNat m=>exact qC.mp b|negSucc m=>exact qC.mp<|M.le_of_neg_le_neg a
def z8{n:aj}(h:a<=x/\x<b:=by assumption)(l: -(n:M)<=a:=by decide)(u:b<=n+1:=by decide):x.natAbs<=n:=have h:=z2 h l u;zk h.1 h.2
def y1{x b:M}{n:aj}(h:x<b:=by assumption)(u:b<=n+1:=by decide):x.toNat<=n:=TV.mpr<|z4 h u
def y2{x b:M}{n:aj}(h:p/\x<b:=by assumption)(u:b<=n+1:=by decide):x.toNat<=n:=y1 h.2 u
def y3(h:l+k*(r+1)<=N:=by assumption)(d:g<=k:=by assumption):l+g+k*r<=N:=by rw[ara,tW (k*r),<-B1]at h;exact aG (yK (sk d l) _) h
def y4(h:r<=k*N:=by assumption)(d:g<=k:=by assumption):g+r<=k*(N+1):=tW g r▸iC h d
def y5{a b c e f g n:aj}(h:a<=e:=by assumption)(i:b<=f:=by assumption)(l:c<=g:=by assumption)(k:e+f+g<=n:=by decide):a+b+c<=n:=aG (iC (iC h i) l) k
def y6(h:a<b:=by assumption)(g:b<=c:=by assumption)(k:c<=d+1:=by decide):a<=d:=wg<|iD h<|aG g k
def y7(f:a<=b:=by assumption)(h:b<c:=by assumption)(g:c<=d:=by assumption)(k:d<=e+1:=by decide):a<=e:=aG f<|y6 h g k
def y9(h:l+k*(r+1)<=N:=by assumption)(d:g<=k:=by assumption)(u:N<=c:=by decide):l+g<=c:=aG (tX<|y3 h d) u
def y8(h:l+k*(r+1)<=N:=by assumption)(d:N<=c:=by decide):l<=c:=aG (tX h) d
def cr(a:A)(b:B)(c:f):A/\B/\f:=⟨a,b,c⟩
def nB(a:A)(b:B)(c:f)(d:l):A/\B/\f/\l:=⟨a,b,c,d⟩
def wB(a:A)(b:B)(c:f)(d:l)(e:E):A/\B/\f/\l/\E:=⟨a,b,c,d,e⟩
def Vf{A B l m E F:Prop}(a:A)(b:B)(c:l)(d:m)(e:E)(f:F):A/\B/\l/\m/\E/\F:=⟨a,b,c,d,e,f⟩
def aT{c:Type _}{A B:c->Prop}(x:c)(a:A x)(b:B x):∃x,A x/\B x:=⟨x,a,b⟩
def cN{l:Type _}{A B f:l->Prop}(x:l)(a:A x)(b:B x)(c:f x):∃x,A x/\B x/\f x:=⟨x,a,b,c⟩
def oB{m:Type _}{A B f l:m->Prop}(x:m)(a:A x)(b:B x)(c:f x)(d:l x):∃x,A x/\B x/\f x/\l x:=⟨x,a,b,c,d⟩
def wC{m:Type _}{A B f l E:m->Prop}(x:m)(a:A x)(b:B x)(c:f x)(d:l x)(e:E x):∃x,A x/\B x/\f x/\l x/\E x:=⟨x,a,b,c,d,e⟩
def qN{c f:Type _}{A:c->f->Prop}(x:c)(y:f)(a:A x y):∃x y,A x y:=⟨x,y,a⟩
def fY{c f:Type _}{A B:c->f->Prop}(x:c)(y:f)(a:A x y)(b:B x y):∃x y,A x y/\B x y:=⟨x,y,a,b⟩
def bV{l m:Type _}{A B f:l->m->Prop}(x:l)(y:m)(a:A x y)(b:B x y)(c:f x y):∃x y,A x y/\B x y/\f x y:=⟨x,y,a,b,c⟩
def jE{m p:Type _}{A B f l:m->p->Prop}(x:m)(y:p)(a:A x y)(b:B x y)(c:f x y)(d:l x y):∃x y,A x y/\B x y/\f x y/\l x y:=⟨x,y,a,b,c,d⟩
def um{m p:Type _}{A B f l E:m->p->Prop}(x:m)(y:p)(a:A x y)(b:B x y)(c:f x y)(d:l x y)(e:E x y):∃x y,A x y/\B x y/\f x y/\l x y/\E x y:=⟨x,y,a,b,c,d,e⟩
def Cn{p r:Type _}{A B l m E F:p->r->Prop}(x:p)(y:r)(a:A x y)(b:B x y)(c:l x y)(d:m x y)(e:E x y)(f:F x y):∃x y,A x y/\B x y/\l x y/\m x y/\E x y/\F x y:=⟨x,y,a,b,c,d,e,f⟩
def uo{f l m:Type _}{A B:f->l->m->Prop}(x:f)(y:l)(c:m)(a:A x y c)(b:B x y c):∃x y c,A x y c/\B x y c:=⟨x,y,c,a,b⟩
def Vg{m p r:Type _}{A B f:m->p->r->Prop}(x:m)(y:p)(l:r)(a:A x y l)(b:B x y l)(c:f x y l):∃x y l,A x y l/\B x y l/\f x y l:=⟨x,y,l,a,b,c⟩
def L6{p r t:Type _}{A B f l:p->r->t->Prop}(x:p)(y:r)(m:t)(a:A x y m)(b:B x y m)(c:f x y m)(d:l x y m):∃x y m,A x y m/\B x y m/\f x y m/\l x y m:=⟨x,y,m,a,b,c,d⟩
def wD{r t u:Type _}{A B l m E F:r->t->u->Prop}(x:r)(y:t)(p:u)(a:A x y p)(b:B x y p)(c:l x y p)(d:m x y p)(e:E x y p)(f:F x y p):∃x y p,A x y p/\B x y p/\l x y p/\m x y p/\E x y p/\F x y p:=⟨x,y,p,a,b,c,d,e,f⟩
def Co{f l m p:Type _}{A:f->l->m->p->Prop}(x:f)(y:l)(c:m)(u:p)(a:A x y c u):∃x y c u,A x y c u:=⟨x,y,c,u,a⟩
def Vh{m p r t:Type _}{A B f:m->p->r->t->Prop}(x:m)(y:p)(l:r)(u:t)(a:A x y l u)(b:B x y l u)(c:f x y l u):∃x y l u,A x y l u/\B x y l u/\f x y l u:=⟨x,y,l,u,a,b,c⟩
def L7{p r t E:Type _}{A B f l:p->r->t->E->Prop}(x:p)(y:r)(m:t)(u:E)(a:A x y m u)(b:B x y m u)(c:f x y m u)(d:l x y m u):∃x y m u,A x y m u/\B x y m u/\f x y m u/\l x y m u:=⟨x,y,m,u,a,b,c,d⟩
def L8{p r t J:Type _}{A B f l E:p->r->t->J->Prop}(x:p)(y:r)(m:t)(u:J)(a:A x y m u)(b:B x y m u)(c:f x y m u)(d:l x y m u)(e:E x y m u):∃x y m u,A x y m u/\B x y m u/\f x y m u/\l x y m u/\E x y m u:=⟨x,y,m,u,a,b,c,d,e⟩
def Vi{t N O P:Type _}{A B l m E F I J:t->N->O->P->Prop}(x:t)(y:N)(p:O)(u:P)(a:A x y p u)(b:B x y p u)(c:l x y p u)(d:m x y p u)(e:E x y p u)(f:F x y p u)(i:I x y p u)(r:J x y p u):∃x y p u,A x y p u/\B x y p u/\l x y p u/\m x y p u/\E x y p u/\F x y p u/\I x y p u/\J x y p u:=⟨x,y,p,u,a,b,c,d,e,f,i,r⟩
@[elab_as_elim] theorem U{P:c->Prop}{a b:c}(h:a=b)(p:P b):P a:=h▸p
@[elab_as_elim] theorem bc{P:ak->Prop}(b:ak)(t:P D)(f:P j):P b:=b.rec f t
@[elab_as_elim] theorem bX{P:ak->Prop}(b:ak)(t:b=D->P D)(f:b=j->P j):P b:=bc (P:=λx=>b=x->P x) b t f C
@[elab_as_elim] theorem oc{c:Type _}{P:ar c->Prop}(o:ar c)(n:P z)(s:∀a,P (q a)):P o:=o.rec n s
@[elab_as_elim] theorem gT{c:Type _}{P:ar c->Prop}(o:ar c)(n:o=z->P z)(s:∀a,o=q a->P (q a)):P o:=oc (P:=λx=>o=x->P x) o n s C
def zm{p c:Prop}[tY p][tY c](a:p)(b:c):(decide p&&decide c)=D:=by rw[de a,de b];rfl
def zn{a b:ak}(x:a=D)(y:b=D):(a&&b)=D:=by rw[x,y];rfl
@[elab_as_elim] theorem t1{P:M->Prop}{x:M}(a:0<=x)(b:x<1)(c:P 0):P x:=U (M.le_antisymm (nw b) a) c
@[elab_as_elim] theorem t2{P:M->Prop}{x:M}(a:0<=x)(b:x<2)(c:P 0)(f:P 1):P x:=if h:x=1 then U h f else t1 a (tZ.mpr ⟨nw (b:=1) b,h⟩) c
@[elab_as_elim] theorem t3{P:M->Prop}{x:M}(a:0<=x)(b:x<3)(c:P 0)(f:P 1)(l:P 2):P x:=if h:x=2 then U h l else t2 a (tZ.mpr ⟨nw (b:=2) b,h⟩) c f
@[elab_as_elim] theorem t4{P:M->Prop}{x:M}(a:0<=x)(b:x<4)(c:P 0)(f:P 1)(l:P 2)(p3:P 3):P x:=if h:x=3 then U h p3 else t3 a (tZ.mpr ⟨nw (b:=3) b,h⟩) c f l
@[elab_as_elim] theorem t5{P:M->Prop}{x:M}(a:0<=x)(b:x<5)(c:P 0)(f:P 1)(l:P 2)(p3:P 3)(m:P 4):P x:=if h:x=4 then U h m else t4 a (tZ.mpr ⟨nw (b:=4) b,h⟩) c f l p3
@[elab_as_elim] theorem t6{P:M->Prop}{x:M}(a:0<=x)(b:x<6)(c:P 0)(f:P 1)(l:P 2)(p3:P 3)(m:P 4)(p:P 5):P x:=if h:x=5 then U h p else t5 a (tZ.mpr ⟨nw (b:=5) b,h⟩) c f l p3 m
@[elab_as_elim] theorem t7{P:M->Prop}{x:M}(a:0<=x)(b:x<7)(c:P 0)(f:P 1)(l:P 2)(p3:P 3)(m:P 4)(p:P 5)(r:P 6):P x:=if h:x=6 then U h r else t6 a (tZ.mpr ⟨nw (b:=6) b,h⟩) c f l p3 m p
@[elab_as_elim] theorem t8{P:M->Prop}{x:M}(a:0<=x)(b:x<8)(c:P 0)(f:P 1)(l:P 2)(p3:P 3)(m:P 4)(p:P 5)(r:P 6)(t:P 7):P x:=if h:x=7 then U h t else t7 a (tZ.mpr ⟨nw (b:=7) b,h⟩) c f l p3 m p r
@[elab_as_elim] theorem t9{P:M->Prop}{x:M}(a:0<=x)(b:x<9)(c:P 0)(f:P 1)(l:P 2)(p3:P 3)(m:P 4)(p:P 5)(r:P 6)(t:P 7)(u:P 8):P x:=if h:x=8 then U h u else t8 a (tZ.mpr ⟨nw (b:=8) b,h⟩) c f l p3 m p r t
@[elab_as_elim] theorem Vj{P:M->Prop}{x:M}(a:0<=x)(b:x<10)(c:P 0)(f:P 1)(l:P 2)(p3:P 3)(m:P 4)(p:P 5)(r:P 6)(t:P 7)(u:P 8)(B:P 9):P x:=if h:x=9 then U h B else t9 a (tZ.mpr ⟨nw (b:=9) b,h⟩) c f l p3 m p r t u
def r2{x:M}(a:0<=x:=by assumption)(b:x<2:=by assumption):x=0\/x=1:=t2 (P:=λx=>x=0\/x=1) a b (.inl C)<|.inr C
def r3{x:M}(a:0<=x:=by assumption)(b:x<3:=by assumption):x=0\/x=1\/x=2:=t3 (P:=λx=>x=0\/x=1\/x=2) a b (.inl C) (.inr<|.inl C)<|.inr<|.inr C
def r4{x:M}(a:0<=x:=by assumption)(b:x<4:=by assumption):x=0\/x=1\/x=2\/x=3:=t4 (P:=λx=>x=0\/x=1\/x=2\/x=3) a b (.inl C) (.inr<|.inl C) (.inr<|.inr<|.inl C)<|.inr<|.inr<|.inr C
def r8{x:M}(a:0<=x:=by assumption)(b:x<8:=by assumption):x=0\/x=1\/x=2\/x=3\/x=4\/x=5\/x=6\/x=7:=t8 (P:=λx=>x=0\/x=1\/x=2\/x=3\/x=4\/x=5\/x=6\/x=7) a b (.inl C) (.inr<|.inl C) (.inr<|.inr<|.inl C) (.inr<|.inr<|.inr<|.inl C) (.inr<|.inr<|.inr<|.inr<|.inl C) (.inr<|.inr<|.inr<|.inr<|.inr<|.inl C) (.inr<|.inr<|.inr<|.inr<|.inr<|.inr<|.inl C)<|.inr<|.inr<|.inr<|.inr<|.inr<|.inr<|.inr C
def fH{A B:Prop}{c:Prop}(h:A/\B)(k:A->B->c):c:=k h.1 h.2
def qO{A B c:Prop}{f:Prop}(h:A/\B/\c)(k:A->B->c->f):f:=k h.1 h.2.1 h.2.2
def Vk{A B c f:Prop}{l:Prop}(h:A/\B/\c/\f)(k:A->B->c->f->l):l:=k h.1 h.2.1 h.2.2.1 h.2.2.2
def Vl{A B c f E F I:Prop}{l:Prop}(h:A/\B/\c/\f/\E/\F/\I)(k:A->B->c->f->E->F->I->l):l:=k h.1 h.2.1 h.2.2.1 h.2.2.2.1 h.2.2.2.2.1 h.2.2.2.2.2.1 h.2.2.2.2.2.2
def av{f:Type _}{A B:f->Prop}{c:Prop}(h:∃x,A x/\B x)(k:∀x,A x->B x->c):c:=h.elim λx h=>k x h.1 h.2
def cP{l:Type _}{A B c:l->Prop}{f:Prop}(h:∃x,A x/\B x/\c x)(k:∀x,A x->B x->c x->f):f:=h.elim λx h=>k x h.1 h.2.1 h.2.2
def lZ{m:Type _}{A B c f:m->Prop}{l:Prop}(h:∃x,A x/\B x/\c x/\f x)(k:∀x,A x->B x->c x->f x->l):l:=h.elim λx h=>k x h.1 h.2.1 h.2.2.1 h.2.2.2
def nD{m:Type _}{A B c f E:m->Prop}{l:Prop}(h:∃x,A x/\B x/\c x/\f x/\E x)(k:∀x,A x->B x->c x->f x->E x->l):l:=h.elim λx h=>k x h.1 h.2.1 h.2.2.1 h.2.2.2.1 h.2.2.2.2
def Vm{m:Type _}{A B c f E F:m->Prop}{l:Prop}(h:∃x,A x/\B x/\c x/\f x/\E x/\F x)(k:∀x,A x->B x->c x->f x->E x->F x->l):l:=h.elim λx h=>k x h.1 h.2.1 h.2.2.1 h.2.2.2.1 h.2.2.2.2.1 h.2.2.2.2.2
def dZ{f l:Type _}{A:f->l->Prop}{c:Prop}(h:∃x y,A x y)(k:∀x y,A x y->c):c:=h.elim λx h=>h.elim λy h=>k x y h
def cq{f l:Type _}{A B:f->l->Prop}{c:Prop}(h:∃x y,A x y/\B x y)(k:∀x y,A x y->B x y->c):c:=h.elim λx h=>h.elim λy h=>k x y h.1 h.2
def dh{l m:Type _}{A B c:l->m->Prop}{f:Prop}(h:∃x y,A x y/\B x y/\c x y)(k:∀x y,A x y->B x y->c x y->f):f:=h.elim λx h=>h.elim λy h=>k x y h.1 h.2.1 h.2.2
def mJ{m p:Type _}{A B c f:m->p->Prop}{l:Prop}(h:∃x y,A x y/\B x y/\c x y/\f x y)(k:∀x y,A x y->B x y->c x y->f x y->l):l:=h.elim λx h=>h.elim λy h=>k x y h.1 h.2.1 h.2.2.1 h.2.2.2
def FQ{m p:Type _}{A B c f E:m->p->Prop}{l:Prop}(h:∃x y,A x y/\B x y/\c x y/\f x y/\E x y)(k:∀x y,A x y->B x y->c x y->f x y->E x y->l):l:=h.elim λx h=>h.elim λy h=>k x y h.1 h.2.1 h.2.2.1 h.2.2.2.1 h.2.2.2.2
def Vn{m p:Type _}{A B c f E F:m->p->Prop}{l:Prop}(h:∃x y,A x y/\B x y/\c x y/\f x y/\E x y/\F x y)(k:∀x y,A x y->B x y->c x y->f x y->E x y->F x y->l):l:=h.elim λx h=>h.elim λy h=>k x y h.1 h.2.1 h.2.2.1 h.2.2.2.1 h.2.2.2.2.1 h.2.2.2.2.2
def Vo{l m p:Type _}{A:l->m->p->Prop}{c:Prop}(h:∃x y f,A x y f)(k:∀x y f,A x y f->c):c:=h.elim λx h=>h.elim λy h=>h.elim λf h=>k x y f h
def zo{l m p:Type _}{A B:l->m->p->Prop}{c:Prop}(h:∃x y f,A x y f/\B x y f)(k:∀x y f,A x y f->B x y f->c):c:=h.elim λx h=>h.elim λy h=>h.elim λf h=>k x y f h.1 h.2
def zp{m p r:Type _}{A B c:m->p->r->Prop}{f:Prop}(h:∃x y l,A x y l/\B x y l/\c x y l)(k:∀x y l,A x y l->B x y l->c x y l->f):f:=h.elim λx h=>h.elim λy h=>h.elim λl h=>k x y l h.1 h.2.1 h.2.2
def oC{p r t:Type _}{A B c f:p->r->t->Prop}{l:Prop}(h:∃x y m,A x y m/\B x y m/\c x y m/\f x y m)(k:∀x y m,A x y m->B x y m->c x y m->f x y m->l):l:=h.elim λx h=>h.elim λy h=>h.elim λm h=>k x y m h.1 h.2.1 h.2.2.1 h.2.2.2
def wF{p r t:Type _}{A B c f E F:p->r->t->Prop}{l:Prop}(h:∃x y m,A x y m/\B x y m/\c x y m/\f x y m/\E x y m/\F x y m)(k:∀x y m,A x y m->B x y m->c x y m->f x y m->E x y m->F x y m->l):l:=h.elim λx h=>h.elim λy h=>h.elim λm h=>k x y m h.1 h.2.1 h.2.2.1 h.2.2.2.1 h.2.2.2.2.1 h.2.2.2.2.2
def wG{l m p r:Type _}{A:l->m->p->r->Prop}{c:Prop}(h:∃x y f u,A x y f u)(k:∀x y f u,A x y f u->c):c:=h.elim λx h=>h.elim λy h=>h.elim λf h=>h.elim λu h=>k x y f u h
def FR{l m p r:Type _}{A B:l->m->p->r->Prop}{c:Prop}(h:∃x y f u,A x y f u/\B x y f u)(k:∀x y f u,A x y f u->B x y f u->c):c:=h.elim λx h=>h.elim λy h=>h.elim λf h=>h.elim λu h=>k x y f u h.1 h.2
def Vp{m p r t:Type _}{A B c:m->p->r->t->Prop}{f:Prop}(h:∃x y l u,A x y l u/\B x y l u/\c x y l u)(k:∀x y l u,A x y l u->B x y l u->c x y l u->f):f:=h.elim λx h=>h.elim λy h=>h.elim λl h=>h.elim λu h=>k x y l u h.1 h.2.1 h.2.2
def Cp{p r t E:Type _}{A B c f:p->r->t->E->Prop}{l:Prop}(h:∃x y m u,A x y m u/\B x y m u/\c x y m u/\f x y m u)(k:∀x y m u,A x y m u->B x y m u->c x y m u->f x y m u->l):l:=h.elim λx h=>h.elim λy h=>h.elim λm h=>h.elim λu h=>k x y m u h.1 h.2.1 h.2.2.1 h.2.2.2
def Vq{p r t J:Type _}{A B c f E:p->r->t->J->Prop}{l:Prop}(h:∃x y m u,A x y m u/\B x y m u/\c x y m u/\f x y m u/\E x y m u)(k:∀x y m u,A x y m u->B x y m u->c x y m u->f x y m u->E x y m u->l):l:=h.elim λx h=>h.elim λy h=>h.elim λm h=>h.elim λu h=>k x y m u h.1 h.2.1 h.2.2.1 h.2.2.2.1 h.2.2.2.2
def Vr{p r t J:Type _}{A B c f E F I:p->r->t->J->Prop}{l:Prop}(h:∃x y m u,A x y m u/\B x y m u/\c x y m u/\f x y m u/\E x y m u/\F x y m u/\I x y m u)(k:∀x y m u,A x y m u->B x y m u->c x y m u->f x y m u->E x y m u->F x y m u->I x y m u->l):l:=h.elim λx h=>h.elim λy h=>h.elim λm h=>h.elim λu h=>k x y m u h.1 h.2.1 h.2.2.1 h.2.2.2.1 h.2.2.2.2.1 h.2.2.2.2.2.1 h.2.2.2.2.2.2
def Vs{p r t N:Type _}{A B c f E F I J:p->r->t->N->Prop}{l:Prop}(h:∃x y m u,A x y m u/\B x y m u/\c x y m u/\f x y m u/\E x y m u/\F x y m u/\I x y m u/\J x y m u)(k:∀x y m u,A x y m u->B x y m u->c x y m u->f x y m u->E x y m u->F x y m u->I x y m u->J x y m u->l):l:=h.elim λx h=>h.elim λy h=>h.elim λm h=>h.elim λu h=>k x y m u h.1 h.2.1 h.2.2.1 h.2.2.2.1 h.2.2.2.2.1 h.2.2.2.2.2.1 h.2.2.2.2.2.2.1 h.2.2.2.2.2.2.2
set_option genCtorIdx false in
inductive F where
 |none|bool(b:ak)|int(i:M)|str(s:ah)|bytes(b:eD px)
 |ai(l:G F)|af(l:G F)|raw(l:G F)
 |di(l:G (M×F))|ds(l:G (ah×F))
 |set(l:G M)
 |hV(c:aw)(fs:G (ah×F))
set_option genCtorIdx false in
inductive V where
 |fz(f:F)|ref(n:aj)|dJ(n:aj)|exc(w:ah)
noncomputable def V.ctorIdx(x:V):aj:=x.casesOn (motive:=λ_=>aj) (λ_=>0) (λ_=>1) (λ_=>2) λ_=>3
set_option genCtorIdx false in
inductive FObj where
 |list(l:G F)|di(l:G (M×F))|ds(l:G (ah×F))|set(l:G M)|bv
structure Mem where
 fl:G FObj
 ins:G (ar<|aw×G (ah×V))
noncomputable abbrev Rho:=G<|ar V
set_option genCtorIdx false in
inductive T where
 |var(i:aj)|ai(l:G T)
inductive qP where
 |plain|range|nE|zip
inductive BI where
 |len|str|oE|list|set|wH|max|zq|sum|bytes|int
 deriving k_
inductive Me where
 |append|gD|pop|count|pC|pD|add|join|split|startswith
inductive X where
 |lit(f:F)
 |gl(k:aj)
 |var(i:aj)
 |aJ(op:Fc)(a b:X)
 |neg(a:X)
 |aA(op:t_)(a b:X)
 |kz(a:X)(o1:t_)(b:X)(o2:t_)(c:X)
 |not(a:X)
 |and(a b:X)
 |or(a b:X)
 |eM(t a b:X)
 |ai(es:G X)
 |af(m:ak)(es:G X)
 |oG(m:ak)(ks:G M)(es:G X)
 |oH(i:aj)
 |sub(a i:X)
 |pE(a lo hi:X)
 |aR(a:X)(n:ah)
 |call(f:aw)(args:G X)
 |Cq(f:aw)(args:G X)
 |cls(m:ak)(c:aw)(args:G X)
 |bi(k:BI)(args:G X)
 |cw(k:Me)(o:X)(args:G X)
 |eG(m:ak)(ns:aj)(ct:X)(t:T)(k:qP)(a b:X)(cQ:G X)
 |sD(ns:aj)(ct:X)(t1:T)(a:X)(t2:T)(a2:X)
 |wI(ns:aj)(key val:X)(t:T)(a:X)(cQ:G X)
set_option genCtorIdx false in
inductive Tg where
 |v(t:T)
 |aR(o:X)(n:ah)
 |sub(o i:X)
set_option genCtorIdx false in
inductive S where
 |a9(t:Tg)(x:X)
 |iF(ts:G Tg)(xs:G X)
 |cS(x:X)
 |oJ(f:aw)(args:G X)
 |ret(x:X)
 |ite(t:X)(a b:G S)
 |uq(t:X)(b:G S)
 |c_(t:T)(k:qP)(a b:X)(body:G S)
 |brk
 |cont
 |fZ(x:X)
 |ur(body:G S)(i:aj)(atD:G S)
 |fz(i:aj)
set_option genCtorIdx false in
inductive bL where
 |ret(v:V)|exc(w:ah)
noncomputable def bL.ctorIdx(x:bL):aj:=x.casesOn (motive:=λ_=>aj) (λ_=>0) λ_=>1
set_option genCtorIdx false in
inductive Out where
 |next|brk|cont|ret(v:V)|exc(w:ah)
set_option genCtorIdx false in
inductive kA where
 |i_(i:aj)|ff(f:F)|nF
structure Fns where
 call:aw->G V->G FObj->(bL->Mem->Prop)->Prop
 cls:aw->ar (aj×G (ah×kA))
 gl:G (ah×F)
 base:aj:=0
noncomputable def aM:aj:=1048576
noncomputable def lg:FObj->ar F| .list l=>q<|.af l| .di l=>q<|.di l| .ds l=>q<|.ds l| .set l=>q<|.set l| .bv=>z
noncomputable def ut(v:V)(c:G FObj):ar (F×G FObj):=match v with
 | .fz f=>q (f,c)
 | .ref n=>match c[n]? with|q o=>(lg o).map λf=>(f,c.set n .bv)|z=>z
 |_=>z
noncomputable def qQ:G (ah×V)->G FObj->ar (G (ah×F)×G FObj)
 |[],c=>q ([],c)
 |(n,v)::r,c=>do
  let(f,c)<-ut v c
  let(l,c)<-qQ r c
  q ((n,f)::l,c)
noncomputable def gE(v:V)(l:Mem):ar (F×Mem):=match v with
 | .dJ n=>match l.ins[n]? with
  |q (q (c,p))=>do
   let(r,m)<-qQ p l.fl
   q (.hV c r,⟨m,l.ins.set n z⟩)
  |_=>z
 |v=>(ut v l.fl).map λ(f,m)=>(f,⟨m,l.ins⟩)
noncomputable def oK:G V->Mem->ar (G F×Mem)
 |[],c=>q ([],c)
 |v::r,c=>do
  let(f,c)<-gE v c
  let(l,c)<-oK r c
  q (f::l,c)
def oP{c:Type}(o:ar c)(k:c->Prop):Prop:=match o with|q a=>k a|z=>False
def eQ{c f:Type}(o:ar (c×f))(k:c->f->Prop):Prop:=match o with|q (a,b)=>k a b|z=>False
def gd(c:ak)(P:Prop):Prop:=match c with|D=>P|j=>False
def ja(x:V)(k:ak->Prop):Prop:=match x with| .fz (.bool b)=>k b|_=>False
def gU(x:V)(k:ah->Prop):Prop:=match x with| .fz (.str s)=>k s|_=>False
def cF(x:V)(k:M->Prop):Prop:=match x with| .fz (.int s)=>k s|_=>False
def qR(x:V)(k:aj->Prop):Prop:=match x with| .ref n=>k n|_=>False
def vK(x:V)(c:M->Prop)(f:ah->Prop)(l:Prop):Prop:=match x with| .fz (.int i)=>c i| .fz (.str s)=>f s|_=>l
noncomputable def oM:FObj->ar (G F)| .list l=>q l|_=>z
noncomputable def Cr:FObj->ar (G M)| .set l=>q l|_=>z
noncomputable def zr(c:G FObj):V->ar (G F)| .fz (.af l)=>q l| .ref n=>c[n]?.bind oM|_=>z
def gF(c:G FObj)(x:V)(k:G F->Prop):Prop:=oP (zr c x) k
noncomputable def gV:G F->ar (G M)|[]=>q []| .int i::r=>(gV r).map (i::·)|_::_=>z
noncomputable def iG:G F->ar (G ah)|[]=>q []| .str i::r=>(iG r).map (i::·)|_::_=>z
def FS(l m:G F)(P:ak->Prop):Prop:=match m with|[]=>P l.isEmpty|m=>match l with|[]=>P m.isEmpty|l=>oP (gV l) λa=>oP (gV m) λb=>P<|a==b
noncomputable def small(i:M):ak:=aa<|i.natAbs<2^62
def wJ(op:Fc)(x y:V)(c:Mem)(P:V->Prop):Prop:=match op with
 | .Add=>vK x (λa=>cF y λb=>P (.fz (.int (a+b)))) (λa=>gU y λb=>gd (a.length+b.length<=aM) (P (.fz (.str (a++b)))))
   (gF c.fl x λl=>gF c.fl y λm=>gd (l.length+m.length<=aM) (P (.fz (.af (l++m)))))
 | .Sub=>cF x λa=>cF y λb=>P (.fz (.int (a-b)))
 | .Mult=>vK x (λa=>cF y λb=>gd (small a) (P (.fz (.int (a*b))))) (λ_=>False)
   (gF c.fl x λl=>cF y λn=>gd (0<=n&&n<=1000&&l.length<=100) (P (.fz (.af (bN n.toNat l).flatten))))
 | .Mod=>cF x λa=>cF y λb=>gd (b !=0) (P (.fz (.int (a.fmod b))))
 | .FloorDiv=>cF x λa=>cF y λb=>gd (b !=0&&b.natAbs<1073741824) (P (.fz (.int (a.fdiv b))))
 | .LShift=>cF x λa=>cF y λb=>gd (0<=b&&b<=1000&&small a) (P (.fz (.int (a*2^b.toNat))))
 | .RShift=>cF x λa=>cF y λb=>gd (0<=b) (P (.fz (.int (a.fdiv (2^b.toNat)))))
 | .BitAnd=>cF x λa=>cF y λb=>P (.fz (.int (qD a b)))
 | .Pow=>cF x λa=>cF y λb=>gd (0<=b&&b<=1000&&small a) (P (.fz (.int (a^b.toNat))))
 |_=>False
noncomputable def has{c:Type}[BEq c](k:c)(l:G (c×F)):ak:=l.any λe=>e.1==k
def L9(f:G FObj)(s:ah)(c:V)(P:ak->Prop):Prop:=match c with
 | .fz c=>match c with| .str y=>P<|ny y s| .ai l=>oP (iG l) λl=>P<|l.any (· ==s)| .af l=>oP (iG l) λl=>P<|l.any (· ==s)| .ds l=>P<|has s l| .di l=>gd l.isEmpty<|P j|_=>False
 | .ref n=>oP f[n]? λo=>match o with| .ds l=>P<|has s l| .di l=>gd l.isEmpty<|P j| .list l=>oP (iG l) λl=>P<|l.any (· ==s)|_=>False
 |_=>False
def L_(f:G FObj)(i:M)(c:V)(P:ak->Prop):Prop:=match c with
 | .fz c=>match c with| .ai l=>oP (gV l) λl=>P<|l.any (· ==i)| .di l=>P<|has i l| .set l=>P<|l.contains i|_=>False
 | .ref n=>oP f[n]? λo=>match o with| .di l=>P<|has i l| .set l=>P<|l.contains i|_=>False
 |_=>False
def FT(f:G FObj)(x c:V)(P:ak->Prop):Prop:=vK x (λi=>L_ f i c P) (λs=>L9 f s c P) False
noncomputable def sE(c:G FObj):V->ar (G M)| .fz (.set l)=>q l| .ref n=>c[n]?.bind Cr|_=>z
noncomputable def isNone:V->ak| .fz .none=>D|_=>j
def zs(x y:V)(c:Mem)(P:ak->Prop):Prop:=vK x (λa=>cF y λb=>P<|a==b) (λa=>gU y λb=>P<|a==b)<|gF c.fl x λl=>gF c.fl y λm=>FS l m P
def wK(op:t_)(x y:V)(c:Mem)(P:ak->Prop):Prop:=match op with| .Is=>gd (isNone y)<|P<|isNone x| .IsNot=>gd (isNone y)<|P<|!isNone x| .In=>FT c.fl x y P| .NotIn=>FT c.fl x y λb=>P<|!b| .Eq=>zs x y c P| .NotEq=>zs x y c λb=>P<|!b| .Lt=>cF x λa=>cF y λb=>P<|aa<|a<b| .LtE=>vK x (λa=>cF y λb=>P<|aa<|a<=b) (λ_=>False)<|oP (sE c.fl x) λl=>oP (sE c.fl y) λm=>P<|l.all m.contains| .Gt=>cF x λa=>cF y λb=>P<|aa<|b<a| .GtE=>cF x λa=>cF y λb=>P<|aa<|b<=a
def eH(l:G F)(i:M)(P:F->Prop):Prop:=gd (small i) (match aa (0<=i)with|D=>oP l[i.toNat]? P|j=>gd (-i<=l.length)<|oP l[((l.length:M)+i).toNat]? P)
noncomputable def aQ{c:Type}[BEq c](k:c):G (c×F)->ar F|[]=>z|e::r=>match e.1==k with|D=>q e.2|j=>aQ k r
def jY(o i:V)(c:G FObj)(P:F->Prop):Prop:=cF i λi=>match o with
 | .fz o=>match o with| .ai l=>eH l i P| .af l=>eH l i P| .di l=>oP (aQ i l) P|_=>False
 | .ref n=>oP c[n]? λo=>match o with| .list l=>eH l i P| .di l=>oP (aQ i l) P|_=>False
 |_=>False
noncomputable def hZ{c:Type}(k:ah):G (ah×c)->ar c|[]=>z|e::r=>match e.1==k with|D=>q e.2|j=>hZ k r
def Ma(o:V)(n:ah)(c:Mem)(P:V->Prop):Prop:=match o with
 | .fz o=>match o with| .hV _ l=>oP (hZ n l) λf=>P<|.fz f|_=>False
 | .dJ k=>oP c.ins[k]? λe=>eQ e λ_ l=>oP (hZ n l) P
 |_=>False
def uv(f m:V)(n:aj)(P:aj->aj->Prop):Prop:=match isNone f with|D=>cF m λh=>gd (0<=h&&h<=1000000)<|P 0<|min h.toNat n|j=>cF f λl=>gd (isNone m&&0<=l&&l<=1000000)<|P (min l.toNat n) n
def Mb(o:V)(k:G F->Prop)(r:Prop):Prop:=match o with| .fz (.raw l)=>k l|_=>r
def Mc(o m p:V)(f:Mem)(P:F->Prop):Prop:=vK o (λ_=>False) (λs=>gd (s.length<=aM) (uv m p s.length λa b=>P (.str (ah.mk (s.cps.extract a b)))))
 (Mb o (λl=>gd (l.length<=aM) (uv m p l.length λa b=>P (.af ((l.take b).drop a))))
  (gF f.fl o λl=>gd (l.length<=aM) (uv m p l.length λa b=>P (.af ((l.take b).drop a)))))
noncomputable def cJ{c:Type}[BEq c](k:c)(v:F):G (c×F)->G (c×F)|[]=>[(k,v)]|e::r=>match e.1==k with|D=>(e.1,v)::r|j=>e::cJ k v r
noncomputable def gG{c:Type}(k:ah)(v:c):G (ah×c)->G (ah×c)|[]=>[(k,v)]|e::r=>match e.1==k with|D=>(e.1,v)::r|j=>e::gG k v r
def Cs(l:G F)(i:M)(v:F)(P:G F->Prop):Prop:=gd (small i) (match aa (0<=i)with|D=>gd (i<l.length)<|P<|l.set i.toNat v|j=>gd (-(l.length:M)<=i)<|P<|l.set (i+l.length).toNat v)
def FU(o i:V)(v:F)(c:G FObj)(P:G FObj->Prop):Prop:=qR o λn=>oP c[n]? λo=>vK i
 (λi=>match o with| .list l=>Cs l i v λl=>P<|c.set n<|.list l| .di l=>gd (l.length<aM)<|P<|c.set n<|.di<|cJ i v l|_=>False)
 (λk=>match o with| .ds l=>gd (l.length<aM)<|P<|c.set n<|.ds<|cJ k v l| .di l=>gd l.isEmpty<|P<|c.set n<|.ds [(k,v)]|_=>False) False
noncomputable def dU:V->ak| .exc _=>j|_=>D
def Md(x:V)(k:aj->Prop):Prop:=match x with| .dJ n=>k n|_=>False
def Vt(o:V)(n:ah)(v:V)(f:Mem)(P:Mem->Prop):Prop:=Md o λk=>oP f.ins[k]? λe=>eQ e λc l=>gd (l.length<100&&dU v&&(hZ n l).isSome) (P ⟨f.fl,f.ins.set k<|q (c,gG n v l)⟩)
noncomputable def FV:V->ar (G F)| .fz (.ai l)=>q l| .fz (.af l)=>q l|_=>z
mutual
noncomputable def fy:T->F->Rho->ar Rho| .var i,f,ρ=>if i<ρ.length then q (ρ.set i<|q<|.fz f)else z| .ai c,f,ρ=>match FV (.fz f)with|q l=>if c.length==l.length then nG c l ρ else z|z=>z
noncomputable def nG:G T->G F->Rho->ar Rho
 |[],_,ρ=>q ρ
 |_::_,[],_=>z
 |t::c,f::l,ρ=>do
  let ρ<-fy t f ρ
  nG c l ρ
end
noncomputable def wM(s:ah):G F:=s.cps.toList.map λc=>.str ⟨#[c]⟩
noncomputable def Mf:F->ar (G F)| .af l=>q l| .str s=>q<|wM s| .di l=>q<|l.map λe=>.int e.1|_=>z
noncomputable def fh(n:M):G F:=(jn n.toNat).map λ(i:aj)=>F.int (i:M)
noncomputable def numbered(i:aj):G F->G F|[]=>[]|f::r=>.ai [.int i,f]::numbered (i+1) r
noncomputable def mL:G F->G F->G F|a::l,b::m=>.ai [a,b]::mL l m|_,_=>[]
noncomputable def gH(k:qP)(a b:V):ar (G F):=match k,a,b with| .plain,.fz f,_=>Mf f| .range,.fz (.int n),_=>if-1000000<=n/\n<=1000000 then q (fh n)else z| .nE,.fz (.af l),_=>q<|numbered 0 l| .zip,.fz (.af l),.fz (.af m)=>q<|mL l m|_,_,_=>z
noncomputable def digitsVal(l:G aj):M:=l.foldl (λ(n:M)(c:aj)=>n*10+((c:M)-48)) 0
noncomputable def jF(c:aj):ak:=aa (48<=c)&&aa (c<=57)
noncomputable def js(l:G M)(i:M):G M:=match l.contains i with|D=>l|j=>i::l
noncomputable def nH(l:G M)(is:G M):G M:=is.foldl js l
def toSetW(v:V)(c:Mem)(P:G M->Prop):Prop:=match sE c.fl v with|q l=>gd (l.all λi=>aa (0<=i)&&i<16)<|P l|z=>gF c.fl v λl=>oP (gV l) λis=>gd (is.length<=1000)<|P<|nH [] is
def Mg(v:V)(c:Mem)(P:aj->Prop):Prop:=match v with
 | .fz v=>match v with| .str s=>P s.length| .bytes b=>P b.size| .di l=>P l.length| .af l=>P l.length|_=>False
 | .ref n=>oP (f c n) λl=>P l.length
 |_=>False
where f (c:Mem) (n:aj):ar (G F):=c.fl[n]?.bind oM
def b1(args:G V)(k:V->Prop):Prop:=match args with|[v]=>k v|_=>False
def b2(args:G V)(k:V->V->Prop):Prop:=match args with|[v,x]=>k v x|_=>False
def Mh(k:BI)(args:G V)(c:Mem)(P:V->Mem->Prop):Prop:=match k with| .len=>b1 args λv=>Mg v c λn=>gd (n<=aM)<|P (.fz<|.int n) c| .str=>b1 args λv=>cF v λi=>gd (small i)<|P (.fz<|.str<|cV<|toString i) c| .oE=>b1 args λv=>cF v λn=>gd (-1000000<=n&&n<=1000000)<|P (.fz<|.af<|fh n) c| .list=>b1 args λv=>gF c.fl v λl=>gd (l.length<=aM)<|P (.fz<|.af l) c| .set=>b1 args λv=>toSetW v c λl=>P (.fz<|.set l) c| .wH=>b1 args λv=>toSetW v c λl=>P (.ref c.fl.length) ⟨c.fl++[.set l],c.ins⟩| .max=>b2 args λx y=>cF x λa=>cF y λb=>P (.fz<|.int (match aa (a<b)with|D=>b|j=>a)) c| .zq=>b1 args λv=>cF v λa=>P (.fz<|.int a.natAbs) c| .sum=>b1 args λv=>gF c.fl v λl=>oP (gV l) λis=>P (.fz<|.int is.sum) c| .bytes=>b1 args λv=>cF v λn=>gd (0<=n&&n<=1000)<|P (.fz<|.bytes<|jA n.toNat 0) c| .int=>b1 args λv=>gU v λs=>gd (s.length<=100&&s.cps.size !=0&&s.cps.toList.all jF)<|P (.fz<|.int<|digitsVal s.cps.toList) c
def Mi(n:aj)(f:F)(c:Mem)(P:V->Mem->Prop):Prop:=oP c.fl[n]? λo=>oP (oM o) λl=>gd (l.length<aM)<|P (.fz .none) ⟨c.fl.set n<|.list<|l++[f],c.ins⟩
def zt(o:V)(c:Mem)(k:G (M×F)->Prop):Prop:=match o with
 | .fz o=>match o with| .di l=>k l|_=>False
 | .ref n=>oP c.fl[n]? λo=>match o with| .di l=>k l|_=>False
 |_=>False
def kB(k:Me)(o:V)(args:G V)(c:Mem)(P:V->Mem->Prop):Prop:=match k with| .append=>b1 args λv=>qR o λn=>eQ (gE v c) λf c=>Mi n f c P| .gD=>b1 args λv=>qR o λn=>oP c.fl[n]? λo=>oP (oM o) λl=>gF c.fl v λm=>gd (l.length+m.length<aM)<|P (.fz .none) ⟨c.fl.set n<|.list<|l++m,c.ins⟩| .pop=>qR o λn=>oP c.fl[n]? λo=>oP (oM o) λl=>oP l.getLast? λf=>gd (args.isEmpty&&l.length<=aM)<|P (.fz f) ⟨c.fl.set n<|.list l.dropLast,c.ins⟩| .count=>b1 args λv=>cF v λi=>gF c.fl o λl=>oP (gV l) λis=>P (.fz<|.int<|is.count i) c| .pC=>b1 args λv=>cF v λi=>zt o c λl=>P (.fz<|(aQ i l).getD .none) c| .pD=>b2 args λv d=>cF v λi=>zt o c λl=>P (match aQ i l with|q f=>.fz f|z=>d) c| .add=>b1 args λv=>cF v λi=>qR o λn=>oP c.fl[n]? λo=>oP (Cr o) λl=>gd (l.length<1000)<|P (.fz .none) ⟨c.fl.set n<|.set<|js l i,c.ins⟩| .join=>b1 args λv=>gU o λs=>gF c.fl v λl=>oP (iG l) λp=>gd (p.length<=10000&&s.length==0&&p.all (λt=>aa<|t.length<=1))<|P (.fz<|.str<|Fd s p) c| .split=>b1 args λv=>gU v λy=>gU o λx=>gd (x.length<=10000&&y.length==1)<|P (.fz<|.af<|(Txt.split x y).map .str) c| .startswith=>b1 args λv=>gU v λy=>gU o λx=>P (.fz<|.bool<|Lh x y) c
noncomputable def recOk(k:Me)(o:V)(c:G FObj):ak:=match k with
 | .append| .gD| .pop| .count=>(zr c o).isSome
 | .pC| .pD=>match o with
  | .fz (.di _)=>D
  | .ref n=>match c[n]? with|q (.di _)=>D|_=>j
  |_=>j
 | .add=>(sE c o).isSome
 | .join| .split| .startswith=>match o with| .fz (.str _)=>D|_=>j
noncomputable def Ct{c:Type}:ar c->G c->G c|some x,l=>x::l|none,l=>l
def gW(step:F->Mem->(ar F->Mem->Prop)->Prop):G F->Mem->(G F->Mem->Prop)->Prop|[],c,P=>P [] c|f::r,c,P=>step f c λo c=>gW step r c λl c=>P (Ct o l) c
def fP(step:F->Mem->(ar F->Mem->Prop)->Prop)(l:G F)(c:Mem)(P:G F->Mem->Prop):Prop:=gd (l.length<=aM)<|gW step l c P
noncomputable def zu(o:ar (M×F))(c:G (M×F)):G (M×F):=match o with|q (k,x)=>cJ k x c|z=>c
def pF(step:F->Mem->(ar (M×F)->Mem->Prop)->Prop):G F->Mem->G (M×F)->(G (M×F)->Mem->Prop)->Prop|[],c,l,P=>P l c|f::r,c,l,P=>step f c λo c=>pF step r c (zu o l) P
def lh(step:F->Mem->(G F->Mem->Prop)->Prop):G F->Mem->(G F->Mem->Prop)->Prop|[],c,P=>P [] c|f::r,c,P=>step f c λo c=>lh step r c λl c=>P (o++l) c
def gI(m:ak)(l:G F)(c:Mem)(P:V->Mem->Prop):Prop:=gd (l.length<=aM) (match m with|D=>P (.ref c.fl.length) ⟨c.fl++[.list l],c.ins⟩|j=>P (.fz<|.af l) c)
def qS(m:ak)(l:G (M×F))(c:Mem)(P:V->Mem->Prop):Prop:=gd (l.length<=1000) (match m with|D=>P (.ref c.fl.length) ⟨c.fl++[.di l],c.ins⟩|j=>P (.fz<|.di l) c)
noncomputable def Cu(c:G F):G (ah×kA)->ar (G<|ah×F)
 |[]=>q []
 |(n,e)::r=>do
  let f<-match e with| .i_ i=>c[i]?| .ff f=>q f| .nF=>q<|.af []
  let l<-Cu c r
  q ((n,f)::l)
noncomputable def wN(m:G V):G (ah×kA)->G FObj->ar (G (ah×V)×G FObj)
 |[],c=>q ([],c)
 |(n,e)::r,c=>do
  let(v,c)<-match e with| .i_ i=>(m[i]?).map λv=>(v,c)| .ff f=>q (.fz f,c)| .nF=>q (.ref c.length,c++[.list []])
  let(l,c)<-wN m r c
  q ((n,v)::l,c)
noncomputable def wO(p:G FObj):G V->G FObj->G aj->ar (G V×G FObj×G aj)
 |[],m,l=>q ([],m,l)
 |v::r,m,l=>match v with
  | .fz f=>(wO p r m l).map λx=>(.fz f::x.1,x.2)
  | .ref n=>match l.contains n with|D=>z|j=>p[n]?.bind λo=>(wO p r (m++[o])<|l++[n]).map λx=>(.ref l.length::x.1,x.2)
  |_=>z
noncomputable def pG:G aj->G FObj->G FObj->G FObj|n::r,o::l,f=>pG r l<|f.set n o|_,_,f=>f
def cW(r:bL)(k:V->Prop):Prop:=match r with| .ret v=>k v| .exc _=>False
noncomputable def oN(r:bL):Out:=match r with| .ret _=>.next| .exc w=>.exc w
def aZ(l:G aj)(m:G FObj)(P:bL->G FObj->Prop)(r:bL)(c:Mem):Prop:=match r with| .ret v=>eQ (gE v c) λf c=>P (.ret<|.fz f)<|pG l c.fl m| .exc w=>P (.exc w)<|pG l c.fl m
def zv(L:Fns)(f:aw)(args:G V)(c:G FObj)(P:bL->G FObj->Prop):Prop:=eQ (wO c args [] []) λl x=>L.call f l x.1<|aZ x.2 c P
def FW(L:Fns)(f:aw)(args:G V)(m:G FObj)(P:V->G FObj->Prop):Prop:=eQ (wO m args [] []) λp x=>L.call f p x.1 λr c=>match r with| .ret v=>qR v λn=>gd (x.2.length<=n)<|oP c.fl[n]? λo=>oP (oM o) λl=>P (.ref m.length)<|pG x.2 c.fl m++[.list l]|_=>False
variable(L:Fns)
mutual
def WX:X->Rho->Mem->(V->Mem->Prop)->Prop
 | .lit f,_,p,P=>P (.fz f) p
 | .gl k,_,p,P=>oP L.gl[k]? λe=>P (.fz e.2) p
 | .var i,ρ,p,P=>oP ρ[i]? λo=>oP o λv=>P v p
 | .aJ op a b,ρ,p,P=>WX a ρ p λx p=>WX b ρ p λy p=>wJ op x y p λv=>P v p
 | .neg a,ρ,p,P=>WX a ρ p λx p=>cF x λi=>P (.fz<|.int<|-i) p
 | .aA op a b,ρ,p,P=>WX a ρ p λx p=>WX b ρ p λy p=>wK op x y p λr=>P (.fz<|.bool r) p
 | .kz a o1 b o2 c,ρ,p,P=>WX a ρ p λx p=>WX b ρ p λy p=>wK o1 x y p λr=>match r with|D=>WX c ρ p λu p=>wK o2 y u p λr=>P (.fz<|.bool r) p|j=>P (.fz<|.bool j) p
 | .not a,ρ,p,P=>WX a ρ p λx p=>ja x λb=>P (.fz<|.bool !b) p
 | .and a b,ρ,p,P=>WX a ρ p λx p=>ja x λt=>match t with|D=>WX b ρ p P|j=>P (.fz<|.bool j) p
 | .or a b,ρ,p,P=>WX a ρ p λx p=>ja x λt=>match t with|D=>P (.fz<|.bool D) p|j=>WX b ρ p P
 | .eM t a b,ρ,p,P=>WX t ρ p λx p=>ja x λt=>match t with|D=>WX a ρ p P|j=>WX b ρ p P
 | .ai O,ρ,p,P=>jZ O ρ p λJ p=>eQ (oK J p) λN p=>P (.fz<|.ai N) p
 | .af m O,ρ,p,P=>jZ O ρ p λJ p=>eQ (oK J p) λN p=>gI m N p P
 | .oG m Y O,ρ,p,P=>jZ O ρ p λJ p=>eQ (oK J p) λN p=>gd (Y.length==N.length&&decide Y.Nodup)<|qS m (Y.zip N) p P
 | .oH i,ρ,p,P=>oP ρ[i]? λo=>oP o λv=>match v with| .exc w=>P (.fz<|.str w) p|_=>False
 | .sub a i,ρ,p,P=>WX a ρ p λx p=>WX i ρ p λy p=>jY x y p.fl λf=>P (.fz f) p
 | .pE a B hi,ρ,p,P=>WX a ρ p λx p=>WX B ρ p λl p=>WX hi ρ p λh p=>Mc x l h p λf=>P (.fz f) p
 | .aR a n,ρ,p,P=>WX a ρ p λx p=>Ma x n p λv=>P v p
 | .call f args,ρ,p,P=>jZ args ρ p λJ p=>gd p.ins.isEmpty<|zv L f J p.fl λr Q=>cW r λv=>P v ⟨Q,[]⟩
 | .Cq f args,ρ,p,P=>jZ args ρ p λJ p=>gd p.ins.isEmpty<|FW L f J p.fl λv Q=>P v ⟨Q,[]⟩
 | .cls m c args,ρ,p,P=>jZ args ρ p λJ p=>eQ (L.cls c) λnp l=>gd (J.length==np&&J.all dU) (match m with|D=>eQ (wN J l p.fl) λN Q=>P (.dJ p.ins.length) ⟨Q,p.ins++[q (c,N)]⟩|j=>eQ (oK J p) λN p=>oP (Cu N l) λl=>P (.fz<|.hV c l) p)
 | .bi k args,ρ,p,P=>jZ args ρ p λJ p=>Mh k J p P
 | .cw k o args,ρ,p,P=>WX o ρ p λx p=>gd (recOk k x p.fl)<|jZ args ρ p λJ p=>kB k x J p P
 | .eG m R Z t k a b cQ,ρ,p,P=>WX a ρ p λx p=>WX b ρ p λy p=>oP (gH k x y) λE=>fP (λf p P=>oP (fy t f<|bN R z++ρ) λρ'=>WC cQ ρ' p λok p=>match ok with|D=>WX Z ρ' p λv p=>eQ (gE v p) λf p=>P (q f) p|j=>P z p) E p λl p=>gI m l p P
 | .sD R Z t1 a t2 a2,ρ,p,P=>WX a ρ p λx p=>oP (gH .plain x x) λE=>gd (E.length<=1000) (lh (λf p P=>oP (fy t1 f<|bN R z++ρ) λρ'=>WX a2 ρ' p λy p=>oP (gH .plain y y) λnI=>gd (nI.length<=1000) (gW (λf p P=>oP (fy t2 f ρ') λzw=>WX Z zw p λv p=>eQ (gE v p) λf p=>P (q f) p) nI p P)) E p λl p=>gI j l p P)
 | .wI R key val t a cQ,ρ,p,P=>WX a ρ p λx p=>oP (gH .plain x x) λE=>gd (E.length<=1000) (pF (λf p P=>oP (fy t f<|bN R z++ρ) λρ'=>WC cQ ρ' p λok p=>match ok with|D=>WX key ρ' p λk p=>WX val ρ' p λv p=>cF k λk=>eQ (gE v p) λf p=>P (q (k,f)) p|j=>P z p) E p [] λl p=>qS j l p P)
def jZ:G X->Rho->Mem->(G V->Mem->Prop)->Prop|[],_,c,P=>P [] c|x::r,ρ,c,P=>WX x ρ c λv c=>jZ r ρ c λf c=>P (v::f) c
def WC:G X->Rho->Mem->(ak->Mem->Prop)->Prop|[],_,c,P=>P D c|x::r,ρ,c,P=>WX x ρ c λv c=>ja v λb=>match b with|D=>WC r ρ c P|j=>P j c
end
def ez:Tg->V->Rho->Mem->(Rho->Mem->Prop)->Prop
 | .v t,v,ρ,c,P=>match t,v with| .var i,v=>gd (i<ρ.length&&dU v)<|P (ρ.set i<|q v) c|t,.fz f=>oP (fy t f ρ) λρ=>P ρ c|_,_=>False
 | .aR o n,v,ρ,c,P=>WX L o ρ c λx c=>Vt x n v c λc=>P ρ c
 | .sub o i,v,ρ,c,P=>WX L o ρ c λx c=>WX L i ρ c λy c=>eQ (gE v c) λf c=>FU x y f c.fl λl=>P ρ ⟨l,c.ins⟩
def qT:G Tg->G V->Rho->Mem->(Rho->Mem->Prop)->Prop|[],_,ρ,c,P=>P ρ c|t::l,f,ρ,c,P=>match f with|[]=>False|v::f=>ez L t v ρ c λρ c=>qT l f ρ c P
noncomputable def iH(n:aj):V->ak| .ref m=>m !=n|_=>D
noncomputable def nJ(n:aj):V->ak| .dJ m=>m !=n|_=>D
noncomputable def uw(p:V->ak)(ρ:Rho):ak:=ρ.all λ|some v=>p v|none=>D
noncomputable def li(p:V->ak)(l:G (ar<|aw×G (ah×V))):ak:=l.all λ|some (_,c)=>c.all λe=>p e.2|none=>D
noncomputable def sF(c n:aj)(ρ:Rho)(l:G FObj)(m:G (ar<|aw×G (ah×V))):ar (F×G FObj):=match l[n]? with|q o=>if n+1==l.length&&aa (c<=n)then(if uw (iH n) ρ&&li (iH n) m then(lg o).map λf=>(f,l.dropLast)else z)else(lg o).map λf=>(f,l.set n .bv)|z=>z
noncomputable def lj(c:aj)(ρ:Rho)(m:G (ar<|aw×G (ah×V))):G (ah×V)->G FObj->ar (G (ah×F)×G FObj)
 |[],l=>q ([],l)
 |(n,v)::r,l=>do
  let(f,l)<-match v with| .fz f=>q (f,l)| .ref k=>if r.all (λe=>iH k e.2)then sF c k ρ l m else z|_=>z
  let(p,l)<-lj c ρ m r l
  q ((n,f)::p,l)
noncomputable def Cv(m:aj)(v:V)(ρ:Rho)(l:Mem):ar (F×Mem):=match v with
 | .fz f=>q (f,l)
 | .ref n=>(sF m n ρ l.fl l.ins).map λ(f,p)=>(f,⟨p,l.ins⟩)
 | .dJ n=>match l.ins[n]? with
  |q (q (c,r))=>if n+1==l.ins.length&&uw (nJ n) ρ&&li (nJ n) l.ins.dropLast then do
    let(t,p)<-lj m ρ l.ins.dropLast r l.fl
    q (.hV c t,⟨p,l.ins.dropLast⟩)
   else z
  |_=>z
 | .exc _=>z
def nK(o:Out)(ρ:Rho)(c:Mem)(l:Rho->Mem->Prop)(P:Out->Rho->Mem->Prop):Prop:=match o with| .next=>l ρ c| .cont=>l ρ c| .brk=>P .next ρ c| .ret v=>P (.ret v) ρ c| .exc w=>P (.exc w) ρ c
def cf(o:Out)(ρ:Rho)(c:Mem)(k:Rho->Mem->Prop)(P:Out->Rho->Mem->Prop):Prop:=match o with| .next=>k ρ c| .brk=>P .brk ρ c| .cont=>P .cont ρ c| .ret v=>P (.ret v) ρ c| .exc w=>P (.exc w) ρ c
def bj(step:F->Rho->Mem->(Out->Rho->Mem->Prop)->Prop):G F->Rho->Mem->(Out->Rho->Mem->Prop)->Prop|[],ρ,c,P=>P .next ρ c|f::r,ρ,c,P=>step f ρ c λo ρ c=>nK o ρ c (λρ c=>bj step r ρ c P) P
def mM(l:Rho->Mem->(ak->Mem->Prop)->Prop)(f:Rho->Mem->(Out->Rho->Mem->Prop)->Prop):aj->Rho->Mem->(Out->Rho->Mem->Prop)->Prop|0,_,_,_=>False|n+1,ρ,c,P=>l ρ c λb c=>match b with|D=>f ρ c λo ρ c=>nK o ρ c (λρ c=>mM l f n ρ c P) P|j=>P .next ρ c
mutual
def WS:S->Rho->Mem->(Out->Rho->Mem->Prop)->Prop
 | .a9 t x,ρ,c,P=>WX L x ρ c λv c=>ez L t v ρ c λρ c=>P .next ρ c
 | .iF u B,ρ,c,P=>jZ L B ρ c λp c=>gd (u.length==p.length&&p.all dU)<|qT L u p ρ c λρ c=>P .next ρ c
 | .cS x,ρ,c,P=>WX L x ρ c λ_ c=>P .next ρ c
 | .oJ f args,ρ,c,P=>jZ L args ρ c λp c=>gd c.ins.isEmpty<|zv L f p c.fl λr E=>P (oN r) ρ ⟨E,[]⟩
 | .ret x,ρ,c,P=>WX L x ρ c λv c=>P (.ret v) ρ c
 | .ite t a b,ρ,c,P=>WX L t ρ c λx c=>ja x λt=>match t with|D=>ao a ρ c P|j=>ao b ρ c P
 | .uq t b,ρ,c,P=>∃n,mM (λρ c P=>WX L t ρ c λx c=>ja x λb=>P b c) (λρ c P=>ao b ρ c P) n ρ c P
 | .c_ t k a b l,ρ,c,P=>WX L a ρ c λx c=>WX L b ρ c λy c=>oP (gH k x y) λm=>bj (λf ρ c P=>oP (fy t f ρ) λρ=>ao l ρ c P) m ρ c P
 | .brk,ρ,c,P=>P .brk ρ c
 | .cont,ρ,c,P=>P .cont ρ c
 | .fZ x,ρ,c,P=>WX L x ρ c λv c=>gU v λw=>P (.exc w) ρ c
 | .ur l i h,ρ,c,P=>ao l ρ c λo ρ c=>match o with| .exc w=>gd (i<ρ.length) (ao h (ρ.set i<|q<|.exc w) c λo ρ c=>match o with| .next=>P .next (ρ.set i z) c|_=>False)| .next=>P .next ρ c| .brk=>P .brk ρ c| .cont=>P .cont ρ c| .ret v=>P (.ret v) ρ c
 | .fz i,ρ,c,P=>oP ρ[i]? λo=>oP o λv=>eQ (Cv L.base v (ρ.set i z) c) λf c=>P .next (ρ.set i<|q<|.fz f) c
def ao:G S->Rho->Mem->(Out->Rho->Mem->Prop)->Prop|[],ρ,c,P=>P .next ρ c|s::r,ρ,c,P=>WS s ρ c λo ρ c=>cf o ρ c (λρ c=>ao r ρ c P) P
end
structure Fn where
 np:aj
 ns:aj
 body:G S
def runK(P:bL->Mem->Prop)(o:Out)(_:Rho)(c:Mem):Prop:=match o with| .ret v=>P (.ret v) c| .next=>P (.ret<|.fz .none) c| .exc w=>P (.exc w) c|_=>False
noncomputable def Vv(f:Fn)(args:G V):Rho:=args.map q++bN (f.ns-f.np) z
def Mj(L:Fns)(f:Fn)(args:G V)(c:G FObj)(P:bL->Mem->Prop):Prop:=gd (args.length==f.np) (ao {L with base:=c.length} f.body (Vv f args) ⟨c,[]⟩ (runK P))
structure Tab where
 nM:G (aw×Fn)
 cls:G (aw×aj×G (ah×kA))
 gl:G (ah×F)
@[irreducible] def am(P:Tab):aj->aw->G V->G FObj->(bL->Mem->Prop)->Prop|0,_,_,_,_=>False|d+1,a,args,l,Q=>oP (P.nM.lookup a) λf=>Mj {call:=am P d,cls:=λc=>P.cls.lookup c,gl:=P.gl} f args l Q
noncomputable def Cw(P:Tab)(d:aj):Fns:={call:=am P d,cls:=λc=>P.cls.lookup c,gl:=P.gl}
end
abbrev AM:=aw->G V->G FObj->(bL->Mem->Prop)->Prop
abbrev DK:=Out->Rho->Mem->Prop
namespace Pr
noncomputable abbrev v(n:aj):X:=.var n
noncomputable abbrev i(n:M):X:=.lit (.int n)
noncomputable abbrev s(x:ah):X:=.lit (.str x)
noncomputable abbrev o:X:=.lit .none
noncomputable abbrev w(n:aj):Tg:=.v (.var n)
end Pr
section
open Pr
noncomputable def Vw:F:=.ds [("add",.int 1),("sub",.int 1),("mul",.int 1),("div",.int 1),("divu",.int 1),("rem",.int 1),("remu",.int 1),("and",.int 1),("or",.int 1),("xor",.int 1),("shl",.int 1),("shr",.int 1),("sar",.int 1),("lt",.int 1),("ltu",.int 1),("eq",.int 1),("ne",.int 1)]
noncomputable def Vx:F:=.ds [("copy",.int 1),("neg",.int 1),("not",.int 1),("sx8",.int 1),("sx16",.int 1),("zx8",.int 1),("zx16",.int 1)]
noncomputable def Vy:F:=.ds [("jump",.int 1),("branch",.int 1),("table",.int 1),("give",.int 1)]
noncomputable def Vz:G ah:=["block","end"]
noncomputable def VA:Fn:=⟨1,2,[.a9 (w 1) (.aR (v 0) "end"),.ite (.aA .Eq (.aR (v 1) "op")<|s "jump") [.ret (.af j [(.aR (v 1) "more")])] [],.ite (.aA .Eq (.aR (v 1) "op")<|s "branch") [.ret (.af j [(.sub (.aR (v 1) "more")<|i 0),(.sub (.aR (v 1) "more")<|i 1)])] [],.ite (.aA .Eq (.aR (v 1) "op")<|s "table") [.ret (.aJ .Add (.bi .list [(.sub (.aR (v 1) "more")<|i 1)])<|.af j [(.sub (.aR (v 1) "more")<|i 2)])] [],.ret (.af j [])]⟩
noncomputable def VB:G ah:=["piece"]
noncomputable def VC:Fn:=⟨1,1,[.ite (.aA .Eq (.sub (v 0)<|i 0)<|s "num") [.ret (.sub (v 0)<|i 1)] [],.ite (.aA .Eq (.sub (v 0)<|i 0)<|s "text") [.ret (.bi .len [(.sub (v 0)<|i 1)])] [],.ret (.eM (.aA .Eq (.sub (v 0)<|i 0)<|s "addr") (i 4)<|.sub (v 0)<|i 1)]⟩
noncomputable def VD:G ah:=["func","operand","where","kind","value"]
noncomputable def VE:Fn:=⟨3,5,[.a9 (.v<|.ai [(.var 3),(.var 4)]) (v 1),.ite (.aA .Eq (v 3)<|s "r") [.ite (.not<|.kz (i 0) .LtE (v 4) .Lt<|.aR (v 0) "registers") [.fZ (.aJ .Add (.aJ .Add (.aJ .Add (s "no register ")<|.bi .str [(v 4)])<|s " in ")<|v 2)] []] [.ite (.or (.aA .NotEq (v 3)<|s "k")<|.not<|.kz (i 0) .LtE (v 4) .LtE<|.gl 0) [.fZ (.aJ .Add (s "no operand in ")<|v 2)] []]]⟩
noncomputable def VF:G ah:=["step"]
noncomputable def VG:Fn:=⟨1,1,[.ite (.or (.aA .In (.aR (v 0) "op")<|.gl 1)<|.or (.aA .Eq (.aR (v 0) "op")<|s "store")<|.aA .Eq (.aR (v 0) "op")<|s "move") [.ret (i 2)] [],.ite (.or (.aA .In (.aR (v 0) "op")<|.gl 2)<|.or (.aA .Eq (.aR (v 0) "op")<|s "const")<|.aA .Eq (.aR (v 0) "op")<|s "load") [.ret (i 1)] [],.ite (.or (.aA .Eq (.aR (v 0) "op")<|s "slot")<|.aA .Eq (.aR (v 0) "op")<|s "name") [.ret (i 0)] [],.ite (.or (.aA .Eq (.aR (v 0) "op")<|s "call")<|.aA .Eq (.aR (v 0) "op")<|s "callreg") [.ret (.neg<|i 1)] [],.fZ (.aJ .Add (s "no step ")<|.aR (v 0) "op")]⟩
noncomputable def VH:G ah:=["func","step","where"]
noncomputable def VI:Fn:=⟨3,3,[.ite (.aA .Eq (.aR (v 1) "op")<|s "load") [.ite (.aA .NotIn (.sub (.aR (v 1) "more")<|i 0)<|.ai [(i 1),(i 2),(i 4)]) [.fZ (.aJ .Add (s "no width in ")<|v 2)] []] [.ite (.aA .Eq (.aR (v 1) "op")<|s "store") [.ite (.aA .NotIn (.aR (v 1) "more")<|.ai [(i 1),(i 2),(i 4)]) [.fZ (.aJ .Add (s "no width in ")<|v 2)] []] [.ite (.aA .Eq (.aR (v 1) "op")<|s "slot") [.ite (.not<|.kz (i 0) .LtE (.aR (v 1) "more") .Lt<|.bi .len [(.aR (v 0) "slots")]) [.fZ (.aJ .Add (s "no slot in ")<|v 2)] []] [.ite (.aA .Eq (.aR (v 1) "op")<|s "move") [.ite (.or (.aA .Lt (.sub (.aR (v 1) "more")<|i 0)<|i 1)<|.aA .NotIn (.sub (.aR (v 1) "more")<|i 1)<|.ai [(i 1),(i 2),(i 4)]) [.fZ (.aJ .Add (s "no size in ")<|v 2)] []] [.ite (.and (.aA .Eq (.aR (v 1) "op")<|s "const")<|.aA .NotEq (.sub (.sub (.aR (v 1) "args")<|i 0)<|i 0)<|s "k") [.fZ (.aJ .Add (s "no number in ")<|v 2)] [.ite (.and (.aA .Eq (.aR (v 1) "op")<|s "callreg")<|.aA .Eq (.aR (v 1) "args")<|.af j []) [.fZ (.aJ .Add (s "no target in ")<|v 2)] []]]]]],.ite (.and (.aR (v 1) "is_volatile")<|.aA .NotIn (.aR (v 1) "op")<|.ai [(s "load"),(s "store"),(s "move")]) [.fZ (.aJ .Add (s "a volatile step in ")<|v 2)] []]⟩
noncomputable def VJ:G ah:=["func","step","where","many","operand"]
noncomputable def FY:Fn:=⟨3,5,[.a9 (w 3) (.call 170 [(v 1)]),.ite (.and (.aA .GtE (v 3)<|i 0)<|.aA .NotEq (.bi .len [(.aR (v 1) "args")])<|v 3) [.fZ (.aJ .Add (s "operands in ")<|v 2)] [],.c_ (.var 4) .plain (.aR (v 1) "args") o [.oJ 163 [(v 0),(v 4),(v 2)]],.oJ 177 [(v 0),(v 1),(v 2)],.ite (.or (.aA .Eq (.aR (v 1) "op")<|s "store")<|.aA .Eq (.aR (v 1) "op")<|s "move") [.ite (.aA .NotEq (.aR (v 1) "dst")<|.neg<|i 1) [.fZ (.aJ .Add (s "a register is set in ")<|v 2)] []] [.ite (.or (.aA .Eq (.aR (v 1) "op")<|s "call")<|.aA .Eq (.aR (v 1) "op")<|s "callreg") [.ite (.not<|.kz (.neg<|i 1) .LtE (.aR (v 1) "dst") .Lt<|.aR (v 0) "registers") [.fZ (.aJ .Add (s "no register in ")<|v 2)] []] [.ite (.not<|.kz (i 0) .LtE (.aR (v 1) "dst") .Lt<|.aR (v 0) "registers") [.fZ (.aJ .Add (s "no register in ")<|v 2)] []]]]⟩
noncomputable def VK:G ah:=["func","block","where","end","wanted","operand","number"]
noncomputable def FZ:Fn:=⟨3,7,[.a9 (w 3) (.aR (v 1) "end"),.ite (.or (.aA .Is (v 3) o)<|.aA .NotIn (.aR (v 3) "op")<|.gl 3) [.fZ (.aJ .Add (s "no end in ")<|v 2)] [],.ite (.aA .Eq (.aR (v 3) "op")<|s "give") [.a9 (w 4) (.eM (.aR (v 0) "has_value") (i 1)<|i 0)] [.a9 (w 4) (.eM (.aA .Eq (.aR (v 3) "op")<|s "jump") (i 0)<|i 1)],.ite (.aA .NotEq (.bi .len [(.aR (v 3) "args")])<|v 4) [.fZ (.aJ .Add (s "operands at the end of ")<|v 2)] [],.c_ (.var 5) .plain (.aR (v 3) "args") o [.oJ 163 [(v 0),(v 5),(v 2)]],.c_ (.var 6) .plain (.call 149 [(v 1)]) o [.ite (.not<|.kz (i 0) .LtE (v 6) .Lt<|.bi .len [(.aR (v 0) "blocks")]) [.fZ (.aJ .Add (.aJ .Add (.aJ .Add (s "no block ")<|.bi .str [(v 6)])<|s " at the end of ")<|v 2)] []]]⟩
noncomputable def VL:G ah:=["func","known","waiting","at","now","step","number"]
noncomputable def F0:Fn:=⟨1,7,[.a9 (w 1) (.eG D 1 o (.var 0) .plain (.aR (v 0) "blocks") o []),.a9 (.sub (v 1)<|i 0) (.bi .set [(.aR (v 0) "params")]),.a9 (w 2) (.af D [(i 0)]),.uq (.aA .NotEq (v 2)<|.af j []) [.a9 (w 3) (.cw .pop (v 2) []),.a9 (w 4) (.bi .wH [(.sub (v 1)<|v 3)]),.c_ (.var 5) .plain (.aR (.sub (.aR (v 0) "blocks")<|v 3) "steps") o [.ite (.aA .GtE (.aR (v 5) "dst")<|i 0) [.cS (.cw .add (v 4) [(.aR (v 5) "dst")])] []],.c_ (.var 6) .plain (.call 149 [(.sub (.aR (v 0) "blocks")<|v 3)]) o [.ite (.aA .Is (.sub (v 1)<|v 6) o) [.a9 (.sub (v 1)<|v 6) (.bi .set [(v 4)]),.cS (.cw .append (v 2) [(v 6)])] [.ite (.not<|.aA .LtE (.sub (v 1)<|v 6)<|v 4) [.a9 (.sub (v 1)<|v 6) (.aJ .BitAnd (.sub (v 1)<|v 6)<|v 4),.cS (.cw .append (v 2) [(v 6)])] []]]],.ret (v 1)]⟩
noncomputable def VM:G ah:=["args","now","where","kind","value"]
noncomputable def Mk:Fn:=⟨3,5,[.c_ (.ai [(.var 3),(.var 4)]) .plain (v 0) o [.ite (.and (.aA .Eq (v 3)<|s "r")<|.aA .NotIn (v 4)<|v 1) [.fZ (.aJ .Add (.aJ .Add (.aJ .Add (s "register ")<|.bi .str [(v 4)])<|s " is not set in ")<|v 2)] []]]⟩
noncomputable def VN:G ah:=["func","number","size","align","at","block","where","step","known","now"]
noncomputable def F2:Fn:=⟨1,10,[.ite (.aA .Eq (.aR (v 0) "blocks")<|.af j []) [.fZ (.aJ .Add (s "no block in ")<|.aR (v 0) "name")] [],.c_ (.var 1) .plain (.aR (v 0) "params") o [.ite (.or (.not<|.kz (i 0) .LtE (v 1) .Lt<|.aR (v 0) "registers")<|.aA .Gt (.cw .count (.aR (v 0) "params") [(v 1)])<|i 1) [.fZ (.aJ .Add (s "no param in ")<|.aR (v 0) "name")] []],.c_ (.ai [(.var 2),(.var 3)]) .plain (.aR (v 0) "slots") o [.ite (.or (.aA .Lt (v 2)<|i 1)<|.aA .NotIn (v 3)<|.ai [(i 1),(i 2),(i 4)]) [.fZ (.aJ .Add (s "no slot in ")<|.aR (v 0) "name")] []],.c_ (.ai [(.var 4),(.var 5)]) .nE (.aR (v 0) "blocks") o [.a9 (w 6) (.aJ .Add (.aJ .Add (.aR (v 0) "name")<|s " block ")<|.bi .str [(v 4)]),.ite (.aA .NotEq (.aR (v 5) "number")<|v 4) [.fZ (.aJ .Add (s "number of ")<|v 6)] [],.c_ (.var 7) .plain (.aR (v 5) "steps") o [.oJ 184 [(v 0),(v 7),(v 6)]],.oJ 191 [(v 0),(v 5),(v 6)]],.a9 (w 8) (.call 196 [(v 0)]),.c_ (.ai [(.var 4),(.var 5)]) .nE (.aR (v 0) "blocks") o [.ite (.aA .IsNot (.sub (v 8)<|v 4) o) [.a9 (w 9) (.bi .wH [(.sub (v 8)<|v 4)]),.a9 (w 6) (.aJ .Add (.aJ .Add (.aR (v 0) "name")<|s " block ")<|.bi .str [(v 4)]),.c_ (.var 7) .plain (.aR (v 5) "steps") o [.oJ 203 [(.aR (v 7) "args"),(v 9),(v 6)],.ite (.aA .GtE (.aR (v 7) "dst")<|i 0) [.cS (.cw .add (v 9) [(.aR (v 7) "dst")])] []],.oJ 203 [(.aR (.aR (v 5) "end") "args"),(v 9),(v 6)]] []]]⟩
noncomputable def VO:G ah:=["value"]
noncomputable def VP:Fn:=⟨1,1,[.ret (.eM (.aA .GtE (v 0)<|.gl 5) (.aJ .Sub (.aJ .Sub (v 0)<|.gl 0)<|i 1)<|v 0)]⟩
noncomputable def VQ:G ah:=["unit"]
noncomputable def Ml:Fn:=⟨1,1,[.ret (.aJ .Add (.eG j 1 (.aR (v 0) "name") (.var 0) .plain (.aR (v 0) "funcs") o [])<|.eG j 1 (.aR (v 0) "name") (.var 0) .plain (.aR (v 0) "data") o [])]⟩
noncomputable def VR:G ah:=["unit","known","found","name","told"]
noncomputable def wQ:Fn:=⟨1,5,[.iF [(w 1),(w 2)] [(.oG D [] []),(.af D [])],.c_ (.var 3) .plain (.call 223 [(v 0)]) o [.ite (.aA .In (v 3)<|v 1) [.cS (.cw .append (v 2) [(.aJ .Add (v 3)<|s " is defined twice")])] [],.a9 (.sub (v 1)<|v 3) (.lit<|.bool D)],.a9 (w 4) (.oG D [] []),.c_ (.var 3) .plain (.aR (v 0) "externs") o [.ite (.aA .In (v 3)<|v 4) [.cS (.cw .append (v 2) [(.aJ .Add (v 3)<|s " is an extern twice")])] [.ite (.aA .In (v 3)<|v 1) [.cS (.cw .append (v 2) [(.aJ .Add (v 3)<|s " is an extern and defined")])] []],.a9 (.sub (v 4)<|v 3) (.lit<|.bool D)],.ret (v 2)]⟩
noncomputable def VS:G ah:=["unit","found","name"]
noncomputable def F3:Fn:=⟨1,3,[.a9 (w 1) (.oG D [] []),.c_ (.var 2) .plain (.aJ .Add (.call 223 [(v 0)])<|.bi .list [(.aR (v 0) "externs")]) o [.a9 (.sub (v 1)<|v 2) (.lit<|.bool D)],.ret (v 1)]⟩
noncomputable def VT:G ah:=["unit","func","step","where","datum","other","found","told"]
noncomputable def F4:Fn:=⟨4,8,[.c_ (.var 4) .plain (.aR (v 0) "data") o [.ite (.aA .Eq (.aR (v 4) "name")<|.aR (v 2) "more") [.ret (.af j [(.aJ .Add (.aJ .Add (v 3)<|.aR (v 2) "more")<|s " is called and is no function")])] []],.c_ (.var 5) .plain (.aR (v 0) "funcs") o [.ite (.aA .Eq (.aR (v 5) "name")<|.aR (v 2) "more") [.a9 (w 6) (.af D []),.ite (.aA .NotEq (.bi .len [(.aR (v 2) "args")])<|.bi .len [(.aR (v 5) "params")]) [.a9 (w 7) (.aJ .Add (.aJ .Add (.aJ .Add (.bi .str [(.bi .len [(.aR (v 2) "args")])])<|s " operands, ")<|.bi .str [(.bi .len [(.aR (v 5) "params")])])<|s " are wanted"),.cS (.cw .append (v 6) [(.aJ .Add (.aJ .Add (.aJ .Add (v 3)<|.aR (v 2) "more")<|s " is called with ")<|v 7)])] [],.ite (.and (.aA .GtE (.aR (v 2) "dst")<|i 0)<|.not<|.aR (v 5) "has_value") [.cS (.cw .append (v 6) [(.aJ .Add (.aJ .Add (v 3)<|.aR (v 2) "more")<|s " gives no value")])] [],.ret (v 6)] []],.ret (.af j [])]⟩
noncomputable def VU:G ah:=["func","found","many","register","block","step"]
noncomputable def F5:Fn:=⟨1,6,[.iF [(w 1),(w 2)] [(.oG D [] []),(.oG D [] [])],.c_ (.var 3) .plain (.aR (v 0) "params") o [.a9 (.sub (v 2)<|v 3) (i 1)],.c_ (.var 4) .plain (.aR (v 0) "blocks") o [.c_ (.var 5) .plain (.aR (v 4) "steps") o [.ite (.aA .GtE (.aR (v 5) "dst")<|i 0) [.a9 (.sub (v 1)<|.aR (v 5) "dst") (v 5),.a9 (.sub (v 2)<|.aR (v 5) "dst") (.aJ .Add (.cw .pD (v 2) [(.aR (v 5) "dst"),(i 0)])<|i 1)] []]],.fz 1,.ret (.wI 1 (v 0) (.sub (v 2)<|v 0) (.var 0) (v 1) [(.aA .Eq (.sub (v 3)<|v 0)<|i 1)])]⟩
noncomputable def VV:G ah:=["step","one","other","number"]
noncomputable def Mm:Fn:=⟨1,4,[.ite (.and (.aA .Eq (.aR (v 0) "op")<|s "copy")<|.aA .Eq (.sub (.sub (.aR (v 0) "args")<|i 0)<|i 0)<|s "r") [.ret (.ai [(.sub (.sub (.aR (v 0) "args")<|i 0)<|i 1),(i 0)])] [],.ite (.aA .NotIn (.aR (v 0) "op")<|.ai [(s "add"),(s "sub")]) [.ret o] [],.a9 (.v<|.ai [(.var 1),(.var 2)]) (.aR (v 0) "args"),.ite (.and (.aA .Eq (.sub (v 1)<|i 0)<|s "k")<|.and (.aA .Eq (.sub (v 2)<|i 0)<|s "r")<|.aA .Eq (.aR (v 0) "op")<|s "add") [.iF [(w 1),(w 2)] [(v 2),(v 1)]] [],.ite (.or (.aA .NotEq (.sub (v 1)<|i 0)<|s "r")<|.aA .NotEq (.sub (v 2)<|i 0)<|s "k") [.ret o] [],.a9 (w 3) (.call 218 [(.sub (v 2)<|i 1)]),.ret (.ai [(.sub (v 1)<|i 1),(.eM (.aA .Eq (.aR (v 0) "op")<|s "add") (v 3)<|.neg<|v 3)])]⟩
noncomputable def VW:G ah:=["setters","register","distance","turn","step","told"]
noncomputable def F6:Fn:=⟨2,6,[.a9 (w 2) (i 0),.c_ (.var 3) .range (.aJ .Add (.bi .len [(v 0)])<|i 1) o [.a9 (w 4) (.cw .pC (v 0) [(v 1)]),.ite (.aA .Is (v 4) o) [.ret o] [],.ite (.aA .Eq (.aR (v 4) "op")<|s "slot") [.ret (.ai [(.aR (v 4) "more"),(v 2)])] [],.a9 (w 5) (.call 256 [(v 4)]),.ite (.aA .Is (v 5) o) [.ret o] [],.iF [(w 1),(w 2)] [(.sub (v 5)<|i 0),(.call 218 [(.aJ .BitAnd (.aJ .Add (v 2)<|.sub (v 5)<|i 1)<|.gl 0)])]],.ret o]⟩
noncomputable def VX:G ah:=["step"]
noncomputable def VY:Fn:=⟨1,1,[.ite (.aA .Eq (.aR (v 0) "op")<|s "load") [.ret (.af j [(.ai [(.sub (.aR (v 0) "args")<|i 0),(.sub (.aR (v 0) "more")<|i 0)])])] [],.ite (.aA .Eq (.aR (v 0) "op")<|s "store") [.ret (.af j [(.ai [(.sub (.aR (v 0) "args")<|i 0),(.aR (v 0) "more")])])] [],.ite (.aA .Eq (.aR (v 0) "op")<|s "move") [.ret (.af j [(.ai [(.sub (.aR (v 0) "args")<|i 0),(.sub (.aR (v 0) "more")<|i 0)]),(.ai [(.sub (.aR (v 0) "args")<|i 1),(.sub (.aR (v 0) "more")<|i 0)])])] [],.ret (.af j [])]⟩
noncomputable def VZ:G ah:=["func","setters","step","where","found","operand","size","place","told"]
noncomputable def F7:Fn:=⟨4,9,[.a9 (w 4) (.af D []),.c_ (.ai [(.var 5),(.var 6)]) .plain (.call 270 [(v 2)]) o [.a9 (w 7) (.eM (.aA .Eq (.sub (v 5)<|i 0)<|s "r") (.call 263 [(v 1),(.sub (v 5)<|i 1)]) o),.ite (.and (.aA .IsNot (v 7) o)<|.not<|.kz (i 0) .LtE (.sub (v 7)<|i 1) .LtE<|.aJ .Sub (.sub (.sub (.aR (v 0) "slots")<|.sub (v 7)<|i 0)<|i 0)<|v 6) [.a9 (w 8) (.aJ .Add (.aJ .Add (.aJ .Add (s " octets at ")<|.bi .str [(.sub (v 7)<|i 1)])<|s " of slot ")<|.bi .str [(.sub (v 7)<|i 0)]),.cS (.cw .append (v 4) [(.aJ .Add (.aJ .Add (.aJ .Add (.aJ .Add (v 3)<|.bi .str [(v 6)])<|v 8)<|s ", which has ")<|.bi .str [(.sub (.sub (.aR (v 0) "slots")<|.sub (v 7)<|i 0)<|i 0)])])] []],.ret (v 4)]⟩
noncomputable def V0:G ah:=["func","block","where","end","found","low","numbers","other"]
noncomputable def F8:Fn:=⟨3,8,[.a9 (w 3) (.aR (v 1) "end"),.ite (.or (.aA .Is (v 3) o)<|.aA .NotEq (.aR (v 3) "op")<|s "table") [.ret (.af j [])] [],.a9 (w 4) (.af D []),.a9 (.v<|.ai [(.var 5),(.var 6),(.var 7)]) (.aR (v 3) "more"),.ite (.not<|.kz (i 0) .LtE (v 5) .LtE<|.gl 0) [.cS (.cw .append (v 4) [(.aJ .Add (v 2)<|s "a table from a number that is no word")])] [],.ite (.aA .Eq (.bi .len [(v 6)])<|i 0) [.cS (.cw .append (v 4) [(.aJ .Add (v 2)<|s "a table without numbers")])] [],.ite (.aA .NotEq (.eG j 1 (v 0) (.var 0) .plain (.call 149 [(v 1)]) o [(.not<|.kz (i 0) .LtE (v 0) .Lt<|.bi .len [(.aR (v 1) "blocks")])])<|.af j []) [.cS (.cw .append (v 4) [(.aJ .Add (v 2)<|s "a table that names no block")])] [],.ret (v 4)]⟩
noncomputable def V1:G ah:=["unit","func","names","setters","found","block","where","step"]
noncomputable def F9:Fn:=⟨3,8,[.iF [(w 3),(w 4)] [(.call 249 [(v 1)]),(.af D [])],.c_ (.var 5) .plain (.aR (v 1) "blocks") o [.a9 (w 6) (.aJ .Add (.aJ .Add (.aJ .Add (.aR (v 1) "name")<|s " block ")<|.bi .str [(.aR (v 5) "number")])<|s ": "),.c_ (.var 7) .plain (.aR (v 5) "steps") o [.ite (.or (.and (.aA .Eq (.aR (v 7) "op")<|s "name")<|.aA .NotIn (.sub (.aR (v 7) "more")<|i 0)<|v 2)<|.and (.aA .Eq (.aR (v 7) "op")<|s "call")<|.aA .NotIn (.aR (v 7) "more")<|v 2) [.cS (.cw .append (v 4) [(.aJ .Add (.aJ .Add (v 6)<|s "no name ")<|.eM (.aA .Eq (.aR (v 7) "op")<|s "call") (.aR (v 7) "more")<|.sub (.aR (v 7) "more")<|i 0)])] [.ite (.aA .Eq (.aR (v 7) "op")<|s "call") [.cS (.cw .gD (v 4) [(.call 244 [(v 0),(v 1),(v 7),(v 6)])])] [.cS (.cw .gD (v 4) [(.call 277 [(v 1),(v 3),(v 7),(v 6)])])]]],.cS (.cw .gD (v 4) [(.call 282 [(v 1),(v 5),(v 6)])])],.ret (v 4)]⟩
noncomputable def V2:G ah:=["piece","at","align","names","kind","width"]
noncomputable def V3:Fn:=⟨4,6,[.a9 (w 4) (.sub (v 0)<|i 0),.ite (.aA .Eq (v 4)<|s "num") [.ite (.aA .NotIn (.sub (v 0)<|i 1)<|.gl 4) [.ret (s "a number of no width")] [],.ite (.not<|.kz (i 0) .LtE (.sub (v 0)<|i 2) .Lt<|.aJ .LShift (i 1)<|.aJ .Mult (i 8)<|.sub (v 0)<|i 1) [.ret (s "a number that has no room")] []] [.ite (.aA .Eq (v 4)<|s "addr") [.ite (.aA .NotIn (.sub (v 0)<|i 1)<|v 3) [.ret (.aJ .Add (s "no name ")<|.sub (v 0)<|i 1)] []] [.ite (.aA .Eq (v 4)<|s "gap") [.ret (.eM (.aA .Gt (.sub (v 0)<|i 1)<|i 0) (s "")<|s "a gap of no octets")] [.ite (.aA .Eq (v 4)<|s "text") [.ret (.eM (.aA .Gt (.bi .len [(.sub (v 0)<|i 1)])<|i 0) (s "")<|s "a text of no octets")] [.ret (.aJ .Add (s "no such piece: ")<|v 4)]]]],.a9 (w 5) (.call 156 [(v 0)]),.ret (.eM (.and (.aA .Eq (.aJ .Mod (v 1)<|v 5)<|i 0)<|.aA .Eq (.aJ .Mod (v 2)<|v 5)<|i 0) (s "")<|s "a piece that is not aligned")]⟩
noncomputable def V4:G ah:=["datum","names","found","at","piece","word"]
noncomputable def F_:Fn:=⟨2,6,[.iF [(w 2),(w 3)] [(.af D []),(i 0)],.ite (.aA .NotIn (.aR (v 0) "align")<|.gl 4) [.cS (.cw .append (v 2) [(.aJ .Add (.aR (v 0) "name")<|s ": an alignment that is none")])] [],.c_ (.var 4) .plain (.aR (v 0) "pieces") o [.a9 (w 5) (.call 296 [(v 4),(v 3),(.aR (v 0) "align"),(v 1)]),.ite (.aA .NotEq (v 5)<|s "") [.cS (.cw .append (v 2) [(.aJ .Add (.aJ .Add (.aJ .Add (.aJ .Add (.aR (v 0) "name")<|s " at ")<|.bi .str [(v 3)])<|s ": ")<|v 5)])] [],.ite (.aA .NotIn (.sub (v 4)<|i 0)<|.ai [(s "num"),(s "addr"),(s "gap"),(s "text")]) [.brk] [],.a9 (w 3) (.aJ .Add (v 3)<|.call 156 [(v 4)])],.ret (v 2)]⟩
noncomputable def V5:G ah:=["unit","names","found","func","datum"]
noncomputable def Ga:Fn:=⟨1,5,[.a9 (w 1) (.call 237 [(v 0)]),.a9 (w 2) (.Cq 230 [(v 0)]),.c_ (.var 3) .plain (.aR (v 0) "funcs") o [.cS (.cw .gD (v 2) [(.call 289 [(v 0),(v 3),(v 1)])])],.c_ (.var 4) .plain (.aR (v 0) "data") o [.cS (.cw .gD (v 2) [(.call 303 [(v 4),(v 1)])])],.ret (v 2)]⟩
noncomputable def V6:G ah:=["unit","found","func","fault"]
noncomputable def Gb:Fn:=⟨1,4,[.a9 (w 1) (.af D []),.c_ (.var 2) .plain (.aR (v 0) "funcs") o [.ur [.oJ 210 [(v 2)]] 3 [.cS (.cw .append (v 1) [(.aJ .Add (.aJ .Add (.aR (v 2) "name")<|s ": ")<|.oH 3)])]],.ret (.eM (.aA .NotEq (v 1)<|.af j []) (v 1)<|.call 310 [(v 0)])]⟩
noncomputable def V7:G ah:=[]
noncomputable def V8:Fn:=⟨0,0,[.ret (.af j [(s "alpha"),(s "beta"),(s "gamma")])]⟩
noncomputable def V9:G ah:=[]
noncomputable def V_:Fn:=⟨0,0,[.ret (.af j [(s "delta"),(s "sigma")])]⟩
noncomputable def Wa:G ah:=[]
noncomputable def Wb:Fn:=⟨0,0,[.ret (.af j [(i 0),(i 4),(i 2147483647),(.neg<|i 2147483648),(.neg<|i 4),(i 1),(i 100),(.neg<|i 1)])]⟩
noncomputable def Wc:G ah:=[]
noncomputable def Wd:Fn:=⟨0,0,[.ret (.af j [(.ai [(i 0),(i 2)]),(.ai [(i 5),(i 1)]),(.ai [(i 4294967295),(i 2)]),(.ai [(.neg<|i 1),(i 1)]),(.ai [(i 4294967296),(i 2)]),(.ai [(i 3),(i 0)])])]⟩
noncomputable def We:G ah:=["well","sizes","at","value","found","size"]
noncomputable def Mn:Fn:=⟨2,6,[.a9 (w 2) (.sub (v 0)<|i 1),.a9 (.sub (v 0)<|i 1) (.aJ .Add (v 2)<|i 1),.ite (.aA .Lt (v 2)<|.bi .len [(.sub (v 0)<|i 0)]) [.a9 (w 3) (.sub (.sub (v 0)<|i 0)<|v 2)] [.a9 (.sub (v 0)<|i 2) (.aJ .Mod (.aJ .Add (.aJ .Add (.aJ .Mult (.sub (v 0)<|i 2)<|i 48271)<|.aJ .Mult (i 11)<|v 2)<|i 7)<|i 2147483647),.a9 (w 3) (.sub (v 0)<|i 2)],.a9 (w 4) (.af D []),.c_ (.var 5) .plain (v 1) o [.cS (.cw .append (v 4) [(.aJ .Mod (v 3)<|v 5)]),.a9 (w 3) (.aJ .FloorDiv (v 3)<|v 5)],.ret (v 4)]⟩
noncomputable def Wf:G ah:=["value"]
noncomputable def Wg:Fn:=⟨1,1,[.ret (.aJ .Sub (.aJ .Mod (.aJ .Add (v 0)<|i 2147483648)<|i 4294967296)<|i 2147483648)]⟩
noncomputable def Wh:G ah:=["dst","source","number","turn"]
noncomputable def Wi:Fn:=⟨4,4,[.ite (.and (.aA .Eq (v 2)<|i 0)<|.aA .Eq (v 3)<|i 3) [.ret (.ai [(s "copy"),(v 0),(.af j [(.ai [(s "r"),(v 1)])]),(i 0)])] [],.ite (.aA .Eq (v 3)<|i 1) [.ret (.ai [(s "add"),(v 0),(.af j [(.ai [(s "k"),(.aJ .BitAnd (v 2)<|.gl 6)]),(.ai [(s "r"),(v 1)])]),(i 0)])] [],.ite (.aA .Eq (v 3)<|i 2) [.ret (.ai [(s "sub"),(v 0),(.af j [(.ai [(s "r"),(v 1)]),(.ai [(s "k"),(.aJ .BitAnd (.neg<|v 2)<|.gl 6)])]),(i 0)])] [],.ret (.ai [(s "add"),(v 0),(.af j [(.ai [(s "r"),(v 1)]),(.ai [(s "k"),(.aJ .BitAnd (v 2)<|.gl 6)])]),(i 0)])]⟩
noncomputable def Wj:G ah:=["well","slots","fresh","is_bent","which","power","far","part","first","second","doing","again","size","width","place","found","here"]
noncomputable def Gc:Fn:=⟨4,17,[.a9 (.v<|.ai [(.var 4),(.var 5),(.var 6),(.var 7),(.var 8),(.var 9),(.var 10),(.var 11)]) (.call 352 [(v 0),(.af j [(i 2),(i 3),(i 32),(i 8),(i 4),(i 4),(i 6),(i 9)])]),.iF [(w 12),(w 13),(w 7)] [(.sub (.sub (v 1)<|v 4)<|i 0),(.aJ .LShift (i 1)<|v 5),(.sub (.call 338 [])<|v 7)],.ite (.and (.aA .Lt (v 12)<|v 13)<|.not<|v 3) [.a9 (w 13) (i 1)] [],.a9 (w 14) (.eM (v 3) (.aJ .Sub (v 6)<|i 12)<|.aJ .Mod (v 6)<|.aJ .Add (.aJ .Sub (v 12)<|v 13)<|i 1),.a9 (w 15) (.af D [(.ai [(s "slot"),(v 2),(.af j []),(v 4)]),(.call 366 [(.aJ .Add (v 2)<|i 1),(v 2),(v 7),(v 8)])]),.cS (.cw .append (v 15) [(.call 366 [(.aJ .Add (v 2)<|i 2),(.aJ .Add (v 2)<|i 1),(.aJ .Sub (v 14)<|v 7),(v 9)])]),.ite (.aA .Eq (v 11)<|i 8) [.cS (.cw .append (v 15) [(.ai [(s "const"),(.aJ .Add (v 2)<|i 1),(.af j [(.ai [(s "k"),(i 7)])]),(i 0)])])] [],.a9 (w 16) (.ai [(s "r"),(.aJ .Add (v 2)<|i 2)]),.ite (.aA .Lt (v 10)<|i 2) [.cS (.cw .append (v 15) [(.ai [(s "load"),(.aJ .Add (v 2)<|i 3),(.af j [(v 16)]),(.ai [(v 13),(.aA .Eq (v 10)<|i 1)])])])] [.ite (.aA .Lt (v 10)<|i 4) [.cS (.cw .append (v 15) [(.ai [(s "store"),(.neg<|i 1),(.af j [(v 16),(.ai [(s "k"),(i 9)])]),(v 13)])])] [.cS (.cw .append (v 15) [(.ai [(s "move"),(.neg<|i 1),(.eM (.aA .Eq (v 10)<|i 4) (.af j [(v 16),(.ai [(s "k"),(i 64)])])<|.af j [(.ai [(s "k"),(i 64)]),(v 16)]),(.ai [(v 13),(i 1)])])])]],.ret (v 15)]⟩
noncomputable def Wl:G ah:=["well","heads","fresh","is_bent","turn","which","many","bend","name","params","has_value","count"]
noncomputable def Gd:Fn:=⟨4,12,[.a9 (.v<|.ai [(.var 4),(.var 5),(.var 6),(.var 7)]) (.call 352 [(v 0),(.af j [(i 4),(.bi .len [(v 1)]),(i 3),(i 5)])]),.ite (.and (.aA .Eq (v 4)<|i 0)<|.not<|v 3) [.ret (.ai [(s "call"),(.eM (.aA .Eq (v 5)<|i 0) (v 2)<|.neg<|i 1),(.aJ .Mult (.af j [(.ai [(s "k"),(i 1)])])<|v 6),(s "omega")])] [],.a9 (.v<|.ai [(.var 8),(.var 9),(.var 10)]) (.sub (v 1)<|v 5),.ite (.and (v 3)<|.aA .Eq (v 7)<|i 4) [.ret (.ai [(s "call"),(.neg<|i 1),(.af j []),(.sub (.af j [(s "nowhere"),(s "delta")])<|.aJ .Mod (v 4)<|i 2)])] [],.a9 (w 11) (.eM (.or (.not<|v 3)<|.aA .Gt (v 7)<|i 2) (v 9)<|.bi .max [(i 0),(.aJ .Sub (.aJ .Add (v 9)<|v 7)<|i 1)]),.ret (.ai [(s "call"),(.eM (.or (v 10)<|.and (v 3)<|.aA .NotEq (v 7)<|i 0) (v 2)<|.neg<|i 1),(.aJ .Mult (.af j [(.ai [(s "k"),(i 5)])])<|v 11),(v 8)])]⟩
noncomputable def Wm:G ah:=["well","heads","head","slots","fresh","number","mode","many","ending","table","goal","found","turn","doing","bend","which","is_bent","name","low","count","other"]
noncomputable def Cy:Fn:=⟨7,21,[.a9 (.v<|.ai [(.var 7),(.var 8),(.var 9),(.var 10)]) (.call 352 [(v 0),(.af j [(i 2),(i 4),(i 6),(i 7)])]),.a9 (w 11) (.af D []),.c_ (.var 12) .range (.aJ .Add (v 7)<|i 1) o [.a9 (.v<|.ai [(.var 13),(.var 14),(.var 15)]) (.call 352 [(v 0),(.af j [(i 5),(i 4),(i 4)])]),.a9 (w 16) (.and (.aA .Gt (v 6)<|i 0)<|.aA .Eq (v 14)<|i 0),.ite (.aA .Lt (v 13)<|i 3) [.cS (.cw .gD (v 11) [(.call 373 [(v 0),(v 3),(v 4),(v 16)])])] [.ite (.aA .Eq (v 13)<|i 3) [.cS (.cw .append (v 11) [(.call 380 [(v 0),(v 1),(.aJ .Add (v 4)<|i 3),(v 16)])])] [.a9 (w 17) (.eM (v 16) (s "nowhere")<|.sub (.af j [(s "omega"),(s "alpha"),(.sub (.sub (v 1)<|.neg<|i 1)<|i 0),(s "omega")])<|v 15),.cS (.cw .append (v 11) [(.ai [(s "name"),(.aJ .Add (v 4)<|i 3),(.af j []),(.ai [(v 17),(v 15)])])])]],.a9 (w 4) (.aJ .Add (v 4)<|i 4)],.ite (.aA .Eq (v 5)<|i 0) [.ret (.ai [(v 11),(.ai [(s "give"),(.neg<|i 1),(.eM (.sub (v 2)<|i 2) (.af j [(.ai [(s "k"),(i 3)])])<|.af j []),(i 0)]),(v 4)])] [],.ite (.aA .Eq (v 8)<|i 0) [.ret (.ai [(v 11),(.ai [(s "jump"),(.neg<|i 1),(.af j []),(i 1)]),(v 4)])] [],.ite (.aA .Eq (v 8)<|i 1) [.ret (.ai [(v 11),(.ai [(s "branch"),(.neg<|i 1),(.af j [(.ai [(s "k"),(i 1)])]),(.ai [(.aJ .Mod (v 10)<|i 2),(i 1)])]),(v 4)])] [],.a9 (.v<|.ai [(.var 18),(.var 19)]) (.sub (.call 345 [])<|.eM (.aA .Gt (v 6)<|i 0) (v 9)<|.aJ .Mod (v 9)<|i 3),.a9 (w 20) (.eM (.aA .Gt (v 6)<|i 0) (.sub (.af j [(i 1),(i 0),(i 1),(i 1),(i 1),(i 2),(.neg<|i 1)])<|v 10)<|.aJ .Mod (v 10)<|i 2),.ret (.ai [(v 11),(.ai [(s "table"),(.neg<|i 1),(.af j [(.ai [(s "k"),(i 1)])]),(.ai [(v 18),(.aJ .Mult (.af j [(.aJ .Mod (v 10)<|i 2)])<|v 19),(v 20)])]),(v 4)])]⟩
noncomputable def Wn:G ah:=["well","heads","at","mode","one","two","blocks","slots","listed","fresh","turn","steps","end"]
noncomputable def Cz:Fn:=⟨4,13,[.a9 (.v<|.ai [(.var 4),(.var 5),(.var 6)]) (.call 352 [(v 0),(.af j [(i 12),(i 6),(i 2)])]),.iF [(w 7),(w 8)] [(.af j [(.ai [(.aJ .Add (v 4)<|i 1),(i 4)]),(.ai [(.aJ .Add (v 5)<|i 1),(i 1)])]),(.af D [])],.a9 (w 9) (.sub (.sub (v 1)<|v 2)<|i 1),.c_ (.var 10) .range (.aJ .Add (v 6)<|i 1) o [.a9 (.v<|.ai [(.var 11),(.var 12),(.var 9)]) (.call 387 [(v 0),(v 1),(.sub (v 1)<|v 2),(v 7),(v 9),(.aJ .Sub (v 6)<|v 10),(v 3)]),.cS (.cw .append (v 8) [(.ai [(v 11),(v 12)])])],.ret (.ai [(.sub (.sub (v 1)<|v 2)<|i 0),(.sub (.sub (v 1)<|v 2)<|i 1),(.sub (.sub (v 1)<|v 2)<|i 2),(v 7),(v 8),(v 9)])]⟩
noncomputable def Wo:G ah:=["well","at","align","mode","doing","power","far","bend","is_bent","width","menu"]
noncomputable def Ge:Fn:=⟨4,11,[.a9 (.v<|.ai [(.var 4),(.var 5),(.var 6),(.var 7)]) (.call 352 [(v 0),(.af j [(i 5),(i 3),(i 4),(i 5)])]),.a9 (w 8) (.and (.aA .Gt (v 3)<|i 0)<|.aA .Eq (v 7)<|i 0),.a9 (w 9) (.aJ .LShift (i 1)<|v 5),.ite (v 8) [.a9 (w 10) (.af j [(.ai [(s "num"),(i 3),(i 0)]),(.ai [(s "num"),(v 9),(.aJ .LShift (i 1)<|.aJ .Mult (i 8)<|v 9)]),(.ai [(s "num"),(v 9),(.neg<|i 1)]),(.ai [(s "gap"),(i 0)]),(.ai [(s "text"),(.lit<|.bytes #[])]),(.ai [(s "what"),(i 1)])]),.ret (.sub (.aJ .Add (v 10)<|.af j [(.ai [(s "addr"),(s "nowhere"),(i 0)]),(.ai [(s "addr"),(s "omega"),(i 4)]),(.ai [(s "num"),(i 4),(i 7)]),(.ai [(s "num"),(i 2),(i 65535)])])<|.aJ .Add (.aJ .Mult (v 4)<|i 2)<|.aJ .Mod (v 6)<|i 2)] [],.ite (.and (.aA .Eq (v 4)<|i 0)<|.and (.aA .Eq (.aJ .Mod (v 1)<|i 4)<|i 0)<|.aA .Eq (v 2)<|i 4) [.ret (.ai [(s "addr"),(.sub (.af j [(s "omega"),(s "alpha")])<|.aJ .Mod (v 6)<|i 2),(i 4)])] [],.ite (.and (.aA .Lt (v 4)<|i 3)<|.and (.aA .Eq (.aJ .Mod (v 1)<|v 9)<|i 0)<|.aA .Eq (.aJ .Mod (v 2)<|v 9)<|i 0) [.ret (.ai [(s "num"),(v 9),(.sub (.af j [(i 0),(.aJ .Sub (.aJ .LShift (i 1)<|.aJ .Mult (i 8)<|v 9)<|i 1),(i 1),(i 200)])<|v 6)])] [],.ret (.eM (.aA .Eq (v 4)<|i 3) (.ai [(s "gap"),(.aJ .Add (v 6)<|i 1)])<|.ai [(s "text"),(.bi .bytes [(.aJ .Add (v 6)<|i 1)])])]⟩
noncomputable def Wp:G ah:=["well","mode","many","data","twice","one","two","heads","things","at","funcs","power","count","bend","align","pieces","place","turn","name","wanted"]
noncomputable def zy:Fn:=⟨1,20,[.a9 (.v<|.ai [(.var 1),(.var 2),(.var 3),(.var 4),(.var 5),(.var 6)]) (.call 352 [(v 0),(.af j [(i 3),(i 3),(i 3),(i 8),(i 3),(i 8)])]),.iF [(w 7),(w 8)] [(.af D []),(.af D [])],.c_ (.var 9) .range (.aJ .Add (v 2)<|i 1) o [.cS (.cw .append (v 7) [(.ai [(.sub (.call 324 [])<|v 9),(.aJ .Mod (.aJ .Add (v 5)<|v 9)<|i 3),(.aA .Eq (.aJ .BitAnd (.aJ .RShift (v 6)<|v 9)<|i 1)<|i 1)])])],.ite (.and (.aA .Gt (v 1)<|i 0)<|.aA .Eq (v 4)<|i 1) [.a9 (.sub (v 7)<|.neg<|i 1) (.ai [(s "alpha"),(.sub (.sub (v 7)<|.neg<|i 1)<|i 1),(.sub (.sub (v 7)<|.neg<|i 1)<|i 2)])] [],.fz 7,.a9 (w 10) (.eG j 1 (.call 394 [(v 1),(v 8),(v 0),(v 2)]) (.var 0) .range (.aJ .Add (v 2)<|i 1) o []),.c_ (.var 9) .range (v 3) o [.a9 (.v<|.ai [(.var 11),(.var 12),(.var 13)]) (.call 352 [(v 0),(.af j [(i 3),(i 4),(i 8)])]),.iF [(w 14),(w 15),(w 16)] [(.aJ .LShift (i 1)<|v 11),(.af D []),(i 0)],.c_ (.var 17) .range (v 12) o [.cS (.cw .append (v 15) [(.call 401 [(v 0),(v 16),(v 14),(v 1)])]),.a9 (w 16) (.aJ .Add (v 16)<|.call 413 [(.sub (v 15)<|.neg<|i 1)])],.a9 (w 18) (.eM (.and (.aA .Gt (v 1)<|i 0)<|.aA .Eq (v 4)<|i 2) (s "alpha")<|.sub (.call 331 [])<|v 9),.fz 15,.cS (.cw .append (v 8) [(.ai [(v 18),(.eM (.and (.aA .Gt (v 1)<|i 0)<|.aA .Eq (v 13)<|i 0) (.sub (.af j [(i 3),(i 8)])<|v 9)<|v 14),(v 15)])])],.a9 (w 19) (.oG j [3,4,5] [(.af j [(s "omega"),(s "omega")]),(.af j [(s "alpha"),(s "omega"),(s "alpha")]),(.af j [(s "omega"),(s "delta")])]),.ret (.ai [(v 10),(v 8),(.eM (.aA .Gt (v 1)<|i 0) (.cw .pD (v 19) [(v 4),(.af j [(s "omega")])])<|.af j [(s "omega")])])]⟩
noncomputable def Wq:G ah:=["piece"]
noncomputable def Wr:Fn:=⟨1,1,[.ret (.eM (.aA .Eq (.sub (v 0)<|i 0)<|s "addr") (i 4)<|.eM (.aA .Eq (.sub (v 0)<|i 0)<|s "text") (.bi .len [(.sub (v 0)<|i 1)])<|.sub (v 0)<|i 1)]⟩
noncomputable def Ws:G ah:=["plan","funcs","things","externs","unit","name","params","has_value","slots","blocks","registers","func","number","steps","end","block"]
noncomputable def Gf:Fn:=⟨1,16,[.a9 (.v<|.ai [(.var 1),(.var 2),(.var 3)]) (v 0),.a9 (w 4) (.cls D 138 []),.c_ (.ai [(.var 5),(.var 6),(.var 7),(.var 8),(.var 9),(.var 10)]) .plain (v 1) o [.a9 (w 11) (.cls D 96 [(v 5)]),.iF [(.aR (v 11) "params"),(.aR (v 11) "slots")] [(.bi .oE [(v 6)]),(v 8)],.iF [(.aR (v 11) "has_value"),(.aR (v 11) "registers")] [(v 7),(v 10)],.c_ (.ai [(.var 12),(.ai [(.var 13),(.var 14)])]) .nE (v 9) o [.a9 (w 15) (.cls D 75 [(v 12)]),.a9 (.aR (v 15) "steps") (.eG j 4 (.cls j 54 [(v 0),(v 1),(v 2),(v 3)]) (.ai [(.var 0),(.var 1),(.var 2),(.var 3)]) .plain (v 13) o []),.a9 (.aR (v 15) "end") (.cls j 54 [(.sub (v 14)<|i 0),(.sub (v 14)<|i 1),(.sub (v 14)<|i 2),(.sub (v 14)<|i 3)]),.fz 15,.cS (.cw .append (.aR (v 11) "blocks") [(v 15)])],.fz 11,.cS (.cw .append (.aR (v 4) "funcs") [(v 11)])],.a9 (.aR (v 4) "data") (.eG j 3 (.cls j 117 [(v 0),(v 1),(.lit<|.bool j),(v 2)]) (.ai [(.var 0),(.var 1),(.var 2)]) .plain (v 2) o []),.a9 (.aR (v 4) "externs") (.bi .list [(v 3)]),.ret (v 4)]⟩
noncomputable def Wt:G ah:=["func","steps","all_set","found","goes_on","op","dst","given","more","known","plain"]
noncomputable def Gg:Fn:=⟨1,11,[.a9 (w 1) (.sD 3 (v 2) (.ai [(.var 0),(.var 1)]) (.sub (v 0)<|i 4) (.var 2)<|v 0),.a9 (w 2) (.aJ .Add (.eG j 1 (.sub (v 0)<|i 1) (.var 0) .plain (v 1) o [])<|.bi .oE [(.sub (v 0)<|i 1)]),.iF [(w 3),(w 4)] [(.oG D [] []),(.lit<|.bool D)],.uq (v 4) [.a9 (w 4) (.lit<|.bool j),.c_ (.ai [(.var 5),(.var 6),(.var 7),(.var 8)]) .plain (v 1) o [.ite (.or (.aA .In (v 6)<|v 3)<|.aA .Gt (.cw .count (v 2) [(v 6)])<|i 1) [.cont] [],.a9 (w 9) (.eG j 2 (.sub (v 5)<|v 1) (.ai [(.var 0),(.var 1)]) .plain (v 7) o [(.and (.aA .Eq (v 0)<|s "r")<|.aA .In (v 1)<|v 5)]),.a9 (w 10) (.eG j 2 (.call 359 [(v 1)]) (.ai [(.var 0),(.var 1)]) .plain (v 7) o [(.aA .Eq (v 0)<|s "k")]),.ite (.aA .Eq (v 5)<|s "slot") [.a9 (.sub (v 3)<|v 6) (.ai [(v 8),(i 0)])] [.ite (.and (.aA .Eq (v 5)<|s "copy")<|.aA .NotEq (v 9)<|.af j []) [.a9 (.sub (v 3)<|v 6) (.sub (v 9)<|i 0)] [.ite (.and (.aA .In (v 5)<|.ai [(s "add"),(s "sub")])<|.and (.aA .Eq (.bi .len [(v 9)])<|i 1)<|.aA .Eq (.bi .len [(v 10)])<|i 1) [.a9 (.sub (v 3)<|v 6) (.ai [(.sub (.sub (v 9)<|i 0)<|i 0),(.call 359 [(.aJ .Add (.sub (.sub (v 9)<|i 0)<|i 1)<|.eM (.aA .Eq (v 5)<|s "add") (.sub (v 10)<|i 0)<|.neg<|.sub (v 10)<|i 0)])])] []]],.a9 (w 4) (.or (v 4)<|.aA .In (v 6)<|v 3)]],.ret (v 3)]⟩
noncomputable def Wu:G ah:=["plan","func","places","told_step","where","funcs","things","externs","op","dst","given","more","name","goals","found","reached","width","kind","value","which","place","size"]
noncomputable def Gh:Fn:=⟨5,22,[.a9 (.v<|.ai [(.var 5),(.var 6),(.var 7)]) (v 0),.a9 (.v<|.ai [(.var 8),(.var 9),(.var 10),(.var 11)]) (v 3),.ite (.aA .In (v 8)<|.ai [(s "name"),(s "call")]) [.a9 (w 12) (.eM (.aA .Eq (v 8)<|s "call") (v 11)<|.sub (v 11)<|i 0),.ite (.aA .NotIn (v 12)<|.aJ .Add (.aJ .Add (.eG j 1 (.sub (v 0)<|i 0) (.var 0) .plain (v 5) o [])<|.eG j 1 (.sub (v 0)<|i 0) (.var 0) .plain (v 6) o [])<|v 7) [.ret (.af j [(.ai [(v 4),(.af j [(s "name"),(v 12)]),(.af j [])])])] [],.a9 (w 13) (.eG j 1 (v 0) (.var 0) .plain (v 5) o [(.aA .Eq (.sub (v 0)<|i 0)<|v 13)]),.ite (.aA .Eq (v 8)<|s "name") [.ret (.af j [])] [],.ite (.aA .In (v 12)<|.eG j 1 (.sub (v 0)<|i 0) (.var 0) .plain (v 6) o []) [.ret (.af j [(.ai [(v 4),(.af j [(s "function"),(v 12)]),(.af j [])])])] [],.a9 (w 14) (.af D []),.ite (.and (.aA .NotEq (v 13)<|.af j [])<|.aA .NotEq (.bi .len [(v 10)])<|.sub (.sub (v 13)<|i 0)<|i 1) [.cS (.cw .append (v 14) [(.ai [(v 4),(.af j [(s "operands"),(v 12)]),(.af j [(.bi .len [(v 10)]),(.sub (.sub (v 13)<|i 0)<|i 1)])])])] [],.ite (.and (.aA .NotEq (v 13)<|.af j [])<|.and (.aA .GtE (v 9)<|i 0)<|.not<|.sub (.sub (v 13)<|i 0)<|i 2) [.cS (.cw .append (v 14) [(.ai [(v 4),(.af j [(s "value"),(v 12)]),(.af j [])])])] [],.ret (v 14)] [],.a9 (w 15) (.af j []),.ite (.aA .In (v 8)<|.ai [(s "load"),(s "store"),(s "move")]) [.a9 (w 16) (.eM (.aA .Eq (v 8)<|s "store") (v 11)<|.sub (v 11)<|i 0),.a9 (w 15) (.eG j 1 (.ai [(v 0),(v 17)]) (.var 0) .plain (.eM (.aA .Eq (v 8)<|s "move") (v 10)<|.pE (v 10) o<|i 1) o [])] [],.a9 (w 14) (.af D []),.c_ (.ai [(.ai [(.var 17),(.var 18)]),(.var 16)]) .plain (v 15) o [.ite (.and (.aA .Eq (v 17)<|s "r")<|.aA .In (v 18)<|v 2) [.a9 (.v<|.ai [(.var 19),(.var 20)]) (.sub (v 2)<|v 18),.a9 (w 21) (.sub (.sub (.sub (v 1)<|i 3)<|v 19)<|i 0),.ite (.or (.aA .Lt (v 20)<|i 0)<|.aA .Gt (.aJ .Add (v 20)<|v 16)<|v 21) [.cS (.cw .append (v 14) [(.ai [(v 4),(.af j [(s "slot")]),(.af j [(v 16),(.bi .zq [(v 20)]),(v 19),(v 21)])])])] []] []],.ret (v 14)]⟩
noncomputable def Wv:G ah:=["plan","thing","name","align","pieces","known","found","at","piece","kind","size","due"]
noncomputable def Gi:Fn:=⟨2,12,[.a9 (.v<|.ai [(.var 2),(.var 3),(.var 4)]) (v 1),.a9 (w 5) (.aJ .Add (.aJ .Add (.eG j 1 (.sub (v 0)<|i 0) (.var 0) .plain (.sub (v 0)<|i 0) o [])<|.eG j 1 (.sub (v 0)<|i 0) (.var 0) .plain (.sub (v 0)<|i 1) o [])<|.sub (v 0)<|i 2),.iF [(w 6),(w 7)] [(.af D []),(i 0)],.ite (.aA .NotIn (v 3)<|.ai [(i 1),(i 2),(i 4)]) [.cS (.cw .append (v 6) [(.ai [(.aJ .Add (v 2)<|s ": "),(.af j [(s "alignment")]),(.af j [])])])] [],.c_ (.var 8) .plain (v 4) o [.iF [(w 9),(w 10),(w 11)] [(.sub (v 8)<|i 0),(.call 413 [(v 8)]),(s "")],.ite (.aA .NotIn (v 9)<|.ai [(s "num"),(s "addr"),(s "text"),(s "gap")]) [.ret (.aJ .Add (v 6)<|.af j [(.ai [(.aJ .Add (.aJ .Add (.aJ .Add (v 2)<|s " at ")<|.bi .str [(v 7)])<|s ": "),(.af j [(s "piece"),(v 9)]),(.af j [])])])] [],.ite (.aA .In (v 9)<|.ai [(s "text"),(s "gap")]) [.a9 (w 11) (.eM (.aA .Eq (v 10)<|i 0) (v 9)<|s "")] [.ite (.and (.aA .Eq (v 9)<|s "addr")<|.aA .NotIn (.sub (v 8)<|i 1)<|v 5) [.a9 (w 11) (.aJ .Add (s "name ")<|.sub (v 8)<|i 1)] [.ite (.and (.aA .Eq (v 9)<|s "num")<|.aA .NotIn (v 10)<|.ai [(i 1),(i 2),(i 4)]) [.a9 (w 11) (s "width")] [.ite (.and (.aA .Eq (v 9)<|s "num")<|.not<|.kz (i 0) .LtE (.sub (v 8)<|i 2) .Lt<|.aJ .Pow (i 256)<|v 10) [.a9 (w 11) (s "room")] [.ite (.or (.aA .NotEq (.aJ .Mod (v 7)<|v 10)<|i 0)<|.aA .NotEq (.aJ .Mod (v 3)<|v 10)<|i 0) [.a9 (w 11) (s "aligned")] []]]]],.ite (.aA .NotEq (v 11)<|s "") [.cS (.cw .append (v 6) [(.ai [(.aJ .Add (.aJ .Add (.aJ .Add (v 2)<|s " at ")<|.bi .str [(v 7)])<|s ": "),(.af j [(v 11)]),(.af j [])])])] [],.a9 (w 7) (.aJ .Add (v 7)<|v 10)],.ret (v 6)]⟩
noncomputable def Ww:G ah:=["plan","funcs","things","externs","names","found","ill","at","name","func","places","number","steps","end","where","told_step","low","numbers","other","thing"]
noncomputable def Gj:Fn:=⟨1,20,[.a9 (.v<|.ai [(.var 1),(.var 2),(.var 3)]) (v 0),.iF [(w 4),(w 5),(w 6)] [(.aJ .Add (.eG j 1 (.sub (v 0)<|i 0) (.var 0) .plain (v 1) o [])<|.eG j 1 (.sub (v 0)<|i 0) (.var 0) .plain (v 2) o []),(.af D []),(.af D [])],.c_ (.ai [(.var 7),(.var 8)]) .nE (v 4) o [.ite (.aA .In (v 8)<|.pE (v 4) o<|v 7) [.cS (.cw .append (v 5) [(.ai [(v 8),(.af j [(s "defined"),(s "twice")]),(.af j [])])])] []],.c_ (.ai [(.var 7),(.var 8)]) .nE (v 3) o [.ite (.aA .In (v 8)<|.pE (v 3) o<|v 7) [.cS (.cw .append (v 5) [(.ai [(v 8),(.af j [(s "extern"),(s "twice")]),(.af j [])])])] [.ite (.aA .In (v 8)<|v 4) [.cS (.cw .append (v 5) [(.ai [(v 8),(.af j [(s "extern"),(s "defined")]),(.af j [])])])] []]],.c_ (.var 9) .plain (v 1) o [.a9 (w 10) (.call 423 [(v 9)]),.c_ (.ai [(.var 11),(.ai [(.var 12),(.var 13)])]) .nE (.sub (v 9)<|i 4) o [.a9 (w 14) (.aJ .Add (.aJ .Add (.aJ .Add (.sub (v 9)<|i 0)<|s " block ")<|.bi .str [(v 11)])<|s ": "),.c_ (.var 15) .plain (v 12) o [.cS (.cw .gD (v 5) [(.call 428 [(v 0),(v 9),(v 10),(v 15),(v 14)])])],.ite (.aA .Eq (.sub (v 13)<|i 0)<|s "table") [.a9 (.v<|.ai [(.var 16),(.var 17),(.var 18)]) (.sub (v 13)<|i 3),.ite (.or (.aA .Lt (v 16)<|i 0)<|.aA .Gt (v 16)<|.gl 6) [.cS (.cw .append (v 5) [(.ai [(v 14),(.af j [(s "table"),(s "from")]),(.af j [])])])] [],.ite (.aA .Eq (v 17)<|.af j []) [.cS (.cw .append (v 5) [(.ai [(v 14),(.af j [(s "table"),(s "without")]),(.af j [])])])] [],.ite (.aA .NotEq (.eG j 1 (v 0) (.var 0) .plain (.aJ .Add (v 17)<|.af j [(v 18)]) o [(.or (.aA .Lt (v 0)<|i 0)<|.aA .GtE (v 0)<|.bi .len [(.sub (v 10)<|i 4)])])<|.af j []) [.cS (.cw .append (v 5) [(.ai [(v 14),(.af j [(s "table"),(s "block")]),(.af j [])])]),.cS (.cw .append (v 6) [(.aJ .Add (.sub (v 9)<|i 0)<|s ": ")])] []] []]],.c_ (.var 19) .plain (v 2) o [.cS (.cw .gD (v 5) [(.call 433 [(v 0),(v 19)])])],.ret (.ai [(v 5),(v 6)])]⟩
noncomputable def Wx:G ah:=["text","plain"]
noncomputable def zz:Fn:=⟨1,2,[.a9 (w 1) (.cw .join (s "") [(.eG j 1 (.eM (.aA .In (v 0)<|s "0123456789") (v 0)<|s " ") (.var 0) .plain (v 0) o [])]),.ret (.eG j 1 (.bi .int [(v 0)]) (.var 0) .plain (.cw .split (v 1) [(s " ")]) o [(.aA .NotEq (v 0)<|s "")])]⟩
noncomputable def Wy:G ah:=["words_told","due","text","beginning","parts","numbers","rest"]
noncomputable def ux:Fn:=⟨2,7,[.ite (.aA .NotEq (.bi .len [(v 0)])<|.bi .len [(v 1)]) [.ret (.lit<|.bool j)] [],.c_ (.ai [(.var 2),(.ai [(.var 3),(.var 4),(.var 5)])]) .zip (v 0) (v 1) [.a9 (w 6) (.pE (v 2) (.bi .len [(v 3)]) o),.ite (.or (.aA .NotEq (.pE (v 2) o<|.bi .len [(v 3)])<|v 3)<|.aA .NotEq (.call 443 [(v 6)])<|v 5) [.ret (.lit<|.bool j)] [],.ite (.aA .NotEq (.eG j 1 (v 0) (.var 0) .plain (v 4) o [(.aA .NotIn (v 0)<|v 7)])<|.af j []) [.ret (.lit<|.bool j)] []],.ret (.lit<|.bool D)]⟩
noncomputable def Wz:G ah:=["script","numbers","plan","due","ill","whole"]
noncomputable def Gk:Fn:=⟨1,6,[.a9 (w 1) (.eG j 1 (.aJ .Mod (v 0)<|i 2147483647) (.var 0) .plain (.pE (v 0) o<|i 40) o []),.a9 (w 2) (.call 406 [(.af D [(v 1),(i 0),(.aJ .Add (.aJ .Mod (.bi .sum [(v 1)])<|i 65537)<|i 31337)])]),.a9 (.v<|.ai [(.var 3),(.var 4)]) (.call 438 [(v 2)]),.a9 (w 5) (.call 317 [(.call 418 [(v 2)])]),.ite (.not<|.call 448 [(.call 310 [(.call 418 [(v 2)])]),(v 3)]) [.ret (.lit<|.bool j)] [],.ite (.aA .Eq (v 4)<|.af j []) [.ret (.call 448 [(v 5),(v 3)])] [],.ret (.and (.aA .Eq (.bi .len [(v 5)])<|.bi .len [(v 4)])<|.aA .Eq (.eG j 2 (i 1) (.ai [(.var 0),(.var 1)]) .zip (v 5) (v 4) [(.not<|.cw .startswith (v 0) [(v 1)])])<|.af j [])]⟩
noncomputable def nM:G (aw×Fn):=[(149,VA),(156,VC),(163,VE),(170,VG),(177,VI),(184,FY),(191,FZ),(196,F0),(203,Mk),(210,F2),(218,VP),(223,Ml),(230,wQ),(237,F3),(244,F4),(249,F5),(256,Mm),(263,F6),(270,VY),(277,F7),(282,F8),(289,F9),(296,V3),(303,F_),(310,Ga),(317,Gb),(324,V8),(331,V_),(338,Wb),(345,Wd),(352,Mn),(359,Wg),(366,Wi),(373,Gc),(380,Gd),(387,Cy),(394,Cz),(401,Ge),(406,zy),(413,Wr),(418,Gf),(423,Gg),(428,Gh),(433,Gi),(438,Gj),(443,zz),(448,ux),(453,Gk)]
noncomputable def Mo:G (aw×aj×G (ah×kA)):=[(54,4,[("op",.i_ 0),("dst",.i_ 1),("args",.i_ 2),("more",.i_ 3),("is_volatile",.ff<|.bool j),("line",.ff<|.int 0)]),
 (75,1,[("number",.i_ 0),("steps",.ff<|.af []),("end",.ff .none)]),
 (96,1,[("name",.i_ 0),("params",.ff<|.af []),("is_static",.ff<|.bool j),("slots",.ff<|.af []),("blocks",.nF),("registers",.ff<|.int 0),("has_value",.ff<|.bool j)]),
 (117,4,[("name",.i_ 0),("align",.i_ 1),("is_static",.i_ 2),("pieces",.i_ 3)]),
 (138,0,[("funcs",.nF),("data",.ff<|.af []),("externs",.ff<|.af [])])]
noncomputable def wR:G (ah×F):=[("MASK",(.int 4294967295)),("BINARY",Vw),("UNARY",Vx),("ENDS",Vy),("WIDTHS",(.ai [.int 1,.int 2,.int 4])),("SIGN",(.int 2147483648)),("_law_mask",(.int 4294967295))]
noncomputable def tab:Tab:=⟨nM,Mo,wR⟩
end
def zA{i:M}{n:aj}(c:0<=i)(h:i<n):∃k:aj,k<n/\i=k:=by refine Exists.elim (M.eq_ofNat_of_zero_le c) λk f=>?_;clear c;subst f;exact(aT k (sm.mp h) C)
def sG{i:M}(c:0<=i)(h:i<3):i=0\/i=1\/i=2:=by refine av (zA (n:=3) c h) λk f l=>?_;subst l;exact(by decide:∀k:aj,k<3->(k:M)=0\/(k:M)=1\/(k:M)=2) k f
def WA{i:M}(c:0<=i)(h:i<8):i=0\/i=1\/i=2\/i=3\/i=4\/i=5\/i=6\/i=7:=by refine av (zA (n:=8) c h) λk f l=>?_;subst l;exact(by decide:∀k:aj,k<8->(k:M)=0\/(k:M)=1\/(k:M)=2\/(k:M)=3\/(k:M)=4\/(k:M)=5\/(k:M)=6\/(k:M)=7) k f
def d_(h:n<=1000000):aa (n<aM)=D:=de<|qB h {}
def cy(h:n<=1000000):aa (n<=aM)=D:=de<|aG h {}
def Gl(h:i.natAbs<=1000000):small i=D:=de<|qB h {}
def uy{x:M}(n:aj):x<=x+4*n:=wi<|Li {}<|gB _
def Mp(h:f<=d/\d<f+4):f<=d/\d<f+4*((n+1:aj):M):=by lia
def Mq{n:aj}(h:f+4<=d/\d<f+4+4*(n:M)):f<=d/\d<f+4*((n+1:aj):M):=by lia
noncomputable abbrev bP(l:G M):G F:=l.map .int
noncomputable abbrev Lv(n b:aj):Fns:={Cw tab n with base:=b}
noncomputable def dQ:S->G S| .c_ _ _ _ _ b=>b|_=>[]
def aS(m:Fns)(t:T)(l:G S)(f:F)(ρ:Rho)(c:Mem)(P:DK):Prop:=oP (fy t f ρ) λρ=>ao m l ρ c P
def aE(h:c=D)(k:P):gd c P:=by subst h;exact k
def h_{step:F->Mem->(ar F->Mem->Prop)->Prop}(h:l.length<=1000000)(c:gW step l f P):fP step l f P:=aE (cy h) c
def ig{a:f}(h:o=q a)(c:k a):oP o k:=by subst h;exact c
def WB{i:aj}(h:l[i]? =q v):(bP l)[i]? =q (.int v):=by simp[h]
def zC:∀l:G M,gV (bP l)=q l:=by intro c;induction c with|nil=>exact C|cons i r ih=>show(gV<|bP r).map _=_;exact U (ih) C
structure Well where
 ns:G M
 aq:aj
 sd:M
noncomputable def Well.F(w:Well):G F:=[.af (bP w.ns),.int w.aq,.int w.sd]
structure Well.Ok(w:Well)(k:aj):Prop where
 ns:∀n∈w.ns,0<=n/\n<2147483647
 aq:w.aq+k<=100000
 sd:0<=w.sd/\w.sd<2147483647
inductive Drawn:G M->G M->Prop
 |nil:Drawn [] []
 |cons {d s ds ss}:0<=d->d<s->Drawn ds ss->Drawn (d::ds) (s::ss)
noncomputable def wU:G S:=dQ<|Mn.body.getD 4 .brk
def WD(L:∀P c v x s,aS (Lv n 1) (.var 5) wU (.int s) [q (.ref 0),q (.fz p),q (.fz<|.int r),q (.fz<|.int v),q (.ref 1),x] ⟨[o,.list (bP c)],[]⟩ P=gd (s !=0) (gd ((bP c).length<aM)<|gd (s !=0&&s.natAbs<1073741824)<|P .next [q (.ref 0),q (.fz p),q (.fz<|.int r),q (.fz<|.int<|v.fdiv s),q (.ref 1),q (.fz<|.int s)] ⟨[o,.list (bP c++[.int (v.fmod s)])],[]⟩)):∀(f:G M)(c:G M)(v:M)(x:ar V)(P:DK),c.length+f.length<=100->(∀s∈f,0<s/\s<1073741824)->(∀l t u,Drawn l f->P .next [q (.ref 0),q (.fz p),q (.fz<|.int r),q (.fz<|.int t),q (.ref 1),u] ⟨[o,.list (bP<|c++l)],[]⟩)->bj (aS (Lv n 1) (.var 5) wU) (bP f) [q (.ref 0),q (.fz p),q (.fz<|.int r),q (.fz<|.int v),q (.ref 1),x] ⟨[o,.list (bP c)],[]⟩ P:=by
 intro N;induction N with
 |nil=>intro c v x P _ _ h;have:=h [] v x .nil;rw[bK]at this;exact this
 |cons s f ih=>
  refine λc v x P B E h=>fH (E s<|.head _) λm O=>?_;show aS _ _ _ _ _ _ _;refine U (L ..)<|have J:(s !=0)=D:=py.mpr<|Fe m;aE J (aE (d_<|aG (cY<|bx _)<|aG (tX B) {})<|aE (zn J<|de<|Ff<|zk (n:=1073741823) (ft {}<|qE m)<|nw O) ?_);have:=ih (c++[v.fmod s]) (v.fdiv s) (q<|.fz<|.int s) P (U bO<|U (yL c.length 1 f.length) B) (λy Q=>E y<|.tail _ Q) λl t u R=>by have:=h (v.fmod s::l) t u<|.cons (so _ m) (ua _ m) R;rwa [cZ]
  rw[show bP (c++[v.fmod s])=bP c++[.int (v.fmod s)]from fx]at this;exact this
def WE(P:DK)(c:G M)(v:M)(x:ar V)(s:M):aS (Lv n 1) (.var 5) wU (.int s) [q (.ref 0),q (.fz f),q (.fz<|.int l),q (.fz<|.int v),q (.ref 1),x] ⟨[o,.list (bP c)],[]⟩ P=gd (s !=0) (gd ((bP c).length<aM)<|gd (s !=0&&s.natAbs<1073741824)<|P .next [q (.ref 0),q (.fz f),q (.fz<|.int l),q (.fz<|.int<|v.fdiv s),q (.ref 1),q (.fz<|.int s)] ⟨[o,.list (bP c++[.int (v.fmod s)])],[]⟩):=()
def WF(w:Well)(f:G M)(P:bL->Mem->Prop):am tab (n+1) 352 [.ref 0,.fz (.af<|bP f)] [.list w.F] P=gd ((bP w.ns).length<=aM) (match aa ((w.aq:M)<((bP w.ns).length:aj))with
  |D=>eH (bP w.ns) w.aq λv=>bj (aS (Lv n 1) (.var 5) wU) (bP f) [q (.ref 0),q (.fz<|.af<|bP f),q (.fz<|.int w.aq),q (.fz v),q (.ref 1),z]
    #v[[.af (bP w.ns),.int (w.aq+1),.int w.sd],bP []] λo ρ c=>cf o ρ c (λρ c=>ao (Lv n 1) [.ret (.var 4)] ρ c (runK P))<|runK P
  |j=>gd (small w.sd) (bj (aS (Lv n 1) (.var 5) wU) (bP f) [q (.ref 0),q (.fz<|.af<|bP f),q (.fz<|.int w.aq),q (.fz<|.int<|(w.sd*48271+11*w.aq+7).fmod 2147483647),q (.ref 1),z]
    #v[[.af (bP w.ns),.int (w.aq+1),.int ((w.sd*48271+11*w.aq+7).fmod 2147483647)],bP []] λo ρ c=>cf o ρ c (λρ c=>ao (Lv n 1) [.ret (.var 4)] ρ c (runK P))<|runK P)):=()
def sH{w:Well}(u:w.Ok (k+1))(O:w.ns.length<=1000)(Q:l.length<=100)(R:∀s∈l,0<s/\s<1073741824)(c:∀B(E:Well),Drawn B l->E.Ok k->E.ns=w.ns->P (.ret<|.ref 1) #v[E.F,bP B]):am tab (n+1) 352 [.ref 0,.fz (.af<|bP l)] [.list w.F] P:=by
 calc U (WF ..);have m:(bP w.ns).length=w.ns.length:=bx _;calc aE (cy<|U m<|aG O {});have L:=u.aq;have p:∀(r:M)(v:M),0<=r/\r<2147483647->bj (aS (Lv n 1) (.var 5) wU) (bP l) [q (.ref 0),q (.fz<|.af<|bP l),q (.fz<|.int w.aq),q (.fz<|.int v),q (.ref 1),z]
    #v[[.af (bP w.ns),.int (w.aq+1),.int r],bP []] (λo ρ f=>cf o ρ f (λρ f=>ao (Lv n 1) [.ret (.var 4)] ρ f (runK P))<|runK P):=λr v Y=>
  WD (λP J v x s=>WE P J v x s) l [] v z _ (U (kq _) Q) R λB v' x' Z=>c B ⟨w.ns,w.aq+1,r⟩ Z ⟨u.ns,U (yL w.aq 1 k) L,Y⟩ C
 refine bX (aa<|(w.aq:M)<((bP w.ns).length:aj)) (λt=>?_) λ_=>?_;·
  have t:(w.aq:M)<((bP w.ns).length:aj):=dw t;rw[m]at t;have t:w.aq<w.ns.length:=by exact sm.mp ‹_›
  have e:aa (0<=(w.aq:M))=D:=by rfl
  calc aE (Gl<|zk (n:=1000000) (ft {}<|gB _)<|qC.mpr<|aG (tX L) {});calc U e;exact ig (WB<|ub t)<|p _ _ u.sd
 ·have N:=u.sd;exact aE (de<|qB (zk (n:=2147483647) (ft {} N.1)<|qE N.2) {})<|p _ _ ⟨so _ (by exact gB _),ua _ (by exact gB _)⟩
def Mr:G M->(G M->Prop)->Prop|[],P=>P []|s::r,P=>∀x,0<=x->x<s->Mr r λl=>P<|x::l
@[elab_as_elim] theorem Drawn.all(h:Drawn c f)(k:Mr f P):P c:=by revert P;induction h with|nil=>exact λ{P} k=>k|cons a b _ ih=>exact λ{P} k=>ih<|k _ a b
noncomputable def sI(d s k t:M):F:=match k==0&&t==3 with|D=>.ai [.str "copy",.int d,.af [.ai [.str "r",.int s]],.int 0]|j=>match t==1 with|D=>.ai [.str "add",.int d,.af [.ai [.str "k",.int (qD k 4294967295)],.ai [.str "r",.int s]],.int 0]|j=>match t==2 with|D=>.ai [.str "sub",.int d,.af [.ai [.str "r",.int s],.ai [.str "k",.int (qD (-k) 4294967295)]],.int 0]|j=>.ai [.str "add",.int d,.af [.ai [.str "r",.int s],.ai [.str "k",.int (qD k 4294967295)]],.int 0]
def Ms(d s k t:M)(l:G FObj)(P:bL->Mem->Prop):am tab (n+1) 366 [.fz (.int d),.fz (.int s),.fz (.int k),.fz (.int t)] l P=P (.ret<|.fz<|sI d s k t) ⟨l,[]⟩:=by let A:=P (.ret<|.fz<|.ai [.str "copy",.int d,.af [.ai [.str "r",.int s]],.int 0]) ⟨l,[]⟩;let B:=P (.ret<|.fz<|.ai [.str "add",.int d,.af [.ai [.str "k",.int (qD k 4294967295)],.ai [.str "r",.int s]],.int 0]) ⟨l,[]⟩;let c:=P (.ret<|.fz<|.ai [.str "sub",.int d,.af [.ai [.str "r",.int s],.ai [.str "k",.int (qD (-k) 4294967295)]],.int 0]) ⟨l,[]⟩;let f:=P (.ret<|.fz<|.ai [.str "add",.int d,.af [.ai [.str "r",.int s],.ai [.str "k",.int (qD k 4294967295)]],.int 0]) ⟨l,[]⟩;have e:am tab (n+1) 366 [.fz (.int d),.fz (.int s),.fz (.int k),.fz (.int t)] l P=(match k==0 with|D=>(match t==3 with|D=>A|j=>match t==1 with|D=>B|j=>match t==2 with|D=>c|j=>f)|j=>match t==1 with|D=>B|j=>match t==2 with|D=>c|j=>f):=();calc U e;delta sI;cases k==0<;>cases t==3<;>cases t==1<;>cases t==2<;>rfl
structure d6 where
 aK:M
 dc:M
 place:M
 br:M
 first:M
 ci:M
 bf:M
 again:ak
noncomputable def d6.sJ(a:d6)(f:M):F:=match aa (a.bf<2)with|D=>.ai [.str "load",.int (f+3),.af [.ai [.str "r",.int (f+2)]],.ai [.int a.dc,.bool (a.bf==1)]]|j=>match aa (a.bf<4)with|D=>.ai [.str "store",.int (-1),.af [.ai [.str "r",.int (f+2)],.ai [.str "k",.int 9]],.int a.dc]|j=>.ai [.str "move",.int (-1),.af (match a.bf==4 with|D=>[.ai [.str "r",.int (f+2)],.ai [.str "k",.int 64]]|j=>[.ai [.str "k",.int 64],.ai [.str "r",.int (f+2)]]),.ai [.int a.dc,.int 1]]
noncomputable def d6.mid(a:d6)(f:M):G F:=match a.again with|D=>[.ai [.str "const",.int (f+1),.af [.ai [.str "k",.int 7]],.int 0]]|j=>[]
noncomputable def d6.F(a:d6)(f:M):G F:=[.ai [.str "slot",.int f,.af [],.int a.aK],sI (f+1) f a.br a.first,sI (f+2) (f+1) (a.place-a.br) a.ci]++a.mid f++[a.sJ f]
def fQ(r:0<=i)(t:i<1000000)(e:l[i.toNat]? =q f)(k:P f):eH l i P:=aE (by delta small;lia)<|U (de r)<|ig e k
noncomputable abbrev vi(i:M):ar V:=q<|.fz<|.int i
noncomputable abbrev vf(f:F):ar V:=q<|.fz f
noncomputable abbrev vb(b:ak):ar V:=q<|.fz<|.bool b
noncomputable def bT(p u:M):F:=.af [.ai [.int p,.int 4],.ai [.int u,.int 1]]
noncomputable def Gm:G F:=bP [0,4,2147483647,-2147483648,-4,1,100,-1]
noncomputable abbrev iI(k:aj):G S:=Gc.body.drop k
def WH{w:Well}:am tab (n+2) 373 [.ref 0,.fz (bT p u),.fz (.int f),.fz (.bool b)] [.list w.F] P=am tab (n+1) 352 [.ref 0,.fz (.af<|bP [2,3,32,8,4,4,6,9])] [.list w.F] (aZ [0] [.list w.F] λr x=>cW r λv=>ez (Lv (n+1) 1) (.v<|.ai [.var 4,.var 5,.var 6,.var 7,.var 8,.var 9,.var 10,.var 11]) v [q (.ref 0),vf (bT p u),vi f,vb b,z,z,z,z,z,z,z,z,z,z,z,z,z] ⟨x,[]⟩ λρ t=>ao (Lv (n+1) 1) (iI 1) ρ t (runK P)):=()
def WI{p u f J c N B first O E m:M}{w:Well}:ao (Lv (n+1) 1) (iI 1) [q (.ref 0),vf (bT p u),vi f,vb b,vi J,vi c,vi N,vi B,vi first,vi O,vi E,vi m,z,z,z,z,z] #v[w.F] (runK P)=eH [.ai [.int p,.int 4],.ai [.int u,.int 1]] J λt=>jY (.fz t) (.fz<|.int 0) [.list w.F] λR=>gd (0<=c&&c<=1000&&small 1) (eH Gm B λr=>ao (Lv (n+1) 1) (iI 2) [q (.ref 0),vf (bT p u),vi f,vb b,vi J,vi c,vi N,vf r,vi first,vi O,vi E,vi m,vf R,vi (1*2^c.toNat),z,z,z] #v[w.F] (runK P)):=()
def WJ{p u f J c N B first O E m R L:M}{w:Well}:ao (Lv (n+1) 1) (iI 2) [q (.ref 0),vf (bT p u),vi f,vb b,vi J,vi c,vi N,vi B,vi first,vi O,vi E,vi m,vi R,vi L,z,z,z] #v[w.F] (runK P)=(match aa (R<L)with
  |D=>match !b with|D=>ao (Lv (n+1) 1) (iI 3) [q (.ref 0),vf (bT p u),vi f,vb b,vi J,vi c,vi N,vi B,vi first,vi O,vi E,vi m,vi R,vi 1,z,z,z] #v[w.F] (runK P)|j=>ao (Lv (n+1) 1) (iI 3) [q (.ref 0),vf (bT p u),vi f,vb b,vi J,vi c,vi N,vi B,vi first,vi O,vi E,vi m,vi R,vi L,z,z,z] #v[w.F] (runK P)
  |j=>ao (Lv (n+1) 1) (iI 3) [q (.ref 0),vf (bT p u),vi f,vb b,vi J,vi c,vi N,vi B,vi first,vi O,vi E,vi m,vi R,vi L,z,z,z] #v[w.F] (runK P)):=()
def WK{p u f J c N B first O E m R L:M}{w:Well}:ao (Lv (n+1) 1) (iI 3) [q (.ref 0),vf (bT p u),vi f,vb b,vi J,vi c,vi N,vi B,vi first,vi O,vi E,vi m,vi R,vi L,z,z,z] #v[w.F] (runK P)=(match b with|D=>ao (Lv (n+1) 1) (iI 4) [q (.ref 0),vf (bT p u),vi f,vb b,vi J,vi c,vi N,vi B,vi first,vi O,vi E,vi m,vi R,vi L,vi (N-12),z,z] #v[w.F] (runK P)|j=>gd (R-L+1 !=0)<|ao (Lv (n+1) 1) (iI 4) [q (.ref 0),vf (bT p u),vi f,vb b,vi J,vi c,vi N,vi B,vi first,vi O,vi E,vi m,vi R,vi L,vi (N.fmod<|R-L+1),z,z] #v[w.F] (runK P)):=()
noncomputable abbrev sK(k:aj):S:=Gc.body.getD k .brk
noncomputable abbrev lp(p u f:M)(b:ak)(J c N B first O E m R L Z:M)(x y:ar V):Rho:=[q (.ref 0),vf (bT p u),vi f,vb b,vi J,vi c,vi N,vi B,vi first,vi O,vi E,vi m,vi R,vi L,vi Z,x,y]
section
variable{n:aj}{p u f:M}{b:ak}{J c N B first O E m R L Z:M}{w:Well}{l:G F}{Q:DK}
def WL:WS (Lv (n+1) 1) (sK 4) (lp p u f b J c N B first O E m R L Z z z) #v[w.F] Q=Q .next (lp p u f b J c N B first O E m R L Z (q<|.ref 1) z) #v[w.F,[.ai [.str "slot",.int f,.af [],.int J],sI (f+1) f B first]]:=by have e:WS (Lv (n+1) 1) (sK 4) (lp p u f b J c N B first O E m R L Z z z) #v[w.F] Q=am tab (n+1) 366 [.fz (.int<|f+1),.fz (.int f),.fz (.int B),.fz (.int first)] [] (aZ [] [.list w.F] λr x=>cW r λv=>eQ (oK [.fz (.ai [.str "slot",.int f,.af [],.int J]),v] ⟨x,[]⟩) λP t=>gI D P t λv t=>ez (Lv (n+1) 1) (.v<|.var 15) v (lp p u f b J c N B first O E m R L Z z z) t λρ t=>Q .next ρ t):=();exact U e<|U (Ms ..) ()
def WM:WS (Lv (n+1) 1) (sK 5) (lp p u f b J c N B first O E m R L Z (q<|.ref 1) z) #v[w.F,l] Q=gd (l.length<aM) (Q .next (lp p u f b J c N B first O E m R L Z (q<|.ref 1) z) #v[w.F,l++[sI (f+2) (f+1) (Z-B) O]]):=by have e:WS (Lv (n+1) 1) (sK 5) (lp p u f b J c N B first O E m R L Z (q<|.ref 1) z) #v[w.F,l] Q=am tab (n+1) 366 [.fz (.int<|f+2),.fz (.int<|f+1),.fz (.int<|Z-B),.fz (.int O)] [] (aZ [] [.list w.F,.list l] λr x=>cW r λv=>kB .append (.ref 1) [v] ⟨x,[]⟩ λ_ t=>Q .next (lp p u f b J c N B first O E m R L Z (q<|.ref 1) z) t):=();exact U e<|U (Ms ..) ()
def WN:WS (Lv (n+1) 1) (sK 6) (lp p u f b J c N B first O E m R L Z (q<|.ref 1) z) #v[w.F,l] Q=(match m==8 with|D=>gd (l.length<aM)<|Q .next (lp p u f b J c N B first O E m R L Z (q<|.ref 1) z) #v[w.F,l++[.ai [.str "const",.int (f+1),.af [.ai [.str "k",.int 7]],.int 0]]]|j=>Q .next (lp p u f b J c N B first O E m R L Z (q<|.ref 1) z) #v[w.F,l]):=()
def WO{P:bL->Mem->Prop}:ao (Lv (n+1) 1) (iI 7) (lp p u f b J c N B first O E m R L Z (q<|.ref 1) z) #v[w.F,l] (runK P)=(match aa (E<2)with|D=>gd (l.length<aM)<|P (.ret<|.ref 1) #v[w.F,l++[.ai [.str "load",.int (f+3),.af [.ai [.str "r",.int (f+2)]],.ai [.int L,.bool (E==1)]]]]|j=>match aa (E<4)with|D=>gd (l.length<aM)<|P (.ret<|.ref 1) #v[w.F,l++[.ai [.str "store",.int (-1),.af [.ai [.str "r",.int (f+2)],.ai [.str "k",.int 9]],.int L]]]|j=>match E==4 with|D=>gd (l.length<aM)<|P (.ret<|.ref 1) #v[w.F,l++[.ai [.str "move",.int (-1),.af [.ai [.str "r",.int (f+2)],.ai [.str "k",.int 64]],.ai [.int L,.int 1]]]]|j=>gd (l.length<aM)<|P (.ret<|.ref 1) #v[w.F,l++[.ai [.str "move",.int (-1),.af [.ai [.str "k",.int 64],.ai [.str "r",.int (f+2)]],.ai [.int L,.int 1]]]]):=()
end
structure jG(a:d6):Prop where
 aK:a.aK=0\/a.aK=1
 dc:a.dc=1\/a.dc=2\/a.dc=4
 place: -12<=a.place/\a.place<32
 br:a.br∈[0,4,2147483647,-2147483648,-4,1,100,-1]
 first:0<=a.first/\a.first<4
 ci:0<=a.ci/\a.ci<4
 bf:0<=a.bf/\a.bf<6
def bq(m:l=s::r)(h:WS f s ρ c λo ρ c=>cf o ρ c (λρ c=>ao f r ρ c P) P):ao f l ρ c P:=by subst m;exact h
def aF(h:ao f r ρ c P):cf .next ρ c (λρ c=>ao f r ρ c P) P:=h
def Mt{n:aj}{B E f J:M}{b:ak}{L p N O first Q u r x R:M}{w:Well}{P:bL->Mem->Prop}{l:G F}{a:d6}(Y:a.bf=u)(Z:a.dc=x)(t:aa (l.length<aM)=D)(m:P (.ret<|.ref 1) #v[w.F,l++[a.sJ f]]):ao (Lv (n+1) 1) (iI 7) (lp B E f b L p N O first Q u r J x R (q<|.ref 1) z) #v[w.F,l] (runK P):=by subst Y;subst Z;calc WO.mpr;delta d6.sJ at m;revert m;refine bc (aa<|a.bf<2) (aE t)<|bc (aa<|a.bf<4) (aE t)<|bc (a.bf==4) (aE t)<|aE t
def WP{n:aj}{x B f:M}{b:ak}{r p E first t u m J:M}{w:Well}{P:bL->Mem->Prop}{a:d6}(L:a.aK=r)(N:a.first=first)(O:a.ci=t)(Q:a.bf=u)(R:a.again=(m==8))(l:P (.ret<|.ref 1) #v[w.F,a.F f]):ao (Lv (n+1) 1) (iI 4) (lp x B f b r p E a.br first t u m J a.dc a.place z z) #v[w.F] (runK P):=by subst L N O Q;refine bq (s:=sK 4) (r:=iI 5) C<|U WL<|aF<|bq (s:=sK 5) (r:=iI 6) C<|U WM<|aE C<|aF<|bq (s:=sK 6) (r:=iI 7) C<|U WN ?_;delta d6.F d6.mid at l;rw[R]at l;revert l;exact bc (m==8) (λl=>aE C<|aF<|Mt C rfl rfl l) λl=>aF<|Mt C rfl rfl l
def WQ{c:M}(a:0<=c)(b:c<8):∃p:M,p∈[0,4,2147483647,-2147483648,-4,1,100,-1]/\Gm[c.toNat]? =q (.int p):=by rcases(r8:c=0\/_)with rfl|rfl|rfl|rfl|rfl|rfl|rfl|rfl<;>exact⟨_,{},C⟩
def Mu{p:M}(a:0<=p)(b:p<3):∃c:M,(c=1\/c=2\/c=4)/\(1*2^p.toNat:M)=c:=by rcases(r3:p=0\/_)with rfl|rfl|rfl<;>exact⟨_,{},C⟩
def WR{n k:aj}{B E f:M}{b:ak}{w:Well}(hw:w.Ok (k+1))(hl:w.ns.length<=1000)(hs1:1<=B)(hs2:1<=E){P:bL->Mem->Prop}(c:∀a(x:Well),jG a->x.Ok k->x.ns=w.ns->P (.ret<|.ref 1) #v[x.F,a.F f]):am tab (n+2) 373 [.ref 0,.fz (bT B E),.fz (.int f),.fz (.bool b)] [.list w.F] P:=by
 calc U WH;refine sH hw hl {} {} λds x hd eR dp=>?_;refine Drawn.all hd ?_;intro J a1 a2 m b1 b2 L c1 c2 br d1 d2 first f1 f2 Q g1 g2 R i1 i2 r j1 j2
 show ao (Lv (n+1) 1) (iI 1) [q (.ref 0),vf (bT B E),vi f,vb b,vi J,vi m,vi L,vi br,vi first,vi Q,vi R,vi r,z,z,z,z,z] #v[x.F] (runK P);calc U WI;refine av (WQ d1 d2) λp hp ep=>av (Mu b1 b2) λwd sL zD=>?_;have Y:∀t:M,1<=t->ao (Lv (n+1) 1) (iI 2) [q (.ref 0),vf (bT B E),vi f,vb b,vi J,vi m,vi L,vi p,vi first,vi Q,vi R,vi r,vi t,vi wd,z,z,z] #v[x.F] (runK P):=by
  intro t N;calc U WJ;have O:∀u:M,(u=1\/u=2\/u=4)->(b=j->u<=t)->ao (Lv (n+1) 1) (iI 3) [q (.ref 0),vf (bT B E),vi f,vb b,vi J,vi m,vi L,vi p,vi first,vi Q,vi R,vi r,vi t,vi u,z,z,z] #v[x.F] (runK P):=by
   intro u h1 h2;have Mv:∀Z:M,-12<=Z/\Z<32->ao (Lv (n+1) 1) (iI 4) (lp B E f b J m L p first Q R r t u Z z z) #v[x.F] (runK P):=λZ hpl=>WP (a:=⟨J,u,Z,p,first,Q,R,r==8⟩) C rfl rfl rfl rfl (c _ x ⟨by exact r2,h1,hpl,hp,⟨f1,f2⟩,⟨g1,g2⟩,⟨i1,i2⟩⟩ eR dp);calc U WK;cases b with
   |true=>exact Mv _ (by lia)
   |false=>
    have h2:=h2 C;have h3:0<t-u+1:=by lia
    refine aE (by simp;exact Fe ‹_›)<|Mv _ ⟨by have:=so L h3;exact q8,?_⟩;refine U (arb _ (by exact q8)) ?_;have h4:=M.ediv_nonneg c1 (by exact q8:0<=t-u+1);have h5:=M.emod_add_mul_ediv L<|t-u+1;have h6:=Li (by exact q8:0<=t-u+1) h4;lia
  refine bX (aa<|t<wd) (λh=>?_) λh=>?_;·cases b with|true=>exact O wd sL λh=>by injection h|false=>exact O 1 (.inl C) λ_=>N
  ·exact O wd sL λ_=>by have:=wj h;exact sp.mp ‹_›
 have tail:∀t:M,1<=t->(gd (0<=m&&m<=1000&&small 1)<|eH Gm br λpt=>
   ao (Lv (n+1) 1) (iI 2) [q (.ref 0),vf (bT B E),vi f,vb b,vi J,vi m,vi L,vf pt,vi first,vi Q,vi R,vi r,vi t,vi (1*2^m.toNat),z,z,z] #v[x.F] (runK P)):=by
  intro t N
  refine aE (by have h1:small 1=D:={};refine U h1 ?_;simp;exact z7)<|fQ d1 (by exact q5) ep ?_
  refine U zD ?_
  exact Y t N
 have:J=0\/J=1:=by exact r2
 clear a1 a2 Y;rcases this with rfl|rfl
 ·exact tail B hs1
 ·exact tail E hs2
structure cu where
 name:ah
 np:M
 hv:ak
noncomputable def cu.F(h:cu):F:=.ai [.str h.name,.int h.np,.bool h.hv]
noncomputable abbrev bU(k:M):F:=.ai [.str "k",.int k]
structure qU where
 fR:M
 k:M
 n:aj
 name:ah
noncomputable def qU.F(c:qU):F:=.ai [.str "call",.int c.fR,.af (bN c.n<|bU c.k),.str c.name]
structure zE(p:G cu)(f:M)(c:qU):Prop where
 fR:c.fR=f\/c.fR= -1
 k:0<=c.k/\c.k<=5
 n:c.n<=4
 name:c.name∈(["omega","nowhere","delta"]:G ah)\/∃h∈p,h.name=c.name
structure l7(h:cu):Prop where
 np:0<=h.np/\h.np<3
 name:h.name∈(["alpha","beta","gamma"]:G ah)
theorem Gn{c:Type}(x:c):∀n,(bN n [x]).flatten=bN n x|0=>rfl|n+1=>by refine U TX<|U arc<|U (Gn x n) ?_;rfl
noncomputable abbrev jb(k:aj):G S:=Gd.body.drop k
noncomputable abbrev iJ(p:G F)(f:M)(b:ak)(dz t l m:M)(x y c u:ar V):Rho:=[q (.ref 0),vf (.af p),vi f,vb b,vi dz,vi t,vi l,vi m,x,y,c,u]
section
variable{n:aj}{p:G F}{f:M}{hv:ak}{dz t l m np:M}{B:ah}{w:Well}{P:bL->Mem->Prop}
def WT:am tab (n+2) 380 [.ref 0,.fz (.af p),.fz (.int f),.fz (.bool b)] [.list w.F] P=gd (p.length<=aM) (am tab (n+1) 352 [.ref 0,.fz (.af<|bP [4,(p.length:M),3,5])] [.list w.F] (aZ [0] [.list w.F] λr u=>cW r λv=>ez (Lv (n+1) 1) (.v<|.ai [.var 4,.var 5,.var 6,.var 7]) v [q (.ref 0),vf (.af p),vi f,vb b,z,z,z,z,z,z,z,z] ⟨u,[]⟩ λρ c=>ao (Lv (n+1) 1) (jb 1) ρ c<|runK P)):=()
def WU:ao (Lv (n+1) 1) (jb 1) (iJ p f j dz t l m z z z z) #v[w.F] (runK P)=(match dz==0 with
  |D=>match t==0 with|D=>gd (0<=l&&l<=1000&&1<=100)<|P (.ret<|.fz<|.ai [.str "call",.int f,.af (bN l.toNat [bU 1]).flatten,.str "omega"]) #v[w.F]|j=>gd (0<=l&&l<=1000&&1<=100)<|P (.ret<|.fz<|.ai [.str "call",.int (-1),.af (bN l.toNat [bU 1]).flatten,.str "omega"]) #v[w.F]
  |j=>ao (Lv (n+1) 1) (jb 2) (iJ p f j dz t l m z z z z) #v[w.F]<|runK P):=()
def WV:ao (Lv (n+1) 1) (jb 1) (iJ p f D dz t l m z z z z) #v[w.F] (runK P)=(match dz==0 with|D=>ao (Lv (n+1) 1) (jb 2) (iJ p f D dz t l m z z z z) #v[w.F]<|runK P|j=>ao (Lv (n+1) 1) (jb 2) (iJ p f D dz t l m z z z z) #v[w.F]<|runK P):=()
def WW:ao (Lv (n+1) 1) (jb 2) (iJ p f b dz t l m z z z z) #v[w.F] (runK P)=eH p t λh=>ez (Lv (n+1) 1) (.v<|.ai [.var 8,.var 9,.var 10]) (.fz h) (iJ p f b dz t l m z z z z) #v[w.F] λρ c=>ao (Lv (n+1) 1) (jb 3) ρ c (runK P):=()
def WY:ao (Lv (n+1) 1) (jb 3) (iJ p f D dz t l m (vf<|.str B) (vi np) (vb hv) z) #v[w.F] (runK P)=(match m==4 with|D=>eH [.str "nowhere",.str "delta"] (dz.fmod 2) λx=>P (.ret<|.fz<|.ai [.str "call",.int (-1),.af [],x]) #v[w.F]|j=>ao (Lv (n+1) 1) (jb 4) (iJ p f D dz t l m (vf<|.str B) (vi np) (vb hv) z) #v[w.F]<|runK P):=()
def WZ:ao (Lv (n+1) 1) (jb 3) (iJ p f j dz t l m (vf<|.str B) (vi np) (vb hv) z) #v[w.F] (runK P)=ao (Lv (n+1) 1) (jb 4) (iJ p f j dz t l m (vf<|.str B) (vi np) (vb hv) z) #v[w.F] (runK P):=()
def W0:ao (Lv (n+1) 1) (jb 4) (iJ p f j dz t l m (vf<|.str B) (vi np) (vb hv) z) #v[w.F] (runK P)=(match hv with|D=>gd (0<=np&&np<=1000&&1<=100)<|P (.ret<|.fz<|.ai [.str "call",.int f,.af (bN np.toNat [bU 5]).flatten,.str B]) #v[w.F]|j=>gd (0<=np&&np<=1000&&1<=100)<|P (.ret<|.fz<|.ai [.str "call",.int (-1),.af (bN np.toNat [bU 5]).flatten,.str B]) #v[w.F]):=()
noncomputable abbrev Mw(k:aj):S:=Gd.body.getD k .brk
def W3{Q:DK}:WS (Lv (n+1) 1) (Mw 4) (iJ p f D dz t l m (vf<|.str B) (vi np) (vb hv) z) #v[w.F] Q=(match aa (2<m)with|D=>Q .next (iJ p f D dz t l m (vf<|.str B) (vi np) (vb hv)<|vi np) #v[w.F]|j=>Q .next (iJ p f D dz t l m (vf<|.str B) (vi np) (vb hv)<|vi (match aa (0<np+m-1)with|D=>np+m-1|j=>0)) #v[w.F]):=()
def W4{c:M}:ao (Lv (n+1) 1) (jb 5) (iJ p f D dz t l m (vf<|.str B) (vi np) (vb hv)<|vi c) #v[w.F] (runK P)=(match hv with|D=>gd (0<=c&&c<=1000&&1<=100)<|P (.ret<|.fz<|.ai [.str "call",.int f,.af (bN c.toNat [bU 5]).flatten,.str B]) #v[w.F]|j=>match !(m==0)with|D=>gd (0<=c&&c<=1000&&1<=100)<|P (.ret<|.fz<|.ai [.str "call",.int f,.af (bN c.toNat [bU 5]).flatten,.str B]) #v[w.F]|j=>gd (0<=c&&c<=1000&&1<=100)<|P (.ret<|.fz<|.ai [.str "call",.int (-1),.af (bN c.toNat [bU 5]).flatten,.str B]) #v[w.F]):=()
end
def uz{w:Well}{P:bL->Mem->Prop}{d k m:M}(l:∀c,zE t f c->P (.ret<|.fz c.F) #v[w.F])(u:d=f\/d= -1)(x:0<=k/\k<=5)(p:0<=m/\m<=4)(B:r∈(["omega","nowhere","delta"]:G ah)\/∃h∈t,h.name=r):gd (0<=m&&m<=1000&&1<=100) (P (.ret<|.fz<|.ai [.str "call",.int d,.af (bN m.toNat [bU k]).flatten,.str r]) #v[w.F]):=aE (zn (zm p.1<|ft p.2 {}) C)<|U (Gn ..)<|l ⟨d,k,m.toNat,r⟩ ⟨u,x,TV.mpr p.2,B⟩
def W5{c f:Type}{g:c->f}{l:G c}(h:i<l.length):∃a∈l,(l.map g)[i]? =q (g a):=(aT (l[i]) (G.getElem_mem h) (by simp[h]))
def W7{w:Well}(hw:w.Ok (k+1))(hl:w.ns.length<=1000)(O:1<=t.length/\t.length<=3)(fJ:∀h∈t,l7 h)(l:∀c(B:Well),zE t f c->B.Ok k->B.ns=w.ns->P (.ret<|.fz c.F) #v[B.F]):am tab (n+2) 380 [.ref 0,.fz (.af<|t.map cu.F),.fz (.int f),.fz (.bool b)] [.list w.F] P:=by
 calc U WT;have Z:(t.map cu.F).length=t.length:=bx _;calc U Z;calc aE (cy<|aG O.2 {});refine sH hw hl (by exact dw C) (wk.mpr ⟨{},wk.mpr ⟨⟨sm.mpr O.1,B0 (qC.mpr O.2) {}⟩,{}⟩⟩) λds B hd eR dp=>?_;refine Drawn.all hd ?_;intro dz a1 a2 L b1 b2 p c1 c2 m d1 d2;have J:∀c,zE t f c->P (.ret<|.fz c.F) #v[B.F]:=λc N=>l c B N eR dp;refine av (W5 (g:=cu.F) (l:=t) (i:=L.toNat)<|(Fg b1).mpr b2) λh Q eh=>?_;obtain⟨r,oO⟩:=fJ h Q;have u:h.name∈(["omega","nowhere","delta"]:G ah)\/∃x∈t,x.name=h.name:=.inr (aT h Q C);obtain⟨nm,R,Y⟩:=h;dsimp only at r oO u;have go:∀b,ao (Lv (n+1) 1) (jb 3) (iJ (t.map cu.F) f b dz L p m (vf<|.str nm) (vi R) (vb Y) z) #v[B.F] (runK P)->
   ao (Lv (n+1) 1) (jb 2) (iJ (t.map cu.F) f b dz L p m z z z z) #v[B.F] (runK P):=λb h=>by
  refine U WW ?_
  exact fQ b1 (ou b2<|qC.mpr<|aG O.2 {}) eh h
 show ao (Lv (n+1) 1) (jb 1) (iJ (t.map cu.F) f b dz L p m z z z z) #v[B.F] (runK P);cases b with
 |false=>
  calc U WU;refine bc (dz==0) ?_ ?_;·
   refine bc (L==0) ?_ ?_;·exact uz J (.inl C) ⟨{},{}⟩ ⟨c1,ft (qE c2) {}⟩<|.inl<|.head _
   ·exact uz J (.inr C) ⟨{},{}⟩ ⟨c1,ft (qE c2) {}⟩<|.inl<|.head _
  ·calc go j;refine U WZ<|U W0 ?_;clear Q eh;cases Y with|true=>exact uz J (.inl C) ⟨{},{}⟩ ⟨r.1,ft (qE r.2) {}⟩ u|false=>exact uz J (.inr C) ⟨{},{}⟩ ⟨r.1,ft (qE r.2) {}⟩ u
 |true=>
  have rest:ao (Lv (n+1) 1) (jb 2) (iJ (t.map cu.F) f D dz L p m z z z z) #v[B.F] (runK P):=by
   calc go D;calc U WY;refine bc (m==4) ?_ ?_;·
    refine t2 (x:=dz.fmod 2) (so dz {}) (ua dz {}) ?_ ?_;·exact J ⟨-1,1,0,"nowhere"⟩ ⟨.inr C,⟨(by decide:(0:M)<=1),(by decide:(1:M)<=5)⟩,cD _,.inl<|.tail _<|.head _⟩
    ·exact J ⟨-1,1,0,"delta"⟩ ⟨.inr C,⟨(by decide:(0:M)<=1),(by decide:(1:M)<=5)⟩,cD _,.inl<|.tail _<|.tail _<|.head _⟩
   ·
    have E:∀c:M,0<=c/\c<=4->ao (Lv (n+1) 1) (jb 5) (iJ (t.map cu.F) f D dz L p m (vf<|.str nm) (vi R) (vb Y)<|vi c) #v[B.F] (runK P):=by
     intro c N;calc U W4;clear Q eh go;cases Y with
     |true=>exact uz J (.inl C) ⟨{},{}⟩ N u
     |false=>
      refine bc (!(m==0)) ?_ ?_;·exact uz J (.inl C) ⟨{},{}⟩ N u
      ·exact uz J (.inr C) ⟨{},{}⟩ N u
    calc bq (s:=Mw 4) (r:=jb 5) C;calc U W3;refine bX (aa<|2<m) (λ_=>?_) λh4=>?_;·exact aF<|E _ ⟨r.1,ft (qE r.2) {}⟩
    ·
     have h4:=wj h4;refine bX (aa<|0<R+m-1) (λh5=>?_) λ_=>?_;·exact aF<|E (R+m-1) (by have:=dw h5;lia)
     ·exact aF<|E 0 ⟨{},{}⟩
  calc U WV;refine bc (dz==0) ?_ ?_;·exact rest
  ·exact rest
set_option genCtorIdx false in
inductive Gr where
 |acc(a:d6)|call(c:qU)|name(nm:ah)(k:M)
noncomputable def Gr.ctorIdx(Y:Gr):aj:=Y.casesOn (motive:=λ_=>aj) (λ_=>0) (λ_=>1) λ_ _=>2
noncomputable def Gr.F(f:M):Gr->G F| .acc a=>a.F f| .call Y=>[Y.F]| .name nm k=>[.ai [.str "name",.int (f+3),.af [],.ai [.str nm,.int k]]]
noncomputable def allNames:G ah:=["alpha","beta","gamma","delta","sigma","omega","nowhere"]
def uA(E:G cu)(f:M):Gr->Prop| .acc a=>jG a| .call Y=>zE E (f+3) Y| .name nm _=>nm∈(["omega","nowhere","alpha"]:G ah)\/∃h∈E,h.name=nm
noncomputable def pH:M->G Gr->G F|_,[]=>[]|f,g::Y=>g.F f++pH (f+4) Y
inductive fi(E:G cu):M->G Gr->Prop
 |nil {f}:fi E f []
 |cons {f g r}:uA E f g->fi E (f+4) r->fi E f (g::r)
noncomputable def wV:G S:=dQ<|Cy.body.getD 2 .brk
noncomputable abbrev tB(k:aj):G S:=wV.drop k
noncomputable abbrev tS(k:aj):S:=wV.getD k .brk
noncomputable abbrev f_(E:G F)(O:F)(J L f num p u R m Z:M)(x aI c aC aU N:ar V):Rho:=[q (.ref 0),vf (.af E),vf O,vf (bT J L),vi f,vi num,vi p,vi u,vi R,vi m,vi Z,q (.ref 1),x,aI,c,aC,aU,N,z,z,z]
section
variable{n:aj}{E:G F}{O:F}{J L f num p u R m Z t r B P:M}{b:ak}{w:Well}{l:G F}{Q:DK}{x aI c aC aU N:ar V}
def W8:aS (Lv (n+2) 1) (.var 12) wV (.int t) (f_ E O J L f num p u R m Z x aI c aC aU N) #v[w.F,l] Q=am tab (n+2) 352 [.ref 0,.fz (.af<|bP [5,4,4])] [.list w.F] (aZ [0] [.list w.F,.list l] λY fl=>cW Y λv=>ez (Lv (n+2) 1) (.v<|.ai [.var 13,.var 14,.var 15]) v (f_ E O J L f num p u R m Z (vi t) aI c aC aU N) ⟨fl,[]⟩ λρ z0=>ao (Lv (n+2) 1) (tB 1) ρ z0 Q):=()
def W9:WS (Lv (n+2) 1) (tS 1) (f_ E O J L f num p u R m Z x aI (vi B) aC aU N) #v[w.F,l] Q=(match aa (0<p)with|D=>Q .next (f_ E O J L f num p u R m Z x aI (vi B) aC (vb<|B==0) N) #v[w.F,l]|j=>Q .next (f_ E O J L f num p u R m Z x aI (vi B) aC (vb j) N) #v[w.F,l]):=()
def W_:WS (Lv (n+2) 1) (tS 2) (f_ E O J L f num p u R m Z x (vi r) c (vi P) (vb b) N) #v[w.F,l] Q=(match aa (r<3)with|D=>am tab (n+2) 373 [.ref 0,.fz (bT J L),.fz (.int f),.fz (.bool b)] [.list w.F] (aZ [0] [.list w.F,.list l] λY fl=>cW Y λv=>kB .gD (.ref 1) [v] ⟨fl,[]⟩ λ_ z0=>Q .next (f_ E O J L f num p u R m Z x (vi r) c (vi P) (vb b) N) z0)|j=>match r==3 with|D=>am tab (n+2) 380 [.ref 0,.fz (.af E),.fz (.int<|f+3),.fz (.bool b)] [.list w.F] (aZ [0] [.list w.F,.list l] λY fl=>cW Y λv=>kB .append (.ref 1) [v] ⟨fl,[]⟩ λ_ z0=>Q .next (f_ E O J L f num p u R m Z x (vi r) c (vi P) (vb b) N) z0)|j=>match b with|D=>gd (l.length<aM)<|Q .next (f_ E O J L f num p u R m Z x (vi r) c (vi P) (vb b)<|vf<|.str "nowhere") #v[w.F,l++[.ai [.str "name",.int (f+3),.af [],.ai [.str "nowhere",.int P]]]]|j=>eH E (-1) λh=>jY (.fz h) (.fz<|.int 0) [.list w.F,.list l] λze=>eH [.str "omega",.str "alpha",ze,.str "omega"] P λy=>gd (l.length<aM) (Q .next (f_ E O J L f num p u R m Z x (vi r) c (vi P) (vb b)<|vf y) #v[w.F,l++[.ai [.str "name",.int (f+3),.af [],.ai [y,.int P]]]])):=()
def Xa:WS (Lv (n+2) 1) (tS 3) (f_ E O J L f num p u R m Z x aI c aC aU N) #v[w.F,l] Q=Q .next (f_ E O J L (f+4) num p u R m Z x aI c aC aU N) #v[w.F,l]:=()
def Xb{Y:Type}(h:Y)(l:G Y):(h::l)[((((h::l).length:aj):M)+ -1).toNat]? =q ((h::l).getLast (by simp)):=by
 have:((((h::l).length:aj):M)+ -1).toNat=(h::l).length-1:=by simp only[eX];lia
 exact U this<|U (Eq.symm<|Lj)<|U (Fh (by simp)) C
def CA{l:G F}{f:F}(h:l.getLast?=q f)(k:Y f):eH l (-1) Y:=by
 cases l with
 |nil=>injection h
 |cons a z0=>
  show gd (-(-1:M)<=((a::z0).length:aj)) (oP (a::z0)[((((a::z0).length:aj):M)+ -1).toNat]? Y);refine aE (by simp only[kt,eX];lia)<|ig (Xb a z0) ?_;rw[Fh (by simp)]at h;injection h with h;subst h
  exact k
def Gp{hds:G cu}(hh:1<=hds.length/\hds.length<=3)(fJ:∀h∈hds,l7 h)(hs1:1<=J)(hs2:1<=L){k:aj}(hw:w.Ok (k+2))(fj:w.ns.length<=1000)(hl:l.length<=1000)(Y:∀g(w':Well) aI c aC aU N,uA hds f g->w'.Ok k->w'.ns=w.ns->Q .next (f_ (hds.map cu.F) O J L (f+4) num p u R m Z (vi t) aI c aC aU N) #v[w'.F,l++g.F f]):aS (Lv (n+2) 1) (.var 12) wV (.int t) (f_ (hds.map cu.F) O J L f num p u R m Z x aI c aC aU N) #v[w.F,l] Q:=by
 have oQ:aa (l.length<aM)=D:=by simp only[kt];exact q2
 calc U W8;refine sH (n:=n+1) hw fj {} {} λds w' gJ eR dp=>?_;refine Drawn.all gJ ?_;intro r a1 a2 B b1 b2 P c1 c2;show ao (Lv (n+2) 1) (tB 1) (f_ (hds.map cu.F) O J L f num p u R m Z (vi t) (vi r) (vi B) (vi P) aU N) #v[w'.F,l] Q;have low:w'.Ok k:=⟨eR.ns,by have:=eR.aq;exact sq ‹_›,eR.sd⟩;have go:∀b:ak,ao (Lv (n+2) 1) (tB 2) (f_ (hds.map cu.F) O J L f num p u R m Z (vi t) (vi r) (vi B) (vi P) (vb b) N) #v[w'.F,l] Q:=by
  intro b;have fin:∀g(mO:Well) N,uA hds f g->mO.Ok k->mO.ns=w.ns->ao (Lv (n+2) 1) (tB 3) (f_ (hds.map cu.F) O J L f num p u R m Z (vi t) (vi r) (vi B) (vi P) (vb b) N) #v[mO.F,l++g.F f] Q:=by intro g mO N hg h1 h2;calc bq (s:=tS 3) (r:=tB 4) C;calc U Xa;exact aF<|Y g mO _ _ _ _ _ hg h1 h2
  calc bq (s:=tS 2) (r:=tB 3) C;calc U W_;refine bc (aa<|r<3) ?_ ?_;·
   refine WR eR (dp▸fj) hs1 hs2 λa mO ha zF zG=>?_;have hla:(a.F f).length<=5:=by delta d6.F d6.mid;cases a.again<;>exact dw C
   refine aE (c:=aa<|l.length+(a.F f).length<aM) (by simp only[kt];exact q4)<|aF ?_;exact fin (.acc a) mO _ ha zF<|zG.trans dp
  ·
   refine bc (r==3) ?_ ?_;·refine W7 eR (dp▸fj) hh fJ λz0 mO hc zF zG=>?_;exact aE oQ<|aF<|fin (.call z0) mO _ hc zF<|zG.trans dp
   ·
    cases b with
    |true=>exact aE oQ<|aF<|fin (.name "nowhere" P) w' _ (.inl<|.tail _<|.head _) low dp
    |false=>
     have eI:hds≠[]:=by intro e;rw[e]at hh;simp at hh
     refine CA (f:=(hds.getLast eI).F) (by refine U (G.getLast?_map)<|U (Fh eI) ?_;rfl) ?_;show eH [.str "omega",.str "alpha",.str (hds.getLast eI).name,.str "omega"] P λy=>gd (l.length<aM) _;have CB:∀nm:ah,(nm∈(["omega","nowhere","alpha"]:G ah)\/∃h∈hds,h.name=nm)->_:=λnm h=>fin (.name nm P) w' (vf<|.str nm) h low dp;have:P=0\/P=1\/P=2\/P=3:=by lia
     clear fin;clear c2;rcases this with rfl|rfl|rfl|rfl
     ·exact fQ (by omega) (by lia) C<|aE oQ<|aF<|CB "omega"<|.inl<|.head _
     ·exact fQ (by omega) (by lia) C<|aE oQ<|aF<|CB "alpha"<|.inl<|.tail _<|.tail _<|.head _
     ·exact fQ (by omega) (by lia) C<|aE oQ<|aF<|CB _<|.inr<|aT _ (G.getLast_mem eI) C
     ·exact fQ (by omega) (by lia) C<|aE oQ<|aF<|CB "omega"<|.inl<|.head _
 calc bq (s:=tS 1) (r:=tB 2) C;calc U W9;refine bc (aa<|0<p) ?_ ?_;·exact aF<|go _
 ·exact aF<|go _
end
set_option genCtorIdx false in
inductive En where
 |ce(hv:ak)|jH|branch(g:M)|table(low:M)(u:aj)(g qV:M)
noncomputable def En.ctorIdx(Y:En):aj:=Y.casesOn (motive:=λ_=>aj) (λ_=>0) 1 (λ_=>2) λ_ _ _ _=>3
noncomputable def En.F:En->F| .ce Y=>.ai [.str "give",.int (-1),.af (match Y with|D=>[bU 3]|j=>[]),.int 0]| .jH=>.ai [.str "jump",.int (-1),.af [],.int 1]| .branch g=>.ai [.str "branch",.int (-1),.af [bU 1],.ai [.int g,.int 1]]| .table low u g qV=>.ai [.str "table",.int (-1),.af [bU 1],.ai [.int low,.af (bN u<|.int g),.int qV]]
def mP:En->Prop| .ce _=>False| .jH=>True| .branch g=>g=0\/g=1| .table low u g Y=>(low,u)∈([(0,2),(5,1),(4294967295,2),(-1,1),(4294967296,2),(3,0)]:G (M×aj))/\(g=0\/g=1)/\(Y=0\/Y=1\/Y=2\/Y= -1)
structure Bl where
 gs:G Gr
 en:En
noncomputable def Gq:G F:=[.ai [.int 0,.int 2],.ai [.int 5,.int 1],.ai [.int 4294967295,.int 2],.ai [.int (-1),.int 1],.ai [.int 4294967296,.int 2],.ai [.int 3,.int 0]]
noncomputable def Xc:G F:=bP [1,0,1,1,1,2,-1]
noncomputable abbrev bB(k:aj):G S:=Cy.body.drop k
section
variable{n:aj}{E:G F}{O:F}{h:cu}{J L f num p t N m B low u bC:M}{w:Well}{l:G F}{P:bL->Mem->Prop}{R Z r x Q c:ar V}
def auh{a:aw}{v:G V}{l:G FObj}{Y:bL->Mem->Prop}:am tab (n+1) a v l Y=oP (tab.nM.lookup a) λf=>Mj {call:=am tab n,cls:=λz0=>tab.cls.lookup z0,gl:=tab.gl} f v l Y:=()
def Xd{Y:AM}:oP (tab.nM.lookup 387) (λg=>Mj {call:=Y,cls:=λY=>tab.cls.lookup Y,gl:=tab.gl} g [.ref 0,.fz (.af E),.fz O,.fz (bT J L),.fz (.int f),.fz (.int num),.fz (.int p)] [.list w.F] P)=Y 352 [.ref 0,.fz (.af<|bP [2,4,6,7])] [.list w.F] (aZ [0] [.list w.F] λz0 fl=>cW z0 λv=>ez {call:=Y,cls:=λY=>tab.cls.lookup Y,gl:=tab.gl,base:=1} (.v<|.ai [.var 7,.var 8,.var 9,.var 10]) v [q (.ref 0),vf (.af E),vf O,vf (bT J L),vi f,vi num,vi p,z,z,z,z,z,z,z,z,z,z,z,z,z,z] ⟨fl,[]⟩ λρ ze=>ao {call:=Y,cls:=λY=>tab.cls.lookup Y,gl:=tab.gl,base:=1} (bB 1) ρ ze (runK P)):=()
noncomputable abbrev Gs(E:G F)(O:F)(J L f num p t N m B:M):Rho:=[q (.ref 0),vf (.af E),vf O,vf (bT J L),vi f,vi num,vi p,vi t,vi N,vi m,vi B,z,z,z,z,z,z,z,z,z,z]
def Xe:ao (Lv (n+2) 1) (bB 1) (Gs E O J L f num p 0 N m B) #v[w.F] (runK P)=bj (aS (Lv (n+2) 1) (.var 12) wV) [.int 0] (f_ E O J L f num p 0 N m B z z z z z z) #v[w.F,[]] λo ρ Y=>cf o ρ Y (λρ Y=>ao (Lv (n+2) 1) (bB 3) ρ Y<|runK P) (runK P):=()
def Xf:ao (Lv (n+2) 1) (bB 1) (Gs E O J L f num p 1 N m B) #v[w.F] (runK P)=bj (aS (Lv (n+2) 1) (.var 12) wV) [.int 0,.int 1] (f_ E O J L f num p 1 N m B z z z z z z) #v[w.F,[]] λo ρ Y=>cf o ρ Y (λρ Y=>ao (Lv (n+2) 1) (bB 3) ρ Y<|runK P) (runK P):=()
def Xg:ao (Lv (n+2) 1) (bB 3) (f_ E h.F J L f num p t N m B R Z r x Q c) #v[w.F,l] (runK P)=(match num==0 with
  |D=>match h.hv with|D=>P (.ret<|.fz<|.ai [.af l,.ai [.str "give",.int (-1),.af [bU 3],.int 0],.int f]) {.list w.F,.bv}|j=>P (.ret<|.fz<|.ai [.af l,.ai [.str "give",.int (-1),.af [],.int 0],.int f]) {.list w.F,.bv}
  |j=>match N==0 with|D=>P (.ret<|.fz<|.ai [.af l,.ai [.str "jump",.int (-1),.af [],.int 1],.int f]) {.list w.F,.bv}|j=>match N==1 with|D=>P (.ret<|.fz<|.ai [.af l,.ai [.str "branch",.int (-1),.af [bU 1],.ai [.int (B.fmod 2),.int 1]],.int f]) {.list w.F,.bv}|j=>ao (Lv (n+2) 1) (bB 6) (f_ E h.F J L f num p t N m B R Z r x Q c) #v[w.F,l]<|runK P):=()
noncomputable abbrev bS(k:aj):S:=Cy.body.getD k .brk
noncomputable abbrev wW(E:G F)(O:F)(J L f num p t N m B:M)(R Z r x Q c a b Y:ar V):Rho:=[q (.ref 0),vf (.af E),vf O,vf (bT J L),vi f,vi num,vi p,vi t,vi N,vi m,vi B,q (.ref 1),R,Z,r,x,Q,c,a,b,Y]
def Xh{Y:DK}:WS (Lv (n+2) 1) (bS 6) (f_ E O J L f num p t N m B R Z r x Q c) #v[w.F,l] Y=(match aa (0<p)with|D=>eH Gq m λz0=>ez (Lv (n+2) 1) (.v<|.ai [.var 18,.var 19]) (.fz z0) (f_ E O J L f num p t N m B R Z r x Q c) #v[w.F,l] λρ ze=>Y .next ρ ze|j=>eH Gq (m.fmod 3) λz0=>ez (Lv (n+2) 1) (.v<|.ai [.var 18,.var 19]) (.fz z0) (f_ E O J L f num p t N m B R Z r x Q c) #v[w.F,l] λρ ze=>Y .next ρ ze):=()
def Xi{Y:DK}:WS (Lv (n+2) 1) (bS 7) (wW E O J L f num p t N m B R Z r x Q c (vi low) (vi u) z) #v[w.F,l] Y=(match aa (0<p)with|D=>eH Xc B λz0=>Y .next (wW E O J L f num p t N m B R Z r x Q c (vi low) (vi u)<|vf z0) #v[w.F,l]|j=>Y .next (wW E O J L f num p t N m B R Z r x Q c (vi low) (vi u)<|vi<|B.fmod 2) #v[w.F,l]):=()
def Xj:ao (Lv (n+2) 1) (bB 8) (wW E O J L f num p t N m B R Z r x Q c (vi low) (vi u)<|vi bC) #v[w.F,l] (runK P)=gd (0<=u&&u<=1000&&1<=100) (P (.ret<|.fz<|.ai [.af l,.ai [.str "table",.int (-1),.af [bU 1],.ai [.int low,.af (bN u.toNat [F.int (B.fmod 2)]).flatten,.int bC]],.int f]) {.list w.F,.bv}):=()
end
def cz{step:F->Rho->Mem->(DK)->Prop}(h:step f ρ x λo ρ x=>nK o ρ x (λρ x=>bj step r ρ x P) P):bj step (f::r) ρ x P:=h
def b6(h:k ρ r):nK .next ρ r k P:=h
def dL{step:F->Rho->Mem->(DK)->Prop}(h:P .next ρ r):bj step [] ρ r P:=h
section
variable{n:aj}{u:G cu}{h:cu}{E J f num m p B c t:M}{w:Well}{l:G F}{P:bL->Mem->Prop}{L N O Q R Z:ar V}
def Well.Ok.mQ{w:Well}(h:w.Ok a)(r:b<=a):w.Ok b:=⟨h.ns,by have:=h.aq;lia,h.sd⟩
def Mx(h1:0<=B/\B<4)(h2:0<=c/\c<6)(h3:0<=t/\t<7)(r:∀en:En,(num=0->en= .ce h.hv)->(num≠0->mP en)->P (.ret<|.fz<|.ai [.af l,en.F,.int f]) {.list w.F,.bv}):ao (Lv (n+2) 1) (bB 3) (f_ (u.map cu.F) h.F E J f num m p B c t L N O Q R Z) #v[w.F,l] (runK P):=by
 have hg1:=so t (b:=2) {};have hg2:=ua t (b:=2) {};have hg:t.fmod 2=0\/t.fmod 2=1:=by exact r2
 calc U Xg;refine bX (num==0) (λhz=>?_) λhz=>?_;·
  have hz:num=0:=eq_of_beq hz;have:=r (.ce h.hv) (λ_=>C) λY=>absurd hz Y;revert this;refine bc h.hv (λthis=>?_) λthis=>?_;·exact this
  ·exact this
 ·
  have hz:num≠0:=by simpa using hz
  refine bc (B==0) ?_ ?_;·exact r .jH (λY=>absurd Y hz) λ_=>trivial
  ·
   refine bc (B==1) ?_ ?_;·exact r (.branch<|t.fmod 2) (λY=>absurd Y hz) λ_=>hg
   ·
    have leaf:∀(low:M)(zl:aj)(bC:M),(low,zl)∈([(0,2),(5,1),(4294967295,2),(-1,1),(4294967296,2),(3,0)]:G (M×aj))->(bC=0\/bC=1\/bC=2\/bC= -1)->zl<=2->
      ao (Lv (n+2) 1) (bB 8) (wW (u.map cu.F) h.F E J f num m p B c t L N O Q R Z (vi low) (vi zl)<|vi bC) #v[w.F,l] (runK P):=by
     intro low zl bC t1 t2 t3
     refine U Xj ?_
     refine aE (by simp;exact qC.mpr q1) ?_
     refine U (Gn ..)<|U (B2 ..) ?_
     exact r (.table low zl (t.fmod 2) bC) (λY=>absurd Y hz) λ_=>(cr t1 hg t2)
    have s7:∀(low:M)(zl:aj),(low,zl)∈([(0,2),(5,1),(4294967295,2),(-1,1),(4294967296,2),(3,0)]:G (M×aj))->zl<=2->
      ao (Lv (n+2) 1) (bB 7) (wW (u.map cu.F) h.F E J f num m p B c t L N O Q R Z (vi low) (vi zl) z) #v[w.F,l] (runK P):=by
     intro low zl t1 t3
     refine bq (s:=bS 7) (r:=bB 8) C ?_
     refine U Xi ?_
     refine bc (aa<|0<m) ?_ ?_
     ·
      exact t7 (P:=λi=>eH _ i _) h3.1 h3.2 (fQ {} {} C<|aF<|leaf low zl 1 t1 {} t3) (fQ {} {} C<|aF<|leaf low zl 0 t1 {} t3) (fQ {} {} C<|aF<|leaf low zl 1 t1 {} t3) (fQ {} {} C<|aF<|leaf low zl 1 t1 {} t3) (fQ {} {} C<|aF<|leaf low zl 1 t1 {} t3) (fQ {} {} C<|aF<|leaf low zl 2 t1 {} t3)<|fQ {} {} C<|aF<|leaf low zl (-1) t1 {} t3
     ·exact aF<|leaf low zl _ t1 (by lia) t3
    calc bq (s:=bS 6) (r:=bB 7) C;calc U Xh;have wX:∀i:M,0<=i/\i<6->eH Gq i λx=>ez (Lv (n+2) 1) (.v<|.ai [.var 18,.var 19]) (.fz x) (f_ (u.map cu.F) h.F E J f num m p B c t L N O Q R Z) #v[w.F,l] λρ ze=>
      cf .next ρ ze (λρ ze=>ao (Lv (n+2) 1) (bB 7) ρ ze<|runK P) (runK P):=by
     intro i hi
     exact t6 (P:=λi=>eH _ i _) hi.1 hi.2 (fQ {} {} C<|aF<|s7 0 2 {} {}) (fQ {} {} C<|aF<|s7 5 1 {} {}) (fQ {} {} C<|aF<|s7 4294967295 2 {} {}) (fQ {} {} C<|aF<|s7 (-1) 1 {} {}) (fQ {} {} C<|aF<|s7 4294967296 2 {} {})<|fQ {} {} C<|aF<|s7 3 0 {} {}
    refine bc (aa<|0<m) ?_ ?_;·exact wX c h2
    ·refine wX (c.fmod 3) ⟨so _<|gB _,?_⟩;have:=ua c (b:=3)<|gB _;exact q5
end
def Gr.len(f:M)(g:Gr):(g.F f).length<=5:=by cases g with|acc a=>obtain⟨_,_,_,_,_,_,_,l⟩:=a;cases l<;>exact dw C|call c=>exact dw C|name m k=>exact dw C
def Xk{h:cu}{w:Well}(Q:1<=m.length/\m.length<=3)(R:∀h∈m,l7 h)(r:1<=s1)(t:1<=s2)(hw:w.Ok (k+5))(N:w.ns.length<=1000)(c:∀B(u:En)(E:Well),fi m f B->(1<=B.length/\B.length<=2)->(num=0->u= .ce h.hv)->(num≠0->mP u)->E.Ok k->E.ns=w.ns->P (.ret<|.fz<|.ai [.af (pH f B),u.F,.int (f+4*B.length)]) {.list E.F,.bv}):am tab (n+3) 387 [.ref 0,.fz (.af<|m.map cu.F),.fz h.F,.fz (bT s1 s2),.fz (.int f),.fz (.int num),.fz (.int J)] [.list w.F] P:=by
 refine U auh<|(Xd (Y:=am tab<|n+2)).mpr<|sH (n:=n+1) (k:=k+4) hw N {} {} λds E gJ eR L=>Drawn.all gJ ?_;intro p a1 a2 dD b1 b2 x c1 c2 cX d1 d2;show ao (Lv (n+2) 1) (bB 1) (Gs (m.map cu.F) h.F s1 s2 f num J p dD x cX) #v[E.F] (runK P);have:p=0\/p=1:=by exact r2
 clear a1 a2;rcases this with rfl|rfl
 ·refine U Xe<|cz<|Gp (k:=k+2) (l:=[]) Q R r t eR (L▸N) (cD _) λg Y aI aY aC aU aB Z uB O=>b6<|dL<|aF<|Mx ⟨b1,b2⟩ ⟨c1,c2⟩ ⟨d1,d2⟩ λu e1 e2=>?_;have:=c [g] u Y (.cons Z .nil) ⟨bR _,by exact dw C⟩ e1 e2 (uB.mQ<|mB ..) (O.trans L);simp only[pH,bK,eX,yM,kq,M.natCast_one,TY]at this;exact this
 ·refine U Xf<|cz<|Gp (k:=k+2) (l:=[]) Q R r t eR (L▸N) (cD _) λg Y aI aY aC aU aB Z uB O=>b6<|cz ?_
  have Xl:Y.ns.length<=1000:=by refine U O<|U L ?_;exact N
  refine Gp (k:=k) (l:=[]++g.F f) Q R r t uB Xl (have:=g.len f;q1) λg2 w3 zH zI zJ CC zK hg2 Xm Xn=>b6<|dL<|aF<|Mx ⟨b1,b2⟩ ⟨c1,c2⟩ ⟨d1,d2⟩ λu e1 e2=>?_;have:=c [g,g2] u w3 (.cons Z<|.cons hg2 .nil) ⟨by simp,by exact bR _⟩ e1 e2 Xm (Xn.trans<|O.trans L);have e:f+4+4=f+4*(([g,g2]:G Gr).length:M):=by exact TZ ..
  calc U e;simp only[pH,bK]at this;exact this
def zL:M->G Bl->G F|_,[]=>[]|f,b::r=>.ai [.af (pH f b.gs),b.en.F]::zL (f+4*b.gs.length) r
def zM:M->G Bl->M|f,[]=>f|f,b::r=>zM (f+4*b.gs.length) r
structure Fu where
 name:ah
 np:M
 hv:ak
 s1:M
 s2:M
 bs:G Bl
def Fu.F(u:Fu):F:=.ai [.str u.name,.int u.np,.bool u.hv,bT u.s1 u.s2,.af (zL u.np u.bs),.int (zM u.np u.bs)]
inductive nO(B:G cu)(hv:ak):M->G Bl->Prop
 |one {f gs}:fi B f gs->(1<=gs.length/\gs.length<=2)->nO B hv f [⟨gs,.ce hv⟩]
 |two {f gs en gs2}:fi B f gs->(1<=gs.length/\gs.length<=2)->mP en->fi B (f+4*gs.length) gs2->(1<=gs2.length/\gs2.length<=2)->nO B hv f [⟨gs,en⟩,⟨gs2,.ce hv⟩]
structure Gu(B:G cu)(h:cu)(u:Fu):Prop where
 name:u.name=h.name
 np:u.np=h.np
 hv:u.hv=h.hv
 s1:1<=u.s1/\u.s1<=12
 s2:1<=u.s2/\u.s2<=6
 bs:nO B u.hv u.np u.bs
abbrev Ph(c:AM)(b:aj):Fns:={call:=c,cls:=λx=>T0 x tab.cls,gl:=tab.gl,base:=b}
abbrev qW(k:aj):G S:=Cz.body.drop k
abbrev pI(k:aj):S:=Cz.body.getD k .brk
def wY:G S:=dQ<|Cz.body.getD 3 .brk
abbrev My(k:aj):G S:=wY.drop k
abbrev jI(B:G F)(E p one two m:M)(c r O J L N:ar V):Rho:=[q (.ref 0),vf (.af B),vi E,vi p,vi one,vi two,vi m,c,r,O,J,L,N]
section
variable{n:aj}{B:G F}{h:cu}{E p one two m f t s1 s2:M}{w:Well}{l:G F}{P:bL->Mem->Prop}{Q:DK}{O J L N:ar V}{a b:F}
def Xo:am tab (n+4) 394 [.ref 0,.fz (.af B),.fz (.int E),.fz (.int p)] [.list w.F] P=ao (Lv (n+3) 1) (qW 0) [q (.ref 0),vf (.af B),vi E,vi p,z,z,z,z,z,z,z,z,z] #v[w.F] (runK P):=()
def Xp:WS (Lv (n+3) 1) (pI 0) [q (.ref 0),vf (.af B),vi E,vi p,z,z,z,z,z,z,z,z,z] #v[w.F] Q=am tab (n+3) 352 [.ref 0,.fz (.af<|bP [12,6,2])] [.list w.F] (aZ [0] [.list w.F] λr u=>cW r λv=>ez (Lv (n+3) 1) (.v<|.ai [.var 4,.var 5,.var 6]) v [q (.ref 0),vf (.af B),vi E,vi p,z,z,z,z,z,z,z,z,z] ⟨u,[]⟩ λρ c=>Q .next ρ c):=()
def Xq:WS (Lv (n+3) 1) (pI 1) (jI B E p one two m z z z z z z) #v[w.F] Q=Q .next (jI B E p one two m (vf<|bT (one+1)<|two+1) (q<|.ref 1) z z z z) #v[w.F,[]]:=()
def Xr:WS (Lv (n+3) 1) (pI 2) (jI B E p one two m (vf<|bT s1 s2) (q<|.ref 1) z z z z) #v[w.F,[]] Q=eH B E λh=>jY (.fz h) (.fz<|.int 1) [.list w.F,.list []] λx=>Q .next (jI B E p one two m (vf<|bT s1 s2) (q<|.ref 1) (vf x) z z z) #v[w.F,[]]:=()
def Xs:WS (Lv (n+3) 1) (pI 3) (jI B E p one two 0 (vf<|bT s1 s2) (q<|.ref 1) (vi f) z z z) #v[w.F,[]] Q=bj (aS (Lv (n+3) 1) (.var 10) wY) [.int 0] (jI B E p one two 0 (vf<|bT s1 s2) (q<|.ref 1) (vi f) z z z) #v[w.F,[]] Q:=()
def Xu:WS (Lv (n+3) 1) (pI 3) (jI B E p one two 1 (vf<|bT s1 s2) (q<|.ref 1) (vi f) z z z) #v[w.F,[]] Q=bj (aS (Lv (n+3) 1) (.var 10) wY) [.int 0,.int 1] (jI B E p one two 1 (vf<|bT s1 s2) (q<|.ref 1) (vi f) z z z) #v[w.F,[]] Q:=()
def Xv{c:AM}:WS (Ph c 1) (wY.getD 0 .brk) (jI B E p one two m (vf<|bT s1 s2) (q<|.ref 1) (vi f) (vi t) L N) #v[w.F,l] Q=eH B E λh=>c 387 [.ref 0,.fz (.af B),.fz h,.fz (bT s1 s2),.fz (.int f),.fz (.int<|m-t),.fz (.int p)] [.list w.F] (aZ [0] [.list w.F,.list l] λr x=>cW r λv=>ez (Ph c 1) (.v<|.ai [.var 11,.var 12,.var 9]) v (jI B E p one two m (vf<|bT s1 s2) (q<|.ref 1) (vi f) (vi t) L N) ⟨x,[]⟩ λρ u=>Q .next ρ u):=()
def Xw:ao (Lv (n+3) 1) (My 1) (jI B E p one two m (vf<|bT s1 s2) (q<|.ref 1) O J (vf a)<|vf b) #v[w.F,l] Q=gd (l.length<aM) (Q .next (jI B E p one two m (vf<|bT s1 s2) (q<|.ref 1) O J (vf a)<|vf b) #v[w.F,l++[.ai [a,b]]]):=()
def Xx:ao (Lv (n+3) 1) (qW 4) (jI B E p one two m (vf<|bT s1 s2) (q<|.ref 1) (vi f) J L N) #v[w.F,l] (runK P)=eH B E λc=>jY (.fz c) (.fz<|.int 0) [.list w.F,.list l] λy1=>eH B E λr=>jY (.fz r) (.fz<|.int 1) [.list w.F,.list l] λy2=>eH B E λu=>jY (.fz u) (.fz<|.int 2) [.list w.F,.list l] λy3=>P (.ret<|.fz<|.ai [y1,y2,y3,bT s1 s2,.af l,.int f]) {.list w.F,.bv}:=()
end
def Gv{h:cu}{w:Well}(Y:1<=p.length/\p.length<=3)(Z:∀h∈p,l7 h)(ha:0<=x/\x<3)(eh:(p.map cu.F)[x.toNat]? =q h.F)(J:1<=L)(N:1<=O)(hw:w.Ok (k+5))(fj:w.ns.length<=1000)(hl:l.length<=1000)(c:∀u(B:En)(E:Well) P R,fi p f u->(1<=u.length/\u.length<=2)->(m-t=0->B= .ce h.hv)->(m-t≠0->mP B)->E.Ok k->E.ns=w.ns->Q .next (jI (p.map cu.F) x r one two m (vf<|bT L O) (q<|.ref 1) (vi<|f+4*u.length) (vi t) P R) #v[E.F,l++[.ai [.af (pH f u),B.F]]]):aS (Lv (n+3) 1) (.var 10) wY (.int t) (jI (p.map cu.F) x r one two m (vf<|bT L O) (q<|.ref 1) (vi f) a6 P R) #v[w.F,l] Q:=ig (a:=jI (p.map cu.F) x r one two m (vf<|bT L O) (q<|.ref 1) (vi f) (vi t) P R) C<|bq (s:=wY.getD 0 .brk) (r:=My 1) C<|(Xv (c:=am tab<|n+3)).mpr<|fQ ha.1 (z3) eh<|Xk Y Z J N hw fj λu B E h1 h2 h3 h4 h5 h6=>aF<|Xw.mpr<|aE (by simp only[kt];exact q2)<|c u B E _ _ h1 h2 h3 h4 h5 h6
def Xy{w:Well}(R:1<=l.length/\l.length<=3)(Y:∀h∈l,l7 h)(r:0<=B/\B<3)(t:(l.map cu.F)[B.toNat]? =q h.F)(hw:w.Ok (k+11))(fj:w.ns.length<=1000)(c:∀u(x:Well),Gu l h u->x.Ok k->x.ns=w.ns->P (.ret<|.fz u.F) {.list x.F,.bv}):am tab (n+4) 394 [.ref 0,.fz (.af<|l.map cu.F),.fz (.int B),.fz (.int m)] [.list w.F] P:=by
 refine U Xo<|bq (s:=pI 0) (r:=qW 1) C<|U Xp<|sH (n:=n+2) (k:=k+10) hw fj {} {} λds x gJ eR Z=>Drawn.all gJ λone a1 a2 two b1 b2 f c1 c2=>aF ?_;show ao (Lv (n+3) 1) (qW 1) (jI (l.map cu.F) B m one two f z z z z z z) #v[x.F] (runK P);refine bq (s:=pI 1) (r:=qW 2) C<|U Xq<|aF<|bq (s:=pI 2) (r:=qW 3) C<|U Xr<|fQ r.1 (by lia) t<|aF ?_;have zN:x.ns.length<=1000:=by calc U Z;exact fj
 have E:∀(J:G Bl)(p:Well) a6 L N,nO l h.hv h.np J->p.Ok k->p.ns=w.ns->
   ao (Lv (n+3) 1) (qW 4) (jI (l.map cu.F) B m one two f (vf<|bT (one+1)<|two+1) (q<|.ref 1) (vi<|zM h.np J) a6 L N) #v[p.F,zL h.np J] (runK P):=by
  intro J p a6 L N hb uB sM
  refine U Xx ?_
  refine fQ r.1 (by lia) t<|fQ r.1 (by lia) t<|fQ r.1 (by lia) t ?_
  exact c ⟨h.name,h.np,h.hv,one+1,two+1,J⟩ p ⟨C,C,C,by show 1<=one+1/\one+1<=12;lia,by show 1<=two+1/\two+1<=6;lia,hb⟩ uB sM
 have:f=0\/f=1:=by exact r2
 clear c1 c2;rcases this with rfl|rfl
 ·refine bq (s:=pI 3) (r:=qW 4) C<|Xs.mpr<|cz (Gv (k:=k+5) (l:=[]) R Y r t (by lia) (by lia) eR zN (cD _) λO en p L N g1 g2 g3 g4 g5 Q=>b6<|dL<|aF ?_);obtain rfl:=g3 C;exact E [⟨O,.ce h.hv⟩] p _ _ _ (.one g1 g2) (g5.mQ<|mB ..) (Q.trans Z)
 ·refine bq (s:=pI 3) (r:=qW 4) C<|Xu.mpr<|cz<|Gv (k:=k+5) (l:=[]) (t:=0) (m:=1) (f:=h.np) (L:=one+1) (O:=two+1) R Y r t (by lia) (by lia) eR zN (cD _) λO en p L N g1 g2 g3 g4 g5 Q=>b6<|cz<|Gv (k:=k) (l:=[.ai [.af (pH h.np O),en.F]]) (t:=1) (m:=1) (L:=one+1) (O:=two+1) R Y r t (by lia) (by lia) g5 (U Q zN) (dw C) λgs2 en2 w3 zO zP p1 p2 p3 p4 p5 p6=>b6<|dL<|aF ?_;clear p4;obtain rfl:=p3 C;exact E [⟨O,en⟩,⟨gs2,.ce h.hv⟩] w3 _ _ _ (.two g1 g2 (g4 {}) p1 p2) p5 (p6.trans<|Q.trans Z)
set_option genCtorIdx false in
inductive Pc where
 |num(w v:M)|fk(nm:ah)(k:M)|gap(n:M)|gb(n:aj)|gp
noncomputable def Pc.ctorIdx(x:Pc):aj:=x.casesOn (motive:=λ_=>aj) (λ_ _=>0) (λ_ _=>1) (λ_=>2) (λ_=>3) 4
noncomputable def Pc.F:Pc->F| .num w v=>.ai [.str "num",.int w,.int v]| .fk f k=>.ai [.str "addr",.str f,.int k]| .gap n=>.ai [.str "gap",.int n]| .gb n=>.ai [.str "text",.bytes (jA n 0)]| .gp=>.ai [.str "what",.int 1]
noncomputable abbrev jc(k:aj):G S:=Ge.body.drop k
noncomputable abbrev wZ(k:aj):S:=Ge.body.getD k .brk
noncomputable abbrev iK(u B m E l t p:M)(x y:ar V):Rho:=[q (.ref 0),vi u,vi B,vi m,vi E,vi l,vi t,vi p,x,y,z]
section
variable{c:AM}{u B m E l t p J:M}{w:Well}{P:bL->Mem->Prop}
def Xz:am tab (n+2) 401 [.ref 0,.fz (.int u),.fz (.int B),.fz (.int m)] [.list w.F] P=ao (Ph (am tab<|n+1) 1) (jc 0) [q (.ref 0),vi u,vi B,vi m,z,z,z,z,z,z,z] #v[w.F] (runK P):=()
def XA:WS (Ph c 1) (wZ 0) [q (.ref 0),vi u,vi B,vi m,z,z,z,z,z,z,z] #v[w.F] Q=c 352 [.ref 0,.fz (.af<|bP [5,3,4,5])] [.list w.F] (aZ [0] [.list w.F] λr x=>cW r λv=>ez (Ph c 1) (.v<|.ai [.var 4,.var 5,.var 6,.var 7]) v [q (.ref 0),vi u,vi B,vi m,z,z,z,z,z,z,z] ⟨x,[]⟩ λρ f=>Q .next ρ f):=()
def XB:WS (Ph c 1) (wZ 1) (iK u B m E l t p z z) #v[w.F] Q=(match aa (0<m)with|D=>Q .next (iK u B m E l t p (vb<|p==0) z) #v[w.F]|j=>Q .next (iK u B m E l t p (vb j) z) #v[w.F]):=()
def XC:WS (Ph c 1) (wZ 2) (iK u B m E l t p (vb b) z) #v[w.F] Q=gd (0<=l&&l<=1000&&small 1) (Q .next (iK u B m E l t p (vb b)<|vi<|1*2^l.toNat) #v[w.F]):=()
noncomputable def XD(J:M):G F:=[.ai [.str "num",.int 3,.int 0],.ai [.str "num",.int J,.int (1*2^(8*J).toNat)],.ai [.str "num",.int J,.int (-1)],.ai [.str "gap",.int 0],.ai [.str "text",.bytes #[]],.ai [.str "what",.int 1],.ai [.str "addr",.str "nowhere",.int 0],.ai [.str "addr",.str "omega",.int 4],.ai [.str "num",.int 4,.int 7],.ai [.str "num",.int 2,.int 65535]]
def XE:ao (Ph c 1) (jc 3) (iK u B m E l t p (vb D)<|vi J) #v[w.F] (runK P)=gd (0<=8*J&&8*J<=1000&&small 1) (gd (small E)<|eH (XD J) (E*2+t.fmod 2) λx=>P (.ret<|.fz x) #v[w.F]):=()
def XF:ao (Ph c 1) (jc 3) (iK u B m E l t p (vb j)<|vi J) #v[w.F] (runK P)=ao (Ph c 1) (jc 4) (iK u B m E l t p (vb j)<|vi J) #v[w.F] (runK P):=()
def XG:ao (Ph c 1) (jc 4) (iK u B m E l t p (vb j)<|vi J) #v[w.F] (runK P)=(match E==0 with
  |D=>match u.fmod 4==0 with
   |D=>match B==4 with|D=>eH [.str "omega",.str "alpha"] (t.fmod 2) λx=>P (.ret<|.fz<|.ai [.str "addr",x,.int 4]) #v[w.F]|j=>ao (Ph c 1) (jc 5) (iK u B m E l t p (vb j)<|vi J) #v[w.F]<|runK P
   |j=>ao (Ph c 1) (jc 5) (iK u B m E l t p (vb j)<|vi J) #v[w.F]<|runK P
  |j=>ao (Ph c 1) (jc 5) (iK u B m E l t p (vb j)<|vi J) #v[w.F]<|runK P):=()
def XH:ao (Ph c 1) (jc 6) (iK u B m E l t p (vb j)<|vi J) #v[w.F] (runK P)=(match E==3 with|D=>P (.ret<|.fz<|.ai [.str "gap",.int (t+1)]) #v[w.F]|j=>gd (0<=t+1&&t+1<=1000)<|P (.ret<|.fz<|.ai [.str "text",.bytes (jA (t+1).toNat 0)]) #v[w.F]):=()
end
section
variable{w:Well}
def XI:ao (Ph c 1) (jc 5) (iK r t l u f B m (vb j)<|vi p) #v[w.F] (runK P)=(match aa (u<3)with|D=>gd (p !=0) (match r.fmod p==0 with|D=>gd (p !=0) (match t.fmod p==0 with|D=>gd (0<=8*p&&8*p<=1000&&small 1)<|eH [.int 0,.int (1*2^(8*p).toNat-1),.int 1,.int 200] B λx=>P (.ret<|.fz<|.ai [.str "num",.int p,x]) #v[w.F]|j=>ao (Ph c 1) (jc 6) (iK r t l u f B m (vb j)<|vi p) #v[w.F]<|runK P)|j=>ao (Ph c 1) (jc 6) (iK r t l u f B m (vb j)<|vi p) #v[w.F]<|runK P)|j=>ao (Ph c 1) (jc 6) (iK r t l u f B m (vb j)<|vi p) #v[w.F]<|runK P):=()
end
inductive ij:Pc->Prop
 |num {w v:M}:w=1\/w=2\/w=3\/w=4->-1<=v->v<=4294967296->ij (.num w v)
 |fk {nm k}:nm∈(["omega","alpha","nowhere"]:G ah)->ij (.fk nm k)
 |gap {n:M}:0<=n->n<=4->ij (.gap n)
 |gb {n:aj}:n<=4->ij (.gb n)
 |gp:ij .gp
def XJ{c:M}(h:c=1\/c=2\/c=4):(c=1\/c=2\/c=3\/c=4)/\-1<=(1*2^(8*c).toNat-1:M)/\(1*2^(8*c).toNat-1:M)<=4294967296/\(aa (0<=8*c)&&aa (8*c<=1000)&&small 1)=D/\(c !=0)=D/\-1<=(1*2^(8*c).toNat:M)/\(1*2^(8*c).toNat:M)<=4294967296:=by rcases h with rfl|rfl|rfl<;>decide
def XK{w:Well}(hw:w.Ok (k+1))(fj:w.ns.length<=1000)(c:∀p(t:Well),ij p->t.Ok k->t.ns=w.ns->P (.ret (.fz p.F)) #v[t.F]):am tab (n+2) 401 [.ref 0,.fz (.int E),.fz (.int J),.fz (.int m)] [.list w.F] P:=by
 calc U Xz;calc bq (s:=wZ 0) (r:=jc 1) C;calc U XA;refine sH hw fj {} {} λds t gJ eR dp=>?_;refine Drawn.all gJ ?_;intro B a1 a2 f b1 b2 x R Q r d1 d2;calc aF;show ao (Ph (am tab (n+1)) 1) (jc 1) (iK E J m B f x r z z) #v[t.F] (runK P);have l:∀p,ij p->P (.ret (.fz p.F)) #v[t.F]:=λp hp=>c p t hp eR dp;have N:=so x (b:=2) {};have O:=ua x (b:=2) {};refine av (Mu b1 b2) λu sL zD=>Vl (XJ sL) λL v1 v2 g8 eI v3 v4=>?_;have go:∀b:ak,ao (Ph (am tab (n+1)) 1) (jc 2) (iK E J m B f x r (vb b) z) #v[t.F] (runK P):=by
  intro b;calc bq (s:=wZ 2) (r:=jc 3) C;calc U XC;refine aE (t3 (P:=λp=>(aa (0<=p)&&aa (p<=1000)&&small 1)=D) b1 b2 {} {} {}) (aF ?_);refine U zD ?_;cases b with
  |true=>
   calc U XE;refine aE g8 (aE (Gl (zk (n:=1000000) (ft {} a1) (ft (qE a2) {}))) ?_);exact Vj (x:=B*2+x.fmod 2) (wm (Li a1 {}) N) (M.add_lt_add_of_le_of_lt (M.mul_le_mul_of_nonneg_right (nw (b:=4) a2) {}) O) (l (.num 3 0) (.num {} {} {})) (l (.num u _) (.num L v3 v4)) (l (.num u (-1)) (.num L {} {}))
    (l (.gap 0) (.gap {} {})) (l (.gb 0) (.gb {})) (l .gp .gp) (l (.fk "nowhere" 0) (.fk (.tail _ (.tail _ (.head _))))) (l (.fk "omega" 4) (.fk (.head _)))
    (l (.num 4 7) (.num {} {} {})) (l (.num 2 65535) (.num {} {} {}))
  |false=>
   refine U XF (U XG ?_);have Y:ao (Ph (am tab (n+1)) 1) (jc 6) (iK E J m B f x r (vb j) (vi u)) #v[t.F] (runK P):=by
    calc U XH;refine bc (B==3) ?_ ?_;·exact l (.gap (x+1)) (.gap (Lk R) (T3 Q))
    ·exact aE (zm (Lk R) (ft (T3 Q) {})) (l (.gb (x+1).toNat) (.gb (TV.mpr (T3 Q))))
   have Z:ao (Ph (am tab (n+1)) 1) (jc 5) (iK E J m B f x r (vb j) (vi u)) #v[t.F] (runK P):=by calc U XI;cases aa (B<3)with|false=>exact Y|true=>calc aE eI;cases E.fmod u==0 with|false=>exact Y|true=>calc aE eI;cases J.fmod u==0 with|false=>exact Y|true=>calc aE g8;exact t4 R Q (l (.num u 0) (.num L {} {})) (l (.num u _) (.num L v1 v2)) (l (.num u 1) (.num L {} {})) (l (.num u 200) (.num L {} {}))
   refine bc (B==0) ?_ ?_;·
    refine bc (E.fmod 4==0) ?_ ?_;·
     refine bc (J==4) ?_ ?_;·exact t2 N O (l (.fk "omega" 4) (.fk (.head _))) (l (.fk "alpha" 4) (.fk (.tail _ (.head _))))
     ·exact Z
    ·exact Z
   ·exact Z
 calc bq (s:=wZ 1) (r:=jc 2) C;calc U XB;refine bc (aa (0<m)) ?_ ?_;·exact aF (go _)
 ·exact aF (go _)
noncomputable def Pc.size:Pc->M| .num w _=>w| .fk .. =>4| .gap n=>n| .gb n=>n| .gp=>1
section
def zQ:am tab (n+1) 413 [.fz (Pc.num w v).F] c P=P (.ret<|.fz<|.int w) ⟨c,[]⟩:=()
def Mz:am tab (n+1) 413 [.fz (Pc.fk f k).F] c P=P (.ret<|.fz<|.int 4) ⟨c,[]⟩:=()
def MA:am tab (n+1) 413 [.fz (Pc.gap k).F] c P=P (.ret<|.fz<|.int k) ⟨c,[]⟩:=()
def MB:am tab (n+1) 413 [.fz (Pc.gb k).F] c P=gd ((jA k (0:px)).size<=aM) (P (.ret<|.fz<|.int (jA k (0:px)).size) ⟨c,[]⟩):=()
def MC:am tab (n+1) 413 [.fz Pc.gp.F] c P=P (.ret<|.fz<|.int 1) ⟨c,[]⟩:=()
def XM(f:ij p)(c:P (.ret<|.fz<|.int p.size) ⟨l,[]⟩):am tab (n+1) 413 [.fz p.F] l P:=by
 cases p with
 |num w v=>calc U zQ;exact c
 |fk m k=>calc U Mz;exact c
 |gap k=>calc U MA;exact c
 |gp=>calc U MC;exact c
 |gb k=>
  calc U MB;have r:k<=4:=by cases f;assumption
  exact have e:(jA k (0:px)).size=k:=Fi ..;U e<|aE (by simp only[kt];exact q1) c
end
noncomputable def uC:G Pc->M|[]=>0|p::r=>p.size+uC r
noncomputable abbrev jt(k:aj):G S:=zy.body.drop k
noncomputable abbrev iL(k:aj):S:=zy.body.getD k .brk
noncomputable def uD:G S:=dQ<|zy.body.getD 2 .brk
noncomputable abbrev ee(l m p f one two:M)(r t u x B E J L N O P Q R:ar V):Rho:=[q (.ref 0),vi l,vi m,vi p,vi f,vi one,vi two,r,t,u,x,B,E,J,L,N,O,P,Q,R]
section
variable{w:Well}
def XN:am tab (n+5) 406 [.ref 0] [.list w.F] P=ao (Ph (am tab<|n+4) 1) (jt 0) [q (.ref 0),z,z,z,z,z,z,z,z,z,z,z,z,z,z,z,z,z,z,z] #v[w.F] (runK P):=()
def XO:WS (Ph c 1) (iL 0) [q (.ref 0),z,z,z,z,z,z,z,z,z,z,z,z,z,z,z,z,z,z,z] #v[w.F] Q=c 352 [.ref 0,.fz (.af<|bP [3,3,3,8,3,8])] [.list w.F] (aZ [0] [.list w.F] λr l=>cW r λv=>ez (Ph c 1) (.v<|.ai [.var 1,.var 2,.var 3,.var 4,.var 5,.var 6]) v [q (.ref 0),z,z,z,z,z,z,z,z,z,z,z,z,z,z,z,z,z,z,z] ⟨l,[]⟩ λρ f=>Q .next ρ f):=()
def XQ:WS (Ph c 1) (iL 1) (ee m p r l one two z z z z z z z z z z z z z) #v[w.F] Q=Q .next (ee m p r l one two (q<|.ref 1) (q<|.ref 2) z z z z z z z z z z z) #v[w.F,[],[]]:=()
end
section
variable{one:M}{w:Well}
noncomputable def Gw:G F:=[.str "alpha",.str "beta",.str "gamma"]
def XR:am tab (n+1) 324 [] c P=P (.ret<|.fz<|.af Gw) ⟨c,[]⟩:=()
def XS:WS (Ph c 1) (uD.getD 0 .brk) (ee x B E u one two (q (.ref 1)) (q (.ref 2)) (vi t) z z z z z z z z z z) #v[w.F,l,m] Q=
  c 324 [] [] (aZ [] [.list w.F,.list l,.list m] λr J=>cW r λv=>jY v (.fz (.int t)) J λL=>gd (aa (0<=t))
   (kB .append (.ref 1) [.fz (.ai [L,.int ((one+t).fmod 3),.bool (qD (two.fdiv (2^t.toNat)) 1==1)])] ⟨J,[]⟩ λ_ p=>
    Q .next (ee x B E u one two (q (.ref 1)) (q (.ref 2)) (vi t) z z z z z z z z z z) p)):=()
def XT(O:0<=t/\t<3)(R:l.length<=1000)(Y:0<=one)(c:∀h:cu,l7 h->h.name∈(["alpha","beta","gamma"]:G ah)->Q .next (ee u x B r one two (q (.ref 1)) (q (.ref 2)) (vi t) z z z z z z z z z z) #v[w.F,l++[h.F],m]):aS (Ph (am tab (n+1)) 1) (.var 9) uD (.int t) (ee u x B r one two (q (.ref 1)) (q (.ref 2)) Z z z z z z z z z z z) #v[w.F,l,m] Q:=by
 refine ig (a:=ee u x B r one two (q (.ref 1)) (q (.ref 2)) (vi t) z z z z z z z z z z) C<|bq (s:=uD.getD 0 .brk) (r:=[]) C<|U XS (U XR ?_);have L:=so (one+t) (b:=3) (gB _);have N:=ua (one+t) (b:=3) (gB _);have E:∀J:ah,J∈(["alpha","beta","gamma"]:G ah)->Gw[t.toNat]? =q (.str J)->eH Gw t λJ=>gd (0<=t)
   (kB .append (.ref 1) [.fz (.ai [J,.int ((one+t).fmod 3),.bool (qD (two.fdiv (2^t.toNat)) 1==1)])] #v[w.F,l,m] λ_ p=>cf .next (ee u x B r one two (q (.ref 1)) (q (.ref 2)) (vi t) z z z z z z z z z z) p (λρ p=>ao (Ph (am tab (n+1)) 1) [] ρ p Q) Q):=by
  intro J P e
  refine fQ O.1 (z3) e (aE (de O.1) ?_)
  refine aE (c:=aa (l.length<aM)) (by simp only[kt];exact q2) (aF ?_)
  exact c ⟨J,(one+t).fmod 3,qD (two.fdiv (2^t.toNat)) 1==1⟩ ⟨⟨L,N⟩,P⟩ P
 have:t=0\/t=1\/t=2:=by exact r3 (And.left ‹_›) (And.right ‹_›)
 rcases this with e|e|e
 ·exact E "alpha" (.head _) (U e C)
 ·exact E "beta" (.tail _ (.head _)) (U e C)
 ·exact E "gamma" (.tail _ (.tail _ (.head _))) (U e C)
end
section
variable{c:AM}{r u t p one two:M}{w:Well}{Q:DK}{l m:G F}{x:ar V}
def XU:WS (Ph c 1) (iL 2) (ee r 0 t p one two (q<|.ref 1) (q<|.ref 2) z z z z z z z z z z z) #v[w.F,l,m] Q=bj (aS (Ph c 1) (.var 9) uD) [.int 0] (ee r 0 t p one two (q<|.ref 1) (q<|.ref 2) z z z z z z z z z z z) #v[w.F,l,m] Q:=()
def XV:WS (Ph c 1) (iL 2) (ee r 1 t p one two (q<|.ref 1) (q<|.ref 2) z z z z z z z z z z z) #v[w.F,l,m] Q=bj (aS (Ph c 1) (.var 9) uD) [.int 0,.int 1] (ee r 1 t p one two (q<|.ref 1) (q<|.ref 2) z z z z z z z z z z z) #v[w.F,l,m] Q:=()
def XW:WS (Ph c 1) (iL 2) (ee r 2 t p one two (q<|.ref 1) (q<|.ref 2) z z z z z z z z z z z) #v[w.F,l,m] Q=bj (aS (Ph c 1) (.var 9) uD) [.int 0,.int 1,.int 2] (ee r 2 t p one two (q<|.ref 1) (q<|.ref 2) z z z z z z z z z z z) #v[w.F,l,m] Q:=()
def XX:WS (Ph c 1) (iL 3) (ee r u t p one two (q<|.ref 1) (q<|.ref 2) x z z z z z z z z z z) #v[w.F,l,m] Q=(match aa (0<r)with
  |D=>match p==1 with|D=>eH l (-1) λf=>jY (.fz f) (.fz<|.int 1) [.list w.F,.list l,.list m] λa=>eH l (-1) λE=>jY (.fz E) (.fz<|.int 2) [.list w.F,.list l,.list m] λb=>Cs l (-1) (.ai [.str "alpha",a,b]) λl'=>Q .next (ee r u t p one two (q<|.ref 1) (q<|.ref 2) x z z z z z z z z z z) #v[w.F,l',m]|j=>Q .next (ee r u t p one two (q<|.ref 1) (q<|.ref 2) x z z z z z z z z z z) #v[w.F,l,m]
  |j=>Q .next (ee r u t p one two (q<|.ref 1) (q<|.ref 2) x z z z z z z z z z z) #v[w.F,l,m]):=()
def XY:WS (Ph c 1) (iL 4) (ee r u t p one two (q<|.ref 1) (q<|.ref 2) x z z z z z z z z z z) #v[w.F,l,m] Q=Q .next (ee r u t p one two (vf<|.af l) (q<|.ref 2) x z z z z z z z z z z) {.list w.F,.bv,.list m}:=()
end
def cT(l:Fns)(m:aj)(t:T)(p:X)(r:G X)(ρ:Rho)(f:F)(c:Mem)(P:ar F->Mem->Prop):Prop:=oP (fy t f<|bN m z++ρ) λρ'=>WC l r ρ' c λu c=>match u with|D=>WX l p ρ' c λv c=>eQ (gE v c) λf c=>P (q f) c|j=>P z c
noncomputable def sx:S->X| .a9 _ e=>e| .ret e=>e| .ite t _ _=>t| .iF _ (e::_)=>e|_=>.lit .none
noncomputable def xa:X->X| .aJ _ a _=>a| .aA _ a _=>a| .cw _ _ (a::_)=>a|e=>e
noncomputable def xb:X->X| .aJ _ _ b=>b| .aA _ _ b=>b| .and _ b=>b|e=>e
noncomputable def xl:X->X×G X| .eG _ _ e _ _ _ _ c=>(e,c)|_=>(.lit .none,[])
noncomputable def XZ(s:S):X:=(xl<|sx s).1
noncomputable def w6:X:=XZ<|iL 5
section
variable{w:Well}
def X0:cT (Ph c 1) 1 (.var 0) w6 [] (ee u B E x one two (vf<|.af J) (q<|.ref 2) N z z z z z z z z z z) (.int t) {.list w.F,.bv,.list m} P=c 394 [.ref 0,.fz (.af J),.fz (.int t),.fz (.int u)] [.list w.F] (aZ [0] [.list w.F,.bv,.list m] λr L=>cW r λv=>eQ (gE v ⟨L,[]⟩) λf p=>P (q f) p):=()
def X2:WS (Ph c 1) (iL 5) (ee t 0 u r one two (vf<|.af x) (q<|.ref 2) B z z z z z z z z z z) {.list w.F,.bv,.list m} Q=gW (cT (Ph c 1) 1 (.var 0) w6 [] (ee t 0 u r one two (vf<|.af x) (q<|.ref 2) B z z z z z z z z z z)) [.int 0] {.list w.F,.bv,.list m} λl p=>gI j l p λv p=>ez (Ph c 1) (.v<|.var 10) v (ee t 0 u r one two (vf<|.af x) (q<|.ref 2) B z z z z z z z z z z) p λρ p=>Q .next ρ p:=()
def X3:WS (Ph c 1) (iL 5) (ee t 1 u r one two (vf<|.af x) (q<|.ref 2) B z z z z z z z z z z) {.list w.F,.bv,.list m} Q=gW (cT (Ph c 1) 1 (.var 0) w6 [] (ee t 1 u r one two (vf<|.af x) (q<|.ref 2) B z z z z z z z z z z)) [.int 0,.int 1] {.list w.F,.bv,.list m} λl p=>gI j l p λv p=>ez (Ph c 1) (.v<|.var 10) v (ee t 1 u r one two (vf<|.af x) (q<|.ref 2) B z z z z z z z z z z) p λρ p=>Q .next ρ p:=()
def X4:WS (Ph c 1) (iL 5) (ee t 2 u r one two (vf<|.af x) (q<|.ref 2) B z z z z z z z z z z) {.list w.F,.bv,.list m} Q=gW (cT (Ph c 1) 1 (.var 0) w6 [] (ee t 2 u r one two (vf<|.af x) (q<|.ref 2) B z z z z z z z z z z)) [.int 0,.int 1,.int 2] {.list w.F,.bv,.list m} λl p=>gI j l p λv p=>ez (Ph c 1) (.v<|.var 10) v (ee t 2 u r one two (vf<|.af x) (q<|.ref 2) B z z z z z z z z z z) p λρ p=>Q .next ρ p:=()
end
section
variable{w:Well}
def X5(J:1<=l.length/\l.length<=3)(L:∀h∈l,l7 h)(N:0<=t/\t<3)(O:(l.map cu.F)[t.toNat]? =q h.F)(Q:w.Ok (k+11))(R:w.ns.length<=1000)(c:∀u(p:Well),Gu l h u->p.Ok k->p.ns=w.ns->P (q u.F) {.list p.F,.bv,.list m}):cT (Ph (am tab<|n+4) 1) 1 (.var 0) w6 [] (ee x B E r one two (vf<|.af<|l.map cu.F) (q<|.ref 2) x9 z z z z z z z z z z) (.int t) {.list w.F,.bv,.list m} P:=U X0<|Xy J L N O Q R λu p Y Z h3=>c u p Y Z h3
end
def Gx{step:F->Mem->(ar F->Mem->Prop)->Prop}(h:step f c λo c=>gW step r c λl c=>P (Ct o l) c):gW step (f::r) c P:=h
def X6{step:F->Mem->(ar F->Mem->Prop)->Prop}(h:P [] c):gW step [] c P:=h
inductive qX(hs:G cu):G cu->G Fu->Prop
 |nil:qX hs [] []
 |cons {h u r us}:Gu hs h u->qX hs r us->qX hs (h::r) (u::us)
noncomputable def j0:aj->aj->G F|_,0=>[]|i,n+1=>.int i::j0 (i+1) n
def X7(Q:1<=x.length/\x.length<=3)(fJ:∀h∈x,l7 h):∀(r t:G cu)(w:Well)(P:G F->Mem->Prop),x=t++r->w.Ok (k+11*r.length)->w.ns.length<=1000->(∀J(B:Well),qX x r J->B.Ok k->B.ns=w.ns->P (J.map Fu.F) {.list B.F,.bv,.list m})->gW (cT (Ph (am tab (n+4)) 1) 1 (.var 0) w6 [] (ee R Y Z L one two (vf (.af (x.map cu.F))) (q (.ref 2)) x9 z z z z z z z z z z)) (j0 t.length r.length) {.list w.F,.bv,.list m} P:=by
 intro bg;induction bg with
 |nil=>exact λt w P e N O f=>f [] w .nil N C
 |cons h r ih=>
  refine λt w P e N O f=>Gx ?_;have E:x.length=t.length+(r.length+1):=by calc U e;simp
  have eh:(x.map cu.F)[((t.length:M)).toNat]? =q h.F:=by refine U (B2 ..) (U e ?_);simp
  calc X5 (k:=k+11*r.length) Q fJ ⟨gB _,sm.mpr (iD (E▸T4 (Fj _)) Q.2)⟩ eh N O;intro u B hu eR dp;have:=ih (t++[h]) B (λl p=>P (Ct (q u.F) l) p) (by calc U e;simp) eR (U dp O)
   λJ mO qY zF zG=>f (u::J) mO (.cons hu qY) zF (zG.trans dp)
  rw[show(t++[h]).length=t.length+1 by simp]at this;exact this
def uE:G S:=dQ<|zy.body.getD 6 .brk
abbrev pJ(k:aj):G S:=uE.drop k
abbrev kD(k:aj):S:=uE.getD k .brk
def nP:G S:=dQ<|kD 2
abbrev dj(B E J u one two:M)(O P:F)(f Y aD aI aY aC r Z R:ar V):Rho:=[q (.ref 0),vi B,vi E,vi J,vi u,vi one,vi two,vf O,q (.ref 2),f,vf P,Y,aD,aI,aY,aC,r,Z,R,z]
section
variable{c:AM}{B E J u one two t x L N p place:M}{w:Well}{Q:DK}{O P:F}{m l:G F}{r Z R:ar V}
def X8:WS (Ph c 1) (kD 0) (dj B E J u one two O P (vi t) aO aD aI aY aC r Z R) {.list w.F,.bv,.list m} Q=c 352 [.ref 0,.fz (.af<|bP [3,4,8])] [.list w.F] (aZ [0] [.list w.F,.bv,.list m] λf fl=>cW f λv=>ez (Ph c 1) (.v<|.ai [.var 11,.var 12,.var 13]) v (dj B E J u one two O P (vi t) aO aD aI aY aC r Z R) ⟨fl,[]⟩ λρ Y=>Q .next ρ Y):=()
def X9:WS (Ph c 1) (kD 1) (dj B E J u one two O P (vi t) (vi x) (vi L) (vi N) f Y r Z R) {.list w.F,.bv,.list m} Q=gd (0<=x&&x<=1000&&small 1) (Q .next (dj B E J u one two O P (vi t) (vi x) (vi L) (vi N) (vi<|1*2^x.toNat) (q<|.ref 3) (vi 0) Z R) {.list w.F,.bv,.list m,.list []}):=()
def X_{i:M}:WS (Ph c 1) (nP.getD 0 .brk) (dj B E J u one two O P (vi t) (vi x) (vi L) (vi N) (vi p) (q<|.ref 3) (vi place) (vi i) R) {.list w.F,.bv,.list m,.list l} Q=c 401 [.ref 0,.fz (.int place),.fz (.int p),.fz (.int B)] [.list w.F] (aZ [0] [.list w.F,.bv,.list m,.list l] λf fl=>cW f λv=>kB .append (.ref 3) [v] ⟨fl,[]⟩ λ_ Y=>Q .next (dj B E J u one two O P (vi t) (vi x) (vi L) (vi N) (vi p) (q<|.ref 3) (vi place) (vi i) R) Y):=()
def Yb{i:M}:WS (Ph c 1) (nP.getD 1 .brk) (dj B E J u one two O P (vi t) (vi x) (vi L) (vi N) (vi p) (q<|.ref 3) (vi place) (vi i) R) {.list w.F,.bv,.list m,.list l} Q=eH l (-1) λf=>c 413 [.fz f] [] (aZ [] [.list w.F,.bv,.list m,.list l] λY fl=>cW Y λv=>cF v λk=>Q .next (dj B E J u one two O P (vi t) (vi x) (vi L) (vi N) (vi p) (q<|.ref 3) (vi<|place+k) (vi i) R) ⟨fl,[]⟩):=()
def Yc:WS (Ph c 1) (kD 4) (dj B E J u one two O P (vi t) (vi x) (vi L) (vi N) (vi p) (q<|.ref 3) r Z R) {.list w.F,.bv,.list m,.list l} Q=eQ (Cv 1 (.ref 3) (dj B E J u one two O P (vi t) (vi x) (vi L) (vi N) (vi p) z r Z R) {.list w.F,.bv,.list m,.list l}) λf Y=>Q .next (dj B E J u one two O P (vi t) (vi x) (vi L) (vi N) (vi p) (vf f) r Z R) Y:=()
end
section
variable{n k:aj}{E J L u one two t x B N P place i:M}{w:Well}{Q:DK}{R Z:F}{m:G F}{O r:ar V}
def Yd(hw:w.Ok (k+1))(fj:w.ns.length<=1000)(hl:l.length<=1000)(c:∀p(f:Well),ij p->f.Ok k->f.ns=w.ns->Q .next (dj E J L u one two R Z (vi t) (vi x) (vi B) (vi N) (vi P) (q<|.ref 3) (vi<|place+p.size) (vi i) r) {.list f.F,.bv,.list m,.list (l++[p.F])}):aS (Ph (am tab<|n+4) 1) (.var 17) nP (.int i) (dj E J L u one two R Z (vi t) (vi x) (vi B) (vi N) (vi P) (q<|.ref 3) (vi place) O r) {.list w.F,.bv,.list m,.list l} Q:=ig (a:=dj E J L u one two R Z (vi t) (vi x) (vi B) (vi N) (vi P) (q<|.ref 3) (vi place) (vi i) r) C<|bq (s:=nP.getD 0 .brk) (r:=nP.drop 1) C<|U X_<|XK (n:=n+2) hw fj λp f Y eR dp=>aE (c:=aa<|l.length<aM) (by simp only[kt];exact q2)<|aF<|bq (s:=nP.getD 1 .brk) (r:=[]) C<|(Yb (c:=am tab<|n+4) (w:=f) (l:=l++[p.F])).mpr<|CA (f:=p.F) (by simp)<|XM (n:=n+3) Y<|aF<|c p f Y eR dp
theorem MD(CD:w.ns.length<=1000):∀(c:aj)(f:aj)(place:M)(w':Well)(ps:G Pc)(O:ar V)(Q:DK),(O=z\/∃i,O=vi i)->w'.Ok (k+c)->w'.ns=w.ns->ps.length+c<=100->(∀Y(w2:Well) O,(O=z\/∃i,O=vi i)->(∀p∈Y,ij p)->Y.length=c->w2.Ok k->w2.ns=w.ns->Q .next (dj E J L u one two R Z (vi t) (vi x) (vi B) (vi N) (vi P) (q<|.ref 3) (vi<|place+uC Y) O r) {.list w2.F,.bv,.list m,.list ((ps++Y).map Pc.F)})->bj (aS (Ph (am tab<|n+4) 1) (.var 17) nP) (j0 f c) (dj E J L u one two R Z (vi t) (vi x) (vi B) (vi N) (vi P) (q<|.ref 3) (vi place) O r) {.list w'.F,.bv,.list m,.list (ps.map Pc.F)} Q
 |0,f,place,w',ps,O,Q,hx,hw,dp,hl,l=>by calc dL;have:=l [] w' O hx (λ_ h=>by cases h) C hw dp;rw[bK,show place+uC []=place by simp[uC]]at this;exact this
 |c+1,f,place,w',ps,O,Q,hx,hw,dp,hl,l=>by
  refine cz<|Yd (k:=k+c) (l:=ps.map Pc.F) hw (U dp CD) (U (bx ..)<|q1<|tX ‹_›) λp w2 hp uB sM=>b6 ?_;have:=MD CD c (f+1) (place+p.size) w2 (ps++[p]) (vi (f:M)) Q (.inr ⟨_,C⟩) uB (sM.trans dp) (by simp;lia) λY w3 O hx h1 h2 h3 h4=>by have:=l (p::Y) w3 O hx (λy hy=>(i6.mp hy).elim (λe=>e▸hp)<|h1 y) (by simp[h2]) h3 h4;rw[show place+uC (p::Y)=place+p.size+uC Y by simp only[uC];lia]at this;exact U (cZ ..) this
  rw[fx]at this;exact this
end
section
variable{c:AM}{u B E p one two t L J Z place:M}{w:Well}{Q:DK}{N O nm pl:F}{m l:G F}{r x aI aY aC aU R P:ar V}
def Ye:WS (Ph c 1) (kD 2) (dj u B E p one two N O (vi t) (vi L) (vi 0) (vi J) (vi Z) (q<|.ref 3) (vi place) R P) {.list w.F,.bv,.list m,.list l} Q=bj (aS (Ph c 1) (.var 17) nP) (j0 0 0) (dj u B E p one two N O (vi t) (vi L) (vi 0) (vi J) (vi Z) (q<|.ref 3) (vi place) R P) {.list w.F,.bv,.list m,.list l} Q:=()
def Yg:WS (Ph c 1) (kD 2) (dj u B E p one two N O (vi t) (vi L) (vi 1) (vi J) (vi Z) (q<|.ref 3) (vi place) R P) {.list w.F,.bv,.list m,.list l} Q=bj (aS (Ph c 1) (.var 17) nP) (j0 0 1) (dj u B E p one two N O (vi t) (vi L) (vi 1) (vi J) (vi Z) (q<|.ref 3) (vi place) R P) {.list w.F,.bv,.list m,.list l} Q:=()
def Yh:WS (Ph c 1) (kD 2) (dj u B E p one two N O (vi t) (vi L) (vi 2) (vi J) (vi Z) (q<|.ref 3) (vi place) R P) {.list w.F,.bv,.list m,.list l} Q=bj (aS (Ph c 1) (.var 17) nP) (j0 0 2) (dj u B E p one two N O (vi t) (vi L) (vi 2) (vi J) (vi Z) (q<|.ref 3) (vi place) R P) {.list w.F,.bv,.list m,.list l} Q:=()
def Yi:WS (Ph c 1) (kD 2) (dj u B E p one two N O (vi t) (vi L) (vi 3) (vi J) (vi Z) (q<|.ref 3) (vi place) R P) {.list w.F,.bv,.list m,.list l} Q=bj (aS (Ph c 1) (.var 17) nP) (j0 0 3) (dj u B E p one two N O (vi t) (vi L) (vi 3) (vi J) (vi Z) (q<|.ref 3) (vi place) R P) {.list w.F,.bv,.list m,.list l} Q:=()
def Yj:WS (Ph c 1) (kD 3) (dj u B E p one two N O (vi t) r x aI aY aC aU R P) {.list w.F,.bv,.list m,.list l} Q=(match aa (0<u)with
  |D=>match p==2 with|D=>Q .next (dj u B E p one two N O (vi t) r x aI aY aC aU R<|vf<|.str "alpha") {.list w.F,.bv,.list m,.list l}|j=>c 331 [] [] (aZ [] [.list w.F,.bv,.list m,.list l] λf fl=>cW f λv=>jY v (.fz<|.int t) fl λY=>Q .next (dj u B E p one two N O (vi t) r x aI aY aC aU R<|vf Y) ⟨fl,[]⟩)
  |j=>c 331 [] [] (aZ [] [.list w.F,.bv,.list m,.list l] λf fl=>cW f λv=>jY v (.fz<|.int t) fl λY=>Q .next (dj u B E p one two N O (vi t) r x aI aY aC aU R<|vf Y) ⟨fl,[]⟩)):=()
def Yk:am tab (n+1) 331 [] Y f=f (.ret<|.fz<|.af [.str "delta",.str "sigma"]) ⟨Y,[]⟩:=()
def Yl:WS (Ph c 1) (kD 5) (dj u B E p one two N O (vi t) r x (vi J) (vi Z) (vf pl) aU R<|vf nm) {.list w.F,.bv,.list m} Q=(match aa (0<u)with
  |D=>match J==0 with|D=>eH [.int 3,.int 8] t λf=>gd (m.length<aM)<|Q .next (dj u B E p one two N O (vi t) r x (vi J) (vi Z) (vf pl) aU R<|vf nm) {.list w.F,.bv,.list (m++[.ai [nm,f,pl]])}|j=>gd (m.length<aM)<|Q .next (dj u B E p one two N O (vi t) r x (vi J) (vi Z) (vf pl) aU R<|vf nm) {.list w.F,.bv,.list (m++[.ai [nm,.int Z,pl]])}
  |j=>gd (m.length<aM)<|Q .next (dj u B E p one two N O (vi t) r x (vi J) (vi Z) (vf pl) aU R<|vf nm) {.list w.F,.bv,.list (m++[.ai [nm,.int Z,pl]])}):=()
end
structure Th where
 name:ah
 bE:M
 ps:G Pc
def Th.F(t:Th):F:=.ai [.str t.name,.int t.bE,.af (t.ps.map Pc.F)]
structure nQ(t:Th):Prop where
 name:t.name∈(["alpha","delta","sigma"]:G ah)
 bE:t.bE=1\/t.bE=2\/t.bE=4\/t.bE=3\/t.bE=8
 ps:∀p∈t.ps,ij p
 len:t.ps.length<=3
section
variable{w:Well}
def Ym(O:p=vi 0\/∃i,p=vi i)(P:B=z\/∃i,B=vi i)(Q:R=vf (.str Z))(Y:t=t):Cv 1 (.ref 3) (dj E J L r one two hs fs (vi t) (vi u) (vi x) (vi N) (vi bE) z p B R) {.list w.F,.bv,.list m,.list l}=q (.af l,{.list w.F,.bv,.list m}):=by subst Q;obtain⟨i,rfl⟩:∃i,p=vi i:=O.elim (λe=>⟨0,e⟩) id;rcases P with rfl|⟨f,rfl⟩<;>rfl
end
section
variable{n:aj}{l u B c one two t:M}{w:Well}{Q:DK}{E J:F}{m:G F}{N O P R Z p L:ar V}
def Yq{power count bend bE:M}{ps:G Pc}{pl:M}{aB:ar V}(ht:t=0\/t=1)(hx:aB=z\/∃i,aB=vi i)(hm:m.length<=1000)(w7:bE=1\/bE=2\/bE=4)(hp:∀f∈ps,ij f)(hlen:ps.length<=3)(Y:∀(th:Th) N O P R Z p aB L,nQ th->(aB=z\/∃i,aB=vi i)->Q .next (dj l u B c one two E J (vi t) N O P R Z p aB L) {.list w.F,.bv,.list (m++[th.F])}):ao (Ph (am tab<|n+4) 1) (pJ 3) (dj l u B c one two E J (vi t) (vi power) (vi count) (vi bend) (vi bE) (q<|.ref 3) (vi pl) aB L) {.list w.F,.bv,.list m,.list (ps.map Pc.F)} Q:=by
 have CE:aa (m.length<aM)=D:=by simp only[kt];exact q2
 have ME:bE=1\/bE=2\/bE=4\/bE=3\/bE=8:=by lia
 have go:∀nm:ah,nm∈(["alpha","delta","sigma"]:G ah)->
   ao (Ph (am tab<|n+4) 1) (pJ 4) (dj l u B c one two E J (vi t) (vi power) (vi count) (vi bend) (vi bE) (q<|.ref 3) (vi pl) aB<|vf<|.str nm) {.list w.F,.bv,.list m,.list (ps.map Pc.F)} Q:=by
  intro nm oO
  refine bq (s:=kD 4) (r:=pJ 5) C ?_
  refine U Yc<|U (Ym (.inr ⟨_,C⟩) hx C rfl) ?_
  refine aF ?_
  refine bq (s:=kD 5) (r:=pJ 6) C ?_
  refine U Yl ?_
  refine bc (aa<|0<l) ?_ ?_
  ·
   refine bc (bend==0) ?_ ?_
   ·
    rcases ht with rfl|rfl
    ·exact fQ (gB _) (gB _) C<|aE CE<|aF<|Y ⟨nm,3,ps⟩ _ _ _ _ _ _ _ _ ⟨oO,.inr<|.inr<|.inr<|.inl C,hp,hlen⟩ hx
    ·exact fQ (gB _) (gB _) C<|aE CE<|aF<|Y ⟨nm,8,ps⟩ _ _ _ _ _ _ _ _ ⟨oO,.inr<|.inr<|.inr<|.inr C,hp,hlen⟩ hx
   ·exact aE CE<|aF<|Y ⟨nm,bE,ps⟩ _ _ _ _ _ _ _ _ ⟨oO,ME,hp,hlen⟩ hx
  ·exact aE CE<|aF<|Y ⟨nm,bE,ps⟩ _ _ _ _ _ _ _ _ ⟨oO,ME,hp,hlen⟩ hx
 calc bq (s:=kD 3) (r:=pJ 4) C;calc U Yj;have th:am tab (n+4) 331 [] [] (aZ [] [.list w.F,.bv,.list m,.list (ps.map Pc.F)] λr fl=>cW r λv=>jY v (.fz<|.int t) fl λx=>
   cf .next (dj l u B c one two E J (vi t) (vi power) (vi count) (vi bend) (vi bE) (q<|.ref 3) (vi pl) aB<|vf x) ⟨fl,[]⟩ (λρ z0=>ao (Ph (am tab<|n+4) 1) (pJ 4) ρ z0 Q) Q):=by
  refine U Yk ?_
  clear Y;rcases ht with rfl|rfl
  ·exact aF<|go "delta"<|.tail _<|.head _
  ·exact aF<|go "sigma"<|.tail _<|.tail _<|.head _
 refine bc (aa<|0<l) ?_ ?_;·
  refine bc (c==2) ?_ ?_;·exact aF<|go "alpha"<|.head _
  ·exact th
 ·exact th
end
section
variable{l one:M}{w:Well}
def Yr(ht:t=0\/t=1)(hx:L=z\/∃i,L=vi i)(hm:m.length<=1000)(hw:w.Ok (k+4))(fj:w.ns.length<=1000)(f:∀(Y:Th)(P:Well) aO aD aI aY aC aU L Z,nQ Y->(L=z\/∃i,L=vi i)->P.Ok k->P.ns=w.ns->Q .next (dj E J l B one two hs fs (vi t) aO aD aI aY aC aU L Z) {.list P.F,.bv,.list (m++[Y.F])}):aS (Ph (am tab<|n+4) 1) (.var 9) uE (.int t) (dj E J l B one two hs fs x9 aO aD aI aY aC aU L Z) {.list w.F,.bv,.list m} Q:=by
 refine ig (a:=dj E J l B one two hs fs (vi t) aO aD aI aY aC aU L Z) C<|bq (s:=kD 0) (r:=pJ 1) C<|U X8<|sH (n:=n+3) (k:=k+3) hw fj {} {} λds P gJ eR dp=>Drawn.all gJ λu a1 a2 x b1 b2 O c1 c2=>aF<|bq (s:=kD 1) (r:=pJ 2) C<|(X9 (c:=am tab<|n+4) (x:=u) (L:=x) (N:=O)).mpr ?_;refine aE (by have s1:small 1=D:={};refine U s1 ?_;simp;exact z7)<|aF ?_;have sL:∃R:M,(R=1\/R=2\/R=4)/\(1*2^u.toNat:M)=R:=by
  have:u=0\/u=1\/u=2:=by exact r3
  clear a1 a2;rcases this with rfl|rfl|rfl<;>exact⟨_,{},C⟩
 refine av sL λR sL zD=>U zD ?_;have N:∀(c:aj),c<=3->bj (aS (Ph (am tab<|n+4) 1) (.var 17) nP) (j0 0 c) (dj E J l B one two hs fs (vi t) (vi u) (vi x) (vi O) (vi R) (q<|.ref 3) (vi 0) L Z) {.list P.F,.bv,.list m,.list (([]:G Pc).map Pc.F)}
   λo ρ r=>cf o ρ r (λρ r=>ao (Ph (am tab<|n+4) 1) (pJ 3) ρ r Q) Q:=by
  intro c hc
  refine MD (k:=k) (U dp fj) c 0 0 P [] L _ hx (eR.mQ<|sk ‹_› _) C (by simp;exact q1) ?_
  intro ps w2 zK g1 g2 g3 g4 g5
  refine aF ?_
  refine Yq (ps:=ps) ht g1 hm sL g2 (by lia) ?_
  intro Y zO zP zH zI zJ CC zK Gy h1 h2
  exact f Y w2 zO zP zH zI zJ CC zK Gy h1 h2 g4<|g5.trans dp
 calc bq (s:=kD 2) (r:=pJ 3) C;have:x=0\/x=1\/x=2\/x=3:=by exact r4
 clear b1 b2;rcases this with rfl|rfl|rfl|rfl
 ·exact Ye.mpr<|N 0<|cD _
 ·exact Yg.mpr<|N 1<|yN ..
 ·exact Yh.mpr<|N 2<|yN ..
 ·exact Yi.mpr<|N 3<|bR _
end
section
variable{c:AM}{p Z l one two:M}{w:Well}{P:bL->Mem->Prop}{r t:F}{m:G F}{u x B E J L N O R:ar V}
def Ys:WS (Ph c 1) (iL 6) (dj Y p 0 l one two r t u x B E J L N O R) {.list w.F,.bv,.list m} f=bj (aS (Ph c 1) (.var 9) uE) (j0 0 0) (dj Y p 0 l one two r t u x B E J L N O R) {.list w.F,.bv,.list m} f:=()
def Yt:WS (Ph c 1) (iL 6) (dj Y p 1 l one two r t u x B E J L N O R) {.list w.F,.bv,.list m} f=bj (aS (Ph c 1) (.var 9) uE) (j0 0 1) (dj Y p 1 l one two r t u x B E J L N O R) {.list w.F,.bv,.list m} f:=()
def Yu:WS (Ph c 1) (iL 6) (dj Y p 2 l one two r t u x B E J L N O R) {.list w.F,.bv,.list m} f=bj (aS (Ph c 1) (.var 9) uE) (j0 0 2) (dj Y p 2 l one two r t u x B E J L N O R) {.list w.F,.bv,.list m} f:=()
end
def w8{u:Type}{step:F->Rho->Mem->(DK)->Prop}{g:u->F}(t:G u->Rho->Mem->Prop){all:G u}(dz:∀m a r,all=m++a::r->∀ρ c Q,t m ρ c->(∀ρ' p,t (m++[a]) ρ' p->Q .next ρ' p)->step (g a) ρ c Q)(h:t [] ρ c)(f:∀ρ' p,t all ρ' p->P .next ρ' p):bj step (all.map g) ρ c P:=by
 have:∀(l m:G u)(ρ:Rho)(c:Mem),all=m++l->t m ρ c->bj step (l.map g) ρ c P:=by intro l;induction l with|nil=>intro m ρ c e h;rw[bK]at e;subst e;exact f ρ c h|cons a l ih=>intro m ρ c e h;exact dz m a l e ρ c _ h λρ' p x=>ih (m++[a]) ρ' p (U e<|U (cZ ..) C) x
 exact this all [] ρ c rfl h
def sN{m:Type}{step:F->Mem->(ar F->Mem->Prop)->Prop}{g:m->F}(o:m->ar F):∀{l:G m}{P:G F->Mem->Prop},(∀a∈l,∀Q,Q (o a) c->step (g a) c Q)->P (l.filterMap o) c->gW step (l.map g) c P:=by
 intro p;induction p with
 |nil=>intro P _ f;exact f
 |cons a l ih=>
  intro P h f;exact Gx<|h a (.head _) _<|ih (λb r=>h b<|.tail _ r) (by
   refine gT (o a) (λe=>?_) λx e=>?_;·rw[ow e]at f;exact f
   ·rw[qF e]at f;exact f)
theorem Gz:∀n i,j0 i n=(Ll i n).map λk:aj=>F.int k|0,_=>rfl|n+1,i=>by refine U ard<|U uc<|U (Eq.symm<|Gz n ..) ?_;rfl
section
variable{w:Well}
noncomputable def uG(l:G ah):F:=.af (l.map .str)
abbrev qZ(c:AM)(l r t p one two:M)(x u:F)(B E J L N O Q R Y:ar V)(w:Well)(m:G F)(P:bL->Mem->Prop)(Z:G ah):Prop:=ao (Ph c 1) (jt 7) (dj l r t p one two x u B E J L N O Q R Y) {.list w.F,.bv,.list m} (runK P)=match aa (0<l)with|D=>P (.ret<|.fz<|.ai [u,.af m,uG Z]) {.list w.F,.bv,.bv}|j=>P (.ret<|.fz<|.ai [u,.af m,uG ["omega"]]) {.list w.F,.bv,.bv}
def Yv:qZ c f l p 0 one two r t u x B E J L N O Q w m P ["omega"]:=()
def Yw:qZ c f l p 1 one two r t u x B E J L N O Q w m P ["omega"]:=()
def Yx:qZ c f l p 2 one two r t u x B E J L N O Q w m P ["omega"]:=()
def Yy:qZ c f l p 3 one two r t u x B E J L N O Q w m P ["omega","omega"]:=()
def Yz:qZ c f l p 4 one two r t u x B E J L N O Q w m P ["alpha","omega","alpha"]:=()
def YA:qZ c f l p 5 one two r t u x B E J L N O Q w m P ["omega","delta"]:=()
def YB:qZ c f l p 6 one two r t u x B E J L N O Q w m P ["omega"]:=()
def YC:qZ c f l p 7 one two r t u x B E J L N O Q w m P ["omega"]:=()
def GA(l:G ah):Prop:=l∈([["omega"],["omega","omega"],["alpha","omega","alpha"],["omega","delta"]]:G (G ah))
def YD(E:0<=p/\p<8)(l:∀B,GA B->P (.ret<|.fz<|.ai [J,.af m,uG B]) {.list w.F,.bv,.bv}):ao (Ph c 1) (jt 7) (dj r t u p one two L J N O Q R Y Z aU aB a7) {.list w.F,.bv,.list m} (runK P):=by
 have x:∀{B},qZ c r t u p one two L J N O Q R Y Z aU aB a7 w m P B->GA B->ao (Ph c 1) (jt 7) (dj r t u p one two L J N O Q R Y Z aU aB a7) {.list w.F,.bv,.list m} (runK P):=λe h=>by
  calc U (show _=_ from e);cases aa (0<r);·exact l _<|.head _
  ·exact l _ h
 have:p=0\/p=1\/p=2\/p=3\/p=4\/p=5\/p=6\/p=7:=WA E.1 E.2;clear E;rcases this with rfl|rfl|rfl|rfl|rfl|rfl|rfl|rfl
 ·exact x Yv<|.head _
 ·exact x Yw<|.head _
 ·exact x Yx<|.head _
 ·exact x Yy<|.tail _<|.head _
 ·exact x Yz<|.tail _<|.tail _<|.head _
 ·exact x YA<|.tail _<|.tail _<|.tail _<|.head _
 ·exact x YB<|.head _
 ·exact x YC<|.head _
end
structure fD where
 us:G Fu
 cR:G Th
 d7:G ah
def fD.F(p:fD):F:=.ai [.af (p.us.map Fu.F),.af (p.cR.map Th.F),uG p.d7]
structure w9(p:fD):Prop where
 us:∃hds:G cu,(1<=hds.length/\hds.length<=3)/\(∀h∈hds,l7 h)/\qX hds hds p.us
 cR:∀t∈p.cR,nQ t
 tl:p.cR.length<=2
 d7:GA p.d7
def YE(k:P (l++[v])):Cs (l++[f]) (-1) v P:=by
 show gd (-(((l++[f]).length:aj):M)<=-1) (P<|(l++[f]).set (-1+(((l++[f]).length:aj):M)).toNat v);have e:(-1+(((l++[f]).length:aj):M)).toNat=l.length:=by refine U bO<|U sr ?_;lia
 exact U e<|aE (U bO<|U sr<|de (by lia))<|U (arf _ _<|bR _)<|U (yO ..) k
def YF{h:cu}:jY (.fz h.F) (.fz<|.int 2) c P=P (.bool h.hv):=()
section
variable{w:Well}
inductive MF(mode many data twice one two:M)(hF uF:F)(ns:G M)(k d:aj)(pre:G aj):Rho->Mem->Prop
 |mk (cR:G Th) (w:Well) (x9 aO aD aI aY aC aU aB a7:ar V):cR.length=pre.length->(∀t∈cR,nQ t)->(aB=z\/∃i,aB=vi i)->w.Ok (k+4*(d-pre.length))->w.ns=ns->MF mode many data twice one two hF uF ns k d pre (dj mode many data twice one two hF uF x9 aO aD aI aY aC aU aB a7) {.list w.F,.bv,.list (cR.map Th.F)}
def YG{B:G cu}(hh:1<=B.length/\B.length<=3)(fJ:∀h∈B,l7 h)(hd:0<=E/\E<3)(ht:0<=u/\u<8)(hm:x=0\/x=1\/x=2)(hl:B.length=x.toNat+1)(hw:w.Ok (k+50))(fj:w.ns.length<=1000)(m:∀p(O:Well),w9 p->P (.ret<|.fz p.F) {.list O.F,.bv,.bv}):ao (Ph (am tab<|n+4) 1) (jt 4) (ee J x E u one two (q<|.ref 1) (q<|.ref 2) Z z z z z z z z z z z) #v[w.F,B.map cu.F,[]] (runK P):=by
 refine bq (s:=iL 4) (r:=jt 5) C<|U XY<|aF<|bq (s:=iL 5) (r:=jt 6) C ?_;have CF:∀(Y:G Fu)(O:Well),qX B B Y->O.Ok (k+8)->O.ns=w.ns->ao (Ph (am tab<|n+4) 1) (jt 6) (dj J x E u one two (.af<|B.map cu.F) (.af<|Y.map Fu.F) Z z z z z z z z z) {.list O.F,.bv,.list []} (runK P):=by
  intro Y O qY eR dp;have key:∀d:aj,d<=2->bj (aS (Ph (am tab<|n+4) 1) (.var 9) uE) (j0 0 d) (dj J x E u one two (.af<|B.map cu.F) (.af<|Y.map Fu.F) Z z z z z z z z z) {.list O.F,.bv,.list []}
    λo ρ t=>cf o ρ t (λρ t=>ao (Ph (am tab<|n+4) 1) (jt 7) ρ t<|runK P) (runK P):=by
   intro d hd
   refine U (Gz ..) ?_
   refine w8 (MF J x E u one two (.af<|B.map cu.F) (.af<|Y.map Fu.F) w.ns k d) (λL a r e ρ t Q hi hq=>?_) (.mk [] O Z z z z z z z z z rfl (λ_ h=>absurd h gk) (.inl C) (eR.mQ<|sk (Lm 4 hd) k) dp) λρ t hi=>?_
   ·cases hi with
    |mk cR w2 Z aO aD aI aY aC aU aB a7 h1 h2 h3 h4 h5=>
     have N:d=L.length+(r.length+1):=by have:=az mC e;rw[Ln,bO,eX]at this;exact this
     have YH:d-L.length=r.length+1:=by rw[N,Lo]
     have YI:d-(L.length+1)=r.length:=by rw[N,<-B1,yL,Lo]
     have YJ:L.length<=2:=aG (N▸mB _ _) hd
     have ha:a=0\/a=1:=by
      have:a∈Ll 0 d:=by calc U e;exact ud _<|.head _
      rw[arh]at this;lia
     refine Yr (k:=k+4*(d-(L.length+1))) (ha.elim (λe=>.inl (U e C)) λe=>.inr (U e C)) h3 (U (bx ..)<|aG (cY h1)<|aG YJ {}) (h4.mQ (by rw[YH,YI];exact bR _)) (U h5 fj) ?_
     intro th w3 zO zP zH zI zJ CC zK Gy g1 g2 g3 g4
     exact hq _ _ (fx (f:=Th.F) (l₁:=cR) (l₂:=[th])▸ .mk (cR++[th]) w3 _ zO zP zH zI zJ CC zK Gy (U bO<|U bO<|U h1 C)
      (Lp.mpr ⟨h2,qG.mpr g1⟩) g2 (U bO g3) (g4.trans h5))
   ·cases hi with
    |mk cR w2 Z aO aD aI aY aC aU aB a7 h1 h2 h3 h4 h5=>
     refine aF<|YD ht λex YK=>?_
     rw[Ln]at h1
     exact m ⟨Y,cR,ex⟩ w2 ⟨(cN B hh fJ qY),h2,aG (cY h1) hd,YK⟩
  calc bq (s:=iL 6) (r:=jt 7) C;rcases sG hd.1 hd.2 with rfl|rfl|rfl
  ·exact Ys.mpr<|key 0 {}
  ·exact Yt.mpr<|key 1 {}
  ·exact Yu.mpr<|key 2 {}
 have R:=X7 (n:=n) (k:=k+8) (R:=J) (Y:=x) (Z:=E) (L:=u) (one:=one) (two:=two) (m:=[]) (x9:=Z) hh fJ B [] w (λl t=>gI j l t λv t=>
   ez (Ph (am tab<|n+4) 1) (.v<|.var 10) v (ee J x E u one two (vf<|.af<|B.map cu.F) (q<|.ref 2) Z z z z z z z z z z z) t λρ t=>cf .next ρ t (λρ t=>ao (Ph (am tab<|n+4) 1) (jt 6) ρ t<|runK P)<|runK P) C (hw.mQ (by lia)) fj (by
  intro Y O qY eR dp
  refine aE (cy ?_)<|aF<|CF Y O qY eR dp
  have:∀{a b:G cu}{c},qX a b c->c.length=b.length:=λh=>by induction h with|nil=>rfl|cons _ _ ih=>exact az (· +1) ih
  refine U (bx ..)<|U (this qY) ?_;exact FP)
 rw[hl]at R;clear hl CF;rcases hm with rfl|rfl|rfl
 ·exact X2.mpr R
 ·exact X3.mpr R
 ·exact X4.mpr R
def YL(hw:w.Ok 100)(fj:w.ns.length<=1000)(c:∀p(Y:Well),w9 p->P (.ret (.fz p.F)) {.list Y.F,.bv,.bv}):am tab (n+5) 406 [.ref 0] [.list w.F] P:=by
 refine U XN<|bq (s:=iL 0) (r:=jt 1) C<|U XO<|sH (n:=n+3) (k:=99) hw fj {} {} λds Y gJ eR dp=>Drawn.all gJ λJ a1 a2 E b1 b2 L c1 c2 B d1 d2 one e1 e2 two f1 f2=>aF ?_;show ao (Ph (am tab (n+4)) 1) (jt 1) (ee J E L B one two z z z z z z z z z z z z z) #v[Y.F] (runK P);refine bq (s:=iL 1) (r:=jt 2) C<|U XQ<|aF ?_;have zN:Y.ns.length<=1000:=by calc U dp;exact fj
 have hm:=sG b1 b2;have rest:∀(u:G cu) O,(1<=u.length/\u.length<=3)->(∀h∈u,l7 h)->u.length=E.toNat+1->
   ao (Ph (am tab (n+4)) 1) (jt 4) (ee J E L B one two (q (.ref 1)) (q (.ref 2)) O z z z z z z z z z z) #v[Y.F,u.map cu.F,[]] (runK P):=
  λu O h1 h2 h3=>YG (k:=49) h1 h2 ⟨c1,c2⟩ ⟨d1,d2⟩ hm h3 eR zN c
 have s3:∀(u:G cu) O,u.length=E.toNat+1->(∀h∈u,l7 h)->
   ao (Ph (am tab (n+4)) 1) (jt 3) (ee J E L B one two (q (.ref 1)) (q (.ref 2)) O z z z z z z z z z z) #v[Y.F,u.map cu.F,[]] (runK P):=by
  intro u O hl fJ
  have q7:1<=u.length/\u.length<=3:=by calc U hl;clear b1 b2;rcases hm with rfl|rfl|rfl<;>decide
  have Z:=aF (rest u O q7 fJ hl)
  refine bq (s:=iL 3) (r:=jt 4) C ?_
  refine U XX ?_
  refine bc (aa (0<J)) ?_ ?_
  ·
   refine bc (B==1) ?_ ?_
   ·
    obtain⟨zR,h,rfl⟩:∃zR h,u=zR++[h]:=(qN u.dropLast (u.getLast (by intro e;rw[e]at q7;exact absurd q7.1 {})) ((T7 _).symm))
    have hok:=fJ h (ud _ (.head _))
    have el:((zR++[h]).map cu.F)=zR.map cu.F++[h.F]:=by calc U fx;rfl
    refine U el ?_
    refine CA (f:=h.F) ari ?_
    refine CA (f:=h.F) ari ?_
    refine U YF ?_
    refine YE ?_
    refine aF ?_
    have:=rest (zR++[⟨"alpha",h.np,h.hv⟩]) O (by rw[bO]at q7⊢;exact q7) (by
     intro x N;rcases i7.mp N with N|N
     ·exact fJ x (Fk _ N)
     ·cases N with|head=>exact⟨hok.np,.head _⟩|tail _ N=>cases N) (by rw[bO]at hl⊢;exact hl)
    rw[fx]at this
    exact this
   ·exact Z
  ·exact Z
 have R:∀m:aj,m<=3->m=E.toNat+1->bj (aS (Ph (am tab (n+4)) 1) (.var 9) uD) (j0 0 m) (ee J E L B one two (q (.ref 1)) (q (.ref 2)) z z z z z z z z z z z) #v[Y.F,[],[]]
    λo ρ t=>cf o ρ t (λρ t=>ao (Ph (am tab (n+4)) 1) (jt 3) ρ t (runK P)) (runK P):=by
  intro m MG YM
  refine U (Gz ..) ?_
  refine w8 (λpre ρ t=>∃(u:G cu)(O:ar V),u.length=pre.length/\(∀h∈u,l7 h)/\ρ=ee J E L B one two (q (.ref 1)) (q (.ref 2)) O z z z z z z z z z z/\t=#v[Y.F,u.map cu.F,[]])
   (λpre a r e ρ t Q hi hq=>?_) (jE [] z rfl (λ_ h=>absurd h gk) C rfl) λρ t hi=>?_
  ·refine mJ hi λu O h1 h2 cg ju=>?_;subst cg;subst ju
   have hlen:m=pre.length+(r.length+1):=by have:=az mC e;rw[Ln,bO,eX]at this;exact this
   have ha:a<m:=by
    have:a∈Ll 0 m:=by calc U e;exact ud _ (.head _)
    rw[arh]at this;lia
   refine XT (n:=n+3) ⟨gB a,by lia⟩ (U (bx ..) (by lia)) e1 λh hok _=>?_
   refine hq _ _ (jE (u++[h]) _ (U bO (U bO (U h1 C))) ?_ rfl (U fx C))
   intro x N;rcases i7.mp N with N|N
   ·exact h2 x N
   ·cases N with|head=>exact hok|tail _ N=>cases N
  ·refine mJ hi λu O h1 h2 cg ju=>?_;clear hi;subst cg;subst ju
   rw[Ln]at h1
   exact aF (s3 u O (h1.trans YM) h2)
 calc bq (s:=iL 2) (r:=jt 3) C;clear b1 b2 rest s3;rcases hm with rfl|rfl|rfl
 ·have:=R 1 {} {};rw[show j0 0 1=[.int 0]from C]at this;exact XU.mpr this
 ·have:=R 2 {} {};rw[show j0 0 2=[.int 0,.int 1]from C]at this;exact XV.mpr this
 ·have:=R 3 {} {};rw[show j0 0 3=[.int 0,.int 1,.int 2]from C]at this;exact XW.mpr this
end
set_option genCtorIdx false in
inductive Kd where
 |slot(wh:M)|ff|l8(s:M)|kE(s k:M)|add(s k:M)|sub(s k:M)|load(r w:M)(v:ak)|l9(r w:M)|ma(r w:M)|mc(r w:M)
 |call(k:M)(n:aj)(nm:ah)|name(nm:ah)(k:M)
noncomputable abbrev b0(r:M):F:=.ai [.str "r",.int r]
noncomputable def Kd.op:Kd->ah| .slot _=>"slot"| .ff=>"const"| .l8 _=>"copy"| .kE .. =>"add"| .add .. =>"add"| .sub .. =>"sub"| .load .. =>"load"| .l9 .. =>"store"| .ma .. =>"move"| .mc .. =>"move"| .call .. =>"call"| .name .. =>"name"
noncomputable def Kd.args:Kd->G F| .slot _=>[]| .ff=>[bU 7]| .l8 s=>[b0 s]| .kE s k=>[bU k,b0 s]| .add s k=>[b0 s,bU k]| .sub s k=>[b0 s,bU k]| .load r _ _=>[b0 r]| .l9 r _=>[b0 r,bU 9]| .ma r _=>[b0 r,bU 64]| .mc r _=>[bU 64,b0 r]| .call k n _=>bN n (bU k)| .name .. =>[]
noncomputable def Kd.more:Kd->F| .slot f=>.int f| .load _ w v=>.ai [.int w,.bool v]| .l9 _ w=>.int w| .ma _ w=>.ai [.int w,.int 1]| .mc _ w=>.ai [.int w,.int 1]| .call _ _ c=>.str c| .name c k=>.ai [.str c,.int k]|_=>.int 0
structure Sp where
 d:M
 k:Kd
noncomputable def pK(op:ah)(d:M)(args:G F)(c:F):F:=.ai [.str op,.int d,.af args,c]
noncomputable def cj(op:ah)(d:M)(args:G F)(c:F):F:=.hV 54 [("op",.str op),("dst",.int d),("args",.af args),("more",c),("is_volatile",.bool j),("line",.int 0)]
noncomputable def Sp.F(s:Sp):F:=pK s.k.op s.d s.k.args s.k.more
noncomputable def Sp.I(s:Sp):Mine.F:=cj s.k.op s.d s.k.args s.k.more
noncomputable abbrev jd(k:M):M:=qD k 4294967295
noncomputable def ck(s k t:M):Kd:=match k==0&&t==3 with|D=>.l8 s|j=>match t==1 with|D=>.kE s (jd k)|j=>match t==2 with|D=>.sub s (jd<|-k)|j=>.add s (jd k)
@[elab_as_elim] theorem MH{P:Kd->Prop}(c:P (.l8 s))(f:P (.kE s<|jd k))(p3:P (.sub s<|jd<|-k))(l:P (.add s<|jd k)):P (ck s k t):=by delta ck;cases k==0&&t==3 with|true=>exact c|false=>cases t==1 with|true=>exact f|false=>cases t==2 with|true=>exact p3|false=>exact l
def MI(d s k t:M):sI d s k t=(Sp.mk d<|ck s k t).F:=by
 delta sI ck;cases k==0&&t==3 with
 |true=>rfl
 |false=>
      refine bc (t==1) ?_ ?_;·rfl
      ·cases t==2<;>rfl
noncomputable def dW(a:d6)(f:M):Sp:=match aa (a.bf<2)with|D=>⟨f+3,.load (f+2) a.dc<|a.bf==1⟩|j=>match aa (a.bf<4)with|D=>⟨-1,.l9 (f+2) a.dc⟩|j=>match a.bf==4 with|D=>⟨-1,.ma (f+2) a.dc⟩|j=>⟨-1,.mc (f+2) a.dc⟩
def YN(a:d6)(f:M):a.sJ f=(dW a f).F:=by
 delta d6.sJ dW;cases aa (a.bf<2)with
 |true=>rfl
 |false=>
      refine bc (aa<|a.bf<4) ?_ ?_;·rfl
      ·cases a.bf==4<;>rfl
@[elab_as_elim] theorem GB{P:Sp->Prop}(c:P ⟨f+3,.load (f+2) a.dc<|a.bf==1⟩)(l:P ⟨-1,.l9 (f+2) a.dc⟩)(p3:P ⟨-1,.ma (f+2) a.dc⟩)(m:P ⟨-1,.mc (f+2) a.dc⟩):P (dW a f):=by delta dW;cases aa (a.bf<2)with|true=>exact c|false=>cases aa (a.bf<4)with|true=>exact l|false=>cases a.bf==4 with|true=>exact p3|false=>exact m
noncomputable def im(a:d6)(f:M):G Sp:=match a.again with|D=>[⟨f+1,.ff⟩]|j=>[]
noncomputable def d6.bo(a:d6)(f:M):G Sp:=[⟨f,.slot a.aK⟩,⟨f+1,ck f a.br a.first⟩,⟨f+2,ck (f+1) (a.place-a.br) a.ci⟩]++im a f++[dW a f]
def GC{P:Sp->Prop}(c:P ⟨f,.slot a.aK⟩)(l:P ⟨f+1,ck f a.br a.first⟩)(m:P ⟨f+2,ck (f+1) (a.place-a.br) a.ci⟩)(p3:P ⟨f+1,.ff⟩)(p:P (dW a f)):∀s∈a.bo f,P s:=
 have h:∀s∈im a f,P s:=by delta im;exact bc a.again (qG.mpr p3) λ_ h=>absurd h gk
 Lp.mpr ⟨Lp.mpr ⟨wk.mpr ⟨c,wk.mpr ⟨l,qG.mpr m⟩⟩,h⟩,qG.mpr p⟩
def d6.CG(a:d6)(f:M):a.F f=(a.bo f).map Sp.F:=by delta d6.F d6.bo d6.mid im;refine U (MI ..)<|U (MI ..)<|U (YN ..) ?_;cases a.again<;>rfl
noncomputable def Gr.bo(f:M):Gr->G Sp| .acc a=>a.bo f| .call c=>[⟨c.fR,.call c.k c.n c.name⟩]| .name l k=>[⟨f+3,.name l k⟩]
def Gr.CG(f:M)(g:Gr):g.F f=(g.bo f).map Sp.F:=by cases g with|acc a=>exact a.CG f|call c=>rfl|name l k=>rfl
noncomputable def bQ:M->G Gr->G Sp|_,[]=>[]|f,g::r=>g.bo f++bQ (f+4) r
def YO:∀(c:G Gr)(f:M),pH f c=(bQ f c).map Sp.F:=by intro l;induction l with|nil=>exact λ_=>C|cons g r ih=>intro f;show g.F f++pH (f+4) r=(g.bo f++bQ (f+4) r).map Sp.F;exact U fx<|U (g.CG ..)<|U (ih ..) C
structure Bk where
 bo:G Sp
 en:En
noncomputable def Bk.F(b:Bk):F:=.ai [.af (b.bo.map Sp.F),b.en.F]
noncomputable def oR:M->G Bl->G Bk|_,[]=>[]|f,b::r=>⟨bQ f b.gs,b.en⟩::oR (f+4*b.gs.length) r
noncomputable def Fu.w_(u:Fu):G Bk:=oR u.np u.bs
def YQ:∀(c:G Bl)(f:M),zL f c=(oR f c).map Bk.F:=by intro l;induction l with|nil=>exact λ_=>C|cons b r ih=>intro f;show F.ai [.af (pH f b.gs),b.en.F]::zL (f+4*b.gs.length) r=Bk.F ⟨bQ f b.gs,b.en⟩::(oR (f+4*b.gs.length) r).map Bk.F;exact U (ih ..)<|U (YO ..) C
noncomputable abbrev Fu.uH(u:Fu):M:=zM u.np u.bs
def Fu.eq(u:Fu):u.F= .ai [.str u.name,.int u.np,.bool u.hv,bT u.s1 u.s2,.af (u.w_.map Bk.F),.int u.uH]:=by delta Fu.F;calc U (YQ ..);rfl
noncomputable def En.op:En->ah| .ce _=>"give"| .jH=>"jump"| .branch _=>"branch"| .table .. =>"table"
noncomputable def En.args:En->G Mine.F
 | .ce c=>match c with|D=>[bU 3]|j=>[]
 | .jH=>[]|_=>[bU 1]
noncomputable def En.more:En->Mine.F| .ce _=>.int 0| .jH=>.int 1| .branch g=>.ai [.int g,.int 1]| .table low f g l=>.ai [.int low,.af (bN f<|.int g),.int l]
def En.eq(e:En):e.F=pK e.op (-1) e.args e.more:=by cases e<;>rfl
noncomputable def En.I(e:En):Mine.F:=cj e.op (-1) e.args e.more
noncomputable def ch(t:M)(b:Bk):F:=.hV 75 [("number",.int t),("steps",.af<|b.bo.map Sp.I),("end",b.en.I)]
noncomputable def uJ(i:aj):G Bk->G F|[]=>[]|b::r=>ch i b::uJ (i+1) r
noncomputable def ba(c:ah)(f:M)(l:ak)(m:F)(p:G F)(r:M):F:=.hV 96 [("name",.str c),("params",.af<|fh f),("is_static",.bool j),("slots",m),("blocks",.af p),("registers",.int r),("has_value",.bool l)]
noncomputable def Fu.I(u:Fu):Mine.F:=ba u.name u.np u.hv (bT u.s1 u.s2) (uJ 0 u.w_) u.uH
noncomputable def Th.I(t:Th):Mine.F:=.hV 117 [("name",.str t.name),("align",.int t.bE),("is_static",.bool j),("pieces",.af<|t.ps.map Pc.F)]
noncomputable def fD.I(p:fD):Mine.F:=.hV 138 [("funcs",.af<|p.us.map Fu.I),("data",.af<|p.cR.map Th.I),("externs",uG p.d7)]
noncomputable abbrev CH(k:aj):G S:=Gf.body.drop k
noncomputable abbrev xc(k:aj):S:=Gf.body.getD k .brk
noncomputable def xd:G S:=dQ<|xc 2
noncomputable abbrev GD(k:aj):S:=xd.getD k .brk
noncomputable abbrev GE(k:aj):G S:=xd.drop k
noncomputable def xe:G S:=dQ<|GD 3
noncomputable abbrev zS(k:aj):S:=xe.getD k .brk
noncomputable def MJ:S->X| .a9 _ (.eG _ _ e _ _ _ _ _)=>e|_=>.lit .none
noncomputable abbrev fK(c f l m:F)(p r t u x B E J L N O:ar V):Rho:=[vf c,vf f,vf l,vf m,q (.dJ 0),p,r,t,u,x,B,E,J,L,N,O]
noncomputable abbrev iM(v:V):ar (aw×G (ah×V)):=q (138,[("funcs",.ref 0),("data",v),("externs",.fz<|.af [])])
noncomputable abbrev q9(a b c d e:F):ar (aw×G (ah×V)):=q (96,[("name",.fz a),("params",.fz b),("is_static",.fz<|.bool j),("slots",.fz c),("blocks",.ref 1),("registers",.fz d),("has_value",.fz e)])
section
def YR:am tab (n+1) 418 [.fz (.ai [c,f,l])] [] P=ao (Ph (am tab n) 0) (CH 2) (fK (.ai [c,f,l]) c f l z z z z z z z z z z z) ⟨[.list []],[iM (.fz<|.af [])]⟩ (runK P):=()
def YS:WS (Ph c 0) (xc 2) (fK f (.af l) m p r t u x B E J L N O P) ⟨[.list []],[iM (.fz<|.af [])]⟩ Q=bj (aS (Ph c 0) (.ai [.var 5,.var 6,.var 7,.var 8,.var 9,.var 10]) xd) l (fK f (.af l) m p r t u x B E J L N O P) ⟨[.list []],[iM (.fz<|.af [])]⟩ Q:=()
def YT:ao (Ph c 0) xd (fK u x B E (vf m) (vi f) (vf p) (vf r) (vf J) (vf t) R L N O P) ⟨[.list l],[iM (.fz<|.af [])]⟩ Q=gd (-1000000<=f&&f<=1000000) (ao (Ph c 0) (GE 3) (fK u x B E (vf m) (vi f) (vf p) (vf r) (vf J) (vf t) (q<|.dJ 1) L N O P) ⟨[.list l,.list []],[iM (.fz<|.af []),q9 m (.af<|fh f) r t p]⟩ Q):=()
def YU:WS (Ph c 0) (GD 3) (fK u x B E (vf f) (vf J) (vf p) (vf r) (vf<|.af m) (vf t) (q<|.dJ 1) L N O P) ⟨[.list l,.list []],[iM (.fz<|.af []),q9 f R r t p]⟩ Q=bj (aS (Ph c 0) (.ai [.var 12,.ai [.var 13,.var 14]]) xe) (numbered 0 m) (fK u x B E (vf f) (vf J) (vf p) (vf r) (vf<|.af m) (vf t) (q<|.dJ 1) L N O P) ⟨[.list l,.list []],[iM (.fz<|.af []),q9 f R r t p]⟩ Q:=()
noncomputable def MK:X:=MJ<|zS 1
noncomputable abbrev CI(l l2:G F)(f m p r u:F)(x:F)(t:F):Mem:=⟨[.list l,.list l2],[iM (.fz<|.af []),q9 f m r u p,q (75,[("number",.fz t),("steps",.fz x),("end",.fz .none)])]⟩
def YV:WS (Ph c 0) (zS 0) (fK u x B E (vf f) (vf J) (vf m) (vf p) (vf L) (vf r) (q<|.dJ 1) (vi t) (vf N) (vf O) R) ⟨[.list l,.list l2],[iM (.fz<|.af []),q9 f P p r m]⟩ Q=Q .next (fK u x B E (vf f) (vf J) (vf m) (vf p) (vf L) (vf r) (q<|.dJ 1) (vi t) (vf N) (vf O)<|q<|.dJ 2) (CI l l2 f P m p r (.af [])<|.int t):=()
def YW:WS (Ph c 0) (zS 1) (fK B E J L (vf p) (vf N) (vf r) (vf u) (vf O) (vf x) (q<|.dJ 1) (vi t) (vf<|.af m) (vf P)<|q<|.dJ 2) (CI l l2 p R r u x (.af [])<|.int t) Q=fP (cT (Ph c 0) 4 (.ai [.var 0,.var 1,.var 2,.var 3]) MK [] (fK B E J L (vf p) (vf N) (vf r) (vf u) (vf O) (vf x) (q<|.dJ 1) (vi t) (vf<|.af m) (vf P)<|q<|.dJ 2)) m (CI l l2 p R r u x (.af [])<|.int t) λl f=>gI j l f λv f=>ez (Ph c 0) (.aR (.var 15) "steps") v (fK B E J L (vf p) (vf N) (vf r) (vf u) (vf O) (vf x) (q<|.dJ 1) (vi t) (vf<|.af m) (vf P)<|q<|.dJ 2) f λρ f=>Q .next ρ f:=()
def YX:cT (Ph c 0) 4 (.ai [.var 0,.var 1,.var 2,.var 3]) MK [] ρ (pK op d args l) f P=P (q<|cj op d args l) f:=()
def YY:ao (Ph c 0) (xe.drop 2) (fK B E J L (vf p) (vf N) (vf r) (vf u) (vf O) (vf x) (q<|.dJ 1) (vi t) (vf P) (vf<|pK op d args f)<|q<|.dJ 2) (CI l l2 p R r u x (.af m)<|.int t) Q=
  gd (l2.length<aM) (Q .next (fK B E J L (vf p) (vf N) (vf r) (vf u) (vf O) (vf x) (q<|.dJ 1) (vi t) (vf P) (vf<|pK op d args f)<|vf<|.hV 75 [("number",.int t),("steps",.af m),("end",cj op d args f)])
   ⟨[.list l,.list (l2++[.hV 75 [("number",.int t),("steps",.af m),("end",cj op d args f)]])],[iM (.fz<|.af []),q9 p R u x r]⟩):=()
def ML:ao (Ph c 0) (GE 4) (fK x B E J (vf<|.str f) (vi p) (vb r) (vf t) (vf L) (vi u) (q<|.dJ 1) (vf N) (vf O) (vf P)<|vf R) ⟨[.list l,.list m],[iM (.fz<|.af []),q9 (.str f) (.af<|fh p) t (.int u) (.bool r)]⟩ Q=gd (l.length<aM) (Q .next (fK x B E J (vf<|.str f) (vi p) (vb r) (vf t) (vf L) (vi u) (vf<|ba f p r t m u) (vf N) (vf O) (vf P)<|vf R) ⟨[.list (l++[ba f p r t m u])],[iM (.fz<|.af [])]⟩):=()
noncomputable def MN:X:=MJ<|xc 3
def Y1:WS (Ph c 0) (xc 3) (fK p r (.af m) t u x B E J L N O P R Y) ⟨[.list l],[iM (.fz<|.af [])]⟩ Q=fP (cT (Ph c 0) 3 (.ai [.var 0,.var 1,.var 2]) MN [] (fK p r (.af m) t u x B E J L N O P R Y)) m ⟨[.list l],[iM (.fz<|.af [])]⟩ λl f=>gI j l f λv f=>ez (Ph c 0) (.aR (.var 4) "data") v (fK p r (.af m) t u x B E J L N O P R Y) f λρ f=>Q .next ρ f:=()
def Y2{a:Th}:cT (Ph c 0) 3 (.ai [.var 0,.var 1,.var 2]) MN [] ρ a.F f P=P (q a.I) f:=()
def Y3:ao (Ph c 0) (CH 4) (fK t u x (.af m) B E J L N O P Q R Y Z) ⟨[.list l],[iM (.fz p)]⟩ (runK<|aZ [] r f)=gd (m.length<=aM) (f (.ret<|.fz<|.hV 138 [("funcs",.af l),("data",p),("externs",.af m)]) r):=()
end
def Y4{c f:Type}(h:c->f):∀l:G c,l.filterMap (λa=>q<|h a)=l.map h:=by intro m;induction m with|nil=>exact C|cons a l ih=>exact U (qF (f:=λa=>q<|h a) C)<|U (ih) C
def lq{m:Type}{step:F->Mem->(ar F->Mem->Prop)->Prop}{g h:m->F}{l:G m}(e:∀a∈l,∀Q,Q (q<|h a) c->step (g a) c Q)(f:P (l.map h) c):gW step (l.map g) c P:=sN (λa=>q<|h a) e (U (Y4 ..) f)
structure oU(u:Fu):Prop where
 np:0<=u.np/\u.np<3
 name:u.name∈(["alpha","beta","gamma"]:G ah)
 s1:1<=u.s1/\u.s1<=12
 s2:1<=u.s2/\u.s2<=6
theorem GF(f:∀h∈c,l7 h):∀{r p},(∀h∈r,h∈c)->qX c r p->∀u∈p,oU u/\nO c u.hv u.np u.bs|_,_,_,.nil=>(λ_ h=>absurd h gk)|_,_,l,.cons a b=>λx m=>by cases m with|head=>exact⟨⟨a.np▸(f _<|l _<|.head _).np,a.name▸(f _<|l _<|.head _).name,a.s1,a.s2⟩,a.bs⟩|tail _ m=>exact GF f (λy t=>l y<|.tail _ t) b x m
def MO(h:qX a b c):c.length=b.length:=by induction h with|nil=>rfl|cons _ _ ih=>exact az (· +1) ih
def Y5(f:M)(g:Gr):(g.bo f).length<=5:=by have:=g.len f;rw[g.CG,bx]at this;exact this
def uK:∀(c:G Gr)(f:M),(bQ f c).length<=5*c.length:=by intro l;induction l with|nil=>exact λ_=>bR _|cons g r ih=>exact λf=>U bO<|U (arj ..)<|U (tW ..)<|iC (ih _)<|Y5 f g
def Y6(h:nO p r l m):(∃b,oR l m=[b]/\b.bo.length<=10)\/∃b b2,oR l m=[b,b2]/\b.bo.length<=10/\b2.bo.length<=10:=by have le:∀{f:M}{c:G Gr},c.length<=2->(bQ f c).length<=10:=λ{f c} h=>aG (uK c f)<|Lm 5 h;cases h with|one _ a=>exact .inl<|aT _ rfl<|le a.2|two _ a _ _ b=>exact .inr<|bV _ _ rfl (le a.2)<|le b.2
section
def GG(R:b.bo.length<=1000)(Y:l2.length<=1000)(f:Q .next (fK x B E J (vf m) (vf L) (vf p) (vf r) (vf N) (vf u) (q<|.dJ 1) (vi t) (vf<|.af<|b.bo.map Sp.F) (vf b.en.F)<|vf<|ch t b) ⟨[.list l,.list (l2++[ch t b])],[iM (.fz<|.af []),q9 m O r u p]⟩):aS (Ph c 0) (.ai [.var 12,.ai [.var 13,.var 14]]) xe (.ai [.int t,b.F]) (fK x B E J (vf m) (vf L) (vf p) (vf r) (vf N) (vf u) (q<|.dJ 1) Z aI aY P) ⟨[.list l,.list l2],[iM (.fz<|.af []),q9 m O r u p]⟩ Q:=by
 refine ig (a:=fK x B E J (vf m) (vf L) (vf p) (vf r) (vf N) (vf u) (q<|.dJ 1) (vi t) (vf<|.af<|b.bo.map Sp.F) (vf b.en.F) P) C<|bq (s:=zS 0) (r:=xe.drop 1) C<|U YV<|aF<|bq (s:=zS 1) (r:=xe.drop 2) C<|YW.mpr<|h_ (by first|(refine U (bx ..) ?_;exact q1)|(rw[bx];have:=hp.tl;lia)|(done)|lia)<|lq (h:=Sp.I) (λa _ Q f=>?_)<|aE (cy<|U (bx ..) q1)<|aF ?_;·exact YX.mpr f
 ·rw[En.eq]at f⊢;exact YY.mpr<|aE (d_<|q1) f
def Y7(hu:oU u)(m:nO hds u.hv u.np u.bs)(hl:l.length<=1000)(f:∀J L N O P R p r t x B,Q .next (fK Y Z th ex J L N O P R p r t x B) ⟨[.list (l++[u.I])],[iM (.fz<|.af [])]⟩):aS (Ph c 0) (.ai [.var 5,.var 6,.var 7,.var 8,.var 9,.var 10]) xd u.F (fK Y Z th ex J L N O P R p r t x B) ⟨[.list l],[iM (.fz<|.af [])]⟩ Q:=by
 refine U u.eq<|ig (a:=fK Y Z th ex (vf<|.str u.name) (vi u.np) (vb u.hv) (vf<|bT u.s1 u.s2) (vf<|.af<|u.w_.map Bk.F) (vi u.uH) p r t x B) C<|have h1:=hu.np;U YT<|aE ?_ ?_;·rcases sG h1.1 h1.2 with e|e|e<;>refine U e ?_<;>decide
 refine bq (s:=GD 3) (r:=GE 4) C<|U YU ?_;rcases Y6 m with⟨b,e,m⟩|⟨b,b2,e,m,hb2⟩
 ·have e:u.w_=[b]:=e
  have E:u.I=ba u.name u.np u.hv (bT u.s1 u.s2) ([]++[ch 0 b]) u.uH:=by delta Fu.I;calc U e;rfl
  rw[E]at f;exact U e<|cz<|GG (q1) (cD _)<|b6<|dL<|aF<|U ML<|aE (d_<|q1)<|f _ _ _ _ _ _ _ _ _ _ _
 ·have e:u.w_=[b,b2]:=e
  have E:u.I=ba u.name u.np u.hv (bT u.s1 u.s2) (([]++[ch 0 b])++[ch 1 b2]) u.uH:=by delta Fu.I;calc U e;rfl
  rw[E]at f;exact U e<|cz<|GG (q1) (cD _)<|b6<|cz<|GG (t:=1) (q1) (by show 1<=1000;decide)<|b6<|dL<|aF<|U ML<|aE (d_<|q1)<|f _ _ _ _ _ _ _ _ _ _ _
def Y8:∀(m:G Fu)(l:G F)(p r t B E J L N O P R:ar V),(∀u∈m,oU u/\nO Y u.hv u.np u.bs)->l.length+m.length<=1000->(∀p r t B E J L N O P R,Q .next (fK Z fs th ex p r t B E J L N O P R) ⟨[.list (l++m.map Fu.I)],[iM (.fz<|.af [])]⟩)->bj (aS (Ph c 0) (.ai [.var 5,.var 6,.var 7,.var 8,.var 9,.var 10]) xd) (m.map Fu.F) (fK Z fs th ex p r t B E J L N O P R) ⟨[.list l],[iM (.fz<|.af [])]⟩ Q:=by intro bg;induction bg with|nil=>intro l _ _ _ _ _ _ _ _ _ _ _ _ _ f;rw[G.map_nil,bK]at f;exact f _ _ _ _ _ _ _ _ _ _ _|cons u m ih=>intro l _ _ _ _ _ _ _ _ _ _ _ h hl f;rw[eX]at hl;exact cz (Y7 (h u<|.head _).1 (h u<|.head _).2 (tX ‹_›) λy5 y6 y7 y8 y9 Y9 zO zP zH zI zJ=>b6<|ih (l++[u.I]) _ _ _ _ _ _ _ _ _ _ _ (λx hx=>h x<|.tail _ hx) (U bO<|U sr (by lia))<|U (cZ ..) f)
end
def MP(r:w9 p)(c:f (.ret<|.fz p.I) u):am tab (n+1) 418 [.fz p.F] [] (aZ [] u f):=cP r.us λm B x t=>YR.mpr<|bq (s:=xc 2) (r:=CH 3) C<|U YS<|Y8 (Y:=m) p.us [] _ _ _ _ _ _ _ _ _ _ _ (GF x (λ_ h=>h) t) (by calc U (MO t);show 0+m.length<=1000;lia) λE J L N O P R Y Z aY aC=>aF<|bq (s:=xc 3) (r:=CH 4) C<|Y1.mpr<|h_ (by first|(rw[bx];lia)|(calc U (bx ..);have:=r.tl;exact q1)|(done)|lia)<|lq (h:=Th.I) (λa _ Q c=>Y2.mpr c)<|aE (cy<|U (bx ..)<|have:=r.tl;q1)<|aF<|(Y3 (p:=.af (p.cR.map Th.I)) (m:=p.d7.map .str)).mpr<|aE (cy<|U (bx ..)<|(by decide:∀l∈([["omega"],["omega","omega"],["alpha","omega","alpha"],["omega","delta"]]:G (G ah)),l.length<=1000000) _ r.d7) c
noncomputable abbrev bI(l:G ah):G F:=l.map .str
abbrev Pair:=ah×F
noncomputable def cK(b:ah)(c:G ah)(f:G M):F:=.ai [.str b,.af (bI c),.af (bP f)]
noncomputable def iN{c:Type}(f:G ah->ah->G c):G ah->G ah->G c|_,[]=>[]|l,n::r=>f l n++iN f (l++[n]) r
noncomputable def pL(c:G ah)(n:ah):G Pair:=match c.any (· ==n)with|D=>[(n++" is defined twice",cK n ["defined","twice"] [])]|j=>[]
noncomputable def kF(c f:G ah)(n:ah):G Pair:=match f.any (· ==n)with|D=>[(n++" is an extern twice",cK n ["extern","twice"] [])]|j=>match c.any (· ==n)with|D=>[(n++" is an extern and defined",cK n ["extern","defined"] [])]|j=>[]
noncomputable def kn(l:G ah):G (ah×F):=l.foldl (λc n=>cJ n (.bool D) c) []
noncomputable def pM(l:G ah):FObj:=match l with|[]=>.di []|l=>.ds (kn l)
def Za(m n:ah)(v:F):∀l:G (ah×F),has n (cJ m v l)=(m==n||has n l):=by
 intro c;induction c with
 |nil=>rfl
 |cons e r ih=>
  show has n (match e.1==m with|D=>(e.1,v)::r|j=>e::cJ m v r)=(m==n||(e.1==n||has n r));refine bX (e.1==m) (λh=>?_) λ_=>?_;·have h:e.1=m:=eq_of_beq h;show(e.1==n||has n r)=_;refine U h ?_;cases m==n<;>rfl
  ·show(e.1==n||has n (cJ m v r))=_;calc U (ih);cases m==n<;>cases e.1==n<;>rfl
def Zb(l:G ah)(n:ah):kn (l++[n])=cJ n (.bool D) (kn l):=by delta kn;calc U yP;rfl
def uL(n:ah)(l:G ah):has n (kn l)=l.any (· ==n):=by
 have:∀(l:G ah)(c:G (ah×F)),has n (l.foldl (λc n=>cJ n (.bool D) c) c)=(has n c||l.any (· ==n)):=by intro l;induction l with|nil=>intro c;exact U G.any_nil<|U (ark ..) C|cons m l ih=>intro c;refine U (ih ..)<|U (Za ..)<|U B3 ?_;cases m==n<;>cases has n c<;>cases l.any (· ==n)<;>rfl
 exact this l []
def zU[BEq c](m:c)(v:F):∀l:G (c×F),(cJ m v l).length<=l.length+1:=by intro f;induction f with|nil=>exact bR _|cons e r ih=>show(match e.1==m with|D=>(e.1,v)::r|j=>e::cJ m v r).length<=r.length+1+1;exact bc (e.1==m) (jV _)<|mD<|ih
def GH(l:G ah):(kn l).length<=l.length:=by
 have:∀(l:G ah)(c:G (ah×F)),(l.foldl (λc n=>cJ n (.bool D) c) c).length<=c.length+l.length:=by intro l;induction l with|nil=>intro c;exact bR _|cons m l ih=>intro c;exact aG (ih _) (have:=zU m (.bool D) c;U eX (by lia))
 have:=this l [];rw[yM,kq]at this;exact this
def GI(l:G ah)(n:ah):pM (l++[n])= .ds (cJ n (.bool D)<|kn l):=by calc U (Eq.symm<|Zb ..);cases l<;>rfl
noncomputable def Zc(s:S):X:=(xl<|xa<|sx s).1
noncomputable def CJ:X:=Zc<|Ml.body.getD 0 .brk
section
noncomputable abbrev jJ(c f l:G F):F:=.hV 138 [("funcs",.af c),("data",.af f),("externs",.af l)]
def Zd:am tab (n+1) 223 [.fz (jJ f m p)] [] P=fP (cT (Lv n 0) 1 (.var 0) CJ [] [vf (jJ f m p)]) f ⋯ λl c=>gI j l c λv c=>fP (cT (Lv n 0) 1 (.var 0) CJ [] [vf (jJ f m p)]) m c λl c=>gI j l c λr c=>wJ .Add v r c λv=>P (.ret v) c:=()
def Ze{a:Fu}:cT (Ph c 0) 1 (.var 0) CJ [] ρ a.I f P=P (q<|.str a.name) f:=()
def Zf{a:Th}:cT (Ph c 0) 1 (.var 0) CJ [] ρ a.I f P=P (q<|.str a.name) f:=()
noncomputable def CK:G S:=dQ<|wQ.body.getD 1 .brk
noncomputable def CL:G S:=dQ<|wQ.body.getD 3 .brk
noncomputable abbrev iO(u:F)(c f:ar V):Rho:=[vf u,q (.ref 0),q (.ref 1),c,f]
def Zg:am tab (n+2) 230 [.fz u] [] P=am tab (n+1) 223 [.fz u] [] (aZ [] [.di [],.list []] λr l=>cW r λv=>oP (gH .plain v<|.fz .none) λf=>bj (aS (Lv (n+1) 0) (.var 3) CK) f (iO u z z) ⟨l,[]⟩ λo ρ c=>cf o ρ c (λρ c=>ao (Lv (n+1) 0) (wQ.body.drop 2) ρ c<|runK P)<|runK P):=()
def Zh:aS (Ph c 0) (.var 3) CK (.str f) (iO u p m) {.di [],.list l} Q=Q .next (iO u (vf<|.str f) m) {.ds [(f,.bool D)],.list l}:=()
def Zi:aS (Ph c 0) (.var 3) CK (.str f) (iO u p m) {.ds d,.list l} Q=(match has f d with|D=>gd (f.length+cM " is defined twice"<=aM)<|gd (l.length<aM)<|gd (d.length<aM)<|Q .next (iO u (vf<|.str f) m) {.ds (cJ f (.bool D) d),.list (l++[.str (f++" is defined twice")])}|j=>gd (d.length<aM)<|Q .next (iO u (vf<|.str f) m) {.ds (cJ f (.bool D) d),.list l}):=()
end
noncomputable def eg(p:fD):G ah:=p.us.map Fu.name++p.cR.map Th.name
def fT:∀n∈allNames,n.length<=7:=by decide+kernel
structure eN(p:fD):Prop where
 ul:1<=p.us.length/\p.us.length<=3
 tl:p.cR.length<=2
 xl:p.d7.length<=3
 us:∀u∈p.us,oU u/\∃hds:G cu,nO hds u.hv u.np u.bs/\∀h∈hds,h.name∈(["alpha","beta","gamma"]:G ah)
 cR:∀t∈p.cR,nQ t
 gK:∀n∈eg p,n∈allNames
 d7:∀n∈p.d7,n∈allNames
def w9.fits(h:w9 p):eN p:=by
 refine cP h.us λf L E J=>?_;have r:=GF E (λ_ h=>h) J;refine⟨by refine U (MO J) ?_;exact L,h.tl,(by decide+kernel:∀l∈([["omega"],["omega","omega"],["alpha","omega","alpha"],["omega","delta"]]:G (G ah)),l.length<=3) _ h.d7,λu m=>⟨(r u m).1,f,(r u m).2,λx N=>(E x N).name⟩,h.cR,λn c=>?_,(by decide+kernel:∀l∈([["omega"],["omega","omega"],["alpha","omega","alpha"],["omega","delta"]]:G (G ah)),∀n∈l,n∈allNames) _ h.d7⟩;rcases i7.mp c with c|c
 ·refine av (mE.mp c) λu O B=>?_;subst B;exact(by decide+kernel:∀n∈(["alpha","beta","gamma"]:G ah),n∈allNames) _ (r u O).1.name
 ·refine av (mE.mp c) λt P B=>?_;clear c;clear c;subst B;exact(by decide+kernel:∀n∈(["alpha","delta","sigma"]:G ah),n∈allNames) _ (h.cR t P).name
def CM(h:a∈allNames)(c:n<=1000):aa (a.length+n<=aM)=D:=cy<|have:=fT a h;q3
section
def MQ(f:eN p)(c:P (.ret<|.fz<|.af<|bI<|eg p) ⋯):am tab (n+1) 223 [.fz p.I] [] P:=by refine have l:=f.ul;have m:=f.tl;Zd.mpr<|h_ (by first|(refine U (bx ..) ?_;lia)|(done)|lia)<|lq (h:=λu:Fu=>.str u.name) (λa _ Q c=>Ze.mpr c)<|aE (cy<|U (bx ..) (by lia))<|h_ (by first|(calc U (bx ..);exact q1)|(done)|lia)<|lq (h:=λu:Th=>.str u.name) (λa _ Q c=>Zf.mpr c)<|aE (cy<|U (bx ..) q1)<|aE (c:=aa<|(p.us.map λu:Fu=>F.str u.name).length+(p.cR.map λu:Th=>F.str u.name).length<=aM) (cy<|U (bx ..)<|U (bx ..)<|q3<|And.right ‹_›) ?_;rw[show bI (eg p)=p.us.map (λu:Fu=>F.str u.name)++p.cR.map (λu:Th=>F.str u.name) by unfold eg bI;refine U fx<|U lW<|U lW ?_;rfl]at c;exact c
def CN(f:G ah->ah->G p)(a:ah):∀(l c:G ah),iN f c (l++[a])=iN f c l++f (c++l) a:=by intro l;induction l with|nil=>intro c;show f c a++[]=[]++f (c++[]) a;exact U (bK ..)<|U (bK ..)<|U (B4 ..) C|cons m l ih=>intro c;show f c m++iN f (c++[m]) (l++[a])=(f c m++iN f (c++[m]) l)++f (c++m::l) a;refine U (ih ..)<|U (cZ ..)<|U (cZ ..) ?_;rfl
def sO{f:G ah->ah->G p}(h:∀s a,(f s a).length<=1):∀(l c:G ah),(iN f c l).length<=l.length:=by intro l;induction l with|nil=>intro _;exact bR _|cons m l ih=>intro c;refine U bO<|U (tW ..) ?_;exact iC (ih _)<|h _ _
def CP(h:s.any (· ==a)=D):pL s a=[(a++" is defined twice",cK a ["defined","twice"] [])]:=by delta pL;exact U h C
def CQ(h:s.any (· ==a)=j):pL s a=[]:=by delta pL;exact U h C
def CR(h:s.any (· ==a)=D):kF k s a=[(a++" is an extern twice",cK a ["extern","twice"] [])]:=by delta kF;exact U h C
def zV(h:s.any (· ==a)=j)(c:k.any (· ==a)=D):kF k s a=[(a++" is an extern and defined",cK a ["extern","defined"] [])]:=by delta kF;exact U h<|U c rfl
def zW(h:s.any (· ==a)=j)(c:k.any (· ==a)=j):kF k s a=[]:=by delta kF;exact U h<|U c rfl
def zX(s:G ah)(a:ah):(pL s a).length<=1:=by
 cases h:s.any (· ==a);·exact U (CQ h)<|cD _
 ·exact U (CP h)<|bR _
def GJ(k s:G ah)(a:ah):(kF k s a).length<=1:=by
 cases h:s.any (· ==a)
 ·cases c:k.any (· ==a)
  ·exact U (zW h c)<|cD _
  ·exact U (zV h c)<|bR _
 ·exact U (CR h)<|bR _
noncomputable def b7(l:G Pair):G F:=bI<|l.map (·.1)
noncomputable def bM(l:G Pair):G F:=l.map (·.2)
def mS(a b:G Pair):b7 (a++b)=b7 a++b7 b:=by delta b7 bI;exact U fx<|U fx C
def oV(a b:G Pair):bM (a++b)=bM a++bM b:=fx
def jK(a:G Pair):(b7 a).length=a.length:=by exact U (bx ..)<|U (bx ..) C
def uM{f:Type}{all c r:G f}{a:f}(e:all=c++a::r):c.length<all.length/\a∈all:=by subst e;exact⟨by refine U bO<|U eX ?_;lia,ud _<|.head _⟩
def Zk(R:all.length<=100)(O:∀n∈all,n∈allNames)(f:∀t,Q .next (iO u t L) ⟨[pM all,.list (b7<|iN pL [] all)],[]⟩):bj (aS (Ph c 0) (.var 3) CK) (bI all) (iO u t L) {.di [],.list []} Q:=by
 refine w8 (λm ρ l=>∃t,ρ=iO u t L/\l=⟨[pM m,.list (b7<|iN pL [] m)],[]⟩) (λm a r e ρ l Q B p=>?_) (aT t C rfl) λρ l B=>?_
 ·obtain⟨t,rfl,rfl⟩:=B
  refine fH (uM e) λY P=>?_
  have Z:=sO zX m []
  have p:=p _ _<|aT (vf<|.str a) C rfl
  rw[CN,GI,mS,B4]at p
  cases E:m with
  |nil=>rw[E]at p;exact Zh.mpr p
  |cons x y=>
   rw[<-E,show pM m= .ds (kn m) by rw[E];rfl]
   refine have N:aa ((kn m).length<aM)=D:=d_<|aG (GH m)<|y6;Zi.mpr ?_
   rw[uL]
   refine bX (m.any (· ==a)) (λJ=>?_) λJ=>?_
   ·rw[CP J]at p
    exact aE (CM (O a P) (by decide+kernel))<|aE (d_ (by rw[jK];exact y7))<|aE N p
   ·rw[CQ J,show b7 []=[]from C,bK]at p
    exact aE N p
 ·obtain⟨t,rfl,rfl⟩:=B
  exact f t
end
section
variable{m:G F}
def Zl:ao (Lv (n+1) 0) (wQ.body.drop 2) (iO (jJ p m f) r z) {.ds d,.list l} (runK P)=bj (aS (Lv (n+1) 0) (.var 3) CL) f (iO (jJ p m f) r<|q<|.ref 2) {.ds d,.list l,.di []} λo ρ c=>cf o ρ c (λρ c=>ao (Lv (n+1) 0) (wQ.body.drop 4) ρ c<|runK P) (runK P):=()
def Zm:aS (Ph c 0) (.var 3) CL (.str f) (iO u p<|q<|.ref 2) {.ds d,.list l,.di []} Q=(match has f d with|D=>gd (f.length+cM " is an extern and defined"<=aM)<|gd (l.length<aM)<|Q .next (iO u (vf<|.str f)<|q<|.ref 2) {.ds d,.list (l++[.str (f++" is an extern and defined")]),.ds [(f,.bool D)]}|j=>Q .next (iO u (vf<|.str f)<|q<|.ref 2) {.ds d,.list l,.ds [(f,.bool D)]}):=()
def Zn:aS (Ph c 0) (.var 3) CL (.str f) (iO u p<|q<|.ref 2) {.ds d,.list l,.ds e} Q=(match has f e with|D=>gd (f.length+cM " is an extern twice"<=aM)<|gd (l.length<aM)<|gd (e.length<aM)<|Q .next (iO u (vf<|.str f)<|q<|.ref 2) {.ds d,.list (l++[.str (f++" is an extern twice")]),.ds (cJ f (.bool D) e)}|j=>match has f d with|D=>gd (f.length+cM " is an extern and defined"<=aM)<|gd (l.length<aM)<|gd (e.length<aM)<|Q .next (iO u (vf<|.str f)<|q<|.ref 2) {.ds d,.list (l++[.str (f++" is an extern and defined")]),.ds (cJ f (.bool D) e)}|j=>gd (e.length<aM)<|Q .next (iO u (vf<|.str f)<|q<|.ref 2) {.ds d,.list l,.ds (cJ f (.bool D) e)}):=()
def Zo(Z:all.length<=100)(hw:w.length<=100)(N:∀n∈all,n∈allNames)(f:∀B o,Q .next (iO u B<|q<|.ref 2) {.ds (kn k),.list (b7<|w++iN (kF k) [] all),o}):
  bj (aS (Ph c 0) (.var 3) CL) (bI all) (iO u B<|q<|.ref 2) {.ds (kn k),.list (b7 w),.di []} Q:=by
 refine w8 (λp ρ l=>∃B,ρ=iO u B (q<|.ref 2)/\l={.ds (kn k),.list (b7<|w++iN (kF k) [] p),pM p}) (λp a r e ρ l Q O t=>?_) (aT B C (by refine U (show iN (kF k) [] []=[]from C)<|U (bK ..) ?_;rfl)) λρ l O=>?_
 ·obtain⟨B,rfl,rfl⟩:=O
  refine fH (uM e) λh1 P=>?_
  have J:aa ((b7<|w++iN (kF k) [] p).length<aM)=D:=d_ (by have:=sO (GJ k) p [];refine U (jK ..)<|U bO ?_;lia)
  have t:=t _ _<|aT (vf<|.str a) C rfl
  rw[CN,GI,<-cZ,mS,B4]at t
  cases R:p with
  |nil=>
   rw[R]at t J
   refine Zm.mpr ?_
   refine U (uL ..) ?_
   refine bX (k.any (· ==a)) (λE=>?_) λE=>?_
   ·rw[zV C E]at t;exact aE (CM (N a P) (by decide+kernel))<|aE J t
   ·rw[zW C E,show b7 []=[]from C,bK]at t;exact t
  |cons x y=>
   rw[<-R,show pM p= .ds (kn p) by rw[R];rfl]
   have Y:aa ((kn p).length<aM)=D:=d_<|aG (GH p) (by exact y6)
   refine Zn.mpr ?_
   rw[uL,uL]
   refine bX (p.any (· ==a)) (λL=>?_) λL=>?_
   ·rw[CR L]at t;exact aE (CM (N a P) (by decide+kernel))<|aE J<|aE Y t
   ·
    refine bX (k.any (· ==a)) (λE=>?_) λE=>?_
    ·rw[zV L E]at t;exact aE (CM (N a P) (by decide+kernel))<|aE J<|aE Y t
    ·rw[zW L E,show b7 []=[]from C,bK]at t;exact aE Y t
 ·obtain⟨B,rfl,rfl⟩:=O
  exact f B _
def q_(p:fD):G Pair:=iN pL [] (eg p)++iN (kF<|eg p) [] p.d7
def xh(c:eN p):(eg p).length<=5:=by have:=c.ul;have:=c.tl;refine U bO<|U (bx ..)<|U (bx ..) ?_;exact q3<|And.right ‹_›
def Zp(c:eN p):pM (eg p)= .ds (kn<|eg p):=by have:=c.ul;cases h:eg p with|nil=>delta eg at h;have:=az mC h;rw[bO,bx,yM]at this;lia|cons a b=>rfl
def Zq(f:eN p)(c:∀o l,P (.ret<|.ref 1) ⟨[o,.list (b7<|q_ p),l],[]⟩):am tab (n+2) 230 [.fz p.I] [] P:=Zg.mpr<|MQ f (Zk (aG (xh f) {}) f.gK λr=>aF<|U (Zp f)<|Zl.mpr<|Zo (have:=f.xl;q1) (aG (sO zX _ _)<|aG (xh f) {}) f.d7 λr o=>aF<|c _ _)
def GK:G S:=dQ<|F3.body.getD 1 .brk
def Zr:am tab (n+2) 237 [.fz (jJ p m l)] [] P=am tab (n+1) 223 [.fz (jJ p m l)] [] (aZ [] [.di []] λr t=>cW r λv=>gd (l.length<=aM)<|wJ .Add v (.fz<|.af l) ⟨t,[]⟩ λv=>oP (gH .plain v<|.fz .none) λf=>bj (aS (Lv (n+1) 0) (.var 2) GK) f [vf (jJ p m l),q (.ref 0),z] ⟨t,[]⟩ λo ρ c=>cf o ρ c (λρ c=>ao (Lv (n+1) 0) (F3.body.drop 2) ρ c<|runK P)<|runK P):=()
def Zs:aS (Ph c 0) (.var 2) GK (.str f) [vf u,q (.ref 0),l] {.di []} Q=Q .next [vf u,q (.ref 0),vf (.str f)] {.ds [(f,.bool D)]}:=()
def Zt:aS (Ph c 0) (.var 2) GK (.str f) [vf u,q (.ref 0),l] {.ds d} Q=gd (d.length<aM) (Q .next [vf u,q (.ref 0),vf (.str f)] {.ds (cJ f (.bool D) d)}):=()
def gq(p:fD):F:=.ds (kn<|eg p++p.d7)
def Zu(B:eN p)(c:f (.ret<|.fz<|gq p) L):am tab (n+2) 237 [.fz p.I] [] (aZ [] L f):=by
 refine have O:=B.xl;have P:=xh B;Zr.mpr (MQ B<|aE (cy<|U (bx ..) q1)<|aE (cy<|U (bx ..)<|U (bx ..) q3)<|U (show bI (eg p)++bI p.d7=bI (eg p++p.d7)from fx.symm)<|w8 (λt ρ l=>∃x,ρ=[vf p.I,q (.ref 0),x]/\l=⟨[pM t],[]⟩) (λt a r e ρ l Q E u=>?_) (aT z rfl rfl) λρ l E=>?_);·obtain⟨x,rfl,rfl⟩:=E;obtain⟨N,_⟩:=uM e;rw[bO]at N;have u:=u _ _<|aT (vf<|.str a) C rfl;rw[GI]at u;cases J:t with|nil=>rw[J]at u;exact Zs.mpr u|cons x y=>rw[<-J,show pM t= .ds (kn t) by rw[J];rfl];exact Zt.mpr<|aE (d_<|aG (GH t) (by lia)) u
 ·obtain⟨x,rfl,rfl⟩:=E
  have:pM (eg p++p.d7)= .ds (kn<|eg p++p.d7):=by have R:=B.ul;cases h:eg p++p.d7 with|nil=>delta eg at h;have:=az mC h;rw[bO,bO,bx,yM]at this;lia|cons a b=>rfl
  rw[this];exact aF c
end
abbrev nR(k:aj):G S:=Gj.body.drop k
abbrev lr(k:aj):S:=Gj.body.getD k .brk
def CS:X:=(xl<|xa<|sx<|lr 1).1
abbrev gu(B t u p x:F)(E J f r O P R Y Z aU aB a7 bF:ar V):Rho:=[vf B,vf t,vf u,vf p,vf x,q (.ref 0),q (.ref 1),E,J,f,r,O,P,R,Y,Z,aU,aB,a7,bF]
abbrev j5(B t u p x:F)(E J:ar V):Rho:=gu B t u p x E J z z z z z z z z z z z
def GM:G S:=dQ<|lr 2
def GN:G S:=dQ<|lr 3
section
variable{c:AM}{i:aj}{B:F}{t u p l m gK:G F}{L:G FObj}{Q:DK}{E J:ar V}{x:ah}
abbrev CT(t u p:G F):Rho:=[vf (.ai [.af t,.af u,.af p]),vf (.af t),vf (.af u),vf (.af p),z,z,z,z,z,z,z,z,z,z,z,z,z,z,z,z]
def Zv:am tab (n+3) 438 [.fz (.ai [.af t,.af u,.af p])] [] P=ao (Ph (am tab<|n+2) 0) (nR 1) (CT t u p) ⋯ (runK P):=()
def MR(t u p l l':G F)(Q:DK)(f:Mem):Prop:=Q .next [vf (.ai [.af t,.af u,.af p]),vf (.af t),vf (.af u),vf (.af p),vf (.af<|l++l'),q (.ref f.fl.length),q (.ref (f.fl++[FObj.list []]).length),z,z,z,z,z,z,z,z,z,z,z,z,z] ⟨(f.fl++[FObj.list []])++[FObj.list []],f.ins⟩
def Zw:WS (Ph c 0) (lr 1) (CT t u p) ⋯ Q=fP (cT (Ph c 0) 1 (.var 0) CS [] (CT t u p)) t ⋯ λl f=>gd (l.length<=aM) (fP (cT (Ph c 0) 1 (.var 0) CS [] (CT t u p)) u f λl' f=>gd (l'.length<=aM)<|gd (l.length+l'.length<=aM)<|MR t u p l l' Q f):=()
def Zx{a:Fu}:cT (Ph c 0) 1 (.var 0) CS [] ρ a.F f P=P (q<|.str a.name) f:=()
def Zy{a:Th}:cT (Ph c 0) 1 (.var 0) CS [] ρ a.F f P=P (q<|.str a.name) f:=()
def Zz:WS (Ph c 0) (lr 2) (j5 B (.af t) (.af u) (.af p) (.af gK) E J) #v[l,m] Q=bj (aS (Ph c 0) (.ai [.var 7,.var 8]) GM) (numbered 0 gK) (j5 B (.af t) (.af u) (.af p) (.af gK) E J) #v[l,m] Q:=()
def ZA:WS (Ph c 0) (lr 3) (j5 B (.af t) (.af u) (.af p) (.af gK) E J) #v[l,m] Q=bj (aS (Ph c 0) (.ai [.var 7,.var 8]) GN) (numbered 0 p) (j5 B (.af t) (.af u) (.af p) (.af gK) E J) #v[l,m] Q:=()
def CU(l:G F)(i:aj)(k:G ah->Prop):Prop:=gd (l.length<=aM)<|gd (0<=(i:M)&&(i:M)<=1000000)<|oP (iG<|(l.take<|min (i:M).toNat l.length).drop 0) k
def ZB:aS (Ph c 0) (.ai [.var 7,.var 8]) GM (.ai [.int i,.str x]) (j5 B (.af t) (.af u) (.af p) (.af gK) E J) #v[l,m] Q=CU gK i λs=>match s.any (· ==x)with|D=>gd (l.length<aM)<|Q .next (j5 B (.af t) (.af u) (.af p) (.af gK) (vi i)<|vf<|.str x) #v[l++[cK x ["defined","twice"] []],m]|j=>Q .next (j5 B (.af t) (.af u) (.af p) (.af gK) (vi i)<|vf<|.str x) #v[l,m]:=()
def ZC:aS (Ph c 0) (.ai [.var 7,.var 8]) GN (.ai [.int i,.str x]) (j5 B (.af t) (.af u) (.af p) (.af gK) E J) #v[l,m] Q=CU p i λs=>match s.any (· ==x)with|D=>gd (l.length<aM)<|Q .next (j5 B (.af t) (.af u) (.af p) (.af gK) (vi i)<|vf<|.str x) #v[l++[cK x ["extern","twice"] []],m]|j=>oP (iG gK) λk=>match k.any (· ==x)with|D=>gd (l.length<aM)<|Q .next (j5 B (.af t) (.af u) (.af p) (.af gK) (vi i)<|vf<|.str x) #v[l++[cK x ["extern","defined"] []],m]|j=>Q .next (j5 B (.af t) (.af u) (.af p) (.af gK) (vi i)<|vf<|.str x) #v[l,m]:=()
end
def xi:∀l:G ah,iG (bI l)=q l:=by intro f;induction f with|nil=>exact C|cons i r ih=>show(iG<|bI r).map _=_;exact U (ih) C
def MS(Z:(O++a::r).length<=100)(P:i=O.length)(f:k O):CU (bI<|O++a::r) i k:=by
 have R:(bI<|O++a::r).length=(O++a::r).length:=bx _;have Y:i<(O++a::r).length:=by refine U P<|U bO<|U eX ?_;lia
 delta CU;exact U R<|aE (cy<|q1)<|aE (U (de<|gB i)<|U (de (by lia)) C)<|ig (a:=O) (U (B2 ..)<|U (Fl<|sq Y)<|U P<|U (Eq.symm arl)<|U T9<|xi O) f
def MT{α:Type}{step:F->Rho->Mem->(DK)->Prop}{g:α->F}(Z:G α->Rho->Mem->Prop){all:G α}(dz:∀R a r,all=R++a::r->∀ρ f Q,Z R ρ f->(∀ρ' Y,Z (R++[a]) ρ' Y->Q .next ρ' Y)->step (.ai [.int R.length,g a]) ρ f Q)(h:Z [] ρ f)(O:∀ρ' Y,Z all ρ' Y->P .next ρ' Y):bj step (numbered 0<|all.map g) ρ f P:=by
 have:∀(l R:G α)(ρ:Rho)(f:Mem),all=R++l->Z R ρ f->bj step (numbered R.length<|l.map g) ρ f P:=by intro l;induction l with|nil=>intro R ρ f e h;rw[bK]at e;subst e;exact O ρ f h|cons a l ih=>refine λR ρ f e h=>dz R a l e ρ f _ h λρ' Y h'=>?_;have:=ih (R++[a]) ρ' Y (U e<|U (cZ ..) C) h';rw[bO]at this;exact this
 exact this all [] ρ f C h
section
def lu(a:G Pair):(bM a).length=a.length:=bx _
def ZD(B:all.length<=100)(f:∀t u,Q .next (j5 L (.af N) (.af O) (.af P) (.af<|bI all) t u) #v[bM<|iN pL [] all,m]):
  bj (aS (Ph c 0) (.ai [.var 7,.var 8]) GM) (numbered 0<|bI all) (j5 L (.af N) (.af O) (.af P) (.af<|bI all) t u) #v[[],m] Q:=by
 refine MT (λp ρ l=>∃t u,ρ=j5 L (.af N) (.af O) (.af P) (.af<|bI all) t u/\l=#v[bM<|iN pL [] p,m]) (λp a r e ρ l Q E x=>?_) (fY t u C rfl) λρ l E=>?_
 ·obtain⟨t,u,rfl,rfl⟩:=E
  obtain⟨R,_⟩:=uM e
  have Y:=sO zX p []
  have x:=x _ _<|fY (vi p.length) (vf<|.str a) C rfl
  rw[CN,oV,B4]at x
  refine ZB.mpr ?_
  rw[e]at B x⊢
  refine MS B C<|bX (p.any (· ==a)) (λJ=>?_) λJ=>?_
  ·rw[CP J]at x
   exact aE (d_ (by refine U (lu ..) ?_;rw[bO]at B;lia)) x
  ·rw[CQ J,show bM []=[]from C,bK]at x
   exact x
 ·obtain⟨t,u,rfl,rfl⟩:=E
  exact f t u
def ZE(L:all.length<=100)(Y:w.length<=100)(f:∀u x,Q .next (j5 N (.af O) (.af P) (.af<|bI all) (.af<|bI k) u x) #v[bM<|w++iN (kF k) [] all,m]):
  bj (aS (Ph c 0) (.ai [.var 7,.var 8]) GN) (numbered 0<|bI all) (j5 N (.af O) (.af P) (.af<|bI all) (.af<|bI k) u x) #v[bM w,m] Q:=by
 refine MT (λp ρ l=>∃u x,ρ=j5 N (.af O) (.af P) (.af<|bI all) (.af<|bI k) u x/\l=#v[bM<|w++iN (kF k) [] p,m]) (λp a r e ρ l Q E t=>?_) (fY u x rfl<|U (show iN (kF k) [] []=[]from C)<|U (bK ..) C) λρ l E=>?_
 ·obtain⟨u,x,rfl,rfl⟩:=E
  refine fH (uM e) λZ _=>?_
  have R:aa ((bM<|w++iN (kF k) [] p).length<aM)=D:=d_ (have:=sO (GJ k) p [];U (lu ..) (U bO (by lia)))
  have t:=t _ _<|fY (vi p.length) (vf<|.str a) C rfl
  rw[CN,<-cZ,oV,B4]at t
  refine ZC.mpr ?_
  rw[e]at L t⊢
  refine MS L C ?_
  refine bX (p.any (· ==a)) (λB=>?_) λB=>?_
  ·rw[CR B]at t;exact aE R t
  ·
   refine U (xi ..) ?_
   show match k.any (· ==a)with|D=>_|j=>_
   refine bX (k.any (· ==a)) (λJ=>?_) λJ=>?_
   ·rw[zV B J]at t;exact aE R t
   ·rw[zW B J,show bM []=[]from C,bK]at t;exact t
 ·obtain⟨u,x,rfl,rfl⟩:=E
  exact f u x
abbrev lv(p:fD)(c f l m r t u x B E J L N:ar V):Rho:=gu p.F (.af<|p.us.map Fu.F) (.af<|p.cR.map Th.F) (uG p.d7) (.af<|bI<|eg p) c f l m r t u x B E J L N
def ZF(f:eN p)(c:∀l m,ao (Ph (am tab<|n+2) 0) (nR 4) (lv p l m z z z z z z z z z z z) #v[bM<|q_ p,[]] (runK P)):am tab (n+3) 438 [.fz p.F] [] P:=by refine have r:=f.ul;have t:=f.tl;Zv.mpr<|bq (s:=lr 1) (r:=nR 2) C<|Zw.mpr<|h_ (by first|(refine U (bx ..) ?_;lia)|(done)|lia)<|lq (h:=λu:Fu=>.str u.name) (λa _ Q c=>Zx.mpr c)<|aE (cy<|U (bx ..) (by lia))<|h_ (by first|(calc U (bx ..);exact q1)|(done)|lia)<|lq (h:=λu:Th=>.str u.name) (λa _ Q c=>Zy.mpr c)<|aE (cy<|U (bx ..) q1)<|aE (c:=aa<|(p.us.map λu:Fu=>F.str u.name).length+(p.cR.map λu:Th=>F.str u.name).length<=aM) (cy<|U (bx ..)<|U (bx ..)<|q3<|And.right ‹_›) ?_;delta MR;rw[show p.us.map (λu:Fu=>F.str u.name)++p.cR.map (λu:Th=>F.str u.name)=bI (eg p) by unfold eg bI;rw[fx,lW,lW];rfl];exact aF<|bq (s:=lr 2) (r:=nR 3) C<|Zz.mpr (ZD (aG (xh f) {}) λl m=>aF<|bq (s:=lr 3) (r:=nR 4) C<|ZA.mpr (ZE (have:=f.xl;q1) (aG (sO zX _ _)<|aG (xh f) {}) λl m=>aF<|c l m))
end
def pN(m n:M)(v:F):∀l:G (M×F),aQ n (cJ m v l)=bif m==n then q v else aQ n l:=by
 intro x;induction x with
 |nil=>show(match m==n with|D=>q v|j=>z)=_;cases m==n<;>rfl
 |cons e r ih=>
  show aQ n (match e.1==m with|D=>(e.1,v)::r|j=>e::cJ m v r)=_;refine bX (e.1==m) (λh=>?_) λh=>?_;·have h:e.1=m:=eq_of_beq h;show(match e.1==n with|D=>q v|j=>aQ n r)=bif m==n then q v else(match e.1==n with|D=>q e.2|j=>aQ n r);refine U h ?_;cases m==n<;>rfl
  ·
   show(match e.1==n with|D=>q e.2|j=>aQ n<|cJ m v r)=bif m==n then q v else(match e.1==n with|D=>q e.2|j=>aQ n r);calc U (ih);refine bX (e.1==n) (λt=>?_) λ_=>?_;·have t:e.1=n:=eq_of_beq t;refine U (Eq.symm t)<|U ak.beq_comm<|U h ?_;rfl
   ·rfl
def xj(m:G (M×F))(d:M):G (M×F):=cJ d (.int (match aQ d m with|q (.int c)=>c+1|_=>1)) m
def sP(f:G (M×F))(s:Sp):G (M×F):=match aa (0<=s.d)with|D=>cJ s.d s.I f|j=>f
def je(m:G (M×F))(l:G Sp):G (M×F):=l.foldl (λm(s:Sp)=>match aa (0<=s.d)with|D=>xj m s.d|j=>m) m
def jf(l:G Sp):G (M×F):=l.foldl sP []
def gX(l:M):G (M×F):=(fh l).map λf=>match f with| .int i=>(i,.int 1)|_=>(0,.none)
abbrev sQ(k:aj):S:=F5.body.getD k .brk
abbrev zY(k:aj):G S:=F5.body.drop k
def CV:G S:=dQ<|sQ 2
def CW:G S:=dQ<|CV.getD 0 .brk
abbrev gL(u:F)(p B E:ar V):Rho:=[vf u,q (.ref 0),q (.ref 1),p,B,E]
section
variable{c:AM}{u:F}{d:M}{Q:DK}{p B E:ar V}{f m:G (M×F)}
def ZG:am tab (n+1) 249 [.fz u] [] P=ao (Ph (am tab n) 0) (zY 1) (gL u z z z) {.di [],.di []} (runK P):=()
def ZH:WS (Ph c 0) (sQ 1) (gL (ba l 0 r t x N) z z z) {.di [],.di []} Q=Q .next (gL (ba l 0 r t x N) z z z) {.di [],.di (gX 0)}:=()
def ZI:WS (Ph c 0) (sQ 1) (gL (ba l 1 r t x N) z z z) {.di [],.di []} Q=Q .next (gL (ba l 1 r t x N) (vi 0) z z) {.di [],.di (gX 1)}:=()
def ZJ:WS (Ph c 0) (sQ 1) (gL (ba l 2 r t x N) z z z) {.di [],.di []} Q=Q .next (gL (ba l 2 r t x N) (vi 1) z z) {.di [],.di (gX 2)}:=()
def ZK:WS (Ph c 0) (sQ 2) (gL (ba r t x N l O) p B E) {.di f,.di m} Q=bj (aS (Ph c 0) (.var 4) CV) l (gL (ba r t x N l O) p B E) {.di f,.di m} Q:=()
def ZL:aS (Ph c 0) (.var 4) CV (ch t b) (gL u p B E) {.di f,.di m} Q=bj (aS (Ph c 0) (.var 5) CW) (b.bo.map Sp.I) (gL u p (vf<|ch t b) E) {.di f,.di m} λo ρ l=>cf o ρ l (λρ l=>ao (Ph c 0) [] ρ l Q) Q:=()
def ZM:aS (Ph c 0) (.var 5) CW (cj op d args r) (gL u p B E) {.di f,.di m} Q=(match aa (0<=d)with|D=>gd (f.length<aM) (wJ .Add (match aQ d m with|q f=>.fz f|z=>.fz (.int 0)) (.fz<|.int 1) {.di (cJ d (cj op d args r) f),.di m} λv=>eQ (gE v {.di (cJ d (cj op d args r) f),.di m}) λg l=>FU (.ref 1) (.fz<|.int d) g l.fl λt=>Q .next (gL u p B<|vf<|cj op d args r) ⟨t,l.ins⟩)|j=>Q .next (gL u p B<|vf<|cj op d args r) {.di f,.di m}):=()
def rb:X×X×G X:=match sQ 4 with| .ret (.wI _ k v _ _ l)=>(k,v,l)|_=>(.lit .none,.lit .none,[])
def CX(r:Fns)(N:aj)(t:T)(x val:X)(O:G X)(ρ:Rho)(f:F)(l:Mem)(P:ar (M×F)->Mem->Prop):Prop:=oP (fy t f<|bN N z++ρ) λρ'=>WC r O ρ' l λR l=>match R with|D=>WX r x ρ' l λk l=>WX r val ρ' l λv l=>cF k λk=>eQ (gE v l) λf l=>P (q (k,f)) l|j=>P z l
def ZN:ao (Ph c 0) (zY 3) (gL u p B E) {.di f,.di m} (runK P)=gd ((f.map λe=>F.int e.1).length<=1000) (pF (CX (Ph c 0) 1 (.var 0) rb.1 rb.2.1 rb.2.2 [vf u,vf (.di f),q (.ref 1),p,B,E]) (f.map λe=>.int e.1) {.bv,.di m} [] λl r=>qS j l r λv r=>P (.ret v) r):=()
def ZO:CX (Ph c 0) 1 (.var 0) rb.1 rb.2.1 rb.2.2 [vf u,vf (.di f),q (.ref 1),p,B,E] (.int d) {.bv,.di m}=λQ:ar (M×F)->Mem->Prop=>oP (aQ d m) λv=>zs (.fz v) (.fz<|.int 1) {.bv,.di m} λr=>match r with|D=>oP (aQ d f) λx=>Q (q (d,x)) {.bv,.di m}|j=>Q z {.bv,.di m}:=()
end
noncomputable def md(o:ar F):ak:=match o with|q (.int i)=>i==1|_=>j
noncomputable def pO(f m:G (M×F)):G (M×F)->G (M×F)->G (M×F)|[],c=>c|e::r,c=>pO f m r (match md (aQ e.1 m)with|D=>cJ e.1 ((aQ e.1 f).getD .none) c|j=>c)
def ZP(f m:G (M×F))(n:M):∀(l c:G (M×F)),(∀e∈l,(aQ e.1 f).isSome)->aQ n (pO f m l c)=bif has n l&&md (aQ n m)then aQ n f else aQ n c:=by
 intro l;induction l with
 |nil=>intro c _;rfl
 |cons e l ih=>
  intro c h;show aQ n (pO f m l (match md (aQ e.1 m)with|D=>_|j=>c))=bif (e.1==n||has n l)&&md (aQ n m)then aQ n f else aQ n c;calc U (ih _ λx r=>h x<|.tail _ r);refine bX (has n l&&md (aQ n m)) (λt=>?_) λt=>?_;·have:has n l=D/\md (aQ n m)=D:=ue.mp t;refine U this.1<|U this.2<|U (Fm ..) ?_;rfl
  ·
   refine bX (e.1==n) (λp=>?_) λp=>?_;·
    have p:e.1=n:=eq_of_beq p;have B:=h e<|.head _;refine bX (md<|aQ n m) (λu=>?_) λu=>?_;·refine Exists.elim (B5.mp B) λx r=>?_;rw[p]at r;refine U p<|U u<|U r ?_;refine U (pN ..)<|U (jB ..) ?_;rfl
    ·exact U p<|U u<|U (B6 ..) C
   ·
    refine U (T_ ..)<|U t ?_;refine bc (md<|aQ e.1 m) ?_ ?_;·refine U (pN ..)<|U p ?_;rfl
    ·rfl
def uN(n:M):∀l:G (M×F),has n l=(aQ n l).isSome:=by intro c;induction c with|nil=>exact C|cons e r ih=>show(e.1==n||has n r)=(match e.1==n with|D=>q e.2|j=>aQ n r).isSome;cases e.1==n with|true=>rfl|false=>exact ih
def MU(l:G (M×F)):∀e∈l,(aQ e.1 l).isSome:=λe c=>by calc U (Eq.symm<|uN ..);exact arm.mpr<|aT e c<|jB _
def MV(f m:G (M×F)):∀(l c:G (M×F)),(pO f m l c).length<=l.length+c.length:=by intro l;induction l with|nil=>intro c;exact cY (kq _).symm|cons e l ih=>intro c;show(pO f m l (match md (aQ e.1 m)with|D=>_|j=>c)).length<=_;exact U eX<|bc (md<|aQ e.1 m) (aG (ih<|cJ e.1 ((aQ e.1 f).getD .none) c)<|aG (sk (zU e.1 ((aQ e.1 f).getD .none) c) _)<|cY (aj.succ_add_eq_add_succ _ _).symm)<|aG (ih c)<|yK (jV _) _
noncomputable def kG(c:M)(l:G Sp):G (M×F):=pO (jf l) (je (gX c) l) (jf l) []
def ZQ(c:M)(l:G Sp)(n:M):aQ n (kG c l)=bif md (aQ n<|je (gX c) l)then aQ n (jf l)else z:=by
 refine U (ZP _ _ _ _ _<|MU _)<|U (uN ..)<|oc (aQ n<|jf l) ?_ λx=>?_;·cases md (aQ n<|je (gX c) l)<;>rfl
 ·cases md (aQ n<|je (gX c) l)<;>rfl
def sR(m:G (M×F)):Prop:=∀r v,aQ r m=q v->∃k,v= .int k
def sR.oW(h:sR m)(d k:M):sR (cJ d (.int k) m):=λr v e=>by
 rw[pN]at e;revert e;refine bc (d==r) (λe=>?_) λe=>?_;·obtain rfl:=bH e;exact⟨_,C⟩
 ·exact h r v e
def GO(l:G Sp)(s:Sp):jf (l++[s])=sP (jf l) s:=by delta jf;calc U yP;rfl
def CY(m:G (M×F))(l:G Sp)(s:Sp):je m (l++[s])=match aa (0<=s.d)with|D=>xj (je m l) s.d|j=>je m l:=by delta je;calc U yP;rfl
structure oX(np:M)(l:G Sp):Prop where
 bP:sR (je (gX np) l)
 sub:∀r,(aQ r<|jf l).isSome->(aQ r<|je (gX np) l).isSome
 len:(jf l).length<=l.length/\(je (gX np) l).length<=l.length+2
def oX.GP(h:oX p l)(s:Sp):oX p (l++[s]):=by
 have m:=h.len
 refine⟨?_,?_,?_⟩
 ·refine U (CY ..) ?_
  refine bc (aa<|0<=s.d) ?_ ?_
  ·exact h.bP.oW _ _
  ·exact h.bP
 ·intro r f
  refine U (CY ..) ?_
  rw[GO]at f
  delta sP at f
  revert f;refine bc (aa<|0<=s.d) (λf=>?_) λf=>?_
  ·
   have f:(aQ r<|cJ s.d s.I<|jf l).isSome:=f
   delta xj
   rw[pN]at f⊢
   revert f;refine bc (s.d==r) (λf=>?_) λf=>?_
   ·rfl
   ·exact h.sub r f
  ·exact h.sub r f
 ·refine U (CY ..)<|U (GO ..)<|U bO<|U sr ?_
  delta sP
  refine bc (aa<|0<=s.d) ?_ ?_
  ·
   have t:=zU s.d s.I<|jf l
   have u:=zU s.d (.int (match aQ s.d (je (gX p) l)with|q (.int c)=>c+1|_=>1))<|je (gX p) l
   exact⟨aG t<|mD m.1,aG u<|mD m.2⟩
  ·exact⟨aG m.1<|jV _,aG m.2<|jV<|_+2⟩
def gw(h:P .next ρ c):ao f [] ρ c P:=h
noncomputable def gx:G Bk->G Sp|[]=>[]|b::r=>b.bo++gx r
def ZR(h:0<=c/\c<3):sR (gX c)/\(gX c).length<=2:=by
 rcases sG h.1 h.2 with rfl|rfl|rfl
 ·exact⟨λr v e=>(by injection e),by decide+kernel⟩
 ·refine⟨?_,by decide+kernel⟩;rw[show gX 1=cJ 0 (.int 1) [] by rfl];exact sR.oW (λr v e=>by cases e) _ _
 ·refine⟨?_,by decide+kernel⟩;rw[show gX 2=cJ 1 (.int 1) (cJ 0 (.int 1) []) by rfl];exact(sR.oW (λr v e=>by cases e) _ _).oW _ _
def oX.zZ(h:oX c l)(r:G Sp):oX c (l++r):=by induction r generalizing l with|nil=>calc U (bK ..);exact h|cons s r ih=>have:=ih<|h.GP s;rw[cZ]at this;exact this
def GQ(h:0<=c/\c<3)(l:G Sp):oX c l:=have f:=ZR h;oX.zZ (l:=[]) ⟨f.1,(λr e=>by injection e),bR _,f.2⟩ l
section
noncomputable abbrev rc(c:M)(l:G Sp):Mem:={.di (jf l),.di (je (gX c) l)}
def ZS(h:oX m l)(B:l.length<=1000)(f:Q .next (gL u r t<|vf s.I) (rc m<|l++[s])):aS (Ph c 0) (.var 5) CW s.I (gL u r t E) (rc m l) Q:=by
 have J:=h.len;calc ZM.mpr;delta rc at f;rw[GO,CY]at f;delta sP at f;revert f;refine bc (aa<|0<=s.d) (λf=>?_) λf=>?_;·refine aE (d_ (by lia)) ?_;have x:aa ((je (gX m) l).length<aM)=D:=d_ (by lia);have f:Q .next (gL u r t<|vf s.I) {.di (cJ s.d s.I<|jf l),.di (xj (je (gX m) l) s.d)}:=f;delta xj at f;cases p:aQ s.d (je (gX m) l)with|none=>rw[p]at f;exact aE x f|some v=>obtain⟨k,rfl⟩:=h.bP _ _ p;rw[p]at f;exact aE x f
 ·exact f
def ZT(h:oX x l)(N:l.length+r.length<=1000)(f:∀p,Q .next (gL u E J p) (rc x<|l++r)):bj (aS (Ph c 0) (.var 5) CW) (r.map Sp.I) (gL u E J p) (rc x l) Q:=by
 refine w8 (λt ρ m=>∃p,ρ=gL u E J p/\m=rc x (l++t)) (λt a O e ρ m Q B L=>?_) (aT p rfl<|U (bK ..) C) λρ m B=>?_;·obtain⟨p,rfl,rfl⟩:=B;obtain⟨P,_⟩:=uM e;exact ZS (h.zZ t) (U bO (by lia))<|U (cZ ..)<|L _ _<|aT _ rfl rfl
 ·obtain⟨p,rfl,rfl⟩:=B;exact f p
def ZU:∀{t:aj}{p m:ar V}{l:G Sp},oX x l->l.length+(gx r).length<=1000->(∀p m,Q .next (gL u B p m) (rc x<|l++gx r))->bj (aS (Ph c 0) (.var 4) CV) (uJ t r) (gL u B p m) (rc x l) Q:=by induction r with|nil=>intro t p m l _ _ f;have:=f p m;rw[show gx []=[]from C,bK]at this;exact this|cons b r ih=>intro t p m l h E f;have e:gx (b::r)=b.bo++gx r:=C;rw[e,bO]at E;rw[e,<-cZ]at f;exact cz<|ZL.mpr (ZT h (by lia) λm=>aF<|gw<|b6<|ih (h.zZ _) (U bO (by lia)) f)
def ZV(N:sR m)(O:∀r,(aQ r f).isSome->(aQ r m).isSome):∀(l:G (M×F))(t:G (M×F)),(∀e∈l,(aQ e.1 f).isSome)->Q (pO f m l t) {.bv,.di m}->pF (CX (Ph c 0) 1 (.var 0) rb.1 rb.2.1 rb.2.2 [vf u,vf (.di f),q (.ref 1),P,R,Y]) (l.map λe=>.int e.1) {.bv,.di m} t Q:=by
 intro l;induction l with
 |nil=>intro t _ p;exact p
 |cons e l ih=>
  intro t h p;have J:=h e<|.head _;obtain⟨v,B⟩:=B5.mp<|O _ J;obtain⟨k,rfl⟩:=N _ _ B;obtain⟨x,L⟩:=B5.mp J;have p:Q (pO f m l (match md (aQ e.1 m)with|D=>cJ e.1 ((aQ e.1 f).getD .none) t|j=>t)) {.bv,.di m}:=p;rw[B,L]at p;show CX _ _ _ _ _ _ _ (.int e.1) _ _;refine U ZO<|U B<|U L ?_;show match k==1 with|true=>_|false=>_
  have p:Q (pO f m l (match k==1 with|D=>cJ e.1 x t|j=>t)) {.bv,.di m}:=p;revert p;exact bc (k==1) (λp=>ih _ (λy E=>h y<|.tail _ E) p) λp=>ih _ (λy E=>h y<|.tail _ E) p
def ZW(l:0<=p/\p<3)(N:(gx m).length<=500)(c:f (.ret<|.fz<|.di<|kG p<|gx m) t):am tab (n+1) 249 [.fz (ba x p B E (uJ 0 m) J)] [] (aZ [] t f):=by
 refine have r:=GQ l<|gx m;have L:=r.len;have rest:∀u,ao (Ph (am tab n) 0) (zY 2) (gL (ba x p B E (uJ 0 m) J) u z z) (rc p []) (runK<|aZ [] t f):=λu=>bq (s:=sQ 2) (r:=zY 3) C (ZK.mpr (ZU (l:=[]) (GQ l _) (by show 0+_<=_;lia) λO P=>aF<|ZN.mpr<|aE (de (by refine U (bx ..) ?_;show(jf<|gx m).length<=1000;lia))<|ZV r.bP r.sub _ [] (MU _)<|aE (de<|aG (MV _ _ _ _) (by calc U yM;show(jf<|gx m).length+0<=1000;lia)) c));ZG.mpr<|bq (s:=sQ 1) (r:=zY 2) C ?_;clear c r L;rcases sG l.1 l.2 with rfl|rfl|rfl
 ·exact ZH.mpr<|aF<|rest _
 ·exact ZI.mpr<|aF<|rest _
 ·exact ZJ.mpr<|aF<|rest _
end
noncomputable def eS(r:M):G Sp->aj|[]=>0|s::l=>(bif s.d==r then 1 else 0)+eS r l
def nS(r:M)(b:G Sp):∀a,eS r (a++b)=eS r a+eS r b:=by intro c;induction c with|nil=>exact(kq _).symm|cons s a ih=>show _+eS r (a++b)=_+eS r a+_;exact U (ih)<|U (B1 ..) C
noncomputable def GR(k:aj):ar F:=match k with|0=>z|k+1=>q<|.int<|(k:M)+1
def ZX(f:0<=r):∀(l:G Sp)(m:G (M×F))(k:aj),aQ r m=GR k->aQ r (je m l)=GR (k+eS r l):=by
 intro l;induction l with
 |nil=>intro m k h;exact h
 |cons s l ih=>
  intro m k h;show aQ r (je (match aa (0<=s.d)with|D=>xj m s.d|j=>m) l)=GR (k+((bif s.d==r then 1 else 0)+eS r l));calc U (Eq.symm<|B1 ..);calc ih _ _;refine bX (s.d==r) (λc=>?_) λc=>?_;·have c:s.d=r:=eq_of_beq c;refine U (de (by refine U c ?_;exact f))<|U c ?_;refine U (pN ..)<|U (jB ..)<|U h ?_;cases k<;>rfl
  ·
   refine U (B7 ..)<|U (Eq.symm h) ?_;refine bc (aa<|0<=s.d) ?_ ?_;·refine U (pN ..)<|U c ?_;rfl
   ·rfl
def ZY(r:M):∀(l:G Sp)(f:G (M×F)),eS r l=0->aQ r (l.foldl sP f)=aQ r f:=by
 intro l;induction l with
 |nil=>intro f _;rfl
 |cons s l ih=>
  intro f h;have c:(bif s.d==r then 1 else 0)+eS r l=0:=h;have m:(s.d==r)=j:=by cases m:s.d==r with|true=>rw[m]at c;exact absurd c (by lia)|false=>rfl
  calc U (ih _ (by rw[m]at c;exact(aj.add_eq_zero_iff.mp c).2));delta sP;refine bc (aa<|0<=s.d) ?_ ?_;·exact U (pN ..)<|U m C
  ·rfl
def GS(c:0<=s.d)(f:eS s.d b=0):aQ s.d (jf<|a++s::b)=q s.I:=by delta jf;refine U yP<|U (ZY _ _ _ f) ?_;delta sP;exact U (de c)<|U (pN ..)<|U (jB ..) C
def ZZ(f:M)(g:Gr)(m:G cu)(p:uA m f g):∀s∈g.bo f,s.d= -1\/(f<=s.d/\s.d<f+4):=by have h:∀i:M,0<=i->i<4->f+i= -1\/f<=f+i/\f+i<f+4:=λi a b=>.inr ⟨wi a,yQ b f⟩;have l:=h 3 {} {};cases g with|acc a=>exact GC (.inr ⟨B8 _,Ua f {}⟩) (h 1 {} {}) (h 2 {} {}) (h 1 {} {})<|GB (P:=λs=>s.d= -1\/(f<=s.d/\s.d<f+4)) l (.inl C) (.inl C)<|.inl C|call c=>exact qG.mpr<|p.fR.elim (λe=>U (P:=λd=>d= -1\/f<=d/\d<f+4) e l) .inl|name r k=>exact qG.mpr l
def GT:∀{l:G Sp},(∀s∈l,s.d≠r)->eS r l=0:=by intro l;induction l with|nil=>intro _;rfl|cons s l ih=>intro h;show(bif s.d==r then 1 else 0)+eS r l=0;exact U (ih λx c=>h x<|.tail _ c)<|U (show(s.d==r)=j from yR<|h s<|.head _) C
def z6:∀(a:G Gr)(b:G Gr)(f:M),bQ f (a++b)=bQ f a++bQ (f+4*a.length) b:=by intro a;induction a with|nil=>intro b f;refine U B9<|U (arn ..)<|U (jo ..) ?_;rfl|cons g a ih=>intro b f;show g.bo f++bQ (f+4) (a++b)=(g.bo f++bQ (f+4) a)++bQ (f+4*((a.length+1:aj):M)) b;refine U (ih ..)<|U (cZ ..)<|U (aro ..)<|U (arp ..)<|U (Eq.symm<|TZ ..)<|U (arq ..) ?_;rfl
def GU:∀(c:G Gr)(f:M),fi hs f c->∀s∈bQ f c,s.d= -1\/(f<=s.d/\s.d<f+4*c.length):=by
 intro c;induction c with
 |nil=>intro f _ s h;contradiction
 |cons g c ih=>
  intro f h s hs;cases h with
  |cons l m=>
   calc U eX;rcases i7.mp hs with hs|hs
   ·rcases ZZ f g _ l s hs with h|h
    ·exact .inl h
    ·exact .inr<|Mp h
   ·rcases ih _ m s hs with h|h
    ·exact .inl h
    ·exact .inr<|Mq h
def nT(f i c:M):(f+i==f+c)=(i==c):=bX (i==c) (λh=>U (eq_of_beq h)<|jB _) λh=>yR λe=>absurd (M.add_left_cancel e)<|Lq h
def fi.split:∀{a:G Gr}{g:Gr}{b:G Gr}{f:M},fi c f (a++g::b)->fi c f a/\uA c (f+4*a.length) g/\fi c (f+4*a.length+4) b:=by
 intro a;induction a with
 |nil=>intro g b f h;cases h with|cons l m=>calc U (show f+4*(([]:G Gr).length:M)=f from jo f);exact(cr (.nil) l m)
 |cons x a ih=>
  intro g b f h;cases h with
  |cons l m=>
   refine qO (ih m) λt p r=>?_;have e:f+4+4*(a.length:M)=f+4*((x::a).length:M):=by refine U eX ?_;lia
   rw[e]at p r;exact(cr (.cons l t) p r)
def xk(f:M)(g:Gr)(b:G Gr):bQ f (g::b)=g.bo f++bQ (f+4) b:=C
def GV(l:0<=c)(h:fi E c (a++g::b))(f:c+4*a.length<=r)(p:r<c+4*a.length+4):eS r (bQ c a)=0/\eS r (bQ (c+4*a.length+4) b)=0/\eS r (bQ c<|a++g::b)=eS r (g.bo<|c+4*a.length):=qO h.split λt J u=>have B:0<=r:=ft (ft l<|uy _) f;have no:∀s:Sp,s.d= -1->s.d≠r:=λs e x=>absurd (x▸e:r= -1) (Fe<|ou {} B);have z1:eS r (bQ c a)=0:=GT λs m=>(GU _ _ t s m).elim (no s) λe=>Ub (ou e.2 f);have z3:eS r (bQ (c+4*a.length+4) b)=0:=GT λs m=>(GU _ _ u s m).elim (no s) λe=>Fe (ou p e.1);(cr z1 z3<|U (z6 ..)<|U (xk ..)<|U (nS ..)<|U (nS ..)<|U z1<|U z3<|U (kq ..)<|U (B7 ..) C)
def Z0(h:0<=c/\c<3)(l:c<=r):aQ r (gX c)=z:=by
 have e:∀i:M,i<r->(i==r)=j:=λi f=>yR<|Ub f;rcases sG h.1 h.2 with rfl|rfl|rfl
 ·rfl
 ·show(match(0:M)==r with|D=>q (F.int 1)|j=>z)=z;exact U (e 0<|q8) C
 ·show(match(0:M)==r with|D=>q (F.int 1)|j=>match(1:M)==r with|D=>q (F.int 1)|j=>z)=z;exact U (e 0<|q8)<|U (e 1<|q8) C
def GW(h:0<=c/\c<3)(f:c<=r):aQ r (kG c l)=bif eS r l==1 then aQ r (jf l)else z:=by
 refine U (ZQ ..)<|U (ZX (by lia) l (gX c) 0<|Z0 h f)<|U (kq ..) ?_
 match eS r l with|0=>rfl|1=>rfl|k+2=>exact U (show((k+2==1):ak)=j from C)<|U (show((((k+1:aj):M)+1)==1)=j from yR (by lia)) C
def Z1(a:d6)(f:M):(dW a f).d=f+3\/(dW a f).d= -1:=by
 delta dW;cases aa (a.bf<2)with
 |true=>exact .inl C
 |false=>
      refine bc (aa<|a.bf<4) ?_ ?_;·exact .inr C
      ·refine bc (a.bf==4) ?_ ?_
       ·exact .inr C
       ·exact .inr C
def MW(l:0<=f)(m:0<=r/\r<f+3):eS r [dW a f]=0:=GT λs c=>by
 cases c with
 |head=>rcases Z1 a f with e|e<;>refine U e ?_<;>lia
 |tail _ h=>contradiction
def CZ(a:d6)(f i:M):eS (f+i) (im a f)=bif a.again&&1==i then 1 else 0:=by
 delta im;refine bc a.again ?_ ?_;·show(bif f+1==f+i then 1 else 0)+0=_;exact U (nT ..) C
 ·rfl
def MX(a:d6)(c:0<=f)(i:aj)(l:i<3):eS (f+i) (a.bo f)=1+bif a.again&&1==i then 1 else 0:=by
 have m:f=f+0:=(jo f).symm
 show eS (f+i) (([⟨f,.slot a.aK⟩,⟨f+1,ck f a.br a.first⟩,⟨f+2,ck (f+1) (a.place-a.br) a.ci⟩]++im a f)++[dW a f])=_
 refine U (nS ..)<|U (nS ..)<|U (MW c ⟨by lia,by lia⟩)<|U (CZ ..)<|U (B7 ..) ?_
 show(bif f==f+i then 1 else 0)+((bif f+1==f+i then 1 else 0)+((bif f+2==f+i then 1 else 0)+0))+_=_
 rw[show(f==f+(i:M))=(f+0==f+(i:M)) by rw[jo],nT,nT,nT]
 match i,l with|0,_=>rfl|1,_=>rfl|2,_=>rfl
def Z2(t:0<=c/\c<3)(h:fi hs c (A++ .acc a::B))(r:f=c+4*A.length):
  aQ f (kG c<|bQ c<|A++ .acc a::B)=q (Sp.mk f<|.slot a.aK).I/\
  aQ (f+1) (kG c<|bQ c<|A++ .acc a::B)=(bif a.again then z else q (Sp.mk (f+1)<|ck f a.br a.first).I)/\
  aQ (f+2) (kG c<|bQ c<|A++ .acc a::B)=q (Sp.mk (f+2)<|ck (f+1) (a.place-a.br) a.ci).I:=by
 have O:(0:M)<=4*A.length:=Li {}<|gB _
 have u:0<=f:=r▸wm t.1 O
 have x:c<=f:=r▸wi O
 have ge:∀i:aj,c+4*A.length<=f+i:=λi=>r▸wi (gB _)
 have lt:∀i:aj,i<3->f+i<c+4*A.length+4:=λi l=>r▸yQ (Lr (sm.mpr l) {}) _
 have E:∀i:aj,i<3->eS (f+i) (bQ c<|A++ .acc a::B)=1+bif a.again&&1==i then 1 else 0:=λi l=>U ((GV t.1 h (ge i)<|lt i l).2.2)<|U (Eq.symm r)<|MX a u i l
 have J:∀i:aj,i<3->eS (f+i) (bQ (f+4) B)=0:=λi l=>by have:=(GV t.1 h (ge i)<|lt i l).2.1;rw[<-r]at this;exact this
 have L:bQ c (A++ .acc a::B)=bQ c A++(a.bo f++bQ (f+4) B):=by refine U (z6 ..)<|U (xk ..)<|U r ?_;rfl
 have N:∀i:aj,i<3->eS (f+i) [dW a f]=0:=λi l=>MW u ⟨wm u<|gB _,yQ (sm.mpr l) f⟩
 refine(cr ?_ ?_ ?_)
 ·have P:=E 0 {}
  rw[B9,jo]at P
  refine U (GW t x)<|U P<|U L ?_
  rw[show(1+(bif a.again&&1==0 then 1 else 0)==1)=D by cases a.again<;>rfl]
  have:eS f ([Sp.mk (f+1) (ck f a.br a.first),⟨f+2,ck (f+1) (a.place-a.br) a.ci⟩]++im a f++[dW a f]++bQ (f+4) B)=0:=by
   have m:=J 0 {}
   have p:=N 0 {}
   have Q:=CZ a f 0
   rw[B9,jo]at m p
   rw[jo]at Q
   rw[nS,nS,nS,m,p,Q]
   show(bif f+1==f then 1 else 0)+((bif f+2==f then 1 else 0)+0)+(bif a.again&&1==(0:M)then 1 else 0)+0+0=0
   rw[show(f+1==f)=(f+1==f+0) by rw[jo],show(f+2==f)=(f+2==f+0) by rw[jo],nT,nT]
   cases a.again<;>rfl
  exact GS (s:=⟨f,.slot a.aK⟩) u this
 ·have R:=E 1 {}
  rw[show f+((1:aj):M)=f+1 from C]at R
  rw[GW t (ft x<|wi {}),R,L]
  refine bX a.again (λ_=>?_) λZ=>?_
  ·rfl
  ·
   have m:=J 1 {};have p:=N 1 {}
   have:eS (f+1) ([Sp.mk (f+2) (ck (f+1) (a.place-a.br) a.ci)]++im a f++[dW a f]++bQ (f+4) B)=0:=by
    rw[show f+((1:aj):M)=f+1 from C]at m p
    rw[nS,nS,nS,m,p,CZ,Z]
    show(bif f+2==f+1 then 1 else 0)+0+0+0+0=0
    rw[nT]
    rfl
   have:=GS (s:=⟨f+1,ck f a.br a.first⟩) (a:=bQ c A++[⟨f,.slot a.aK⟩]) (Lk ‹_›) this
   rw[cZ]at this
   exact this
 ·have Y:=E 2 {}
  rw[show f+((2:aj):M)=f+2 from C]at Y
  rw[GW t (ft x<|wi {}),Y,L]
  rw[show(1+(bif a.again&&1==2 then 1 else 0)==1)=D by cases a.again<;>rfl]
  have m:=J 2 {};have p:=N 2 {}
  rw[show f+((2:aj):M)=f+2 from C]at m p
  have:eS (f+2) (im a f++[dW a f]++bQ (f+4) B)=0:=by
   rw[nS,nS,m,p,CZ]
   cases a.again<;>rfl
  have:=GS (s:=⟨f+2,ck (f+1) (a.place-a.br) a.ci⟩) (a:=bQ c A++[⟨f,.slot a.aK⟩,⟨f+1,ck f a.br a.first⟩]) (wm ‹_› {}) this
  rw[cZ]at this
  exact this
noncomputable def dA(i:M):M:=(i+2147483648).fmod 4294967296-2147483648
def GX(k:M):jd k=k%4294967296:=PyProof.Rows.bitAnd_m32 k
def sS(i:M):dA i=(i+2147483648)%4294967296-2147483648:=by delta dA;exact U (arb _ {}) C
def GY(h:(i-c)%4294967296=0):dA i=dA c:=by refine U (sS ..)<|U (sS ..) ?_;lia
def xm(i c:M):dA (i+dA c)=dA (i+c):=GY<|U (sS ..) (by lia)
def GZ(k:M):dA (jd k)=dA k:=GY<|U (GX ..) (by lia)
def G0(h: -2147483648<=i/\i<2147483648):dA i=i:=by calc U (sS ..);lia
def MY(i c:M):dA (i+ -dA c)=dA (i-c):=GY<|U (sS ..) (by lia)
def Z3(i:M): -2147483648<=dA i/\dA i<2147483648:=by calc U (sS ..);lia
noncomputable def sT(i:M):M:=match aa (2147483648<=i)with|D=>i-4294967295-1|j=>i
def uO(k:M):sT (jd k)=dA k:=by unfold sT;exact U (GX ..)<|U (sS ..)<|bX (aa<|2147483648<=k%4294967296) (λh=>have:=dw h;(by lia)) (λh=>have:=wj h;(by lia))
abbrev mT(k:aj):S:=Gg.body.getD k .brk
abbrev uP(k:aj):G S:=Gg.body.drop k
def MZ:S->G S| .uq _ b=>b|_=>[]
def C0:G S:=MZ<|mT 3
def z9:G S:=dQ<|C0.getD 1 .brk
abbrev fE(k:aj):S:=z9.getD k .brk
abbrev z_(k:aj):G S:=z9.drop k
def lc(s:S):X×G X:=xl<|xa<|sx s
abbrev ec(u f l:F)(m:ak)(p r t B E J:ar V):Rho:=[vf u,vf f,vf l,q (.ref 0),vb m,p,r,t,B,E,J]
section
variable{x:F}
def Z4:am tab (n+2) 423 [.fz u] [] P=ao (Lv (n+1) 0) (uP 0) [vf u,z,z,z,z,z,z,z,z,z,z] ⋯ (runK P):=()
def M0(c:Mem)(ρ:Rho)(f:F)(P:G F->Mem->Prop):Prop:=oP (fy (.ai [.var 0,.var 1]) f<|bN 3 z++ρ) λρ'=>oP ρ'[0]? λo=>oP o λy=>oP (gH .plain y y) λl=>gd (l.length<=1000)<|gW (λf c P=>oP (fy (.var 2) f ρ') λm=>oP m[2]? λo=>oP o λv=>eQ (gE v c) λf c=>P (q f) c) l c P
def M1:S->X| .a9 _ x=>x|_=>.lit .none
def Z5:WS (Ph c 0) (mT 0) ρ f Q=WX (Ph c 0) (M1<|mT 0) ρ f λv f=>ez (Ph c 0) (.v<|.var 1) v ρ f λρ f=>Q .next ρ f:=()
def Z6:WX (Ph c 0) (M1<|mT 0) (vf (.ai [p,r,t,u,.af l,B])::ρ) m Q=gd (l.length<=1000) (lh (λf m P=>M0 m (vf (.ai [p,r,t,u,.af l,B])::ρ) f P) l m λl m=>gI j l m Q):=()
def Z7:WS (Ph c 0) (mT 1) [vf (.ai [r,.int p,t,u,B,E]),vf (.af m),z,z,z,z,z,z,z,z,z] ⋯ Q=
  fP (cT (Ph c 0) 1 (.var 0) (lc<|mT 1).1 [] [vf (.ai [r,.int p,t,u,B,E]),vf (.af m),z,z,z,z,z,z,z,z,z]) m ⋯ λl f=>gd (l.length<=aM) (gd (-1000000<=p&&p<=1000000) (gd (l.length+(fh p).length<=aM)
   (Q .next [vf (.ai [r,.int p,t,u,B,E]),vf (.af m),vf (.af<|l++fh p),z,z,z,z,z,z,z,z] f))):=()
def Z8:cT (Ph c 0) 1 (.var 0) (lc<|mT 1).1 [] ρ (pK op d args l) f R=R (q<|.int d) f:=()
def Z9:WS (Ph c 0) (mT 2) [vf u,vf l,vf m,z,z,z,z,z,z,z,z] ⋯ Q=Q .next (ec u l m D z z z z z z) {.di []}:=()
def Z_:WS (Ph c 0) (mT 3) ρ f Q=∃n,mM (λρ f P=>WX (Ph c 0) (.var 4) ρ f λx f=>ja x λb=>P b f) (λρ f P=>ao (Ph c 0) C0 ρ f P) n ρ f Q:=()
def aaa:ao (Ph c 0) C0 (ec u (.af m) l N p r t B E J) {.di L} Q=bj (aS (Ph c 0) (.ai [.var 5,.var 6,.var 7,.var 8]) z9) m (ec u (.af m) l j p r t B E J) {.di L} λo ρ f=>cf o ρ f (λρ f=>ao (Ph c 0) [] ρ f Q) Q:=()
def aab:aS (Ph c 0) (.ai [.var 5,.var 6,.var 7,.var 8]) z9 (pK op d args m) (ec u r (.af l) t J L N O B E) {.di p} Q=(match has d p with|D=>Q .cont (ec u r (.af l) t (vf<|.str op) (vi d) (vf<|.af args) (vf m) B E) {.di p}|j=>oP (gV l) λis=>match aa ((1:M)<(is.count d:aj))with|D=>Q .cont (ec u r (.af l) t (vf<|.str op) (vi d) (vf<|.af args) (vf m) B E) {.di p}|j=>ao (Ph c 0) (z_ 1) (ec u r (.af l) t (vf<|.str op) (vi d) (vf<|.af args) (vf m) B E) {.di p} Q):=()
def aac:WS (Ph c 0) (fE 1) (ec u p r t B E (vf<|.af args) J N L) {.di O} Q=fP (cT (Ph c 0) 2 (.ai [.var 0,.var 1]) (lc<|fE 1).1 (lc<|fE 1).2 (ec u p r t B E (vf<|.af args) J N L)) args {.di O} λl m=>gd (l.length<=aM) (Q .next (ec u p r t B E (vf<|.af args) J (vf<|.af l) L) m):=()
def aad:WS (Ph c 0) (fE 2) (ec u p r t B E (vf<|.af args) J L N) {.di O} Q=fP (cT (Ph c 0) 2 (.ai [.var 0,.var 1]) (lc<|fE 2).1 (lc<|fE 2).2 (ec u p r t B E (vf<|.af args) J L N)) args {.di O} λl m=>gd (l.length<=aM) (Q .next (ec u p r t B E (vf<|.af args) J L<|vf<|.af l) m):=()
def aae:cT (Ph c 0) 2 (.ai [.var 0,.var 1]) (lc<|fE 1).1 (lc<|fE 1).2 (ec u m p r t B E J L N) (b0 s) {.di l} R=(match has s l with|D=>oP (aQ s l) λx=>R (q x) {.di l}|j=>R z {.di l}):=()
def aaf:cT (Ph c 0) 2 (.ai [.var 0,.var 1]) (lc<|fE 1).1 (lc<|fE 1).2 (ec u m p r t B E J L N) (bU s) {.di l} R=R z {.di l}:=()
def aag:cT (Ph c 0) 2 (.ai [.var 0,.var 1]) (lc<|fE 2).1 (lc<|fE 2).2 (ec u m p r t B E J L N) (b0 s) {.di l} R=R z {.di l}:=()
def aah:cT (Lv (n+1) 0) 2 (.ai [.var 0,.var 1]) (lc<|fE 2).1 (lc<|fE 2).2 (ec u l m p r t B E J L) (bU k) {.di f} R=R (q<|.int<|dA k) {.di f}:=()
def aai:ao (Ph c 0) (z_ 4) (ec u m p L r (vi d) t B E J) {.di l} Q=(match L with|D=>Q .next (ec u m p D r (vi d) t B E J) {.di l}|j=>Q .next (ec u m p (has d l) r (vi d) t B E J) {.di l}):=()
abbrev p3(op:ah)(l m:G F)(rhs:Prop)(u r t:F)(B:ak)(E:ar V)(d:M)(p:F)(J:G (M×F))(Q:DK)(c:AM):Prop:=WS (Ph c 0) (fE 3) (ec u r t B (vf<|.str op) (vi d) E (vf p) (vf<|.af l)<|vf<|.af m) {.di J} Q=rhs
abbrev pP(op:ah)(l m:G F)(u r t:F)(B:ak)(E:ar V)(d:M)(p:F)(J:G (M×F))(Q:DK)(c:AM):Prop:=p3 op l m (Q .next (ec u r t B (vf<|.str op) (vi d) E (vf p) (vf<|.af l)<|vf<|.af m) {.di J}) u r t B E d p J Q c
abbrev Aa(op:ah)(l m:G F)(x:F)(u t B:F)(E:ak)(J:ar V)(d:M)(p:F)(r:G (M×F))(Q:DK)(c:AM):Prop:=p3 op l m (gd (r.length<aM)<|Q .next (ec u t B E (vf<|.str op) (vi d) J (vf p) (vf<|.af l)<|vf<|.af m) {.di (cJ d x r)}) u t B E J d p r Q c
def aaj:pP "const" l m u r t B E d p J Q c:=()
def aak:pP "load" l m u r t B E d p J Q c:=()
def aal:pP "store" l m u r t B E d p J Q c:=()
def M2:pP "move" l m u r t B E d p J Q c:=()
def aam:pP "call" l m u r t B E d p J Q c:=()
def aan:pP "name" l m u r t B E d p J Q c:=()
def aao:pP "copy" [] m u p r t B d l E Q c:=()
def M3:pP "add" [] m u p r t B d l E Q c:=()
def aap:pP "sub" [] m u p r t B d l E Q c:=()
def aaq:Aa "slot" l m (.ai [p,.int 0]) u r t B E d p J Q c:=()
def aar:Aa "copy" [x] m x u p r t B d l E Q c:=()
def M4:Aa "add" [.ai [w,.int p]] [.int k] (.ai [w,.int (dA<|p+k)]) u l m r t d f B Q (am tab<|n+1):=()
def aas:Aa "sub" [.ai [w,.int p]] [.int k] (.ai [w,.int (dA<|p+ -k)]) u l m r t d f B Q (am tab<|n+1):=()
end
def aat{u:Type}{step:F->Rho->Mem->(DK)->Prop}{g:u->F}(t:G u->Rho->Mem->Prop){all:G u}(dz:∀m a r,all=m++a::r->∀ρ c Q,t m ρ c->(∀ρ' p,t (m++[a]) ρ' p->Q .next ρ' p/\Q .cont ρ' p)->step (g a) ρ c Q)(h:t [] ρ c)(f:∀ρ' p,t all ρ' p->P .next ρ' p):bj step (all.map g) ρ c P:=by
 have:∀(l m:G u)(ρ:Rho)(c:Mem),all=m++l->t m ρ c->bj step (l.map g) ρ c P:=by intro l;induction l with|nil=>intro m ρ c e h;rw[bK]at e;subst e;exact f ρ c h|cons a l ih=>intro m ρ c e h;exact dz m a l e ρ c _ h λρ' p x=>have:=ih (m++[a]) ρ' p (U e<|U (cZ ..) C) x;⟨this,this⟩
 exact this all [] ρ c rfl h
def Ab(x:F)(k:M):ar F:=match x with| .ai [w,.int p]=>q<|.ai [w,.int (dA<|p+k)]|_=>z
def val(c:G (M×F)):Kd->ar F| .slot f=>q<|.ai [.int f,.int 0]| .l8 s=>aQ s c| .kE s k=>(aQ s c).bind λx=>Ab x<|dA k| .add s k=>(aQ s c).bind λx=>Ab x<|dA k| .sub s k=>(aQ s c).bind λx=>Ab x<|-dA k|_=>z
def fF(all:G M)(c:G (M×F)×ak)(s:Sp):G (M×F)×ak:=match has s.d c.1||aa ((1:M)<(all.count s.d:aj))with|D=>c|j=>match val c.1 s.k with|q v=>(cJ s.d v c.1,D)|z=>c
def lw(c:G (M×F)):Prop:=∀r v,aQ r c=q v->∃w p,v= .ai [w,.int p]
theorem lw.val(h:lw c):∀{k:Kd}{v:F},val c k=q v->∃w p,v= .ai [w,.int p]:=by
 have f:∀{s k v},((aQ s c).bind λx=>Ab x k)=q v->∃w p,v= .ai [w,.int p]:=by intro s k v e;cases l:aQ s c with|none=>rw[l]at e;cases e|some x=>obtain⟨w,p,rfl⟩:=h _ _ l;rw[l]at e;cases e;exact⟨_,_,C⟩
 intro k v e;cases k with|slot=>cases e;exact⟨_,_,C⟩|l8 s=>exact h _ _ e|kE=>exact f e|add=>exact f e|sub=>exact f e|_=>cases e
def lw.step(h:lw c.1)(s:Sp):lw (fF all c s).1:=by
 delta fF;refine bc (has s.d c.1||aa ((1:M)<(all.count s.d:aj))) ?_ ?_;·exact h
 ·
  refine gT (Mine.val c.1 s.k) (λ_=>?_) λv f=>?_;·exact h
  ·
   intro r x e;have e:aQ r (cJ s.d v c.1)=q x:=e;rw[pN]at e;revert e;refine bc (s.d==r) (λe=>?_) λe=>?_;·obtain rfl:=bH e;exact h.val f
   ·exact h _ _ e
def pQ(a:F):Prop:=(∃s,a=b0 s)\/∃k,a=bU k
def G1(k:Kd):∀a∈k.args,pQ a:=by
 have one:∀{x:F},pQ x->∀a∈[x],pQ a:=λh a m=>by cases m with|head=>exact h|tail _ m=>cases m
 have two:∀{x y:F},pQ x->pQ y->∀a∈[x,y],pQ a:=λh f a m=>by cases m with|head=>exact h|tail _ m=>exact one f a m
 have r:∀s,pQ (b0 s):=λs=>.inl ⟨s,C⟩;have c:∀s,pQ (bU s):=λs=>.inr ⟨s,C⟩;cases k with|slot=>exact λ_ h=>absurd h gk|ff=>exact one<|c 7|l8 s=>exact one<|r s|kE s k=>exact two (c k)<|r s|add s k=>exact two (r s)<|c k|sub s k=>exact two (r s)<|c k|load s _ _=>exact one<|r s|l9 s _=>exact two (r s)<|c 9|ma s _=>exact two (r s)<|c 64|mc s _=>exact two (c 64)<|r s|call k n l=>exact λa m=>by calc U ((Ls.mp m).2);exact c k|name=>exact λ_ h=>absurd h gk
def rh(c:G (M×F))(a:F):ar F:=match a with
 | .ai [.str s,.int i]=>match s=="r" with|D=>aQ i c|j=>z
 |_=>z
def sU(a:F):ar F:=match a with
 | .ai [.str s,.int i]=>match s=="k" with|D=>q<|.int<|dA i|j=>z
 |_=>z
section
def Ac(s:M):rh c (b0 s)=aQ s c:=()
def C4(s:M):rh c (bU s)=z:=()
def G2(s:M):sU (b0 s)=z:=()
def G3(s:M):sU (bU s)=q (.int<|dA s):=()
def aau(r:∀a∈args,pQ a)(c:P (args.filterMap<|rh p) {.di p}):gW (cT (Lv (n+1) 0) 2 (.ai [.var 0,.var 1]) (lc<|fE 1).1 (lc<|fE 1).2 (ec u t (.af l) B E J L N O R)) args {.di p} P:=by
 have:=sN (step:=cT (Lv (n+1) 0) 2 (.ai [.var 0,.var 1]) (lc<|fE 1).1 (lc<|fE 1).2 (ec u t (.af l) B E J L N O R)) (g:=id) (rh p) (c:={.di p}) (l:=args) (P:=P) (λa m Q c=>by
  rcases r a m with⟨s,rfl⟩|⟨k,rfl⟩
  ·refine aae.mpr ?_
   rw[Ac]at c;calc U (uN ..);revert c;refine oc (aQ s p) (λc=>?_) λx c=>?_;·exact c
   ·exact c
  ·rw[C4]at c;exact aaf.mpr c) c
 rwa [ars]at this
def aav(r:∀a∈args,pQ a)(c:P (args.filterMap sU) {.di p}):gW (cT (Lv (n+1) 0) 2 (.ai [.var 0,.var 1]) (lc<|fE 2).1 (lc<|fE 2).2 (ec u t (.af l) x B E J L N O)) args {.di p} P:=by
 have:=sN (step:=cT (Lv (n+1) 0) 2 (.ai [.var 0,.var 1]) (lc<|fE 2).1 (lc<|fE 2).2 (ec u t (.af l) x B E J L N O)) (g:=id) sU (c:={.di p}) (l:=args) (P:=P) (λa m Q c=>by
  rcases r a m with⟨s,rfl⟩|⟨k,rfl⟩
  ·rw[G2]at c;exact aag.mpr c
  ·rw[G3]at c;exact aah.mpr c) c
 rwa [ars]at this
end
section
def M5(s:M):[b0 s].filterMap (rh c)=(aQ s c).toList:=gT (aQ s c) (λh=>ow<|(Ac s).trans h) λx h=>qF<|(Ac s).trans h
def M6(s k:M):[b0 s,bU k].filterMap (rh c)=(aQ s c).toList:=gT (aQ s c) (λh=>U (ow<|(Ac s).trans h)<|U (ow<|C4 k) C) λx h=>U (qF<|(Ac s).trans h)<|U (ow<|C4 k) C
def aaw(s k:M):[bU k,b0 s].filterMap (rh c)=(aQ s c).toList:=U (ow<|C4 k)<|M5 s
def M7(s k:M):[b0 s,bU k].filterMap sU=[.int (dA k)]:=U (ow<|G2 s)<|U (qF<|G3 k) C
def aax(s k:M):[bU k,b0 s].filterMap sU=[.int (dA k)]:=U (qF<|G3 k)<|U (ow<|G2 s) C
def xn(c:G (M×F))(d:M)(o:ar F):G (M×F):=o.elim c λv=>cJ d v c
def M8(u f l:F)(m:ak)(d:M)(k:Kd)(p:G (M×F))(r:ar V):Rho:=ec u f l m (vf<|.str k.op) (vi d) r (vf k.more) (vf<|.af<|k.args.filterMap<|rh p)<|vf<|.af<|k.args.filterMap sU
section
def aay(t:aa (p.length<aM)=D)(B:l=(aQ s p).toList)(c:Q .next (ec u E J L (vf<|.str "copy") (vi d) N (vf r) (vf<|.af l)<|vf<|.af m) {.di (xn p d<|aQ s p)}):WS (Lv (n+1) 0) (fE 3) (ec u E J L (vf<|.str "copy") (vi d) N (vf r) (vf<|.af l)<|vf<|.af m) {.di p} Q:=by subst B;revert c;exact oc (aQ s p) (λc=>aao.mpr c) λx c=>aar.mpr<|aE t c
def G4(N:lw t)(O:aa (t.length<aM)=D)(P:pP op [] [.int i] u B E J L d r t Q (am tab<|n+1))(z1:∀w p,Aa op [.ai [w,.int p]] [.int i] (.ai [w,.int (dA<|p+k)]) u B E J L d r t Q (am tab<|n+1))(R:l=(aQ s t).toList)(Y:m=[.int i])(f:Q .next (ec u B E J (vf<|.str op) (vi d) L (vf r) (vf<|.af l)<|vf<|.af m) {.di (xn t d<|(aQ s t).bind λx=>Ab x k)}):WS (Lv (n+1) 0) (fE 3) (ec u B E J (vf<|.str op) (vi d) L (vf r) (vf<|.af l)<|vf<|.af m) {.di t} Q:=by subst R Y;revert f;exact gT (aQ s t) (λ_ f=>P.mpr f) λx h=>dZ (N _ _ h) λw p e=>U e λf=>(z1 w p).mpr<|aE O f
end
def aaz(p:lw l)(r:l.length<=1000)(c:Q .next (M8 u t x B d k l E) {.di (xn l d<|val l k)}):WS (Lv (n+1) 0) (fE 3) (M8 u t x B d k l E) {.di l} Q:=by have m:aa (l.length<aM)=D:=d_<|aG r {};cases k with|slot J=>exact aaq.mpr<|aE m c|ff=>exact aaj.mpr c|load=>exact aak.mpr c|l9=>exact aal.mpr c|ma=>exact M2.mpr c|mc=>exact M2.mpr c|call=>exact aam.mpr c|name=>exact aan.mpr c|l8 s=>exact aay m (M5 s) c|kE s k=>exact G4 p m M3 (λ_ _=>M4) (aaw s k) (aax s k) c|add s k=>exact G4 p m M3 (λ_ _=>M4) (M6 s k) (M7 s k) c|sub s k=>exact G4 p m aap (λ_ _=>aas) (M6 s k) (M7 s k) c
def C5(u l:F)(m:G M)(Q:DK)(f:G (M×F)×ak):Prop:=∀p r t x B E,Q .next (ec u l (.af<|bP m) f.2 p r t x B E) {.di f.1}/\Q .cont (ec u l (.af<|bP m) f.2 p r t x B E) {.di f.1}
def M9(h:has s.d c.1=D\/aa ((1:M)<(f.count s.d:aj))=D):fF f c s=c:=by delta fF;exact h.elim (λh=>U h C) λh=>U h<|U (Fm ..) C
def aaA(h:has s.d c.1=j)(f:aa ((1:M)<(l.count s.d:aj))=j):fF l c s=(xn c.1 s.d<|val c.1 s.k,(val c.1 s.k).isSome||c.2):=by delta fF;exact U h<|U f<|oc (val c.1 s.k) C λ_=>C
def aaB(h:has d c=j)(v:ar F):has d (xn c d v)=v.isSome:=oc v h λx=>(uN ..).trans<|(az Lu<|pN ..).trans<|U (jB d) C
def aaC(L:lw m)(N:m.length<=1000)(B:s.k.args.length<=4)(c:C5 u t r Q (fF r (m,p) s)):aS (Lv (n+1) 0) (.ai [.var 5,.var 6,.var 7,.var 8]) z9 s.F (ec u t (.af<|bP r) p O P R Y Z a6) {.di m} Q:=by
 refine aab.mpr (bX (has s.d m) (λx=>((M9 (c:=(m,p)) (.inl x)▸c:C5 u t r Q (m,p)) _ _ _ _ _ _).2) λx=>ig (zC r) (bX (aa<|(1:M)<(r.count s.d:aj)) (λE=>((M9 (c:=(m,p)) (.inr E)▸c:C5 u t r Q (m,p)) _ _ _ _ _ _).2) λE=>have J:∀f:F->ar F,aa ((s.k.args.filterMap f).length<=aM)=D:=λf=>cy (aG (Uc _ _)<|aG B {});bq (s:=fE 1) (r:=z_ 2) C (aac.mpr<|h_ (aG B {})<|aau (G1 _)<|aE (J _)<|aF<|bq (s:=fE 2) (r:=z_ 3) C<|aad.mpr<|h_ (aG B {})<|aav (G1 _)<|aE (J _)<|aF<|bq (s:=fE 3) (r:=z_ 4) C<|aaz (k:=s.k) L N<|aF<|aai.mpr ?_)));have c:=((aaA (c:=(m,p)) x E▸c:C5 u t r Q (xn m s.d<|val m s.k,(val m s.k).isSome||p)) (vf<|.str s.k.op) (vi s.d) (vf<|.af s.k.args) (vf s.k.more) (vf<|.af<|s.k.args.filterMap<|rh m)<|vf<|.af<|s.k.args.filterMap sU).1;revert c;refine bc p (λc=>?_) λc=>?_;·rw[Fm]at c;exact c
 ·rw[ark,<-aaB x]at c;exact c
def fL(c:G M)(f:G (M×F))(m:ak)(l:G Sp):G (M×F)×ak:=l.foldl (fF c) (f,m)
def C6(c:G M)(f:G (M×F))(m:ak)(l:G Sp)(s:Sp):fL c f m (l++[s])=fF c (fL c f m l) s:=by delta fL;calc U yP;rfl
def M_(f:G M)(c:G (M×F)×ak)(s:Sp):(fF f c s).1.length<=c.1.length+1:=by delta fF;exact bc (has s.d c.1||aa ((1:M)<(f.count s.d:aj))) (jV _)<|oc (Mine.val c.1 s.k) (jV _) λv=>zU _ _ _
def PaI(u:F)(m:G M)(p:G (M×F))(l f:G Sp)(ρ:Rho)(c:Mem):Prop:=∃r t x B E J,lw (fL m p j f).1/\(fL m p j f).1.length<=p.length+f.length/\ρ=ec u (.af<|l.map Sp.F) (.af<|bP m) (fL m p j f).2 r t x B E J/\c={.di (fL m p j f).1}
def Na(Y:lw N)(Z:N.length+l.length<=1000)(hs:∀s∈l,s.k.args.length<=4)(e:fL O N j l=r)(c:∀t x B E J L,Q .next (ec u (.af<|l.map Sp.F) (.af<|bP O) r.2 t x B E J L) {.di r.1}):ao (Lv (n+1) 0) C0 (ec u (.af<|l.map Sp.F) (.af<|bP O) go t x B E J L) {.di N} Q:=by subst e;exact aaa.mpr<|aat (PaI u O N l) (λP a r e ρ f Q R hq=>wG R λt x B E m=>dZ m λJ L m=>have p:=uM e;U m.2.2.1 (U m.2.2.2<|aaC m.1 (aG m.2.1<|aG (sk (sq p.1) _) Z) (hs a p.2) λt x B E J L=>hq _ _<|Co t x B E<|jE J L (C6 .. ▸m.1.step a) (C6 .. ▸aG (M_ _ _ _) (U (bO (as:=P) (bs:=[a]))<|mD m.2.1)) (C6 .. ▸C)<|C6 .. ▸C)) (Co t x B E<|jE J L Y (bR _) C rfl) λρ f R=>wG R λt x B E m=>dZ m λJ L m=>U m.2.2.1<|U m.2.2.2<|aF<|gw<|c _ _ _ _ _ _
end
def nU(f:M):Gr->G (M×F)
 | .acc a=>(f,.ai [.int a.aK,.int 0])::match a.again with|D=>[]|j=>[(f+1,.ai [.int a.aK,.int (dA a.br)]),(f+2,.ai [.int a.aK,.int a.place])]
 |_=>[]
def eJ:M->G Gr->G (M×F)|_,[]=>[]|f,g::r=>nU f g++eJ (f+4) r
def xo(r:M)(b:G (M×F)):∀a:G (M×F),aQ r (a++b)=(aQ r a).or (aQ r b):=by
 intro c;induction c with
 |nil=>exact C
 |cons e a ih=>
  show(match e.1==r with|D=>q e.2|j=>aQ r<|a++b)=(match e.1==r with|D=>q e.2|j=>aQ r a).or (aQ r b);refine bc (e.1==r) ?_ ?_;·rfl
  ·exact ih
def G5:∀{l:G (M×F)},(∀e∈l,e.1≠r)->aQ r l=z:=by intro l;induction l with|nil=>intro _;rfl|cons e l ih=>intro h;show(match e.1==r with|D=>q e.2|j=>aQ r l)=z;exact U (yR<|h e<|.head _)<|ih λx c=>h x<|.tail _ c
def aaE:∀{l:G (M×F)},aQ m l=z->cJ m v l=l++[(m,v)]:=by
 intro l;induction l with
 |nil=>intro _;rfl
 |cons e l ih=>
  intro h;have h:(match e.1==m with|D=>q e.2|j=>aQ m l)=z:=h;show(match e.1==m with|D=>(e.1,v)::l|j=>e::cJ m v l)=_;revert h;refine bc (e.1==m) (λh=>?_) λh=>?_;·injection h
  ·exact U (ih h) C
def aaF(f:M)(g:Gr):∀e∈nU f g,f<=e.1/\e.1<f+3:=by have c:∀i:M,0<=i->i<3->f<=f+i/\f+i<f+3:=λi a b=>⟨wi a,yQ b f⟩;cases g with|acc a=>exact wk.mpr ⟨⟨B8 _,Ua f {}⟩,bc a.again (λ_ h=>absurd h gk)<|wk.mpr ⟨c 1 {} {},qG.mpr<|c 2 {} {}⟩⟩|call=>exact λ_ h=>absurd h gk|name=>exact λ_ h=>absurd h gk
def G6:∀(l:G Gr)(f:M),∀e∈eJ f l,f<=e.1/\e.1<f+4*l.length:=by
 intro l;induction l with
 |nil=>intro f e c;contradiction
 |cons g l ih=>
  refine λf e c=>U eX ?_;rcases i7.mp c with c|c
  ·exact have h:=aaF f g e c;Mp ⟨h.1,Lr h.2<|yQ {} f⟩
  ·exact Mq<|ih _ e c
def Nb:∀(a b:G Gr)(f:M),eJ f (a++b)=eJ f a++eJ (f+4*a.length) b:=by intro a;induction a with|nil=>intro b f;refine U B9<|U (arn ..)<|U (jo ..) ?_;rfl|cons g a ih=>intro b f;show nU f g++eJ (f+4) (a++b)=(nU f g++eJ (f+4) a)++eJ (f+4*((a.length+1:aj):M)) b;refine U (ih ..)<|U (cZ ..)<|U (aro ..)<|U (arp ..)<|U (Eq.symm<|TZ ..)<|U (arq ..) ?_;rfl
def C7{c f:M}(m:f=c+4*A.length)(i:aj)(p:i<3):aQ (f+i) (eJ c<|A++ .acc a::B)=aQ (f+i) (nU f<|.acc a):=by refine U (Nb ..)<|U (Eq.symm m)<|U (xo ..)<|U (xo ..)<|U (G5 (l:=eJ c A) λe l=>Ub<|ou (G6 _ _ e l).2 (m▸wi (gB i)))<|U (G5 (l:=eJ (f+4) B) λe l=>Fe<|ou (yQ (Lr (sm.mpr p) {}) f) (G6 _ _ e l).1) ?_;cases aQ (f+i) (nU f<|.acc a)<;>rfl
def aaG(a:d6)(f:M):aQ f (nU f<|.acc a)=q (.ai [.int a.aK,.int 0]):=by show(match f==f with|D=>q (F.ai [.int a.aK,.int 0])|j=>_)=_;exact U (jB ..) C
def G7(a:d6)(f i:M)(c:(0==i)=j):aQ (f+i) (nU f<|.acc a)=bif a.again then z else(match 1==i with|D=>q (.ai [.int a.aK,.int (dA a.br)])|j=>match 2==i with|D=>q (.ai [.int a.aK,.int a.place])|j=>z):=by
 show(match f==f+i with|D=>_|j=>aQ (f+i) (match a.again with|D=>[]|j=>_))=_;rw[show(f==f+i)=(f+0==f+i) by rw[jo],nT,c];refine bc a.again ?_ ?_;·rfl
 ·show(match f+1==f+i with|D=>_|j=>match f+2==f+i with|D=>_|j=>z)=_;rw[nT,nT];rfl
def Nc(h:aQ s c=q (.ai [w,.int p]))(f:dA p=p):val c (ck s k t)=q (.ai [w,.int (dA<|p+k)]):=by
 delta ck;cases l:k==0&&t==3 with
 |true=>exact have:k=0:=eq_of_beq (ue.mp l).1;U this (U (jo ..)<|U f h)
 |false=>
  cases t==1 with
  |true=>show(aQ s c).bind _=_;calc U h;show q (F.ai [w,.int (dA<|p+dA (jd k))])=_;exact U (GZ ..)<|U (xm ..) C
  |false=>
       refine bc (t==2) ?_ ?_;·show(aQ s c).bind _=_;calc U h;show q (F.ai [w,.int (dA<|p+ -dA (jd<|-k))])=_;exact U (GZ ..)<|U (MY ..)<|U (art ..) C
       ·show(aQ s c).bind _=_;calc U h;show q (F.ai [w,.int (dA<|p+dA (jd k))])=_;exact U (GZ ..)<|U (xm ..) C
def Nd(h:aQ s c=z):val c (ck s k t)=z:=by
 delta ck;cases k==0&&t==3 with
 |true=>exact h
 |false=>
      refine bc (t==1) ?_ ?_;·show(aQ s c).bind _=_;calc U h;rfl
      ·refine bc (t==2) ?_ ?_
       ·show(aQ s c).bind _=_;calc U h;rfl
       ·show(aQ s c).bind _=_;calc U h;rfl
def sV(h:val c.1 s.k=z):fF f c s=c:=by delta fF;calc U h;cases has s.d c.1||aa ((1:M)<(f.count s.d:aj))<;>rfl
def Ad(h:aQ s.d c.1≠z\/1<f.count s.d):fF f c s=c:=by
 delta fF;rcases h with h|h
 ·exact U (uN ..)<|U (ar.isSome_iff_ne_none.mpr h) C
 ·exact U (show aa ((1:M)<(f.count s.d:aj))=D from de<|sm.mpr h)<|U (Fm ..) C
def G8(h:aQ s.d c.1=z)(f:l.count s.d=1)(m:val c.1 s.k=q v):fF l c s=(c.1++[(s.d,v)],D):=by delta fF;refine U (uN ..)<|U h<|U f<|U m ?_;show(cJ s.d v c.1,D)=_;exact U (aaE h) C
def aaH(c:G (M×F))(a:d6)(f:M):val c (dW a f).k=z:=by
 delta dW;cases aa (a.bf<2)with
 |true=>rfl
 |false=>
      refine bc (aa<|a.bf<4) ?_ ?_;·rfl
      ·cases a.bf==4<;>rfl
def G9(c:G M)(f:G (M×F))(l:ak)(a b:G Sp):fL c f l (a++b)=b.foldl (fF c) (fL c f l a):=by delta fL;exact U yP C
def Nf(l:G M)(c:G (M×F)×ak)(a:d6)(f:M):(im a f++[dW a f]).foldl (fF l) c=c:=by
 refine have m:∀c,[dW a f].foldl (fF l) c=c:=λc=>sV (aaH _ _ _);U yP (U (m ..) ?_);delta im;refine bc a.again ?_ ?_;·exact sV (s:=⟨f+1,.ff⟩) C
 ·rfl
noncomputable def sW(c:M):G M:=(jn c.toNat).map λi:aj=>(i:M)
noncomputable def oY(c:M)(l:G Sp):G M:=l.map Sp.d++sW c
def aaI(m:c<=r)(p:0<=c):(sW c).count r=0:=by refine G.count_eq_zero.mpr λh=>av (mE.mp h) λi f l=>?_;clear h;subst l;exact have:=Fo.mp f;(by lia)
def aaJ(r:M):∀l:G Sp,(l.map Sp.d).count r=eS r l:=by intro c;induction c with|nil=>exact C|cons s l ih=>refine U uc<|U G.count_cons<|U (ih) ?_;show _=(bif s.d==r then 1 else 0)+eS r l;calc U (tW ..);cases s.d==r<;>rfl
def aaK(f:c<=r)(m:0<=c)(l:G Sp):(oY c l).count r=eS r l:=by refine U G.count_append<|U (aaI f m)<|U (aaJ ..) ?_;rfl
structure G_(al:G M)(f:M)(a:d6):Prop where
 c0:al.count f=1
 c1:al.count (f+1)=bif a.again then 2 else 1
 c2:al.count (f+2)=1
def Ng(m:0<=c)(h:fi u c (A++ .acc a::B))(r:f=c+4*A.length):G_ (oY c<|bQ c<|A++ .acc a::B) f a:=by have l:∀i:aj,i<3->(oY c<|bQ c<|A++ .acc a::B).count (f+i)=1+bif a.again&&1==i then 1 else 0:=λi t=>U (aaK (by lia) m ..)<|U ((GV m h (by lia) (by lia)).2.2)<|U (Eq.symm r)<|MX a (by lia) i t;have p:=l 0 {};rw[B9,jo]at p;exact⟨p.trans (by cases a.again<;>rfl),(l 1 {}).trans (by cases a.again<;>rfl),(l 2 {}).trans (by cases a.again<;>rfl)⟩
def aaL(h:a.again=D):nU f (.acc a)=[(f,.ai [.int a.aK,.int 0])]:=by show(f,_)::(match a.again with|D=>[]|j=>_)=_;exact U h C
def aaM(h:a.again=j):nU f (.acc a)=[(f,.ai [.int a.aK,.int 0]),(f+1,.ai [.int a.aK,.int (dA a.br)]),(f+2,.ai [.int a.aK,.int a.place])]:=by show(f,_)::(match a.again with|D=>[]|j=>_)=_;exact U h C
def aaN(p:G_ l f a)(E:jG a)(t:∀r,f<=r->aQ r c=z):fL l c x (a.bo f)=(c++nU f (.acc a),D):=by
 have B:∀i:M,(0==i)=j->aQ (f+i) (c++[(f,F.ai [.int a.aK,.int 0])])=aQ (f+i) c:=λi J=>by rw[xo,show aQ (f+i) [(f,F.ai [.int a.aK,.int 0])]=z by show(match f==f+i with|D=>_|j=>z)=z;rw[show(f==f+i)=(f+0==f+i) by rw[jo],nT,J]];cases aQ (f+i) c<;>rfl
 show fL l c x ([⟨f,.slot a.aK⟩,⟨f+1,ck f a.br a.first⟩,⟨f+2,ck (f+1) (a.place-a.br) a.ci⟩]++im a f++[dW a f])=_;rw[cZ,G9,Nf];show fF l (fF l (fF l (c,x) ⟨f,.slot a.aK⟩) ⟨f+1,ck f a.br a.first⟩) ⟨f+2,ck (f+1) (a.place-a.br) a.ci⟩=_;rw[G8 (s:=⟨f,.slot a.aK⟩) (t f<|B8 _) p.c0 C];have L:val (c++[(f,F.ai [.int a.aK,.int 0])]) (ck f a.br a.first)=q (.ai [.int a.aK,.int (dA a.br)]):=by have:=Nc (c:=c++[(f,F.ai [.int a.aK,.int 0])]) (s:=f) (k:=a.br) (t:=a.first) (p:=0) (w:=.int a.aK) (by rw[xo,t f (B8 _)];show(match f==f with|D=>q (F.ai [.int a.aK,.int 0])|j=>z)=_;rw[jB]) (by rw[sS];rfl);rw[Lw]at this;exact this
 have u:aQ (f+1) (c++[(f,F.ai [.int a.aK,.int 0])])=z:=(B 1 C).trans<|t _ (by lia);have N:aQ (f+2) (c++[(f,F.ai [.int a.aK,.int 0])])=z:=(B 2 C).trans<|t _ (by lia);refine bX a.again (λm=>?_) λm=>?_;·rw[aaL m,Ad (s:=⟨f+1,ck f a.br a.first⟩) (.inr (by rw[p.c1,m];decide))];exact sV (c:=(c++[(f,F.ai [.int a.aK,.int 0])],D)) (s:=⟨f+2,ck (f+1) (a.place-a.br) a.ci⟩)<|Nd u
 ·
  rw[G8 (s:=⟨f+1,ck f a.br a.first⟩) u (by rw[p.c1,m];rfl) L];have P:=E.place;have l1:∀i:M,aQ (f+i) [(f+1,F.ai [.int a.aK,.int (dA a.br)])]=match 1==i with|D=>q (.ai [.int a.aK,.int (dA a.br)])|j=>z:=λi=>by show(match f+1==f+i with|D=>_|j=>z)=_;rw[nT]
  have O:val ((c++[(f,F.ai [.int a.aK,.int 0])])++[(f+1,F.ai [.int a.aK,.int (dA a.br)])]) (ck (f+1) (a.place-a.br) a.ci)=q (.ai [.int a.aK,.int a.place]):=by have:=Nc (c:=(c++[(f,F.ai [.int a.aK,.int 0])])++[(f+1,F.ai [.int a.aK,.int (dA a.br)])]) (s:=f+1) (k:=a.place-a.br) (t:=a.ci) (p:=dA a.br) (w:=.int a.aK) (by rw[xo,u,l1];rfl)<|G0<|Z3 _;rw[show dA a.br+(a.place-a.br)=(a.place-a.br)+dA a.br from Ud _ _,xm,M.sub_add_cancel,G0 (i:=a.place) ⟨by exact z5,by exact z3⟩]at this;exact this
  rw[G8 (s:=⟨f+2,ck (f+1) (a.place-a.br) a.ci⟩) (by rw[xo,N,l1];rfl) p.c2 O];show(((c++[(f,_)])++[(f+1,_)])++[(f+2,_)],D)=_;rw[aaM m,cZ,cZ];rfl
def aaO(t:G_ l f a)(u:aQ f c≠z)(x:aQ (f+1) c=z\/a.again=j)(r:a.again=j->aQ (f+1) c≠z/\aQ (f+2) c≠z):fL l c p (a.bo f)=(c,p):=by
 show fL l c p ([⟨f,.slot a.aK⟩,⟨f+1,ck f a.br a.first⟩,⟨f+2,ck (f+1) (a.place-a.br) a.ci⟩]++im a f++[dW a f])=_;refine U (cZ ..)<|U (G9 ..)<|U (Nf ..) ?_;show fF l (fF l (fF l (c,p) ⟨f,.slot a.aK⟩) ⟨f+1,ck f a.br a.first⟩) ⟨f+2,ck (f+1) (a.place-a.br) a.ci⟩=_;calc U (Ad (s:=⟨f,.slot a.aK⟩)<|.inl u);refine bX a.again (λm=>?_) λm=>?_;·rw[Ad (s:=⟨f+1,ck f a.br a.first⟩) (.inr (by rw[t.c1,m];decide))];exact sV (s:=⟨f+2,ck (f+1) (a.place-a.br) a.ci⟩)<|Nd (x.elim id λe=>by rw[m]at e;injection e)
 ·rw[Ad (s:=⟨f+1,ck f a.br a.first⟩) (.inl (r m).1),Ad (s:=⟨f+2,ck (f+1) (a.place-a.br) a.ci⟩) (.inl (r m).2)]
def Ha:∀{a:G Gr}{b:G Gr}{f:M},fi c f a->fi c (f+4*a.length) b->fi c f (a++b):=by intro a;induction a with|nil=>intro b f _ h;rw[show f+4*(([]:G Gr).length:M)=f from jo f]at h;exact h|cons x a ih=>intro b f h l;cases h with|cons m p=>exact .cons m<|ih p (by rw[show f+4+4*(a.length:M)=f+4*((x::a).length:M) by rw[eX];lia];exact l)
def aaP(h:nO l p c m):∃f,fi l c f/\gx (oR c m)=bQ c f/\f.length<=4:=by cases h with|one a b=>exact(cN _ a (bK _)<|FP)|two a b _ d e=>refine(cN _ (Ha a d) (U (z6 ..) ?_)<|U bO<|q3 (And.right ‹_›)<|And.right ‹_›);show _++(_++[])=_;exact U (bK ..) C
def Ni(c:G M)(f:G (M×F))(l:ak)(a b:G Sp):fL c f l (a++b)=fL c (fL c f l a).1 (fL c f l a).2 b:=by calc U (G9 ..);rfl
def aaQ{c r:M}(h:c+4*A.length<=r):aQ r (eJ c A)=z:=G5 λe f=>by have:=G6 _ _ e f;lia
def aaR(J:0<=f)(t:fi O f p):∀(r A:G Gr)(l:ak),p=A++r->∃u,fL (oY f<|bQ f p) (eJ f A) l (bQ (f+4*A.length) r)=(eJ f p,u):=by
 intro r;induction r with
 |nil=>intro A l e;rw[bK]at e;subst e;exact⟨l,C⟩
 |cons g r ih=>
  intro A l e;have m:=λl=>ih (A++[g]) l<|U e<|U (cZ ..) C;have E:f+4*((A++[g]).length:M)=f+4*(A.length:M)+4:=by refine U bO<|U sr ?_;lia
  rw[E]at m;refine U (xk ..)<|U (Ni ..) ?_;have step:∃x,fL (oY f<|bQ f p) (eJ f A) l (g.bo<|f+4*A.length)=(eJ f<|A++[g],x):=by
   have B:eJ f (A++[g])=eJ f A++nU (f+4*A.length) g:=by calc U (Nb ..);show _++(_++[])=_;exact U (bK ..) C
   clear E;cases g with|acc a=>rw[e]at t⊢;exact have:=aaN (x:=l) (Ng J t C) t.split.2.1 λr L=>aaQ L;⟨D,this.trans<|U B C⟩|call c=>exact⟨l,(sV C).trans<|U B<|U (bK ..) C⟩|name P k=>exact⟨l,(sV C).trans<|U B<|U (bK ..) C⟩
  exact Exists.elim step λx N=>U N<|m x
def aaT(L:0<=f)(B:fi N f l):∀(r A:G Gr),l=A++r->fL (oY f<|bQ f l) (eJ f l) p (bQ (f+4*A.length) r)=(eJ f l,p):=by
 intro r;induction r with
 |nil=>intro A _;rfl
 |cons g r ih=>
  intro A e;have m:=ih (A++[g])<|U e<|U (cZ ..) C;have E:f+4*((A++[g]).length:M)=f+4*(A.length:M)+4:=by refine U bO<|U sr ?_;lia
  rw[E]at m;refine U (xk ..)<|U (Ni ..) ?_;have step:fL (oY f<|bQ f l) (eJ f l) p (g.bo<|f+4*A.length)=(eJ f l,p):=by
   clear E;cases g with
   |acc a=>
    have t:=C7 (A:=A) (B:=r) (a:=a) (c:=f) C 0 {};have l1:=C7 (A:=A) (B:=r) (a:=a) (c:=f) C 1 {};have l2:=C7 (A:=A) (B:=r) (a:=a) (c:=f) C 2 {};rw[B9,jo,aaG]at t;have l1:=l1.trans<|G7 a _ 1 C;have l2:=l2.trans<|G7 a _ 2 C;rw[<-e]at t l1 l2;rw[e]at B;have J:=Ng L B C;rw[<-e]at J;refine aaO J (U t<|Ue _) ?_ λu=>?_;·cases u:a.again with|true=>rw[u]at l1;exact .inl l1|false=>exact .inr C
    ·rw[u]at l1 l2;exact⟨λx=>Ue _<|l1.symm.trans x,λx=>Ue _<|l2.symm.trans x⟩
   |call c=>exact sV C
   |name O k=>exact sV C
  exact U step m
def aaU:∀(p:G Gr)(f:M),fi x f p->∀s∈bQ f p,s.k.args.length<=4:=by have l:∀{n:aj},n.ble 4=D->n<=4:=yS;intro p;induction p with|nil=>intro f _ s h;contradiction|cons g p ih=>intro f h;cases h with|cons r u=>refine Lp.mpr ⟨?_,ih _ u⟩;cases g with|acc a=>exact have m:∀s k t,(ck s k t).args.length<=4:=λs k t=>MH (P:=λk=>k.args.length<=4) (l C) (l C) (l C) (l C);GC (P:=λs=>s.k.args.length<=4) (l C) (m ..) (m ..) (l C) (GB (P:=λs=>s.k.args.length<=4) (l C) (l C) (l C)<|l C)|call c=>exact qG.mpr<|U (P:=(· <=4)) oy r.n|name=>exact qG.mpr (by show 0<=4;decide)
def aaV{step:F->Mem->(G F->Mem->Prop)->Prop}(h:step f c λo c=>lh step r c λl c=>P (o++l) c):lh step (f::r) c P:=h
def aaW:∀(m:G Bk){P:G F->Mem->Prop},(∀b∈m,b.bo.length<=1000)->P ((gx m).map Sp.F) c->lh (λf c P=>M0 c ρ f P) (m.map Bk.F) c P:=by intro m;induction m with|nil=>intro P _ l;exact l|cons b m ih=>intro P p l;calc aaV;refine aE (de (by refine U (bx ..) ?_;exact p b<|.head _)) ?_;refine lq (h:=Sp.F) (λa _ Q l=>l)<|ih (λx r=>p x<|.tail _ r) ?_;calc U (Eq.symm fx);exact l
def pR(h:l ρ c λb c=>match b with|D=>f ρ c λo ρ c=>nK o ρ c (λρ c=>mM l f n ρ c P) P|j=>P .next ρ c):mM l f (n+1) ρ c P:=h
section
def aaX(f:G M)(l:G Sp):lw (fL f [] j l).1/\(fL f [] j l).1.length<=l.length:=by
 have:∀(r:G Sp)(c:G (M×F)×ak)(k:aj),lw c.1->c.1.length<=k->lw (r.foldl (fF f) c).1/\(r.foldl (fF f) c).1.length<=k+r.length:=by intro r;induction r with|nil=>intro c k h m;exact⟨h,m⟩|cons s r ih=>intro c k h m;have:=ih (fF f c s) (k+1) (h.step s)<|aG (M_ _ _ _)<|mD m;calc U eX;exact⟨this.1,aG this.2 (by lia)⟩
 have:=this l ([],j) 0 (λr v e=>by injection e)<|bR _;rw[kq]at this;exact this
def C8{k:ak->Mem->Prop}:(WX (Ph c 0) (.var 4) (ec u p (.af<|bP r) m t B E J L N) l λx l=>ja x λb=>k b l)=k m l:=()
def Nj:ao (Lv (n+1) 0) (uP 4) (ec u p (.af<|bP r) t x B E J L N) {.di l} (runK<|aZ [] m f)=f (.ret<|.fz<|.di l) m:=()
def Hc(c:M):fh c=bP (sW c):=by delta fh sW bP;calc U lW;rfl
theorem Nk:∀{c:G Bk},b∈c->b.bo.length<=(gx c).length|x::c,h=>by calc U bO;exact(i6.mp h).elim (λe=>e▸mB _ _) λh=>aG (Nk h)<|yN _ _
def aaY(args:∀s∈l,s.k.args.length<=4)(p:l.length<=20)(x:fL t [] j l=(m,B))(E:fL t m j l=(m,j))(J:lw m)(L:m.length<=20)(c:f (.ret<|.fz<|.di m) N):ao (Lv (n+1) 0) (uP 2) [vf u,vf (.af<|l.map Sp.F),vf (.af<|bP t),z,z,z,z,z,z,z,z] ⋯ (runK<|aZ [] N f):=by refine bq (s:=mT 2) (r:=uP 3) C<|Z9.mpr<|aF<|bq (s:=mT 3) (r:=uP 4) C<|Z_.mpr ⟨3,pR<|C8.mpr (Na (λr v e=>by injection e) (aG (cY<|kq _)<|aG p {}) args x λO P Q R Y Z=>b6 ?_)⟩;cases B with|false=>exact pR<|C8.mpr<|aF<|Nj.mpr c|true=>exact pR<|C8.mpr (Na J (aG (iC L p) {}) args E λO P Q R Y Z=>b6<|pR<|C8.mpr<|aF<|Nj.mpr c)
def aaZ:l.map (λs:Sp=>F.int s.d)++fh c=bP (oY c l):=by unfold oY bP;rw[Hc,fx,lW];rfl
def up3(h:0<=c/\c<3):(aa (-1000000<=c)&&aa (c<=1000000))=D:=zm (ft {} h.1)<|ft (qE h.2) {}
def Nl(u:0<=p/\p<3)(x:fi hs p r)(B:gx t=bQ p r)(hl:r.length<=4)(R:t.length<=1000)(c:f (.ret<|.fz<|.di<|eJ p r) Y):am tab (n+2) 423 [.fz (.ai [Z,.int p,a3,a4,.af (t.map Bk.F),a5])] [] (aZ [] Y f):=by have m:(gx t).length<=20:=B▸aG (uK r p) (by lia);have l:p+4*((([]:G Gr).length:aj):M)=p:=jo p;have N:=aaR u.1 x r [] j rfl;have O:=aaT u.1 x (p:=j) r [] C;rw[l,<-B]at N O;exact N.elim λE(J:fL (oY p<|gx t) [] j (gx t)=(eJ p r,E))=>have P:=aaX (oY p<|gx t)<|gx t;have args:∀s∈gx t,s.k.args.length<=4:=B▸aaU r p x;have g:=aaY (n:=n) (u:=.ai [Z,.int p,a3,a4,.af (t.map Bk.F),a5]) args m J O (show lw (eJ p r,E).1 from J▸P.1) (aG (show(eJ p r,E).1.length<=_ from J▸P.2) m) c;Z4.mpr (bq (s:=mT 0) (r:=uP 1) C<|Z5.mpr<|Z6.mpr<|aE (de<|aG (cY<|bx ..) R)<|aaW t (λb hb=>aG (Nk hb)<|aG m {})<|aE (cy<|aG (cY<|bx ..)<|aG m {})<|aF (have L:(fh p).length<=3:=aG (cY<|(bx ..).trans Fp)<|y1 u.2;bq (s:=mT 1) (r:=uP 2) C (Z7.mpr<|h_ (aG (cY<|bx ..)<|aG m {})<|lq (h:=λs:Sp=>.int s.d) (λa _ Q c=>Z8.mpr c)<|aE (cy<|aG (cY<|bx ..)<|aG m {})<|aE (up3 u)<|aE (cy<|aG (iC (aG (cY<|bx ..) m) L) {})<|aF<|aaZ▸g)))
end
abbrev Af(k:aj):S:=F6.body.getD k .brk
abbrev Nm(k:aj):G S:=F6.body.drop k
def spT:G S:=dQ<|Af 1
abbrev xp(k:aj):G S:=Mm.body.drop k
abbrev jv(S:G (M×F))(r p:M)(m u l:ar V):Rho:=[vf (.di S),vi r,vi p,m,u,l]
section
variable{c:AM}{n:aj}{S:G (M×F)}{r p t d s k:M}{m u l:ar V}{Q:DK}{a:F}
def aa2:am tab (n+1) 218 [.fz (.int i)] f P=(match aa (2147483648<=i)with|D=>P (.ret<|.fz<|.int<|i-4294967295-1) ⟨f,[]⟩|j=>P (.ret<|.fz<|.int i) ⟨f,[]⟩):=()
def C9:am tab (n+1) 218 [.fz (.int i)] f P=P (.ret<|.fz<|.int<|sT i) ⟨f,[]⟩:=by calc U aa2;delta sT;cases aa (2147483648<=i)<;>rfl
def C_:am tab (n+1) 256 [.fz x] [] P=ao (Ph (am tab n) 0) (xp 0) [vf x,z,z,z] ⋯ (runK P):=()
def aa3:ao (Ph c 0) (xp 0) [vf (Sp.mk d<|.l8 s).I,z,z,z] ⋯ (runK P)=P (.ret<|.fz<|.ai [.int s,.int 0]) ⋯:=()
def xq(c:AM)(J a b:F)(P:bL->Mem->Prop)(r:bL)(L:G FObj):Prop:=cW r λv=>ez (Ph c 0) (.v<|.var 3) v [vf J,vf a,vf b,z] ⟨L,[]⟩ λρ x=>ao (Ph c 0) (xp 6) ρ x<|runK P
def aa4:ao (Ph c 0) (xp 0) [vf (Sp.mk d<|.kE s k).I,z,z,z] ⋯ (runK P)=c 218 [.fz (.int k)] [] (aZ [] [] (xq c (Sp.mk d<|.kE s k).I (b0 s) (bU k) P)):=()
def aa5:ao (Ph c 0) (xp 0) [vf (Sp.mk d<|.add s k).I,z,z,z] ⋯ (runK P)=c 218 [.fz (.int k)] [] (aZ [] [] (xq c (Sp.mk d<|.add s k).I (b0 s) (bU k) P)):=()
def aa6:ao (Ph c 0) (xp 0) [vf (Sp.mk d<|.sub s k).I,z,z,z] ⋯ (runK P)=c 218 [.fz (.int k)] [] (aZ [] [] (xq c (Sp.mk d<|.sub s k).I (b0 s) (bU k) P)):=()
def aa7:xq c (Sp.mk d<|.kE s k).I (b0 s) (bU k) P (.ret<|.fz<|.int f) []=P (.ret<|.fz<|.ai [.int s,.int f]) ⋯:=()
def aa8:xq c (Sp.mk d<|.add s k).I (b0 s) (bU k) P (.ret<|.fz<|.int f) []=P (.ret<|.fz<|.ai [.int s,.int f]) ⋯:=()
def aa9:xq c (Sp.mk d<|.sub s k).I (b0 s) (bU k) P (.ret<|.fz<|.int f) []=P (.ret<|.fz<|.ai [.int s,.int (-f)]) ⋯:=()
def aa_{d s k t:M}:∃f,(∀p,sT (jd<|p+f)=dA (p+k))/\∀{P:bL->Mem->Prop},P (.ret<|.fz<|.ai [.int s,.int f]) ⋯->am tab (n+2) 256 [.fz (Sp.mk d<|ck s k t).I] [] P:=by
 delta ck;cases J:k==0&&t==3 with
 |true=>exact have:k=0:=eq_of_beq (ue.mp J).1;(aT 0 (λp=>by exact U (uO ..)<|U this rfl) λx=>C_.mpr<|aa3.mpr x)
 |false=>
  cases t==1 with
  |true=>exact(aT (sT<|jd k) (λp=>by exact U (uO ..)<|U (uO ..)<|U (xm ..) C) λx=>C_.mpr<|aa4.mpr<|C9.mpr<|aa7.mpr x)
  |false=>
       refine bc (t==2) ?_ ?_;·exact(aT (-sT (jd<|-k)) (λp=>by exact U (uO ..)<|U (uO ..)<|U (MY ..)<|U (art ..) C) λx=>C_.mpr<|aa6.mpr<|C9.mpr<|aa9.mpr x)
       ·exact(aT (sT<|jd k) (λp=>by exact U (uO ..)<|U (uO ..)<|U (xm ..) C) λx=>C_.mpr<|aa5.mpr<|C9.mpr<|aa8.mpr x)
def aba:am tab (n+1) 263 [.fz (.di S),.fz (.int r)] [] P=ao (Ph (am tab n) 0) (Nm 1) (jv S r 0 z z z) ⋯ (runK P):=()
def Nn:X:=match Af 1 with| .c_ _ _ a _ _=>a|_=>.lit .none
def abb{t:T}{k:qP}{a:X}:WS N (.c_ t k a (.lit .none) L) ρ f Q=WX N a ρ f λx f=>oP (gH k x<|.fz .none) λJ=>bj (aS N t L) J ρ f Q:=C
def abc{t:T}(n:M)(h:0<=n/\n<=1000)(N:∀V:V->Mem->Prop,V (.fz<|.int n) O->WX L e ρ f V)(x:bj (aS L t J) (fh n) ρ O Q):WS L (.c_ t .range e (.lit .none) J) ρ f Q:=U abb<|N _<|ig (a:=fh n) (cE ⟨ft {} h.1,ft h.2 {}⟩) x
def abd:Af 1= .c_ (.var 3) .range Nn (.lit .none) spT:=C
def abe{V:V->Mem->Prop}:WX (Ph c 0) Nn (jv S r p m u l) ⋯ V=gd (S.length<=aM) (V (.fz<|.int<|(S.length:M)+1) ⋯):=()
def Hd:aS (Ph c 0) (.var 3) spT (.int t) (jv S r p m u l) ⋯ Q=(match isNone (.fz<|(aQ r S).getD .none)with|D=>Q (.ret<|.fz .none) (jv S r p (vi t) (vf<|(aQ r S).getD .none) l) ⋯|j=>ao (Ph c 0) (spT.drop 2) (jv S r p (vi t) (vf<|(aQ r S).getD .none) l) ⋯ Q):=()
def abf:ao (Ph c 0) (spT.drop 2) (jv S r p m (vf (Sp.mk d<|.slot f).I) l) ⋯ Q=Q (.ret<|.fz<|.ai [.int f,.int p]) (jv S r p m (vf (Sp.mk d<|.slot f).I) l) ⋯:=()
def xr(c:AM)(S:G (M×F))(r p:M)(m u l:ar V)(Q:DK)(x:bL)(J:G FObj):Prop:=cW x λv=>ez (Ph c 0) (.v<|.var 5) v (jv S r p m u l) ⟨J,[]⟩ λρ f=>ao (Ph c 0) (spT.drop 4) ρ f Q
def abg:ao (Ph c 0) (spT.drop 2) (jv S r p m (vf (Sp.mk d<|.l8 s).I) l) ⋯ Q=c 256 [.fz (Sp.mk d<|.l8 s).I] [] (aZ [] [] (xr c S r p m (vf (Sp.mk d<|.l8 s).I) l Q)):=()
def abh:ao (Ph c 0) (spT.drop 2) (jv S r p m (vf (Sp.mk d<|.kE s k).I) l) ⋯ Q=c 256 [.fz (Sp.mk d<|.kE s k).I] [] (aZ [] [] (xr c S r p m (vf (Sp.mk d<|.kE s k).I) l Q)):=()
def abi:ao (Ph c 0) (spT.drop 2) (jv S r p m (vf (Sp.mk d<|.add s k).I) l) ⋯ Q=c 256 [.fz (Sp.mk d<|.add s k).I] [] (aZ [] [] (xr c S r p m (vf (Sp.mk d<|.add s k).I) l Q)):=()
def abj:ao (Ph c 0) (spT.drop 2) (jv S r p m (vf (Sp.mk d<|.sub s k).I) l) ⋯ Q=c 256 [.fz (Sp.mk d<|.sub s k).I] [] (aZ [] [] (xr c S r p m (vf (Sp.mk d<|.sub s k).I) l Q)):=()
def abk{f:M}:xr c S r p m u l Q (.ret<|.fz<|.ai [.int s,.int f]) []=c 218 [.fz (.int<|jd<|p+f)] [] (aZ [] [] λJ L=>cW J λv=>gd (2==2&&(D&&(dU v&&D)))<|qT (Ph c 0) [.v (.var 1),.v (.var 2)] [.fz (.int s),v] (jv S r p m u<|vf<|.ai [.int s,.int f]) ⟨L,[]⟩ λρ x=>Q .next ρ x):=()
def Np{d s k t:M}{L:M}(h:aQ r S=q (Sp.mk d<|ck s k t).I)(f:∀m u l,Q .next (jv S s (dA<|p+k) m u l) ⋯):aS (Ph (am tab<|n+2) 0) (.var 3) spT (.int L) (jv S r p m u l) ⋯ Q:=by
 refine av (aa_ (n:=n) (d:=d) (s:=s) (k:=k) (t:=t)) λx e N=>Hd.mpr<|U h ?_;show ao _ (spT.drop 2) (jv S r p (vi L) (vf (Sp.mk d<|ck s k t).I) l) _ _;have J:∀u,am tab (n+2) 256 [.fz (Sp.mk d<|ck s k t).I] [] (aZ [] [] (xr (am tab<|n+2) S r p (vi L) u l Q)):=λu=>N<|abk.mpr<|C9.mpr<|U (e ..)<|f _ _ _;have J:=J<|vf (Sp.mk d<|ck s k t).I;revert J;delta ck;cases k==0&&t==3 with
 |true=>exact λJ=>abg.mpr J
 |false=>
      refine bc (t==1) ?_ ?_;·exact λJ=>abh.mpr J
      ·refine bc (t==2) ?_ ?_
       ·exact λJ=>abj.mpr J
       ·exact λJ=>abi.mpr J
end
noncomputable def He(a:d6):F:=match a.again with|D=>.none|j=>.ai [.int a.aK,.int a.place]
def Nq:∀{l:G (M×F)},aQ r l=q x->∃e∈l,e.1=r:=by intro l;induction l with|nil=>intro h;injection h|cons e l ih=>intro h;have h:(match e.1==r with|D=>q e.2|j=>aQ r l)=q x:=h;revert h;exact bX (e.1==r) (λc h=>(aT e (.head _)<|eq_of_beq c)) λ_ h=>av (ih h) λy f m=>(aT y (.tail _ f) m)
def abl{r s:M}(f:aQ r l=q x)(m:aQ s l=q y)(t:r≠s):2<=l.length:=by
 refine av (Nq f) λa p c=>?_;clear f;subst c
 refine av (Nq m) λb B c=>?_;clear m;subst c
 match l with
 |[]=>cases p
 |[x]=>
  cases p with
  |head=>cases B with|head=>exact absurd C t|tail _ h=>contradiction
  |tail _ h=>contradiction
 |_::_::_=>exact mD<|mD<|cD _
def abm{k:aj}(h:2<=k):∃r,fh ((k:M)+1)= .int 0:: .int 1:: .int 2::r:=by
 refine Exists.elim (aru h) λm c=>?_;subst c;refine⟨((jn m).map λi=>F.int ((i+3:aj):M)),?_⟩;delta fh;have e:(((2+m:aj):M)+1).toNat=m+1+1+1:=by lia
 refine U e<|U Lx<|U Lx<|U Lx ?_;simp only[uc,lW];rfl
section
variable{S:G (M×F)}
def abn(h:aQ r S=z)(f:∀ρ,Q (.ret<|.fz .none) ρ ⋯):aS (Ph c 0) (.var 3) spT (.int t) (jv S r p l m x) ⋯ Q:=Hd.mpr<|U h<|f _
def abo(B:S.length<=500)(f:bj (aS (Ph c 0) (.var 3) spT) (fh<|(S.length:M)+1) (jv S r p l m t) ⋯ Q):WS (Ph c 0) (Af 1) (jv S r p l m t) ⋯ Q:=by
 have x:0<=(S.length:M)+1/\(S.length:M)+1<=1000:=by lia
 exact U abd<|abc _ x (λV v=>abe.mpr<|aE (cy<|q1) v) f
def abp(B:jG a)(E:S.length<=500)(t:aQ f S=q (Sp.mk f<|.slot a.aK).I)(m:aQ (f+1) S=bif a.again then z else q (Sp.mk (f+1)<|ck f a.br a.first).I)(x:aQ (f+2) S=q (Sp.mk (f+2)<|ck (f+1) (a.place-a.br) a.ci).I)(c:l (.ret<|.fz<|He a) J):am tab (n+3) 263 [.fz (.di S),.fz (.int<|f+2)] [] (aZ [] J l):=by
 have p:=abl t x (by lia);refine Exists.elim (abm p) λr L=>?_;have Q:=B.place;refine aba.mpr ?_;calc bq (s:=Af 1) (r:=Nm 2) C;calc abo E;calc U L;refine cz<|Np x λN O P=>b6<|cz ?_;delta He at c;revert m c;refine bc a.again (λm c=>?_) λm c=>?_;·exact abn m λρ=>c
 ·refine Np m λN O P=>b6<|cz<|Hd.mpr ?_;refine U t<|U (show dA (dA (0+(a.place-a.br))+a.br)=a.place by rw[Lw,Ud,xm,show a.br+(a.place-a.br)=a.place by lia];exact G0 ⟨by exact z5,by exact z3⟩) ?_;exact abf.mpr c
end
@[irreducible] noncomputable def gM(i:M):ah:=cV<|toString i
def b8(a b:ah)(k:ah->Prop):Prop:=gd (a.length+b.length<=aM)<|k<|a++b
def jL(i:M)(k:ah->Prop):Prop:=gd (small i)<|k<|gM i
def nV(h:a.length+b.length<=100000)(f:k (a++b)):b8 a b k:=aE (cy<|q1) f
def nW(h:i.natAbs<=1000000)(f:k (gM i)):jL i k:=aE (Gl h) f
def me(a b:ah):(a++b).length=a.length+b.length:=eD.size_append
def dF{a b:ah}(h:a.length<=f)(g:b.length<=n):(a++b).length<=f+n:=me a b▸iC h g
abbrev Da(k:aj):G S:=F7.body.drop k
def pS:G S:=dQ<|F7.body.getD 1 .brk
abbrev iP(u S B:F)(x:ah)(L N O J:ar V):Rho:=[vf u,vf S,vf B,vf (.str x),q (.ref 0),L,N,O,J]
def Ag(x:ah)(E p f s:M):ah:=(((x++gM E)++(((" octets at "++gM p)++" of slot ")++gM f))++", which has ")++gM s
def Hf(x:ah)(E p aK s:M)(k:ah->ah->Prop):Prop:=jL p λa=>b8 " octets at " a λa=>b8 a " of slot " λa=>jL aK λb=>b8 a b λY=>jL E λb=>b8 x b λa=>b8 a Y λa=>b8 a ", which has " λa=>jL s λb=>b8 a b λf=>k Y f
section
variable{c:AM}{u S B:F}{x t:ah}{E p Z m:M}{r:ak}{P rg:M}{bl l:G F}{L N O J:ar V}{Q:DK}{R:G FObj}
def abq:am tab (n+1) 270 [.fz (Sp.mk d<|.load f w v).I] [] Y=Y (.ret<|.fz<|.af [.ai [b0 f,.int w]]) ⋯:=()
def abr:am tab (n+1) 270 [.fz (Sp.mk d<|.l9 f w).I] [] Y=Y (.ret<|.fz<|.af [.ai [b0 f,.int w]]) ⋯:=()
def abt:am tab (n+1) 270 [.fz (Sp.mk d<|.ma f w).I] [] Y=Y (.ret<|.fz<|.af [.ai [b0 f,.int w],.ai [bU 64,.int w]]) ⋯:=()
def abu:am tab (n+1) 270 [.fz (Sp.mk d<|.mc f w).I] [] Y=Y (.ret<|.fz<|.af [.ai [bU 64,.int w],.ai [b0 f,.int w]]) ⋯:=()
abbrev xu(op:ah)(d:M)(args:G F)(Y:F)(n:aj)(f:bL->Mem->Prop):Prop:=am tab (n+1) 270 [.fz (cj op d args Y)] [] f=f (.ret<|.fz<|.af []) ⋯
def abv:xu "slot" d args Y n f:=()
def abw:xu "const" d args Y n f:=()
def abx:xu "copy" d args Y n f:=()
def Nr:xu "add" d args Y n f:=()
def aby:xu "sub" d args Y n f:=()
def abz:xu "name" d args Y n f:=()
def swK(c:AM)(u S B:F)(x:ah)(f:bL->Mem->Prop)(Y:bL)(R:G FObj):Prop:=cW Y λv=>oP (gH .plain v<|.fz .none) λitems=>bj (aS (Ph c 0) (.ai [.var 5,.var 6]) pS) items (iP u S B x z z z z) ⟨R,[]⟩ λo ρ z0=>cf o ρ z0 (λρ z0=>ao (Ph c 0) (Da 2) ρ z0<|runK f)<|runK f
def Nt:am tab (n+1) 277 [.fz u,.fz S,.fz B,.fz (.str x)] [] f=am tab n 270 [.fz B] [] (aZ [] [.list []] (swK (am tab n) u S B x f)):=()
def Nu:aS (Ph c 0) (.ai [.var 5,.var 6]) pS (.ai [bU k,.int E]) (iP u S B x L N O J) #v[l] Q=Q .next (iP u S B x (vf<|bU k) (vi E) (vf .none) J) #v[l]:=()
def abB:aS (Ph c 0) (.ai [.var 5,.var 6]) pS (.ai [b0 f,.int E]) (iP u S B x L N O J) #v[l] Q=c 263 [.fz S,.fz (.int f)] [] (aZ [] [.list l] λr' R=>cW r' λv=>ez (Ph c 0) (.v<|.var 7) v (iP u S B x (vf<|b0 f) (vi E) O J) ⟨R,[]⟩ λρ Y=>ao (Ph c 0) (pS.drop 1) ρ Y Q):=()
def abC:ao (Ph c 0) (pS.drop 1) (iP u S B x L N (vf .none) J) #v[l] Q=Q .next (iP u S B x L N (vf .none) J) #v[l]:=()
def Dc(u S B:F)(x:ah)(L J:ar V)(E p aK s:M)(l:G F)(Q:DK):Prop:=
 let W:=Hf x E p aK s λY f=>gd (l.length<aM)<|Q .next (iP u S B x L (vi E) (vf<|.ai [.int aK,.int p])<|vf<|.str Y) #v[l++[.str f]]
 match aa (0<=p)with
 |D=>match !aa (p<=s-E)with|D=>W|j=>Q .next (iP u S B x L (vi E) (vf<|.ai [.int aK,.int p]) J) #v[l]
 |j=>W
def abD:ao (Ph c 0) (pS.drop 1) (iP (ba t P r (bT Z m) bl rg) S B x L (vi E) (vf<|.ai [.int 0,.int p]) J) #v[l] Q=Dc (ba t P r (bT Z m) bl rg) S B x L J E p 0 Z l Q:=()
def abE:ao (Ph c 0) (pS.drop 1) (iP (ba t P r (bT Z m) bl rg) S B x L (vi E) (vf<|.ai [.int 1,.int p]) J) #v[l] Q=Dc (ba t P r (bT Z m) bl rg) S B x L J E p 1 m l Q:=()
def Nv{f:bL->G FObj->Prop}:ao (Ph c 0) (Da 2) (iP u S B x L N O J) #v[l] (runK<|aZ [] R f)=f (.ret<|.fz<|.af l) R:=()
end
noncomputable def gf(a:d6)(c f:M):M:=match a.aK==0 with|D=>c|j=>f
noncomputable def oZ(a:d6)(c f:M):ak:=aa (0<=a.place)&&aa (a.place<=gf a c f-a.dc)
noncomputable def gN(l:ah)(a:d6)(c f:M):G Pair:=match a.again||oZ a c f with|D=>[]|j=>[(Ag l a.dc a.place a.aK<|gf a c f,cK l ["slot"] [a.dc,a.place.natAbs,a.aK,gf a c f])]
def jg(h: -12<=i/\i<32):(gM i).length<=3:=by refine av (zA (i:=i+12) (n:=44) (by lia) (by lia)) λk c e=>?_;have:=(by decide+kernel:∀k:aj,k<44->(gM<|(k:M)-12).length<=3) k c;rwa [<-e,arv]at this
structure pT(s1 s2:M):Prop where
 s1:1<=s1/\s1<=12
 s2:1<=s2/\s2<=6
section
variable{S:F}{a:d6}
def abF(m:r.length<=100)(Q: -12<=f/\f<32)(R: -12<=p/\p<32)(Y: -12<=l/\l<32)(Z: -12<=s/\s<32)(c:∀t,k t (Ag r f p l s)):Hf r f p l s k:=by
 have u:=jg Q;have x:=jg R;have B:=jg Y;have e4:=jg Z;have l1:cM " octets at "<=11:=by decide+kernel
 have l2:cM " of slot "<=9:=by decide+kernel
 have E:cM ", which has "<=12:=by decide+kernel
 exact have J:=dF l1 x;have L:=dF J l2;have N:=dF L B;have O:=dF m u;have P:=dF O N;have n3:=dF P E;nW z8 (nV (q3 l1 x)<|nV (q3 J l2)<|nW z8<|nV (q3 L B)<|nW z8<|nV (q3 m u)<|nV (q3 O N)<|nV (q3 P E)<|nW z8<|nV (q3 n3 e4)<|c _)
def abG(h:pT c f): -12<=gf a c f/\gf a c f<32:=by
 have l:=h.s1;have m:=h.s2;delta gf;cases a.aK==0;·exact⟨q8<|And.left ‹_›,q6<|And.right ‹_›⟩
 ·exact⟨q8<|And.left ‹_›,q6<|And.right ‹_›⟩
def abH(c:jG a): -12<=a.dc/\a.dc<32:=by have:=c.dc;lia
def abI(c:jG a): -12<=a.aK/\a.aK<32:=by have:=c.aK;lia
def abJ(B:jG a)(P:pT m p)(R:r.length<=100)(Z:l.length<=1000)(J:a.again=j)(c:∀Y E,Q .next (iP u S L r N (vi a.dc) Y E) #v[l++b7 (gN r a m p)]):Dc u S L r N E a.dc a.place a.aK (gf a m p) l Q:=by
 have W:oZ a m p=j->Hf r a.dc a.place a.aK (gf a m p) λx t=>gd (l.length<aM) (Q .next (iP u S L r N (vi a.dc) (vf<|.ai [.int a.aK,.int a.place])<|vf<|.str x) #v[l++[.str t]]):=λh=>by delta gN at c;rw[J,h]at c;exact abF R (abH B) ⟨by have:=B.place;exact And.left ‹_›,by have:=B.place;exact And.right ‹_›⟩ (abI B) (abG P) λt=>aE (d_ (by exact q1))<|c _ _
 delta gN at c;rw[J]at c;delta Dc;delta oZ at W c;cases O:aa (0<=a.place)with
 |false=>rw[O]at W;exact W C
 |true=>
  rw[O]at W c;revert c W;refine bc (aa<|a.place<=gf a m p-a.dc) (λc W=>?_) λc W=>?_;·have c:=c (vf<|.ai [.int a.aK,.int a.place]) E;rw[show b7 (match j||(D&&D)with|D=>_|j=>_)=([]:G F)from C,bK]at c;exact c
  ·exact W C
def abK(E:jG a)(hs:pT t u)(hw:J.length<=100)(hl:l.length<=1000)(hD:c.length<=500)(h0:aQ f c=q (Sp.mk f<|.slot a.aK).I)(h1:aQ (f+1) c=bif a.again then z else q (Sp.mk (f+1)<|ck f a.br a.first).I)(h2:aQ (f+2) c=q (Sp.mk (f+2)<|ck (f+1) (a.place-a.br) a.ci).I)(m:∀N O B x,Q .next (iP (ba P R Y (bT t u) Z rg) (.di c) p J N O B x) #v[l++b7 (gN J a t u)]):aS (Ph (am tab<|n+3) 0) (.ai [.var 5,.var 6]) pS (.ai [b0 (f+2),.int a.dc]) (iP (ba P R Y (bT t u) Z rg) (.di c) p J N O B x) #v[l] Q:=by
 refine abB.mpr<|abp E hD h0 h1 h2 ?_;delta He;refine bX a.again (λL=>?_) λL=>?_;·delta gN at m;rw[L]at m;have m:=m (vf<|b0<|f+2) (vi a.dc) (vf .none) x;rw[show b7 (match D||oZ a t u with|D=>_|j=>_)=([]:G F)from C,bK]at m;exact(abC (c:=am tab<|n+3)).mpr m
 ·
  have r:=abJ (u:=ba P R Y (bT t u) Z rg) (S:=.di c) (L:=p) (N:=vf<|b0<|f+2) (E:=x) E hs hw hl L λB x=>m _ _ B x;show ao _ (pS.drop 1) (iP _ _ _ _ _ _ (vf<|.ai [.int a.aK,.int a.place]) _) _ _;rcases E.aK with e|e
  ·rw[e,show gf a t u=t by unfold gf;calc U e;rfl]at r;rw[e];exact abD.mpr r
  ·rw[e,show gf a t u=u by unfold gf;calc U e;rfl]at r;rw[e];exact abE.mpr r
def abL(ha:jG a)(hs:pT x B)(hw:E.length<=100)(hD:c.length<=500)(h0:aQ f c=q (Sp.mk f<|.slot a.aK).I)(h1:aQ (f+1) c=bif a.again then z else q (Sp.mk (f+1)<|ck f a.br a.first).I)(h2:aQ (f+2) c=q (Sp.mk (f+2)<|ck (f+1) (a.place-a.br) a.ci).I)(m:p (.ret<|.fz<|.af<|b7<|gN E a x B) Y):am tab (n+4) 277 [.fz (ba Z np hv (bT x B) bl rg),.fz (.di c),.fz (dW a f).I,.fz (.str E)] [] (aZ [] Y p):=by
 calc Nt.mpr;have P:∀{R:F}{l:G F}{J L N O:ar V}{Q:DK},l.length<=1000->(∀J L N O,Q .next (iP (ba Z np hv (bT x B) bl rg) (.di c) R E J L N O) #v[l++b7 (gN E a x B)])->aS (Ph (am tab<|n+3) 0) (.ai [.var 5,.var 6]) pS (.ai [b0 (f+2),.int a.dc]) (iP (ba Z np hv (bT x B) bl rg) (.di c) R E J L N O) #v[l] Q:=λhl m=>abK ha hs hw hl hD h0 h1 h2 m;have u:∀{R:F}{J L N O:ar V},(λo ρ t=>cf o ρ t (λρ t=>ao (Ph (am tab<|n+3) 0) (Da 2) ρ t<|runK<|aZ [] Y p)<|runK<|aZ [] Y p) .next (iP (ba Z np hv (bT x B) bl rg) (.di c) R E J L N O) #v[[]++b7 (gN E a x B)]:=aF<|Nv.mpr m;delta dW;cases aa (a.bf<2)with
 |true=>exact abq.mpr<|cz<|P (cD _) λ_ _ _ _=>b6<|dL u
 |false=>
      refine bc (aa<|a.bf<4) ?_ ?_;·exact abr.mpr<|cz<|P (cD _) λ_ _ _ _=>b6<|dL u
      ·refine bc (a.bf==4) ?_ ?_
       ·exact abt.mpr<|cz<|P (cD _) λ_ _ _ _=>b6<|cz<|Nu.mpr<|b6<|dL u
       ·exact abu.mpr<|cz<|Nu.mpr<|b6<|cz<|P (cD _) λ_ _ _ _=>b6<|dL u
end
def ri(c f:ah):Pair:=((c++"no name ")++f,cK c ["name",f] [])
def Ah(c f:ah)(n l:M):ah:=((c++f)++" is called with ")++(((gM n++" operands, ")++gM l)++" are wanted")
def mU(f l:ah)(n c:M):G Pair:=match n==c with|D=>[]|j=>[(Ah f l n c,cK f ["operands",l] [n,c])]
def kH(c f:ah)(d:M)(l:ak):G Pair:=match aa (0<=d)&& !l with|D=>[((c++f)++" gives no value",cK c ["value",f] [])]|j=>[]
def mV(f:ah)(c:qU):G Fu->G Pair|[]=>[]|u::r=>match u.name==c.name with|D=>mU f c.name c.n u.np++kH f c.name c.fR u.hv|j=>mV f c r
def lx(p:fD)(f:ah)(c:qU):G Pair:=match(p.cR.map Th.name).any (· ==c.name)with|D=>[((f++c.name)++" is called and is no function",cK f ["function",c.name] [])]|j=>mV f c p.us
abbrev xv(k:aj):S:=F4.body.getD k .brk
abbrev uQ(k:aj):G S:=F4.body.drop k
def Hg:G S:=dQ<|xv 0
def Dd:G S:=dQ<|xv 1
def uR:S->G S| .ite _ a _=>a|_=>[]
def Ai:G S:=uR<|Dd.getD 0 .brk
abbrev xw(k:aj):G S:=Ai.drop k
abbrev kI(f u l:F)(m:ah)(p r x B:ar V):Rho:=[vf f,vf u,vf l,vf (.str m),p,r,x,B]
def eA(h:a.length<=x)(l:b.length<=y)(f:x+y<=100000)(c:k (a++b)):b8 a b k:=nV (aG (iC h l) f) c
def Nw(l p:ah)(n m:aj)(i c:M)(k:ah->ah->Prop):Prop:=gd (n<=aM)<|jL i λa=>b8 a " operands, " λa=>gd (m<=aM)<|jL c λb=>b8 a b λa=>b8 a " are wanted" λf=>b8 l p λa=>b8 a " is called with " λa=>b8 a f λa=>k f a
def De{n:aj}(h:n<=4): -12<=(n:M)/\(n:M)<32:=⟨ft {}<|gB n,B0 (qC.mpr h) {}⟩
def abN{n m:aj}{i c:M}(u:x.length<=60)(B:E.length<=7)(p:n<=4)(r:m<=4)(J:i=n)(L:c=m)(f:∀l:ah,k l (Ah x E i c)):Nw x E n m i c k:=by have N:=jg (i:=i)<|J▸De p;have O:=jg (i:=c)<|L▸De r;have b1:=cy<|aG p {};have b2:=cy<|aG r {};have Y:i.natAbs<=1000000:=z8<|J▸De p;have Z:c.natAbs<=1000000:=z8<|L▸De r;have P:=dF N (by decide+kernel:cM " operands, "<=20);have Q:=dF P O;have a3:=dF Q (by decide+kernel:cM " are wanted"<=20);have R:=dF u B;have c2:=dF R (by decide+kernel:cM " is called with "<=20);refine aE b1<|nW Y<|eA N (by decide+kernel:cM " operands, "<=20) {}<|aE b2<|nW Z<|eA P O {}<|eA Q (by decide+kernel:cM " are wanted"<=20) {} ?_;exact eA u B {}<|eA R (by decide+kernel:cM " is called with "<=20) {}<|eA c2 a3 {}<|f _
section
variable{S:F}{t:Th}
def Ny(h:∀{P:bL->Mem->Prop},P (.ret<|.fz<|.af []) ⋯->am tab (n+1) 270 [.fz m] [] P)(f:l (.ret<|.fz<|.af []) p):am tab (n+2) 277 [.fz u,.fz S,.fz m,.fz (.str r)] [] (aZ [] p l):=by refine Nt.mpr<|h ?_;show ao (Ph (am tab<|n+1) 0) (Da 2) (iP u S m r z z z z) #v[[]] (runK<|aZ [] p l);exact Nv.mpr f
def abO:am tab (n+1) 244 [.fz f,.fz u,.fz l,.fz (.str m)] [] P=ao (Ph (am tab n) 0) (uQ 0) (kI f u l m z z z z) ⋯ (runK P):=()
def abP:WS (Ph c 0) (xv 0) (kI (jJ m l p) u r x B E J L) ⋯ Q=bj (aS (Ph c 0) (.var 4) Hg) l (kI (jJ m l p) u r x B E J L) ⋯ Q:=()
def abQ:WS (Ph c 0) (xv 1) (kI (jJ l m p) u r x B E J L) ⋯ Q=bj (aS (Ph c 0) (.var 5) Dd) l (kI (jJ l m p) u r x B E J L) ⋯ Q:=()
def abR:ao (Ph c 0) (uQ 2) (kI p u r x B E J L) ⋯ (runK<|aZ [] m l)=l (.ret<|.fz<|.af []) m:=()
def abS:aS (Ph c 0) (.var 4) Hg t.I (kI m u (cj op d args<|.str f) l B p r x) ⋯ Q=(match t.name==f with|D=>b8 l f λa=>b8 a " is called and is no function" λa=>Q (.ret<|.fz<|.af [.str a]) (kI m u (cj op d args<|.str f) l (vf t.I) p r x) ⋯|j=>Q .next (kI m u (cj op d args<|.str f) l (vf t.I) p r x) ⋯):=()
def abT:aS (Ph c 0) (.var 5) Dd (ba l p r x B E) (kI J u (cj op d args<|.str m) L N R P O) ⋯ Q=(match l==m with|D=>ao (Ph c 0) (xw 1) (kI J u (cj op d args<|.str m) L N (vf<|ba l p r x B E) (q<|.ref 0) O) #v[[]] λo ρ f=>cf o ρ f (λρ f=>ao (Ph c 0) [] ρ f Q) Q|j=>Q .next (kI J u (cj op d args<|.str m) L N (vf<|ba l p r x B E) P O) ⋯):=()
abbrev mW(c u:F)(op:ah)(d:M)(args:G F)(f l m:ah)(p:M)(r:ak)(x:F)(B:G F)(E:M)(J L:ar V):Rho:=kI c u (cj op d args<|.str f) l J (vf<|ba m p r x B E) (q<|.ref 0) L
def abU:WS (Ph c 0) (Ai.getD 1 .brk) (mW x u op d args p r B f E J L N O P) #v[l] Q=gd (args.length<=aM) (gd ((fh f).length<=aM) (match !((args.length:M)==((fh f).length:aj))with|D=>Nw r p args.length (fh f).length args.length (fh f).length λm t=>gd (l.length<aM)<|Q .next (mW x u op d args p r B f E J L N O<|vf<|.str m) #v[l++[.str t]]|j=>Q .next (mW x u op d args p r B f E J L N O P) #v[l])):=()
def abV:WS (Ph c 0) (Ai.getD 2 .brk) (mW r u op d args f m x B p E J L N O) #v[l] Q=(match aa (0<=d)with
  |D=>match !p with|D=>b8 m f λa=>b8 a " gives no value" λa=>gd (l.length<aM)<|Q .next (mW r u op d args f m x B p E J L N O) #v[l++[.str a]]|j=>Q .next (mW r u op d args f m x B p E J L N O) #v[l]
  |j=>Q .next (mW r u op d args f m x B p E J L N O) #v[l]):=()
def Hh:ao (Ph c 0) (xw 3) (mW f u op d args m p r x B E J L N O) #v[l] Q=Q (.ret<|.ref 0) (mW f u op d args m p r x B E J L N O) #v[l]:=()
end
section
variable{l:M}
def abW:(fh l).length=l.toNat:=by exact U (bx ..)<|U Fp C
def Aj(h:(aa (0<=d)&& !c)=j):kH f m d c=[]:=by delta kH;exact U h C
def Hi(h:(aa (0<=d)&& !m)=D):kH c f d m=[((c++f)++" gives no value",cK c ["value",f] [])]:=by delta kH;exact U h C
def abX{k m:aj}(hw:r.length<=60)(hn:t.length<=7)(Z:args.length=k/\k<=4)(E:l=m/\m<=2)(f:∀p,Q (.ret<|.ref 0) (mW J u op d args t r L l x N O P R p) #v[b7<|mU r t k l++kH r t d x]):ao (Ph c 0) (xw 1) (mW J u op d args t r L l x N O P R p) #v[[]] Q:=by
 refine fH Z λcg hk=>?_;clear Z;subst cg;obtain⟨rfl,hm⟩:=E;have l4:cM " gives no value"=15:=by decide+kernel
 have g2:∀(w:G Pair) p,w.length<=10->(∀p,Q (.ret<|.ref 0) (mW J u op d args t r L m x N O P R p) #v[b7<|w++kH r t d x])->
   ao (Ph c 0) (xw 2) (mW J u op d args t r L m x N O P R p) #v[b7 w] Q:=by
  intro w p eR f
  refine bq (s:=Ai.getD 2 .brk) (r:=xw 3) C<|abV.mpr ?_
  refine bX (aa<|0<=d) (λB=>?_) λB=>?_
  ·
   refine bX (!x) (λY=>?_) λY=>?_
   ·
    rw[Hi (U B<|U Y rfl)]at f
    refine nV (q3)<|nV (U (me ..) (by lia))<|aE (d_<|U (jK ..) q1)<|aF<|Hh.mpr ?_
    have f:=f p
    rw[mS]at f
    exact f
   ·
    have f:=f p
    rw[Aj (U B<|U Y rfl),bK]at f
    exact aF<|Hh.mpr f
  ·
   have f:=f p
   rw[Aj (U B C),bK]at f
   exact aF<|Hh.mpr f
 refine bq (s:=Ai.getD 1 .brk) (r:=xw 2) C<|abU.mpr<|have hb:aa (args.length<=aM)=D:=cy<|q1;have hu:(fh (m:M)).length=m:=abW.trans<|B2 m;U hu<|aE hb<|aE (cy<|q1) ?_;delta mU at f;cases h:(args.length:M)==(m:M)with|true=>rw[h]at f;exact aF<|g2 [] p (cD _) f|false=>rw[h]at f;exact abN hw hn hk (q1) C rfl λtold=>aE (d_<|cD _)<|aF<|g2 [(Ah r t args.length m,cK r ["operands",t] [args.length,m])] _ (by show 1<=10;decide) f
def abY(hp:eN p)(hw:B.length<=60)(hc:c.n<=4)(R:c.name∈allNames)(f:m (.ret<|.fz<|.af<|b7<|lx p B c) E):am tab (n+1) 244 [.fz p.I,.fz u,.fz (Sp.mk c.fR<|.call c.k c.n c.name).I,.fz (.str B)] [] (aZ [] E m):=by
 have R:=fT _ R;have l1:cM " is called and is no function"=29:=by decide+kernel
 calc abO.mpr;refine bq (s:=xv 0) (r:=uQ 1) C<|abP.mpr ?_;have two:∀L N O J,m (.ret<|.fz<|.af<|b7<|mV B c p.us) E->ao (Ph (am tab n) 0) (uQ 1) (kI p.I u (Sp.mk c.fR<|.call c.k c.n c.name).I B L N O J) ⋯ (runK<|aZ [] E m):=by
  intro L N O J f;refine bq (s:=xv 1) (r:=uQ 2) C<|abQ.mpr ?_;have:∀(P:G Fu) N O J,(∀u∈P,oU u)->m (.ret<|.fz<|.af<|b7<|mV B c P) E->bj (aS (Ph (am tab n) 0) (.var 5) Dd) (P.map Fu.I) (kI p.I u (Sp.mk c.fR<|.call c.k c.n c.name).I B L N O J) ⋯
    λo ρ r=>cf o ρ r (λρ r=>ao (Ph (am tab n) 0) (uQ 2) ρ r<|runK<|aZ [] E m) (runK<|aZ [] E m):=by
   intro P
   induction P with
   |nil=>intro N O J _ f;exact dL<|aF<|abR.mpr f
   |cons y P ih=>
    intro N O J Y f
    refine cz<|abT.mpr ?_
    have f:m (.ret<|.fz<|.af<|b7 (match y.name==c.name with|D=>mU B c.name c.n y.np++kH B c.name c.fR y.hv|j=>mV B c P)) E:=f
    revert f;refine bc (y.name==c.name) (λf=>?_) λf=>?_
    ·
     have Z:=(Y y<|.head _).np
     exact abX (k:=c.n) (m:=y.np.toNat) hw R ⟨oy,hc⟩ ⟨by exact(B_<|And.left ‹_›).symm,by exact y2⟩ λJ=>f
    ·exact b6<|ih _ _ _ (λx hz=>Y x<|.tail _ hz) f
  exact this p.us N O J (λy Z=>(hp.us y Z).1) f
 have:∀(Q:G Th) L,(match(Q.map Th.name).any (· ==c.name)with
   |D=>m (.ret<|.fz<|.af<|b7 [((B++c.name)++" is called and is no function",cK B ["function",c.name] [])]) E
   |j=>m (.ret<|.fz<|.af<|b7<|mV B c p.us) E)->bj (aS (Ph (am tab n) 0) (.var 4) Hg) (Q.map Th.I) (kI p.I u (Sp.mk c.fR<|.call c.k c.n c.name).I B L z z z) ⋯
    λo ρ r=>cf o ρ r (λρ r=>ao (Ph (am tab n) 0) (uQ 1) ρ r<|runK<|aZ [] E m) (runK<|aZ [] E m):=by
  intro Q
  induction Q with
  |nil=>intro L f;exact dL<|aF<|two _ _ _ _ f
  |cons t Q ih=>
   intro L f
   refine cz<|abS.mpr ?_
   rw[uc,B3]at f
   revert f;refine bc (t.name==c.name) (λf=>?_) λf=>?_
   ·exact nV (by exact q3)<|nV (by calc U (me ..);lia) f
   ·exact b6<|ih _ f
 calc this p.cR z;delta lx at f;cases h:(p.cR.map Th.name).any (· ==c.name)with|true=>rw[h]at f;exact f|false=>rw[h]at f;exact f
end
abbrev Hj(k:aj):S:=F9.body.getD k .brk
abbrev Df(k:aj):G S:=F9.body.drop k
def Dg:G S:=dQ<|Hj 1
abbrev uS(k:aj):S:=Dg.getD k .brk
abbrev Hk(k:aj):G S:=Dg.drop k
def ly:G S:=dQ<|uS 1
abbrev fm(B u E S:F)(J f L:ar V):Rho:=[vf B,vf u,vf E,vf S,q (.ref 0),J,f,L]
def fU(N:ah)(t:M):ah:=((N++" block ")++gM t)++": "
abbrev uT(k:aj):S:=F8.body.getD k .brk
abbrev uU(k:aj):G S:=F8.body.drop k
abbrev twR(u b f:F)(p:ah)(m J t L:ar V):Rho:=[vf u,vf b,vf (.str p),vf f,m,J,t,L]
def Dh:X×G X:=xl<|xa<|sx<|uT 6
section
variable{c:AM}{S B u E:F}{p N:ah}{d:M}{l args:G F}{R:G (ah×F)}{J L:ar V}{Q:DK}{O:G FObj}{x:F}
def ab0:am tab (n+1) 289 [.fz B,.fz u,.fz E] [] P=am tab n 249 [.fz u] [] (aZ [] [] λf O=>cW f λv=>gd (2==2&&(dU v&&(D&&D)))<|qT (Ph (am tab n) 0) [.v (.var 3),.v (.var 4)] [v,.ref O.length] [vf B,vf u,vf E,z,z,z,z,z] ⟨O++[.list []],[]⟩ λρ m=>ao (Ph (am tab n) 0) (Df 1) ρ m (runK P)):=()
def ab1:WS (Ph c 0) (Hj 1) (fm B (ba N m t P f Y) E S J x6 L) #v[l] Q=bj (aS (Ph c 0) (.var 5) Dg) f (fm B (ba N m t P f Y) E S J x6 L) #v[l] Q:=()
def Nz:ao (Ph c 0) (Df 2) (fm B u E S J m L) #v[l] (runK<|aZ [] O f)=f (.ret<|.fz<|.af l) O:=()
def ab2:WS (Ph c 0) (uS 0) (fm B (ba N f m P Y rg) E S (vf<|ch t b) x6 L) #v[l] Q=b8 N " block " λa=>jL t λs=>b8 a s λa=>b8 a ": " λw=>Q .next (fm B (ba N f m P Y rg) E S (vf<|ch t b) (vf<|.str w) L) #v[l]:=()
def ab3:WS (Ph c 0) (uS 1) (fm B u E S (vf<|ch t b) f L) #v[l] Q=bj (aS (Ph c 0) (.var 7) ly) (b.bo.map Sp.I) (fm B u E S (vf<|ch t b) f L) #v[l] Q:=()
def ab4:WS (Ph c 0) (uS 2) (fm B u E S (vf<|ch t b) (vf<|.str p) L) #v[l] Q=c 282 [.fz u,.fz (ch t b),.fz (.str p)] [] (aZ [] [.list l] λf O=>cW f λv=>kB .gD (.ref 0) [v] ⟨O,[]⟩ λ_ m=>Q .next (fm B u E S (vf<|ch t b) (vf<|.str p) L) m):=()
def Di(c:AM)(B u E S P:F)(p:ah)(J:ar V)(l:G F)(Q:DK):Prop:=c 277 [.fz u,.fz S,.fz P,.fz (.str p)] [] (aZ [] [.list l] λm O=>cW m λv=>kB .gD (.ref 0) [v] ⟨O,[]⟩ λ_ t=>Q .next (fm B u E S J (vf<|.str p)<|vf P) t)
abbrev rj(op:ah)(d:M)(args:G F)(x B u E S:F)(p:ah)(J L:ar V)(l:G F)(Q:DK)(c:AM):Prop:=aS (Ph c 0) (.var 7) ly (cj op d args x) (fm B u E S J (vf<|.str p) L) #v[l] Q=Di c B u E S (cj op d args x) p J l Q
def ab5:rj "slot" d args x B u E S p J L l Q c:=()
def ab6:rj "const" d args x B u E S p J L l Q c:=()
def ab7:rj "copy" d args x B u E S p J L l Q c:=()
def NA:rj "add" d args x B u E S p J L l Q c:=()
def ab8:rj "sub" d args x B u E S p J L l Q c:=()
def ab9:rj "load" d args x B u E S p J L l Q c:=()
def ab_:rj "store" d args x B u E S p J L l Q c:=()
def NB:rj "move" d args x B u E S p J L l Q c:=()
def aca:aS (Ph c 0) (.var 7) ly (cj "name" d args<|.ai [.str N,x]) (fm B u (.ds R) S J (vf<|.str p) L) #v[l] Q=(match !has N R with|D=>b8 p "no name " λa=>b8 a N λa=>gd (l.length<aM)<|Q .next (fm B u (.ds R) S J (vf<|.str p)<|vf<|cj "name" d args<|.ai [.str N,x]) #v[l++[.str a]]|j=>Di c B u (.ds R) S (cj "name" d args<|.ai [.str N,x]) p J l Q):=()
def acb:aS (Ph c 0) (.var 7) ly (cj "call" d args<|.str N) (fm B u (.ds R) S J (vf<|.str p) L) #v[l] Q=(match !has N R with|D=>b8 p "no name " λa=>b8 a N λa=>gd (l.length<aM)<|Q .next (fm B u (.ds R) S J (vf<|.str p)<|vf<|cj "call" d args<|.str N) #v[l++[.str a]]|j=>c 244 [.fz B,.fz u,.fz (cj "call" d args<|.str N),.fz (.str p)] [] (aZ [] [.list l] λf O=>cW f λv=>kB .gD (.ref 0) [v] ⟨O,[]⟩ λ_ m=>Q .next (fm B u (.ds R) S J (vf<|.str p)<|vf<|cj "call" d args<|.str N) m)):=()
def acd:am tab (n+1) 282 [.fz u,.fz (ch t ⟨f,.ce m⟩),.fz (.str p)] [] P=P (.ret<|.fz<|.af []) ⋯:=()
def ace:am tab (n+1) 282 [.fz u,.fz (ch t ⟨f,.jH⟩),.fz (.str p)] [] P=P (.ret<|.fz<|.af []) ⋯:=()
def acf:am tab (n+1) 282 [.fz u,.fz (ch t ⟨f,.branch g⟩),.fz (.str p)] [] P=P (.ret<|.fz<|.af []) ⋯:=()
abbrev mf(p:ah)(u t:F)(low:M)(f:G F)(m:M):Rho:=twR u t (cj "table" (-1) [bU 1] (.ai [.int low,.af f,.int m])) p (q<|.ref 0) (vi low) (vf<|.af f)<|vi m
def acg:am tab (n+1) 282 [.fz u,.fz (ch t ⟨bo,.table low m g Y⟩),.fz (.str p)] [] P=ao (Ph (am tab n) 0) (uU 4) (mf p u (ch t ⟨bo,.table low m g Y⟩) low (bN m<|.int g) Y) #v[[]] (runK P):=()
def ach:WS (Ph c 0) (uT 4) (mf p u f low m t) #v[l] Q=(match aa (0<=low)with
  |D=>match !aa (low<=4294967295)with|D=>b8 p "a table from a number that is no word" λa=>gd (l.length<aM)<|Q .next (mf p u f low m t) #v[l++[.str a]]|j=>Q .next (mf p u f low m t) #v[l]
  |j=>b8 p "a table from a number that is no word" λa=>gd (l.length<aM)<|Q .next (mf p u f low m t) #v[l++[.str a]]):=()
def aci:WS (Ph c 0) (uT 5) (mf p u f low m t) #v[l] Q=gd (m.length<=aM) (match(m.length:M)==0 with|D=>b8 p "a table without numbers" λa=>gd (l.length<aM)<|Q .next (mf p u f low m t) #v[l++[.str a]]|j=>Q .next (mf p u f low m t) #v[l]):=()
def twK(c:AM)(ρ:Rho)(p:ah)(Q:DK)(f:bL)(O:G FObj):Prop:=cW f λv=>oP (gH .plain v<|.fz .none) λP=>fP (cT (Ph c 0) 1 (.var 0) Dh.1 Dh.2 ρ) P ⟨O,[]⟩ λm t=>gd (m.length<=aM) (match !m.isEmpty with|D=>gd (recOk .append (.ref 0) t.fl)<|wJ .Add (.fz<|.str p) (.fz<|.str "a table that names no block") t λv=>kB .append (.ref 0) [v] t λ_ t=>Q .next ρ t|j=>Q .next ρ t)
def ack:WS (Ph c 0) (uT 6) (mf p u f low m t) #v[l] Q=c 149 [.fz f] [] (aZ [] [.list l] (twK c (mf p u f low m t) p Q)):=()
def NC:am tab (n+1) 149 [.fz (ch t ⟨bo,.table low m g Y⟩)] [] P=gd ((bN m<|F.int g).length<=aM) (gd ((bN m<|F.int g).length+1<=aM)<|P (.ret<|.fz<|.af<|bN m (.int g)++[.int Y]) ⋯):=()
def acl:cT (Ph c 0) 1 (.var 0) Dh.1 Dh.2 (mf p (ba N Y hv sl t rg) bi low m bC) (.int i) f P=(match aa (0<=i)with|D=>gd (t.length<=aM) (match !aa (i<t.length)with|D=>P (q<|.int i) f|j=>P z f)|j=>P (q<|.int i) f):=()
def ND:ao (Ph c 0) (uU 7) (mf p u t low m P) #v[l] (runK<|aZ [] O f)=f (.ret<|.fz<|.af l) O:=()
end
noncomputable def eB(c i:M):ak:= !(aa (0<=i)&&aa (i<c))
noncomputable def mh(c:ah)(low:M):G Pair:=match aa (0<=low)&&aa (low<=4294967295)with|D=>[]|j=>[(c++"a table from a number that is no word",cK c ["table","from"] [])]
noncomputable def mi(l:ah)(f:aj):G Pair:=match(f:M)==0 with|D=>[(l++"a table without numbers",cK l ["table","without"] [])]|j=>[]
noncomputable def sX(c:ah)(b:ak):G Pair:=match b with|D=>[(c++"a table that names no block",cK c ["table","block"] [])]|j=>[]
noncomputable def xx(l:aj):En->ak| .table _ f g m=>(bN f g++[m]).any<|eB l|_=>j
noncomputable def rm(l:ah)(m:aj)(e:En):G Pair:=match e with| .table low f g p=>mh l low++mi l f++sX l ((bN f g++[p]).any<|eB m)|_=>[]
def Hl(c:ah)(low:M):(mh c low).length<=1:=by delta mh;cases aa (0<=low)&&aa (low<=4294967295);exact bR _;exact cD _
def Hm(l:ah)(f:aj):(mi l f).length<=1:=by delta mi;cases(f:M)==0;exact cD _;exact bR _
def pU:cM "a table from a number that is no word"<=40/\cM "a table without numbers"<=40/\cM "a table that names no block"<=40/\cM "no name "<=40:=by decide+kernel
section
def acm(L:r.length<=60)(hc:p<=2)(hb:u.length<=2)(f:m (.ret<|.fz<|.af<|b7<|mh r low++mi r p++sX r ((bN p g++[x]).any<|eB u.length)) J):am tab (n+2) 282 [.fz (ba O P R Y u Z),.fz (ch t ⟨bo,.table low p g x⟩),.fz (.str r)] [] (aZ [] J m):=by
 refine have rl:(bN p<|F.int g).length=p:=oy;acg.mpr ?_;have E:∀w:G Pair,w.length<=2->m (.ret<|.fz<|.af<|b7<|w++sX r ((bN p g++[x]).any<|eB u.length)) J->
   ao (Ph (am tab<|n+1) 0) (uU 6) (mf r (ba O P R Y u Z) (ch t ⟨bo,.table low p g x⟩) low (bN p<|.int g) x) #v[b7 w] (runK<|aZ [] J m):=by
  intro w Hn f
  refine bq (s:=uT 6) (r:=uU 7) C<|ack.mpr<|NC.mpr<|aE (cy (by lia))<|aE (cy (by lia)) ?_
  rw[show bN p (F.int g)++[F.int x]=(bN p g++[x]).map F.int by rw[fx,Uf];rfl]
  refine h_ (by rw[bx,bO,oy];exact q2) ?_
  refine sN (λi=>match eB u.length i with|D=>q (F.int i)|j=>z) (λi _ Q f=>?_) ?_
  ·refine acl.mpr ?_
   unfold eB at f
   revert f;refine bc (aa<|0<=i) (λf=>?_) λf=>?_
   ·
    refine aE (cy<|q1) ?_
    revert f;refine bc (aa<|i<(u.length:M)) (λf=>?_) λf=>?_
    ·exact f
    ·exact f
   ·exact f
  ·have hf:∀l:G M,(l.filterMap (λi=>match eB u.length i with|D=>q (F.int i)|j=>z)).isEmpty= !l.any (eB u.length):=by
    intro l
    induction l with
    |nil=>rfl
    |cons i l ih=>
     rw[B3];refine bX (eB u.length i) (λh=>?_) λh=>?_;·rw[qF (b:=F.int i) (by rw[h])];rfl
     ·rw[ow (by rw[h]),ih];rfl
   refine aE (cy<|aG (Uc _ _) (by rw[bO,oy];exact q2)) ?_
   rw[hf]
   cases h:(bN p g++[x]).any (eB u.length)with|true=>rw[h,mS]at f;exact aE (c:=recOk .append (.ref 0) [.list (b7 w)]) C<|aE (c:=aa<|r.length+cM "a table that names no block"<=aM) (cy<|aG (iC L pU.2.2.1) {})<|aE (c:=aa<|(b7 w).length<aM) (d_ (by rw[jK];exact q1))<|aF<|ND.mpr f|false=>rw[h,show sX r j=[]from C,bK]at f;exact aF<|ND.mpr f
 have B:∀w:G Pair,w.length<=1->m (.ret<|.fz<|.af<|b7<|w++mi r p++sX r ((bN p g++[x]).any<|eB u.length)) J->
   ao (Ph (am tab<|n+1) 0) (uU 5) (mf r (ba O P R Y u Z) (ch t ⟨bo,.table low p g x⟩) low (bN p<|.int g) x) #v[b7 w] (runK<|aZ [] J m):=by
  intro w Hn f
  have hk:=Hm r p
  refine bq (s:=uT 5) (r:=uU 6) C<|aci.mpr<|aE (cy (by lia)) ?_
  rw[rl]
  have E:=E (w++mi r p) (by rw[bO];exact q3) f
  unfold mi at E
  refine bX ((p:M)==0) (λh=>?_) λh=>?_
  ·
   rw[h,mS]at E
   exact eA (a:=r) L pU.2.1 {}<|aE (d_ (by rw[jK];exact q1))<|aF E
  ·rw[h,mS,show b7 (match j with|D=>[(r++"a table without numbers",cK r ["table","without"] [])]|j=>[])=[]from C,bK]at E;exact aF E
 refine bq (s:=uT 4) (r:=uU 5) C<|ach.mpr ?_;have B:=B (mh r low) (Hl _ _) f;unfold mh at B;cases h:aa (0<=low)with
 |false=>rw[h]at B;exact eA (a:=r) L pU.1 {}<|aE (d_<|cD _)<|aF B
 |true=>
  refine bX (aa<|low<=4294967295) (λN=>?_) λN=>?_;·rw[h,N]at B;exact aF B
  ·rw[h,N]at B;exact eA (a:=r) L pU.1 {}<|aE (d_<|cD _)<|aF B
def acn(m:mP e\/∃p,e= .ce p)(B:r.length<=60)(E:u.length<=2)(c:f (.ret<|.fz<|.af<|b7<|rm r u.length e) J):am tab (n+2) 282 [.fz (ba N O p P u Q),.fz (ch t ⟨R,e⟩),.fz (.str r)] [] (aZ [] J f):=by
 cases e with
 |ce p=>exact acd.mpr c
 |jH=>exact ace.mpr c
 |branch g=>exact acf.mpr c
 |table low L g Y=>
  refine acm B ?_ E c;rcases m with m|⟨_,m⟩
  ·exact(by decide:∀x∈([(0,2),(5,1),(4294967295,2),(-1,1),(4294967296,2),(3,0)]:G (M×aj)),x.2<=2) _ m.1
  ·injection m
end
def eK(p:fD)(n:ah):ak:=(eg p++p.d7).any (· ==n)
def j6(p:fD)(u:Fu)(x:ah):Gr->G Pair
 | .acc a=>gN x a u.s1 u.s2
 | .call Y=>match eK p Y.name with|D=>lx p x Y|j=>[ri x Y.name]
 | .name N _=>match eK p N with|D=>[]|j=>[ri x N]
def ip(p:fD)(u:Fu)(x:ah):G Gr->G Pair|[]=>[]|g::r=>j6 p u x g++ip p u x r
def Ho(x:ah)(a:d6)(Y s2:M):(gN x a Y s2).length<=2:=by delta gN;cases a.again||oZ a Y s2;exact jV _;exact cD _
def aco(x:ah)(Y:qU):∀us,(mV x Y us).length<=2:=by
 intro bg;induction bg with
 |nil=>exact cD _
 |cons u r ih=>
  show(match u.name==Y.name with|D=>mU x Y.name Y.n u.np++kH x Y.name Y.fR u.hv|j=>mV x Y r).length<=2;refine bc (u.name==Y.name) ?_ ?_;·
   calc U bO;refine(iC ?_ ?_:_<=1+1);·delta mU;cases(Y.n:M)==u.np;exact bR _;exact cD _
   ·delta kH;cases aa (0<=Y.fR)&& !u.hv;exact cD _;exact bR _
  ·exact ih
def NE(p:fD)(x:ah)(Y:qU):(lx p x Y).length<=2:=by delta lx;cases(p.cR.map Th.name).any (· ==Y.name);exact aco _ _ _;exact jV _
structure uV(g:Gr):Prop where
 acc:∀a,g= .acc a->jG a
 call:∀c,g= .call c->c.n<=4/\c.name∈allNames
 name:∀N k,g= .name N k->N∈allNames
section
variable{n:aj}{S t:F}{x N:ah}{f R Z:M}{l P:G F}{p:fD}{u:Fu}{E c B:ar V}{Q:DK}{m:G (M×F)}{r:G F}{sl J O L:F}
def Hp{Y:AM}{W:G F}(hl:l.length<=500)(hW:W.length<=10)(hc:∀{z0:bL->G FObj->Prop}{fl},z0 (.ret<|.fz<|.af W) fl->Y 277 [.fz O,.fz S,.fz t,.fz (.str x)] [] (aZ [] fl z0))(ze:Q .next (fm J O L S E (vf<|.str x)<|vf t) #v[l++W]):Di Y J O L S t x E l Q:=hc (aE (c:=aa<|l.length+W.length<aM) (d_<|q3) ze)
def xy{op:ah}{d:M}{args:G F}{more:F}(e:∀Q,rj op d args more J O L S x E B l Q (am tab<|n+4))(h:∀{Y:bL->Mem->Prop},Y (.ret<|.fz<|.af []) ⋯->am tab (n+3) 270 [.fz (cj op d args more)] [] Y)(hl:l.length<=500)(z0:∀B,bj (aS (Ph (am tab<|n+4) 0) (.var 7) ly) r (fm J O L S E (vf<|.str x) B) #v[l] Q):bj (aS (Ph (am tab<|n+4) 0) (.var 7) ly) (cj op d args more::r) (fm J O L S E (vf<|.str x) B) #v[l] Q:=cz<|(e _).mpr<|Hp hl (W:=[]) (cD _) (λz0=>Ny h z0)<|U (bK ..)<|b6<|z0 _
def NF{d s k Y:M}(hl:l.length<=500)(z0:∀B,bj (aS (Ph (am tab<|n+4) 0) (.var 7) ly) r (fm J O L S E (vf<|.str x) B) #v[l] Q):bj (aS (Ph (am tab<|n+4) 0) (.var 7) ly) ((Sp.mk d<|ck s k Y).I::r) (fm J O L S E (vf<|.str x) B) #v[l] Q:=by
 delta ck;cases k==0&&Y==3 with
 |true=>exact xy (λ_=>ab7) (λz0=>abx.mpr z0) hl z0
 |false=>
      refine bc (Y==1) ?_ ?_;·exact xy (λ_=>NA) (λz0=>Nr.mpr z0) hl z0
      ·refine bc (Y==2) ?_ ?_
       ·exact xy (λ_=>ab8) (λz0=>aby.mpr z0) hl z0
       ·exact xy (λ_=>NA) (λz0=>Nr.mpr z0) hl z0
def acp{a:d6}{s1 s2:M}{hv:ak}(ha:jG a)(hs:pT s1 s2)(hw:x.length<=60)(hD:m.length<=500)(h0:aQ f m=q (Sp.mk f<|.slot a.aK).I)(h1:aQ (f+1) m=bif a.again then z else q (Sp.mk (f+1)<|ck f a.br a.first).I)(h2:aQ (f+2) m=q (Sp.mk (f+2)<|ck (f+1) (a.place-a.br) a.ci).I)(hl:l.length<=400)(Y:∀B,bj (aS (Ph (am tab<|n+4) 0) (.var 7) ly) r (fm J (ba N R hv (bT s1 s2) P Z) L (.di m) E (vf<|.str x) B) #v[l++b7 (gN x a s1 s2)] Q):bj (aS (Ph (am tab<|n+4) 0) (.var 7) ly) ((a.bo f).map Sp.I++r) (fm J (ba N R hv (bT s1 s2) P Z) L (.di m) E (vf<|.str x) B) #v[l] Q:=by
 have ll:∀B,bj (aS (Ph (am tab<|n+4) 0) (.var 7) ly) ((dW a f).I::r) (fm J (ba N R hv (bT s1 s2) P Z) L (.di m) E (vf<|.str x) B) #v[l] Q:=by
  intro B;have fin:Di (am tab<|n+4) J (ba N R hv (bT s1 s2) P Z) L (.di m) (dW a f).I x E l λo ρ z0=>nK o ρ z0 (λρ z0=>bj (aS (Ph (am tab<|n+4) 0) (.var 7) ly) r ρ z0 Q) Q:=Hp (q1) (U (jK ..)<|have:=Ho x a s1 s2;q1) (λY=>abL ha hs (q1) hD h0 h1 h2 Y) (b6<|Y _);calc cz;revert fin;delta dW;cases aa (a.bf<2)with
  |true=>exact λfin=>ab9.mpr fin
  |false=>
       refine bc (aa<|a.bf<4) ?_ ?_;·exact λfin=>ab_.mpr fin
       ·refine bc (a.bf==4) ?_ ?_
        ·exact λfin=>NB.mpr fin
        ·exact λfin=>NB.mpr fin
 have fM:l.length<=500:=by exact q1
 refine have e:(a.bo f).map Sp.I++r=(Sp.mk f<|.slot a.aK).I::(Sp.mk (f+1)<|ck f a.br a.first).I::(Sp.mk (f+2)<|ck (f+1) (a.place-a.br) a.ci).I::((im a f).map Sp.I++((dW a f).I::r)):=U fx<|U fx<|U (cZ ..)<|U (cZ ..) C;U e<|xy (λ_=>ab5) (λY=>abv.mpr Y) fM λB=>NF fM λB=>NF fM λB=>?_;delta im;exact bc a.again (xy (λ_=>ab6) (λY=>abw.mpr Y) fM ll)<|ll B
end
def kJ(p:fD)(u:Fu)(c:aj)(t:M)(b:Bl):G Pair:=ip p u (fU u.name t) b.gs++rm (fU u.name t) c b.en
def Hq(p:fD)(u:Fu)(c:aj):aj->G Bl->G Pair|_,[]=>[]|t,b::r=>kJ p u c t b++Hq p u c (t+1) r
def sY(p:fD)(u:Fu):G Pair:=Hq p u u.bs.length 0 u.bs
def xz:∀n∈(["alpha","beta","gamma"]:G ah),n∈allNames:=by decide+kernel
def Hr(t:∀h∈p,h.name∈(["alpha","beta","gamma"]:G ah))(l:uA p f g):uV g:=by have r:∀{m:ah},(∃h∈p,h.name=m)->m∈allNames:=λ⟨h,u,e⟩=>xz _<|e▸t h u;cases g with|acc a=>exact⟨λ_ e=>by injection e with e;subst e;exact l,λ_ e=>(by injection e),λ_ _ e=>(by injection e)⟩|call c=>exact⟨λ_ e=>(by injection e),λ_ e=>by injection e with e;subst e;exact⟨l.n,l.name.elim (λh=>(by decide+kernel:∀n∈(["omega","nowhere","delta"]:G ah),n∈allNames) _ h) r⟩,λ_ _ e=>(by injection e)⟩|name m k=>exact⟨λ_ e=>(by injection e),λ_ e=>(by injection e),λ_ _ e=>by injection e with e;subst e;exact Or.elim l (λh=>(by decide+kernel:∀n∈(["omega","nowhere","alpha"]:G ah),n∈allNames) _ h) r⟩
def Hs(f:c∈allNames)(l:0<=t/\t<3):(fU c t).length<=60:=have e:=jg (i:=t) ⟨by exact z5,by exact z3⟩;aG (dF (dF (dF (fT c f) (by decide+kernel:cM " block "<=20)) e) (by decide+kernel:cM ": "<=20)) {}
def rn(p:fD)(u:Fu)(f:ah):∀m,(ip p u f m).length<=2*m.length:=by intro t;induction t with|nil=>exact cD _|cons g r ih=>refine U bO<|U (arj ..)<|U (tW ..)<|iC (ih) ?_;cases g with|acc a=>exact Ho _ _ _ _|call c=>show(match eK p c.name with|D=>lx p f c|j=>[ri f c.name]).length<=2;cases eK p c.name;exact jV _;exact NE _ _ _|name l k=>show(match eK p l with|D=>[]|j=>[ri f l]).length<=2;cases eK p l;exact jV _;exact cD _
section
abbrev uI(u:Fu)(c:G F)(f:M):F:=ba u.name u.np u.hv (bT u.s1 u.s2) c f
def acq(R:eN p)(J:oU u)(Y:fi hs u.np (A++g::B))(L:uV g)(O:(A++g::B).length<=4)(Z:f=u.np+4*A.length)(t:x.length<=60)(hl:l.length<=400)(m:∀P,bj (aS (Ph (am tab<|n+4) 0) (.var 7) ly) r (fm p.I (uI u bl rg) (gq p) (.di<|kG u.np<|bQ u.np<|A++g::B) x5 (vf<|.str x) P) #v[l++b7 (j6 p u x g)] Q):bj (aS (Ph (am tab<|n+4) 0) (.var 7) ly) ((g.bo f).map Sp.I++r) (fm p.I (uI u bl rg) (gq p) (.di<|kG u.np<|bQ u.np<|A++g::B) x5 (vf<|.str x) P) #v[l] Q:=by
 cases g with
 |acc a=>
  refine qO (Z2 J.np Y Z) λh0 h1 h2=>?_;have hD:(kG u.np<|bQ u.np<|A++ .acc a::B).length<=500:=by have h3:=(GQ J.np<|bQ u.np<|A++ .acc a::B).len.1;have h4:=uK (A++ .acc a::B) u.np;have h5:=MV (jf<|bQ u.np<|A++ .acc a::B) (je (gX u.np)<|bQ u.np<|A++ .acc a::B) (jf<|bQ u.np<|A++ .acc a::B) [];rw[yM]at h5;show(pO _ _ _ _).length<=500;lia
  exact acp (L.acc a rfl) ⟨J.s1,J.s2⟩ t hD h0 h1 h2 hl m
 |call c=>
  have E:=L.call c rfl;refine cz<|acb.mpr ?_;calc U (uL ..);show match !eK p c.name with|true=>_|false=>_
  delta j6 at m;dsimp only at m;revert m;refine bc (eK p c.name) (λm=>?_) λm=>?_;·refine abY R t E.1 E.2<|aE (c:=aa<|l.length+(b7<|lx p x c).length<aM) (d_ (by refine U (jK ..) ?_;have:=NE p x c;exact q3))<|b6<|m _
  ·exact eA t pU.2.2.2 {}<|eA (dF t pU.2.2.2) (fT _ E.2) {}<|aE (d_ (by exact q1))<|b6<|m _
 |name N k=>
  have E:=L.name N k C;refine cz<|aca.mpr ?_;calc U (uL ..);show match !eK p N with|true=>_|false=>_
  delta j6 at m;dsimp only at m;revert m;refine bc (eK p N) (λm=>?_) λm=>?_;·refine Hp (by exact q1) (W:=[]) (cD _) (λm=>Ny (λm=>abz.mpr m) m) ?_;exact b6<|m _
  ·exact eA t pU.2.2.2 {}<|eA (dF t pU.2.2.2) (fT _ E) {}<|aE (d_ (by exact q1))<|b6<|m _
def acr(L:eN p)(N:oU u)(O:fi P u.np J)(R:∀h∈P,h.name∈(["alpha","beta","gamma"]:G ah))(x:J.length<=4)(Y:m.length<=60):∀(r A:G Gr)(l:G F)(t:ar V),J=A++r++c->l.length+2*r.length<=300->(∀t,Q .next (fm p.I (uI u Z rg) (gq p) (.di<|kG u.np<|bQ u.np J) x5 (vf<|.str m) t) #v[l++b7 (ip p u m r)])->bj (aS (Ph (am tab<|n+4) 0) (.var 7) ly) ((bQ (u.np+4*A.length) r).map Sp.I) (fm p.I (uI u Z rg) (gq p) (.di<|kG u.np<|bQ u.np J) x5 (vf<|.str m) t) #v[l] Q:=by
 intro r;induction r with
 |nil=>intro A l t _ _ f;have f:=f t;rw[show b7 (ip p u m [])=[]from C,bK]at f;exact dL f
 |cons g r ih=>
  intro A l t e hl f;rw[eX]at hl;have e':J=A++g::(r++c):=by refine U e<|U (cZ ..) ?_;rfl
  have hgl:(j6 p u m g).length<=2:=by have:=rn p u m [g];rw[show ip p u m [g]=j6 p u m g from bK _]at this;exact this
  refine U (xk ..)<|U fx ?_;have B:=ih (A++[g])<|l++b7 (j6 p u m g);rw[show u.np+4*((A++[g]).length:M)=u.np+4*(A.length:M)+4 by refine U bO<|U sr ?_;lia]at B;have E:=O;rw[e']at E x B f⊢;refine acq L N E (Hr R E.split.2.1) x rfl Y (y8) λt=>B t (U (cZ ..)<|U (cZ ..) C) (U bO<|U (jK ..) y3) λt=>?_;have f:=f t;rw[show ip p u m (g::r)=j6 p u m g++ip p u m r from C,mS,<-cZ]at f;exact f
end
def Dj(l:ah)(m:aj)(e:En):(rm l m e).length<=3:=by
 cases e with
 |table low f g r=>
  have t:=Hl l low;have u:=Hm l f;have p:∀b,(sX l b).length<=1:=λb=>by cases b;exact cD _;exact bR _
  exact have p:=p<|(bN f g++[r]).any<|eB m;U bO (U bO y5)
 |_=>exact cD _
section
def Ht(hp:eN p)(hu:oU u)(L:u.name∈allNames)(hg:fi hs u.np N)(hh:∀h∈hs,h.name∈(["alpha","beta","gamma"]:G ah))(O:N.length<=4)(e:N=A++r++c)(ht:0<=t/\t<3)(he:mP x\/∃hv,x= .ce hv)(hb:E.length<=2)(hl:l.length<=100)(ef:f=u.np+4*A.length)(m:∀R P J,Q .next (fm p.I (uI u E Y) (gq p) (.di<|kG u.np<|bQ u.np N) R P J) #v[l++b7 (kJ p u E.length t ⟨r,x⟩)]):aS (Ph (am tab<|n+4) 0) (.var 5) Dg (ch t ⟨bQ f r,x⟩) (fm p.I (uI u E Y) (gq p) (.di<|kG u.np<|bQ u.np N) R P J) #v[l] Q:=by
 have Z:=Hs L ht;have hr:r.length<=4:=by have:=az mC e;rw[bO,bO]at this;lia
 refine ig (a:=fm p.I (uI u E Y) (gq p) (.di<|kG u.np<|bQ u.np N) (vf<|ch t ⟨bQ f r,x⟩) P J) C<|bq (s:=uS 0) (r:=Hk 1) C<|ab2.mpr (have e3:=jg (i:=t) ⟨by exact z5,by exact z3⟩;have B:=fT _ L;eA B (by decide+kernel:cM " block "<=20) {} (nW (z8)<|eA (dF B (by decide+kernel:cM " block "<=20)) e3 {}<|eA (dF (dF B (by decide+kernel:cM " block "<=20)) e3) (by decide+kernel:cM ": "<=20) {}<|aF<|bq (s:=uS 1) (r:=Hk 2) C<|ab3.mpr (U ef<|acr (m:=fU u.name t) (c:=c) hp hu hg hh O Z r A l J e (by lia) λJ=>aF<|bq (s:=uS 2) (r:=Hk 3) C<|ab4.mpr<|acn he Z hb<|aE (c:=aa<|(l++b7 (ip p u (fU u.name t) r)).length+(b7<|rm (fU u.name t) E.length x).length<aM) ?_<|aF<|gw ?_)));·exact d_<|have h1:=rn p u (fU u.name t) r;have h2:=Dj (fU u.name t) E.length x;U bO (U (jK ..)<|U (jK ..) (by lia))
 ·have m:=m (vf<|ch t ⟨bQ (u.np+4*A.length) r,x⟩) (vf<|.str<|fU u.name t) J;unfold kJ at m;rw[mS,<-cZ]at m;exact m
def acu(Z:eN p)(hm:u∈p.us)(c:f (.ret<|.fz<|.af<|b7<|sY p u) fl):am tab (n+5) 289 [.fz p.I,.fz u.I,.fz (gq p)] [] (aZ [] fl f):=by
 obtain⟨O,N,hb,hh⟩:=Z.us u hm;have E:=xz _ O.name;obtain⟨t,l,r,J,L,bs⟩:=u;refine cP (aaP hb) λP hg Q hl4=>?_;dsimp only at hb hg Q E;have CD:(gx<|oR l bs).length<=500:=by refine U Q ?_;exact aG (uK P l) (by lia)
 calc ab0.mpr;calc ZW O.np CD;calc U Q;calc aE (c:=(2==2&&(dU (.fz<|.di<|kG l<|bQ l P)&&(D&&D)))) C;show ao (Ph (am tab<|n+4) 0) (Df 1) (fm p.I (ba t l r (bT J L) (uJ 0<|oR l bs)<|zM l bs) (gq p) (.di<|kG l<|bQ l P) z z z) #v[[]] (runK<|aZ [] fl f);refine bq (s:=Hj 1) (r:=Df 2) C<|ab1.mpr ?_;cases hb with
 |one h1 h2=>
  rename_i m;have e1:bQ l m=bQ l P:=by have:bQ l m++[]=_:=Q;rw[bK]at this;exact this
  have c:f (.ret<|.fz<|.af<|b7<|kJ p ⟨t,l,r,J,L,[⟨m,.ce r⟩]⟩ 1 0 ⟨m,.ce r⟩++[]) fl:=c;rw[bK]at c;calc U (Eq.symm e1);refine cz (Ht (hs:=N) (u:=⟨t,l,r,J,L,[⟨m,.ce r⟩]⟩) (t:=0) (A:=[]) (c:=[]) (r:=m) (x:=.ce r) (l:=[]) Z O E h1 hh (by exact FP) (bK _).symm ⟨{},{}⟩ (.inr ⟨_,C⟩) (by show 1<=2;decide) (cD _) (jo l).symm λx5 x6 x7=>b6<|dL<|aF<|Nz.mpr ?_);exact c
 |two h1 h2 h3 h4 h5=>
  rename_i m B x;have e1:bQ l (m++x)=bQ l P:=by calc U (z6 ..);have:bQ l m++(bQ (l+4*m.length) x++[])=_:=Q;rw[bK]at this;exact this
  have c:f (.ret<|.fz<|.af<|b7<|kJ p ⟨t,l,r,J,L,[⟨m,B⟩,⟨x,.ce r⟩]⟩ 2 0 ⟨m,B⟩++(kJ p ⟨t,l,r,J,L,[⟨m,B⟩,⟨x,.ce r⟩]⟩ 2 1 ⟨x,.ce r⟩++[])) fl:=c;rw[bK,mS]at c;calc U (Eq.symm e1);have R:=Ha h1 h4;have Y:(m++x).length<=4:=by calc U bO;exact q3 (And.right ‹_›)<|And.right ‹_›
  refine cz (Ht (hs:=N) (u:=⟨t,l,r,J,L,[⟨m,B⟩,⟨x,.ce r⟩]⟩) (t:=0) (A:=[]) (c:=x) (r:=m) (x:=B) (l:=[]) Z O E R hh Y rfl ⟨{},{}⟩ (.inl h3) (by show 2<=2;decide) (cD _) (jo l).symm λx5 x6 x7=>b6 ?_);refine cz (Ht (hs:=N) (u:=⟨t,l,r,J,L,[⟨m,B⟩,⟨x,.ce r⟩]⟩) (t:=1) (A:=m) (c:=[]) (r:=x) (x:=.ce r) Z O E R hh Y (bK _).symm ⟨{},{}⟩ (.inr ⟨_,C⟩) (by show 2<=2;decide) ?_ rfl λx5 x6 x7=>b6<|dL<|aF<|Nz.mpr ?_);·have h6:=rn p ⟨t,l,r,J,L,[⟨m,B⟩,⟨x,.ce r⟩]⟩ (fU t 0) m;have h7:=Dj (fU t 0) 2 B;show(b7<|ip p ⟨t,l,r,J,L,[⟨m,B⟩,⟨x,.ce r⟩]⟩ (fU t 0) m++rm (fU t 0) 2 B).length<=100;refine U (jK ..)<|U bO ?_;lia
  ·exact c
end
noncomputable def ro(c:ah)(f:M):ah:=((c++" at ")++gM f)++": "
noncomputable abbrev Ak(k:aj):S:=F_.body.getD k .brk
noncomputable abbrev Al(k:aj):G S:=F_.body.drop k
noncomputable def o4:G S:=dQ<|Ak 2
noncomputable abbrev gg(d c:F)(f:M)(l m:ar V):Rho:=[vf d,vf c,q (.ref 0),vi f,l,m]
noncomputable def j7(c:ah)(f:M)(l:G F):F:=.hV 117 [("name",.str c),("align",.int f),("is_static",.bool j),("pieces",.af l)]
def xA(P:bL->Mem->Prop)(c f w:M):Prop:=gd (w !=0) (match c.fmod w==0 with|D=>gd (w !=0) (match f.fmod w==0 with|D=>P (.ret<|.fz<|.str "") ⋯|j=>P (.ret<|.fz<|.str "a piece that is not aligned") ⋯)|j=>P (.ret<|.fz<|.str "a piece that is not aligned") ⋯)
def pV(v c:M)(A B:Prop):Prop:=match aa (0<=v)with
 |D=>match !aa (v<c)with|D=>B|j=>A
 |j=>B
section
def acv:am tab (n+1) 156 [.fz (Pc.num c v).F] f P=P (.ret<|.fz<|.int c) ⟨f,[]⟩:=()
def acw:am tab (n+1) 156 [.fz (Pc.fk f k).F] c P=P (.ret<|.fz<|.int 4) ⟨c,[]⟩:=()
def acx:am tab (n+1) 156 [.fz (Pc.gap k).F] c P=P (.ret<|.fz<|.int k) ⟨c,[]⟩:=()
def acy:am tab (n+1) 156 [.fz (Pc.gb m).F] c P=gd ((jA m (0:px)).size<=aM) (P (.ret<|.fz<|.int (jA m (0:px)).size) ⟨c,[]⟩):=()
def acz:am tab (n+2) 296 [.fz (Pc.num 3 v).F,.fz (.int c),.fz (.int f),.fz l] [] P=P (.ret<|.fz<|.str "a number of no width") ⋯:=()
def acA:am tab (n+2) 296 [.fz (Pc.num 1 v).F,.fz (.int c),.fz (.int f),.fz l] [] P=pV v 256 (xA P c f 1) (P (.ret<|.fz<|.str "a number that has no room") ⋯):=()
def acC:am tab (n+2) 296 [.fz (Pc.num 2 v).F,.fz (.int c),.fz (.int f),.fz l] [] P=pV v 65536 (xA P c f 2) (P (.ret<|.fz<|.str "a number that has no room") ⋯):=()
def acD:am tab (n+2) 296 [.fz (Pc.num 4 v).F,.fz (.int c),.fz (.int f),.fz l] [] P=pV v 4294967296 (xA P c f 4) (P (.ret<|.fz<|.str "a number that has no room") ⋯):=()
def acE:am tab (n+2) 296 [.fz (Pc.fk c k).F,.fz (.int f),.fz (.int l),.fz (.ds m)] [] P=(match !has c m with|D=>b8 "no name " c λa=>P (.ret<|.fz<|.str a) ⋯|j=>xA P f l 4):=()
def acF:am tab (n+2) 296 [.fz (Pc.gap k).F,.fz (.int c),.fz (.int f),.fz l] [] P=(match aa (0<k)with|D=>P (.ret<|.fz<|.str "") ⋯|j=>P (.ret<|.fz<|.str "a gap of no octets") ⋯):=()
def acG:am tab (n+2) 296 [.fz (Pc.gb m).F,.fz (.int c),.fz (.int f),.fz l] [] P=gd ((jA m (0:px)).size<=aM) (match aa (0<((jA m (0:px)).size:M))with|D=>P (.ret<|.fz<|.str "") ⋯|j=>P (.ret<|.fz<|.str "a text of no octets") ⋯):=()
def acH:am tab (n+2) 296 [.fz Pc.gp.F,.fz (.int c),.fz (.int f),.fz l] [] P=P (.ret<|.fz<|.str "no such piece: what") ⋯:=()
def acI:am tab (n+1) 303 [.fz d,.fz c] [] P=ao (Ph (am tab n) 0) (Al 1) (gg d c 0 z z) #v[[]] (runK P):=()
def acJ:WS (Ph c 0) (Ak 1) (gg (j7 f l m) p 0 z z) #v[[]] Q=(match !([1,2,4]:G M).any (· ==l)with|D=>b8 f ": an alignment that is none" λa=>Q .next (gg (j7 f l m) p 0 z z) #v[[.str a]]|j=>Q .next (gg (j7 f l m) p 0 z z) #v[[]]):=()
def acK:WS (Ph c 0) (Ak 2) (gg (j7 m p f) r 0 z z) #v[l] Q=bj (aS (Ph c 0) (.var 4) o4) f (gg (j7 m p f) r 0 z z) #v[l] Q:=()
def acL:aS (Ph c 0) (.var 4) o4 m (gg (j7 x p B) t u L E) #v[l] Q=c 296 [.fz m,.fz (.int u),.fz (.int p),.fz t] [] (aZ [] [.list l] λr J=>cW r λv=>ez (Ph c 0) (.v<|.var 5) v (gg (j7 x p B) t u (vf m) E) ⟨J,[]⟩ λρ f=>ao (Ph c 0) (o4.drop 1) ρ f Q):=()
def acM:WS (Ph c 0) (o4.getD 1 .brk) (gg (j7 f p r) t m u<|vf<|.str w) #v[l] Q=(match !(w==cV "")with|D=>b8 f " at " λa=>jL m λb=>b8 a b λa=>b8 a ": " λa=>b8 a w λa=>gd (l.length<aM)<|Q .next (gg (j7 f p r) t m u<|vf<|.str w) #v[l++[.str a]]|j=>Q .next (gg (j7 f p r) t m u<|vf<|.str w) #v[l]):=()
abbrev d2(f:Pc)(c:AM)(d m:F)(p:M)(t:ar V)(l:G F)(Q:DK):Prop:=ao (Ph c 0) (o4.drop 2) (gg d m p (vf f.F) t) #v[l] Q=c 156 [.fz f.F] [] (aZ [] [.list l] λr u=>cW r λv=>cF v λk=>Q .next (gg d m (p+k) (vf f.F) t) ⟨u,[]⟩)
def acN:d2 (.num f v) c d m p r l Q:=()
def acO:d2 (.fk f k) c d m p r l Q:=()
def acP:d2 (.gap k) c d f m p l Q:=()
def acQ:d2 (.gb m) c d f p r l Q:=()
def acT:ao (Ph c 0) (o4.drop 2) (gg d f m (vf Pc.gp.F) p) #v[l] Q=Q .brk (gg d f m (vf Pc.gp.F) p) #v[l]:=()
def acU:ao (Ph c 0) (Al 3) (gg d p r t u) #v[l] (runK<|aZ [] m f)=f (.ret<|.fz<|.af l) m:=()
end
noncomputable def pW(c f w:M):ak:=c.fmod w==0&&f.fmod w==0
noncomputable def sZ(w:M):M:=match w==1 with|D=>256|j=>match w==2 with|D=>65536|j=>4294967296
noncomputable def o5(b:ak):ar (ah×G ah):=match b with|D=>z|j=>q ("a piece that is not aligned",["aligned"])
noncomputable def iq(p:fD)(f l:M):Pc->ar (ah×G ah)
 | .num w v=>match w==3 with|D=>q ("a number of no width",["width"])|j=>match aa (0<=v)&&aa (v<sZ w)with|D=>o5<|pW f l w|j=>q ("a number that has no room",["room"])
 | .fk c _=>match eK p c with|D=>o5<|pW f l 4|j=>q ("no name "++c,["name "++c])
 | .gap k=>match aa (0<k)with|D=>z|j=>q ("a gap of no octets",["gap"])
 | .gb m=>match aa (0<(m:M))with|D=>z|j=>q ("a text of no octets",["text"])
 | .gp=>q ("no such piece: what",["piece","what"])
noncomputable def s9(o:ar (ah×G ah)):ah:=match o with|q x=>x.1|z=>""
noncomputable def pX(c:ah)(f:M)(o:ar (ah×G ah)):G Pair:=match o with|q x=>[(ro c f++x.1,cK (ro c f) x.2 [])]|z=>[]
noncomputable def mX:Pc->ak| .gp=>D|_=>j
noncomputable def lz(p:fD)(f:ah)(l:M):M->G Pc->G Pair|_,[]=>[]|aq,c::r=>pX f aq (iq p aq l c)++match mX c with|D=>[]|j=>lz p f l (aq+c.size) r
noncomputable def xB(c:ah)(f:M):G Pair:=match([1,2,4]:G M).any (· ==f)with|D=>[]|j=>[(c++": an alignment that is none",cK (c++": ") ["alignment"] [])]
noncomputable def o6(p:fD)(t:Th):G Pair:=xB t.name t.bE++lz p t.name t.bE 0 t.ps
def Dk:∀n∈(["omega","alpha","nowhere"]:G ah),n∈allNames:=by decide+kernel
section
def NG(f:(w !=0)=D)(c:P (.ret<|.fz<|.str<|s9<|o5<|pW l m w) ⋯):xA P l m w:=by
 calc aE f;delta pW at c;revert c;refine bc (l.fmod w==0) (λc=>?_) λc=>?_;·
  calc aE f;revert c;refine bc (m.fmod w==0) (λc=>?_) λc=>?_;·exact c
  ·exact c
 ·exact c
def NH(m:(aa (0<=v)&&aa (v<c))=D->A)(l:(aa (0<=v)&&aa (v<c))=j->B):pV v c A B:=by
 delta pV;refine bX (aa<|0<=v) (λh=>?_) λh=>?_;·
  refine bX (aa<|v<c) (λf=>?_) λf=>?_;·exact m (by refine U h<|U f ?_;rfl)
  ·exact l (by refine U h<|U f ?_;rfl)
 ·exact l (by calc U h;rfl)
def acV{h:w=1\/w=2\/w=4}(e:am tab (n+2) 296 [.fz (Pc.num w v).F,.fz (.int f),.fz (.int l),.fz r] [] P=pV v (sZ w) (xA P f l w) (P (.ret<|.fz<|.str "a number that has no room") ⋯))(c:P (.ret<|.fz<|.str<|s9<|iq p f l<|.num w v) ⋯):am tab (n+2) 296 [.fz (Pc.num w v).F,.fz (.int f),.fz (.int l),.fz r] [] P:=by
 calc U e;have c:P (.ret<|.fz<|.str<|s9 (match w==3 with|D=>q ("a number of no width",["width"])|j=>match aa (0<=v)&&aa (v<sZ w)with|D=>o5 (pW f l w)|j=>q ("a number that has no room",["room"]))) ⋯:=c;rw[show(w==3)=j by clear e;rcases h with rfl|rfl|rfl<;>rfl]at c;refine NH (λm=>NG (by clear e;rcases h with rfl|rfl|rfl<;>rfl) ?_) λm=>?_;·rw[m]at c;exact c
 ·rw[m]at c;exact c
def acW(h:ij r)(c:P (.ret<|.fz<|.str<|s9<|iq p t u r) ⋯):am tab (n+2) 296 [.fz r.F,.fz (.int t),.fz (.int u),.fz (gq p)] [] P:=by
 cases h with
 |num x=>
  rename_i w v _ _;have l:w=3\/(w=1\/w=2\/w=4):=by lia
  clear x;rcases l with rfl|l
  ·exact acz.mpr c
  ·refine acV (h:=l) ?_ c
   rcases l with rfl|rfl|rfl
   ·exact acA
   ·exact acC
   ·exact acD
 |fk B=>
  rename_i f k;refine acE.mpr<|U (uL ..) ?_;show match !eK p f with|true=>_|false=>_
  have c:P (.ret<|.fz<|.str<|s9 (match eK p f with|D=>o5 (pW t u 4)|j=>q ("no name "++f,["name "++f]))) ⋯:=c;revert c;exact bc (eK p f) (λc=>NG C c) (λc=>eA pU.2.2.2 (fT _<|Dk _ B) {} c)
 |gap E L=>rename_i k;calc acF.mpr;have c:P (.ret<|.fz<|.str<|s9 (match aa (0<k)with|D=>z|j=>q ("a gap of no octets",["gap"]))) ⋯:=c;revert c;exact bc (aa<|0<k) (λc=>c) λc=>c
 |gb E=>rename_i m;refine have J:(jA m (0:px)).size=m:=Fi;acG.mpr<|U J<|aE (cy<|q1) ?_;have c:P (.ret<|.fz<|.str<|s9 (match aa (0<(m:M))with|D=>z|j=>q ("a text of no octets",["text"]))) ⋯:=c;revert c;exact bc (aa<|0<(m:M)) (λc=>c) λc=>c
 |gp=>exact acH.mpr c
end
def NI(h:x.length≠0):((x++y)==cV "")=j:=by refine yR λe=>?_;have c:=az cM e;rw[me,show(cV "").length=0 by decide+kernel]at c;lia
def acX(h:iq p u B r=q x):(x.1==cV "")=j/\x.1.length<=200\/∃l k,r= .fk l k/\x.1="no name "++l:=by
 have c:∀{y:ah},y∈(["a piece that is not aligned","a number of no width","a number that has no room","a gap of no octets","a text of no octets","no such piece: what"]:G ah)->(y==cV "")=j/\y.length<=200:=λ{y} t=>(by decide+kernel:∀y∈(["a piece that is not aligned","a number of no width","a number that has no room","a gap of no octets","a text of no octets","no such piece: what"]:G ah),(y==cV "")=j/\y.length<=200) y t;have f:∀{b},o5 b=q x->(x.1==cV "")=j/\x.1.length<=200:=λ{b} e=>by cases b with|true=>injection e|false=>obtain rfl:=bH e;exact c<|.head _
 delta iq at h;cases r with
 |num w v=>
  dsimp only at h;revert h;refine bc (w==3) (λh=>?_) λh=>?_;·injection h with h;subst h;exact .inl<|c<|.tail _<|.head _
  ·
   revert h;refine bc (aa (0<=v)&&aa (v<sZ w)) (λh=>?_) λh=>?_;·exact .inl<|f h
   ·injection h with h;subst h;exact .inl<|c<|.tail _<|.tail _<|.head _
 |fk l k=>
  dsimp only at h;revert h;refine bc (eK p l) (λh=>?_) λh=>?_;·exact .inl<|f h
  ·injection h with h;clear f;subst h;exact .inr<|fY l k C rfl
 |gap k=>
  dsimp only at h;revert h;refine bc (aa<|0<k) (λh=>?_) λh=>?_;·injection h
  ·injection h with h;clear f;subst h;exact .inl<|c<|.tail _<|.tail _<|.tail _<|.head _
 |gb m=>
  dsimp only at h;revert h;refine bc (aa<|0<(m:M)) (λh=>?_) λh=>?_;·injection h
  ·injection h with h;clear f;subst h;exact .inl<|c<|.tail _<|.tail _<|.tail _<|.tail _<|.head _
 |gp=>injection h with h;clear f;subst h;exact .inl<|c<|.tail _<|.tail _<|.tail _<|.tail _<|.tail _<|.head _
def acY(p:fD)(t:ah)(f:M):∀(l:G Pc)(c:M),(lz p t f c l).length<=l.length:=by
 intro u;induction u with
 |nil=>exact λ_=>bR _
 |cons m r ih=>
  refine λc=>U bO<|U (tW ..)<|iC ?_ ?_;·exact bc (mX m) (cD _)<|ih _
  ·cases iq p c f m;exact cD _;exact bR _
def Hu(h:ij c):0<=c.size/\c.size<=4:=by cases h with|num h=>delta Pc.size;lia|fk=>exact⟨(by decide:(0:M)<=4),(by decide:(4:M)<=4)⟩|gap f l=>exact⟨f,l⟩|gb h=>exact⟨gB _,qC.mpr h⟩|gp=>exact⟨{},{}⟩
section
def NJ(h:ij f)(x:mX f=D->Q .brk (gg d r t (vf f.F) u) #v[l])(p:mX f=j->Q .next (gg d r (t+f.size) (vf f.F) u) #v[l]):ao (Ph (am tab<|c+1) 0) (o4.drop 2) (gg d r t (vf f.F) u) #v[l] Q:=by cases h with|num=>exact acN.mpr<|acv.mpr<|p rfl|fk=>exact acO.mpr<|acw.mpr<|p rfl|gap=>exact acP.mpr<|acx.mpr<|p rfl|gb h=>rename_i m;exact have B:(jA m (0:px)).size=m:=Fi;acQ.mpr (acy.mpr<|U B<|aE (cy<|q1)<|p rfl)|gp=>exact acT.mpr<|x rfl
def acZ(h:ij f)(Y:m∈allNames)(ha:0<=c/\c<32)(hl:l.length<=100)(u:∀B,mX f=D->Q .brk (gg (j7 m r L) (gq p) c (vf f.F) B) #v[l++b7 (pX m c<|iq p c r f)])(E:∀B,mX f=j->Q .next (gg (j7 m r L) (gq p) (c+f.size) (vf f.F) B) #v[l++b7 (pX m c<|iq p c r f)]):aS (Ph (am tab<|n+2) 0) (.var 4) o4 f.F (gg (j7 m r L) (gq p) c x4 B) #v[l] Q:=by
 refine acL.mpr<|acW h<|bq (s:=o4.getD 1 .brk) (r:=o4.drop 2) C<|acM.mpr ?_;cases J:iq p c r f with
 |none=>rw[J,show b7 (pX m c z)=[]from C,bK]at u E;rw[show(s9 z==cV "")=D by decide+kernel];exact aF<|NJ h (u _)<|E _
 |some x=>
  rw[J]at u E
  have N:(x.1==cV "")=j/\x.1.length<=200:=by
   rcases acX J with Z|⟨d8,k,rfl,e⟩
   ·exact Z
   ·rw[e];cases h with|fk hm=>exact⟨NI (by decide+kernel),aG (dF pU.2.2.2<|fT _<|Dk _ hm) {}⟩
  have O:=jg (i:=c) ⟨by exact z5,by exact And.right ‹_›⟩
  have t:=fT _ Y
  have P:=dF t (by decide+kernel:cM " at "<=20)
  have R:=dF P O
  have a3:=dF R (by decide+kernel:cM ": "<=20)
  show match !(x.1==cV "")with|true=>_|false=>_
  rw[N.1]
  exact have oQ:aa (l.length<aM)=D:=d_<|q1
  eA t (by decide+kernel:cM " at "<=20) {} (nW (z8)<|eA P O {}<|eA R (by decide+kernel:cM ": "<=20) {}<|eA a3 N.2 {}<|aE oQ<|aF<|NJ h (u _)<|E _)
def ac1(R:u∈allNames):∀(E:G Pc)(f:M)(l:G F)(B m:ar V),(∀t∈E,ij t)->0<=f->f+4*E.length<32->l.length+E.length<=100->(∀J B m,Q .next (gg (j7 u x N) (gq p) J B m) #v[l++b7 (lz p u x f E)])->bj (aS (Ph (am tab<|n+2) 0) (.var 4) o4) (E.map Pc.F) (gg (j7 u x N) (gq p) f B m) #v[l] Q:=by
 intro E;induction E with
 |nil=>intro f l B m _ _ _ _ c;have c:=c f B m;rw[show b7 (lz p u x f [])=[]from C,bK]at c;exact dL c
 |cons t r ih=>
  intro f l B m h Y O Z c;rw[eX]at O Z;have P:=h t<|.head _;have hs:=Hu P;have c:∀J B m,Q .next (gg (j7 u x N) (gq p) J B m) #v[l++b7 (pX u f (iq p f x t)++match mX t with|D=>[]|j=>lz p u x (f+t.size) r)]:=c;rw[mS,<-cZ]at c;have hpl:(pX u f<|iq p f x t).length<=1:=by cases iq p f x t;exact cD _;exact bR _
  refine cz<|acZ P R ⟨Y,B0 (uy _) O⟩ (tX ‹_›) (λm L=>?_) λm L=>b6 ?_;·rw[L]at c;have c:=c f (vf t.F) m;rw[show b7 (match D with|D=>([]:G Pair)|j=>lz p u x (f+t.size) r)=[]from C,bK]at c;exact c
  ·rw[L]at c;exact ih (f+t.size) _ _ _ (λy hy=>h y<|.tail _ hy) (by lia) (by lia) (U bO<|U (jK ..) (by lia)) c
def ac2(h:nQ t)(c:f (.ret<|.fz<|.af<|b7<|o6 p t) l):am tab (n+3) 303 [.fz t.I,.fz (gq p)] [] (aZ [] l f):=by refine have m:t.name∈allNames:=(by decide+kernel:∀n∈(["alpha","delta","sigma"]:G ah),n∈allNames) _ h.name;have u:=h.len;acI.mpr<|have rest:∀W:G Pair,W.length<=1->f (.ret<|.fz<|.af<|b7<|W++lz p t.name t.bE 0 t.ps) l->ao (Ph (am tab<|n+2) 0) (Al 2) (gg (j7 t.name t.bE<|t.ps.map Pc.F) (gq p) 0 z z) #v[b7 W] (runK<|aZ [] l f):=λW x c=>bq (s:=Ak 2) (r:=Al 3) C (acK.mpr (ac1 m t.ps 0 _ _ _ h.ps {} (by lia) (U (jK ..) q3) λB E J=>aF<|acU.mpr<|U (Eq.symm<|mS ..) c));bq (s:=Ak 1) (r:=Al 2) C<|acJ.mpr ?_;delta o6 xB at c;cases r:([1,2,4]:G M).any (· ==t.bE)with|true=>rw[r]at c;exact aF<|rest [] (cD _) c|false=>rw[r]at c;exact eA (fT _ m) (by decide+kernel:cM ": an alignment that is none"<=40) {}<|aF<|rest [(t.name++": an alignment that is none",cK (t.name++": ") ["alignment"] [])] (bR _) c
end
def lB(p:fD):G Fu->G Pair|[]=>[]|u::r=>sY p u++lB p r
def pY(p:fD):G Th->G Pair|[]=>[]|t::r=>o6 p t++pY p r
def pZ(p:fD):G Pair:=q_ p++lB p p.us++pY p p.cR
abbrev s_(k:aj):S:=Ga.body.getD k .brk
abbrev o7(k:aj):G S:=Ga.body.drop k
def Hv:G S:=dQ<|s_ 2
def Hw:G S:=dQ<|s_ 3
abbrev lD(u c:F)(f l:ar V):Rho:=[vf u,vf c,q (.ref 0),f,l]
section
def ac3:am tab (n+1) 310 [.fz u] [] P=am tab n 237 [.fz u] [] (aZ [] [] λr f=>cW r λv=>ez (Ph (am tab n) 0) (.v<|.var 1) v [vf u,z,z,z,z] ⟨f,[]⟩ λρ c=>ao (Ph (am tab n) 0) (o7 1) ρ c<|runK P):=()
def NK(k:V->G FObj->Prop)(r:bL)(c:Mem):Prop:=match r with| .ret v=>qR v λn=>gd (([]:G aj).length<=n)<|oP c.fl[n]? λo=>oP (oM o) λl=>k (.ref 0)<|pG [] c.fl []++[.list l]|_=>False
def ac4:FW (Ph c b) f [.fz u] [] k=c f [.fz u] [] (NK k):=()
def ac5:WS (Ph c 0) (s_ 1) [vf u,vf l,z,z,z] ⋯ Q=FW (Ph c 0) 230 [.fz u] [] λv m=>ez (Ph c 0) (.v<|.var 2) v [vf u,vf l,z,z,z] ⟨m,[]⟩ λρ f=>Q .next ρ f:=()
def ac6:NK k (.ret<|.ref 1) ⟨[o,.list l,c],[]⟩=k (.ref 0) [.list l]:=()
def ac7:WS (Ph c 0) (s_ 2) (lD (jJ f m p) r t u) #v[l] Q=bj (aS (Ph c 0) (.var 3) Hv) f (lD (jJ f m p) r t u) #v[l] Q:=()
def ac8:WS (Ph c 0) (s_ 3) (lD (jJ m f p) r t u) #v[l] Q=bj (aS (Ph c 0) (.var 4) Hw) f (lD (jJ m f p) r t u) #v[l] Q:=()
def ac9:aS (Ph c 0) (.var 3) Hv d (lD u m x p) #v[l] Q=c 289 [.fz u,.fz d,.fz m] [] (aZ [] [.list l] λr t=>cW r λv=>kB .gD (.ref 0) [v] ⟨t,[]⟩ λ_ f=>Q .next (lD u m (vf d) p) f):=()
def ac_:aS (Ph c 0) (.var 4) Hw d (lD u m p x) #v[l] Q=c 303 [.fz d,.fz m] [] (aZ [] [.list l] λr t=>cW r λv=>kB .gD (.ref 0) [v] ⟨t,[]⟩ λ_ f=>Q .next (lD u m p<|vf d) f):=()
def ada:ao (Ph c 0) (o7 4) (lD u f m p) #v[l] (runK P)=P (.ret<|.ref 0) #v[l]:=()
def Am(J:eN p)(L:u∈p.us):(sY p u).length<=30:=by
 obtain⟨_,N,m,_⟩:=J.us u L
 obtain⟨c,r,f,x,B,E⟩:=u
 have one:∀(b:Bl) l t,b.gs.length<=2->(kJ p ⟨c,r,f,x,B,E⟩ l t b).length<=7:=λb l t h=>have O:=rn p ⟨c,r,f,x,B,E⟩ (fU c t) b.gs
 have P:=Dj (fU c t) l b.en
 U bO (iC (aG O<|Lm 2 h) P)
 dsimp only at m
 cases m with|one _ h=>have:=one ⟨_,.ce f⟩ 1 0 h.2;show(kJ p _ 1 0 _++[]).length<=30;exact U (bK ..) q1|two _ h _ _ Q=>rename_i R Y Z _ _ _ _;have a1:=one ⟨R,Y⟩ 2 0 h.2;have a2:=one ⟨Z,.ce f⟩ 2 1 Q.2;show(kJ p _ 2 0 _++(kJ p _ 2 1 _++[])).length<=30;exact U (bK ..)<|U bO q3
def Hx(h:nQ t):(o6 p t).length<=10:=by
 have c:=acY p t.name t.bE t.ps 0;have f:(xB t.name t.bE).length<=1:=by delta xB;cases([1,2,4]:G M).any (· ==t.bE);exact bR _;exact cD _
 exact have:=h.len;U bO (aG (iC f<|aG c this) {})
def Hy(c:eN p):(q_ p).length<=8:=have f:=sO zX (eg p) [];have l:=sO (GJ<|eg p) p.d7 [];have m:=xh c;have r:=c.xl;U bO (iC (aG f m)<|aG l r)
def NL(B:eN p)(c:P (.ret<|.ref 0) #v[b7<|pZ p]):am tab (n+6) 310 [.fz p.I] [] P:=by
 refine have hn:=Hy B;have Q:=B.ul;have R:=B.tl;ac3.mpr (Zu B<|bq (s:=s_ 1) (r:=o7 2) C<|ac5.mpr<|ac4.mpr<|Zq B λo o'=>U ac6<|aF ?_);have Y:∀(r:G Th)(W:G Pair) l m,(∀t∈r,nQ t)->W.length+10*r.length<=1000->(∀l m,ao (Ph (am tab<|n+5) 0) (o7 4) (lD p.I (gq p) l m) #v[b7<|W++pY p r] (runK P))->
   bj (aS (Ph (am tab<|n+5) 0) (.var 4) Hw) (r.map Th.I) (lD p.I (gq p) l m) #v[b7 W] λo ρ f=>cf o ρ f (λρ f=>ao (Ph (am tab<|n+5) 0) (o7 4) ρ f<|runK P) (runK P):=by
  intro r
  induction r with
  |nil=>intro W l m _ _ c;have c:=c l m;rw[show pY p []=[]from C,bK]at c;exact dL<|aF c
  |cons t r ih=>
   intro W l m h E c
   rw[eX]at E
   have J:=h t<|.head _
   have L:=Hx (p:=p) J
   have c:∀l m,ao (Ph (am tab<|n+5) 0) (o7 4) (lD p.I (gq p) l m) #v[b7<|W++(o6 p t++pY p r)] (runK P):=c
   rw[<-cZ]at c
   exact cz<|ac_.mpr<|ac2 J<|aE (c:=aa<|(b7 W).length+(b7<|o6 p t).length<aM) (d_<|U (jK ..)<|U (jK ..)<|y9 E L)<|b6<|U (Eq.symm<|mS ..)<|ih _ _ _ (λy N=>h y<|.tail _ N) (U bO<|y3 E L) c
 have Z:∀(x:G Fu)(W:G Pair) l m,(∀u∈x,u∈p.us)->W.length+30*x.length<=500->(∀l m,ao (Ph (am tab<|n+5) 0) (o7 3) (lD p.I (gq p) l m) #v[b7<|W++lB p x] (runK P))->
   bj (aS (Ph (am tab<|n+5) 0) (.var 3) Hv) (x.map Fu.I) (lD p.I (gq p) l m) #v[b7 W] λo ρ f=>cf o ρ f (λρ f=>ao (Ph (am tab<|n+5) 0) (o7 3) ρ f<|runK P) (runK P):=by
  intro x
  induction x with
  |nil=>intro W l m _ _ c;have c:=c l m;rw[show lB p []=[]from C,bK]at c;exact dL<|aF c
  |cons t r ih=>
   intro W l m h E c
   rw[eX]at E
   have J:=h t<|.head _
   have L:=Am B J
   have c:∀l m,ao (Ph (am tab<|n+5) 0) (o7 3) (lD p.I (gq p) l m) #v[b7<|W++(sY p t++lB p r)] (runK P):=c
   rw[<-cZ]at c
   exact cz<|ac9.mpr<|acu B J<|aE (c:=aa<|(b7 W).length+(b7<|sY p t).length<aM) (d_<|U (jK ..)<|U (jK ..)<|y9 E L)<|b6<|U (Eq.symm<|mS ..)<|ih _ _ _ (λy N=>h y<|.tail _ N) (U bO<|y3 E L) c
 have O:∀x,(∀u∈x,u∈p.us)->(lB p x).length<=30*x.length:=by intro x;induction x with|nil=>intro _;exact bR _|cons t r ih=>intro h;have h1:=ih λy N=>h y<|.tail _ N;have h2:=Am B<|h t<|.head _;show(sY p t++lB p r).length<=30*(r.length+1);exact U bO<|y4 h1 h2
 exact have O:=O p.us λ_ h=>h;bq (s:=s_ 2) (r:=o7 3) C (ac7.mpr (Z p.us (q_ p) _ _ (λ_ h=>h) (by lia) λl m=>bq (s:=s_ 3) (r:=o7 4) C<|ac8.mpr (Y p.cR (q_ p++lB p p.us) _ _ B.cR (U bO (by lia)) λl m=>ada.mpr c)))
end
abbrev NM(k:aj):S:=Gh.body.getD k .brk
abbrev An(k:aj):G S:=Gh.body.drop k
def NN:G S:=uR<|NM 2
abbrev lE(k:aj):S:=NN.getD k .brk
abbrev kK(k:aj):G S:=NN.drop k
def Ao:G S:=dQ<|NM 6
abbrev HB(m p r t u c:F)(x:F)(B:ah)(op:ah)(d:M)(args l:F)(E J L N O P Q R Y Z:ar V):Rho:=[vf m,vf u,vf c,vf x,vf (.str B),vf p,vf r,vf t,vf (.str op),vi d,vf args,vf l,E,J,L,N,O,P,Q,R,Y,Z]
def Dl:X:=(xl<|xa<|xa<|xb<|sx<|lE 1).1
def Dm:X×G X:=lc<|lE 2
section
variable{v:ak}
def uW(c:AM)(r t x u f E:F)(J op:ah)(d:M)(args:G F)(p:F)(w:M)(B:G F)(P:bL->Mem->Prop):Prop:=
 bj (aS (Ph c 0) (.ai [.ai [.var 17,.var 18],.var 16]) Ao) B (HB (.ai [r,t,x]) r t x u f E J op d (.af args) p z z (q<|.ref 0) (vf<|.af B) (vi w) z z z z z) #v[[]]
  λo ρ m=>cf o ρ m (λρ m=>ao (Ph c 0) (An 7) ρ m<|runK P)<|runK P
def adb:am tab (n+1) 428 [.fz (.ai [f,l,m]),.fz u,.fz c,.fz (Sp.mk d<|.load r w v).F,.fz (.str p)] [] P=uW (am tab n) f l m u c (Sp.mk d<|.load r w v).F p "load" d [b0 r] (.ai [.int w,.bool v]) w [.ai [b0 r,.int w]] P:=()
def adc:am tab (n+1) 428 [.fz (.ai [f,l,m]),.fz u,.fz c,.fz (Sp.mk d<|.l9 r w).F,.fz (.str p)] [] P=uW (am tab n) f l m u c (Sp.mk d<|.l9 r w).F p "store" d [b0 r,bU 9] (.int w) w [.ai [b0 r,.int w]] P:=()
def ade:am tab (n+1) 428 [.fz (.ai [f,l,m]),.fz u,.fz c,.fz (Sp.mk d<|.ma r w).F,.fz (.str p)] [] P=uW (am tab n) f l m u c (Sp.mk d<|.ma r w).F p "move" d [b0 r,bU 64] (.ai [.int w,.int 1]) w [.ai [b0 r,.int w],.ai [bU 64,.int w]] P:=()
def adf:am tab (n+1) 428 [.fz (.ai [f,l,m]),.fz u,.fz c,.fz (Sp.mk d<|.mc r w).F,.fz (.str p)] [] P=uW (am tab n) f l m u c (Sp.mk d<|.mc r w).F p "move" d [bU 64,b0 r] (.ai [.int w,.int 1]) w [.ai [bU 64,.int w],.ai [b0 r,.int w]] P:=()
abbrev p_(m p r u c t:F)(x op:ah)(d:M)(args:G F)(l:F)(B:G F)(E J L N O P:ar V):Rho:=HB (.ai [m,p,r]) m p r u c t x op d (.af args) l z z (q<|.ref 0) (vf<|.af B) E J L N O P
def NO:aS (Ph c 0) (.ai [.ai [.var 17,.var 18],.var 16]) Ao (.ai [bU k,.int w]) (p_ r t x u f B E op d args p J P R Y L N O) #v[l] Q=Q .next (p_ r t x u f B E op d args p J (vi w) (vf<|.str "k") (vi k) L N O) #v[l]:=()
abbrev uF(c f l m:F)(p r:M)(t:F):F:=.ai [c,f,l,bT p r,t,m]
def HC(B E J u m L:F)(N op:ah)(d:M)(args:G F)(x:F)(O:G F)(r w:M)(P R Y:ar V)(c:AM)(l:G F)(Q:DK)(f:F):Prop:=ez (Ph c 0) (.v<|.ai [.var 19,.var 20]) (.fz f) (p_ B E J u m L N op d args x O (vi w) (vf<|.str "r") (vi r) P R Y) #v[l] λρ t=>ao (Ph c 0) ((uR<|Ao.getD 0 .brk).drop 1) ρ t λo ρ t=>cf o ρ t (λρ t=>ao (Ph c 0) [] ρ t Q) Q
def adg:aS (Ph c 0) (.ai [.ai [.var 17,.var 18],.var 16]) Ao (.ai [b0 r,.int w]) (p_ t x B u (.di p) E J op d args m L R Y Z N O P) #v[l] Q=(match has r p with|D=>oP (aQ r p)<|HC t x B u (.di p) E J op d args m L r w N O P c l Q|j=>Q .next (p_ t x B u (.di p) E J op d args m L (vi w) (vf<|.str "r") (vi r) N O P) #v[l]):=()
def Dn(B E J u c L:F)(t op:ah)(d:M)(args:G F)(m:F)(N:G F)(r w x p s:M)(l:G F)(Q:DK):Prop:=let ρ:=p_ B E J u c L t op d args m N (vi w) (vf<|.str "r") (vi r) (vi x) (vi p)<|vi s;match aa (p<0)with|D=>gd (l.length<aM)<|Q .next ρ #v[l++[cK t ["slot"] [w,p.natAbs,x,s]]]|j=>match aa (s<p+w)with|D=>gd (l.length<aM)<|Q .next ρ #v[l++[cK t ["slot"] [w,p.natAbs,x,s]]]|j=>Q .next ρ #v[l]
def adh:HC x B E (uF J L N O u P R) f Y Z op d args t es r w bF iQ iR c l Q (.ai [.int 0,.int p])=Dn x B E (uF J L N O u P R) f Y Z op d args t es r w 0 p u l Q:=()
def adi:HC x B E (uF J L N O P u R) f Y Z op d args t es r w bF iQ iR c l Q (.ai [.int 1,.int p])=Dn x B E (uF J L N O P u R) f Y Z op d args t es r w 1 p u l Q:=()
def HD:ao (Ph c 0) (An 7) (p_ x B E u f J L op d args r N O P Q R Y Z) #v[l] (runK<|aZ [] t p)=p (.ret<|.fz<|.af l) t:=()
end
section
def NP(h:(a.again||oZ a c f)=D):gN l a c f=[]:=by delta gN;exact U h C
def NQ(h:(a.again||oZ a c f)=j):gN l a c f=[(Ag l a.dc a.place a.aK<|gf a c f,cK l ["slot"] [a.dc,a.place.natAbs,a.aK,gf a c f])]:=by delta gN;exact U h C
def adj(hl:l.length<=1000)(B:a.again=j)(c:∀L N O P R,Q .next (p_ Y Z ex u (.di dd) m E op d args p es (vi a.dc) L N O P R) #v[l++bM (gN E a t x)]):Dn Y Z ex u (.di dd) m E op d args p es (f+2) a.dc a.aK a.place (gf a t x) l Q:=by
 have J:aa (l.length<aM)=D:=d_<|q1;delta Dn;refine bX (aa<|a.place<0) (λh=>?_) λh=>?_;·have h:=dw h;rw[NQ (by refine U B ?_;delta oZ;exact U (g9 (uf.mpr ‹_›:¬0<=a.place)) C)]at c;exact aE J<|c _ _ _ _ _
 ·
  have h:=wj h;refine bX (aa<|gf a t x<a.place+a.dc) (λr=>?_) λr=>?_;·have r:=dw r;rw[NQ (by refine U B ?_;delta oZ;exact U (g9 (by lia:¬a.place<=gf a t x-a.dc))<|U (B6 ..) C)]at c;exact aE J<|c _ _ _ _ _
  ·have r:=wj r;rw[NP (by calc U B;delta oZ;exact U (de (sp.mp ‹_›:0<=a.place))<|U (de (by lia:a.place<=gf a t x-a.dc)) C),show bM []=[]from C,bK]at c;exact c _ _ _ _ _
def HE(ha:jG a)(hl:l.length<=1000)(h2:aQ (f+2) P=bif a.again then z else q (.ai [.int a.aK,.int a.place]))(m:∀R L N x B E,Q .next (p_ fs th ex (uF Y Z a2 a5 t u bl) (.di P) p wh op d args J es R L N x B E) #v[l++bM (gN wh a t u)]):aS (Ph c 0) (.ai [.ai [.var 17,.var 18],.var 16]) Ao (.ai [b0 (f+2),.int a.dc]) (p_ fs th ex (uF Y Z a2 a5 t u bl) (.di P) p wh op d args J es R L N x B E) #v[l] Q:=by
 calc adg.mpr;refine U (uN ..)<|U h2 ?_;refine bX a.again (λO=>?_) λO=>?_;·have m:=m (vi a.dc) (vf<|.str "r") (vi<|f+2) x B E;rw[NP (U O C),show bM []=[]from C,bK]at m;exact m
 ·
  have r:=adj (u:=uF Y Z a2 a5 t u bl) (f:=f) (Q:=Q) (t:=t) (x:=u) hl O λL N x B E=>m _ L N x B E;rcases ha.aK with e|e
  ·rw[e,show gf a t u=t by unfold gf;calc U e;rfl]at r;calc U e;exact adh.mpr r
  ·rw[e,show gf a t u=u by unfold gf;calc U e;rfl]at r;calc U e;exact adi.mpr r
def NR(t:jG a)(u:aQ (f+2) x=bif a.again then z else q (.ai [.int a.aK,.int a.place]))(l:m (.ret<|.fz<|.af<|bM<|gN B a E J) L):uW c N O P (uF Q R Y Z E J bl) (.di x) p B op d args r a.dc [.ai [b0 (f+2),.int a.dc]] (aZ [] L m):=cz<|HE t (cD _) u λ_ _ _ _ _ _=>b6<|dL<|aF<|HD.mpr l
def adk(t:jG a)(u:aQ (f+2) x=bif a.again then z else q (.ai [.int a.aK,.int a.place]))(l:m (.ret<|.fz<|.af<|bM<|gN B a E J) L):uW c N O P (uF Q R Y Z E J bl) (.di x) p B op d args r a.dc [.ai [b0 (f+2),.int a.dc],.ai [bU k,.int a.dc]] (aZ [] L m):=cz<|HE t (cD _) u λ_ _ _ _ _ _=>b6<|cz<|NO.mpr<|b6<|dL<|aF<|HD.mpr l
def adl(t:jG a)(u:aQ (f+2) x=bif a.again then z else q (.ai [.int a.aK,.int a.place]))(l:m (.ret<|.fz<|.af<|bM<|gN B a E J) L):uW c N O P (uF Q R Y Z E J bl) (.di x) p B op d args r a.dc [.ai [bU k,.int a.dc],.ai [b0 (f+2),.int a.dc]] (aZ [] L m):=cz<|NO.mpr<|b6<|cz<|HE t (cD _) u λ_ _ _ _ _ _=>b6<|dL<|aF<|HD.mpr l
def adm(m:jG a)(p:aQ (f+2) u=bif a.again then z else q (.ai [.int a.aK,.int a.place]))(c:l (.ret<|.fz<|.af<|bM<|gN x a B E) J):am tab (n+1) 428 [.fz (.ai [L,N,O]),.fz (uF P Q R Y B E Z),.fz (.di u),.fz (dW a f).F,.fz (.str x)] [] (aZ [] J l):=by
 refine bX (aa<|a.bf<2) (λh=>?_) λh=>?_;·rw[show dW a f=⟨f+3,.load (f+2) a.dc<|a.bf==1⟩ by delta dW;rw[h]];rw[adb];exact NR m p c
 ·cases r:aa (a.bf<4)with
  |true=>rw[show dW a f=⟨-1,.l9 (f+2) a.dc⟩ by delta dW;rw[h,r]];rw[adc];exact NR m p c
  |false=>cases t:a.bf==4 with
   |true=>
    rw[show dW a f=⟨-1,.ma (f+2) a.dc⟩ by delta dW;rw[h,r,t]]
    rw[ade];exact adk m p c
   |false=>
    rw[show dW a f=⟨-1,.mc (f+2) a.dc⟩ by delta dW;rw[h,r,t]]
    rw[adf];exact adl m p c
end
section
variable{c:AM}{u m:F}{t r op:ah}{d:M}{x B E l J:G F}{args:G F}{p:F}{Q:DK}{h:Fu}
abbrev fA(x B E:G F)(u m:F)(op:ah)(d:M)(args:G F)(p:F)(t r:ah)(f N:ar V):Rho:=HB (.ai [.af x,.af B,.af E]) (.af x) (.af B) (.af E) u m (pK op d args p) t op d (.af args) p (vf<|.str r) f N z z z z z z z
def adn:am tab (n+1) 428 [.fz (.ai [.af x,.af B,.af E]),.fz u,.fz m,.fz (pK "name" d args<|.ai [.str r,p]),.fz (.str t)] [] P=ao (Ph (am tab n) 0) (kK 1) (fA x B E u m "name" d args (.ai [.str r,p]) t r z z) ⋯ λo ρ f=>cf o ρ f (λρ f=>ao (Ph (am tab n) 0) (An 3) ρ f<|runK P) (runK P):=()
def ado:am tab (n+1) 428 [.fz (.ai [.af x,.af B,.af E]),.fz u,.fz m,.fz (pK "call" d args<|.str r),.fz (.str t)] [] P=ao (Ph (am tab n) 0) (kK 1) (fA x B E u m "call" d args (.str r) t r z z) ⋯ λo ρ f=>cf o ρ f (λρ f=>ao (Ph (am tab n) 0) (An 3) ρ f<|runK P) (runK P):=()
def adp:WS (Ph c 0) (lE 1) (fA x B E u m op d args p t r z z) ⋯ Q=fP (cT (Ph c 0) 1 (.var 0) Dl [] (fA x B E u m op d args p t r z z)) x ⋯ λl f=>gd (l.length<=aM) (fP (cT (Ph c 0) 1 (.var 0) Dl [] (fA x B E u m op d args p t r z z)) B f λl' f=>gd (l'.length<=aM)<|gd (l.length+l'.length<=aM)<|gd ((l++l').length+E.length<=aM) (oP (iG<|(l++l')++E) λN=>match !N.any (· ==r)with|D=>Q (.ret<|.fz<|.af [cK t ["name",r] []]) (fA x B E u m op d args p t r z z) f|j=>Q .next (fA x B E u m op d args p t r z z) f)):=()
def adq{a:Fu}:cT (Ph c 0) 1 (.var 0) Dl [] ρ a.F f P=P (q<|.str a.name) f:=()
def adr{a:Th}:cT (Ph c 0) 1 (.var 0) Dl [] ρ a.F f P=P (q<|.str a.name) f:=()
def ads:WS (Ph c 0) (lE 2) (fA x B E u m op d args p t r z z) ⋯ Q=fP (cT (Ph c 0) 1 (.var 0) Dm.1 Dm.2<|fA x B E u m op d args p t r z z) x ⋯ λl f=>gd (l.length<=aM) (Q .next (fA x B E u m op d args p t r (vf<|.af l) z) f):=()
def adt{a:Fu}:cT (Ph c 0) 1 (.var 0) Dm.1 Dm.2 (fA x B E u m op d args p t r z z) a.F f P=(match a.name==r with|D=>P (q a.F) f|j=>P z f):=()
def adu:ao (Ph c 0) (kK 3) (fA x B E u m "name" d args p t r f z) ⋯ Q=Q (.ret<|.fz<|.af []) (fA x B E u m "name" d args p t r f z) ⋯:=()
def adv:WS (Ph c 0) (lE 3) (fA x B E u m "call" d args p t r f z) ⋯ Q=Q .next (fA x B E u m "call" d args p t r f z) ⋯:=()
def NS:X:=(xl<|xb<|sx<|lE 4).1
def adw:WS (Ph c 0) (lE 4) (fA x B E u m op d args p t r N z) ⋯ Q=fP (cT (Ph c 0) 1 (.var 0) NS [] (fA x B E u m op d args p t r N z)) B ⋯ λl f=>gd (l.length<=aM) (oP (iG l) λO=>match O.any (· ==r)with|D=>Q (.ret<|.fz<|.af [cK t ["function",r] []]) (fA x B E u m op d args p t r N z) f|j=>Q .next (fA x B E u m op d args p t r N z) f):=()
def adx{a:Th}:cT (Ph c 0) 1 (.var 0) NS [] ρ a.F f P=P (q<|.str a.name) f:=()
def ady:WS (Ph c 0) (lE 5) (fA x B E u m op d args p t r f z) ⋯ Q=Q .next (fA x B E u m op d args p t r f<|q<|.ref 0) #v[[]]:=()
def adz:ao (Ph c 0) (kK 6) (fA x B E u m op d args p t r (vf<|.af [])<|q<|.ref 0) #v[l] Q=Q (.ret<|.ref 0) (fA x B E u m op d args p t r (vf<|.af [])<|q<|.ref 0) #v[l]:=()
def adA:WS (Ph c 0) (lE 6) (fA x B E u m op d args p t r (vf<|.af<|h.F::J)<|q<|.ref 0) #v[l] Q=gd (args.length<=aM) (match !((args.length:M)==h.np)with|D=>gd (args.length<=aM)<|gd (l.length<aM)<|Q .next (fA x B E u m op d args p t r (vf<|.af<|h.F::J)<|q<|.ref 0) #v[l++[cK t ["operands",r] [args.length,h.np]]]|j=>Q .next (fA x B E u m op d args p t r (vf<|.af<|h.F::J)<|q<|.ref 0) #v[l]):=()
def adB:ao (Ph c 0) (kK 7) (fA x B E u m op d args p t r (vf<|.af<|h.F::J)<|q<|.ref 0) #v[l] Q=(match aa (0<=d)with
  |D=>match !h.hv with|D=>gd (l.length<aM)<|Q (.ret<|.ref 0) (fA x B E u m op d args p t r (vf<|.af<|h.F::J)<|q<|.ref 0) #v[l++[cK t ["value",r] []]]|j=>Q (.ret<|.ref 0) (fA x B E u m op d args p t r (vf<|.af<|h.F::J)<|q<|.ref 0) #v[l]
  |j=>Q (.ret<|.ref 0) (fA x B E u m op d args p t r (vf<|.af<|h.F::J)<|q<|.ref 0) #v[l]):=()
end
def adC(f:ah)(c:qU):∀l:G Fu,mV f c l=match l.filter (λu=>u.name==c.name)with
  |[]=>[]
  |u::_=>mU f c.name c.n u.np++kH f c.name c.fR u.hv:=by
 intro m
 induction m with
 |nil=>exact C
 |cons u r ih=>
  show(match u.name==c.name with|D=>mU f c.name c.n u.np++kH f c.name c.fR u.hv|j=>mV f c r)=_
  exact bX (u.name==c.name) (λh=>U (Ug (p:=λu:Fu=>u.name==c.name) h) C) (λh=>U (Uh (p:=λu:Fu=>u.name==c.name) (by rw[h];exact Ca)) ih)
section
abbrev xC(p:fD)(u c:F)(op:ah)(d:M)(args:G F)(f:F)(l m:ah)(r t:ar V):Rho:=fA (p.us.map Fu.F) (p.cR.map Th.F) (bI p.d7) u c op d args f l m r t
def NT(t:eN p)(q1:eK p r=j->Q (.ret<|.fz<|.af [cK x ["name",r] []]) (xC p u f op d args m x r z z) ⋯)(q2:eK p r=D->ao (Ph c 0) (kK 2) (xC p u f op d args m x r z z) ⋯ Q):ao (Ph c 0) (kK 1) (xC p u f op d args m x r z z) ⋯ Q:=by
 refine have E:=t.ul;have J:=t.tl;have L:=t.xl;bq (s:=lE 1) (r:=kK 2) C (adp.mpr<|h_ (by first|(refine U (bx ..) ?_;lia)|(done)|lia)<|lq (h:=λu:Fu=>.str u.name) (λa _ Q l=>adq.mpr l)<|aE (cy<|U (bx ..) (by lia))<|h_ (by first|(calc U (bx ..);lia)|(done)|lia)<|lq (h:=λu:Th=>.str u.name) (λa _ Q l=>adr.mpr l)<|aE (cy<|U (bx ..) (by lia))<|aE (cy<|U (bx ..)<|U (bx ..)<|q3<|And.right ‹_›)<|aE (cy<|U bO<|U (bx ..)<|U (bx ..)<|U (bx ..) (by lia)) ?_);rw[show((p.us.map (λu:Fu=>F.str u.name)++p.cR.map (λu:Th=>F.str u.name))++bI p.d7)=bI (eg p++p.d7) by unfold eg bI;rw[fx,fx,lW,lW];rfl];calc ig (xi _);show match !eK p r with|D=>_|j=>_
 exact bX (eK p r) (λB=>aF<|q2 B) λB=>q1 B
def NU(x:eN p)(f:ao (Ph c 0) (kK 3) (xC p u m op d args t B r (vf<|.af<|(p.us.filter λu=>u.name==r).map Fu.F) z) ⋯ Q):ao (Ph c 0) (kK 2) (xC p u m op d args t B r z z) ⋯ Q:=by
 refine have E:=x.ul;bq (s:=lE 2) (r:=kK 3) C (ads.mpr<|h_ (by first|(refine U (bx ..) ?_;lia)|(done)|lia)<|sN (λu:Fu=>match u.name==r with|D=>q u.F|j=>z) (λa _ Q f=>?_) ?_);·calc adt.mpr;revert f;exact bc (a.name==r) (λf=>f) λf=>f
 ·have e:∀l:G Fu,l.filterMap (λu:Fu=>match u.name==r with|D=>q u.F|j=>z)=(l.filter λu=>u.name==r).map Fu.F:=by
   intro l
   induction l with
   |nil=>rfl
   |cons a l ih=>
    refine bX (a.name==r) (λh=>?_) λh=>?_;·exact U (Ug (p:=λu:Fu=>u.name==r) h)<|U (qF (b:=a.F) (by rw[h]))<|U ih rfl
    ·rw[Uh (p:=λu:Fu=>u.name==r) (by rw[h];exact Ca),ow (by rw[h]),ih]
  rw[e]
  exact aE (cy (by rw[bx];exact aG (arw _ _) (by lia)))<|aF f
def adD(m:eN p)(c:f (.ret<|.fz<|.af (match eK p r with|D=>[]|j=>[cK t ["name",r] []])) x):am tab (n+1) 428 [.fz p.F,.fz u,.fz l,.fz (Sp.mk d<|.name r k).F,.fz (.str t)] [] (aZ [] x f):=by
 refine adn.mpr<|NT m (λh=>?_) λh=>NU m<|adu.mpr ?_;·rw[h]at c;exact c
 ·rw[h]at c;exact c
def adE(J:eN p)(Y:c.n<=4)(f:l (.ret<|.fz<|.af (match eK p c.name with|D=>bM (lx p x c)|j=>[cK x ["name",c.name] []])) B):am tab (n+1) 428 [.fz p.F,.fz u,.fz m,.fz (Sp.mk c.fR<|.call c.k c.n c.name).F,.fz (.str x)] [] (aZ [] B l):=by
 have Z:=J.tl;have R:(bN c.n<|bU c.k).length=c.n:=oy;refine(ado (args:=bN c.n<|bU c.k) (d:=c.fR) (r:=c.name)).mpr<|NT J (λh=>by rw[h]at f;exact f) λh=>NU J ?_;rw[h]at f;have f:l (.ret<|.fz<|.af<|bM<|lx p x c) B:=f;delta lx at f;refine bq (s:=lE 3) (r:=kK 4) C<|adv.mpr<|aF ?_;refine bq (s:=lE 4) (r:=kK 5) C<|adw.mpr ?_;refine h_ (by first|(refine U (bx ..) ?_;exact q1)|(done)|lia) ?_;refine lq (h:=λu:Th=>.str u.name) (λa _ Q f=>adx.mpr f)<|aE (cy (by refine U (bx ..) ?_;exact q1)) ?_;rw[show p.cR.map (λu:Th=>F.str u.name)=bI (p.cR.map Th.name) by unfold bI;rw[lW];rfl];calc ig (xi _);cases N:(p.cR.map Th.name).any (· ==c.name)with
 |true=>rw[N]at f;exact f
 |false=>
  rw[N]at f;have f:l (.ret<|.fz<|.af<|bM<|mV x c p.us) B:=f;rw[adC]at f;refine aF<|bq (s:=lE 5) (r:=kK 6) C<|ady.mpr<|aF ?_;cases O:p.us.filter (λu=>u.name==c.name)with
  |nil=>rw[O]at f;exact adz.mpr f
  |cons y r=>
   rw[O]at f;have f:l (.ret<|.fz<|.af<|bM<|mU x c.name c.n y.np++kH x c.name c.fR y.hv) B:=f;have P:∀W:G Pair,W.length<=10->l (.ret<|.fz<|.af<|bM<|W++kH x c.name c.fR y.hv) B->ao (Ph (am tab n) 0) (kK 7) (xC p u m "call" c.fR (bN c.n<|bU c.k) (.str c.name) x c.name (vf<|.af<|y.F::r.map Fu.F)<|q<|.ref 0) #v[bM W]
     λo ρ t=>cf o ρ t (λρ t=>ao (Ph (am tab n) 0) (An 3) ρ t<|runK<|aZ [] B l) (runK<|aZ [] B l):=by
    intro W hW f
    refine adB.mpr ?_
    refine bX (aa<|0<=c.fR) (λE=>?_) λE=>?_
    ·
     refine bX (!y.hv) (λL=>?_) λL=>?_
     ·rw[Hi (by rw[E,L];rfl),oV]at f;exact aE (d_ (by rw[lu];exact q1)) f
     ·rw[Aj (by rw[E,L];rfl),bK]at f;exact f
    ·rw[Aj (by rw[E];rfl),bK]at f;exact f
   refine bq (s:=lE 6) (r:=kK 7) C<|adA.mpr ?_;rw[R];calc aE (cy (by exact q1));delta mU at f;revert f;refine bc ((c.n:M)==y.np) (λf=>?_) λf=>?_;·exact aF<|P [] (cD _) f
   ·exact aE (cy (by exact q1))<|aE (d_<|cD _)<|aF<|P [(Ah x c.name c.n y.np,cK x ["operands",c.name] [c.n,y.np])] (by show 1<=10;decide) f
end
def uX:G S:=dQ<|lr 4
def xD:G S:=dQ<|uX.getD 1 .brk
abbrev qa(k:aj):S:=xD.getD k .brk
def qb:G S:=dQ<|qa 1
def uY:G S:=uR<|qa 2
abbrev qc(k:aj):S:=uY.getD k .brk
def Do:X×G X:=match qc 3 with| .ite (.aA _ (.eG _ _ e _ _ _ _ c) _) _ _=>(e,c)|_=>(.lit .none,[])
section
def adF:WS (Ph c 0) (lr 4) (gu p (.af f) r t u x B E J L N O P R Y Z a7 bF) #v[l,m] Q=bj (aS (Ph c 0) (.var 9) uX) f (gu p (.af f) r t u x B E J L N O P R Y Z a7 bF) #v[l,m] Q:=()
def dfK(c:AM)(ρ:Rho)(Q:DK)(r:bL)(l:G FObj):Prop:=cW r λv=>ez (Ph c 0) (.v<|.var 10) v ρ ⟨l,[]⟩ λρ f=>cf .next ρ f (λρ f=>ao (Ph c 0) (uX.drop 1) ρ f Q) Q
def NV:aS (Ph c 0) (.var 9) uX f (gu p r t u x B E x9 J L N O P R Y Z a7 bF) #v[l,m] Q=c 423 [.fz f] [] (aZ [] [.list l,.list m] (dfK c (gu p r t u x B E (vf f) J L N O P R Y Z a7 bF) Q)):=()
abbrev rp(c:ah)(f l m:F)(p:G F)(r:F):F:=.ai [.str c,f,l,m,.af p,r]
def NW:ao (Ph c 0) (uX.drop 1) (gu r t u x B E J (vf<|rp L N O P p R) Y Z aD aI aY aC aU aB a7 bF) #v[l,m] Q=bj (aS (Ph c 0) (.ai [.var 11,.ai [.var 12,.var 13]]) xD) (numbered 0 p) (gu r t u x B E J (vf<|rp L N O P p R) Y Z aD aI aY aC aU aB a7 bF) #v[l,m] λo ρ f=>cf o ρ f (λρ f=>ao (Ph c 0) [] ρ f Q) Q:=()
def adH:WS (Ph c 0) (qa 0) (gu p r u x B E J (vf<|rp f L N O P R) Y (vi t) Z aI aY aC aU aB a7 bF) #v[l,m] Q=b8 f " block " λa=>jL t λs=>b8 a s λa=>b8 a ": " λw=>Q .next (gu p r u x B E J (vf<|rp f L N O P R) Y (vi t) Z aI (vf<|.str w) aC aU aB a7 bF) #v[l,m]:=()
def adI:WS (Ph c 0) (qa 1) (gu p r t u x B E J L N (vf<|.af f) O P R Y Z a7 bF) #v[l,m] Q=bj (aS (Ph c 0) (.var 15) qb) f (gu p r t u x B E J L N (vf<|.af f) O P R Y Z a7 bF) #v[l,m] Q:=()
def adJ:aS (Ph c 0) (.var 15) qb x (gu B J L N O P R (vf f) (vf t) Y Z aI (vf<|.str E) aC aU aB a7 bF) #v[l,m] Q=c 428 [.fz B,.fz f,.fz t,.fz x,.fz (.str E)] [] (aZ [] [.list l,.list m] λr fl=>cW r λv=>kB .gD (.ref 0) [v] ⟨fl,[]⟩ λ_ u=>Q .next (gu B J L N O P R (vf f) (vf t) Y Z aI (vf<|.str E) (vf x) aU aB a7 bF) u):=()
abbrev HF(e:En)(f p r t u:F)(x B E J L N O P R Y Z bF:ar V)(l m:G F)(Q:DK)(c:AM):Prop:=WS (Ph c 0) (qa 2) (gu f p r t u x B E J L N (vf e.F) O P R Y Z bF) #v[l,m] Q=Q .next (gu f p r t u x B E J L N (vf e.F) O P R Y Z bF) #v[l,m]
def adK:HF (.ce f) p r t u x B E J L N O P R Y Z a7 bF l m Q c:=()
def adL:HF .jH f p r t u x B E J L N O P R Y Z bF l m Q c:=()
def adM:HF (.branch g) f p r t u x B E J L N O P R Y Z bF l m Q c:=()
abbrev NX(c f l m p:F)(r t:ar V)(u:ah)(x B E:F)(J:G F)(L:F)(N O P Q:ar V)(R:ah)(Y:ar V)(low:M)(Z:G F)(bC:M)(bF:ar V):Rho:=gu c f l m p r t (vf<|rp u x B E J L) N O P Q (vf<|.str R) Y (vi low) (vf<|.af Z) (vi bC) bF
def adN:WS (Ph c 0) (qa 2) (gu t u x B E J L (vf<|rp N O P R Y Z) a6 aO aD (vf (En.table low p g r).F) (vf<|.str wh) aC aU aB a7 bF) #v[l,m] Q=ao (Ph c 0) (uY.drop 1) (NX t u x B E J L N O P R Y Z a6 aO aD (vf (En.table low p g r).F) wh aC low (bN p<|.int g) r bF) #v[l,m] Q:=()
abbrev dR(c f l m p:F)(r t:ar V)(u:ah)(x B E:F)(J:G F)(L:F)(N O P Q:ar V)(R:ah)(Y:ar V)(low:M)(Z:G F)(bC:M)(bF:ar V):Rho:=NX c f l m p r t u x B E J L N O P Q R Y low Z bC bF
def adO:WS (Ph c 0) (qc 1) (dR p r t u x B E J L N O P R Y Z aD aI f aC low ms bC bF) #v[l,m] Q=(match aa (low<0)with|D=>gd (l.length<aM)<|Q .next (dR p r t u x B E J L N O P R Y Z aD aI f aC low ms bC bF) #v[l++[cK f ["table","from"] []],m]|j=>match aa (4294967295<low)with|D=>gd (l.length<aM)<|Q .next (dR p r t u x B E J L N O P R Y Z aD aI f aC low ms bC bF) #v[l++[cK f ["table","from"] []],m]|j=>Q .next (dR p r t u x B E J L N O P R Y Z aD aI f aC low ms bC bF) #v[l,m]):=()
def adP:WS (Ph c 0) (qc 2) (dR r t u x B E J L N O P R Y Z aO aD aI f aC low p bC bF) #v[l,m] Q=(match p.isEmpty with|D=>gd (l.length<aM)<|Q .next (dR r t u x B E J L N O P R Y Z aO aD aI f aC low p bC bF) #v[l++[cK f ["table","without"] []],m]|j=>Q .next (dR r t u x B E J L N O P R Y Z aO aD aI f aC low p bC bF) #v[l,m]):=()
def adQ:WS (Ph c 0) (qc 3) (dR t u x B E J L N O P R Y Z a6 aO aD aI wh aC low p r bF) #v[l,m] Q=gd (p.length+1<=aM) (fP (cT (Ph c 0) 1 (.var 0) Do.1 Do.2<|dR t u x B E J L N O P R Y Z a6 aO aD aI wh aC low p r bF) (p++[.int r]) #v[l,m] λk f=>gd (k.length<=aM) (match !k.isEmpty with|D=>ao (Ph c 0) (uR<|qc 3) (dR t u x B E J L N O P R Y Z a6 aO aD aI wh aC low p r bF) f Q|j=>Q .next (dR t u x B E J L N O P R Y Z a6 aO aD aI wh aC low p r bF) f)):=()
def adR:cT (Ph c 0) 1 (.var 0) Do.1 Do.2 (dR m p r t u x B E J L N l O Q R Y Z wh aC low ms bC bF) (.int i) f P=(match aa (i<0)with|D=>P (q<|.int i) f|j=>gd (l.length<=aM) (match aa ((l.length:M)<=i)with|D=>P (q<|.int i) f|j=>P z f)):=()
def adS:ao (Ph c 0) (uR<|qc 3) (dR r t u x B E J f L N O P R Y Z aD aI p aC low ms bC bF) #v[l,m] Q=gd (l.length<aM) (b8 f ": " λa=>gd (m.length<aM)<|Q .next (dR r t u x B E J f L N O P R Y Z aD aI p aC low ms bC bF) #v[l++[cK p ["table","block"] []],m++[.str a]]):=()
end
def jM(u:Fu)(c:aj)(b:Bl):G ah:=match xx c b.en with|D=>[u.name++": "]|j=>[]
def NY(u:Fu)(c:aj):G Bl->G ah|[]=>[]|b::r=>jM u c b++NY u c r
def qd(u:Fu):G ah:=NY u u.bs.length u.bs
section
variable{u:Fu}
abbrev qg(u:Fu)(c:G F):F:=rp u.name (.int u.np) (.bool u.hv) (bT u.s1 u.s2) c<|.int u.uH
def rq(p:fD)(c:F)(f:G (M×F))(l:ah)(m r t x B E J L N O:ar V):Rho:=lv p m r (vf c) (vf<|.di f) t x B (vf<|.str l) E J L N O
def Dp(hl:l.length<=500)(hW:W.length<=10)(h:∀{c:bL->G FObj->Prop}{B},c (.ret<|.fz<|.af W) B->am tab (n+1) 428 [.fz p.F,.fz f,.fz (.di r),.fz L,.fz (.str E)] [] (aZ [] B c))(x:∀J,bj (aS (Ph (am tab<|n+1) 0) (.var 15) qb) N (rq p f r E O P R Y Z J aU aB a7 bF) #v[l++W,m] Q):bj (aS (Ph (am tab<|n+1) 0) (.var 15) qb) (L::N) (rq p f r E O P R Y Z J aU aB a7 bF) #v[l,m] Q:=cz (adJ.mpr<|h<|aE (c:=aa<|l.length+W.length<aM) (d_<|q3)<|b6<|x _)
def tc(k:Kd):Prop:=∀(f l m u c:F)(d:M)(p:ah)(n:aj)(P:bL->Mem->Prop),am tab (n+1) 428 [.fz (.ai [f,l,m]),.fz u,.fz c,.fz (Sp.mk d k).F,.fz (.str p)] [] P=P (.ret<|.ref 0) #v[[]]
def adT:tc (.slot w):=by intro f l m u c d p n P;kernel_rfl
def adU:tc .ff:=by intro f l m u c d p n P;kernel_rfl
def adV:tc (.l8 s):=by intro f l m u c d p n P;kernel_rfl
def adW:tc (.kE s k):=by intro f l m u c d p n P;kernel_rfl
def adX:tc (.add s k):=by intro f l m u c d p n P;kernel_rfl
def adY:tc (.sub s k):=by intro f l m u c d p n P;kernel_rfl
def NZ:tc (ck s k t):=by
 unfold ck;cases k==0&&t==3 with
 |true=>exact adV
 |false=>
      refine bc (t==1) ?_ ?_;·exact adW
      ·refine bc (t==2) ?_ ?_
       ·exact adY
       ·exact adX
def Dq(e:tc k)(E:l.length<=500)(c:∀x,bj (aS (Ph (am tab<|n+1) 0) (.var 15) qb) J (rq p f r B L N O P R x Y Z a7 bF) #v[l,m] Q):bj (aS (Ph (am tab<|n+1) 0) (.var 15) qb) ((Sp.mk d k).F::J) (rq p f r B L N O P R x Y Z a7 bF) #v[l,m] Q:=by refine Dp (W:=[]) E (cD _) (λ{t fl} c=>(e (.af<|p.us.map Fu.F) (.af<|p.cR.map Th.F) (uG p.d7) f (.di r) d B n<|aZ [] fl t).mpr c) λx=>?_;rw[bK];exact c x
def adZ(N:eN p)(hg:fi hs u.np (A++g::B))(O:uV g)(ef:f=u.np+4*A.length)(hl:l.length<=400)(r:∀E,bj (aS (Ph (am tab<|n+1) 0) (.var 15) qb) L (rq p (qg u P) (eJ u.np<|A++g::B) t R Y Z aD aI E aU aB a7 bF) #v[l++bM (j6 p u t g),m] Q):bj (aS (Ph (am tab<|n+1) 0) (.var 15) qb) ((g.bo f).map Sp.F++L) (rq p (qg u P) (eJ u.np<|A++g::B) t R Y Z aD aI E aU aB a7 bF) #v[l,m] Q:=by
 have J:l.length<=500:=by exact q1
 clear hg;cases g with
 |acc a=>
  have l2:=(C7 (A:=A) (B:=B) (a:=a) ef 2 {}).trans<|G7 a _ 2 C;have ha:=O.acc a rfl;have ll:∀E,bj (aS (Ph (am tab<|n+1) 0) (.var 15) qb) ((dW a f).F::L) (rq p (qg u P) (eJ u.np<|A++ .acc a::B) t R Y Z aD aI E aU aB a7 bF) #v[l,m] Q:=λE=>Dp J (by rw[lu];exact aG (Ho t a u.s1 u.s2) {}) (λr=>adm ha l2 r) r;have e:(a.bo f).map Sp.F++L=(Sp.mk f<|.slot a.aK).F::(Sp.mk (f+1)<|ck f a.br a.first).F::(Sp.mk (f+2)<|ck (f+1) (a.place-a.br) a.ci).F::((im a f).map Sp.F++((dW a f).F::L)):=by show(([_,_,_]++im a f++[dW a f]).map Sp.F)++L=_;rw[fx,fx,cZ,cZ];rfl
  show bj _ ((a.bo f).map Sp.F++L) _ _ _;rw[e];refine Dq adT J λE=>Dq NZ J λE=>Dq NZ J λE=>?_;unfold im;exact bc a.again (Dq adU J ll)<|ll E
 |call c=>
  have hc:=O.call c rfl;have e:bM (j6 p u t<|.call c)=match eK p c.name with|true=>bM (lx p t c)|false=>[cK t ["name",c.name] []]:=by show bM (match eK p c.name with|D=>lx p t c|j=>[ri t c.name])=_;cases eK p c.name<;>rfl
  rw[e]at r;refine Dp (L:=(Sp.mk c.fR<|.call c.k c.n c.name).F) J (aG (cY<|az mC e.symm) ?_) (λr=>adE N hc.1 r) r;rw[lu];have:=rn p u t [.call c];rw[show ip p u t [.call c]=j6 p u t (.call c)from bK _]at this;exact aG this (by show 2*1<=10;decide)
 |name x k=>
  have e:bM (j6 p u t<|.name x k)=match eK p x with|true=>[]|false=>[cK t ["name",x] []]:=by show bM (match eK p x with|D=>[]|j=>[ri t x])=_;cases eK p x<;>rfl
  rw[e]at r;refine Dp (L:=(Sp.mk (f+3)<|.name x k).F) J (aG (cY<|az mC e.symm) ?_) (λr=>adD N r) r;rw[lu];have:=rn p u t [.name x k];rw[show ip p u t [.name x k]=j6 p u t (.name x k)from bK _]at this;exact aG this (by show 2*1<=10;decide)
def ad0(L:eN p)(N:fi O u.np J)(P:∀h∈O,h.name∈(["alpha","beta","gamma"]:G ah)):∀(r A:G Gr)(l:G F)(x:ar V),J=A++r++c->l.length+2*r.length<=300->(∀x,Q .next (rq p (qg u R) (eJ u.np J) t Y Z aO aD aI x aU aB a7 bF) #v[l++bM (ip p u t r),m])->bj (aS (Ph (am tab<|n+1) 0) (.var 15) qb) ((bQ (u.np+4*A.length) r).map Sp.F) (rq p (qg u R) (eJ u.np J) t Y Z aO aD aI x aU aB a7 bF) #v[l,m] Q:=by
 intro r;induction r with
 |nil=>intro A l x _ _ f;have f:=f x;rw[show bM (ip p u t [])=[]from C,bK]at f;exact dL f
 |cons g r ih=>
  intro A l x e hl f;rw[eX]at hl;have e':J=A++g::(r++c):=by rw[e,cZ];rfl
  have hgl:(j6 p u t g).length<=2:=by have:=rn p u t [g];rw[show ip p u t [g]=j6 p u t g from bK _]at this;exact this
  rw[xk,fx];have B:=ih (A++[g])<|l++bM (j6 p u t g);rw[show u.np+4*((A++[g]).length:M)=u.np+4*(A.length:M)+4 by rw[bO,sr];lia]at B;have E:=N;rw[e']at E B f⊢;refine adZ L E (Hr P E.split.2.1) C (y8) λx=>B x (by rw[cZ,cZ];rfl) (by rw[bO,lu];exact y3) λx=>?_;have f:=f x;rw[show ip p u t (g::r)=j6 p u t g++ip p u t r from C,oV,<-cZ]at f;exact f
end
section
variable{p:aj}
def N0(h:(aa (0<=low)&&aa (low<=4294967295))=j):mh c low=[(c++"a table from a number that is no word",cK c ["table","from"] [])]:=by delta mh;exact U h C
def N1(h:(aa (0<=low)&&aa (low<=4294967295))=D):mh c low=[]:=by delta mh;exact U h C
def ad1(h:((p:M)==0)=D):mi c p=[(c++"a table without numbers",cK c ["table","without"] [])]:=by delta mi;exact U h C
def N4(h:((p:M)==0)=j):mi c p=[]:=by delta mi;exact U h C
def ad2{f:G F->Prop}(e:x=y)(c:f (l++x)):f (l++y):=e▸c
def N5{f:G F->Prop}(e:x=[])(c:f (l++x)):f l:=(bK l)▸(e▸c:f (l++[]))
def ad3{m:G F->Prop}(u:l.length<=1000)(c:m (l++bM (mh t low))):(match aa (low<0)with
  |D=>gd (l.length<aM)<|m<|l++[cK t ["table","from"] []]
  |j=>match aa (4294967295<low)with|D=>gd (l.length<aM)<|m<|l++[cK t ["table","from"] []]|j=>m l):=
 have x:=d_ (n:=l.length)<|aG u {}
 have f:(aa (0<=low)&&aa (low<=4294967295))=j->gd (l.length<aM) (m<|l++[cK t ["table","from"] []]):=λh=>aE x<|ad2 (az bM<|N0 h) c
 if h:low<0 then U (de h) (f<|U (g9<|uf.mpr h) C)
 else U (g9 h) (if r:4294967295<low then U (de r) (f<|U (g9<|uf.mpr r)<|B6 _)
  else U (g9 r) (N5 (az bM<|N1<|zm (sp.mp h)<|sp.mp r) c))
def ad4{f:G F->Prop}(m:l.length<=1000)(c:f (l++bM (mi r p))):(match(bN p<|F.int g).isEmpty with
  |D=>gd (l.length<aM)<|f<|l++[cK r ["table","without"] []]
  |j=>f l):=by
 cases p with|zero=>exact aE (d_<|aG m {}) c|succ k=>exact N5 (az bM<|N4<|mF.mpr<|M.ofNat_ne_zero.mpr<|Fq k) c
def Ap(c:aj)(i:M):ar F:=match eB c i with|D=>q<|.int i|j=>z
def HG{c:aj}(h:eB c i=D):Ap c i=q (.int i):=az (λb=>match b with|D=>q (F.int i)|j=>z) h
def N6{c:aj}(h:eB c i=j):Ap c i=z:=az (λb=>match b with|D=>q (F.int i)|j=>z) h
def ad5(l:G M):(l.filterMap<|Ap c).isEmpty= !l.any (eB c):=by induction l with|nil=>rfl|cons i l ih=>exact bX (eB c i) (λh=>(az arx<|qF<|HG h).trans (az (λb=> !(b||l.any (eB c))) h).symm) λh=>(az arx<|ow<|N6 h).trans<|ih.trans (az (λb=> !(b||l.any (eB c))) h).symm
def ad6{P:ar F->Prop}(m:f<=2)(c:P (Ap f i)):(match aa (i<0)with
  |D=>P<|q<|.int i
  |j=>gd (f<=aM) (match aa ((f:M)<=i)with|D=>P<|q<|.int i|j=>P z)):=
 if h:i<0 then U (de h) (HG (c:=f) (U (g9<|uf.mpr h) C:(!(aa (0<=i)&&aa (i<f)))=D)▸c)
 else U (g9 h) (aE (cy<|aG m {})<|if l:(f:M)<=i then U (de l) (HG (c:=f) (U (g9<|sp.mpr l) (U (B6<|aa<|0<=i) C):(!(aa (0<=i)&&aa (i<f)))=D)▸c)
  else U (g9 l) (N6 (c:=f) (az not<|zm (sp.mp h)<|uf.mp l)▸c))
def ad7(J:x∈allNames)(B:p<=2)(L:t.length<=2)(N:l.length<=1000)(O:m.length<=1000)(f:Q .next (dR P R Y Z nm x7 x8 x a1 a2 a3 t a5 a6 aO aD aI E aC low (bN p<|.int g) r bF) #v[l++bM (sX E<|(bN p g++[r]).any<|eB t.length),m++bI (match(bN p g++[r]).any (eB t.length)with|D=>[x++": "]|j=>[])]):WS (Ph c 0) (qc 3) (dR P R Y Z nm x7 x8 x a1 a2 a3 t a5 a6 aO aD aI E aC low (bN p<|.int g) r bF) #v[l,m] Q:=by refine have u:((bN p g++[r]).map F.int).length<=3:=aG (cY<|(bx ..).trans<|bO.trans<|az (· +1) oy)<|mD B;have e:(bN p g++[r]).map F.int=bN p (F.int g)++[F.int r]:=fx.trans<|az (· ++[F.int r]) Uf;adQ.mpr (aE (cy<|aG (mD<|aG (cY oy) B) {})<|U e.symm<|h_ (aG u {})<|sN (Ap t.length) (λi _ Q f=>adR.mpr<|ad6 (P:=λo=>Q o _) L f)<|aE (cy<|aG (Uc _ _)<|aG (cY (bx ..).symm)<|aG u {})<|U ((az not<|ad5 _).trans<|ak.not_not _) ?_);revert f;exact bc ((bN p g++[r]).any<|eB t.length) (λf=>adS.mpr<|aE (d_<|aG N {})<|eA (fT _ J) (by decide+kernel:cM ": "<=20) {}<|aE (d_<|aG O {}) f) λf=>U (bK l).symm<|U (bK m).symm f
def ad8:bM (W++(a++b++c))=bM W++bM a++bM b++bM c:=by rw[oV,oV,oV,<-cZ,<-cZ]
def ad9(HH:u∈allNames)(hc:p<=2)(hb:t.length<=2)(hW:W.length<=200)(hI:I.length<=200)(f:∀aU aB a7,Q .next (gu B E J L N O P (vf<|rp u R Y Z t a5) a6 aO aD (vf (En.table low p g r).F) (vf<|.str m) aC aU aB a7 bF) #v[bM<|W++(mh m low++mi m p++sX m ((bN p g++[r]).any<|eB t.length)),bI (I++match(bN p g++[r]).any (eB t.length)with|D=>[u++": "]|j=>[])]):WS (Ph c 0) (qa 2) (gu B E J L N O P (vf<|rp u R Y Z t a5) a6 aO aD (vf (En.table low p g r).F) (vf<|.str m) aC aU aB a7 bF) #v[bM W,bI I] Q:=by have f:=f (vi low) (vf<|.af<|bN p<|.int g)<|vi r;rw[ad8,show∀x,bI (I++x)=bI I++bI x from λ_=>fx]at f;exact have l0:(bM W).length<=200:=aG (cY<|lu W) hW;have l1:(bM W++bM (mh m low)).length<=201:=aG (cY bO)<|iC l0<|aG (cY<|lu _)<|Hl m low;have l2:(bM W++bM (mh m low)++bM (mi m p)).length<=202:=aG (cY bO)<|iC l1<|aG (cY<|lu _)<|Hm m p;adN.mpr (bq (s:=qc 1) (r:=uY.drop 2) C<|adO.mpr<|ad3 (m:=λl=>ao (Ph c 0) (uY.drop 2) (dR B E J L N O P u R Y Z t a5 a6 aO aD (vf (En.table low p g r).F) m aC low (bN p<|.int g) r bF) #v[l,bI I] Q) (aG l0 {})<|bq (s:=qc 2) (r:=uY.drop 3) C<|adP.mpr<|ad4 (f:=λl=>ao (Ph c 0) (uY.drop 3) (dR B E J L N O P u R Y Z t a5 a6 aO aD (vf (En.table low p g r).F) m aC low (bN p<|.int g) r bF) #v[l,bI I] Q) (aG l1 {})<|bq (s:=qc 3) (r:=uY.drop 4) C<|ad7 HH hc hb (aG l2 {}) (aG (cY<|bx ..)<|aG hI {})<|aF<|gw f)
end
section
variable{f:M}
def HI(hp:eN p)(P:u.name∈allNames)(hg:fi hs u.np R)(hh:∀h∈hs,h.name∈(["alpha","beta","gamma"]:G ah))(hlen:R.length<=4)(e:R=A++r++c)(ht:0<=t/\t<3)(he:mP E\/∃hv,E= .ce hv)(hb:B.length<=2)(hW:W.length<=150)(hI:I.length<=150)(ef:f=u.np+4*A.length)(l:∀Z aD aI Y J L N O,Q .next (lv p x7 x8 (vf<|qg u B) (vf<|.di<|eJ u.np R) Z aD aI Y J L N O bF) #v[bM<|W++kJ p u B.length t ⟨r,E⟩,bI<|I++jM u B.length ⟨r,E⟩]):aS (Ph (am tab<|n+2) 0) (.ai [.var 11,.ai [.var 12,.var 13]]) xD (.ai [.int t,Bk.F ⟨bQ f r,E⟩]) (lv p x7 x8 (vf<|qg u B) (vf<|.di<|eJ u.np R) Z aD aI Y J L N O bF) #v[bM W,bI I] Q:=by
 have hw:=Hs P ht;have hr:r.length<=4:=by have:=az mC e;rw[bO,bO]at this;lia
 refine ig (a:=lv p x7 x8 (vf<|qg u B) (vf<|.di<|eJ u.np R) (vi t) (vf<|.af<|(bQ f r).map Sp.F) (vf E.F) Y J L N O bF) C<|bq (s:=qa 0) (r:=xD.drop 1) C<|adH.mpr (have e3:=jg (i:=t) ⟨by exact z5,by exact z3⟩;have hn7:=fT _ P;have a1:=dF hn7 (by decide+kernel:cM " block "<=20);have a2:=dF a1 e3;eA hn7 (by decide+kernel:cM " block "<=20) {} (nW (z8)<|eA a1 e3 {}<|eA a2 (by decide+kernel:cM ": "<=20) {}<|aF<|bq (s:=qa 1) (r:=xD.drop 2) C<|adI.mpr (U ef<|ad0 (t:=fU u.name t) (n:=n+1) (c:=c) hp hg hh r A (bM W) J e (U (lu ..) (by lia)) λJ=>aF ?_)));have gl:=rn p u (fU u.name t) r;have l:∀Z aD aI Y J L N O,Q .next (lv p x7 x8 (vf<|qg u B) (vf<|.di<|eJ u.np R) Z aD aI Y J L N O bF) #v[bM<|W++(ip p u (fU u.name t) r++rm (fU u.name t) B.length E),bI<|I++jM u B.length ⟨r,E⟩]:=l;rw[<-cZ]at l;refine U (Eq.symm<|oV ..) ?_;have HJ:rm (fU u.name t) B.length E=[]->jM u B.length ⟨r,E⟩=[]->∀Z aD aI Y J L N O,Q .next (lv p x7 x8 (vf<|qg u B) (vf<|.di<|eJ u.np R) Z aD aI Y J L N O bF) #v[bM<|W++ip p u (fU u.name t) r,bI I]:=λe1 e2=>by rw[e1,e2,bK,bK]at l;exact l
 calc bq (s:=qa 2) (r:=xD.drop 3) C;cases E with
 |ce hv=>exact adK.mpr<|aF<|gw<|HJ C rfl _ _ _ _ _ _ _ _
 |jH=>exact adL.mpr<|aF<|gw<|HJ C rfl _ _ _ _ _ _ _ _
 |branch g=>exact adM.mpr<|aF<|gw<|HJ C rfl _ _ _ _ _ _ _ _
 |table low m g bC=>
  have hc:m<=2:=by
   rcases he with he|⟨_,he⟩
   ·exact(by decide:∀x∈([(0,2),(5,1),(4294967295,2),(-1,1),(4294967296,2),(3,0)]:G (M×aj)),x.2<=2) _ he.1
   ·injection he
  exact ad9 (W:=W++ip p u (fU u.name t) r) P hc hb (U bO (by lia)) (q1) λL N O=>aF<|gw<|l _ _ _ _ _ _ _ _
def ad_(hp:eN p)(hm:u∈p.us)(hW:W.length<=100)(hI:I.length<=100)(c:∀x9 a6 L N O P R Y Z a7,Q .next (lv p x7 x8 x9 a6 L N O P R Y Z a7 bF) #v[bM<|W++sY p u,bI<|I++qd u]):aS (Ph (am tab<|n+2) 0) (.var 9) uX u.F (lv p x7 x8 x9 a6 L N O P R Y Z a7 bF) #v[bM W,bI I] Q:=by
 refine fH (hp.us u hm) λhu fB=>av fB λhds hb hh=>?_;have hun:=xz _ hu.name;obtain⟨x,B,m,E,J,bs⟩:=u;refine U (Fu.eq ..) ?_;dsimp only at hb hun;cases hb with
 |one h1 h2=>rename_i l;refine NV.mpr<|Nl (t:=oR B [⟨l,.ce m⟩]) (r:=l) hu.np h1 (bK _) (by lia) (yS C)<|NW.mpr ?_;have c:∀x9 a6 L N O P R Y Z a7,Q .next (lv p x7 x8 x9 a6 L N O P R Y Z a7 bF) #v[bM<|W++(kJ p ⟨x,B,m,E,J,[⟨l,.ce m⟩]⟩ 1 0 ⟨l,.ce m⟩++[]),bI<|I++([]++[])]:=c;rw[bK,bK]at c;exact cz (HI (hs:=hds) (u:=⟨x,B,m,E,J,[⟨l,.ce m⟩]⟩) (t:=0) (A:=[]) (c:=[]) (r:=l) (R:=l) (E:=.ce m) hp hun h1 hh (by lia) (bK _).symm ⟨{},{}⟩ (.inr ⟨_,C⟩) (by show 1<=2;decide) (q1) (q1) (jo B).symm λL N O P R Y Z a7=>b6<|dL<|aF<|gw<|c _ _ _ _ _ _ _ _ _ _)
 |two h1 h2 h3 h4 h5=>
  rename_i l r t;have hg2:=Ha h1 h4;have hl2:(l++t).length<=4:=by calc U bO;exact q3 (And.right ‹_›)<|And.right ‹_›
  refine NV.mpr<|Nl (t:=oR B [⟨l,r⟩,⟨t,.ce m⟩]) (r:=l++t) hu.np hg2 (by refine U (z6 ..) ?_;show _++(_++[])=_;exact U (bK ..) C) hl2 (yS C)<|NW.mpr ?_;have c:∀x9 a6 L N O P R Y Z a7,Q .next (lv p x7 x8 x9 a6 L N O P R Y Z a7 bF) #v[bM<|W++(kJ p ⟨x,B,m,E,J,[⟨l,r⟩,⟨t,.ce m⟩]⟩ 2 0 ⟨l,r⟩++(kJ p ⟨x,B,m,E,J,[⟨l,r⟩,⟨t,.ce m⟩]⟩ 2 1 ⟨t,.ce m⟩++[])),bI<|I++(jM ⟨x,B,m,E,J,[⟨l,r⟩,⟨t,.ce m⟩]⟩ 2 ⟨l,r⟩++([]++[]))]:=c;rw[bK,bK,bK,<-cZ]at c;have b1:(kJ p ⟨x,B,m,E,J,[⟨l,r⟩,⟨t,.ce m⟩]⟩ 2 0 ⟨l,r⟩).length<=10:=by have h6:=rn p ⟨x,B,m,E,J,[⟨l,r⟩,⟨t,.ce m⟩]⟩ (fU x 0) l;have h7:=Dj (fU x 0) 2 r;show(ip p ⟨x,B,m,E,J,[⟨l,r⟩,⟨t,.ce m⟩]⟩ (fU x 0) l++rm (fU x 0) 2 r).length<=10;exact U bO (by lia)
  have b2:(jM ⟨x,B,m,E,J,[⟨l,r⟩,⟨t,.ce m⟩]⟩ 2 ⟨l,r⟩).length<=1:=by delta jM;cases xx 2 r;exact cD _;exact bR _
  refine cz (HI (hs:=hds) (u:=⟨x,B,m,E,J,[⟨l,r⟩,⟨t,.ce m⟩]⟩) (t:=0) (A:=[]) (c:=t) (r:=l) (R:=l++t) (E:=r) hp hun hg2 hh hl2 C ⟨{},{}⟩ (.inl h3) (by show 2<=2;decide) (q1) (q1) (jo B).symm λL N O P R Y Z a7=>b6<|cz (HI (hs:=hds) (u:=⟨x,B,m,E,J,[⟨l,r⟩,⟨t,.ce m⟩]⟩) (t:=1) (A:=l) (c:=[]) (r:=t) (R:=l++t) (E:=.ce m) hp hun hg2 hh hl2 (bK _).symm ⟨{},{}⟩ (.inr ⟨_,C⟩) (by show 2<=2;decide) ?_ ?_ rfl λL N O P R Y Z a7=>b6<|dL<|aF<|gw ?_));·refine U bO ?_;show W.length+(kJ p ⟨x,B,m,E,J,[⟨l,r⟩,⟨t,.ce m⟩]⟩ 2 0 ⟨l,r⟩).length<=150;exact q3
  ·calc U bO;show I.length+(jM ⟨x,B,m,E,J,[⟨l,r⟩,⟨t,.ce m⟩]⟩ 2 ⟨l,r⟩).length<=150;exact q3
  ·show Q .next _ #v[_,bI<|I++jM ⟨x,B,m,E,J,[⟨l,r⟩,⟨t,.ce m⟩]⟩ 2 ⟨l,r⟩++[]];exact U (bK ..)<|c _ _ _ _ _ _ _ _ _ _
end
abbrev qh(k:aj):S:=Gi.body.getD k .brk
abbrev td(k:aj):G S:=Gi.body.drop k
def lF:G S:=dQ<|qh 4
def Dr:X:=(xl<|xa<|xa<|sx<|qh 1).1
abbrev Ds(m r E:G F)(t:ah)(p:M)(f:G F):Rho:=[vf (.ai [.af m,.af r,.af E]),vf (.ai [.str t,.int p,.af f]),vf (.str t),vi p,vf (.af f),z,z,z,z,z,z,z]
abbrev mj(B J:F)(t:ah)(p:M)(f:F)(x:G F)(u:M)(m r E P:ar V):Rho:=[vf B,vf J,vf (.str t),vi p,vf f,vf (.af x),q (.ref 0),vi u,m,r,E,P]
section
variable{c:AM}{B J L:F}{x l:G F}{t N:ah}{p u k:M}{Q:DK}
def aea:am tab (n+1) 433 [.fz (.ai [.af f,.af m,.af r]),.fz (.ai [.str t,.int p,.af E])] [] P=ao (Ph (am tab n) 0) (td 1) (Ds f m r t p E) ⋯ (runK P):=()
def aeb:WS (Ph c 0) (qh 1) (Ds r E m t p P) ⋯ Q=fP (cT (Ph c 0) 1 (.var 0) Dr [] (Ds r E m t p P)) r ⋯ λl f=>gd (l.length<=aM) (fP (cT (Ph c 0) 1 (.var 0) Dr [] (Ds r E m t p P)) E f λl' f=>gd (l'.length<=aM)<|gd (l.length+l'.length<=aM) (gd ((l++l').length+m.length<=aM)
  (Q .next [vf (.ai [.af r,.af E,.af m]),vf (.ai [.str t,.int p,.af P]),vf (.str t),vi p,vf (.af P),vf (.af<|(l++l')++m),z,z,z,z,z,z] f))):=()
def aec{a:Fu}:cT (Ph c 0) 1 (.var 0) Dr [] ρ a.F f P=P (q<|.str a.name) f:=()
def aed{a:Th}:cT (Ph c 0) 1 (.var 0) Dr [] ρ a.F f P=P (q<|.str a.name) f:=()
def aee:WS (Ph c 0) (qh 2) [vf B,vf J,vf (.str t),vi p,vf L,vf (.af x),z,z,z,z,z,z] ⋯ Q=Q .next (mj B J t p L x 0 z z z z) #v[[]]:=()
def aef:WS (Ph c 0) (qh 3) (mj B J t p L x 0 z z z z) #v[[]] Q=(match !([1,2,4]:G M).any (· ==p)with|D=>b8 t ": " λa=>Q .next (mj B J t p L x 0 z z z z) #v[[cK a ["alignment"] []]]|j=>Q .next (mj B J t p L x 0 z z z z) #v[[]]):=()
def aeg:WS (Ph c 0) (qh 4) (mj B J t p (.af f) x 0 z z z z) #v[l] Q=bj (aS (Ph c 0) (.var 8) lF) f (mj B J t p (.af f) x 0 z z z z) #v[l] Q:=()
def N7(c:AM)(P:F)(m:ah)(ρ:Rho)(Q:DK)(r:bL)(E:G FObj):Prop:=cW r λv=>gd (3==3&&(D&&(dU v&&(D&&D))))<|qT (Ph c 0) [.v (.var 9),.v (.var 10),.v (.var 11)] [.fz (.str m),v,.fz (.str "")] ρ ⟨E,[]⟩ λρ f=>cf .next ρ f (λρ f=>ao (Ph c 0) (lF.drop 1) ρ f Q) Q
abbrev Aq(f:F)(P:ah)(B J:F)(t:ah)(p:M)(L:F)(x:G F)(u:M)(R m r E:ar V)(l:G F)(Q:DK)(c:AM):Prop:=aS (Ph c 0) (.var 8) lF f (mj B J t p L x u R m r E) #v[l] Q=c 413 [.fz f] [] (aZ [] [.list l] (N7 c f P (mj B J t p L x u (vf f) m r E) Q))
def Dt:Aq (Pc.num w v).F "num" B J t p L x u f m r E l Q c:=()
def aeh:Aq (Pc.fk N k).F "addr" B J t p L x u f m r E l Q c:=()
def aei:Aq (Pc.gap k).F "gap" B J t p L x u f m r E l Q c:=()
def aej:Aq (Pc.gb m).F "text" B J t p L x u f r E P l Q c:=()
def aek:Aq Pc.gp.F "what" B J t p L x u f m r E l Q c:=()
abbrev e_(B J:F)(t:ah)(p:M)(m:F)(x:G F)(u:M)(r:F)(E:ah)(P:M)(f:ah):Rho:=mj B J t p m x u (vf r) (vf<|.str E) (vi P)<|vf<|.str f
def iS(c:AM)(Q:DK)(l:G F)(ρ:ah->Rho)(d:ah):Prop:=ao (Ph c 0) (lF.drop 3) (ρ d) #v[l] Q
def xE(u p w:M)(E:ah->Prop):Prop:=gd (w !=0) (match !(u.fmod w==0)with|D=>E "aligned"|j=>gd (w !=0) (match !(p.fmod w==0)with|D=>E "aligned"|j=>E ""))
def aem:ao (Ph c 0) (lF.drop 1) (e_ B J t p L x u (Pc.num 3 v).F "num" 3 "") #v[l] Q=iS c Q l (e_ B J t p L x u (Pc.num 3 v).F "num" 3) "width":=()
def aen:ao (Ph c 0) (lF.drop 1) (e_ B J t p L x u (Pc.num 1 v).F "num" 1 "") #v[l] Q=pV v 256 (xE u p 1<|iS c Q l<|e_ B J t p L x u (Pc.num 1 v).F "num" 1) (iS c Q l (e_ B J t p L x u (Pc.num 1 v).F "num" 1) "room"):=()
def aeo:ao (Ph c 0) (lF.drop 1) (e_ B J t p L x u (Pc.num 2 v).F "num" 2 "") #v[l] Q=pV v 65536 (xE u p 2<|iS c Q l<|e_ B J t p L x u (Pc.num 2 v).F "num" 2) (iS c Q l (e_ B J t p L x u (Pc.num 2 v).F "num" 2) "room"):=()
def aep:ao (Ph c 0) (lF.drop 1) (e_ B J t p L x u (Pc.num 4 v).F "num" 4 "") #v[l] Q=pV v 4294967296 (xE u p 4<|iS c Q l<|e_ B J t p L x u (Pc.num 4 v).F "num" 4) (iS c Q l (e_ B J t p L x u (Pc.num 4 v).F "num" 4) "room"):=()
def aeq:ao (Ph c 0) (lF.drop 1) (e_ B J t p L x u (Pc.fk N k).F "addr" 4 "") #v[l] Q=oP (iG x) λf=>match !f.any (· ==N)with|D=>b8 "name " N λa=>iS c Q l (e_ B J t p L x u (Pc.fk N k).F "addr" 4) a|j=>xE u p 4 (iS c Q l<|e_ B J t p L x u (Pc.fk N k).F "addr" 4):=()
def aer:ao (Ph c 0) (lF.drop 1) (e_ B J t p L x u (Pc.gap k).F "gap" f "") #v[l] Q=(match f==0 with|D=>iS c Q l (e_ B J t p L x u (Pc.gap k).F "gap" f) "gap"|j=>iS c Q l (e_ B J t p L x u (Pc.gap k).F "gap" f) ""):=()
def aes:ao (Ph c 0) (lF.drop 1) (e_ B J t p L x u (Pc.gb m).F "text" f "") #v[l] Q=(match f==0 with|D=>iS c Q l (e_ B J t p L x u (Pc.gb m).F "text" f) "text"|j=>iS c Q l (e_ B J t p L x u (Pc.gb m).F "text" f) ""):=()
def HK(t:ah)(u:M)(k:ah->Prop):Prop:=b8 t " at " λa=>jL u λb=>b8 a b λa=>b8 a ": " k
def aet:ao (Ph c 0) (lF.drop 1) (e_ B J t p L x u Pc.gp.F "what" f "") #v[l] Q=HK t u λa=>gd (l.length+1<=aM) (Q (.ret<|.fz<|.af<|l++[cK a ["piece","what"] []]) (e_ B J t p L x u Pc.gp.F "what" f "") #v[l]):=()
def aeu:iS c Q l (e_ B J t p L x u m r f) w=(match !(w==cV "")with|D=>HK t u λa=>gd (l.length<aM)<|Q .next (e_ B J t p L x (u+f) m r f w) #v[l++[cK a [w] []]]|j=>Q .next (e_ B J t p L x (u+f) m r f w) #v[l]):=()
def aev:ao (Ph c 0) (td 5) (mj B J t p L x u r E P R) #v[l] (runK<|aZ [] m f)=f (.ret<|.fz<|.af l) m:=()
end
noncomputable def tf(o:ar (ah×G ah)):ah:=match o with|q (_,w::_)=>w|_=>""
section
def N8(f:(w !=0)=D)(c:E (tf<|o5<|pW l m w)):xE l m w E:=by
 calc aE f;delta pW at c;revert c;refine bc (l.fmod w==0) (λc=>?_) λc=>?_;·
  calc aE f;revert c;refine bc (m.fmod w==0) (λc=>?_) λc=>?_;·exact c
  ·exact c
 ·exact c
def HL(h:w=1\/w=2\/w=4)(c:E (tf<|iq p l m<|.num w v)):pV v (sZ w) (xE l m w E) (E "room"):=by
 have c:E (tf (match w==3 with|D=>q ("a number of no width",["width"])|j=>match aa (0<=v)&&aa (v<sZ w)with|D=>o5 (pW l m w)|j=>q ("a number that has no room",["room"]))):=c;rw[show(w==3)=j by rcases h with rfl|rfl|rfl<;>rfl]at c;refine NH (λf=>N8 (by rcases h with rfl|rfl|rfl<;>rfl) ?_) λf=>?_;·rw[f]at c;exact c
 ·rw[f]at c;exact c
def ti:aZ [] [.list l] (N7 c f m (mj p r t u x B E (vf f) L N O) Q) (.ret<|.fz<|.int J) ⋯=ao (Ph c 0) (lF.drop 1) (e_ p r t u x B E f m J "") #v[l] Q:=()
def aew(h:ij N)(O:mX N=j)(c:∀t,iS (am tab<|n+1) Q l (e_ u x B f E (bI<|eg p++p.d7) r N.F t N.size) (tf<|iq p r f N)):aS (Ph (am tab<|n+1) 0) (.var 8) lF N.F (mj u x B f E (bI<|eg p++p.d7) r x8 x9 a6 aO) #v[l] Q:=by
 cases h with
 |num R=>
  rename_i w v _ _;have P:w=3\/(w=1\/w=2\/w=4):=by lia
  rcases P with rfl|P
  ·exact U Dt<|U zQ<|U ti<|U aem<|c _
  ·clear R O
   rcases P with rfl|rfl|rfl
   ·exact U Dt<|U zQ<|U ti<|U aen<|HL (E:=iS (am tab<|n+1) Q l<|e_ u x B f E (bI<|eg p++p.d7) r (Pc.num 1 v).F "num" 1) (p:=p) (w:=1) (.inl C)<|c _
   ·exact U Dt<|U zQ<|U ti<|U aeo<|HL (E:=iS (am tab<|n+1) Q l<|e_ u x B f E (bI<|eg p++p.d7) r (Pc.num 2 v).F "num" 2) (p:=p) (w:=2) (.inr<|.inl C)<|c _
   ·exact U Dt<|U zQ<|U ti<|U aep<|HL (E:=iS (am tab<|n+1) Q l<|e_ u x B f E (bI<|eg p++p.d7) r (Pc.num 4 v).F "num" 4) (p:=p) (w:=4) (.inr<|.inr C)<|c _
 |fk Y=>
  rename_i L k;refine U aeh<|U Mz<|U ti<|U aeq<|ig (xi _) ?_;show match !eK p L with|true=>_|false=>_
  have c:∀t,iS (am tab<|n+1) Q l (e_ u x B f E (bI<|eg p++p.d7) r (Pc.fk L k).F t 4) (tf (match eK p L with|D=>o5 (pW r f 4)|j=>q ("no name "++L,["name "++L]))):=c;revert c;exact bc (eK p L) (λc=>N8 C<|c _) (λc=>eA (by decide+kernel:cM "name "<=20) (fT _<|Dk _ Y) {}<|c _)
 |gap Z h2=>
  rename_i k;refine U aei<|U MA<|U ti<|U aer (have c:∀t,iS (am tab<|n+1) Q l (e_ u x B f E (bI<|eg p++p.d7) r (Pc.gap k).F t k) (tf (match aa (0<k)with|D=>z|j=>q ("a gap of no octets",["gap"]))):=c;bX (k==0) (λJ=>?_) (λJ=>?_));·have e:=eq_of_beq J;rw[g9 (by lia:¬0<k)]at c;exact c _
  ·have e:=Lq J;rw[de (by lia:0<k)]at c;exact c _
 |gb Z=>
  rename_i m;refine have hs:(jA m (0:px)).size=m:=Fi;U aej (U MB<|U hs<|aE (cy<|q1)<|U ti<|U aes (have c:∀t,iS (am tab<|n+1) Q l (e_ u x B f E (bI<|eg p++p.d7) r (Pc.gb m).F t m) (tf (match aa (0<(m:M))with|D=>z|j=>q ("a text of no octets",["text"]))):=c;bX ((m:M)==0) (λJ=>?_) (λJ=>?_)));·have e:=eq_of_beq J;rw[g9 (by lia:¬0<(m:M))]at c;exact c _
  ·have e:=Lq J;rw[de (by lia:0<(m:M))]at c;exact c _
 |gp=>contradiction
def N_(t:m∈allNames)(x:0<=l/\l<32)(c:k (ro m l)):HK m l k:=have p:=jg (i:=l) ⟨by exact z5,by exact And.right ‹_›⟩;have f:=fT _ t;have r:=dF f (by decide+kernel:cM " at "<=20);have u:=dF r p;eA f (by decide+kernel:cM " at "<=20) {} (nW (z8)<|eA r p {}<|eA u (by decide+kernel:cM ": "<=20) {} c)
def aey(h:ij r)(t:mX r=j)(c:iq p E J r=q x):∃d,x.2=[d]/\(d==cV "")=j:=by
 have f:∀{y:ah},y∈(["aligned","width","room","gap","text"]:G ah)->(y==cV "")=j:=λ{y} u=>(by decide+kernel:∀y∈(["aligned","width","room","gap","text"]:G ah),(y==cV "")=j) y u;have l:∀{b},o5 b=q x->∃d,x.2=[d]/\(d==cV "")=j:=λ{b} e=>by cases b with|true=>injection e|false=>obtain rfl:=bH e;exact(aT _ rfl<|f<|.head _)
 delta iq at c;cases h with
 |num=>
  rename_i w v _ _ _;dsimp only at c;revert c;refine bc (w==3) (λc=>?_) λc=>?_;·obtain rfl:=bH c;exact(aT _ rfl<|f<|.tail _<|.head _)
  ·
   revert c;refine bc (aa (0<=v)&&aa (v<sZ w)) (λc=>?_) λc=>?_;·exact l c
   ·injection c with c;subst c;exact(aT _ rfl<|f<|.tail _<|.tail _<|.head _)
 |fk L=>
  rename_i B k;dsimp only at c;revert c;refine bc (eK p B) (λc=>?_) λc=>?_;·exact l c
  ·clear l;obtain rfl:=bH c;exact(aT _ rfl<|NI (by decide+kernel))
 |gap=>
  rename_i k _ _;dsimp only at c;revert c;refine bc (aa<|0<k) (λc=>?_) λc=>?_;·injection c
  ·clear l;obtain rfl:=bH c;exact(aT _ rfl<|f<|.tail _<|.tail _<|.tail _<|.head _)
 |gb=>
  rename_i m _;dsimp only at c;revert c;refine bc (aa<|0<(m:M)) (λc=>?_) λc=>?_;·injection c
  ·clear l;obtain rfl:=bH c;exact(aT _ rfl<|f<|.tail _<|.tail _<|.tail _<|.tail _<|.head _)
 |gp=>injection t
def aez(hn:B∈allNames):∀(E:G Pc)(t:M)(l:G F)(P Q R Y:ar V),(∀u∈E,ij u)->0<=t->t+4*E.length<32->l.length+E.length<=100->c (.ret<|.fz<|.af<|l++bM (lz p B J t E)) Z->bj (aS (Ph (am tab<|n+1) 0) (.var 8) lF) (E.map Pc.F) (mj pl th B J pf (bI<|eg p++p.d7) t P Q R Y) #v[l] λo ρ f=>cf o ρ f (λρ f=>ao (Ph (am tab<|n+1) 0) (td 5) ρ f<|runK<|aZ [] Z c) (runK<|aZ [] Z c):=by
 intro E;induction E with
 |nil=>intro t l P Q R Y _ _ _ _ m;rw[show bM (lz p B J t [])=[]from C,bK]at m;exact dL<|aF<|aev.mpr m
 |cons u r ih=>
  intro t l P Q R Y h h0 h1 h2 m;rw[eX]at h1 h2;have L:=h u<|.head _;have hs:=Hu L;have m:c (.ret<|.fz<|.af<|l++bM (pX B t (iq p t J u)++match mX u with|D=>[]|j=>lz p B J (t+u.size) r)) Z:=m;rw[oV,<-cZ]at m;calc cz;revert m;refine bX (mX u) (λN m=>?_) λN m=>?_;·cases L with|gp=>rw[show bM (match D with|D=>([]:G Pair)|j=>lz p B J (t+Pc.gp.size) r)=[]from C,bK]at m;refine U aek<|U MC<|U ti<|U aet ?_;exact N_ hn ⟨h0,by lia⟩<|aE (cy (by exact q2<|tX ‹_›)) m|_=>injection N
  ·
   refine aew (p:=p) L N λkd=>aeu.mpr ?_;refine gT (iq p t J u) (λO=>?_) λx O=>?_;·rw[O,show bM (pX B t z)=[]from C,bK]at m;rw[show(tf z==cV "")=D by decide+kernel];exact b6<|ih (t+u.size) l _ _ _ _ (λy hy=>h y<|.tail _ hy) (by lia) (by lia) (by exact sq ‹_›) m
   ·
    refine av (aey L N O) λd e1 e2=>?_;rw[O]at m;obtain⟨x1,x2⟩:=x;subst e1;show match !(d==cV "")with|true=>_|false=>_
    rw[e2];refine N_ hn ⟨h0,by lia⟩<|aE (d_ (by exact q1<|tX ‹_›))<|b6 ?_;exact ih (t+u.size) (l++[cK (ro B t) [d] []]) _ _ _ _ (λy hy=>h y<|.tail _ hy) (by lia) (by lia) (by rw[bO,sr];lia) m
def aeA(l:eN p)(h:nQ t)(c:f (.ret<|.fz<|.af<|bM<|o6 p t) m):am tab (n+2) 433 [.fz p.F,.fz t.F] [] (aZ [] m f):=by refine have r:t.name∈allNames:=(by decide+kernel:∀n∈(["alpha","delta","sigma"]:G ah),n∈allNames) _ h.name;have B:=h.len;have E:=l.ul;have J:=l.tl;have L:=l.xl;aea.mpr<|bq (s:=qh 1) (r:=td 2) C<|aeb.mpr<|h_ (by first|(refine U (bx ..) ?_;lia)|(done)|lia)<|lq (h:=λu:Fu=>.str u.name) (λa _ Q c=>aec.mpr c)<|aE (cy<|U (bx ..) (by lia))<|h_ (by first|(calc U (bx ..);exact q1)|(done)|lia)<|lq (h:=λu:Th=>.str u.name) (λa _ Q c=>aed.mpr c)<|aE (cy<|U (bx ..) q1)<|aE (cy<|U (bx ..)<|U (bx ..)<|q3<|And.right ‹_›)<|aE (cy<|U bO<|U (bx ..)<|U (bx ..)<|U (bx ..) (by lia))<|aF ?_;rw[show((p.us.map (λu:Fu=>F.str u.name)++p.cR.map (λu:Th=>F.str u.name))++p.d7.map F.str)=bI (eg p++p.d7) by unfold eg bI;rw[fx,fx,lW,lW];rfl];refine bq (s:=qh 2) (r:=td 3) C<|aee.mpr<|aF<|bq (s:=qh 3) (r:=td 4) C<|aef.mpr ?_;have rest:∀W:G Pair,W.length<=1->f (.ret<|.fz<|.af<|bM W++bM (lz p t.name t.bE 0 t.ps)) m->ao (Ph (am tab<|n+1) 0) (td 4) (mj (.ai [.af (p.us.map Fu.F),.af (p.cR.map Th.F),.af (p.d7.map .str)]) (.ai [.str t.name,.int t.bE,.af (t.ps.map Pc.F)]) t.name t.bE (.af<|t.ps.map Pc.F) (bI<|eg p++p.d7) 0 z z z z) #v[bM W] (runK<|aZ [] m f):=λW N c=>bq (s:=qh 4) (r:=td 5) C<|aeg.mpr<|aez r t.ps 0 _ _ _ _ _ h.ps {} (by lia) (by rw[lu];exact q3) c;delta o6 xB at c;rw[oV]at c;cases x:([1,2,4]:G M).any (· ==t.bE)with|true=>rw[x]at c;exact aF<|rest [] (cD _) c|false=>rw[x]at c;exact eA (fT _ r) (by decide+kernel:cM ": "<=40) {}<|aF<|rest [(t.name++": an alignment that is none",cK (t.name++": ") ["alignment"] [])] (bR _) c
end
def gi:G Fu->G ah|[]=>[]|u::r=>qd u++gi r
def HM:G S:=dQ<|lr 5
section
def aeB:WS (Ph c 0) (lr 5) (gu p r (.af f) t u x B E J L N O P R Y Z a7 bF) #v[l,m] Q=bj (aS (Ph c 0) (.var 19) HM) f (gu p r (.af f) t u x B E J L N O P R Y Z a7 bF) #v[l,m] Q:=()
def aeC:aS (Ph c 0) (.var 19) HM d (gu p t u x B E J L N O P R Y Z aU aB a7 bF) #v[l,m] Q=c 433 [.fz p,.fz d] [] (aZ [] [.list l,.list m] λr fl=>cW r λv=>kB .gD (.ref 0) [v] ⟨fl,[]⟩ λ_ f=>Q .next (gu p t u x B E J L N O P R Y Z aU aB a7<|vf d) f):=()
def aeD:ao (Ph c 0) (nR 6) (gu r t u x B E J L N O P Q R Y Z aB a7 bF) #v[l,m] (runK<|aZ [] p f)=f (.ret<|.fz<|.ai [.af l,.af m]) p:=()
def HN(h:nO f u.hv u.np u.bs):(qd u).length<=2:=by
 have one:∀c b,(jM u c b).length<=1:=λc b=>by delta jM;cases xx c b.en;exact cD _;exact bR _
 delta qd;generalize u.bs.length=c at*;generalize u.bs=l at*;cases h with|one=>show(jM u c _++[]).length<=2;exact U (bK ..)<|aG (one c _) {}|two=>show(jM u c _++(jM u c _++[])).length<=2;rw[bK,bO];exact iC (one c _)<|one c _
def aeE(R:eN p)(c:f (.ret<|.fz<|.ai [.af (bM<|pZ p),.af (bI<|gi p.us)]) Y):am tab (n+3) 438 [.fz p.F] [] (aZ [] Y f):=by
 refine have hn:=Hy R;have hul:=R.ul;have htl:=R.tl;ZF R λx7 x8=>?_;have Hz:∀(Z:G Th)(W:G Pair) r x B E J L N O P Q bF,(∀t∈Z,nQ t)->W.length+10*Z.length<=1000->f (.ret<|.fz<|.ai [.af (bM<|W++pY p Z),.af (bI<|gi p.us)]) Y->
   bj (aS (Ph (am tab<|n+2) 0) (.var 19) HM) (Z.map Th.F) (lv p x7 x8 r x B E J L N O P Q bF) #v[bM W,bI<|gi p.us] λo ρ l=>cf o ρ l (λρ l=>ao (Ph (am tab<|n+2) 0) (nR 6) ρ l<|runK<|aZ [] Y f) (runK<|aZ [] Y f):=by
  intro Z
  induction Z with
  |nil=>intro W r x B E J L N O P Q bF _ _ c;rw[show pY p []=[]from C,bK]at c;exact dL<|aF<|aeD.mpr c
  |cons t Z ih=>
   intro W r x B E J L N O P Q bF h hl c
   rw[eX]at hl
   have ht:=h t<|.head _
   have hd:=Hx (p:=p) ht
   have c:f (.ret<|.fz<|.ai [.af (bM<|W++(o6 p t++pY p Z)),.af (bI<|gi p.us)]) Y:=c
   rw[<-cZ]at c
   exact cz<|aeC.mpr<|aeA R ht<|aE (c:=aa<|(bM W).length+(bM<|o6 p t).length<aM) (d_<|U (lu ..)<|U (lu ..) y9)<|b6<|U (Eq.symm<|oV ..)<|ih _ _ _ _ _ _ _ _ _ _ _ _ (λy hy=>h y<|.tail _ hy) (U bO y3) c
 have HA:∀(m:G Fu)(W:G Pair)(I:G ah) r x B E J L N O P Q,(∀u∈m,u∈p.us)->W.length+30*m.length<=100->I.length+2*m.length<=100->
   (∀r x B E J L N O P Q,ao (Ph (am tab<|n+2) 0) (nR 5) (lv p x7 x8 r x B E J L N O P Q z) #v[bM<|W++lB p m,bI<|I++gi m] (runK<|aZ [] Y f))->
   bj (aS (Ph (am tab<|n+2) 0) (.var 9) uX) (m.map Fu.F) (lv p x7 x8 r x B E J L N O P Q z) #v[bM W,bI I] λo ρ l=>cf o ρ l (λρ l=>ao (Ph (am tab<|n+2) 0) (nR 5) ρ l<|runK<|aZ [] Y f) (runK<|aZ [] Y f):=by
  intro m
  induction m with
  |nil=>intro W I r x B E J L N O P Q _ _ _ c;have c:=c r x B E J L N O P Q;rw[show lB p []=[]from C,show gi []=[]from C,bK,bK]at c;exact dL<|aF c
  |cons u m ih=>
   intro W I r x B E J L N O P Q h hl hi c
   rw[eX]at hl hi
   refine have hu:=h u<|.head _;have hf:=Am R hu;fH (R.us u hu) λ_ fB=>av fB λhds hb _=>?_
   have hil:=HN hb
   have c:∀r x B E J L N O P Q,ao (Ph (am tab<|n+2) 0) (nR 5) (lv p x7 x8 r x B E J L N O P Q z) #v[bM<|W++(sY p u++lB p m),bI<|I++(qd u++gi m)] (runK<|aZ [] Y f):=c
   rw[<-cZ,<-cZ]at c
   exact cz<|ad_ R hu (y8) (y8) λr x B E J L N O P Q=>b6<|ih _ _ _ _ _ _ _ _ _ _ _ _ (λy hy=>h y<|.tail _ hy) (U bO y3) (U bO y3) c
 refine bq (s:=lr 4) (r:=nR 5) C<|adF.mpr (HA p.us (q_ p) [] _ _ _ _ _ _ _ _ _ _ (λ_ h=>h) (by lia) (by show 0+_<=_;lia) λr x B E J L N O P Q=>bq (s:=lr 5) (r:=nR 6) C<|aeB.mpr ?_);have fl':∀m,(∀u∈m,u∈p.us)->(lB p m).length<=30*m.length:=by intro m;induction m with|nil=>intro _;exact bR _|cons t Z ih=>exact λh=>have h1:=ih λy hy=>h y (.tail _ hy);have h2:=Am R<|h t<|.head _;U bO y4
 exact have fl':=fl' p.us λ_ h=>h;Hz p.cR (q_ p++lB p p.us) _ _ _ _ _ _ _ _ _ _ _ R.cR (U bO (by lia)) c
end
noncomputable def gy:G aj->G (G aj)|[]=>[[]]|c::r=>match gy r with|[]=>[[]]|p::f=>match c==32 with|D=>[]::p::f|j=>(c::p)::f
def Ar:∀l,∃p f,gy l=p::f:=by intro m;induction m with|nil=>exact(qN _ _ rfl)|cons c r ih=>refine dZ (ih) λp f e=>?_;show∃p f,(match gy r with|[]=>[[]]|p::f=>match c==32 with|D=>[]::p::f|j=>(c::p)::f)=p::f;refine U e ?_;cases c==32<;>exact(qN _ _ rfl)
def Oa:∀{a:G aj},32∉a->gy a=[a]:=by intro l;induction l with|nil=>exact λ_=>C|cons c r ih=>intro h;show(match gy r with|[]=>[[]]|p::f=>match c==32 with|D=>[]::p::f|j=>(c::p)::f)=[c::r];exact have t:(c==32)=j:=yR λe=>h (U e<| .head _);U (ih λm=>h<|.tail _ m)<|U t C
def Ob(b:G aj):∀a:G aj,gy (a++32::b)=gy a++gy b:=by intro l;induction l with|nil=>refine dZ (Ar b) λp f e=>?_;show(match gy b with|[]=>[[]]|p::f=>match(32:aj)==32 with|D=>[]::p::f|j=>(32::p)::f)=[[]]++gy b;exact U e C|cons c r ih=>refine dZ (Ar r) λp f e=>?_;show(match gy (r++32::b)with|[]=>[[]]|p::f=>match c==32 with|D=>[]::p::f|j=>(c::p)::f)=(match gy r with|[]=>[[]]|p::f=>match c==32 with|D=>[]::p::f|j=>(c::p)::f)++gy b;refine U (ih)<|U e ?_;cases c==32<;>rfl
theorem Oc:∀(f:G ah),(∀p∈f,32∉p.cps.toList)->f≠[]->gy (yT ⟨#[32]⟩ f).cps.toList=f.map λp=>p.cps.toList|[],_,h=>absurd C h|[p],h,_=>Oa<|h p<|.head _|p::c::r,h,_=>by show gy (p++⟨#[32]⟩++yT ⟨#[32]⟩ (c::r)).cps.toList=_;rw[show(p++(⟨#[32]⟩:ah)++yT ⟨#[32]⟩ (c::r)).cps.toList=p.cps.toList++32::(yT ⟨#[32]⟩<|c::r).cps.toList by show((p.cps++ #[32])++(yT ⟨#[32]⟩<|c::r).cps).toList=_;rw[yU,yU,cZ];rfl];rw[Ob,Oa (h p<|.head _),Oc (c::r) (λx l=>h x<|.tail _ l) (by intro h;injection h)];rfl
def HO(x:ah):(Txt.split x ⟨#[32]⟩).map (λp=>p.cps.toList)=gy x.cps.toList:=by
 have c:=StrLaws.split_free x 32;have f:=StrLaws.join_split x ⟨#[32]⟩;have l:Txt.split x ⟨#[32]⟩≠[]:=by
  delta Txt.split;split;·exact nofun
  ·split
   ·exact nofun
   ·intro e;have:=az mC e;rw[StrLaws.partsBetween_eq]at this;refine dZ (StrLaws.partsFrom_ne x (⟨#[32]⟩:ah).length 0<|Builtin.Str.occurrences x ⟨#[32]⟩ 0 x.length<|x.length+1) λp r m=>?_;rw[m]at this;exact absurd this<|Fq _
 have:=Oc _ c l;rw[f]at this;exact this.symm
noncomputable def plainC(c:aj):aj:=match jF c with|D=>c|j=>32
noncomputable def ml(l:G aj):G M:=((gy<|l.map plainC).filter λp=> !p.isEmpty).map digitsVal
def Od(h:jF c=j)(a b:G aj):ml (a++c::b)=ml a++ml b:=by delta ml;rw[fx,uc,show plainC c=32 by unfold plainC;rw[h],Ob,G.filter_append,fx]
def Oe(b:G aj):∀s:G aj,s.all (λc=> !jF c)=D->ml (s++b)=ml b:=by intro f;induction f with|nil=>exact λ_=>C|cons c s ih=>intro h;rw[Fs,ku]at h;have:=Od (by simpa using h.1:jF c=j) [] (s++b);rw[B4]at this;exact U this<|U (ih h.2) C
def aeF(a b:G aj)(h:(c::s).all (λc=> !jF c)=D):ml (a++((c::s)++b))=ml a++ml b:=by rw[Fs,ku]at h;exact U (Od (by simpa using h.1) ..)<|U (Oe b s h.2) C
def tj(s:S):X×G X:=xl<|xa<|sx s
abbrev qi(k:aj):S:=zz.body.getD k .brk
section
def aeG:am tab (n+1) 443 [.fz (.str s)] [] P=ao (Ph (am tab n) 0) zz.body [vf (.str s),z] ⋯ (runK P):=()
def aeH:WS (Ph c 0) (qi 0) [vf (.str s),z] ⋯ Q=fP (cT (Ph c 0) 1 (.var 0) (tj<|qi 0).1 (tj<|qi 0).2 [vf (.str s),z]) (wM s) ⋯ λl f=>gd (l.length<=aM) (oP (iG l) λm=>gd (m.length<=10000&&cM ""==0&&m.all (λt=>aa<|t.length<=1))<|Q .next [vf (.str s),vf (.str<|Fd "" m)] f):=()
def aeI:cT (Ph c 0) 1 (.var 0) (tj<|qi 0).1 (tj<|qi 0).2 ρ (.str t) f R=(match ny "0123456789" t with|D=>R (q<|.str t) f|j=>R (q<|.str " ") f):=()
def aeJ:ao (Ph c 0) (zz.body.drop 1) [vf (.str s),vf (.str t)] ⋯ (runK P)=gd (t.length<=10000&&cM " "==1) (fP (cT (Ph c 0) 1 (.var 0) (tj<|qi 1).1 (tj<|qi 1).2 [vf (.str s),vf (.str t)]) ((Txt.split t " ").map .str) ⋯ λl f=>gd (l.length<=aM)<|P (.ret<|.fz<|.af l) f):=()
def aeK:cT (Ph c 0) 1 (.var 0) (tj<|qi 1).1 (tj<|qi 1).2 ρ (.str t) f R=(match !(t==cV "")with|D=>gd (t.length<=100&&t.cps.size !=0&&t.cps.toList.all jF)<|R (q<|.int<|digitsVal t.cps.toList) f|j=>R z f):=()
end
def aeL(s:ah):s=⟨s.cps.toList.toArray⟩:=by cases s;rfl
def aeM(c:aj):ny "0123456789" ⟨#[c]⟩=jF c:=by
 show(!(Builtin.Str.occurrences (cV "0123456789") ⟨#[c]⟩ 0 (cV "0123456789").length 1).isEmpty)=_;rw[StrLaws.found_one,show(cV "0123456789").cps.toList=[48,49,50,51,52,53,54,55,56,57] by decide+kernel];delta jF;rw[Ui,kt,ku,kt,kt];constructor;·exact λh=>(by decide:∀c∈[48,49,50,51,52,53,54,55,56,57],48<=c/\c<=57) c h
 ·intro⟨f,l⟩;obtain⟨k,rfl⟩:=aru f;exact(by decide:∀k:aj,k<10->48+k∈[48,49,50,51,52,53,54,55,56,57]) k (by lia)
def Du:cV " "=⟨#[32]⟩:=by decide+kernel
def HP:cV ""=⟨#[]⟩:=by decide+kernel
def one(c:aj):ah:=⟨#[c]⟩
theorem Of:∀l:G aj,(yT ⟨#[]⟩<|l.map one).cps.toList=l|[]=>rfl|[c]=>rfl|c::d::r=>by show((#[c]++(#[]:eD aj))++(yT ⟨#[]⟩<|(d::r).map one).cps).toList=_;refine U yU<|U (Of<|d::r) ?_;rfl
def aeN:∀l,∀p∈gy l,p.length<=l.length:=by
 intro u;induction u with
 |nil=>intro p h;cases h with|head=>exact bR _|tail _ h=>contradiction
 |cons c r ih=>
  intro p h;refine dZ (Ar r) λf m e=>?_;have ih:=ih;rw[e]at ih;have h:p∈(match gy r with|[]=>[[]]|p::t=>match c==32 with|D=>[]::p::t|j=>(c::p)::t):=h;rw[e]at h;revert h;refine bc (c==32) (λh=>?_) λh=>?_;·have h:p∈[]::f::m:=h;cases h with|head=>exact cD _|tail _ h=>exact Ly<|ih p h
  ·have h:p∈(c::f)::m:=h;cases h with|head=>exact mD<|ih f<|.head _|tail _ h=>exact Ly<|ih p<|.tail _ h
def aeO:∀l:G aj,(∀c∈l,jF c=D\/c=32)->∀p∈gy l,p.all jF=D:=by
 intro B;induction B with
 |nil=>intro _ p h;cases h with|head=>rfl|tail _ h=>cases h
 |cons c r ih=>
  intro m p h;refine dZ (Ar r) λf t e=>?_;have ih:=ih λx E=>m x<|.tail _ E;rw[e]at ih;have h:p∈(match gy r with|[]=>[[]]|p::u=>match c==32 with|D=>[]::p::u|j=>(c::p)::u):=h;rw[e]at h;revert h;refine bX (c==32) (λ_ h=>?_) λJ h=>?_;·have h:p∈[]::f::t:=h;cases h with|head=>rfl|tail _ h=>exact ih p h
  ·have h:p∈(c::f)::t:=h;cases h with|head=>refine U Fs<|U (ih f<|.head _)<|U (ary ..) ?_;exact(m c<|.head _).resolve_right<|Lq J|tail _ h=>exact ih p<|.tail _ h
def aeP(Z:s.length<=100)(f:P (.ret<|.fz<|.af<|bP<|ml s.cps.toList) ⋯):am tab (n+1) 443 [.fz (.str s)] [] P:=by
 refine aeG.mpr ?_
 have hl:s.cps.toList.length<=100:=by refine U g_ ?_;exact Z
 refine bq (s:=qi 0) (r:=zz.body.drop 1) C<|aeH.mpr ?_
 show fP _ (s.cps.toList.map λc=>F.str ⟨#[c]⟩) _ _
 refine h_ (by first|(refine U (bx ..) ?_;exact q1)|(done)|lia) ?_
 refine lq (h:=λc=>F.str<|one<|plainC c) (λc _ Q f=>?_) ?_
 ·refine aeI.mpr ?_
  refine U (aeM ..) ?_
  unfold plainC at f
  revert f;refine bc (jF c) (λf=>?_) λf=>?_
  ·exact f
  ·refine U Du ?_;exact f
 have e1:s.cps.toList.map (λc=>F.str<|one<|plainC c)=bI ((s.cps.toList.map plainC).map one):=by delta bI;refine U lW<|U lW ?_;rfl
 refine aE (cy (by refine U (bx ..) ?_;exact q1)) ?_
 refine U e1 ?_
 refine ig (xi _)<|aE ?_<|aF ?_
 ·rw[show aa (((s.cps.toList.map plainC).map one).length<=10000)=D from de (by rw[bx,bx];exact q1),show(cM ""==0)=D by decide+kernel]
  show(D&&((s.cps.toList.map plainC).map one).all _)=D
  rw[Uj,fc]
  intro x N
  refine av (mE.mp N) λc _ J=>?_;subst J
  rfl
 have m:(Fd ""<|(s.cps.toList.map plainC).map one).cps.toList=s.cps.toList.map plainC:=by
  show(Builtin.Str.glued (cV "") _).cps.toList=_
  rw[StrLaws.glued_eq_join,HP,Of]
 generalize N:Fd "" ((s.cps.toList.map plainC).map one)=x at m⊢
 have hxl:x.length<=100:=by show x.cps.size<=100;rw[<-g_,m,bx];exact hl
 refine aeJ.mpr<|aE ?_ ?_
 ·rw[show aa (x.length<=10000)=D from de (by exact q1)];decide+kernel
 have hd:∀c∈x.cps.toList,jF c=D\/c=32:=by
  rw[m]
  intro c O
  refine av (mE.mp O) λd _ J=>?_;clear O;subst J
  delta plainC
  refine bX (jF d) (λh=>?_) λ_=>?_
  ·exact .inl h
  ·exact .inr C
 have R:∀t∈Txt.split x " ",t.cps.toList∈gy x.cps.toList:=λt u=>by rw[<-HO,<-Du];exact mE.mpr<|aT t u C
 have lc:∀l,(gy l).length<=l.length+1:=by
  intro l
  induction l with
  |nil=>exact bR _
  |cons c r ih=>
   refine dZ (Ar r) λp L e=>?_
   rw[e]at ih
   show(match gy r with|[]=>[[]]|p::L=>match c==32 with|D=>[]::p::L|j=>(c::p)::L).length<=r.length+1+1
   rw[e]
   refine bc (c==32) ?_ ?_
   ·exact mD ih
   ·exact Ly ih
 have As:(Txt.split x " ").length<=101:=by
  have E:=lc x.cps.toList
  have B:((Txt.split x " ").map λp=>p.cps.toList).length=(gy x.cps.toList).length:=by rw[<-HO,<-Du]
  rw[bx]at B
  rw[m,bx]at E
  rw[m]at B
  lia
 refine h_ (by rw[bx];exact q1) ?_
 refine sN (λt=>match !(t==cV "")with|D=>q (F.int<|digitsVal t.cps.toList)|j=>z) (λt u Q f=>?_) ?_
 ·refine aeK.mpr ?_
  revert f;refine bX (!(t==cV "")) (λh f=>?_) λ_ f=>?_
  ·
   refine aE ?_ f
   have E:=aeN _ _<|R t u
   have B:=aeO _ hd _<|R t u
   rw[B,ary,ku]
   refine⟨de ?_,?_⟩
   ·show t.cps.size<=100;rw[<-g_];rw[m,bx]at E;exact aG ‹_› ‹_›
   ·rw[py]
    intro e0
    have:t=⟨#[]⟩:=by clear u E B;cases t;rename_i c;exact az ah.mk<|eD.eq_empty_of_size_eq_zero e0
    rw[this,HP]at h
    injection h
  ·exact f
 ·have e2:∀l:G ah,l.filterMap (λt=>match !(t==cV "")with|D=>q (F.int<|digitsVal t.cps.toList)|j=>z)=bP (((l.map λp=>p.cps.toList).filter λp=> !p.isEmpty).map digitsVal):=by
   intro l
   induction l with
   |nil=>rfl
   |cons t l ih=>
    have Y:(t==cV "")=t.cps.toList.isEmpty:=by
     rw[HP,Ui,bw,pz]
     exact⟨λh=>by rw[h],λh=>by rw[aeL t,h]⟩
    rw[uc]
    refine bX t.cps.toList.isEmpty (λh=>?_) λh=>?_
    ·rw[ow (by rw[Y,h];rfl),ih,Uh (by rw[h];decide)]
    ·rw[qF (b:=F.int<|digitsVal t.cps.toList) (by rw[Y,h];rfl),ih,Ug (by rw[h];rfl)];rfl
  rw[e2,Du,HO,m]
  refine aE (cy ?_) f
  have:=lc<|s.cps.toList.map plainC
  rw[bx]at this
  show(bP<|ml s.cps.toList).length<=_
  delta ml
  rw[bx,bx]
  exact aG (arw _ _) (by lia)
noncomputable def Au(k:aj):S:=ux.body.getD k .brk
noncomputable def rt:G S:=dQ<|Au 1
noncomputable abbrev uZ(k:aj):S:=rt.getD k .brk
noncomputable def Dv:X×G X:=match uZ 2 with| .ite (.aA _ (.eG _ _ e _ _ _ _ c) _) _ _=>(e,c)|_=>(.lit .none,[])
noncomputable abbrev o8(c f:F)(l m p r t:ar V):Rho:=[vf c,vf f,l,m,p,r,t]
noncomputable abbrev Oh(t b:ah):ah:=ah.mk<|t.cps.extract (min (b.length:M).toNat t.length) t.length
noncomputable abbrev Oi(t b:ah):ah:=ah.mk<|t.cps.extract 0<|min (b.length:M).toNat t.length
section
def aeQ:am tab (n+1) 448 [.fz c,.fz f] [] P=ao (Ph (am tab n) 0) ux.body (o8 c f z z z z z) ⋯ (runK P):=()
def aeR:WS (Ph c 0) (Au 0) (o8 (.af f) (.af l) z z z z z) ⋯ Q=gd (f.length<=aM) (gd (l.length<=aM) (match !((f.length:M)==(l.length:aj))with|D=>Q (.ret<|.fz<|.bool j) (o8 (.af f) (.af l) z z z z z) ⋯|j=>Q .next (o8 (.af f) (.af l) z z z z z) ⋯)):=()
def aeS:WS (Ph c 0) (Au 1) (o8 (.af f) (.af l) m p r t u) ⋯ Q=bj (aS (Ph c 0) (.ai [.var 2,.ai [.var 3,.var 4,.var 5]]) rt) (mL f l) (o8 (.af f) (.af l) m p r t u) ⋯ Q:=()
def aeT:ao (Ph c 0) (ux.body.drop 2) (o8 f l m p r t u) ⋯ (runK P)=P (.ret<|.fz<|.bool D) ⋯:=()
noncomputable abbrev mm(c f:F)(t b:ah)(l:G ah)(m:G M)(p:ar V):Rho:=o8 c f (vf<|.str t) (vf<|.str b) (vf<|.af<|bI l) (vf<|.af<|bP m) p
def aeU:WS (Ph c 0) (uZ 0) (mm f l t b m p r) ⋯ Q=gd (b.length<=aM) (gd (t.length<=aM)<|gd (D&&0<=(b.length:M)&&(b.length:M)<=1000000)<|Q .next (mm f l t b m p<|vf<|.str<|Oh t b) ⋯):=()
def aeV:WS (Ph c 0) (uZ 1) (mm l m t b p f<|vf<|.str r) ⋯ Q=gd (b.length<=aM) (gd (t.length<=aM)<|gd (0<=(b.length:M)&&(b.length:M)<=1000000) (match !(Oi t b==b)with|D=>Q (.ret<|.fz<|.bool j) (mm l m t b p f<|vf<|.str r) ⋯|j=>c 443 [.fz (.str r)] [] (aZ [] [] λx u=>cW x λv=>wK .NotEq v (.fz<|.af<|bP f) ⟨u,[]⟩ λd=>match d with|D=>Q (.ret<|.fz<|.bool j) (mm l m t b p f<|vf<|.str r) ⟨u,[]⟩|j=>Q .next (mm l m t b p f<|vf<|.str r) ⟨u,[]⟩))):=()
def aeW:WS (Ph c 0) (uZ 2) (mm p u t b m x<|vf<|.str r) ⋯ Q=fP (cT (Ph c 0) 1 (.var 0) Dv.1 Dv.2<|mm p u t b m x<|vf<|.str r) (bI m) ⋯ λl f=>gd (l.length<=aM) (match !l.isEmpty with|D=>Q (.ret<|.fz<|.bool j) (mm p u t b m x<|vf<|.str r) f|j=>Q .next (mm p u t b m x<|vf<|.str r) f):=()
def aeX:cT (Ph c 0) 1 (.var 0) Dv.1 Dv.2 (mm l m t b p u<|vf<|.str r) (.str s) f R=(match !ny r s with|D=>R (q<|.str s) f|j=>R z f):=()
def aeY(c:P j):wK .NotEq (.fz<|.af<|bP f) (.fz<|.af<|bP f) ⟨l,[]⟩ P:=by cases f with|nil=>exact c|cons i is=>have e:=zC<|i::is;show oP (gV<|bP<|i::is) λa=>oP (gV<|bP<|i::is) λb=>P<|!(a==b);calc U e;show P (!((i::is)==(i::is)));exact U (jB ..) c
end
def gO(p:Pair):Prop:=∃b r c f,p.1=b++r/\p.2=cK b c f/\ml r.cps.toList=f/\(∀x∈c,ny r x=D)/\r.length<=100/\b.length<=1000/\c.length<=1000
def aeZ(b r:ah):Oh (b++r) b=r:=by have c:(b++r).length=b.length+r.length:=me b r;show ah.mk ((b.cps++r.cps).extract (min (b.length:M).toNat (b++r).length) (b++r).length)=r;refine U (B2 ..)<|U (Fl (by lia))<|U c ?_;clear c;cases b;rename_i b;cases r;rename_i r;exact U eD.extract_append_right<|U arz C
def ae0(b r:ah):Oi (b++r) b=b:=by have c:(b++r).length=b.length+r.length:=me b r;show ah.mk ((b.cps++r.cps).extract 0<|min (b.length:M).toNat (b++r).length)=b;refine U (B2 ..)<|U (Fl (by lia)) ?_;clear c;cases b;rename_i b;cases r;rename_i r;exact U eD.extract_append_left<|U arz C
section
def ae1:∀l:G ah,l.filterMap (λ_=>(z:ar F))=[]:=by intro c;induction c with|nil=>exact C|cons a l ih=>exact U (ow C) ih
def ae2(h:c (.ret<|.fz f) l):aZ [] l c (.ret<|.fz f) ⋯:=h
def ae3(h:gO p)(c:∀B E J L x,Q .next (o8 m t B E J L x) ⋯):aS (Ph (am tab<|n+1) 0) (.ai [.var 2,.ai [.var 3,.var 4,.var 5]]) rt (.ai [.str p.1,p.2]) (o8 m t B E J L x) ⋯ Q:=by
 refine Vr h λb r l u R Y Z h4 h5 h6 h7=>U R<|U Y ?_;have hl:(b++r).length<=1100:=by calc U (me ..);exact q3
 calc ig (a:=mm m t (b++r) b l u x) C;have N:=cy<|aG h6 {};have O:=cy<|aG hl {};have P:(aa (0<=(b.length:M))&&aa ((b.length:M)<=1000000))=D:=by refine U (de<|gB _)<|U (de<|qC.mpr q1) ?_;rfl
 refine bq (s:=uZ 0) (r:=rt.drop 1) C<|aeU.mpr<|aE N<|aE O<|aE (U (Uj ..) P)<|aF<|U (aeZ ..)<|bq (s:=uZ 1) (r:=rt.drop 2) C<|aeV.mpr<|aE N<|aE O<|aE P<|U (ae0 ..)<|U (jB ..)<|aeP h5<|U Z ?_;refine ae2<|aeY (f:=u) (l:=[]) (P:=λd=>match d with|D=>cf (Out.ret<|V.fz<|F.bool j) (mm m t (b++r) b l u<|vf<|.str r) ⋯ (λρ f=>ao (Ph (am tab<|n+1) 0) (rt.drop 2) ρ f Q) Q|j=>cf Out.next (mm m t (b++r) b l u<|vf<|.str r) ⋯ (λρ f=>ao (Ph (am tab<|n+1) 0) (rt.drop 2) ρ f Q) Q)<|aF ?_;exact bq (s:=uZ 2) (r:=rt.drop 3) C<|aeW.mpr<|h_ (U (show(bI l).length=l.length from bx _) q1)<|sN (λ_=>z) (λs hs Q c=>aeX.mpr<|U (h4 s hs) c)<|U (show l.filterMap (λ_=>(z:ar F))=[]from ae1 l)<|aE (cy<|cD _)<|aF<|gw<|c _ _ _ _ _
def Oj(J:l.length<=1000)(h:∀p∈l,gO p)(c:P (.ret<|.fz<|.bool D) ⋯):am tab (n+2) 448 [.fz (.af<|b7 l),.fz (.af<|bM l)] [] P:=by
 refine aeQ.mpr<|bq (s:=Au 0) (r:=ux.body.drop 1) C<|aeR.mpr<|U (jK ..)<|U (lu ..)<|U (jB ..)<|aE (cy<|q1)<|aE (cy<|q1)<|aF<|bq (s:=Au 1) (r:=ux.body.drop 2) C<|aeS.mpr ?_;have:∀(r:G Pair) m t u x B,(∀p∈r,gO p)->bj (aS (Ph (am tab<|n+1) 0) (.ai [.var 2,.ai [.var 3,.var 4,.var 5]]) rt) (mL (b7 r)<|bM r) (o8 (.af<|b7 l) (.af<|bM l) m t u x B) ⋯
   λo ρ f=>cf o ρ f (λρ f=>ao (Ph (am tab<|n+1) 0) (ux.body.drop 2) ρ f<|runK P) (runK P):=by
  intro r
  induction r with|nil=>intro m t u x B _;exact dL<|aF<|aeT.mpr c|cons p r ih=>intro m t u x B h;exact cz<|ae3 (h p<|.head _) λ_ _ _ _ _=>b6<|ih _ _ _ _ _ λy E=>h y<|.tail _ E
 exact this l _ _ _ _ _ h
end
def mY(s:ah):G M:=ml s.cps.toList
def jN(a b c:ah):(a++b)++c=a++(b++c):=ah.append_assoc a b c
def u0(a b:ah):(a++b).cps.toList=a.cps.toList++b.cps.toList:=yU
def Dw(x y c:ah):ny (x++(y++c)) y=D:=(Uk _ _).mpr<|aT x.length (U (me ..)<|U (me ..) (by lia))<|U (Ul ..)<|U (u0 ..)<|U (u0 ..)<|U (show x.length=x.cps.toList.length from g_.symm)<|U G.drop_left<|U (show y.length=y.cps.toList.length from g_.symm)<|U T9<|U (jB ..) C
def xF(h:ny r y=D):ny (x++r) y=D:=by refine av ((Uk _ _).mp h) λi f c=>(Uk _ _).mpr<|aT (x.length+i) (U (me ..) (by lia)) ?_;rw[Ul]at c⊢;exact U (u0 ..)<|U (show x.length=x.cps.toList.length from g_.symm)<|U G.drop_append<|U (G.drop_eq_nil_of_le<|mB _ _)<|U (Lo ..) c
def Ol(y c:ah):ny (y++c) y=D:=by have:=Dw ⟨#[]⟩ y c;rwa [show(⟨#[]⟩:ah)++(y++c)=y++c from ah.empty_append _]at this
def Om(x y:ah):ny (x++y) y=D:=by have:=Dw x y ⟨#[]⟩;rwa [show y++(⟨#[]⟩:ah)=y from arA _]at this
def plain(s:ah):ak:=s.cps.toList.all λc=> !jF c
def xG(h:plain s=D)(t:ah):mY (s++t)=mY t:=by delta mY;calc U (u0 ..);exact Oe _ _ h
def On(h:plain s=D):mY s=[]:=by have:=xG h ⟨#[]⟩;rw[show s++(⟨#[]⟩:ah)=s from arA _]at this;calc U this;rfl
def HQ(h:plain s=D)(f:s.length≠0)(a b:ah):mY (a++(s++b))=mY a++mY b:=by delta mY;refine U (u0 ..)<|U (u0 ..) ?_;cases e:s.cps.toList with|nil=>exact absurd (by show s.cps.size=0;exact U (Eq.symm g_)<|U e C) f|cons c l=>delta plain at h;rw[e]at h;exact aeF _ _ h
def xH(l:mY r=f)(m:∀x∈c,ny r x=D)(p:r.length<=100)(u:b.length<=1000)(e:t=b++r)(B:c.length<=1000:=by first|exact yS C|assumption|omega):gO (t,cK b c f):=⟨b,r,c,f,e,C,l,m,p,u,B⟩
def iT(r:ah)(c:G ah)(f:G M):ak:=mY r==f&&(c.all (ny r)&&aa (r.length<=90))
def u_(h:iT r c f=D):mY r=f/\(∀x∈c,ny r x=D)/\r.length<=90:=by delta iT at h;rw[ku,ku]at h;exact(cr (eq_of_beq h.1) (λx l=>fc.mp h.2.1 x l)<|dw h.2.2)
def mZ(h:iT r c f=D)(l:b.length<=1000)(e:t=b++r)(m:c.length<=1000:=by first|exact yS C|assumption|omega):gO (t,cK b c f):=xH (u_ h).1 (u_ h).2.1 (aG (u_ h).2.2 {}) l e
def va:iT " is defined twice" ["defined","twice"] []=D/\iT " is an extern twice" ["extern","twice"] []=D/\iT " is an extern and defined" ["extern","defined"] []=D/\iT "a table from a number that is no word" ["table","from"] []=D/\ iT "a table without numbers" ["table","without"] []=D/\iT "a table that names no block" ["table","block"] []=D/\iT "an alignment that is none" ["alignment"] []=D:=by decide+kernel
def xI:iT "a number of no width" ["width"] []=D/\iT "a number that has no room" ["room"] []=D/\iT "a piece that is not aligned" ["aligned"] []=D/\iT "a gap of no octets" ["gap"] []=D/\iT "a text of no octets" ["text"] []=D/\ iT "no such piece: what" ["piece","what"] []=D:=by decide+kernel
def Oo:iT " is called and is no function" ["function"] []=D/\iT " gives no value" ["value"] []=D/\iT "no " [] []=D/\ny "no name " "name"=D:=by decide+kernel
def vc:(∀c∈allNames,plain c=D)/\plain "no name "=D/\plain " is called with "=D:=by decide+kernel
def ae4:∀n:aj,n<5->∀m:aj,m<3->iT (((gM n++" operands, ")++gM m)++" are wanted") ["operands"] [n,m]=D:=by decide+kernel
def Oq(l:c∈allNames)(h:iT r m p=D)(u:b.length<=1000)(e:t=b++(c++r)):∀{f},(∀x∈f,x∈m\/x=c)->(B:f.length<=1000:=by first|exact yS C|assumption|omega)->gO (t,cK b f p):=λ{f} E B=>xH ((xG (vc.1 c l) r).trans (u_ h).1) (λx J=>(E x J).elim (λL=>xF<|(u_ h).2.1 x L) λe=>e▸Ol c r) (by have:=(u_ h).2.2;have:=fT c l;rw[me];omega) u e
def Dx{x a b:ah}(h:x∈[a,b]):x∈[a]\/x=b:=by cases h with|head=>exact .inl<|.head _|tail _ h=>cases h with|head=>exact .inr C|tail _ h=>contradiction
def Os(f:c∈allNames)(l:m.length<=1000):gO (ri m c):=by
 refine xH (r:="no name "++c) ?_ (λx p=>?_) (by have:=fT c f;rw[me,show cM "no name "=8 by decide+kernel];lia) l<|jN _ _ _;·rw[xG vc.2.1,On (vc.1 c f)]
 ·rcases Dx p with h|h
  ·cases h with|head=>have:=Dw "no " "name"<|" "++c;rwa [<-jN "name",<-jN "no ",show cV "no "++(cV "name"++cV " ")=cV "no name " by decide+kernel]at this|tail _ h=>contradiction
  ·rw[h];exact Om _ _
def Ot{f:G ah->ah->G t}:∀{l c:G ah},x∈iN f c l->∃s a,a∈l/\x∈f s a:=by
 intro l;induction l with
 |nil=>intro c h;contradiction
 |cons m l ih=>
  intro c h;rcases i7.mp h with h|h
  ·exact(fY c m (.head _) h)
  ·exact cq (ih h) λs a p r=>(fY s a (.tail _ p) r)
def eO{c:Type}{x a:c}(h:x∈[a]):x=a:=by cases h with|head=>rfl|tail _ h=>contradiction
def ae5(l:eN p):∀x∈q_ p,gO x:=by
 intro x c;have m:∀{a},a∈allNames->a.length<=1000:=λh=>aG (fT _ h) {};rcases i7.mp c with c|c
 ·refine cq (Ot c) λs a f c=>?_;cases h:s.any (· ==a)with|true=>rw[CP h]at c;refine U (eO c) ?_;exact mZ va.1 (m<|l.gK a f) C|false=>rw[CQ h]at c;cases c
 ·refine cq (Ot c) λs a f c=>?_;cases h:s.any (· ==a)with|true=>rw[CR h]at c;refine U (eO c) ?_;exact mZ va.2.1 (m<|l.d7 a f) C|false=>cases r:(eg p).any (· ==a)with|true=>rw[zV h r]at c;calc U (eO c);exact mZ va.2.2.1 (m<|l.d7 a f) C|false=>rw[zW h r]at c;cases c
def Dy(h: -12<=i/\i<32):mY (gM i)=[(i.natAbs:M)]:=by refine av (zA (i:=i+12) (n:=44) (by lia) (by lia)) λk c e=>?_;have:=(by decide+kernel:∀k:aj,k<44->mY (gM<|(k:M)-12)=[(((k:M)-12).natAbs:M)]) k c;rwa [<-e,arv]at this
def ae6:(plain " octets at "=D/\cM " octets at "=11)/\(plain " of slot "=D/\cM " of slot "=9)/\(plain ", which has "=D/\cM ", which has "=12):=by decide+kernel
def ae7(u:r.length<=1000)(f:0<=c/\c<32)(t: -12<=p/\p<32)(l:0<=w/\w<32)(m:0<=s/\s<32):gO (Ag r c p w s,cK r ["slot"] [c,p.natAbs,w,s]):=by
 refine have l1:=jg (i:=c)<|z1 f;have l2:=jg t;have B:=jg (i:=w)<|z1 l;have E:=jg (i:=s)<|z1 m;Vk ae6 λJ L p3 q3=>?_;obtain⟨N,q1⟩:=J;obtain⟨O,q2⟩:=L;refine xH (r:=gM c++(cV " octets at "++(gM p++(cV " of slot "++(gM w++(cV ", which has "++gM s)))))) ?_ (λx P=>?_) ?_ u ?_;·exact U (HQ N (U q1 {}) ..)<|U (HQ O (U q2 {}) ..)<|U (HQ p3 (U q3 {}) ..)<|U (Dy<|z1 f)<|U (Dy t)<|U (Dy<|z1 l)<|U (Dy<|z1 m)<|U (Um f.1)<|U (Um l.1)<|U (Um m.1) C
 ·refine U (eO P)<|xF<|xF<|xF ?_;have:=Dw " of " "slot"<|" "++(gM w++(cV ", which has "++gM s));rwa [<-jN "slot",<-jN " of ",show cV " of "++(cV "slot"++cV " ")=cV " of slot " by decide+kernel]at this
 ·exact aG (dF l1<|dF (cY q1)<|dF l2<|dF (cY q2)<|dF B<|dF (cY q3) E) {}
 ·delta Ag;rw[jN,jN,jN,jN,jN,jN]
def ae8(r:t.length<=1000)(m:jG a)(p:pT f l):∀x∈gN t a f l,gO x:=by
 intro x c;delta gN at c;revert c;refine bc (a.again||oZ a f l) (λc=>?_) λc=>?_;·cases c
 ·
  calc U (eO c);have u:=m.dc;have B:=m.place;have J:=m.aK;have E:0<=gf a f l/\gf a f l<32:=by
   have u:=p.s1;have B:=p.s2;delta gf;cases a.aK==0;·exact⟨q8<|And.left ‹_›,q6<|And.right ‹_›⟩
   ·exact⟨q8<|And.left ‹_›,q6<|And.right ‹_›⟩
  exact ae7 r ⟨by lia,by lia⟩ ⟨by exact And.left ‹_›,by exact And.right ‹_›⟩ ⟨by lia,by lia⟩ E
def ae9{n:aj}(E:p.length<=1000)(u:l∈allNames)(Q:n<=4)(r:0<=t/\t<3):∀x∈mU p l n t,gO x:=by
 intro x f;delta mU at f;revert f;refine bX ((n:M)==t) (λ_ f=>?_) λh f=>?_;·cases f
 ·
  calc U (eO f);refine av (zA (n:=3) r.1 r.2) λm J L=>?_;clear r f;subst L;have B:=u_<|ae4 n (by exact q2) m J;have N:=jg (i:=(n:M)) ⟨by exact gB _,by exact sm.mpr q2⟩;have O:=jg (i:=(m:M)) ⟨by exact gB _,by exact qC.mpr q1⟩;refine xH (r:=l++(cV " is called with "++(((gM n++" operands, ")++gM m)++" are wanted"))) ?_ (λy P=>?_) ?_ E ?_;·refine U (xG (vc.1 l u) ..)<|U (xG vc.2.2 ..) ?_;exact B.1
  ·rcases Dx P with h|h
   ·exact xF<|xF<|B.2.1 y h
   ·calc U h;exact Ol _ _
  ·exact aG (dF (fT l u)<|dF (by decide+kernel:cM " is called with "<=20)<|dF (dF (dF N (by decide+kernel:cM " operands, "<=20)) O) (by decide+kernel:cM " are wanted"<=20)) {}
  ·delta Ah;rw[jN p,jN p,jN l]
def ae_(f:l.length<=1000)(m:p∈allNames):∀x∈kH l p d r,gO x:=by
 refine λx c=>bX (aa (0<=d)&& !r) (λh=>?_) λh=>?_;·rw[Hi h]at c;exact U (eO c)<|Oq m Oo.2.1 f (jN _ _ _) λy t=>Dx t
 ·rw[Aj h]at c;cases c
def afa(p:l.length<=1000)(E:c.n<=4)(t:c.name∈allNames):∀m:G Fu,(∀u∈m,oU u)->∀x∈mV l c m,gO x:=by
 intro m;induction m with
 |nil=>intro _ x f;cases f
 |cons u r ih=>
  intro B x f;have f:x∈(match u.name==c.name with|D=>mU l c.name c.n u.np++kH l c.name c.fR u.hv|j=>mV l c r):=f;revert f;refine bc (u.name==c.name) (λf=>?_) λf=>?_;·
   rcases i7.mp f with f|f
   ·exact ae9 p t E (B u<|.head _).np x f
   ·exact ae_ p t x f
  ·exact ih (λy J=>B y<|.tail _ J) x f
def afb(r:eN p)(l:t.length<=1000)(B:c.n<=4)(m:c.name∈allNames):∀x∈lx p t c,gO x:=by intro x f;delta lx at f;cases h:(p.cR.map Th.name).any (· ==c.name)with|true=>rw[h]at f;calc U (eO f);exact Oq m Oo.1 l (jN _ _ _) λy E=>Dx E|false=>rw[h]at f;exact afa l B m p.us (λu J=>(r.us u J).1) x f
def afc(m:p.length<=1000):∀x∈rm p r e,gO x:=by
 intro x f;cases e with
 |table low l g t=>
  rcases i7.mp f with f|f
  ·rcases i7.mp f with f|f
   ·refine bX (aa (0<=low)&&aa (low<=4294967295)) (λh=>?_) λh=>?_
    ·rw[N1 h]at f;cases f
    ·rw[N0 h]at f;exact U (eO f)<|mZ va.2.2.2.1 m C
   ·refine bX ((l:M)==0) (λh=>?_) λh=>?_
    ·rw[ad1 h]at f;exact U (eO f)<|mZ va.2.2.2.2.1 m C
    ·rw[N4 h]at f;cases f
  ·cases h:(bN l g++[t]).any (eB r)with|true=>rw[h]at f;calc U (eO (a:=(p++"a table that names no block",cK p ["table","block"] [])) f);exact mZ va.2.2.2.2.2.1 m C|false=>rw[h]at f;cases f
 |_=>cases f
def afd(N:eN p)(L:oU u)(m:t.length<=1000):∀B:G Gr,(∀g∈B,uV g)->∀x∈ip p u t B,gO x:=by
 intro B;induction B with
 |nil=>intro _ x f;cases f
 |cons g r ih=>
  intro h x f;rcases i7.mp f with f|f
  ·have J:=h g<|.head _
   cases g with
   |acc a=>exact ae8 m (J.acc a rfl) ⟨L.s1,L.s2⟩ x f
   |call c=>have l:=J.call c rfl;have f:x∈(match eK p c.name with|D=>lx p t c|j=>[ri t c.name]):=f;revert f;exact bc (eK p c.name) (λf=>afb N m l.1 l.2 x f) λf=>U (eO f)<|Os l.2 m
   |name E k=>
    have l:=J.name E k C;have f:x∈(match eK p E with|D=>[]|j=>[ri t E]):=f;revert f;refine bc (eK p E) (λf=>?_) λf=>?_;·contradiction
    ·exact U (eO f)<|Os l m
  ·exact ih (λy O=>h y<|.tail _ O) x f
def HR(m:∀h∈p,h.name∈(["alpha","beta","gamma"]:G ah)):∀(l:G Gr)(f:M),fi p f l->∀g∈l,uV g:=by intro l;induction l with|nil=>intro f _ g c;cases c|cons x r ih=>intro f h g c;cases h with|cons t u=>cases c with|head=>exact Hr m t|tail _ c=>exact ih _ u g c
def afe(l:∀h∈r,h.name∈(["alpha","beta","gamma"]:G ah))(h:nO r u x p):p.length<=2/\∀b∈p,∀g∈b.gs,uV g:=by cases h with|one m _=>exact⟨by show 1<=2;decide,λb f g c=>by rw[eO f]at c;exact HR l _ _ m g c⟩|two m _ _ t _=>refine⟨by show 2<=2;decide,λb f g c=>?_⟩;cases f with|head=>exact HR l _ _ m g c|tail _ f=>rw[eO f]at c;exact HR l _ _ t g c
def aff(B:eN p)(l:oU u):∀(f:G Bl)(t:aj),t+f.length<=2->(∀b∈f,∀g∈b.gs,uV g)->∀x∈Hq p u L t f,gO x:=by
 intro f;induction f with
 |nil=>intro t _ _ x c;cases c
 |cons b r ih=>
  intro t E h x c;rw[eX]at E;rcases i7.mp c with c|c
  ·have m:(fU u.name t).length<=1000:=aG (Hs (xz _ l.name) ⟨gB t,by lia⟩) {}
   rcases i7.mp c with c|c
   ·exact afd B l m _ (h b<|.head _) x c
   ·exact afc m x c
  ·exact ih (t+1) (by lia) (λy J=>h y<|.tail _ J) x c
def afg(h:ij E)(L:t∈allNames)(Q:0<=f/\f<32):∀x∈pX t f (iq p f N E),gO x:=by
 intro x l;have r:(ro t f).length<=1000:=by have O:=jg (i:=f) ⟨by exact z5,by exact And.right ‹_›⟩;exact aG (dF (dF (dF (fT _ L) (by decide+kernel:cM " at "<=20)) O) (by decide+kernel:cM ": "<=20)) {}
 cases c:iq p f N E with
 |none=>rw[c]at l;contradiction
 |some y=>
  rw[c]at l;calc U (eO (a:=(ro t f++y.1,cK (ro t f) y.2 [])) l);have u:∀{b},o5 b=q y->gO (ro t f++y.1,cK (ro t f) y.2 []):=λ{b} e=>by cases b with|true=>injection e|false=>injection e with e;subst e;exact mZ xI.2.2.1 r C
  delta iq at c;cases h with
  |num=>
   rename_i w v _ _ _;dsimp only at c;revert c;refine bc (w==3) (λc=>?_) λc=>?_;·obtain rfl:=bH c;exact mZ xI.1 r C
   ·
    revert c;refine bc (aa (0<=v)&&aa (v<sZ w)) (λc=>?_) λc=>?_;·exact u c
    ·obtain rfl:=bH c;exact mZ xI.2.1 r C
  |fk P=>
   rename_i B k;dsimp only at c;revert c;refine bc (eK p B) (λc=>?_) λc=>?_;·exact u c
   ·
    injection c with c;clear u;subst c
    have J:=Dk _ P;refine xH (r:="no name "++B) ?_ (λx l=>?_) (by have:=fT B J;rw[me,show cM "no name "=8 by decide+kernel];lia) r C;·rw[xG vc.2.1,On (vc.1 B J)]
    ·rw[eO l];have:=Om "no "<|"name "++B;rwa [<-jN "no ",show cV "no "++cV "name "=cV "no name " by decide+kernel]at this
  |gap=>
   rename_i k _ _;dsimp only at c;revert c;refine bc (aa<|0<k) (λc=>?_) λc=>?_;·contradiction
   ·injection c with c;clear l u;subst c;exact mZ xI.2.2.2.1 r C
  |gb=>
   rename_i m _;dsimp only at c;revert c;refine bc (aa<|0<(m:M)) (λc=>?_) λc=>?_;·contradiction
   ·clear l u;obtain rfl:=bH c;exact mZ xI.2.2.2.2.1 r C
  |gp=>injection c with c;clear l u;subst c;exact mZ xI.2.2.2.2.2 r C
def afh(E:t∈allNames):∀(m:G Pc)(f:M),(∀l∈m,ij l)->0<=f->f+4*m.length<32->∀x∈lz p t u f m,gO x:=by
 intro m;induction m with
 |nil=>intro _ _ _ _ x c;cases c
 |cons l r ih=>
  intro f h J L x c;rw[eX]at L;have B:=h l<|.head _;have O:=Hu B;have c:x∈pX t f (iq p f u l)++match mX l with|true=>[]|false=>lz p t u (f+l.size) r:=c
  rcases i7.mp c with c|c
  ·exact afg B E ⟨J,by lia⟩ x c
  ·revert c;refine bc (mX l) (λc=>?_) λc=>?_
   ·contradiction
   ·exact ih (f+l.size) (λy N=>h y<|.tail _ N) (by lia) (by lia) x c
def afi(h:nQ t):∀x∈o6 p t,gO x:=by
 intro x c;have f:t.name∈allNames:=(by decide+kernel:∀n∈(["alpha","delta","sigma"]:G ah),n∈allNames) _ h.name;have m:=h.len;rcases i7.mp c with c|c
 ·delta xB at c;cases l:([1,2,4]:G M).any (· ==t.bE)with|true=>rw[l]at c;contradiction|false=>rw[l]at c;refine U (eO c)<|mZ va.2.2.2.2.2.2 (aG (dF (fT _ f) (by decide+kernel:cM ": "<=20)) {}) ?_;rw[jN,show cV ": "++cV "an alignment that is none"=cV ": an alignment that is none" by decide+kernel]
 ·exact afh f t.ps 0 h.ps {} (by lia) x c
def afj(f:eN p):∀x∈pZ p,gO x:=by
 intro x c;rcases i7.mp c with c|c
 ·rcases i7.mp c with c|c
  ·exact ae5 f x c
  ·have:∀l:G Fu,(∀u∈l,u∈p.us)->∀x∈lB p l,gO x:=by
    intro l
    induction l with
    |nil=>intro _ x c;cases c
    |cons u r ih=>
     intro h x c;rcases i7.mp c with c|c
     ·exact fH (f.us u<|h u<|.head _) λJ L=>av L λN B O=>have B:=afe O B;aff f J u.bs 0 (by lia) B.2 x c
     ·exact ih (λy E=>h y<|.tail _ E) x c
   exact this p.us (λ_ h=>h) x c
 ·have:∀m:G Th,(∀t∈m,t∈p.cR)->∀x∈pY p m,gO x:=by
   intro m
   induction m with
   |nil=>intro _ x c;cases c
   |cons t r ih=>
    intro h x c;rcases i7.mp c with c|c
    ·exact afi (f.cR t<|h t<|.head _) x c
    ·exact ih (λy E=>h y<|.tail _ E) x c
  exact this p.cR (λ_ h=>h) x c
abbrev ru(k:aj):S:=FY.body.getD k .brk
abbrev rB(k:aj):G S:=FY.body.drop k
def HS:G S:=dQ<|ru 2
abbrev gP(u f:F)(l:ah)(m p:ar V):Rho:=[vf u,vf f,vf (.str l),m,p]
def Dz(r c:M)(A B:Prop):Prop:=match aa (0<=r)with
 |D=>match !aa (r<c)with|D=>B|j=>A
 |j=>B
section
def afk:am tab (n+1) 163 [.fz (ba l m p t u c),.fz (b0 r),.fz (.str f)] [] P=Dz r c (P (.ret<|.fz .none) ⋯) (jL r λa=>b8 "no register " a λa=>b8 a " in " λa=>b8 a f λw=>P (.exc w) ⋯):=()
def afl:am tab (n+1) 163 [.fz (ba f l m p r t),.fz (bU k),.fz (.str c)] [] P=(match aa (0<=k)with
  |D=>match !aa (k<=4294967295)with|D=>b8 "no operand in " c λw=>P (.exc w) ⋯|j=>P (.ret<|.fz .none) ⋯
  |j=>b8 "no operand in " c λw=>P (.exc w) ⋯):=()
abbrev wa(op:ah)(c:M)(d:M)(args:G F)(f:F)(n:aj)(P:bL->Mem->Prop):Prop:=am tab (n+1) 170 [.fz (cj op d args f)] [] P=P (.ret<|.fz<|.int c) ⋯
def afm:wa "slot" 0 d args c n P:=()
def afn:wa "const" 1 d args c n P:=()
def afo:wa "copy" 1 d args c n P:=()
def Ou:wa "add" 2 d args c n P:=()
def afp:wa "sub" 2 d args c n P:=()
def afq:wa "load" 1 d args c n P:=()
def afr:wa "store" 2 d args c n P:=()
def Ov:wa "move" 2 d args c n P:=()
def afs:wa "call" (-1) d args c n P:=()
def aft:wa "name" 0 d args c n P:=()
def HT(w:M):ak:=([1,2,4]:G M).any (· ==w)
abbrev cm(f:F)(rhs:Prop)(u:F)(l:ah)(n:aj)(P:bL->Mem->Prop):Prop:=am tab (n+1) 177 [.fz u,.fz f,.fz (.str l)] [] P=rhs
abbrev Av(op:ah)(d:M)(args:G F)(c:F)(u:F)(f:ah)(n:aj)(P:bL->Mem->Prop):Prop:=cm (cj op d args c) (P (.ret<|.fz .none) ⋯) u f n P
def afu:Av "copy" d args c u f n P:=()
def Ow:Av "add" d args c u f n P:=()
def afv:Av "sub" d args c u f n P:=()
def afw:Av "call" d args c u f n P:=()
def afx:Av "name" d args c u f n P:=()
def afy:cm (Sp.mk d .ff).I (P (.ret<|.fz .none) ⋯) u c n P:=()
def afz:cm (Sp.mk d<|.slot 0).I (P (.ret<|.fz .none) ⋯) (ba c f l (bT m p) r t) u n P:=()
def afA:cm (Sp.mk d<|.slot 1).I (P (.ret<|.fz .none) ⋯) (ba c f l (bT m p) r t) u n P:=()
def afB:cm (Sp.mk d<|.load r w v).I (match !HT w with|D=>b8 "no width in " c λw=>P (.exc w) ⋯|j=>P (.ret<|.fz .none) ⋯) u c n P:=()
def afC:cm (Sp.mk d<|.l9 r w).I (match !HT w with|D=>b8 "no width in " c λw=>P (.exc w) ⋯|j=>P (.ret<|.fz .none) ⋯) u c n P:=()
def afD:cm (Sp.mk d<|.ma r w).I (match aa (w<1)with|D=>b8 "no size in " c λw=>P (.exc w) ⋯|j=>P (.ret<|.fz .none) ⋯) u c n P:=()
def afE:cm (Sp.mk d<|.mc r w).I (match aa (w<1)with|D=>b8 "no size in " c λw=>P (.exc w) ⋯|j=>P (.ret<|.fz .none) ⋯) u c n P:=()
def afF:am tab (n+1) 184 [.fz u,.fz f,.fz (.str l)] [] P=ao (Ph (am tab n) 0) (rB 0) (gP u f l z z) ⋯ (runK P):=()
def afG:WS (Ph c 0) (ru 0) (gP u m p z z) ⋯ Q=c 170 [.fz m] [] (aZ [] [] λr t=>cW r λv=>ez (Ph c 0) (.v<|.var 3) v (gP u m p z z) ⟨t,[]⟩ λρ l=>Q .next ρ l):=()
def afH:WS (Ph c 0) (ru 1) (gP u (cj op d args f) l (vi i) z) ⋯ Q=(match aa (0<=i)with|D=>gd (args.length<=aM) (match !((args.length:M)==i)with|D=>b8 "operands in " l λw=>Q (.exc w) (gP u (cj op d args f) l (vi i) z) ⋯|j=>Q .next (gP u (cj op d args f) l (vi i) z) ⋯)|j=>Q .next (gP u (cj op d args f) l (vi i) z) ⋯):=()
def afI:WS (Ph c 0) (ru 2) (gP u (cj op d args f) l m z) ⋯ Q=bj (aS (Ph c 0) (.var 4) HS) args (gP u (cj op d args f) l m z) ⋯ Q:=()
def afJ:aS (Ph c 0) (.var 4) HS a (gP u p m t B) ⋯ Q=c 163 [.fz u,.fz a,.fz (.str m)] [] (aZ [] [] λr x=>cf (oN r) (gP u p m t<|vf a) ⟨x,[]⟩ (λρ l=>ao (Ph c 0) [] ρ l Q) Q):=()
def afK:WS (Ph c 0) (ru 3) (gP u l m p t) ⋯ Q=c 177 [.fz u,.fz l,.fz (.str m)] [] (aZ [] [] λr x=>Q (oN r) (gP u l m p t) ⟨x,[]⟩):=()
abbrev HU(op:ah)(u:F)(d:M)(args:G F)(f:F)(l:ah)(m p:ar V)(rhs:Prop)(Q:DK)(c:AM):Prop:=ao (Ph c 0) (rB 4) (gP u (cj op d args f) l m p) ⋯ Q=rhs
abbrev Ox(op:ah)(u:F)(d:M)(args:G F)(f:F)(l:ah)(m p:ar V)(Q:DK)(c:AM):Prop:=HU op u d args f l m p (match !(d== -1)with|D=>b8 "a register is set in " l λw=>Q (.exc w) (gP u (cj op d args f) l m p) ⋯|j=>Q .next (gP u (cj op d args f) l m p) ⋯) Q c
def afL:Ox "store" u d args f l m p Q c:=()
def Oy:Ox "move" u d args f l m p Q c:=()
def afM:HU "call" (ba p r t u x m) d args f l B E (match aa (-1<=d)with
  |D=>match !aa (d<m)with|D=>b8 "no register in " l λw=>Q (.exc w) (gP (ba p r t u x m) (cj "call" d args f) l B E) ⋯|j=>Q .next (gP (ba p r t u x m) (cj "call" d args f) l B E) ⋯
  |j=>b8 "no register in " l λw=>Q (.exc w) (gP (ba p r t u x m) (cj "call" d args f) l B E) ⋯) Q c:=()
abbrev vd(op:ah)(p:ah)(r:M)(t:ak)(u:F)(x:G F)(l:M)(d:M)(args:G F)(f:F)(m:ah)(B E:ar V)(Q:DK)(c:AM):Prop:=HU op (ba p r t u x l) d args f m B E (Dz d l (Q .next (gP (ba p r t u x l) (cj op d args f) m B E) ⋯)
  (b8 "no register in " m λw=>Q (.exc w) (gP (ba p r t u x l) (cj op d args f) m B E) ⋯)) Q c
def afN:vd "slot" l m p r t u d args f x B E Q c:=()
def afO:vd "const" l m p r t u d args f x B E Q c:=()
def afP:vd "copy" l m p r t u d args f x B E Q c:=()
def Oz:vd "add" l m p r t u d args f x B E Q c:=()
def afQ:vd "sub" l m p r t u d args f x B E Q c:=()
def afR:vd "load" l m p r t u d args f x B E Q c:=()
def afS:vd "name" l m p r t u d args f x B E Q c:=()
end
def o_(c:M)(a:F):Prop:=(∃r,a=b0 r/\0<=r/\r<c)\/∃k,a=bU k/\0<=k/\k<=4294967295
def pa(c:M)(s:Sp):Prop:=(∀a∈s.k.args,o_ c a)/\match s.k with| .slot f=>(f=0\/f=1)/\0<=s.d/\s.d<c| .load _ w _=>(w=1\/w=2\/w=4)/\0<=s.d/\s.d<c| .l9 _ w=>(w=1\/w=2\/w=4)/\s.d= -1| .ma _ w=>(w=1\/w=2\/w=4)/\s.d= -1| .mc _ w=>(w=1\/w=2\/w=4)/\s.d= -1| .call _ n _=>n<=4/\-1<=s.d/\s.d<c|_=>0<=s.d/\s.d<c
section
variable{a:F}
def rC(h:0<=r/\r<c)(a:A):Dz r c A B:=by delta Dz;exact U (de h.1)<|U (de h.2) a
def OA(h:o_ f a)(c:P (.ret<|.fz .none) ⋯):am tab (n+1) 163 [.fz (ba p t u x B f),.fz a,.fz (.str E)] [] P:=by
 rcases h with⟨r,rfl,h⟩|⟨k,rfl,l,m⟩
 ·exact afk.mpr<|rC h c
 ·exact afl.mpr<|U (de l)<|U (de m) c
def nX(N:∀P,wa op m d args l n P)(O:0<=m->(args.length:M)=m)(hl:args.length<=4)(Y:∀a∈args,o_ p a)(Q:∀{P:bL->Mem->Prop},P (.ret<|.fz .none) ⋯->am tab (n+1) 177 [.fz (ba u x B E J p),.fz (cj op d args l),.fz (.str L)] [] P)(Z:∀{x3 r:ar V},P (.ret<|.fz .none) ⋯->ao (Ph (am tab<|n+1) 0) (rB 4) (gP (ba u x B E J p) (cj op d args l) L x3 r) ⋯ (runK P))(c:P (.ret<|.fz .none) ⋯):am tab (n+2) 184 [.fz (ba u x B E J p),.fz (cj op d args l),.fz (.str L)] [] P:=by
 calc afF.mpr;refine bq (s:=ru 0) (r:=rB 1) C<|afG.mpr<|(N _).mpr<|aF ?_;refine bq (s:=ru 1) (r:=rB 2) C<|afH.mpr ?_;have R:ao (Ph (am tab<|n+1) 0) (rB 2) (gP (ba u x B E J p) (cj op d args l) L (vi m) z) ⋯ (runK P):=by
  refine bq (s:=ru 2) (r:=rB 3) C<|afI.mpr ?_;have:∀(t:G F) r,(∀a∈t,o_ p a)->bj (aS (Ph (am tab<|n+1) 0) (.var 4) HS) t (gP (ba u x B E J p) (cj op d args l) L (vi m) r) ⋯
    λo ρ f=>cf o ρ f (λρ f=>ao (Ph (am tab<|n+1) 0) (rB 3) ρ f<|runK P) (runK P):=by
   intro t
   induction t with|nil=>intro r _;exact dL<|aF<|bq (s:=ru 3) (r:=rB 4) C<|afK.mpr<|Q<|aF<|Z c|cons a t ih=>intro r h;exact cz<|afJ.mpr<|OA (h a<|.head _)<|aF<|gw<|b6<|ih _ λy hy=>h y<|.tail _ hy
  exact this args z Y
 refine bX (aa<|0<=m) (λh=>?_) λ_=>?_;·have O:=O<|dw h;refine aE (cy<|q1) ?_;refine U O<|U (jB ..) ?_;exact aF R
 ·exact aF R
def OB(h:w=1\/w=2\/w=4):HT w=D:=by rcases h with rfl|rfl|rfl<;>rfl
def afV(h:pa t s)(c:P (.ret<|.fz .none) ⋯):am tab (n+2) 184 [.fz (ba p E J (bT L N) O t),.fz s.I,.fz (.str Q)] [] P:=by
 obtain⟨d,k⟩:=s;obtain⟨l,h⟩:=h;cases k with
 |slot w=>
  obtain⟨m,f⟩:=h;refine nX (op:="slot") (m:=0) (args:=[]) (λ_=>afm) (λ_=>C) {} (by intros;contradiction) (λc=>?_) (λc=>afN.mpr<|rC f c) c;rcases m with rfl|rfl
  ·exact afz.mpr c
  ·exact afA.mpr c
 |ff=>exact nX (op:="const") (m:=1) (args:=[bU 7]) (λ_=>afn) (λ_=>C) (by show 1<=4;decide) l (λc=>afy.mpr c) (λc=>afO.mpr<|rC h c) c
 |l8 s=>exact nX (op:="copy") (m:=1) (args:=[b0 s]) (λ_=>afo) (λ_=>C) (by show 1<=4;decide) l (λc=>afu.mpr c) (λc=>afP.mpr<|rC h c) c
 |kE s k=>exact nX (op:="add") (m:=2) (args:=[bU k,b0 s]) (λ_=>Ou) (λ_=>C) (by show 2<=4;decide) l (λc=>Ow.mpr c) (λc=>Oz.mpr<|rC h c) c
 |add s k=>exact nX (op:="add") (m:=2) (args:=[b0 s,bU k]) (λ_=>Ou) (λ_=>C) (by show 2<=4;decide) l (λc=>Ow.mpr c) (λc=>Oz.mpr<|rC h c) c
 |sub s k=>exact nX (op:="sub") (m:=2) (args:=[b0 s,bU k]) (λ_=>afp) (λ_=>C) (by show 2<=4;decide) l (λc=>afv.mpr c) (λc=>afQ.mpr<|rC h c) c
 |load r w v=>exact fH h λm f=>nX (op:="load") (m:=1) (args:=[b0 r]) (l:=.ai [.int w,.bool v]) (λ_=>afq) (λ_=>C) (by show 1<=4;decide) l (λc=>afB.mpr<|U (OB m) c) (λc=>afR.mpr<|rC f c) c
 |l9 r w=>exact fH h λm f=>nX (op:="store") (m:=2) (args:=[b0 r,bU 9]) (l:=.int w) (λ_=>afr) (λ_=>C) (by show 2<=4;decide) l (λc=>afC.mpr<|U (OB m) c) (λc=>afL.mpr<|U f c) c
 |ma r w=>obtain⟨m,f⟩:=h;dsimp only at f;exact nX (op:="move") (m:=2) (args:=[b0 r,bU 64]) (l:=.ai [.int w,.int 1]) (λ_=>Ov) (λ_=>C) (by show 2<=4;decide) l (λc=>afD.mpr (by rw[g9 (by lia:¬w<1)];exact c)) (λc=>Oy.mpr<|U f c) c
 |mc r w=>obtain⟨m,f⟩:=h;dsimp only at f;exact nX (op:="move") (m:=2) (args:=[bU 64,b0 r]) (l:=.ai [.int w,.int 1]) (λ_=>Ov) (λ_=>C) (by show 2<=4;decide) l (λc=>afE.mpr (by rw[g9 (by lia:¬w<1)];exact c)) (λc=>Oy.mpr<|U f c) c
 |call k n p=>exact qO h λu x B=>nX (op:="call") (m:= -1) (args:=bN n<|bU k) (λ_=>afs) (λh=>absurd h {}) (U oy u) l (λc=>afw.mpr c) (λc=>afM.mpr<|U (de x)<|U (de B) c) c
 |name p k=>exact nX (op:="name") (m:=0) (args:=[]) (λ_=>aft) (λ_=>C) {} (by intros;contradiction) (λc=>afx.mpr c) (λc=>afS.mpr<|rC h c) c
end
noncomputable abbrev DA(k:aj):S:=FZ.body.getD k .brk
noncomputable abbrev tm(k:aj):G S:=FZ.body.drop k
noncomputable def HV:G S:=dQ<|DA 4
noncomputable def HW:G S:=dQ<|DA 5
noncomputable abbrev j8(u b:F)(c:ah)(f l p r:ar V):Rho:=[vf u,vf b,vf (.str c),f,l,p,r]
noncomputable def rD:En->G M| .ce _=>[]| .jH=>[1]| .branch g=>[g,1]| .table _ f g l=>bN f g++[l]
section
variable{m:F}{op:ah}{args:G F}
def afW:am tab (n+1) 149 [.fz (ch t ⟨c,.ce f⟩)] [] P=P (.ret<|.fz<|.af []) ⋯:=()
def afX:am tab (n+1) 149 [.fz (ch t ⟨c,.jH⟩)] [] P=P (.ret<|.fz<|.af [.int 1]) ⋯:=()
def afY:am tab (n+1) 149 [.fz (ch t ⟨c,.branch g⟩)] [] P=P (.ret<|.fz<|.af [.int g,.int 1]) ⋯:=()
def OC(p:mP e\/∃r,e= .ce r)(c:P (.ret<|.fz<|.af<|bP<|rD e) ⋯):am tab (n+1) 149 [.fz (ch t ⟨B,e⟩)] [] P:=by
 cases e with
 |ce r=>exact afW.mpr c
 |jH=>exact afX.mpr c
 |branch g=>exact afY.mpr c
 |table low l g u=>
  have E:l<=2:=by
   rcases p with p|⟨_,p⟩
   ·exact(by decide:∀x∈([(0,2),(5,1),(4294967295,2),(-1,1),(4294967296,2),(3,0)]:G (M×aj)),x.2<=2) _ p.1
   ·injection p
  refine have J:(bN l<|F.int g).length=l:=oy;NC.mpr (aE (cy (by lia))<|aE (cy (by lia)) ?_);rw[show bN l (F.int g)++[F.int u]=bP (bN l g++[u]) by unfold bP;rw[fx,Uf];rfl];exact c
def afZ:am tab (n+1) 191 [.fz u,.fz b,.fz (.str c)] [] P=ao (Ph (am tab n) 0) (tm 0) (j8 u b c z z z z) ⋯ (runK P):=()
abbrev Aw(e:En)(l:ah)(p:M)(r:ak)(u:F)(x:G F)(B:M)(t:M)(E:G Sp)(J:ah)(f:M)(Q:DK)(c:AM):Prop:=ao (Ph c 0) (tm 0) (j8 (ba l p r u x B) (ch t ⟨E,e⟩) J z z z z) ⋯ Q=ao (Ph c 0) (tm 4) (j8 (ba l p r u x B) (ch t ⟨E,e⟩) J (vf<|cj e.op (-1) e.args e.more) (vi f) z z) ⋯ Q
def af0:Aw (.ce D) f l D p r u t x B 1 Q c:=()
def af1:Aw (.ce j) f l j p r u t x B 0 Q c:=()
def af2:Aw .jH f l p r u x t B E 0 Q c:=()
def af3:Aw (.branch g) f l p r u x t B E 1 Q c:=()
def af4:Aw (.table low l g p) r u x B E J t L N 1 Q c:=()
def af5:WS (Ph c 0) (DA 4) (j8 u b f (vf<|cj op d args m) l z z) ⋯ Q=bj (aS (Ph c 0) (.var 5) HV) args (j8 u b f (vf<|cj op d args m) l z z) ⋯ Q:=()
def af6:aS (Ph c 0) (.var 5) HV a (j8 u b l p t E x) ⋯ Q=c 163 [.fz u,.fz a,.fz (.str l)] [] (aZ [] [] λr B=>cf (oN r) (j8 u b l p t (vf a) x) ⟨B,[]⟩ (λρ f=>ao (Ph c 0) [] ρ f Q) Q):=()
def af7:ao (Ph c 0) (tm 5) (j8 u b p t x B z) ⋯ Q=c 149 [.fz b] [] (aZ [] [] λr E=>cW r λv=>oP (gH .plain v<|.fz .none) λl=>bj (aS (Ph c 0) (.var 6) HW) l (j8 u b p t x B z) ⟨E,[]⟩ λo ρ f=>cf o ρ f (λρ f=>ao (Ph c 0) [] ρ f Q) Q):=()
def DB(i:M)(c:ah)(k:ah->Prop):Prop:=jL i λa=>b8 "no block " a λa=>b8 a " at the end of " λa=>b8 a c k
def af8:aS (Ph c 0) (.var 6) HW (.int i) (j8 (ba p r t u f x) b l B E J L) ⋯ Q=(match aa (0<=i)with|D=>gd (f.length<=aM) (match !aa (i<f.length)with|D=>DB i l λw=>Q (.exc w) (j8 (ba p r t u f x) b l B E J<|vi i) ⋯|j=>Q .next (j8 (ba p r t u f x) b l B E J<|vi i) ⋯)|j=>DB i l λw=>Q (.exc w) (j8 (ba p r t u f x) b l B E J<|vi i) ⋯):=()
def af9(r: -12<=i/\i<32)(f:t.length<=60)(c:∀w:ah,w.length<=200->k w):DB i t k:=by
 have e:=jg r;have l1:cM "no block "<=20:=by decide+kernel
 have l2:cM " at the end of "<=20:=by decide+kernel
 exact have l:=dF l1 e;have p:=dF l l2;nW z8 (eA l1 e {}<|eA l l2 {}<|eA p f {}<|c _<|aG (dF p f) {})
def af_(N:mP e\/e= .ce J)(hw:L.length<=60)(hb:p.length<=2)(u:(rD e).any (eB p.length)=j->P (.ret<|.fz .none) ⋯)(q1:(rD e).any (eB p.length)=D->∀w:ah,w.length<=200->P (.exc w) ⋯):am tab (n+2) 191 [.fz (ba Z np J sl p x),.fz (ch t ⟨bo,e⟩),.fz (.str L)] [] P:=by
 have hf:∀i∈rD e,-12<=i/\i<32:=by
  intro i O;cases e with
  |ce=>contradiction
  |jH=>calc U (eO O);exact⟨{},{}⟩
  |branch g=>
   have hg:g=0\/g=1:=N.elim id λh=>by injection h
   cases O with|head=>lia|tail _ h=>calc U (eO h);exact⟨{},{}⟩
  |table low c g Q=>
   have hg:(g=0\/g=1)/\(Q=0\/Q=1\/Q=2\/Q= -1):=N.elim (λh=>h.2) λh=>by injection h
   rcases i7.mp O with h|h
   ·calc U ((Ls.mp h).2);lia
   ·calc U (eO h);lia
 have OD:∀x3 B E,ao (Ph (am tab<|n+1) 0) (tm 5) (j8 (ba Z np J sl p x) (ch t ⟨bo,e⟩) L x3 B E z) ⋯ (runK P):=by
  intro x3 B E;refine af7.mpr<|OC (N.imp id λh=>⟨_,h⟩) ?_;have:∀(l:G M) x6,(∀i∈l,-12<=i/\i<32)->(l.any (eB p.length)=j->P (.ret<|.fz .none) ⋯)->(l.any (eB p.length)=D->∀w:ah,w.length<=200->P (.exc w) ⋯)->
    bj (aS (Ph (am tab<|n+1) 0) (.var 6) HW) (bP l) (j8 (ba Z np J sl p x) (ch t ⟨bo,e⟩) L x3 B E x6) ⋯ λo ρ f=>cf o ρ f (λρ f=>ao (Ph (am tab<|n+1) 0) [] ρ f (runK P)) (runK P):=by
   intro l
   induction l with
   |nil=>intro x6 _ u _;exact dL<|aF<|gw<|u C
   |cons i l ih=>
    intro x6 h u q1
    have O:=h i<|.head _
    refine cz<|af8.mpr ?_
    rw[B3]at u q1
    have r:eB p.length i=D->DB i L λw=>P (.exc w) ⋯:=λhb=>af9 O hw λw hw=>q1 (by calc U hb;rfl) w hw
    delta eB at r
    revert r;refine bX (aa<|0<=i) (λh1 r=>?_) λ_ r=>?_
    ·
     refine aE (cy (by lia)) ?_
     revert r;refine bX (aa<|i<(p.length:M)) (λh2 r=>?_) λ_ r=>?_
     ·
      have hnb:eB p.length i=j:=by delta eB;refine U h1<|U h2 ?_;rfl
      rw[hnb,T_]at u q1
      exact b6<|ih _ (λy hy=>h y<|.tail _ hy) u q1
     ·exact r C
    ·exact r C
  exact this (rD e) z hf u q1
 have R:∀(op:ah)(d:M)(args:G F)(m:F) B,(∀a∈args,o_ x a)->ao (Ph (am tab<|n+1) 0) (tm 4) (j8 (ba Z np J sl p x) (ch t ⟨bo,e⟩) L (vf<|cj op d args m) B z z) ⋯ (runK P):=by
  intro op d args m B ha;refine bq (s:=DA 4) (r:=tm 5) C<|af5.mpr ?_;have:∀(Y:G F) E,(∀a∈Y,o_ x a)->bj (aS (Ph (am tab<|n+1) 0) (.var 5) HV) Y (j8 (ba Z np J sl p x) (ch t ⟨bo,e⟩) L (vf<|cj op d args m) B E z) ⋯
    λo ρ f=>cf o ρ f (λρ f=>ao (Ph (am tab<|n+1) 0) (tm 5) ρ f<|runK P) (runK P):=by
   intro Y
   induction Y with|nil=>intro E _;exact dL<|aF<|OD _ _ _|cons a Y ih=>intro E h;exact cz<|af6.mpr<|OA (h a<|.head _)<|aF<|gw<|b6<|ih _ λy hy=>h y<|.tail _ hy
  exact this args z ha
 have k1:∀k:M,0<=k/\k<=4294967295->∀a∈[bU k],o_ x a:=λk hk a ha=>by calc U (eO ha);exact .inr<|aT k C hk
 calc afZ.mpr;clear u q1 hf OD;cases e with
 |ce ve=>
  have e:ve=J:=N.elim (λh=>h.elim) λh=>by injection h
  clear N;subst e;cases ve with|true=>exact af0.mpr<|R _ _ _ _ _<|k1 3 ⟨{},{}⟩|false=>exact af1.mpr<|R _ _ _ _ _ λ_ h=>absurd h gk
 |jH=>exact af2.mpr<|R _ _ _ _ _ λ_ h=>absurd h gk
 |branch g=>exact af3.mpr<|R _ _ _ _ _<|k1 1 ⟨{},{}⟩
 |table low c g Q=>exact af4.mpr<|R _ _ _ _ _<|k1 1 ⟨{},{}⟩
end
noncomputable abbrev Ax(k:aj):S:=F0.body.getD k .brk
noncomputable abbrev mn(k:aj):G S:=F0.body.drop k
noncomputable def j9:G S:=MZ<|Ax 3
noncomputable abbrev vg(k:aj):S:=j9.getD k .brk
noncomputable def xJ:G S:=dQ<|vg 2
noncomputable def xK:G S:=dQ<|vg 3
noncomputable abbrev eE(u:F)(c L p m:ar V):Rho:=[vf u,q (.ref 0),q (.ref 1),c,L,p,m]
noncomputable def lG(l:G M):ak:=l.all λi=>aa (0<=i)&&aa (i<16)
section
variable{n:aj}{O b1 b2:F}{R:ah}{J Z t:M}{x:ak}{Q:DK}{L p m:ar V}{E B N:FObj}{r:G Sp}
def agb:am tab (n+1) 196 [.fz (ba R J x O [b1] Z)] [] P=oP (gV<|fh J) λis=>gd (is.length<=1000) (ao (Ph (am tab n) 0) (mn 3) (eE (ba R J x O [b1] Z) z z z z) #v[[.set (nH [] is)],[.int 0]]<|runK P):=()
def agc:am tab (n+1) 196 [.fz (ba R J x O [b1,b2] Z)] [] P=oP (gV<|fh J) λis=>gd (is.length<=1000) (ao (Ph (am tab n) 0) (mn 3) (eE (ba R J x O [b1,b2] Z) z z z z) #v[[.set (nH [] is),.none],[.int 0]]<|runK P):=()
def vh(c:AM)(ρ:Rho)(f:Mem)(P:ak->Mem->Prop):Prop:=WX (Ph c 0) (match Ax 3 with| .uq t _=>t|_=>.lit .none) ρ f λl f=>ja l λb=>P b f
def OE:WS (Ph c 0) (Ax 3) ρ f Q=∃n,mM (vh c) (λρ f P=>ao (Ph c 0) j9 ρ f P) n ρ f Q:=()
def xL:vh c (eE u P L p m) ⟨E:: .list f::l,[]⟩ k=k (!f.isEmpty) ⟨E:: .list f::l,[]⟩:=()
def OF:ao (Ph c 0) j9 (eE u P L p m) #v[(.set l::f),[.int 0]] Q=gd (lG l) (ao (Ph c 0) (j9.drop 2) (eE u (vi 0) (q<|.ref 2) p m) {.list (.set l::f),.list [],.set l} Q):=()
def agd:ao (Ph c 0) j9 (eE u P L p m) {.list [f,.set l],.list [.int 1],N} Q=gd (lG l) (ao (Ph c 0) (j9.drop 2) (eE u (vi 1) (q<|.ref 3) p m) {.list [f,.set l],.list [],N,.set l} Q):=()
def OG:WS (Ph c 0) (vg 2) (eE (ba R J x O (ch t ⟨r,e⟩::f) Z) (vi 0) L p m) ⟨[E,B,N],[]⟩ Q=bj (aS (Ph c 0) (.var 5) xJ) (r.map Sp.I) (eE (ba R J x O (ch t ⟨r,e⟩::f) Z) (vi 0) L p m) ⟨[E,B,N],[]⟩ Q:=()
def age:WS (Ph c 0) (vg 2) (eE (ba R J x O [b1,ch t ⟨r,e⟩] Z) (vi 1) L p m) ⟨[E,B,N,f],[]⟩ Q=bj (aS (Ph c 0) (.var 5) xJ) (r.map Sp.I) (eE (ba R J x O [b1,ch t ⟨r,e⟩] Z) (vi 1) L p m) ⟨[E,B,N,f],[]⟩ Q:=()
def agf:aS (Ph c 0) (.var 5) xJ (cj op d args f) (eE u P (q<|.ref 2) p m) ⟨[E,B,.set l],[]⟩ Q=(match aa (0<=d)with|D=>gd (l.length<1000)<|Q .next (eE u P (q<|.ref 2) (vf<|cj op d args f) m) ⟨[E,B,.set (js l d)],[]⟩|j=>Q .next (eE u P (q<|.ref 2) (vf<|cj op d args f) m) ⟨[E,B,.set l],[]⟩):=()
def agg:aS (Ph c 0) (.var 5) xJ (cj op d args f) (eE u P (q<|.ref 3) p m) ⟨[E,B,N,.set l],[]⟩ Q=(match aa (0<=d)with|D=>gd (l.length<1000)<|Q .next (eE u P (q<|.ref 3) (vf<|cj op d args f) m) ⟨[E,B,N,.set (js l d)],[]⟩|j=>Q .next (eE u P (q<|.ref 3) (vf<|cj op d args f) m) ⟨[E,B,N,.set l],[]⟩):=()
def agh:ao (Ph c 0) (j9.drop 3) (eE (ba R J x O (b::P) Z) (vi 0) L p m) ⟨[E,B,N],[]⟩ Q=c 149 [.fz b] [] (aZ [] [E,B,N] λf Y=>cW f λv=>oP (gH .plain v<|.fz .none) λu=>bj (aS (Ph c 0) (.var 6) xK) u (eE (ba R J x O (b::P) Z) (vi 0) L p m) ⟨Y,[]⟩ λo ρ l=>cf o ρ l (λρ l=>ao (Ph c 0) [] ρ l Q) Q):=()
def agi:ao (Ph (am tab<|n+1) 0) (j9.drop 3) (eE (ba R J x O (ch t ⟨r,.ce c⟩::f) Z) (vi 0) L p m) ⟨[E,B,N],[]⟩ Q=Q .next (eE (ba R J x O (ch t ⟨r,.ce c⟩::f) Z) (vi 0) L p m) ⟨[E,B,N],[]⟩:=()
def agj{c:ak}{f:FObj}:ao (Ph (am tab<|n+1) 0) (j9.drop 3) (eE (ba R J x O [b1,ch t ⟨r,.ce c⟩] Z) (vi 1) L p m) ⟨[E,B,N,f],[]⟩ Q=Q .next (eE (ba R J x O [b1,ch t ⟨r,.ce c⟩] Z) (vi 1) L p m) ⟨[E,B,N,f],[]⟩:=()
def OH:aS (Ph c 0) (.var 6) xK (.int 0) (eE u Y (q<|.ref 2) p m) {.list (.set P::f),B,.set l} Q=(match !(P.all l.contains)with|D=>False|j=>Q .next (eE u Y (q<|.ref 2) p<|vi 0) {.list (.set P::f),B,.set l}):=()
def agk:aS (Ph c 0) (.var 6) xK (.int 1) (eE u f (q<|.ref 2) p m) {.list [P,.none],.list [],.set l} Q=gd (lG l) (Q .next (eE u f (q<|.ref 2) p<|vi 1) {.list [P,.set l],.list [.int 1],.set l}):=()
def agl:aS (Ph c 0) (.var 6) xK (.int 1) (eE u f (q<|.ref 2) p m) {.list [P,.set l1],B,.set l} Q=(match !(l1.all l.contains)with|D=>False|j=>Q .next (eE u f (q<|.ref 2) p<|vi 1) {.list [P,.set l1],B,.set l}):=()
def HX:ao (Ph c 0) (mn 4) (eE u Y L p m) ⟨.list l::gl,[]⟩ (runK<|aZ [] P f)=f (.ret<|.fz<|.af l) P:=()
end
def iU(l:G M)(s:Sp):G M:=match aa (0<=s.d)with|D=>js l s.d|j=>l
def lH(l:G M)(c:G Sp):G M:=c.foldl iU l
def HY:i∈js l d↔i∈l\/i=d:=by
 delta js;refine bX (l.contains d) (λh=>?_) λ_=>?_;·have:=fW.mp h;exact⟨.inl,λx=>x.elim id λe=>e▸this⟩
 ·exact⟨λx=>(i6.mp x).symm,λx=>i6.mpr x.symm⟩
def agm(l:G M)(d:M):(js l d).length<=l.length+1:=by delta js;cases l.contains d;exact bR _;exact jV _
def agn(h:i∈l):i∈iU l s:=by delta iU;cases aa (0<=s.d)with|true=>exact HY.mpr<|.inl h|false=>exact h
def Ay(l:G M)(s:Sp):(iU l s).length<=l.length+1:=by delta iU;cases aa (0<=s.d);exact jV _;exact agm _ _
def OI:∀(c:G Sp){l:G M},i∈l->i∈lH l c:=by intro c;induction c with|nil=>intro l h;exact h|cons s c ih=>intro l h;exact ih<|agn h
def ago:lG l=D↔∀i∈l,0<=i/\i<16:=by delta lG;rw[fc];exact⟨λh i c=>by have:=h i c;rw[ku,kt,kt]at this;exact this,λh i c=>by refine U (ku ..)<|U kt<|U kt ?_;exact h i c⟩
def agp:∀(c:G Sp){l:G M},lG l=D->(∀s∈c,s.d<16)->lG (lH l c)=D:=by
 intro c;induction c with
 |nil=>intro l h _;exact h
 |cons s c ih=>
  intro l h p;refine ih ?_ λx r=>p x<|.tail _ r;have t:=p s<|.head _;delta iU;refine bX (aa<|0<=s.d) (λf=>?_) λ_=>?_;·
   have f:=dw f;rw[ago]at h⊢;intro i m;rcases HY.mp m with m|rfl
   ·exact h i m
   ·exact⟨f,t⟩
  ·exact h
def agq:∀(c:G Sp){l:G M},(lH l c).length<=l.length+c.length:=by intro c;induction c with|nil=>intro l;exact bR _|cons s c ih=>intro l;calc U eX;exact aG (ih (l:=iU l s)) (have:=Ay l s;(by lia))
def OJ{l l':G M}(h:∀i∈l,i∈l'):l.all l'.contains=D:=fc.mpr λi c=>fW.mpr<|h i c
def OK(h:0<=c/\c<3):lG (nH [] (sW c))=D/\(nH [] (sW c)).length<=2/\(sW c).length<=1000:=by rcases sG h.1 h.2 with rfl|rfl|rfl<;>decide+kernel
section
def OL:∀(m:G Sp)(l:G M) p,l.length+m.length<1000->(∀p,Q .next (eE u r (q<|.ref 2) p t) ⟨[x,B,.set (lH l m)],[]⟩)->bj (aS (Ph c 0) (.var 5) xJ) (m.map Sp.I) (eE u r (q<|.ref 2) p t) ⟨[x,B,.set l],[]⟩ Q:=by intro m;induction m with|nil=>intro l p _ f;exact dL<|f p|cons s m ih=>intro l p E f;rw[eX]at E;refine have J:=Ay l s;have:=ih (iU l s) (vf s.I) (by lia) f;cz (agf.mpr ?_);unfold iU at this;revert this;exact bc (aa<|0<=s.d) (λthis=>aE (de (by lia))<|b6 this) λthis=>b6 this
def agr:∀(m:G Sp)(l:G M) p,l.length+m.length<1000->(∀p,Q .next (eE u r (q<|.ref 3) p t) ⟨[x,B,E,.set (lH l m)],[]⟩)->bj (aS (Ph c 0) (.var 5) xJ) (m.map Sp.I) (eE u r (q<|.ref 3) p t) ⟨[x,B,E,.set l],[]⟩ Q:=by intro m;induction m with|nil=>intro l p _ f;exact dL<|f p|cons s m ih=>intro l p J f;rw[eX]at J;refine have L:=Ay l s;have:=ih (iU l s) (vf s.I) (by lia) f;cz (agg.mpr ?_);unfold iU at this;revert this;exact bc (aa<|0<=s.d) (λthis=>aE (de (by lia))<|b6 this) λthis=>b6 this
def ags(l:0<=p/\p<3)(J:t.length<=100)(c:∀m,lG m=D->m.length<=200->f (.ret<|.fz<|.af [.set m]) u):am tab (n+2) 196 [.fz (ba L p x N [ch 0 ⟨t,.ce x⟩] O)] [] (aZ [] u f):=qO (OK l) λr B E=>agb.mpr<|U (Hc ..)<|ig (zC _)<|aE (de E)<|bq (s:=Ax 3) (r:=mn 4) C<|OE.mpr ⟨2,pR<|xL.mpr<|OF.mpr<|aE r<|bq (s:=vg 2) (r:=j9.drop 3) C<|OG.mpr (OL _ _ _ (q4) λP=>aF<|agi.mpr<|b6<|pR<|xL.mpr<|aF<|HX.mpr<|c _ r<|aG B {})⟩
def agt(R:0<=E/\E<3)(he:mP e)(hf:(rD e).any (eB 2)=j)(hl:r.length<=100)(hl2:Q.length<=100)(hd:∀s∈r,s.d<16)(c:∀p Y,lG p=D->p.length<=200->(Y= .none\/∃l1,Y= .set l1/\lG l1=D/\l1.length<=200)->f (.ret (.fz (.af [.set p,Y]))) m):am tab (n+2) 196 [.fz (ba Z E x sl [ch 0 ⟨r,e⟩,ch 1 ⟨Q,.ce x⟩] rg)] [] (aZ [] m f):=by
 refine qO (OK R) λL h2 h3=>agc.mpr<|U (Hc ..)<|ig (zC _) (aE (de h3) ?_);generalize hl0:nH [] (sW E)=p at L h2;refine have B:=agp r L hd;have hlen:=agq r (l:=p);have OM:p.all (lH p r).contains=D:=OJ λi N=>OI r N;have agu:(lH p r).all (lH p r).contains=D:=OJ λi N=>N;bq (s:=Ax 3) (r:=mn 4) C (OE.mpr ⟨3,pR (xL.mpr (OF.mpr (aE L (bq (s:=vg 2) (r:=j9.drop 3) C (OG.mpr (OL _ _ _ (q4) λJ=>aF (agh.mpr (OC (.inl he) ?_))))))))⟩);have ci:∀x3 x4 J u o,mM (vh (am tab (n+1))) (λρ l P=>ao (Ph (am tab (n+1)) 0) j9 ρ l P) 2 (eE (ba Z E x sl [ch 0 ⟨r,e⟩,ch 1 ⟨Q,.ce x⟩] rg) x3 x4 J u) {.list [.set p,.set (lH p r)],.list [.int 1],o}
   λo ρ l=>cf o ρ l (λρ l=>ao (Ph (am tab (n+1)) 0) (mn 4) ρ l (runK (aZ [] m f))) (runK (aZ [] m f)):=by
  intro x3 x4 J u o
  refine pR (xL.mpr ?_)
  refine agd.mpr (aE B ?_)
  refine bq (s:=vg 2) (r:=j9.drop 3) C (age.mpr (agr _ _ _ (by lia) λJ=>aF (agj.mpr (b6 ?_))))
  exact pR (xL.mpr (aF (HX.mpr (c _ _ L (aG h2 {}) (.inr (cN _ rfl B (by lia)))))))
 have agv:∀(t:G M) u,(∀i∈t,i=0\/i=1)->bj (aS (Ph (am tab (n+1)) 0) (.var 6) xK) (bP t) (eE (ba Z E x sl [ch 0 ⟨r,e⟩,ch 1 ⟨Q,.ce x⟩] rg) (vi 0) (q (.ref 2)) J u) {.list [.set p,.set (lH p r)],.list [.int 1],.set (lH p r)}
   λo ρ l=>cf o ρ l (λρ l=>ao (Ph (am tab (n+1)) 0) [] ρ l λo ρ l=>nK o ρ l (λρ l=>mM (vh (am tab (n+1))) (λρ l P=>ao (Ph (am tab (n+1)) 0) j9 ρ l P) 2 ρ l λo ρ l=>cf o ρ l (λρ l=>ao (Ph (am tab (n+1)) 0) (mn 4) ρ l (runK (aZ [] m f))) (runK (aZ [] m f)))
    λo ρ l=>cf o ρ l (λρ l=>ao (Ph (am tab (n+1)) 0) (mn 4) ρ l (runK (aZ [] m f))) (runK (aZ [] m f)))
    λo ρ l=>nK o ρ l (λρ l=>mM (vh (am tab (n+1))) (λρ l P=>ao (Ph (am tab (n+1)) 0) j9 ρ l P) 2 ρ l λo ρ l=>cf o ρ l (λρ l=>ao (Ph (am tab (n+1)) 0) (mn 4) ρ l (runK (aZ [] m f))) (runK (aZ [] m f)))
    λo ρ l=>cf o ρ l (λρ l=>ao (Ph (am tab (n+1)) 0) (mn 4) ρ l (runK (aZ [] m f))) (runK (aZ [] m f)):=by
  intro t
  induction t with
  |nil=>intro u _;exact dL (aF (gw (b6 (ci _ _ _ _ _))))
  |cons i t ih=>
   intro u h
   have ih:=ih (vi i) λy O=>h y (.tail _ O)
   rcases h i (.head _)with rfl|rfl
   ·exact cz (OH.mpr (U OM<|b6 ih))
   ·exact cz (agl.mpr (U agu<|b6 ih))
 have agw:∀(t:G M) u,(∀i∈t,i=0\/i=1)->bj (aS (Ph (am tab (n+1)) 0) (.var 6) xK) (bP t) (eE (ba Z E x sl [ch 0 ⟨r,e⟩,ch 1 ⟨Q,.ce x⟩] rg) (vi 0) (q (.ref 2)) J u) {.list [.set p,.none],.list [],.set (lH p r)}
   λo ρ l=>cf o ρ l (λρ l=>ao (Ph (am tab (n+1)) 0) [] ρ l λo ρ l=>nK o ρ l (λρ l=>mM (vh (am tab (n+1))) (λρ l P=>ao (Ph (am tab (n+1)) 0) j9 ρ l P) 2 ρ l λo ρ l=>cf o ρ l (λρ l=>ao (Ph (am tab (n+1)) 0) (mn 4) ρ l (runK (aZ [] m f))) (runK (aZ [] m f)))
    λo ρ l=>cf o ρ l (λρ l=>ao (Ph (am tab (n+1)) 0) (mn 4) ρ l (runK (aZ [] m f))) (runK (aZ [] m f)))
    λo ρ l=>nK o ρ l (λρ l=>mM (vh (am tab (n+1))) (λρ l P=>ao (Ph (am tab (n+1)) 0) j9 ρ l P) 2 ρ l λo ρ l=>cf o ρ l (λρ l=>ao (Ph (am tab (n+1)) 0) (mn 4) ρ l (runK (aZ [] m f))) (runK (aZ [] m f)))
    λo ρ l=>cf o ρ l (λρ l=>ao (Ph (am tab (n+1)) 0) (mn 4) ρ l (runK (aZ [] m f))) (runK (aZ [] m f)):=by
  intro t
  induction t with
  |nil=>exact λu _=>dL (aF (gw (b6 (pR (xL.mpr (aF (HX.mpr (c _ _ L (aG h2 {}) (.inl C)))))))))
  |cons i t ih=>
   intro u h
   rcases h i (.head _)with rfl|rfl
   ·exact cz (OH.mpr (U OM<|b6 (ih (vi 0) λy O=>h y (.tail _ O))))
   ·exact cz (agk.mpr (aE B (b6 (agv t _ λy O=>h y (.tail _ O)))))
 refine agw _ _ λi N=>?_;have:=arB.mp hf i N;unfold eB at this;simp only[Cb,ak.and_eq_false_imp,Classical.not_imp,ak.not_eq_false,kt]at this;exact r2 (And.left ‹_›) (And.right ‹_›)
end
abbrev lI(k:aj):S:=F2.body.getD k .brk
abbrev pb(k:aj):G S:=F2.body.drop k
def tr:G S:=dQ<|lI 3
abbrev HZ(k:aj):S:=tr.getD k .brk
def H0:G S:=dQ<|HZ 2
def vj:G S:=uR<|(dQ<|lI 5).getD 0 .brk
def xM:G S:=dQ<|lI 5
abbrev DE(k:aj):S:=vj.getD k .brk
def rF:G S:=dQ<|DE 2
def DF:G S:=dQ<|Mk.body.getD 0 .brk
abbrev cC(f:F)(p B x J r u Z O x9:ar V):Rho:=[vf f,p,B,x,J,r,u,Z,O,x9]
section
variable{c:AM}{P a:F}{E:ah}{l L t m:M}{R:ak}{N:G F}{Q:DK}{p B x J r u Z O x9:ar V}{bo:G Sp}{e:En}
def ON:am tab (n+1) 210 [.fz (ba E l R P (b::N) L)] [] f=ao (Ph (am tab n) 0) (pb 1) (cC (ba E l R P (b::N) L) z z z z z z z z z) ⋯ (runK f):=()
def agx:WS (Ph c 0) (lI 1) (cC (ba E 0 R P N L) z z z z z z z z z) ⋯ Q=Q .next (cC (ba E 0 R P N L) z z z z z z z z z) ⋯:=()
def agy:WS (Ph c 0) (lI 1) (cC (ba E 1 R P N L) z z z z z z z z z) ⋯ Q=(match !aa (0<L)with|D=>b8 "no param in " E λw=>Q (.exc w) (cC (ba E 1 R P N L) (vi 0) z z z z z z z z) ⋯|j=>Q .next (cC (ba E 1 R P N L) (vi 0) z z z z z z z z) ⋯):=()
def agz:WS (Ph c 0) (lI 1) (cC (ba E 2 R P N L) z z z z z z z z z) ⋯ Q=(match !aa (0<L)with|D=>b8 "no param in " E λw=>Q (.exc w) (cC (ba E 2 R P N L) (vi 0) z z z z z z z z) ⋯|j=>match !aa (1<L)with|D=>b8 "no param in " E λw=>Q (.exc w) (cC (ba E 2 R P N L) (vi 1) z z z z z z z z) ⋯|j=>Q .next (cC (ba E 2 R P N L) (vi 1) z z z z z z z z) ⋯):=()
def agA:WS (Ph c 0) (lI 2) (cC (ba E l R (bT Y f) N L) p z z z z z z z z) ⋯ Q=(match aa (Y<1)with|D=>b8 "no slot in " E λw=>Q (.exc w) (cC (ba E l R (bT Y f) N L) p (vi Y) (vi 4) z z z z z z) ⋯|j=>match aa (f<1)with|D=>b8 "no slot in " E λw=>Q (.exc w) (cC (ba E l R (bT Y f) N L) p (vi f) (vi 1) z z z z z z) ⋯|j=>Q .next (cC (ba E l R (bT Y f) N L) p (vi f) (vi 1) z z z z z z) ⋯):=()
def OO:WS (Ph c 0) (lI 3) (cC (ba E l R P N L) p B x z z z z z z) ⋯ Q=bj (aS (Ph c 0) (.ai [.var 4,.var 5]) tr) (numbered 0 N) (cC (ba E l R P N L) p B x z z z z z z) ⋯ Q:=()
def agB:aS (Ph c 0) (.ai [.var 4,.var 5]) tr (.ai [.int t,ch m ⟨bo,e⟩]) (cC (ba E l R P N L) p B x J r u Z O x9) ⋯ Q=b8 E " block " λa=>jL t λs=>b8 a s λw=>match !(m==t)with|D=>b8 "number of " w λf=>Q (.exc f) (cC (ba E l R P N L) p B x (vi t) (vf<|ch m ⟨bo,e⟩) (vf<|.str w) Z O x9) ⋯|j=>ao (Ph c 0) (tr.drop 2) (cC (ba E l R P N L) p B x (vi t) (vf<|ch m ⟨bo,e⟩) (vf<|.str w) Z O x9) ⋯ Q:=()
def agC:WS (Ph c 0) (HZ 2) (cC f p B x J (vf<|ch m ⟨bo,e⟩) u Z O x9) ⋯ Q=bj (aS (Ph c 0) (.var 7) H0) (bo.map Sp.I) (cC f p B x J (vf<|ch m ⟨bo,e⟩) u Z O x9) ⋯ Q:=()
def agD:aS (Ph c 0) (.var 7) H0 zl (cC Y p B x J r (vf<|.str wh) Z O x9) ⋯ Q=c 184 [.fz Y,.fz zl,.fz (.str wh)] [] (aZ [] [] λz0 fl=>cf (oN z0) (cC Y p B x J r (vf<|.str wh) (vf zl) O x9) ⟨fl,[]⟩ (λρ ze=>ao (Ph c 0) [] ρ ze Q) Q):=()
def agE:ao (Ph c 0) (tr.drop 3) (cC f p B x J (vf b) (vf<|.str wh) Z O x9) ⋯ Q=c 191 [.fz f,.fz b,.fz (.str wh)] [] (aZ [] [] λY fl=>cf (oN Y) (cC f p B x J (vf b) (vf<|.str wh) Z O x9) ⟨fl,[]⟩ (λρ z0=>ao (Ph c 0) [] ρ z0 Q) Q):=()
def OP:WS (Ph c 0) (lI 4) (cC f p B x J r u Z z z) ⋯ Q=c 196 [.fz f] [] (aZ [] [] λY fl=>cW Y λv=>ez (Ph c 0) (.v<|.var 8) v (cC f p B x J r u Z z z) ⟨fl,[]⟩ λρ z0=>Q .next ρ z0):=()
def OQ:ao (Ph c 0) (pb 5) (cC (ba E l R P N L) p B x J r u Z O z) ⋯ Q=bj (aS (Ph c 0) (.ai [.var 4,.var 5]) xM) (numbered 0 N) (cC (ba E l R P N L) p B x J r u Z O z) ⋯ λo ρ f=>cf o ρ f (λρ f=>ao (Ph c 0) [] ρ f Q) Q:=()
abbrev OR(c:AM)(Q:DK):DK:=λo ρ f=>cf o ρ f (λρ f=>ao (Ph c 0) [] ρ f Q) Q
def agF:aS (Ph c 0) (.ai [.var 4,.var 5]) xM (.ai [.int 0,b]) (cC (ba E l R P N L) p B x J r u Z (vf<|.af<|.set f::Y) x9) ⋯ Q=gd (lG f) (b8 E " block " λa=>jL 0 λs=>b8 a s λw=>ao (Ph c 0) (vj.drop 2) (cC (ba E l R P N L) p B x (vi 0) (vf b) (vf<|.str w) Z (vf<|.af<|.set f::Y)<|q<|.ref 0) {.set f} (OR c Q)):=()
def agG:aS (Ph c 0) (.ai [.var 4,.var 5]) xM (.ai [.int 1,b]) (cC (ba E l R P N L) p B x J r u Z (vf<|.af [Y,.set f]) x9) ⟨[o0],[]⟩ Q=gd (lG f) (b8 E " block " λa=>jL 1 λs=>b8 a s λw=>ao (Ph c 0) (vj.drop 2) (cC (ba E l R P N L) p B x (vi 1) (vf b) (vf<|.str w) Z (vf<|.af [Y,.set f])<|q<|.ref 1) ⟨[o0,.set f],[]⟩ (OR c Q)):=()
def agH:aS (Ph c 0) (.ai [.var 4,.var 5]) xM (.ai [.int 1,b]) (cC (ba E l R P N L) p B x J r u Z (vf<|.af [f,.none]) x9) ⟨[Y],[]⟩ Q=Q .next (cC (ba E l R P N L) p B x (vi 1) (vf b) u Z (vf<|.af [f,.none]) x9) ⟨[Y],[]⟩:=()
def OS:WS (Ph c 0) (DE 2) (cC f p B x J (vf<|ch m ⟨bo,e⟩) u Z O x9) ⟨Y,[]⟩ Q=bj (aS (Ph c 0) (.var 7) rF) (bo.map Sp.I) (cC f p B x J (vf<|ch m ⟨bo,e⟩) u Z O x9) ⟨Y,[]⟩ Q:=()
def agI:aS (Ph c 0) (.var 7) rF (cj op d args more) (cC f p B x J r (vf<|.str wh) Z O<|q<|.ref 0) {.set Y} Q=c 203 [.fz (.af args),.ref 0,.fz (.str wh)] [.set Y] (aZ [0] [.set Y] λz0 fl=>cf (oN z0) (cC f p B x J r (vf<|.str wh) (vf<|cj op d args more) O<|q<|.ref 0) ⟨fl,[]⟩ (λρ ze=>ao (Ph c 0) (rF.drop 1) ρ ze Q) Q):=()
def agJ:aS (Ph c 0) (.var 7) rF (cj op d args more) (cC f p B x J r (vf<|.str wh) Z O<|q<|.ref 1) ⟨[o0,.set Y],[]⟩ Q=c 203 [.fz (.af args),.ref 0,.fz (.str wh)] [.set Y] (aZ [1] [o0,.set Y] λz0 fl=>cf (oN z0) (cC f p B x J r (vf<|.str wh) (vf<|cj op d args more) O<|q<|.ref 1) ⟨fl,[]⟩ (λρ ze=>ao (Ph c 0) (rF.drop 1) ρ ze Q) Q):=()
def agK:ao (Ph c 0) (rF.drop 1) (cC f p B x J r u (vf<|cj op d args more) O<|q<|.ref 0) {.set Y} Q=(match aa (0<=d)with|D=>gd (Y.length<1000)<|Q .next (cC f p B x J r u (vf<|cj op d args more) O<|q<|.ref 0) {.set (js Y d)}|j=>Q .next (cC f p B x J r u (vf<|cj op d args more) O<|q<|.ref 0) {.set Y}):=()
def agL:ao (Ph c 0) (rF.drop 1) (cC f p B x J r u (vf<|cj op d args more) O<|q<|.ref 1) ⟨[o0,.set Y],[]⟩ Q=(match aa (0<=d)with|D=>gd (Y.length<1000)<|Q .next (cC f p B x J r u (vf<|cj op d args more) O<|q<|.ref 1) ⟨[o0,.set (js Y d)],[]⟩|j=>Q .next (cC f p B x J r u (vf<|cj op d args more) O<|q<|.ref 1) ⟨[o0,.set Y],[]⟩):=()
def agM:ao (Ph c 0) (vj.drop 3) (cC f p B x J (vf<|ch m ⟨bo,e⟩) (vf<|.str wh) Z O<|q<|.ref 0) {.set Y} Q=c 203 [.fz (.af e.args),.ref 0,.fz (.str wh)] [.set Y] (aZ [0] [.set Y] λz0 fl=>cf (oN z0) (cC f p B x J (vf<|ch m ⟨bo,e⟩) (vf<|.str wh) Z O<|q<|.ref 0) ⟨fl,[]⟩ (λρ ze=>ao (Ph c 0) [] ρ ze Q) Q):=()
def agN:ao (Ph c 0) (vj.drop 3) (cC f p B x J (vf<|ch m ⟨bo,e⟩) (vf<|.str wh) Z O<|q<|.ref 1) ⟨[o0,.set Y],[]⟩ Q=c 203 [.fz (.af e.args),.ref 0,.fz (.str wh)] [.set Y] (aZ [1] [o0,.set Y] λz0 fl=>cf (oN z0) (cC f p B x J (vf<|ch m ⟨bo,e⟩) (vf<|.str wh) Z O<|q<|.ref 1) ⟨fl,[]⟩ (λρ ze=>ao (Ph c 0) [] ρ ze Q) Q):=()
abbrev vk(args:G F)(f:ah)(x J:ar V):Rho:=[vf (.af args),q (.ref 0),vf (.str f),x,J]
def agO:am tab (n+1) 203 [.fz (.af args),.ref 0,.fz (.str wh)] [.set f] Y=bj (aS (Ph (am tab n) 1) (.ai [.var 3,.var 4]) DF) args (vk args wh z z) {.set f} λo ρ z0=>cf o ρ z0 (λρ z0=>ao (Ph (am tab n) 1) [] ρ z0 (runK Y)) (runK Y):=()
def agP:aS (Ph c 1) (.ai [.var 3,.var 4]) DF (b0 f) (vk args wh x J) {.set Y} Q=(match !Y.contains f with|D=>jL f λa=>b8 "register " a λa=>b8 a " is not set in " λa=>b8 a wh λw=>Q (.exc w) (vk args wh (vf<|.str "r")<|vi f) {.set Y}|j=>Q .next (vk args wh (vf<|.str "r")<|vi f) {.set Y}):=()
def agQ:aS (Ph c 1) (.ai [.var 3,.var 4]) DF (bU f) (vk args wh x J) {.set Y} Q=Q .next (vk args wh (vf<|.str "k")<|vi f) {.set Y}:=()
end
def Az(s:Sp)(l:G M):Prop:=∀i,b0 i∈s.k.args->i∈l
def pd:G M->G Sp->Prop|_,[]=>True|l,s::r=>Az s l/\pd (iU l s) r
def OT(h:s∈l):Az ⟨d,ck s k t⟩ l:=by
 intro i c;have f:∀{i},b0 i=b0 s->i∈l:=λe=>by cases e;exact h
 have p:∀{i k},b0 i≠bU k:=λ{i k} e=>absurd (show cV "r"=cV "k" by injection e with e;injection e with e;injection e) (by decide+kernel);have r:b0 i∈[bU (jd k),b0 s]->i∈l:=λh=>by cases h with|tail _ h=>exact f<|eO h
 have m:∀{x},b0 i∈[b0 s,bU x]->i∈l:=λ{x} h=>by cases h with|head=>exact f C|tail _ h=>exact absurd (eO h) p
 delta ck at c;revert c;refine bc (k==0&&t==3) (λc=>?_) λc=>?_;·exact f<|eO c
 ·
  revert c;refine bc (t==1) (λc=>?_) λc=>?_;·exact r c
  ·
   revert c;refine bc (t==2) (λc=>?_) λc=>?_;·exact m c
   ·exact m c
def H1:b0 i≠bU k:=λe=>absurd (show cV "r"=cV "k" by injection e with e;injection e with e;injection e) (by decide+kernel)
def agR(h:f+2∈l):Az (dW a f) l:=by
 intro i c;have m:∀{i},b0 i=b0 (f+2)->i∈l:=λe=>by cases e;exact h
 delta dW at c;revert c;refine bc (aa<|a.bf<2) (λc=>?_) λc=>?_;·exact m<|eO c
 ·
  revert c;refine bc (aa<|a.bf<4) (λc=>?_) λc=>?_;·have c:b0 i∈[b0 (f+2),bU 9]:=c;cases c with|head=>exact m C|tail _ h=>exact absurd (eO h) H1
  ·
   revert c;refine bc (a.bf==4) (λc=>?_) λc=>?_;·have c:b0 i∈[b0 (f+2),bU 64]:=c;cases c with|head=>exact m C|tail _ h=>exact absurd (eO h) H1
   ·have c:b0 i∈[bU 64,b0 (f+2)]:=c;cases c with|tail _ h=>exact m<|eO h
def H2(h:0<=s.d):s.d∈iU l s:=by delta iU;calc U (de h);exact HY.mpr<|.inr C
def OV:∀{a b:G Sp}{l:G M},pd l a->pd (lH l a) b->pd l (a++b):=by intro a;induction a with|nil=>intro b l _ h;exact h|cons s a ih=>intro b l h c;exact⟨h.1,ih h.2 c⟩
def DG(h:∀a∈k.args,∃c,a=bU c):Az ⟨d,k⟩ l:=λi f=>by obtain⟨c,e⟩:=h _ f;exact absurd e H1
def agS(p:0<=f)(g:Gr)(l:G M):pd l (g.bo f):=by
 cases g with
 |acc a=>
  show pd l ([⟨f,.slot a.aK⟩,⟨f+1,ck f a.br a.first⟩,⟨f+2,ck (f+1) (a.place-a.br) a.ci⟩]++im a f++[dW a f]);refine U (cZ ..)<|have r:=H2 (l:=l) (s:=⟨f,.slot a.aK⟩) p;have t:=H2 (l:=iU l ⟨f,.slot a.aK⟩) (s:=⟨f+1,ck f a.br a.first⟩)<|Lk ‹_›;have u:=H2 (l:=iU (iU l ⟨f,.slot a.aK⟩) ⟨f+1,ck f a.br a.first⟩) (s:=⟨f+2,ck (f+1) (a.place-a.br) a.ci⟩)<|wm ‹_› {};(nB (DG λ_ h=>absurd h gk) (OT r) (OT t)<|OV (a:=im a f) ?_ ⟨agR<|OI _ u,trivial⟩);delta im;refine bc a.again ?_ ?_;·exact⟨DG λx m=>⟨7,eO m⟩,trivial⟩
  ·trivial
 |call c=>exact⟨DG λx m=>⟨c.k,(Ls.mp m).2⟩,trivial⟩
 |name B k=>exact⟨DG λ_ h=>absurd h gk,trivial⟩
def H3:∀(c:G Gr)(f:M)(l:G M),0<=f->pd l (bQ f c):=by intro c;induction c with|nil=>intro f l _;trivial|cons g c ih=>intro f l m;exact OV (agS m g l)<|ih (f+4) _<|wm ‹_› {}
def tu(h:0<=r/\r<c):o_ c (b0 r):=.inl (aT r C h)
def AA(h:0<=k/\k<=4294967295):o_ c (bU k):=.inr (aT k C h)
def H4{P:F->Prop}(h:P x):∀a∈[x],P a:=λa m=>by calc U (eO m);exact h
def xN{P:F->Prop}(h:P x)(c:P y):∀a∈[x,y],P a:=λa m=>by cases m with|head=>exact h|tail _ m=>calc U (eO m);exact c
def H5(k:M):0<=jd k/\jd k<=4294967295:=by calc U (GX ..);lia
def OW(c:0<=s/\s<l)(f:0<=d/\d<l):pa l ⟨d,ck s k t⟩:=MH (P:=λk=>pa l ⟨d,k⟩) ⟨H4<|tu c,f⟩ ⟨xN (AA<|H5 _)<|tu c,f⟩ ⟨xN (tu c)<|AA<|H5 _,f⟩ ⟨xN (tu c)<|AA<|H5 _,f⟩
def agT(L:0<=f)(N:f+4<=l)(h:uA R f g):∀s∈g.bo f,pa l s:=by have B:∀i:M,0<=i->i<4->0<=f+i/\f+i<l:=λi a b=>⟨wm L a,ou (yQ b f) N⟩;have r:0<=f/\f<l:=⟨L,ou (Ua f {}) N⟩;have E:=B 1 {} {};have d2:=B 2 {} {};have t:=B 3 {} {};have O:∀a∈([]:G F),o_ l a:=λ_ h=>absurd h gk;cases g with|acc a=>exact have P:jG a:=h;have u:=P.dc;have J:∀k:M,0<=k->k<=4294967295->o_ l (bU k):=λk a b=>AA ⟨a,b⟩;have Y:=J 9 {} {};have p:=J 64 {} {};GC (cr O P.aK r) (OW r E) (OW E d2) ⟨H4<|J 7 {} {},E⟩ (GB (P:=pa l) (cr (H4<|tu d2) u t) (cr (xN (tu d2) Y) u C) (cr (xN (tu d2) p) u C)<|cr (xN p<|tu d2) u C)|call c=>exact have x:zE R (f+3) c:=h;have Q: -1<=c.fR/\c.fR<l:=x.fR.elim (λe=>U (P:=λd=> -1<=d/\d<l) e ⟨ft {} t.1,t.2⟩) λe=>U (P:=λd=> -1<=d/\d<l) e ⟨{},ou {}<|ft r.1<|qE r.2⟩;qG.mpr (nB (λa m=>U ((Ls.mp m).2)<|AA ⟨x.k.1,ft x.k.2 {}⟩) x.n Q.1 Q.2)|name Z k=>exact qG.mpr ⟨O,t⟩
def H6:∀(c:G Gr)(f:M),0<=f->f+4*c.length<=m->fi x f c->∀s∈bQ f c,pa m s:=by
 intro c;induction c with
 |nil=>intro f _ _ _ s h;contradiction
 |cons g c ih=>
  intro f p r h s l;rw[eX]at r;cases h with
  |cons t u=>
   rcases i7.mp l with l|l
   ·exact agT p (by lia) t s l
   ·exact ih (f+4) (by lia) (by lia) u s l
def agU(h:mP e):(rD e).any (eB 2)=xx 2 e:=by
 cases e with
 |ce=>exact h.elim
 |jH=>decide+kernel
 |branch g=>have h:g=0\/g=1:=h;rcases h with rfl|rfl<;>decide+kernel
 |table=>rfl
section
variable{l:G M}
def DH(h:∀a∈args,(∃r,a=b0 r/\r∈l)\/∃k,a=bU k)(c:P (.ret<|.fz .none) {.set l}):am tab (n+1) 203 [.fz (.af args),.ref 0,.fz (.str u)] [.set l] P:=by
 calc agO.mpr;have:∀(m:G F) p t,(∀a∈m,(∃r,a=b0 r/\r∈l)\/∃k,a=bU k)->bj (aS (Ph (am tab n) 1) (.ai [.var 3,.var 4]) DF) m (vk args u p t) {.set l} λo ρ f=>cf o ρ f (λρ f=>ao (Ph (am tab n) 1) [] ρ f (runK P)) (runK P):=by
  intro m;induction m with
  |nil=>intro p t _;exact dL<|aF<|gw c
  |cons a m ih=>
   intro p t h;have ih:=λp t=>ih p t λy x=>h y<|.tail _ x;rcases h a (.head _)with⟨r,rfl,B⟩|⟨k,rfl⟩
   ·exact cz<|agP.mpr<|U (fW.mpr B)<|b6<|ih _ _
   ·exact cz<|agQ.mpr<|b6<|ih _ _
 exact this args z z h
def OX(h:Az s l):∀a∈s.k.args,(∃r,a=b0 r/\r∈l)\/∃k,a=bU k:=λa c=>by
 rcases G1 s.k a c with⟨r,rfl⟩|f
 ·exact .inl<|aT r C<|h r c
 ·exact .inr f
def OY(e:En):∀a∈e.args,(∃r,a=b0 r/\r∈l)\/∃k,a=bU k:=by
 intro a c;cases e with
 |ce f=>cases f with|true=>exact .inr ⟨3,eO c⟩|false=>contradiction
 |jH=>cases c
 |branch=>exact .inr ⟨1,eO c⟩
 |table=>exact .inr ⟨1,eO c⟩
def agV:∀(f:G Sp)(l:G M) m,pd l f->l.length+f.length<1000->(∀m,Q .next (cC u r t x B E (vf<|.str J) m L<|q<|.ref 0) {.set (lH l f)})->bj (aS (Ph (am tab<|n+1) 0) (.var 7) rF) (f.map Sp.I) (cC u r t x B E (vf<|.str J) m L<|q<|.ref 0) {.set l} Q:=by intro f;induction f with|nil=>intro l m _ _ c;exact dL<|c m|cons s f ih=>intro l m p N c;rw[eX]at N;refine have O:=Ay l s;have ih:=ih (iU l s) (vf s.I) p.2 (by lia) c;cz (agI.mpr<|DH (OX p.1)<|aF<|agK.mpr ?_);unfold iU at ih;revert ih;exact bc (aa<|0<=s.d) (λih=>aE (de (by lia))<|b6 ih) λih=>b6 ih
def agW:∀(f:G Sp)(l:G M) m,pd l f->l.length+f.length<1000->(∀m,Q .next (cC u r t x B E (vf<|.str J) m L<|q<|.ref 1) ⟨[N,.set (lH l f)],[]⟩)->bj (aS (Ph (am tab<|n+1) 0) (.var 7) rF) (f.map Sp.I) (cC u r t x B E (vf<|.str J) m L<|q<|.ref 1) ⟨[N,.set l],[]⟩ Q:=by intro f;induction f with|nil=>intro l m _ _ c;exact dL<|c m|cons s f ih=>intro l m p O c;rw[eX]at O;refine have P:=Ay l s;have ih:=ih (iU l s) (vf s.I) p.2 (by lia) c;cz (agJ.mpr<|DH (OX p.1)<|aF<|agL.mpr ?_);unfold iU at ih;revert ih;exact bc (aa<|0<=s.d) (λih=>aE (de (by lia))<|b6 ih) λih=>b6 ih
def H7(f:r∈allNames)(u: -12<=t/\t<32)(c:∀w:ah,w.length<=60->k w):b8 r " block " λa=>jL t λs=>b8 a s k:=have m:=jg u;have p:=dF (fT _ f) (by decide+kernel:cM " block "<=20);eA (fT _ f) (by decide+kernel:cM " block "<=20) {} (nW (z8)<|eA p m {}<|c _<|aG (dF p m) {})
def OZ(E:r∈allNames)(J:lG l=D)(m:l.length+t.length<1000)(L:pd l t)(c:∀u x B p o,Q .next (cC (ba r N O P R Y) Z x2 x3 u x B p (vf<|.af<|.set l::ks)<|q<|.ref 0) ⟨[o],[]⟩):aS (Ph (am tab<|n+1) 0) (.ai [.var 4,.var 5]) xM (.ai [.int 0,ch f ⟨t,e⟩]) (cC (ba r N O P R Y) Z x2 x3 u x B p (vf<|.af<|.set l::ks) x9) ⋯ Q:=agF.mpr<|aE J (H7 E ⟨{},{}⟩ λw _=>bq (s:=DE 2) (r:=vj.drop 3) C<|OS.mpr<|agV _ _ _ L m λp=>aF<|agM.mpr<|DH (OY e)<|aF<|gw<|aF<|gw<|c _ _ _ _ _)
def agX(E:r∈allNames)(J:lG l=D)(m:l.length+t.length<1000)(L:pd l t)(c:∀u x B p o,Q .next (cC (ba r N O P R Y) Z x2 x3 u x B p (vf<|.af [k0,.set l])<|q<|.ref 1) ⟨[o0,o],[]⟩):aS (Ph (am tab<|n+1) 0) (.ai [.var 4,.var 5]) xM (.ai [.int 1,ch f ⟨t,e⟩]) (cC (ba r N O P R Y) Z x2 x3 u x B p (vf<|.af [k0,.set l]) x9) ⟨[o0],[]⟩ Q:=agG.mpr<|aE J (H7 E ⟨{},{}⟩ λw _=>bq (s:=DE 2) (r:=vj.drop 3) C<|OS.mpr<|agW _ _ _ L m λp=>aF<|agN.mpr<|DH (OY e)<|aF<|gw<|aF<|gw<|c _ _ _ _ _)
def H8(hn:u∈allNames)(ht:0<=t/\t<3)(vl:∀s∈x,pa r s)(he:mP e\/e= .ce B)(hb:m.length<=2)(q0:(rD e).any (eB m.length)=j->∀E J L f,Q .next (cC (ba u N B (bT O P) m r) R Y Z E J L f x8 x9) ⋯)(q1:(rD e).any (eB m.length)=D->∀w:ah,w.length<=200->∀ρ,Q (.exc w) ρ ⋯):aS (Ph (am tab<|n+2) 0) (.ai [.var 4,.var 5]) tr (.ai [.int t,ch t ⟨x,e⟩]) (cC (ba u N B (bT O P) m r) R Y Z E J L f x8 x9) ⋯ Q:=by
 refine agB.mpr (H7 hn ⟨by exact z5,by exact z3⟩ λw hw=>U (jB ..)<|bq (s:=HZ 2) (r:=tr.drop 3) C<|agC.mpr ?_);have:∀(p:G Sp) f,(∀s∈p,pa r s)->bj (aS (Ph (am tab<|n+2) 0) (.var 7) H0) (p.map Sp.I) (cC (ba u N B (bT O P) m r) R Y Z (vi t) (vf<|ch t ⟨x,e⟩) (vf<|.str w) f x8 x9) ⋯
   λo ρ c=>cf o ρ c (λρ c=>ao (Ph (am tab<|n+2) 0) (tr.drop 3) ρ c Q) Q:=by
  intro p
  induction p with|nil=>exact λf _=>dL<|aF<|agE.mpr<|af_ he hw hb (λh=>aF<|gw<|q0 h _ _ _ _) λh w' eR=>q1 h w' eR _|cons s p ih=>intro f h;exact cz<|agD.mpr<|afV (h s<|.head _)<|aF<|gw<|b6<|ih _ λy hy=>h y<|.tail _ hy
 exact this x f vl
end
section
def O_(m:0<=p/\p<3)(R:p<=l)(x:pT t u)(f:∀r L N,ao (Ph c 0) (pb 3) (cC (ba B p E (bT t u) J l) r L N z z z z z z) ⋯ Q):ao (Ph c 0) (pb 1) (cC (ba B p E (bT t u) J l) z z z z z z z z z) ⋯ Q:=by
 have two:∀r,ao (Ph c 0) (pb 2) (cC (ba B p E (bT t u) J l) r z z z z z z z z) ⋯ Q:=λr=>have O:=x.s1
 have P:=x.s2
 bq (s:=lI 2) (r:=pb 3) C (agA.mpr<|U (g9<|sp.mpr O.1)<|U (g9<|sp.mpr P.1)<|aF<|f _ _ _)
 refine bq (s:=lI 1) (r:=pb 2) C ?_
 clear f
 rcases sG m.1 m.2 with rfl|rfl|rfl
 ·exact agx.mpr<|aF<|two _
 ·exact agy.mpr<|U (de (q8:0<l))<|aF<|two _
 ·exact agz.mpr<|U (de (q8:0<l))<|U (de (q8:1<l))<|aF<|two _
def H9(f:l (.ret<|.fz .none) p):cf .next ρ m (λρ m=>ao (Ph c 0) [] ρ m (runK<|aZ [] p l)) (runK<|aZ [] p l):=aF<|gw f
def agY(r:x∈allNames)(l:0<=m/\m<3)(B:pT E J)(L:m<=t)(N:∀s∈bQ m p,pa t s)(u:(bQ m p).length<=20)(c:f (.ret<|.fz .none) O):am tab (n+3) 210 [.fz (ba x m P (bT E J) [ch 0 ⟨bQ m p,.ce P⟩] t)] [] (aZ [] O f):=ON.mpr (O_ l L B λx1 x2 x3=>bq (s:=lI 3) (r:=pb 4) C<|OO.mpr<|cz (H8 (t:=0) r ⟨{},{}⟩ N (.inr C) (by show 1<=2;decide) (λ_ Q R Y Z=>b6<|dL<|aF<|bq (s:=lI 4) (r:=pb 5) C<|OP.mpr<|ags l (q1) λl0 h0 h1=>aF<|OQ.mpr<|cz<|OZ (n:=n+1) r h0 (q4) (H3 p m l0 l.1) λQ R Y Z o=>b6<|dL<|H9 c) λh=>by injection h))
def agZ(r:Y∈allNames)(l:0<=f/\f<3)(Z:pT s1 s2)(hr:f<=t)(u:mP x)(vl:∀s∈bQ f m,pa t s)(B:∀s∈bQ (f+4*m.length) p,pa t s)(Q:(bQ f m).length<=20)(atN:(bQ (f+4*m.length) p).length<=20)(hd:∀s∈bQ f m,s.d<16)(E:xx 2 x=j->c (.ret<|.fz .none) R)(q1:xx 2 x=D->∀w:ah,w.length<=200->c (.exc w) R):am tab (n+3) 210 [.fz (ba Y f hv (bT s1 s2) [ch 0 ⟨bQ f m,x⟩,ch 1 ⟨bQ (f+4*m.length) p,.ce hv⟩] t)] [] (aZ [] R c):=by
 rw[<-agU u]at E q1;refine ON.mpr (O_ l hr Z λx1 x2 x3=>bq (s:=lI 3) (r:=pb 4) C<|OO.mpr<|cz (H8 (t:=0) r ⟨{},{}⟩ vl (.inl u) (by show 2<=2;decide) (λJ L N O P=>b6<|cz (H8 (t:=1) r ⟨{},{}⟩ B (.inr C) (by show 2<=2;decide) (λ_ L N O P=>b6<|dL<|aF<|bq (s:=lI 4) (r:=pb 5) C<|OP.mpr (agt l u J (by lia) (by lia) hd λl0 k1 h0 h1 hk=>aF<|OQ.mpr<|cz<|OZ (n:=n+1) r h0 (q4) (H3 m f l0 l.1) λL N O P o=>b6 ?_)) λh=>by injection h)) λh w hw ρ=>q1 h w hw));rcases hk with rfl|⟨l1,rfl,h2,h3⟩
 ·exact cz<|agH.mpr<|b6<|dL<|H9<|E J
 ·exact cz (agX (n:=n+1) r h2 (q4) (H3 p _ l1 (by lia)) λL N O P o=>b6<|dL<|H9<|E J)
def ag1(P:eN p)(Q:u∈p.us)(L:qd u=[]->c (.ret<|.fz .none) N)(q1:qd u=[u.name++": "]->∀w:ah,w.length<=200->c (.exc w) N):am tab (n+3) 210 [.fz u.I] [] (aZ [] N c):=by
 obtain⟨x,R,O,hh⟩:=P.us u Q;have t:=xz _ x.name;have f:=x.np;have E:pT u.s1 u.s2:=⟨x.s1,x.s2⟩;obtain⟨nm,m,hv,s1,s2,bs⟩:=u;dsimp only at O t f E;cases O with
 |one B Y=>rename_i l;exact have Z:=uK l m;agY (m:=m) (p:=l) (t:=m+4*l.length) t f E (uy _) (H6 l m f.1 (B8 _) B) (by lia) (L C)
 |two B Y h3 h4 h5=>
  rename_i l J r;refine have Z:=uK l m;have hl2:=uK r<|m+4*l.length;agZ (f:=m) (m:=l) (p:=r) (x:=J) (t:=m+4*l.length+4*r.length) t f E (ft (uy _)<|uy _) h3 (H6 l m f.1 (uy _) B) (H6 r _ (ft f.1<|uy _) (B8 _) h4) (by lia) (by lia) (λs iV=>?_) (λh=>L ?_) λh w hw=>q1 ?_ w hw;·rcases GU l m B s iV with e|e<;>lia
  ·show jM _ 2 ⟨l,J⟩++[]=[];calc U (bK ..);delta jM;exact U h C
  ·show jM _ 2 ⟨l,J⟩++[]=[_];calc U (bK ..);delta jM;exact U h C
end
abbrev DI(k:aj):G S:=Gb.body.drop k
abbrev H_(k:aj):S:=Gb.body.getD k .brk
def AB:G S:=dQ<|H_ 1
def Ia:G S:=match AB.getD 0 .brk with| .ur _ _ h=>h|_=>[]
abbrev nY(u:F)(c f:ar V):Rho:=[vf u,q (.ref 0),c,f]
def Pa(c:AM)(Q:DK)(o:Out)(ρ:Rho)(f:Mem):Prop:=match o with| .exc w=>gd (3<ρ.length) (ao (Ph c 0) Ia (ρ.set 3<|q<|.exc w) f λo ρ f=>match o with| .next=>Q .next (ρ.set 3 z) f|_=>False)| .next=>Q .next ρ f| .brk=>Q .brk ρ f| .cont=>Q .cont ρ f| .ret v=>Q (.ret v) ρ f
section
variable{w:ah}
def ag2:am tab (n+1) 317 [.fz u] [] P=ao (Ph (am tab n) 0) (DI 1) (nY u z z) #v[[]] (runK P):=()
def ag3:WS (Ph c 0) (H_ 1) (nY (jJ f m p) r t) #v[l] Q=bj (aS (Ph c 0) (.var 2) AB) f (nY (jJ f m p) r t) #v[l] Q:=()
def ag4:aS (Ph c 0) (.var 2) AB f (nY u x p) #v[l] Q=c 210 [.fz f] [] (aZ [] [.list l] λr t=>cf (oN r) (nY u (vf f) p) ⟨t,[]⟩ (λρ m=>ao (Ph c 0) [] ρ m (Pa c λo ρ m=>cf o ρ m (λρ m=>ao (Ph c 0) [] ρ m Q) Q))<|Pa c λo ρ m=>cf o ρ m (λρ m=>ao (Ph c 0) [] ρ m Q) Q):=()
def ag5:ao (Ph c 0) Ia (nY u (vf<|ba f m p r x B)<|q<|.exc w) #v[l] E=b8 f ": " λa=>b8 a w λt=>gd (l.length<aM) (E .next (nY u (vf<|ba f m p r x B)<|q<|.exc w) #v[l++[.str t]]):=()
def ag6:ao (Ph c 0) (DI 2) (nY u m p) #v[l] (runK P)=(match !l.isEmpty with|D=>P (.ret<|.ref 0) #v[l]|j=>c 310 [.fz u] [] (aZ [] [.list l] λr f=>cW r λv=>P (.ret v) ⟨f,[]⟩)):=()
inductive m8:G ah->G ah->Prop
 |nil:m8 [] []
 |cons {b w ts bs}:w.length<=200->b.length<=100->m8 ts bs->m8 ((b++w)::ts) (b::bs)
def m8.zZ(h:m8 a b)(f:m8 c d):m8 (a++c) (b++d):=by induction h with|nil=>exact f|cons l m _ ih=>exact .cons l m ih
def m8.len(h:m8 a b):a.length=b.length:=by induction h with|nil=>rfl|cons _ _ _ ih=>exact az (· +1) ih
def ag7{m:G ah}(t:eN p)(B:x∈p.us)(O:f.length<=100)(c:∀m E r,m8 m (qd x)->Q .next (nY u E r) #v[bI<|f++m]):aS (Ph (am tab<|n+3) 0) (.var 2) AB x.I (nY u E r) #v[bI f] Q:=by
 refine have P:(bI f).length=f.length:=bx _;fH (t.us x B) λL N=>av N λ_ R _=>have l:=xz _ L.name;ag4.mpr (ag1 t B (λh=>?_) λh w J=>?_);·have c:=c [] (vf x.I) r (h▸ .nil);rw[bK]at c;exact c
 ·show gd (3<4) (ao (Ph (am tab<|n+3) 0) Ia (nY u (vf<|ba x.name x.np x.hv (bT x.s1 x.s2) (uJ 0 x.w_) x.uH)<|q<|.exc w) #v[bI f] _)
  refine aE {}<|ag5.mpr ?_;have l2:cM ": "<=20:=by decide+kernel
  refine eA (fT _ l) l2 {}<|eA (dF (fT _ l) l2) J {}<|aE (d_ (by lia))<|aF<|gw ?_;have c:=c [(x.name++": ")++w] (vf x.I) z (h▸ .cons J (aG (dF (fT _ l) l2) {}) .nil);rw[show bI (f++[(x.name++cV ": ")++w])=bI f++[F.str ((x.name++cV ": ")++w)]from fx]at c;exact c
def ag8(B:eN p)(Q:gi p.us=[]->c (.ret<|.fz<|.af<|b7<|pZ p) E)(q1:∀J,m8 J (gi p.us)->gi p.us≠[]->c (.ret<|.fz<|.af<|bI J) E):am tab (n+7) 317 [.fz p.I] [] (aZ [] E c):=by
 refine have R:=B.ul;ag2.mpr<|bq (s:=H_ 1) (r:=DI 2) C<|ag3.mpr ?_;have:∀(t:G Fu)(l x:G ah) N O,(∀u∈t,u∈p.us)->m8 l x->x++gi t=gi p.us->l.length+2*t.length<=100->bj (aS (Ph (am tab<|n+6) 0) (.var 2) AB) (t.map Fu.I) (nY p.I N O) #v[bI l]
   λo ρ f=>cf o ρ f (λρ f=>ao (Ph (am tab<|n+6) 0) (DI 2) ρ f<|runK<|aZ [] E c) (runK<|aZ [] E c):=by
  intro t
  induction t with
  |nil=>
   intro l x N O _ m e _
   have e:x=gi p.us:=by calc U (Eq.symm e);exact(bK x).symm
   subst e
   refine dL<|aF<|ag6.mpr ?_
   cases L:l with
   |nil=>
    rw[L]at m
    have Y:gi p.us=[]:=by cases h:gi p.us with|nil=>rfl|cons a b=>rw[h]at m;contradiction
    exact NL B<|Q Y
   |cons a r=>
    refine U (Eq.symm L) ?_
    have Z:gi p.us≠[]:=λh=>by rw[h]at m;rw[L]at m;cases m
    rw[show(bI l).isEmpty=j by rw[L];rfl]
    exact q1 l m Z
  |cons u t ih=>
   intro l x N O h m e hl
   rw[eX]at hl
   exact fH (B.us u<|h u<|.head _) λ_ fB=>av fB λ_ Ae _=>have hil:=HN Ae;cz (ag7 (m:=[]) B (h u<|.head _) (y8) λJ y2 y3 P=>b6<|ih (l++J) (x++qd u) y2 y3 (λy hy=>h y<|.tail _ hy) (m.zZ P) (by rw[cZ];exact e) (by rw[bO,P.len];lia))
 exact this p.us [] [] _ _ (λ_ h=>h) .nil C (by show 0+2*p.us.length<=100;lia)
end
abbrev nZ(k:aj):G S:=Gk.body.drop k
abbrev kM(k:aj):S:=Gk.body.getD k .brk
def xO:X×G X:=xl<|xa<|xb<|sx<|kM 6
abbrev iW(c:F)(f l m p r:ar V):Rho:=[vf c,f,l,m,p,r]
section
def ag9:am tab (n+1) 453 [.fz c] [] P=ao (Ph (am tab n) 0) (nZ 0) (iW c z z z z z) ⋯ (runK P):=()
def ag_:WS (Ph c 0) (kM 0) (iW (.raw l) z z z z z) ⋯ Q=gd (l.length<=aM) (fP (cT (Ph c 0) 1 (.var 0) (lc<|kM 0).1 [] (iW (.raw l) z z z z z)) ((l.take<|min 40 l.length).drop 0) ⋯ λm f=>gd (m.length<=aM)<|Q .next (iW (.raw l) (vf<|.af m) z z z z) f):=()
def aha:cT (Ph c 0) 1 (.var 0) (lc<|kM 0).1 [] ρ (.int i) f R=R (q<|.int<|i.fmod 2147483647) f:=()
def ahb:WS (Ph c 0) (kM 1) (iW l (vf<|.af m) z z z z) ⋯ Q=oP (gV m) λis=>c 406 [.ref 0] [.list [.af m,.int 0,.int (is.sum.fmod 65537+31337)]] (aZ [0] [.list [.af m,.int 0,.int (is.sum.fmod 65537+31337)]] λr p=>cW r λv=>ez (Ph c 0) (.v<|.var 2) v (iW l (vf<|.af m) z z z z) ⟨p,[]⟩ λρ f=>Q .next ρ f):=()
def ahc:WS (Ph c 0) (kM 2) (iW m p (vf l) z z z) ⟨[o],[]⟩ Q=c 438 [.fz l] [] (aZ [] [o] λr t=>cW r λv=>ez (Ph c 0) (.v<|.ai [.var 3,.var 4]) v (iW m p (vf l) z z z) ⟨t,[]⟩ λρ f=>Q .next ρ f):=()
def ahd:WS (Ph c 0) (kM 3) (iW p t (vf m) u x z) ⟨[o],[]⟩ Q=c 418 [.fz m] [] (aZ [] [o] λr l=>cW r λv=>zv (Ph c 0) 317 [v] l λr l=>cW r λv=>ez (Ph c 0) (.v<|.var 5) v (iW p t (vf m) u x z) ⟨l,[]⟩ λρ f=>Q .next ρ f):=()
def ahe:WS (Ph c 0) (kM 4) (iW p t (vf l) (vf m) u x) ⟨[o],[]⟩ Q=c 418 [.fz l] [] (aZ [] [o] λr f=>cW r λv=>zv (Ph c 0) 310 [v] f λr f=>cW r λv=>zv (Ph c 0) 448 [v,.fz m] f λr f=>cW r λv=>ja v λb=>match !b with|D=>Q (.ret<|.fz<|.bool j) (iW p t (vf l) (vf m) u x) ⟨f,[]⟩|j=>Q .next (iW p t (vf l) (vf m) u x) ⟨f,[]⟩):=()
def Pb:WS (Ph c 0) (kM 5) (iW p t u (vf f) (vf<|.af l)<|vf m) ⟨[o],[]⟩ Q=(match l.isEmpty with|D=>c 448 [.fz m,.fz f] [] (aZ [] [o] λr x=>cW r λv=>Q (.ret v) (iW p t u (vf f) (vf<|.af l)<|vf m) ⟨x,[]⟩)|j=>Q .next (iW p t u (vf f) (vf<|.af l)<|vf m) ⟨[o],[]⟩):=()
def ahf:ao (Ph c 0) (nZ 6) (iW r t u x (vf<|.af p)<|vf<|.af l) ⟨[o],[]⟩ (runK P)=gd (l.length<=aM) (gd (p.length<=aM) (match(l.length:M)==(p.length:aj)with|D=>fP (cT (Ph c 0) 2 (.ai [.var 0,.var 1]) xO.1 xO.2<|iW r t u x (vf<|.af p)<|vf<|.af l) (mL l p) ⟨[o],[]⟩ λm f=>gd (m.length<=aM)<|P (.ret<|.fz<|.bool m.isEmpty) f|j=>P (.ret<|.fz<|.bool j) ⟨[o],[]⟩)):=()
def ahg:cT (Ph c 0) 2 (.ai [.var 0,.var 1]) xO.1 xO.2 ρ (.ai [.str t,.str b]) f R=(match !Lh t b with|D=>R (q<|.int 1) f|j=>R z f):=()
end
def ahh(b w:ah):Lh (b++w) b=D:=U (ku ..) ⟨de<|U (me ..) (by lia),U (Ul ..)<|U Un<|U (u0 ..)<|U (show b.length=b.cps.toList.length from g_.symm)<|U T9<|U (jB ..) C⟩
def ahi(h:m8 m p)(f:P [] l):gW (cT (Ph c 0) 2 (.ai [.var 0,.var 1]) xO.1 xO.2 ρ) (mL (bI m)<|bI p) l P:=by induction h with|nil=>exact X6 f|cons r t _ ih=>exact Gx<|ahg.mpr<|U (ahh ..) ih
theorem Pd:∀l m:G F,(mL l m).length<=l.length|[],_=>bR _|_::_,[]=>cD _|_::l,_::m=>mD<|Pd l m
def ahj(l:eN p):(pZ p).length<=1000:=by
 have f:∀c:G Fu,(∀u∈c,u∈p.us)->(lB p c).length<=30*c.length:=by intro c;induction c with|nil=>intro _;exact bR _|cons t B ih=>exact λh=>have r:=ih λy m=>h y (.tail _ m);have x:=Am l<|h t<|.head _;U bO y4
 have g:∀c:G Th,(∀u∈c,nQ u)->(pY p c).length<=10*c.length:=by intro c;induction c with|nil=>intro _;exact bR _|cons t B ih=>exact λh=>have r:=ih λy m=>h y (.tail _ m);have x:=Hx (p:=p)<|h t<|.head _;U bO y4
 exact have r:=f p.us λ_ h=>h;have x:=g p.cR l.cR;have E:=Hy l;have J:=l.ul;have L:=l.tl;U bO (U bO (by lia))
def ahk(r:eN p)(c:∀f,P (.ret<|.fz<|.bool D) f)(h:w9 p):ao (Ph (am tab<|n+7) 0) (nZ 2) (iW J L (vf p.F) z z z) ⟨[o],[]⟩ (runK P):=by
 refine have t:=ahj r;have l:=afj r;bq (s:=kM 2) (r:=nZ 3) C (ahc.mpr<|aeE (n:=n+4) r<|aF ?_);have N:∀B:F,ao (Ph (am tab<|n+7) 0) (nZ 5) (iW J L (vf p.F) (vf<|.af<|bM<|pZ p) (vf<|.af<|bI<|gi p.us)<|vf B) ⟨[o],[]⟩ (runK P)->ao (Ph (am tab<|n+7) 0) (nZ 4) (iW J L (vf p.F) (vf<|.af<|bM<|pZ p) (vf<|.af<|bI<|gi p.us)<|vf B) ⟨[o],[]⟩ (runK P):=by refine λB Q=>bq (s:=kM 4) (r:=nZ 5) C<|ahe.mpr<|MP (n:=n+6) h ?_;show am tab (n+7) 310 [.fz p.I] [] (aZ [] [o] _);calc NL (n:=n+1) r;show am tab (n+7) 448 [.fz (.af<|b7<|pZ p),.fz (.af<|bM<|pZ p)] [] (aZ [] [o] _);exact Oj (n:=n+5) t l<|aF Q
 refine bq (s:=kM 3) (r:=nZ 4) C<|ahd.mpr<|MP (n:=n+6) h<|ag8 r (λR=>aF<|N (.af<|b7<|pZ p) ?_) λE O Y=>aF<|N (.af<|bI E) ?_;·exact bq (s:=kM 5) (r:=nZ 6) C<|Pb.mpr<|U R<|Oj (n:=n+5) t l<|c _
 ·refine bq (s:=kM 5) (r:=nZ 6) C<|Pb.mpr ?_
  rw[show(bI<|gi p.us).isEmpty=j by cases Z:gi p.us with|nil=>exact absurd Z Y|cons a b=>rfl];refine aF<|ahf.mpr ?_;have x:=O.len;have e1:(bI E).length=E.length:=bx _;have e2:(bI<|gi p.us).length=(gi p.us).length:=bx _;have hil:(gi p.us).length<=100:=by
   have:∀m:G Fu,(∀u∈m,u∈p.us)->(gi m).length<=2*m.length:=by intro m;induction m with|nil=>intro _;exact bR _|cons u m ih=>refine λh=>have h1:=ih λy hy=>h y (.tail _ hy);fH (r.us u<|h u<|.head _) λ_ fB=>av fB λ_ Ae _=>?_;have h2:=HN Ae;show(qd u++gi m).length<=2*(m.length+1);rw[bO];exact y4
   exact have h1:=this p.us λ_ h=>h;have h2:=r.ul;(by lia)
  rw[e1,e2,x,jB];exact aE (cy<|q1)<|aE (cy<|q1)<|h_ (aG (Pd _ _) (by lia))<|ahi O<|aE (cy<|cD _)<|c _
def ahl(R:l.length<=63)(c:∀f,P (.ret<|.fz<|.bool D) f):am tab (n+8) 453 [.fz (.raw<|bP l)] [] P:=by
 refine ag9.mpr<|have r:(bP l).length=l.length:=bx _;bq (s:=kM 0) (r:=nZ 1) C (ag_.mpr<|aE (cy (by lia)) ?_);rw[show((bP l).take<|min 40 (bP l).length).drop 0=(l.take<|min 40 l.length).map F.int by rw[Un,r];rw[arl]];refine h_ (by rw[bx];exact aG (arC _ _)<|q1)<|lq (h:=λi=>F.int<|i.fmod 2147483647) (λi _ Q c=>aha.mpr c) ?_;have E:∃m:G M,m.length<=1000/\(∀x∈m,0<=x/\x<2147483647)/\(l.take<|min 40 l.length).map (λi=>F.int<|i.fmod 2147483647)=bP m:=by
  refine(cN ((l.take<|min 40 l.length).map λi=>i.fmod 2147483647) ?_ ?_ ?_);·rw[bx];exact aG (arC _ _)<|q1
  ·refine λx u=>av (mE.mp u) λi _ J=>?_;clear u;subst J;exact⟨so _ {},ua _ {}⟩
  ·delta bP;rw[lW];rfl
 refine cP E λm L t e=>?_;rw[e];exact aE (cy (by rw[bx];exact q1))<|aF<|bq (s:=kM 1) (r:=nZ 2) C<|ahb.mpr<|ig (zC m) (have N:=so m.sum (b:=65537) {};have O:=ua m.sum (b:=65537) {};YL (n:=n+2) (w:=⟨m,0,m.sum.fmod 65537+31337⟩) ⟨t,by show 0+100<=100000;decide,by exact wm ‹_› {},by lia⟩ L λp Y B=>ahk B.fits c B)
set_option genCtorIdx false in
inductive dO where
 |fz|hd(n:aj)|ih(n:aj)|id(n:aj)|cL
noncomputable def dO.ctorIdx(x:dO):aj:=x.casesOn (motive:=λ_=>aj) 0 (λ_=>1) (λ_=>2) (λ_=>3) 4
def dO.ne{a b:dO}(h:(a.ctorIdx==b.ctorIdx)=j):q a≠q b:=λe=>su<|(bw.mpr<|az dO.ctorIdx<|bH e).symm.trans h
noncomputable def dO.Pe:dO->ak| .fz=>D| .cL=>D|_=>j
abbrev RM:=aw->ar dO
abbrev Bv:=aw->ar dy
open Classical in
noncomputable def mo(h:bt)(W:RM):Bv:=λa=>if W a=q .fz then h.get? a else z
noncomputable abbrev tw:G aw:=[54,75,96,117,138]
section
variable(m:cA)(w:b9)
def lJ{c:Type}[k_ c](f:sv m w c)(o:dy)(l:G (c×au)):Prop:=o.ExactDict/\∃p r,o.data= .dict p r/\KeysOf f p/\Pairs f p.toList l/\(l.map (·.1)).Nodup
def gQ(o:dy)(l:G M):Prop:=
 o.ExactSet/\l.Nodup/\∃c f t,o.data= .set c f t/\Cc (eY m w) c.toList/\(∀k,l.contains k=D↔∃e∈c.toList,(eY m w).is k e.2=D)/\
  c.size<scanBound/\t.fits c.size=D/\c.size=l.length
def jO:G (ah×au)->G ug->Prop|[],c=>c=[]|(n,v)::f,c=>∃l t r,c=⟨l,.str n t,v⟩::r/\jO f r
def n_(o:dy)(c:G (ah×au)):Prop:=o.cls= .type "dict"/\∃f l,o.data= .dict f l/\jO c f.toList
def IsTup(b:Bv)(a:aw)(c:eD au):Prop:=∃f,b a=q {cls:=.type "tuple",dict:=z,data:=.seq c f,slots:= #[]}
def pe(b:Bv)(a:aw)(c:eD au):Prop:=∃f,b a=q {cls:=.type "list",dict:=z,data:=.seq c f,slots:= #[]}
def aho(b:Bv)(a:aw)(c:eD au):Prop:=∃o f,b a=q o/\o.cls= .type "list"/\o.data= .seq c f
def iX{c:Type}[k_ c](f:sv m w c)(b:Bv)(a:aw)(l:G (c×au)):Prop:=∃o,b a=q o/\lJ m w f o l/\a≠sysModules
def IsI(b:Bv)(c a:aw)(f:G (ah×au)):Prop:=∃d l,b a=q (instObj c d)/\b d=q l/\n_ l f/\c∈tw
mutual
def bD(b:Bv):F->au->Prop| .none,v=>v= .none| .bool x,v=>v= .bool x| .int i,v=>∃t,v= .int i t| .str i,v=>∃t,v= .str i t| .bytes i,v=>∃t,v= .bytes i t| .ai l,v=>∃a i,v= .ref a/\IsTup b a i/\bp b l i.toList| .af l,v=>∃a i,v= .ref a/\pe b a i/\bp b l i.toList| .raw l,v=>∃a i,v= .ref a/\aho b a i/\bp b l i.toList| .di l,v=>∃a i,v= .ref a/\iX m w (eY m w) b a i/\dX b l i| .ds l,v=>∃a i,v= .ref a/\iX m w (nz m w) b a i/\eu b l i| .set l,v=>∃a o,v= .ref a/\b a=q o/\gQ m w o l| .hV c l,v=>∃a i,v= .ref a/\IsI b c a i/\eu b l i
def bp(b:Bv):G F->G au->Prop|[],r=>r=[]|e::l,r=>∃v c,r=v::c/\bD b e v/\bp b l c
def eu(b:Bv):G (ah×F)->G (ah×au)->Prop|[],r=>r=[]|(k,e)::l,r=>∃v c,r=(k,v)::c/\bD b e v/\eu b l c
def dX(b:Bv):G (M×F)->G (M×au)->Prop|[],r=>r=[]|(k,e)::l,r=>∃v c,r=(k,v)::c/\bD b e v/\dX b l c
end
end
section
def bp.eF{P:G F->G au->Prop}(n:P [] [])(c:∀f v l r,bD m w b f v->bp m w b l r->P l r->P (f::l) (v::r))(l:G F):∀{r},bp m w b l r->P l r:=by induction l with|nil=>exact λh=>U h n|cons f l p=>exact λh=>dh h λv r e a k=>U e<|c f v l r a k<|p k
def eu.eF{P:G (ah×F)->G (ah×au)->Prop}(n:P [] [])(c:∀k f v l r,bD m w b f v->eu m w b l r->P l r->P ((k,f)::l) ((k,v)::r))(l:G (ah×F)):∀{r},eu m w b l r->P l r:=by induction l with|nil=>exact λh=>U h n|cons f l p=>exact λh=>dh h λv r e a k=>U e<|c f.1 f.2 v l r a k<|p k
def dX.eF{P:G (M×F)->G (M×au)->Prop}(n:P [] [])(c:∀k f v l r,bD m w b f v->dX m w b l r->P l r->P ((k,f)::l) ((k,v)::r))(l:G (M×F)):∀{r},dX m w b l r->P l r:=by induction l with|nil=>exact λh=>U h n|cons f l p=>exact λh=>dh h λv r e a k=>U e<|c f.1 f.2 v l r a k<|p k
def jO.eF{P:G (ah×au)->G ug->Prop}(n:P [] [])(c:∀k p t l r,jO l r->P l r->P (k::l) (⟨p,.str k.1 t,k.2⟩::r))(l:G (ah×au)):∀{r},jO l r->P l r:=by induction l with|nil=>exact λh=>U h n|cons k l f=>exact λh=>zo h λp t r e a=>U e<|c k p t l r a<|f a
end
structure Cf where
 s:a8
 W:RM
 H:aj->aw
 I:aj->aw×aw
 M:Mem
noncomputable abbrev Cf.h(c:Cf):bt:=c.s.heap
noncomputable abbrev Cf.b(c:Cf):Bv:=mo c.s.heap c.W
section
variable(u:cA)(w:b9)
def m9(g:Bv)(b:Bv)(a:aw):FObj->Prop| .bv=>True| .list l=>∃i,pe g a i/\bp u w b l i.toList| .di l=>∃i,iX u w (eY u w) g a i/\dX u w b l i| .ds l=>∃i,iX u w (nz u w) g a i/\eu u w b l i| .set l=>∃o,g a=q o/\gQ u w o l
noncomputable def xP:FObj->ak| .bv=>D|_=>j
def Pf(o:dy)(d:aw):Prop:=o.cls= .ref 31/\o.dict=q d/\∃f,o.data= .fields f
def Pg(o:dy)(m:ah):Prop:=o.cls= .type "dict"/\∃f t l p,o.data= .dict l p/\jO f l.toList/\hZ "word" f=q (.str m t)
def iY(c:Cf)(p:dy->Prop)(a:aw):Prop:=∃o,c.h.get? a=q o/\c.W a=z/\p o
def rG(c:Cf)(e:aw)(f:ah):Prop:=∃d,iY c (Pf · d) e/\iY c (Pg · f) d
def aP(c:Cf):V->au->Prop| .fz f,v=>bD u w c.b f v| .ref n,v=>v= .ref (c.H n)/\n<c.M.fl.length| .dJ n,v=>v= .ref (c.I n).1/\n<c.M.ins.length| .exc l,v=>∃e,v= .ref e/\rG c e l
def dI(c:Cf):G V->G au->Prop|[],r=>r=[]|v::l,r=>∃x f,r=x::f/\aP u w c v x/\dI c l f
def ew(c:Cf):G (ah×V)->G (ah×au)->Prop|[],r=>r=[]|e::l,r=>∃x f,r=(e.1,x)::f/\aP u w c e.2 x/\ew c l f
def dI.eF{c:Cf}{P:G V->G au->Prop}(n:P [] [])(k:∀v x l r,aP u w c v x->dI u w c l r->P l r->P (v::l) (x::r))(l:G V):∀{r},dI u w c l r->P l r:=by induction l with|nil=>exact λh=>U h n|cons f l m=>exact λh=>dh h λv r e a b=>U e<|k f v l r a b<|m b
def ew.eF{c:Cf}{P:G (ah×V)->G (ah×au)->Prop}(n:P [] [])(k:∀v x l r,aP u w c v.2 x->ew u w c l r->P l r->P (v::l) ((v.1,x)::r))(l:G (ah×V)):∀{r},ew u w c l r->P l r:=by induction l with|nil=>exact λh=>U h n|cons f l m=>exact λh=>dh h λv r e a b=>U e<|k f v l r a b<|m b
def DL(c:Cf)(n:aj)(l:aw)(m:G (ah×V)):Prop:=c.W (c.I n).1=q (.ih n)/\c.W (c.I n).2=q (.id n)/\c.h.get? (c.I n).1=q (instObj l (c.I n).2)/\(∃p f,c.h.get? (c.I n).2=q p/\n_ p f/\ew u w c m f)/\l∈tw/\m.all (λe=>dU e.2)=D
def xQ(c:Cf)(a:aw):dO->Prop| .fz=>True| .cL=>True| .hd n=>a=c.H n/\n<c.M.fl.length| .ih n=>a=(c.I n).1/\n<c.M.ins.length| .id n=>a=(c.I n).2/\n<c.M.ins.length
structure St(L:bt)(c:Cf):Prop where
 base:∀a o,L.get? a=q o->c.W a=q .fz/\c.h.get? a=q o
 role:∀a r,c.W a=q r->xQ c a r/\∃o,c.h.get? a=q o
 fl:∀n o,c.M.fl[n]? =q o->xP o=j->c.W (c.H n)=q (.hd n)/\m9 u w c.h.get? c.b (c.H n) o
 ins:∀n cl fs,c.M.ins[n]? =q (q (cl,fs))->DL u w c n cl fs
structure fG(X:aw->Prop)(k J:aj)(c E:Cf):Prop where
 kfz:∀a o r,c.h.get? a=q o->c.W a=q r->r.Pe=D->E.h.get? a=q o/\E.W a=q r
 knone:∀a o,c.h.get? a=q o->c.W a=z->¬X a->E.W a=z/\∃sl,E.h.get? a=q {o with slots:=sl}/\((∀es ep,o.data≠ .dict es ep)->sl=o.slots)
 H:∀n,n<k->E.H n=c.H n
 I:∀n,n<J->E.I n=c.I n
 flen:k<=E.M.fl.length
 ilen:J<=E.M.ins.length
 dom:∀a o,c.h.get? a=q o->¬X a->∃o',E.h.get? a=q o'
variable{u w}
def dI.kv{c E:Cf}{l:G V}{r:G au}(k:∀e∈l,∀y,aP u w c e y->aP u w E e y)(h:dI u w c l r):dI u w E l r:=dI.eF u w (P:=λl r=>(∀e∈l,∀y,aP u w c e y->aP u w E e y)->dI u w E l r) (λ_=>C) (λv x _ _ a _ f k=>bV x _ rfl (k v (.head _) x a)<|f λe m=>k e<|.tail _ m) l h k
def ew.kv{c E:Cf}{t:G (ah×V)}{p:G (ah×au)}(k:∀e∈t,∀y,aP u w c e.2 y->aP u w E e.2 y)(h:ew u w c t p):ew u w E t p:=ew.eF u w (P:=λl r=>(∀e∈l,∀y,aP u w c e.2 y->aP u w E e.2 y)->ew u w E l r) (λ_=>C) (λv x _ _ a _ f k=>bV x _ rfl (k v (.head _) x a)<|f λe m=>k e<|.tail _ m) t h k
def AC{f:Type}{k:ah}{e:ah×f}{r:G (ah×f)}(h:(e.1==k)=D):hZ k (e::r)=q e.2:=az (λb=>match b with|D=>q e.2|j=>hZ k r) h
def AD{f:Type}{k:ah}{e:ah×f}{r:G (ah×f)}(h:(e.1==k)=j):hZ k (e::r)=hZ k r:=az (λb=>match b with|D=>q e.2|j=>hZ k r) h
def qj{P r:Type}{A B t:P->r->Prop}{f O:r->Prop}(h:∃a i,A a i/\B a i/\f i)(p:∀a i,B a i->t a i)(l:∀i,f i->O i):∃a i,A a i/\t a i/\O i:=dh h λa i x y m=>bV a i x (p a i y)<|l i m
def bD.bz{b m:Bv}(k:∀a o,b a=q o->m a=q o)(f:F){v:au}:bD u w b f v->bD u w m f v:=
 F.rec (motive_1:=λf=>∀v,bD u w b f v->bD u w m f v) (motive_2:=λf=>∀v,bp u w b f v->bp u w m f v) (motive_3:=λf=>∀v,dX u w b f v->dX u w m f v) (motive_4:=λf=>∀v,eu u w b f v->eu u w m f v) (motive_5:=λf=>∀v,bD u w b f.2 v->bD u w m f.2 v) (motive_6:=λf=>∀v,bD u w b f.2 v->bD u w m f.2 v)
  (λ_ h=>h) (λ_ _ h=>h) (λ_ _ h=>h) (λ_ _ h=>h) (λ_ _ h=>h)
  (λ_ l _ h=>qj h (λ_ _ h=>h.imp λ_=>k _ _) λ_=>l _) (λ_ l _ h=>qj h (λ_ _ h=>h.imp λ_=>k _ _) λ_=>l _)
  (λ_ l _ h=>qj h (λ_ _ h=>h.imp λ_ h=>h.imp λ_ h=>⟨k _ _ h.1,h.2⟩) λ_=>l _)
  (λ_ l _ h=>qj h (λ_ _ h=>h.imp λ_ h=>⟨k _ _ h.1,h.2⟩) λ_=>l _) (λ_ l _ h=>qj h (λ_ _ h=>h.imp λ_ h=>⟨k _ _ h.1,h.2⟩) λ_=>l _)
  (λ_ _ h=>qj h (λ_ _=>k _ _) λ_ h=>h)
  (λ_ _ l _ h=>qj h (λ_ _ h=>h.imp λ_ h=>h.imp λ_ h=>cr (k _ _ h.1) (k _ _ h.2.1) h.2.2) λ_=>l _)
  (λ_ h=>h) (λ_ _ l r _ h=>qj (A:=λv r=>_=v::r) h (λ_ _=>l _) λ_=>r _)
  (λ_ h=>h) (λ_ _ l r _ h=>qj h (λ_ _=>l _) λ_=>r _)
  (λ_ h=>h) (λ_ _ l r _ h=>qj h (λ_ _=>l _) λ_=>r _)
  (λ_ _ l=>l) (λ_ _ l=>l) f v
def bp.bz{b p:Bv}(k:∀a o,b a=q o->p a=q o)(f:G F){v:G au}:bp u w b f v->bp u w p f v:=bp.eF (P:=λl v=>bp u w p l v) C (λ_ _ _ _ a _ m=>bV _ _ rfl (bD.bz k _ a) m) f
def eu.bz{b p:Bv}(k:∀a o,b a=q o->p a=q o)(f:G (ah×F)){v:G (ah×au)}:eu u w b f v->eu u w p f v:=eu.eF (P:=λl v=>eu u w p l v) C (λ_ _ _ _ _ a _ m=>bV _ _ rfl (bD.bz k _ a) m) f
def dX.bz{b p:Bv}(k:∀a o,b a=q o->p a=q o)(f:G (M×F)){v:G (M×au)}:dX u w b f v->dX u w p f v:=dX.eF (P:=λl v=>dX u w p l v) C (λ_ _ _ _ _ a _ m=>bV _ _ rfl (bD.bz k _ a) m) f
variable{X:aw->Prop}{k J:aj}{L:bt}{c E N:Cf}
def mq{h:bt}{W:RM}{a:aw}{o:dy}(e:mo h W a=q o):W a=q .fz/\h.get? a=q o:=by
 delta mo at e;split at e;·exact⟨‹_›,e⟩
 ·injection e
def kN{h:bt}{W:RM}{a:aw}{o:dy}(e:W a=q .fz)(f:h.get? a=q o):mo h W a=q o:=(cE e).trans f
def fG.b(x:fG X k J c E)(a:aw)(o:dy)(e:c.b a=q o):E.b a=q o:=have⟨p,f⟩:=mq e;have⟨l,m⟩:=x.kfz a o .fz f p rfl;kN m l
def fG.refl(h:k<=c.M.fl.length)(l:J<=c.M.ins.length):fG X k J c c:=⟨λ_ _ _ e f _=>⟨e,f⟩,λ_ o e f _=>⟨f,(aT o.slots e λ_=>C)⟩,λ_ _=>C,λ_ _=>C,h,l,λ_ o e _=>⟨o,e⟩⟩
def fG.trans(x:fG X k J c E)(y:fG X k J E N):fG X k J c N where
 kfz:=λa o r e f h=>have⟨p,t⟩:=x.kfz a o r e f h;y.kfz a o r p t h
 knone:=λa o e f g=>have⟨t,_,P,q1⟩:=x.knone a o e f g;have⟨B,O,Q,q2⟩:=y.knone a _ P t g;⟨B,(aT O Q λm=>(q2 m).trans<|q1 m)⟩
 H:=λn l=>(y.H n l).trans<|x.H n l
 I:=λn l=>(y.I n l).trans<|x.I n l
 flen:=y.flen
 ilen:=y.ilen
 dom:=λa o e g=>(x.dom a o e g).elim λR p=>y.dom a R p g
def fG.bz{p:aw->Prop}{r t:aj}(x:fG X k J c E)(B:∀a,X a->p a)(O:r<=k)(P:t<=J):fG p r t c E:=⟨x.kfz,λa o e f g=>x.knone a o e f λm=>g<|B a m,λn l=>x.H n<|iD l O,λn l=>x.I n<|iD l P,aG O x.flen,aG P x.ilen,λa o e g=>x.dom a o e λm=>g<|B a m⟩
end
structure Cx where
 sc:gC
 nm:G ah
noncomputable def dk:G ah->ah->ar aj|[],_=>z|x::r,n=>if x==n then q 0 else(dk r n).map (· +1)
structure eT(A:dY)(d:aj):Prop where
 Pk:d=0\/A.handled=z
 depth:A.depth+20*d+20<=900
 units:A.units+100*d+200<=9000
def eT.hh{A:dY}{d:aj}[fe d](h:eT A d):A.handled=z:=h.Pk.resolve_left<|fe.ne d
structure Fr where
 A:dY
 cx:Cx
 env:fX
 ρ:Rho
def Pl(c:Cf)(l:fX):Prop:=l.scope.kind≠ .module/\∃L,l.frame=q L/\iY c (λo=>∃m p,o.data= .dict m p) L
def jw(A:dY)(c:Cf):Prop:=∃l,A.frames=q l/\∀m∈l,Pl c m
section
variable(t:cA)(w:b9)
def DM(c:Cf)(f:Fr)(m:ah->ar au):Prop:=(∀id,dk f.cx.nm id=z->m id=z)/\∀id i v,dk f.cx.nm id=q i->f.cx.sc.names.lookup id=q .local->f.ρ[i]? =q (q v)->∃x,m id=q x/\aP t w c v x
def DN(c:Cf)(f:Fr)(id:ah)(u:ar au):Prop:=∀i v,dk f.cx.nm id=q i->f.ρ[i]? =q (q v)->∃x,u=q x/\aP t w c v x
def DO(c:Cf)(f:Fr)(id:ah)(a:aw)(u:ar au):Prop:=f.env.cells.lookup id=q a/\c.h.IsCell a u/\c.W a=z/\a≠f.env.locals
structure bY(f:Fr)(c:Cf):Prop where
 sc:f.env.scope=f.cx.sc
 kind:f.cx.sc.kind= .function
 xR:f.env.globals=la
 AE:f.env.builtins=builtinsNs
 vm:dk f.cx.nm ".0"=z
 exc:∀(i:aj)(wd:ah),f.ρ[i]? =q (q<|V.exc wd)->dk f.cx.nm "word"=z
 wL:c.W f.env.locals=z
 ns:∃m,c.h.Ns f.env.locals m/\DM t w c f m
 cells:∀id,(f.cx.sc.names.lookup id=q .cell\/f.cx.sc.names.lookup id=q .free)->∃a u,DO c f id a u/\DN t w c f id u
 xS:∀id id' a,f.env.cells.lookup id=q a->f.env.cells.lookup id'=q a->id=id'
 fr:jw f.A c
abbrev kO:aw->Prop:=λ_=>False
structure cv(X:aw->Prop)(B:bt)(c J:Cf):Prop where
 st:St t w B J
 ay:fG X c.M.fl.length c.M.ins.length c J
 gens:J.s.gens=c.s.gens
 os:J.s.os=c.s.os
abbrev Nx(B:bt)(c J:Cf):Prop:=cv t w kO B c J
variable(B:bt)(d:aj)
structure Rd(f:Fr)(c:Cf):Prop where
 a:eT f.A d
 e:bY t w f c
 st:St t w B c
variable{t w B d}{c J N:Cf}{f:Fr}
def vn(o:dy):Prop:=o.cls≠ .ref 31/\(∀l m,o.data≠ .dict l m)/\∀u,o.data≠ .cell u
def tx(X:aw->Prop)(c:Cf):Prop:=∀a o,X a->c.W a=z->c.h.get? a=q o->vn o
variable{X Y:aw->Prop}
abbrev mr(X:aw->Prop)(c J:Cf):Prop:=fG X c.M.fl.length c.M.ins.length c J
abbrev tz(c J:Cf):Prop:=mr kO c J
def Ib{h l:bt}{a:aw}{m:ah->ar au}(n:h.Ns a m)(k:∀o,h.get? a=q o->∃p,l.get? a=q {o with slots:=p}):l.Ns a m:=by refine zo n λo u x e r=>?_;obtain⟨p,E⟩:=k o e;exact(uo _ u x E r)
def Pm{h l:bt}{a:aw}{u:ar au}(n:h.IsCell a u)(k:∀o,h.get? a=q o->∃m,l.get? a=q {o with slots:=m}):l.IsCell a u:=by refine av n λo e p=>?_;obtain⟨m,r⟩:=k o e;exact(aT _ r p)
def Ic(x:mr X c J)(p:tx X c){a:aw}{o:dy}(e:c.h.get? a=q o)(l:c.W a=z)(n:¬vn o):J.W a=z/\∃r,J.h.get? a=q {o with slots:=r}:=have m:=x.knone a o e l λh=>n (p a o h l e);⟨m.1,m.2.imp λ_ h=>h.1⟩
def rH(X:aw->Prop)(c:Cf):Prop:=∀a o,X a->c.W a=z->c.h.get? a=q o->(∀d,¬Pf o d)/\∀l,¬Pg o l
def Ie:tx kO c:=λ_ _ h=>h.elim
def tx.DP(h:tx X c):rH X c:=λa o l m e=>have k:=h a o l m e;⟨λ_ g=>k.1 g.1,λ_ g=>FR g.2 λ_ _ p r u _=>k.2.1 p r u⟩
def iY.cL{k L:aj}{p:dy->Prop}(x:fG X k L c J)(O:∀o P,p o->p {o with slots:=P}){a:aw}(Q:∀o,c.h.get? a=q o->c.W a=z->p o->¬X a)(r:iY c p a):iY J p a:=cP r λo m u E=>have l:=x.knone a o m u<|Q o m u E;av l.2 λ_ R _=>(cN _ R l.1<|O _ _ E)
def rG.own{k E:aj}(x:fG X k E c J)(p:rH X c){e:aw}{u:ah}(r:rG c e u):rG J e u:=r.imp λ_ h=>⟨h.1.cL x (λ_ _ h=>h) λ_ e l h m=>(p _ _ m l e).1 _ h,h.2.cL x (λ_ _ h=>h) λ_ e l h m=>(p _ _ m l e).2 _ h⟩
def aP.own(x:mr X c J)(l:rH X c):∀{v:V}{y:au},aP t w c v y->aP t w J v y| .fz f,_,r=>bD.bz x.b f r| .ref n,_,r=>⟨r.1.trans<|az _ (x.H n r.2).symm,iD r.2 x.flen⟩| .dJ n,_,r=>⟨r.1.trans<|az (hG∘sy) (x.I n r.2).symm,iD r.2 x.ilen⟩| .exc _,_,r=>r.imp λ_ h=>⟨h.1,h.2.own x l⟩
def dI.own(x:mr X c J)(l:rH X c){v:G V}{y:G au}:dI t w c v y->dI t w J v y:=dI.kv λ_ _ _ r=>r.own x l
abbrev Ig(o:dy):Prop:=∃l m,o.data= .dict l m
def jw.cL{A:dY}(k:∀a,iY c Ig a->iY J Ig a)(l:jw A c):jw A J:=l.imp λ_ h=>⟨h.1,λe m=>⟨(h.2 e m).1,(h.2 e m).2.imp λ_ h=>⟨h.1,k _ h.2⟩⟩⟩
def DM.own{m:ah->ar au}(x:mr X c J)(l:rH X c)(h:DM t w c f m):DM t w J f m:=⟨h.1,λid i v a b c=>(h.2 id i v a b c).imp λ_ h=>⟨h.1,h.2.own x l⟩⟩
def DN.own{id:ah}{u:ar au}(x:mr X c J)(l:rH X c)(h:DN t w c f id u):DN t w J f id u:=λi v a b=>(h i v a b).imp λ_ h=>⟨h.1,h.2.own x l⟩
def tA{h:bt}{a:aw}{m:ah->ar au}(n:h.Ns a m):∃o,h.get? a=q o/\¬vn o:=n.imp λ_ h=>dh h λl p r u _=>⟨r,λk=>k.2.1 l p u⟩
def DO.own{id:ah}{a:aw}{u:ar au}(x:mr X c J)(p:tx X c)(h:DO c f id a u):DO J f id a u:=av h.2.1 λo m r=>have l:=Ic x p m h.2.2.1 λk=>k.2.2 u r;(nB h.1 (Pm h.2.1 λ_ E=>bH (m.symm.trans E)▸l.2) l.1 h.2.2.2)
def bY.own(E:bY t w f c)(x:mr X c J)(p:tx X c):bY t w f J:=
 {E with
  wL:=E.ns.elim λ_ h=>(tA h.1).elim λo e=>(Ic x p e.1 E.wL e.2).1
  ns:=E.ns.imp λ_ h=>⟨(tA h.1).elim λo e=>Ib h.1 λ_ u=>bH (e.1.symm.trans u)▸(Ic x p e.1 E.wL e.2).2,h.2.own x p.DP⟩
  cells:=λid l=>(E.cells id l).imp λa h=>h.imp λ_ h=>⟨h.1.own x p,h.2.own x p.DP⟩
  fr:=E.fr.cL λ_ r=>r.cL x (λ_ _ h=>h) λo e l h m=>dZ h λL O h=>(p _ _ m l e).2.1 L O h}
def aP.ay(x:tz c J){v:V}{y:au}(r:aP t w c v y):aP t w J v y:=r.own x Ie.DP
def dI.ay(x:tz c J){v:G V}{y:G au}(r:dI t w c v y):dI t w J v y:=r.own x Ie.DP
def bY.ay(E:bY t w f c)(x:tz c J):bY t w f J:=E.own x Ie
def cv.refl(S:St t w B c):cv t w X B c c:=⟨S,.refl (bR _)<|bR _,C,C⟩
def cv.bz(x:cv t w X B c J)(h:∀a,X a->Y a):cv t w Y B c J:=⟨x.st,x.ay.bz h (bR _)<|bR _,x.gens,x.os⟩
def cv.trans(x:cv t w X B c J)(y:cv t w X B J N):cv t w X B c N:=⟨y.st,x.ay.trans<|y.ay.bz (λ_=>id) x.ay.flen x.ay.ilen,y.gens.trans x.gens,y.os.trans x.os⟩
def Rd.on(r:Rd t w B d f c)(n:Nx t w B c J):Rd t w B d f J:=⟨r.a,r.e.ay n.ay,n.st⟩
end
section
variable{c:Cf}
variable{X:aw->Prop}
structure kP(X:aw->Prop)(c c':Cf):Prop where
 jx:∀a o,¬X a->c.h.get? a=q o->c'.h.get? a=q o/\c'.W a=c.W a
 own:∀a,X a->c.W a=z
 H:∀n,n<c.M.fl.length->c'.H n=c.H n/\c'.M.fl[n]? =c.M.fl[n]?
 I:∀n,n<c.M.ins.length->c'.I n=c.I n/\c'.M.ins[n]? =c.M.ins[n]?
 flen:c.M.fl.length<=c'.M.fl.length
 ilen:c.M.ins.length<=c'.M.ins.length
def kP.no(x:kP X c f)(e:c.W a=q r):¬X a:=λh=>(by injection(e.symm.trans<|x.own a h))
def kP.ay(x:kP X c p):fG X c.M.fl.length c.M.ins.length c p:=⟨λa o _ e f _=>have m:=x.jx a o (x.no f) e;⟨m.1,m.2.trans f⟩,λa o e f n=>have m:=x.jx a o n e;⟨m.2.trans f,(aT o.slots m.1 λ_=>C)⟩,λn l=>(x.H n l).1,λn l=>(x.I n l).1,x.flen,x.ilen,λa o e n=>⟨o,(x.jx a o n e).1⟩⟩
def m9.bz(l:∀a o,b a=q o->m a=q o)(k:∀o,g a=q o->p a=q o):∀{o:FObj},m9 f w g b a o->m9 f w p m a o| .bv,h=>h| .list _,h=>h.imp λ_ h=>⟨h.1.imp λ_ h=>k _ h,bp.bz l _ h.2⟩| .di _,h=>h.imp λ_ h=>⟨h.1.imp λ_ h=>⟨k _ h.1,h.2⟩,dX.bz l _ h.2⟩| .ds _,h=>h.imp λ_ h=>⟨h.1.imp λ_ h=>⟨k _ h.1,h.2⟩,eu.bz l _ h.2⟩| .set _,h=>h.imp λ_ h=>⟨k _ h.1,h.2⟩
def ew.ay(x:tz c l):ew f w c v y->ew f w l v y:=ew.kv λ_ _ _ r=>r.ay x
def aP.pg(x:fG X c.M.fl.length c.M.ins.length c m):∀{v:V}{y:au},dU v=D->aP l w c v y->aP l w m v y| .fz f,_,_,r=>bD.bz x.b f r| .ref n,_,_,r=>⟨r.1.trans<|az _ (x.H n r.2).symm,iD r.2 x.flen⟩| .dJ n,_,_,r=>⟨r.1.trans<|az (hG∘sy) (x.I n r.2).symm,iD r.2 x.ilen⟩| .exc _,_,h,_=>(by injection h)
def ew.pg(x:fG X c.M.fl.length c.M.ins.length c l)(n:v.all (λe=>dU e.2)=D):ew f w c v y->ew f w l v y:=ew.kv λe h _ r=>r.pg x<|fc.mp n e h
def fC{f:Type}{l:G f}{a:f}(h:l[n]? =q a):n<l.length:=(G.getElem?_eq_some_iff.mp h).1
def Ih(f:cA)(w:b9)(c:Cf)(n:aj)(o:FObj):Prop:=c.W (c.H n)=q (.hd n)/\m9 f w c.h.get? c.b (c.H n) o
def xQ.ext(x:kP X c f):∀{r:dO},xQ c a r->xQ f a r| .fz,_=>trivial| .cL,_=>trivial| .hd _,h=>⟨h.1.trans (x.H _ h.2).1.symm,iD h.2 x.flen⟩| .ih _,h=>⟨h.1.trans<|az _ (x.I _ h.2).1.symm,iD h.2 x.ilen⟩| .id _,h=>⟨h.1.trans<|az _ (x.I _ h.2).1.symm,iD h.2 x.ilen⟩
def kP.at(x:kP X c f)(S:St l w m c)(h:c.W a=q r):f.W a=q r/\∀o,c.h.get? a=q o->f.h.get? a=q o:=⟨(S.role a r h).2.elim λo e=>(x.jx a o (x.no h) e).2.trans h,λo e=>(x.jx a o (x.no h) e).1⟩
def kP.st(x:kP X c t)(S:St p w u c)(L:∀a r,c.W a=z->t.W a=q r->xQ t a r/\∃o,t.h.get? a=q o)(N:∀n o,c.M.fl.length<=n->t.M.fl[n]? =q o->xP o=j->Ih p w t n o)(O:∀n B E,c.M.ins.length<=n->t.M.ins[n]? =q (q (B,E))->DL p w t n B E):St p w u t where
 base:=λa o e=>have f:=S.base a o e;have m:=x.jx a o (x.no f.1) f.2;⟨m.2.trans f.1,m.1⟩
 role:=λa r e=>by
  refine gT (c.W a) (λg=>?_) λP g=>?_;·exact L a r g e
  ·exact(S.role a P g).2.elim λo k=>have m:=x.jx a o (x.no g) k;⟨(S.role a r<|m.2.symm.trans e).1.ext x,o,m.1⟩
 fl:=λn o e f=>if l:n<c.M.fl.length then have m:=S.fl n o ((x.H n l).2.symm.trans e) f;have y:=x.at S m.1;U ((x.H n l).1) ⟨y.1,m.2.bz x.ay.b y.2⟩
  else N n o (Cd l) e f
 ins:=λn B E e=>if l:n<c.M.ins.length then by
   have m:=S.ins n B E<|(x.I n l).2.symm.trans e
   have y:=x.at S m.1
   have J:=x.at S m.2.1
   delta DL
   exact U ((x.I n l).1)<|wB y.1 J.1 (y.2 _ m.2.2.1) (m.2.2.2.1.imp λ_ h=>h.imp λ_ h=>(cr (J.2 _ h.1) h.2.1<|h.2.2.pg x.ay m.2.2.2.2.2)) m.2.2.2.2
  else O n B E (Cd l) e
noncomputable def iw(W:RM)(a:aw)(r:ar dO):RM:=λx=>if x=a then r else W x
def gA(W:RM)(a:aw)(r:ar dO):iw W a r a=r:=cE C
def dG(h:x≠a):iw W a r x=W x:=cB h
noncomputable def xT{f:Type}(H:aj->f)(n:aj)(a:f):aj->f:=λx=>if x=n then a else H x
def AF(H:aj->f)(n:aj)(a:f):xT H n a n=a:=cE C
def AG{H:aj->f}(h:m<n):xT H n a m=H m:=cB<|hO h
def lK(h:bt):h.get? h.objs.size=z:=by
 refine gT (h.get? h.objs.size) (λ_=>?_) λo f=>?_;·rfl
 ·exact absurd (hR f)<|Uo _
noncomputable def Cf.fz(c:Cf)(o:dy):Cf:={c with s:={c.s with heap:=c.s.heap.push o},W:=iw c.W c.s.heap.objs.size (q .fz)}
def xU:kP kO c (c.fz o):=⟨λ_ _ _ e=>⟨jp _ e,dG<|hO<|hR e⟩,λ_ h=>h.elim,λ_ _=>⟨C,C⟩,λ_ _=>⟨C,C⟩,bR _,bR _⟩
def ahs(S:St m w p c)(t:o.isFreed=j):St m w p (c.fz o):=
 xU.st S (λa r g e=>if f:a=c.s.heap.objs.size then by
   subst f;cases(gA c.W _ _).symm.trans e;exact⟨trivial,o,jq _ t⟩
  else(by injection(g.symm.trans<|(dG f).symm.trans e)))
  (λn _ l e _=>absurd (fC e)<|lX.mpr l) λn _ _ l e=>absurd (fC e)<|lX.mpr l
def xV(S:St f w l c)(m:o.isFreed=j):Nx f w l c (c.fz o):=⟨ahs S m,xU.ay,C,C⟩
def DQ(f:o.isFreed=j):(c.fz o).b c.s.heap.objs.size=q o:=kN (gA _ _ _)<|jq _ f
end
section
variable{t:cA}{w:b9}{u:bt}{c:Cf}
def DR{f:Type}{l:G f}{x:f}(h:n<l.length):(l++[x])[n]? =l[n]? :=yV h
def AH{p:Type}{l:G p}{x y:p}(h:l.length<=n)(e:(l++[x])[n]? =q y):n=l.length/\x=y:=by rw[yW h]at e;have f:=fC e;rw[sr]at f;have m:n-l.length=0:=arD.mp f;rw[m]at e;exact⟨arE (aj.le_of_sub_eq_zero m) h,bH e⟩
def jh{f:Type}{l:G f}{x:f}:(l++[x]).length=l.length+1:=bO
def Cf.hd(c:Cf)(o:dy)(f:FObj):Cf:={c with s:={c.s with heap:=c.s.heap.push o},W:=iw c.W c.s.heap.objs.size<|q<|.hd c.M.fl.length,H:=xT c.H c.M.fl.length c.s.heap.objs.size,M:=⟨c.M.fl++[f],c.M.ins⟩}
def Ii:kP kO c (c.hd o f):=⟨λ_ _ _ e=>⟨jp _ e,dG<|hO<|hR e⟩,λ_ h=>h.elim,λ_ l=>⟨AG l,DR l⟩,λ_ _=>⟨C,C⟩,aG (jV _)<|cY jh.symm,bR _⟩
def AI:(c.hd o f).H c.M.fl.length=c.s.heap.objs.size:=AF _ _ _
def aht(S:St t w u c)(B:o.isFreed=j)(f:∀g b:Bv,(∀a o,c.b a=q o->b a=q o)->g c.s.heap.objs.size=q o->m9 t w g b c.s.heap.objs.size p):St t w u (c.hd o p):=
 have x:(c.hd o p).h.get? c.s.heap.objs.size=q o:=jq _ B;Ii.st S (λa r g e=>if f:a=c.s.heap.objs.size then by
   subst f;cases(gA c.W _ _).symm.trans e;exact⟨⟨AI.symm,iD (mG _)<|cY jh.symm⟩,o,x⟩
  else(by injection(g.symm.trans<|(dG f).symm.trans e)))
  (λn E l e _=>by have m:=AH l e;obtain rfl:=m.1;obtain rfl:=m.2;delta Ih;calc U AI;exact⟨gA _ _ _,f _ _ Ii.ay.b x⟩) λn _ _ l e=>absurd (fC e)<|lX.mpr l
def Pn(S:St t w u c)(l:o.isFreed=j)(f:∀g b:Bv,(∀a o,c.b a=q o->b a=q o)->g c.s.heap.objs.size=q o->m9 t w g b c.s.heap.objs.size m):Nx t w u c (c.hd o m):=⟨aht S l f,Ii.ay,C,C⟩
def ahu:aP t w (c.hd o f) (.ref c.M.fl.length) (.ref c.s.heap.objs.size):=⟨az _ AI.symm,iD (mG _)<|cY jh.symm⟩
variable(t w u)in
def Go(c:Cf)(P:V->Mem->Prop)(Q:au->a8->Prop):Prop:=∀v f y,P v f.M->Nx t w u c f->aP t w f v y->Q y f.s
def Go.on(f:Go t w u c P Q)(n:Nx t w u c l):Go t w u l P Q:=λv m y p x r=>f v m y p (n.trans x) r
def ahv(S:St t w u c)(r:bp t w c.b l p.toList)(e:gI m l c.M P)(f:Go t w u c P Q):l.length<=aM/\Q (.ref c.s.heap.objs.size) {c.s with heap:=c.s.heap.push {cls:=.type "list",data:=.seq p}}:=by
 delta gI at e;revert e;refine bX (aa<|l.length<=aM) (λh e=>?_) λ_ e=>?_;·refine⟨dw h,?_⟩;cases m with|true=>exact f _ (c.hd _<|.list l) _ e (Pn S C λg b x B=>(aT p ⟨_,B⟩<|bp.bz x _ r)) ahu|false=>exact f (.fz<|.af l) (c.fz _) _ e (xV S C)<|bV _ p rfl ⟨_,DQ C⟩<|bp.bz xU.ay.b _ r
 ·exact e.elim
end
def cO{b:ak}{P:Prop}(h:gd b P):b=D/\P:=match b,h with|D,h=>⟨C,h⟩
def dM{p:Prop}[tY p]{P:Prop}(h:gd (decide p) P):p/\P:=⟨dw (cO h).1,(cO h).2⟩
def dq{l:Type}{o:ar l}{k:l->Prop}(h:oP o k):∃a,o=q a/\k a:=match o,h with|q a,h=>(aT a rfl h)
def kQ{l m:Type}{o:ar (l×m)}{k:l->m->Prop}(h:eQ o k):∃a b,o=q (a,b)/\k a b:=match o,h with|q (a,b),h=>(fY a b C h)
def xW{v:V}{k:M->Prop}(h:cF v k):∃i,v= .fz (.int i)/\k i:=by cases v with
 |fz f=>cases f with|int i=>exact(aT i C h)|_=>exact h.elim
 |_=>exact h.elim
def DS{v:V}{k:ah->Prop}(h:gU v k):∃i,v= .fz (.str i)/\k i:=by cases v with
 |fz f=>cases f with|str i=>exact(aT i C h)|_=>exact h.elim
 |_=>exact h.elim
def ahw{v:V}{k:ak->Prop}(h:ja v k):∃i,v= .fz (.bool i)/\k i:=by cases v with
 |fz f=>cases f with|bool i=>exact(aT i C h)|_=>exact h.elim
 |_=>exact h.elim
def tC{v:V}{l:M->Prop}{m:ah->Prop}{p:Prop}(h:vK v l m p):cF v l\/gU v m\/p:=by cases v with
 |fz f=>cases f with|int i=>exact .inl h|str i=>exact .inr<|.inl h|_=>exact .inr<|.inr h
 |_=>exact .inr<|.inr h
def DT{o:FObj}{l:G F}(e:oM o=q l):o= .list l:=by cases o with|list m=>exact az _<|bH e|_=>injection e
def ahx{p:G FObj}{f:F}{l:G F}(e:zr p (.fz f)=q l):f= .af l:=by cases f with|af m=>exact az _<|bH e|_=>injection e
def ahy{m:G FObj}{v:V}{l:G F}(e:zr m v=q l):v= .fz (.af l)\/∃n,v= .ref n/\m[n]? =q (.list l):=by cases v with|fz f=>exact .inl<|az _<|ahx e|ref n=>exact .inr<|aT n C<|(jr.mp e).elim λo h=>h.1.trans<|az _<|DT h.2|_=>injection e
section
variable{u:cA}{w:b9}{x:bt}{d:aj}{c B:Cf}{f:Fr}{v:V}{y:au}
def ji{k:M->Prop}(r:aP u w c v y)(h:cF v k):∃i t,y= .int i t/\k i:=by refine av (xW h) λi l h=>?_;subst l;exact⟨i,r.imp λ_ e=>⟨e,h⟩⟩
def mu{k:ah->Prop}(r:aP u w c v y)(h:gU v k):∃i t,y= .str i t/\k i:=by refine av (DS h) λi l h=>?_;subst l;exact⟨i,r.imp λ_ e=>⟨e,h⟩⟩
def DU{k:ak->Prop}(r:aP u w c v y)(h:ja v k):∃i,y= .bool i/\k i:=by refine av (ahw h) λi l h=>?_;subst l;exact(aT i r h)
def m_{k:G F->Prop}(S:St u w x c)(r:aP u w c v y)(h:gF c.M.fl v k):∃l a i,y= .ref a/\pe c.h.get? a i/\bp u w c.b l i.toList/\k l:=
 (dq h).imp λl t=>(ahy t.1).elim
  (λe=>mH (λ_=>mH λ_ r=>(nB r.1 (r.2.1.imp λ_ m=>(mq m).2) r.2.2 t.2)) (e▸r:aP u w c (.fz<|.af l) y))
  λ⟨n,e,p⟩=>(S.fl n _ p rfl).2.elim λi m=>(jE _ i ((e▸r:aP u w c (.ref n) y).1) m.1 m.2 t.2)
noncomputable def Cf.tk(c:Cf)(l:aj):Cf:={c with s:={c.s with toks:=l}}
def Po{l:aj}:kP kO c (c.tk l):=⟨λ_ _ _ e=>⟨e,C⟩,λ_ h=>h.elim,λ_ _=>⟨C,C⟩,λ_ _=>⟨C,C⟩,bR _,bR _⟩
def nc(S:St u w x c)(m:aj):Nx u w x c (c.tk m):=⟨Po.st S (λa r g e=>(by injection(g.symm.trans e))) (λ_ _ l e _=>absurd (fC e)<|lX.mpr l) λ_ _ _ l e=>absurd (fC e)<|lX.mpr l,Po.ay,C,C⟩
def Go.tk{P:V->Mem->Prop}{Q:au->a8->Prop}(l:Go u w x c P Q)(S:St u w x c){m:aj}(p:P v c.M)(r:aP u w (c.tk m) v y):Q y {c.s with toks:=m}:=l v (c.tk m) y p (nc S m) r
def Go.here{P:V->Mem->Prop}{Q:au->a8->Prop}(l:Go u w x c P Q)(S:St u w x c)(p:P v c.M)(r:aP u w c v y):Q y c.s:=l v c y p (.refl S) r
end
def AJ(h:small i=D):i.natAbs<2^62:=dw h
def mw:aM<=sizeLine:=by calc U qH;decide
def vo[tY p][tY c](h:(decide p&&decide c)=D):p/\c:=by simpa using h
section
def bp.len:bp f w b l c->l.length=c.length:=bp.eF (P:=λl c=>l.length=c.length) C (λ_ _ _ _ _ _ h=>az (· +1) h) l
def bp.append(h:bp f w b l m)(c:bp f w b l' p):bp f w b (l++l') (m++p):=bp.eF (P:=λl m=>bp f w b (l++l')<|m++p) c (λ_ _ _ _ a _ h=>bV _ _ rfl a h) l h
def qk(f:cA)(w:b9)(l:bt)(c:Cf)(op:Fc):Prop:=∀(A:dY)(a b:V)(x y:au)(P:V->Mem->Prop)(Q E:au->a8->Prop),St f w l c->aP f w c a x->aP f w c b y->(wJ op a b c.M λv=>P v c.M)->Go f w l c P Q->aH (ax f w) A (binaryOp op x y) Q E c.s
def ahz:qk p w r c .Sub:=λA a b x y R Q E S B J e f=>by refine cq (ji B e) λi t m e=>?_;clear B;subst m;refine cq (ji J e) λl u m e=>?_;clear J;subst m;exact PyProof.Rows.sub_int'<|f.tk S e ⟨_,C⟩
def ahA(S:St m w p c)(B:aP m w c a x)(J:aP m w c b y)(e:cF a λi=>cF b λf=>R (.fz<|.int<|i+f) c.M)(l:Go m w p c R Q):aH (ax m w) A (binaryOp .Add x y) Q E c.s:=by refine cq (ji B e) λi t r e=>?_;clear B;subst r;refine cq (ji J e) λf u r e=>?_;clear J;subst r;exact PyProof.Rows.add_int<|l.tk S e ⟨_,C⟩
def ahB(S:St m w p c)(B:aP m w c a x)(J:aP m w c b y)(e:gU a λa=>gU b λb=>gd (a.length+b.length<=aM)<|R (.fz<|.str<|a++b) c.M)(f:Go m w p c R Q):aH (ax m w) A (binaryOp .Add x y) Q E c.s:=by refine cq (mu B e) λi t r e=>?_;clear B;subst r;refine cq (mu J e) λl u r e=>?_;clear J;subst r;exact PyProof.Rows.add_str (λL N=>f.tk S (dM e).2 ⟨_,C⟩)<|aG (dM e).1 mw
def sizes{i m:eD au}(h:bp f w b l i.toList)(p:bp f w b l' m.toList)(c:l.length+l'.length<=aM):i.size+m.size<=sizeLine:=by rw[h.len,p.len]at c;exact aG c mw
def Ij(S:St m w p c)(r:bp m w c.b l i.toList)(e:R (.fz<|.af l) c.M)(f:Go m w p c R Q):Q (.ref c.s.heap.objs.size) {c.s with heap:=c.s.heap.push {cls:=.type "list",data:=.seq i}}:=f (.fz<|.af l) (c.fz _) _ e (xV S C) (bV _ _ rfl ⟨_,DQ C⟩<|bp.bz xU.ay.b _ r)
def ahC(S:St r w t c)(L:aP r w c a x)(N:aP r w c b y)(e:gF c.M.fl a λl=>gF c.M.fl b λm=>gd (l.length+m.length<=aM)<|R (.fz<|.af<|l++m) c.M)(f:Go r w t c R Q):aH (ax r w) A (binaryOp .Add x y) Q E c.s:=dZ (m_ S L e) λ_ _ h=>lZ h λ_ O Y u Z=>dZ (m_ S N Z) λ_ _ k=>lZ k λ_ aW a_ B J=>U O<|U aW<|Y.elim λ_ p=>a_.elim λ_ z'=>P.add_list p z' (Ij S (U yU<|u.append B) (dM J).2 f)<|sizes u B (dM J).1
def ahD:qk p w r c .Add:=λ_ _ _ _ _ _ _ _ S l m e f=>(tC e).elim (λe=>ahA S l m e f) λe=>e.elim (λe=>ahB S l m e f) λe=>ahC S l m e f
end
section
def ng{k:M->M->Prop}{f:Prop}(p:aP m w c a x)(r:aP m w c b y)(e:cF a λi=>cF b λl=>k i l)(h:∀i t l u,x= .int i t->y= .int l u->k i l->f):f:=cq (ji p e) λi t B E=>cq (ji r E) λl u J L=>h i t l u B J L
def bh(h:(a&&b)=D):a=D/\b=D:=(ku a b).mp h
def ahE:qk m w p c .Mod:=λ_ _ _ _ _ _ _ _ S r x e f=>ng r x e λi t l u B E e=>by subst B E;exact PyProof.Rows.mod_int' (py.mp (cO e).1)<|f.tk S (cO e).2 ⟨_,C⟩
def ahF:qk p w r c .FloorDiv:=λ_ _ _ _ _ _ _ _ S x B e f=>ng x B e λi t l u E J e=>by subst E J;exact have m:=bh (cO e).1;PyProof.Rows.floordiv_int (py.mp m.1) (f.tk S (cO e).2 ⟨_,C⟩) (.inl<|PyProof.noPylong_small<|dw m.2)
def ahG:qk m w p c .RShift:=λ_ _ _ _ _ _ _ _ S r x e f=>ng r x e λi t l u B E e=>by subst B E;exact PyProof.Rows.rshift_int (dM e).1 (f.tk S (dM e).2 ⟨_,C⟩)
def ahH:qk m w p c .BitAnd:=λ_ _ _ _ _ _ _ _ S r x e f=>ng r x e λi t l u B E e=>by subst B E;exact PyProof.Rows.and_int<|f.tk S e ⟨_,C⟩
end
section
def Ik[tY p][tY c](h:(decide p&&decide c&&b)=D):p/\c/\b=D:=have f:=bh h;have y:=bh f.1;(cr (dw y.1) (dw y.2) f.2)
def ahI:qk p w r c .LShift:=λ_ _ _ _ _ _ _ _ S x B e f=>ng x B e λi t l u E J e=>by subst E J;exact have m:=Ik (cO e).1;have:=AJ m.2.2;have:=m.2.1;PyProof.Rows.lshift_int_small m.1 (ft ‹_› {}) (iD ‹_› {}) (f.tk S (cO e).2 ⟨_,C⟩)
def ahJ:qk p w r c .Pow:=λ_ _ _ _ _ _ _ _ S x B e f=>ng x B e λi t l u E J e=>by subst E J;exact have m:=Ik (cO e).1;have:=AJ m.2.2;have:=m.2.1;PyProof.Rows.pow_int_small m.1 (q5) (q1) (f.tk S (cO e).2 ⟨_,C⟩)
end
section
theorem Pp(c:eD au):∀(n:aj)(f:eD au),(arF (λl m=>l++m) f<|bN n c).toList=f.toList++(bN n c.toList).flatten|0,f=>(bK _).symm|n+1,f=>(Pp c n _).trans (by exact U TX<|U arc<|U yU<|U (cZ ..) C)
def ahK(c:eD au)(n:aj):(arF (λf l=>f++l) #[] (bN (if c.isEmpty=D then 0 else n) c)).toList=(bN n c.toList).flatten:=by
 by_cases e:c.isEmpty=D;·calc U (cE e);obtain rfl:=arG.mp e;simp
 ·exact U (cB e)<|Pp c n #[]
def bp.gx(r:bp c w b l f):∀n,bp c w b (bN n l).flatten (bN n f).flatten|0=>rfl|n+1=>r.append<|r.gx n
def ahL(f:mI s.heap l c k)(J:0<=x)(t:x<=1000)(m:c.size<=100)(h:∀p:eD au,p.toList=(bN x.toNat c.toList).flatten->Q (.ref s.heap.objs.size) {s with heap:=s.heap.push {cls:=.type "list",data:=.seq p}}):aH (ax r w) A (binaryOp .Mult (.ref l)<|.int x u) Q E s:=by
 have L:c.size*x.toNat<=100*1000:=aj.mul_le_mul m (by simp_all);exact wpAny_binaryOp_repeat_ref (T:="list") (U:="int") {} ⟨_,f,C⟩ (λB=>Up B x u) noFill_list_mul F.fills_int_mul arH repeat_list F.slot_int_index.lookup
  (yX arH (Up s x u) F.entry_int_rmul (F.args_int_rmul_2 _ _) (int___rmul___int_list x u l c k)
   ⟨f,C,⟨_,f,C⟩,yX F.slot_list_mul ⟨_,f,C⟩ F.entry_list_mul (F.args_list_mul_2 _ _)
    (AutoListH.list___mul___list_int_3 l c k x u (by simp[arI];exact⟨q8,q6⟩) (by lia) (by simp[Builtin.List.listTooLong,sizeLine];exact q1))
    ⟨f,h _<|ahK c x.toNat⟩⟩)
end
section
def ahM(c:small a=D):IntMulOk a b:=have f:=AJ c;IntMulOk.of_left (PySem.intBits_le_64 (by omega) (by omega))
def ahN(S:St m w p c)(r:aP m w c a x)(B:aP m w c b y)(e:cF a λi=>cF b λf=>gd (small i)<|R (.fz<|.int<|i*f) c.M)(l:Go m w p c R Q):aH (ax m w) A (binaryOp .Mult x y) Q E c.s:=ng r B e λi t f u J L e=>by subst J L;exact PyProof.Rows.mul_int (l.tk S (cO e).2 ⟨_,C⟩)<|ahM (cO e).1
def ahO(S:St p w r c)(B:aP p w c a x)(J:aP p w c b y)(e:gF c.M.fl a λl=>cF b λn=>gd (0<=n&&n<=1000&&l.length<=100)<|R (.fz<|.af (bN n.toNat l).flatten) c.M)(f:Go p w r c R Q):aH (ax p w) A (binaryOp .Mult x y) Q E c.s:=oC (m_ S B e) λ_ _ _ L N t O=>cq (ji J O) λ_ _ P u=>U L<|U P<|have m:=Ik (cO u).1;N.elim λ_ Y=>ahL Y m.1 m.2.1 (aG (cY t.len.symm)<|dw m.2.2) λjP Z=>Ij S (Z▸t.gx _) (cO u).2 f
def ahP:qk l w m c .Mult:=λ_ _ _ _ _ _ _ _ S p r e f=>(tC e).elim (λe=>ahN S p r e f) λe=>e.elim (λe=>av (DS e) λ_ _ t=>t.elim) λe=>ahO S p r e f
def ahQ:∀op,qk f w l c op| .Add=>ahD| .Sub=>ahz| .Mult=>ahP| .Mod=>ahE| .FloorDiv=>ahF| .LShift=>ahI| .RShift=>ahG| .BitAnd=>ahH| .Pow=>ahJ| .MatMult=>λ_ _ _ _ _ _ _ _ _ _ _ e _=>e.elim| .Div=>λ_ _ _ _ _ _ _ _ _ _ _ e _=>e.elim| .BitOr=>λ_ _ _ _ _ _ _ _ _ _ _ e _=>e.elim| .BitXor=>λ_ _ _ _ _ _ _ _ _ _ _ e _=>e.elim
end
section
variable{u:cA}{w:b9}{B:bt}{d:aj}{c J:Cf}{f:Fr}{v:V}{A:dY}{s:a8}{x y:au}{b:Bv}
def ahR{f:F}{l:G F}{r:G M}(e:gV (f::l)=q r):∃i p,f= .int i/\gV l=q p/\i::p=r:=by cases f with|int i=>exact av (iE.mp e) λp h m=>bV i p rfl h m|_=>injection e
def ahS{f:F}{l:G F}{r:G ah}(e:iG (f::l)=q r):∃i p,f= .str i/\iG l=q p/\i::p=r:=by cases f with|str i=>exact av (iE.mp e) λp h m=>bV i p rfl h m|_=>injection e
def vu{l:G F}{t:G au}{is:G M}(h:bp u w b l t):gV l=q is->wn t is:=bp.eF (P:=λl t=>∀is,gV l=q is->wn t is) (λ_ e=>bH e▸ .nil) (λf v l r a _ m is e=>dh (ahR e) λi E p h k=>k▸(U (P:=λf=>bD u w b f v->wn (v::r) (i::E)) p (λa=>a.elim λ_ a=>U a<|.cons _ _<|m _ h) a)) l h is
def AK{l:G F}{t:G au}{is:G ah}(h:bp u w b l t):iG l=q is->Uq t is:=bp.eF (P:=λl t=>∀is,iG l=q is->Uq t is) (λ_ e=>bH e▸ .nil) (λf v l r a _ m is e=>dh (ahS e) λi E p h k=>k▸(U (P:=λf=>bD u w b f v->Uq (v::r) (i::E)) p (λa=>a.elim λ_ a=>U a<|.cons _ _<|m _ h) a)) l h is
def ahT{l:Type}[k_ l](p:l×au)(r:G (l×au))(k:l):valueAt (p::r) k=if p.1=k then q p.2 else valueAt r k:=by
 by_cases m:p.1=k;·exact(az (ar.map _)<|arJ (p:=λp:l×au=>aa<|p.1=k) (a:=p)<|de m).trans (cE m).symm
 ·exact(az (ar.map _)<|arK (p:=λp:l×au=>aa<|p.1=k) (a:=p) λh=>m<|dw h).trans (cB m).symm
variable(u w)in
def ql(b:Bv):ar F->ar au->Prop|some f,q v=>bD u w b f v|none,z=>True|_,_=>False
def ql.isSome{o:ar F}{l:ar au}:ql u w b o l->l.isSome=o.isSome:=oc (P:=λo=>ql u w b o l->l.isSome=o.isSome) o (oc l (λ_=>C) λ_ h=>h.elim) λ_=>oc l (λh=>h.elim) λ_ _=>C
def Ps{m:Type}[BEq m]{k:m}{e:m×F}{l:G (m×F)}(h:(e.1==k)=D):aQ k (e::l)=q e.2:=az (λb=>match b with|D=>q e.2|j=>aQ k l) h
def Pt{m:Type}[BEq m]{k:m}{e:m×F}{l:G (m×F)}(h:(e.1==k)=j):aQ k (e::l)=aQ k l:=az (λb=>match b with|D=>q e.2|j=>aQ k l) h
def Pu{m:Type}[k_ m]{k E:m}{e:F}{l:G (m×F)}{v:au}{r:G (m×au)}(h:bD u w b e v)(p:ql u w b (aQ k l) (valueAt r k)):ql u w b (aQ k<|(E,e)::l) (valueAt ((E,v)::r) k):=U (ahT ..) (if t:E=k then U (cE t) (U (Ps<|bw.mpr t) h)else U (cB t) (U (Pt<|mF.mpr t) p))
def eu.aQ{k:ah}{l:G (ah×F)}{p:G (ah×au)}:eu u w b l p->ql u w b (Mine.aQ k l) (valueAt p k):=eu.eF (P:=λl p=>ql u w b (Mine.aQ k l)<|valueAt p k) trivial (λ_ _ _ _ _ a _ m=>Pu a m) l
def dX.aQ{k:M}{l:G (M×F)}{p:G (M×au)}:dX u w b l p->ql u w b (Mine.aQ k l) (valueAt p k):=dX.eF (P:=λl p=>ql u w b (Mine.aQ k l)<|valueAt p k) trivial (λ_ _ _ _ _ a _ m=>Pu a m) l
def ahU{m:Type}[k_ m]{k:m}{l:G (m×F)}:has k l=(aQ k l).isSome:=by induction l with|nil=>exact C|cons e l ih=>exact U (P:=λx=>x=_) B3<|bX (e.1==k) (λh=>U h<|U (Ps h) C) λh=>U h<|U (Pt h) ih
variable(u w)in
def vw(A:dY)(s:a8)(x y:au)(op:t_)(r:ak):Prop:=∀(Q E:au->a8->Prop),(∀l,Q (.bool r) {s with toks:=l})->aH (ax u w) A (compareOp op x y) Q E s
variable(u w)in
def mx(A:dY)(s:a8)(x y:au)(r:ak):Prop:=vw u w A s x y .In r/\vw u w A s x y .NotIn (!r)
def qm(i:M)(t:lY):(eY u w).is i (.int i t)=D:=jB i
def Pv(x:ah)(t:lY):(nz u w).is x (.str x t)=D:=jB x
def lJ.of{h:bt}{l:Type}[k_ l]{m:sv u w l}{a:aw}{o:dy}{p:G (l×au)}(e:h.get? a=q o)(x:lJ u w m o p):h.DictOf m a p:=dZ x.2 λr t h=>(Vg o r t e x.1 h)
def ahV{m:Type}[k_ m]{p:sv u w m}{l:G ug}(h:Pairs p l []):l=[]:=by cases h;rfl
def lJ.empty{l t:Type}[k_ l][k_ t]{p:sv u w l}{r:sv u w t}{o:dy}(x:lJ u w p o []):lJ u w r o []:=
 ⟨x.1,mJ x.2 λE L N _ O _=>have m:=ahV O
  jE E L N (λe P=>absurd (m▸Ur.mpr P) gk) (U m .nil) Lz⟩
def Il{p:Type}[k_ p]{L:sv u w p}{a:aw}{l:G (p×F)}{N:G (p×au)}{k:p}(O:L.is k x=D)(P:iX u w L s.heap.get? a N)(r:ql u w b (aQ k l) (valueAt N k)):mx u w A s x (.ref a) (has k l):=
 cP P λ_ Q R Y=>have m:=(R.of Q).mapOf;have t:=mF.mpr Y;have E:=r.isSome.trans ahU.symm
  ⟨λ_ _ g=>wpAny_in_of O t m<|E▸g _,λ_ _ g=>wpAny_notIn_of O t m<|E▸g _⟩
def ahX{a:aw}{l:G (M×F)}{m:G (M×au)}{k:ah}(p:(nz u w).is k x=D)(t:iX u w (eY u w) s.heap.get? a m)(r:dX u w b l m)(e:l.isEmpty=D):mx u w A s x (.ref a) j:=by obtain rfl:=pz.mp e;subst r;exact Il (b:=b) (l:=[]) (N:=[]) p (t.imp λ_ h=>(cr h.1 h.2.1.empty h.2.2)) trivial
def gQ.of{h:bt}{a:aw}{o:dy}{l:G M}(e:h.get? a=q o)(x:gQ u w o l):h.SetOf (eY u w) a (λk=>l.contains k) l.length:=qO x λm _ p=>Vo p λr E t L=>(Vh o r E t e m L)
def ahY{a:aw}{o:dy}{l:G M}{i:M}{t:lY}(h:s.heap.get? a=q o)(x:gQ u w o l):mx u w A s (.int i t) (.ref a) (l.contains i):=⟨λ_ _ m=>wpAny_inSet_of (qm i t) C (x.of h)<|m _,λ_ _ m=>wpAny_notInSet_of (qm i t) C (x.of h)<|m _⟩
def ahZ{a:aw}{i:eD au}{l:G F}{k:ah}{t:lY}{P:ak->Prop}(h:pe s.heap.get? a i)(r:bp u w b l i.toList)(e:oP (iG l) λl=>P<|l.any (· ==k)):∃r,P r/\mx u w A s (.str k t) (.ref a) r:=
 av (dq e) λO p L=>h.elim λ_ N=>(aT _ L<|have E:s.heap.IsList a i.toList.toArray:=hU N
  ⟨λ_ _ m=>in_list_strs E (AK r p)<|m s.toks,λ_ _ m=>notin_list_strs E (AK r p)<|m s.toks⟩)
def ah0{g:Bv}{h:bt}{a:aw}{i:eD au}(k:∀a o,g a=q o->h.get? a=q o)(e:Mine.IsTup g a i):Us h a i:=e.elim λm l=>(cN _ (k _ _ l) C ⟨m,C⟩)
def lM{a:aw}{o:dy}(e:c.b a=q o):c.h.get? a=q o:=(mq e).2
end
section
variable{m:cA}{w:b9}{c:Cf}{A:dY}{s:a8}{y:au}{b:Bv}{P:ak->Prop}
def ah1(r:aP m w c (.fz<|.ds l) y):∃a i,y= .ref a/\iX m w (nz m w) c.h.get? a i/\eu m w c.b l i:=mH (λ_=>mH λ_ h=>(cr h.1 (h.2.1.imp λ_ f=>⟨lM f.1,f.2⟩) h.2.2)) r
def xX(r:aP m w c (.fz<|.di l) y):∃a i,y= .ref a/\iX m w (eY m w) c.h.get? a i/\dX m w c.b l i:=mH (λ_=>mH λ_ h=>(cr h.1 (h.2.1.imp λ_ f=>⟨lM f.1,f.2⟩) h.2.2)) r
def ah2(S:St m w f c)(r:aP m w c (.ref n) y)(e:c.M.fl[n]? =q (.ds l)):∃a i,y= .ref a/\iX m w (nz m w) c.h.get? a i/\eu m w c.b l i:=(S.fl n _ e C).2.elim λi h=>(fY _ i r.1 h)
def AL(S:St m w f c)(r:aP m w c (.ref n) y)(e:c.M.fl[n]? =q (.di l)):∃a i,y= .ref a/\iX m w (eY m w) c.h.get? a i/\dX m w c.b l i:=(S.fl n _ e C).2.elim λi h=>(fY _ i r.1 h)
def Pw(S:St m w f c)(r:aP m w c (.ref n) y)(e:c.M.fl[n]? =q (.set l)):∃a o,y= .ref a/\c.h.get? a=q o/\gQ m w o l:=(S.fl n _ e C).2.elim λo h=>(fY _ o r.1 h)
def Im(S:St m w f c)(r:aP m w c (.ref n) y)(e:c.M.fl[n]? =q (.list l)):∃a i,y= .ref a/\pe c.h.get? a i/\bp m w c.b l i.toList:=(S.fl n _ e C).2.elim λi h=>(fY _ i r.1 h)
def DV(r:aP m w c (.fz<|.af l) y):∃a i,y= .ref a/\pe c.h.get? a i/\bp m w c.b l i.toList:=mH (λ_=>mH λ_ h=>(cr h.1 (h.2.1.imp λ_=>lM) h.2.2)) r
def DW(r:aP m w c (.fz<|.ai l) y):∃a i,y= .ref a/\Us c.h a i/\bp m w c.b l i.toList:=mH (λ_=>mH λ_ h=>(cr h.1 (ah0 (λ_ _=>lM) h.2.1) h.2.2)) r
def ah3(r:aP m w c (.fz<|.ai l) y)(e:oP (iG l) λl=>P<|l.any (· ==k)):∃r,P r/\mx m w A c.s (.str k t) y r:=av (dq e) λ_ p B=>dh (DW r) λ_ _ E u x=>E▸(cN _ B (λ_ _ f=>in_tuple_strs u (AK x p)<|f c.s.toks) λ_ _ f=>notin_tuple_strs u (AK x p)<|f c.s.toks)
def ah4(r:aP m w c (.fz<|.ai l) y)(e:oP (gV l) λl=>P<|l.any (· ==k)):∃r,P r/\mx m w A c.s (.int k t) y r:=av (dq e) λ_ p B=>dh (DW r) λ_ _ E u x=>E▸(cN _ B (λ_ _ f=>in_tuple_ints u (vu x p)<|f c.s.toks) λ_ _ f=>notin_tuple_ints u (vu x p)<|f c.s.toks)
def Px{l:G F}{k:ah}{t:lY}(r:∃a i,y= .ref a/\pe c.h.get? a i/\bp m w c.b l i.toList)(e:oP (iG l) λl=>P<|l.any (· ==k)):∃r,P r/\mx m w A c.s (.str k t) y r:=dh r λ_ _ f p u=>f▸ahZ p u e
def Py{l:G (ah×F)}{k:ah}{t:lY}(r:∃a i,y= .ref a/\iX m w (nz m w) c.h.get? a i/\eu m w c.b l i)(e:P (has k l)):∃r,P r/\mx m w A c.s (.str k t) y r:=dh r λ_ _ f p u=>f▸(aT _ e<|Il (Pv k t) p u.aQ)
def Pz{l:G (M×F)}{k:M}{t:lY}(r:∃a i,y= .ref a/\iX m w (eY m w) c.h.get? a i/\dX m w c.b l i)(e:P (has k l)):∃r,P r/\mx m w A c.s (.int k t) y r:=dh r λ_ _ f p u=>f▸(aT _ e<|Il (qm k t) p u.aQ)
def PA{l:G (M×F)}{k:ah}{t:lY}(r:∃a i,y= .ref a/\iX m w (eY m w) c.h.get? a i/\dX m w c.b l i)(e:gd l.isEmpty (P j)):∃r,P r/\mx m w A c.s (.str k t) y r:=dh r λ_ _ f p u=>f▸(aT _ ((cO e).2)<|ahX (Pv k t) p u (cO e).1)
def PB{l:G M}{k:M}{t:lY}(r:∃a o,y= .ref a/\c.h.get? a=q o/\gQ m w o l)(e:P (l.contains k)):∃r,P r/\mx m w A c.s (.int k t) y r:=dh r λ_ _ f p u=>f▸(aT _ e<|ahY p u)
def PC(r:aP m w c (.fz<|.set l) y):∃a o,y= .ref a/\c.h.get? a=q o/\gQ m w o l:=mH (λ_=>mH λ_ h=>(cr h.1 (lM h.2.1) h.2.2)) r
def ah5(S:St m w J c)(r:aP m w c v y)(e:L9 c.M.fl k v P):∃r,P r/\mx m w A c.s (.str k t) y r:=by
 cases v with
 |fz f=>cases f with|str p=>exact r.elim λu h=>h▸(cN _ e (λ_ _ x=>PyProof.Rows.in_str<|x c.s.toks) λ_ _ x=>PyProof.Rows.notIn_str<|x c.s.toks)|ai l=>exact ah3 r e|af l=>exact Px (DV r) e|ds l=>exact Py (ah1 r) e|di l=>exact PA (xX r) e|_=>exact e.elim
 |ref n=>exact av (dq e) λo E B=>by cases o with|ds l=>exact Py (ah2 S r E) B|di l=>exact PA (AL S r E) B|list l=>exact Px (Im S r E) B|_=>exact B.elim
 |_=>exact e.elim
def ah6(S:St m w u c)(r:aP m w c v y)(e:L_ c.M.fl k v P):∃r,P r/\mx m w A c.s (.int k t) y r:=by
 cases v with
 |fz f=>cases f with|ai l=>exact ah4 r e|di l=>exact Pz (xX r) e|set l=>exact PB (PC r) e|_=>exact e.elim
 |ref n=>exact av (dq e) λo x p=>by cases o with|di l=>exact Pz (AL S r x) p|set l=>exact PB (Pw S r x) p|_=>exact p.elim
 |_=>exact e.elim
def PD(S:St m w t c)(f:aP m w c u x)(r:aP m w c v y)(e:FT c.M.fl u v P):∃r,P r/\mx m w A c.s x y r:=(tC e).elim (λe=>cq (ji f e) λ_ _ l p=>l▸ah6 S r p) λe=>e.elim (λe=>cq (mu f e) λ_ _ l p=>l▸ah5 S r p) False.elim
end
def ah7{m c:Type}{b:c}:∀{l:G m}{f:m->c->jW (Ut c)},(∀x∈l,f x b=pure (.yield b))->forIn l b f=(pure b:jW c):=by intro p;induction p with|nil=>intro f _;exact C|cons x l ih=>intro f h;refine U (yY ..)<|U (h x<|.head _) ?_;exact ih λy r=>h y<|.tail _ r
section
def PE(h:Cc (eY c w) f):∀x∈f,arL x.2=pure D:=λx l=>by obtain⟨⟨k,m,_⟩,_⟩:=h x l;obtain⟨t,e⟩:=Ce m;exact U e C
def ah8(u:s.heap.get? a=q B)(J:s.heap.get? b=q L)(N:B.data= .set p ep t)(O:t.fits p.size=D)(P:Cc (eY f w) p.toList)(R:L.data= .set r og Y)(Z:Y.fits r.size=D)(DX:Cc (eY f w) r.toList)(c:Q p.toList s):aH (ax f w) A (Builtin.Frozenset.walkUnseen a b) Q E s:=by
 refine aL<|aL<|pA u N O<|bu<|aL<|aL<|pA J R Z<|bu ?_;have l:∀x∈p.toList++r.toList,arL x.2=pure D:=λx m=>by
  rcases i7.mp m with m|m
  ·exact PE P x m
  ·exact PE DX x m
 rw[ah7 λx m=>by obtain⟨h,y⟩:=x;have:=l _ m;dsimp only at this⊢;rw[this];rfl];exact aL<|bu<|bu c
end
section
def ah9(h:(eY c w).is k v=D)(f:(eY c w).is l v=D):l=k:=(Ce h).elim λt e=>(Ce f).elim λp m=>(Fz.inj<|m.symm.trans e).1
noncomputable def ah_(id:jC)(a b:aw)(c:aj)(x:M×au)(_:ar ak×jX):jW (Ut<|ar ak×jX):=do
 let r<-holding [x.2] (setFind b x.2 x.1)
 if r.isNone=D then pure (Ut.done (q j,jX.unit))
  else do
   Builtin.Frozenset.unchanged id a c
   pure (Ft (z,jX.unit))
def aia{id:jC}{m:G M}(Y:s.heap.get? a=q Z)(hd:Z.data= .set es ep t)(hf:t.fits es.size=D)(hS:s.heap.SetOf (eY l w) b (λk=>m.contains k) n):Cc (eY l w) L->((∀x∈L,∀k,(eY l w).is k x.2=D->m.contains k=D)->Q (z,jX.unit) s)->((∃x∈L,∃k,(eY l w).is k x.2=D/\m.contains k=j)->Q (q j,jX.unit) s)->aH (ax l w) A (forIn L ((z:ar ak),jX.unit)<|ah_ id a b ep) Q E s:=by induction L with|nil=>exact λ_ u _=>bu<|u λx hx=>absurd hx gk|cons x L ih=>exact λO u P=>fH (O x<|.head _) λc B=>av c λk J hh=>U (yY ..)<|aL<|aL<|i8<|U hh (wpAny_setFind_of J B hS λr=>oc r (λN=>bu<|bu<|P<|aT x (.head _)<|aT k J N.symm) λf N=>aL<|aL<|aL<|pA Y hd hf<|bu<|Fv (g9 (by simp))<|bu<|bu<|ih (λy p=>O y<|.tail _ p) (λg=>u λy p k' R=>(i6.mp p).elim (λe=>ah9 J (e▸R)▸N.symm) λp=>g y p k' R) λg=>P<|g.imp λy g=>⟨.tail _ g.1,g.2⟩)
def aic{id:jC}(p:s.heap.get? a=q oa)(B:s.heap.get? b=q ob)(da:gQ f w oa l)(db:gQ f w ob m)(c:Q (l.all m.contains) s):aH (ax f w) A (arM id a b) Q E s:=wF da.2.2 λes ep t r kR hm hsz u hl=>wF db.2.2 λj_ og t' J DX L N O fM=>have qf:(l.all m.contains=D->False)->Q j s:=λh=>arN.mpr h▸c;aL (aL<|aL<|pA p r u<|bu<|bu<|aL<|aL<|aL<|pA B J O<|bu<|bu<|wpAny_ite_split (λP:es.size>j_.size=>bu<|qf λe=>arO P<|hl▸fM▸Uu da.2.1 λx R=>fW.mp<|fc.mp e x R) λ_=>aL<|aL<|pA p r u<|bu<|aL<|ah8 p B r u kR J O DX<|aL<|aia p r u (Vi ob j_ og t' B db.1 J DX L N O C) kR (λg=>bu<|(fc.mpr λk Y=>av ((hm k).mp<|fW.mpr Y) λe he Z=>g e he k Z:l.all m.contains=D)▸c) λg=>bu<|qf λe=>av g λx R g=>av g λk Z hc=>su<|hc.symm.trans<|fc.mp e k<|fW.mp<|(hm k).mpr<|aT x R Z)
end
def aig:entryFor table "set.__le__"=q Builtin.«frozenset.__le__»:=entryFor_alias (id':="frozenset.__le__") () C (by decide+kernel) ()
section
def aih(a b:aw):∃k:ak->jW arP,Builtin.«frozenset.__le__» {.ref a,.ref b}=(arQ (.ref b)>>=k)/\ k D=(Uv a>>=λ_=>Uv b>>=λ_=>arM "frozenset.__le__" a b>>=λr=>ret<|.bool r):=(aT _ rfl rfl)
def aii(hu:A.units+100<=cLine)(B:s.heap.get? a=q R)(J:s.heap.get? b=q Y)(L:gQ f w R l)(N:gQ f w Y m):vw f w A s (.ref a) (.ref b) .LtE (l.all m.contains):=λQ E c=>have Z:s.TypeIs (.ref a) "set":=(aT R B L.1.1);have PG:s.TypeIs (.ref b) "set":=(aT Y J N.1.1);wpAny_richCompare_same_room (op:=.LtE) Z PG arR (LA arR Z aig (av (aih a b) λk e1 e2=>U e1<|have p:∀{O:dY}{r:ak->a8->Prop}{P:au->a8->Prop},r D s->aH (ax f w) O (arQ<|.ref b) r P s:=λh=>aL (m:=isInstance (.ref b)<|.type "set")<|aL<|auu PG<|U PySem.F.sub_set_set<|bu<|bu h;aL (p (U e2<|have u:∀{x:aw}{o:dy}{l:G M}{O:dY}{r:aj->a8->Prop}{P:au->a8->Prop},s.heap.get? x=q o->gQ f w o l->(∀n,r n s)->aH (ax f w) O (Uv x) r P s:=λhx dx h=>qO dx λ_ _ fB=>wF fB λes ep t hd _ _ _ hf _=>aL (aL<|pA hx hd hf<|bu<|bu<|h _);aL (u B L λ_=>aL (u J N λ_=>aL<|aic B J L N<|bu<|cN _ rfl (λe=>(by injection e))<|c s.toks)))))<|PySem.F.args_set_le_2 _ _) (by lia)
end
def DY(h:wn c is):c.length=is.length:=by induction h with|nil=>rfl|cons _ _ _ ih=>exact az (· +1) ih
def Ip(h:wn l is):∀(c:aj)(f:c<l.length),∃t,l[c]= .int (is.getD c 0) t:=by induction h with|nil=>intro c f;exact absurd f<|Fw _|cons n t _ ih=>intro c f;cases c with|zero=>exact⟨t,C⟩|succ c=>exact ih c<|Uw f
def aij(a b:G M)(l:a.length=b.length):((jn a.length).all λc=>a.getD c 0==b.getD c 0)=(a==b):=by
 rw[Ui];simp only[fc,Fo,bw];constructor;·refine λh=>arS l λi f m=>?_;have:=h i f;simpa [Ux,f,m]using this
 ·rintro rfl i _;rfl
def AN(i c:eD au)(r:ak):Prop:=((i.size !=c.size)=D/\r=j)\/∃f:aj->ak,i.size=c.size/\(∀k(l:k<i.size)(m:k<c.size),MeetsSeq.EqGives i[k] c[k] (f k))/\(jn i.size).all f=r
section
variable{p:cA}{w:b9}{P:ak->Prop}
def aik(h:wn i.toList k)(m:wn c.toList l):AN i c (k==l):=by
 have l1:i.size=k.length:=DY h;have l2:c.size=l.length:=DY m;by_cases f:k.length=l.length;·exact .inr<|cN (λn=>k.getD n 0==l.getD n 0) (l1.trans<|f.trans l2.symm) (λn q1 q2=>(Ip h n q1).elim λt r=>(Ip m n q2).elim λx u=>U (show i[n]=_ from r)<|U (show c[n]=_ from u)<|MeetsSeq.EqGives.int _ _ _ _)<|(az (λn=>(jn n).all _) l1).trans<|aij k l f
 ·exact .inl ⟨py.mpr λe=>f<|l1.symm.trans<|e.trans l2,mF.mpr λe=>f<|az _ e⟩
def ail(h:n=i.size)(l:0=c.size):AN i c (n==0):=by cases n with|zero=>exact .inr<|cN (λ_=>D) (h.symm.trans l) (λk f=>absurd (h▸f)<|Fw _)<|U (Eq.symm h) C|succ n=>exact .inl ⟨by refine U (Eq.symm h)<|U (Eq.symm l) ?_;rfl,C⟩
def aim(h:n=i.size)(l:0=c.size):AN c i (n==0):=by cases n with|zero=>exact .inr<|cN (λ_=>D) (l.symm.trans h) (λk f=>absurd (l▸f)<|Fw _)<|U (Eq.symm l) C|succ n=>exact .inl ⟨by refine U (Eq.symm h)<|U (Eq.symm l) ?_;rfl,C⟩
def bp.size{i:eD au}(h:bp p w b l i.toList):l.length=i.size:=h.len
def PH{c:Type}{l:G c}:l.isEmpty=(l.length==0):=by cases l<;>rfl
def ain(h:bp p w b l i.toList)(f:bp p w b m c.toList)(e:FS l m P):∃r,P r/\AN i c r:=by cases m with|nil=>exact(aT _ e<|PH (l:=l)▸ail h.size f.size)|cons a m=>cases l with|nil=>exact(aT _ e<|PH (l:=a::m)▸aim f.size h.size)|cons E l=>exact av (dq e) λk t u=>av (dq u) λn x B=>(aT _ B<|aik (vu h t)<|vu f x)
variable(p w)in
def AO(A:dY)(s:a8)(x y:au)(r:ak):Prop:=vw p w A s x y .Eq r/\vw p w A s x y .NotEq (!r)
def eT.cl(h:eT A d):A.units+100<=cLine:=aG (iC (mB _ _) (by decide:100<=200))<|aG h.units {}
def eT.DZ(h:eT A d):A.units<cLine:=iD (T4 {}) h.cl
theorem aio(u:eT A d)(h:pe s.heap.get? a i)(t:pe s.heap.get? J c)(e:AN i c r):AO p w A s (.ref a) (.ref J) r:=
 h.elim λ_ h=>t.elim λ_ t=>have l:=hU h;have l':=hU t
  e.elim (λf=>f.2▸⟨λQ _ m=>P.eq_list_lengths h t f.1 u.DZ<|m s.toks,λQ E m=>PySem.SeqAt.RcNeAt.lists_lengths l l' f.1 u.DZ p w E Q<|m s.toks⟩)
   λf=>cP f λ_ x B L=>L▸⟨λQ _ m=>P.eq_list h t x B u.DZ<|m s.toks,λQ E m=>PySem.SeqAt.RcNeAt.lists l l' x u.DZ (λc N O=>(B c N O).at _ _) p w E Q<|m s.toks⟩
def aip(f:aP p w c u x)(r:aP p w c v y)(e:cF u λa=>cF v λb=>P<|a==b):∃r,P r/\AO p w A c.s x y r:=ng f r e λi t l E m B e=>m▸B▸(cN _ e (λ_ _ f=>arT<|f c.s.toks) λ_ _ f=>PyProof.Rows.ne_int<|f c.s.toks)
def aiq(f:aP p w c u x)(r:aP p w c v y)(e:gU u λa=>gU v λb=>P<|a==b):∃r,P r/\AO p w A c.s x y r:=cq (mu f e) λ_ _ l m=>cq (mu r m) λ_ _ t B=>l▸t▸(cN _ B (λ_ _ f=>PyProof.Rows.eq_str<|f c.s.toks) λ_ _ f=>PyProof.Rows.ne_str<|f c.s.toks)
def air(E:eT A d)(S:St p w B c)(f:aP p w c u x)(r:aP p w c v y)(e:gF c.M.fl u λl=>gF c.M.fl v λm=>FS l m P):∃r,P r/\AO p w A c.s x y r:=dZ (m_ S f e) λ_ _ h=>lZ h λ_ J L N O=>dZ (m_ S r O) λ_ _ k=>lZ k λ_ Q R Y Z=>(ain N Y Z).imp λ_ t=>⟨t.1,J▸Q▸aio E L R t.2⟩
def PI(m:eT A d)(S:St p w l c)(f:aP p w c u x)(r:aP p w c v y)(e:zs u v c.M P):∃r,P r/\AO p w A c.s x y r:=(tC e).elim (aip f r) λe=>e.elim (aiq f r)<|air m S f r
end
section
variable{P:ak->Prop}
def PJ(r:aP m w c v y):plainIs y .none=D/\(y== .none)=isNone v:=by
 cases v with
 |fz f=>cases f with|none=>subst r;exact⟨C,C⟩|bool=>subst r;exact⟨C,C⟩|int=>exact r.elim λ_ h=>h▸⟨C,C⟩|str=>exact r.elim λ_ h=>h▸⟨C,C⟩|bytes=>exact r.elim λ_ h=>h▸⟨C,C⟩|_=>exact cq r λ_ _ l _=>l▸⟨C,C⟩
 |exc=>exact av r λ_ l _=>l▸⟨C,C⟩
 |_=>exact r.1▸⟨C,C⟩
def Iq(h:isNone v=D):v= .fz .none:=by
 cases v with
 |fz f=>cases f<;>first|rfl|injection h
 |_=>injection h
def PK(e:Cr o=q l):o= .set l:=by cases o with|set m=>exact az _<|bH e|_=>injection e
def D0(S:St p w t c)(r:aP p w c v y)(e:sE c.M.fl v=q l):∃a o,y= .ref a/\c.h.get? a=q o/\gQ p w o l:=by
 cases v with
 |fz f=>cases f with
  |set m=>injection e with e;subst e;exact PC r
  |_=>injection e
 |ref n=>exact av (jr.mp e) λo u x=>Pw S r<|u.trans<|az _<|PK x
 |_=>injection e
def ais(E:eT A d)(S:St p w B c)(f:aP p w c u x)(r:aP p w c v y)(e:oP (sE c.M.fl u) λl=>oP (sE c.M.fl v) λm=>P<|l.all m.contains):∃r,P r/\vw p w A c.s x y .LtE r:=av (dq e) λ_ J L=>av (dq L) λ_ N O=>(D0 S f J).elim λ_ Q=>cP Q λ_ R Y Z=>(D0 S r N).elim λ_ k'=>cP k' λ_ oh qo t=>R▸oh▸(aT _ O<|aii E.cl Y qo Z t)
def PL(r:aP l w c u x)(f:aP l w c v y)(h:gd (isNone v) R):y= .none/\plainIs x .none=D/\(x== .none)=isNone u/\R:=by obtain rfl:=Iq (cO h).1;exact(nB f ((PJ r).1) ((PJ r).2)<|(cO h).2)
def ya(t:eT A d)(S:St l w B c)(f:aP l w c u x)(r:aP l w c v y):∀{op:t_},wK op u v c.M P->∃r,P r/\vw l w A c.s x y op r| .Is,e=>have h:=PL f r e;(aT _ h.2.2.2 λ_ _ g=>h.1▸wpAny_is_plain h.2.1 (h.2.2.1▸g c.s.toks))| .IsNot,e=>have h:=PL f r e;(aT _ h.2.2.2 λ_ _ g=>h.1▸wpAny_isNot_plain h.2.1 (h.2.2.1▸g c.s.toks))| .In,e=>(PD S f r e).imp λ_ h=>⟨h.1,h.2.1⟩| .NotIn,e=>(PD S f r e).elim λ_ h=>(aT _ h.1 h.2.2)| .Eq,e=>(PI t S f r e).imp λ_ h=>⟨h.1,h.2.1⟩| .NotEq,e=>(PI (P:=λb=>P<|!b) t S f r e).elim λ_ h=>(aT _ h.1 h.2.2)| .Lt,e=>ng f r e λ_ _ _ _ m p e=>m▸p▸(aT _ e λ_ _ g=>PyProof.Rows.lt_int<|g c.s.toks)| .LtE,e=>(tC e).elim (λe=>ng f r e λ_ _ _ _ m p e=>m▸p▸(aT _ e λ_ _ g=>PyProof.Rows.le_int<|g c.s.toks)) λe=>e.elim (λe=>av (DS e) λ_ _ E=>E.elim)<|ais t S f r| .Gt,e=>ng f r e λ_ _ _ _ m p e=>m▸p▸(aT _ e λ_ _ g=>PyProof.Rows.gt_int<|g c.s.toks)| .GtE,e=>ng f r e λ_ _ _ _ m p e=>m▸p▸(aT _ e λ_ _ g=>PyProof.Rows.ge_int<|g c.s.toks)
end
section
variable(l:cA)(w:b9)(m:bt)(u:Fns)(d:aj)(B:Cx)
def eP(x:Mine.X)(e:aN):Prop:=∀(f:Fr)(c:Cf)(P:V->Mem->Prop)(Q E:au->a8->Prop),f.cx=B->Rd l w m d f c->WX u x f.ρ c.M P->Go l w m c P Q->aH (ax l w) f.A (eval e f.env) Q E c.s
def AP(x:Mine.X)(e:aN):Prop:=∀(f:Fr)(c:Cf)(P:ak->Mem->Prop)(Q:ak->a8->Prop)(E:au->a8->Prop),f.cx=B->Rd l w m d f c->(WX u x f.ρ c.M λv p=>ja v λb=>P b p)->(∀b r,P b r.M->Nx l w m c r->Q b r.s)->aH (ax l w) f.A (isTrue e f.env<|eval e f.env) Q E c.s
def ed(x:Mine.X)(e:aN):Prop:=eP l w m u d B x e/\AP l w m u d B x e
end
section
def iZ(h:eP l w m u d B x e)(N:∀J L,isTrue e J L=(do let v<-L;standAt e.pos;holding [v] (truthy v))):ed l w m u d B x e:=⟨h,λf c P Q E O r R t=>wpAny_isTrue_value (h f c _ _ _ O r R λv Y y p n Z=>av (DU Z p) λb bA bG=>bA▸uh (t b Y bG n))<|N _ _⟩
def Go.bool(f:Go l w m c P Q)(S:St l w m c)(p:P (.fz<|.bool b) c.M)(r:aj):Q (.bool b) {c.s with toks:=r}:=f.tk S p rfl
def cv.tk(n:Nx l w m c p)(f:aj):Nx l w m c (p.tk f):=n.trans<|nc n.st f
def aiu(O:eP l w m u d B a R)(Y:eP l w m u d B b Z):ed l w m u d B (.aJ op a b) (.BinOp R op Z p):=iZ (λf c P Q E L r h t=>wpAny_BinOp<|O f c _ _ _ L r h λx c1 y1 h N r1=>Y f c1 _ _ _ L (r.on N) h λy c2 y2 h J r2=>ahQ op _ _ _ _ _ P _ _ J.st (r1.ay J.ay) r2 h<|t.on<|N.trans J) λ_ _=>C
def aiv(N:eP l w m u d B a O):ed l w m u d B (.neg a) (.UnaryOp .USub O p):=iZ (λf c P Q E R r h J=>arU<|N f c _ _ _ R r h λx c1 y1 h L Y=>cq (ji Y h) λi t Z aV=>Z▸PyProof.Rows.neg_int ((J.on L).tk L.st aV ⟨_,C⟩)) λ_ _=>C
def aiw(hm:behindInMarks op eb=j)(ha:eP l w m u d B a ea)(hb:eP l w m u d B b eb):ed l w m u d B (.aA op a b) (.Compare ea [op] [eb] p):=
 ⟨λf c P Q E L r h t=>wpAny_Compare1 (ha f c _ _ _ L r h λx O y1 h N R=>hb f O _ _ _ L (r.on N) h λy c2 y2 h J r2=>av (ya r.a J.st (R.ay J.ay) r2 h) λb Y Z=>Z _ _<|(t.on<|N.trans J).bool J.st Y) hm,
 λf c P Q E L r h t=>arV (ha f c _ _ _ L r h λx O y1 h N R=>hb f O _ _ _ L (r.on N) h λy c2 y2 h J r2=>av (ya r.a J.st (R.ay J.ay) r2 h) λb Y Z=>Z _ _ λtk=>uh<|t b (c2.tk tk) Y<|(N.trans J).tk tk) hm⟩
def aix(R:ed l w m u d B a Y):ed l w m u d B (.not a) (.UnaryOp .Not Y p):=
 ⟨λf c P Q E L r h t=>arU<|R.1 f c _ _ _ L r h λx N y1 h O Z=>av (DU Z h) λi aX aV=>aX▸not_value (uh<|t _ N _ aV O C),
 λf c P Q E L r h t=>wpAny_isTrue_Not<|R.2 f c (λb J=>P (!b) J) _ _ L r h λb N h O=>t _ N h O⟩
def aiy(Z:AP l w m u d B t et)(ha:ed l w m u d B a ea)(hb:ed l w m u d B b eb):ed l w m u d B (.eM t a b) (.IfExp et ea eb p):=
 ⟨λf c P Q E N r h x=>wpAny_IfExp (Z f c (λt J=>match t with|D=>WX u a f.ρ J P|j=>WX u b f.ρ J P) _ _ N r h λt O h L=>by
   cases t;·exact hb.1 f O _ _ _ N (r.on L) h<|x.on L
   ·exact ha.1 f O _ _ _ N (r.on L) h<|x.on L),
 λf c P Q E N r h x=>aL (Z f c (λt J=>match t with|D=>WX u a f.ρ J λv J=>ja v λb=>P b J|j=>WX u b f.ρ J λv J=>ja v λb=>P b J) _ _ N r h λt O h L=>by
   cases t;·exact hb.2 f O _ _ _ N (r.on L) h λb R h Y=>x b R h<|L.trans Y
   ·exact ha.2 f O _ _ _ N (r.on L) h λb R h Y=>x b R h<|L.trans Y)⟩
end
section
set_option backward.match.sparseCases true in
def PM(h:aH c A (eval x f) (λv p=>aH c A (truthy v) (λt m=>if(t==(op== .Or))=D then Q v m else aH c A (eval (.BoolOp op (y::rest) pos) f) Q E m) E p) E s):aH c A (eval (.BoolOp op (x::y::rest) pos) f) Q E s:=by
 show aH c A (do
  let v<-eval x f
  standAt pos
  let t<-holding [v] (truthy v)
  match op,t with| .And,j| .Or,D=>pure v|_,_=>boolOp pos op<|evalEach (y::rest) f) Q E s
 refine aL<|gm h (λv p l=>aL<|lb<|aL<|i8<|gm l (λt m r=>?_) λ_ _ x=>x) λ_ _ x=>x;clear h l;cases op<;>cases t<;>first|exact bu r|exact r
def PN(R:ed u w B O d Y a ea)(Z:ed u w B O d Y b (.BoolOp .And (y::rest) p)):ed u w B O d Y (.and a b) (.BoolOp .And (ea::y::rest) p):=
 ⟨λf c P Q E L r h l=>PM (R.1 f c _ _ _ L r h λx N y1 h J r1=>(DU r1 h).elim λt h=>h.1▸uh (match t,h.2 with|D,h=>Z.1 f N _ _ _ L (r.on J) h<|l.on J|j,h=>l _ N _ h J C)),
 λf c P Q E L r h l=>LB<|arW (R.2 f c (λt m=>match t with|D=>WX O b f.ρ m λv m=>ja v λb=>P b m|j=>P j m) _ _ L r h λt N h J=>match t,h with|D,h=>Z.2 f N _ _ _ L (r.on J) h λb c2 h n2=>l b c2 h<|J.trans n2|j,h=>l _ N h J)⟩
def PO(R:ed u w B O d Y a ea)(Z:ed u w B O d Y b (.BoolOp .Or (y::rest) p)):ed u w B O d Y (.or a b) (.BoolOp .Or (ea::y::rest) p):=
 ⟨λf c P Q E L r h l=>PM (R.1 f c _ _ _ L r h λx N y1 h J r1=>(DU r1 h).elim λt h=>h.1▸uh (match t,h.2 with|D,h=>l _ N _ h J C|j,h=>Z.1 f N _ _ _ L (r.on J) h<|l.on J)),
 λf c P Q E L r h l=>LB<|arX (R.2 f c (λt m=>match t with|D=>P D m|j=>WX O b f.ρ m λv m=>ja v λb=>P b m) _ _ L r h λt N h J=>match t,h with|D,h=>l _ N h J|j,h=>Z.2 f N _ _ _ L (r.on J) h λb c2 h n2=>l b c2 h<|J.trans n2)⟩
def aiz(h:ed m w u J d L b y):ed m w u J d L b (.BoolOp .And [y] p):=⟨h.1,λf c P Q E N r O l=>LB<|arW (h.2 f c P _ _ N r O λt x h B=>match t,h with|D,h=>wpAny_allTrue_And_nil<|l _ x h B|j,h=>l _ x h B)⟩
def aiA(h:ed m w u J d L b y):ed m w u J d L b (.BoolOp .Or [y] p):=⟨h.1,λf c P Q E N r O l=>LB<|arX (h.2 f c P _ _ N r O λt x h B=>match t,h with|D,h=>l _ x h B|j,h=>wpAny_allTrue_Or_nil<|l _ x h B)⟩
def aiB(hm:behindInMarks o2 ek=j)(ha:eP J w L Φ d cx a ea)(hb:eP J w L Φ d cx b eb)(hk:eP J w L Φ d cx k ek):ed J w L Φ d cx (.kz a o1 b o2 k) (.Compare ea [o1,o2] [eb,ek] p):=
 ⟨λf c P Q E R r h l=>Compare_chain (ha f c _ _ _ R r h λx c1 y1 h N r1=>chain_link (hb f c1 _ _ _ R (r.on N) h λy c2 y2 h u r2=>av (ya r.a u.st (r1.ay u.ay) r2 h) λt Y Z=>Z _ _ λB=>uh (match t,Y with|j,h=>l _ (c2.tk B) _ h ((N.trans u).tk B) C|D,h=>have u:=u.tk B;aL (i8<|hk f (c2.tk B) _ _ _ R (r.on<|N.trans u) h λm c3 y3 h O r3=>aL<|lb<|arY<|av (ya r.a O.st (aP.ay ((nc (w:=w) u.st B).trans O).ay r2) r3 h) λb Y Z=>Z _ _<|(l.on<|(N.trans u).trans O).bool O.st Y)))) hm,
 λf c P Q E R r h l=>isTrue_chain (ha f c _ _ _ R r h λx c1 y1 h N r1=>test_link (hb f c1 _ _ _ R (r.on N) h λy c2 y2 h u r2=>av (ya r.a u.st (r1.ay u.ay) r2 h) λt Y Z=>Z _ _ λB=>uh (match t,Y with|j,h=>l _ (c2.tk B) h<|(N.trans u).tk B|D,h=>have u:=u.tk B;aL (i8<|hk f (c2.tk B) _ _ _ R (r.on<|N.trans u) h λm c3 y3 h O r3=>aL<|lb<|aL<|arY<|av (ya r.a O.st (aP.ay ((nc (w:=w) u.st B).trans O).ay r2) r3 h) λb Y Z=>Z _ _ λB=>i8<|uh<|l b (c3.tk B) Y<|((N.trans u).trans O).tk B)))) hm⟩
end
noncomputable def PP(k:ar oz):ak:=match k with|q .local=>D|q .cell=>D|q .free=>D|_=>j
noncomputable def It(t:ah):ak:= !(t==("__debug__":ah))&& !(t==("__classdict__":ah))
noncomputable def nh(c:Cx)(t:ah)(i:aj):ak:=dk c.nm t==q i&&(PP (c.sc.names.lookup t)&&It t)
noncomputable def D1(c:Cx)(t:ah):ak:=c.sc.names.lookup t==q .globalImplicit&&It t
noncomputable def Iu:F->ak| .none=>D|_=>j
noncomputable def PQ(b:ak):F->ak| .bool a=>a==b|_=>j
noncomputable def PR(b:M):F->ak| .int a=>a==b|_=>j
noncomputable def PT(b:ah):F->ak| .str a=>a==b|_=>j
noncomputable def PU(b:G px):F->ak| .bytes a=>a.toList==b|_=>j
noncomputable def oj(f:F)(c:Const):ak:=match c with| .none=>Iu f| .bool b=>PQ b f| .int b=>PR b f| .str b=>PT b f| .bytes b=>PU b f|_=>j
def bZ{P:Prop}(h:j=D):P:=(by injection h)
def PV(h:Iu f=D):f= .none:=by cases f with|none=>exact C|_=>exact bZ h
def aiC(h:PQ b f=D):f= .bool b:=by cases f with|bool a=>exact az _<|bw.mp h|_=>exact bZ h
def aiD(h:PR b f=D):f= .int b:=by cases f with|int a=>exact az _<|bw.mp h|_=>exact bZ h
def aiE(h:PT b f=D):f= .str b:=by cases f with|str a=>exact az _<|bw.mp h|_=>exact bZ h
def aiF(h:PU b f=D):f= .bytes b.toArray:=by cases f with|bytes a=>exact az _<|az G.toArray<|bw.mp h|_=>exact bZ h
def Iv{t:ah}(h:It t=D):(t==("__debug__":ah))=j/\(t==("__classdict__":ah))=j:=have c:=bh h;⟨Cb _▸c.1,Cb _▸c.2⟩
def Iw(h:PP k=D):k=q .local\/k=q .cell\/k=q .free:=by cases k with|none=>injection h|some k=>cases k with|«local»=>exact .inl C|cell=>exact .inr<|.inl C|free=>exact .inr<|.inr C|_=>injection h
section
variable{a:Mine.X}{t:ah}
def bY.kf(E:bY l w f c):f.env.scope.kind= .function:=(az gC.kind E.sc).trans E.kind
def bY.tE(E:bY l w f c)(h:f.cx.sc.names.lookup t=q k):f.env.kindOf t=q k:=(az (λs:gC=>s.names.lookup t) E.sc).trans h
def load(O:bY B w f c)(h:nh f.cx t i=D)(P:f.ρ[i]? =q (q v))(r:∀y,aP B w c v y->Q y c.s):aH (ax B w) f.A (eval (.Name t p) f.env) Q E c.s:=by
 have x:=bh h;have z2:=bh x.2;have n:=Iv z2.2;have R:=bw.mp x.1;rcases Iw z2.1 with l|l|l
 ·exact cP O.ns λm Z _ Iy=>av (Iy t i v R l P) λy J L=>LD (arZ O.kf (O.tE l) Z J<|r y L) n.1
 ·exact(O.cells t<|.inl l).elim λa k=>av k λu N Y=>av (Y i v R P) λy J L=>LD (wpAny_loadName_cell O.kf (O.tE l) N.1 (J▸N.2.1)<|r y L) n.1
 ·exact(O.cells t<|.inr l).elim λa k=>av k λu N Y=>av (Y i v R P) λy J L=>LD (wpAny_loadName_free O.kf (O.tE l) N.1 (J▸N.2.1) (r y L) n.2) n.1
def Iz(h:nh x t i=D):ed m w u Z d x (.var i) (.Name t p):=iZ (λf c P Q E B r J l=>av (dq J) λo L N=>av (dq N) λv O R=>load r.e (B▸h) (L.trans<|az q O) λy Y=>l.here r.st R Y) λ_ _=>C
def IA(h:oj l k=D)(c:∀m y,bD f w b l y->Q y {s with toks:=m}):aH (ax f w) A (eval (.Constant k u p) r) Q E s:=by cases k with|none=>obtain rfl:=PV h;exact wpAny_Constant_none<|c s.toks _ rfl|bool b=>obtain rfl:=aiC h;exact wpAny_Constant_bool<|c s.toks _ rfl|int b=>obtain rfl:=aiD h;exact ar0<|c _ _ ⟨_,C⟩|str b=>obtain rfl:=aiE h;exact wpAny_Constant_str<|c _ _ ⟨_,C⟩|bytes b=>obtain rfl:=aiF h;exact λ_ _ _=>c _ _ ⟨_,C⟩|_=>injection h
def PW(h:oj x k=D):ed m w u L d N (.lit x) (.Constant k O p):=iZ (λf c P Q E R r B l=>IA (b:=c.b) h λY y J=>l.tk r.st B J) λ_ _=>C
end
section
noncomputable def Cf.re(c:Cf)(W:RM)(f:Mem):Cf:={c with W:=W,M:=f}
def IB(S:St m w p c)(J:r.Pe=j)(u:c.W a=q r)(E:t.fl.length=c.M.fl.length)(B:t.ins.length=c.M.ins.length)(L:∀n o,t.fl[n]? =q o->xP o=j->c.M.fl[n]? =q o/\c.H n≠a)(N:∀n x,t.ins[n]? =q (q x)->c.M.ins[n]? =q (q x)/\(c.I n).1≠a/\(c.I n).2≠a):Nx m w p c (c.re (iw c.W a<|q .fz) t):=
 have T:tz c (c.re (iw c.W a<|q .fz) t):=⟨λx o Q e f h=>⟨e,(dG λl=>(by injection((bH (u.symm.trans<|(az c.W l).symm.trans f)▸J).symm.trans h))).trans f⟩,λx o e f _=>⟨(dG λl=>(by injection(u.symm.trans<|(az c.W l).symm.trans f))).trans f,o.slots,e,λ_=>C⟩,λ_ _=>C,λ_ _=>C,cY E.symm,cY B.symm,λ_ o e _=>⟨o,e⟩⟩;⟨{
  base:=λx o e=>have f:=S.base x o e;⟨(T.kfz x o .fz f.2 f.1 C).2,f.2⟩
  role:=λx r e=>if l:x=a then by
    subst l
    cases(gA c.W _ _).symm.trans e
    exact⟨trivial,(S.role _ _ u).2⟩
   else by have f:=S.role x r<|(dG l).symm.trans e;cases r with|fz=>exact f|cL=>exact f|hd n=>exact⟨⟨f.1.1,jD f.1.2 E.symm⟩,f.2⟩|ih n=>exact⟨⟨f.1.1,jD f.1.2 B.symm⟩,f.2⟩|id n=>exact⟨⟨f.1.1,jD f.1.2 B.symm⟩,f.2⟩
  fl:=λn o e f=>have l:=L n o e f;have y:=S.fl n o l.1 f;⟨(dG l.2).trans y.1,y.2.bz T.b λ_=>id⟩
  ins:=λn O P e=>have l:=N n _ e;have y:=S.ins n O P l.1
   ⟨(dG l.2.1).trans y.1,(dG l.2.2).trans y.2.1,y.2.2.1,y.2.2.2.1.imp λ_ h=>h.imp λ_ h=>⟨h.1,h.2.1,h.2.2.ay T⟩,y.2.2.2.2⟩},T,C,C⟩
def rJ{p:Type}{l:G p}{x y:p}(e:(l.set n x)[m]? =q y):(m=n/\y=x)\/(m≠n/\l[m]? =q y):=by
 rw[G.getElem?_set]at e
 by_cases c:n=m
 ·rw[cE c]at e
  by_cases f:n<l.length
  ·rw[cE f]at e;exact .inl ⟨c.symm,(bH e).symm⟩
  ·rw[cB f]at e;injection e
 ·rw[cB c]at e;exact .inr ⟨λf=>c f.symm,e⟩
def PY(L:m9 c w g b a o)(m:∀x,g a=q x->r a=q x)(p:∀x o,b x=q o->r x=q o)(e:lg o=q f):bD c w r f (.ref a):=by
 cases o with
 |bv=>injection e
 |list l=>injection e with e;subst e;exact⟨a,L.imp λ_ h=>(cr C (h.1.imp λ_=>m _)<|bp.bz p _ h.2)⟩
 |di l=>injection e with e;subst e;exact⟨a,L.imp λ_ h=>(cr C (h.1.imp λ_ h=>⟨m _ h.1,h.2⟩)<|dX.bz p _ h.2)⟩
 |ds l=>injection e with e;subst e;exact⟨a,L.imp λ_ h=>(cr C (h.1.imp λ_ h=>⟨m _ h.1,h.2⟩)<|eu.bz p _ h.2)⟩
 |set l=>injection e with e;subst e;exact⟨a,L.imp λ_ h=>(cr C (m _ h.1) h.2)⟩
def PZ(e:lg o=q f):xP o=j:=by cases o with|bv=>injection e|_=>rfl
def IC(h:q (dO.hd m)=q (.hd n)):m=n:=by cases h;rfl
def lN(f:cA)(w:b9)(l:bt)(c:Cf)(m:Mem)(p:Bv->Prop):Prop:=∃r,Nx f w l c (c.re r m)/\p (c.re r m).b
def aiG(S:St r w t c)(e:c.M.fl[n]? =q o)(B:lg o=q f):lN r w t c ⟨c.M.fl.set n .bv,c.M.ins⟩ λb=>bD r w b f (.ref<|c.H n):=by
 have L:=S.fl n o e<|PZ B;have N:Nx r w t c (c.re (iw c.W (c.H n)<|q .fz) ⟨c.M.fl.set n .bv,c.M.ins⟩):=IB S C L.1 wo C
  (λm E u l=>(rJ u).elim (λp=>by rw[p.2]at l;injection l) λp=>⟨p.2,λy=>p.1<|IC<|((S.fl m E p.2 l).1.symm.trans (az c.W y)).trans L.1⟩)
  λm x u=>have y:=S.ins m _ _ u;(cr u (λp=>(nomatch (y.1.symm.trans<|az c.W p).trans L.1)) λp=>(nomatch (y.2.1.symm.trans<|az c.W p).trans L.1))
 exact(aT _ N<|PY L.2 (λx J=>kN (gA _ _ _) J) N.ay.b B)
def aiH:ut (.ref n) c=c[n]?.bind λo=>(lg o).map λf=>(f,c.set n .bv):=by show(match c[n]? with|q o=>(lg o).map λf=>(f,c.set n .bv)|z=>z)=_;cases c[n]? <;>rfl
def ID(S:St l w m c)(r:aP l w c v y)(e:ut v c.M.fl=q (f,p)):lN l w m c ⟨p,c.M.ins⟩ λb=>bD l w b f y:=by cases v with|fz g=>cases e;exact(aT c.W (.refl S) r)|ref n=>exact av (jr.mp<|aiH.symm.trans e) λo t u=>av (iE.mp u) λE x B=>by cases B;exact r.1▸aiG S t x|_=>injection e
end
def aiI:qQ ((n,v)::r) c=(ut v c).bind λx=>(qQ r x.2).bind λy=>q ((n,x.1)::y.1,y.2):=()
def P0:oK (v::r) c=(gE v c).bind λx=>(oK r x.2).bind λy=>q (x.1::y.1,y.2):=()
def aiJ:gE (.dJ n) f=(f.ins[n]?.bind id).bind λx=>(qQ x.2 f.fl).bind λy=>q (.hV x.1 y.1,⟨y.2,f.ins.set n z⟩):=
 oc (
   P:=λo=>(match o with|q (q (c,l))=>do
   let(l,m)<-qQ l f.fl
   q (F.hV c l,(⟨m,f.ins.set n z⟩:Mem))|_=>z)=(o.bind id).bind λx=>(qQ x.2 f.fl).bind λy=>q (.hV x.1 y.1,⟨y.2,f.ins.set n z⟩)) f.ins[n]? rfl λx=>oc x rfl λx=>()
def vB{f l m:Type}{o:ar f}{k:f->ar l}{g:f->l->m}{c:m}(h:(o.bind λx=>(k x).bind λy=>q<|g x y)=q c):∃x y,o=q x/\k x=q y/\g x y=c:=(jr.mp h).elim λx h=>(jr.mp h.2).elim λy k=>(bV x y h.1 k.1<|bH k.2)
def IE(h:q (dO.id m)=q (.id n)):m=n:=by cases h;rfl
def P1(h:q (dO.ih m)=q (.ih n)):m=n:=by cases h;rfl
section
def lN.then(x:lN m w r c f p)(k:∀W,Nx m w r c (c.re W f)->p (c.re W f).b->lN m w r (c.re W f) u l):lN m w r c u l:=av x λW t B=>(k W t B).imp λ_ g=>⟨t.trans g.1,g.2⟩
def lN.imp(x:lN m w r c f p)(k:∀W,Nx m w r c (c.re W f)->p (c.re W f).b->l (c.re W f).b):lN m w r c f l:=mH (λW h=>⟨h.1,k W h.1 h.2⟩) x
def aiK:∀{E:G (ah×au)}{c:Cf}{r:G (ah×F)×G FObj},St B w J c->ew B w c l E->qQ l c.M.fl=q r->lN B w J c ⟨r.2,c.M.ins⟩ λb=>eu B w b r.1 E:=by induction l with|nil=>exact λ{_ c _} S r e=>bH e▸⟨c.W,.refl S,r⟩|cons e l ih=>exact λ{_ c _} S r L=>dh (vB<|aiI.symm.trans L) λx f a b h=>h▸dh r λu O p m t=>p▸(ID S m a).then λW N R=>(ih N.st (t.ay N.ay) b).imp λY P Q=>bV u O C (bD.bz P.ay.b _ R) Q
def aiL(S:St f w m c)(r:ew f w c l p)(e:qQ l c.M.fl=q (t,u)):lN f w m c ⟨u,c.M.ins⟩ λb=>eu f w b t p:=aiK S r e
def yb(S:St u w B c)(r:aP u w c v y)(e:gE v c.M=q (f,Q)):lN u w B c Q λb=>bD u w b f y:=by
 have one:(ut v c.M.fl).map (λx=>(x.1,(⟨x.2,c.M.ins⟩:Mem)))=q (f,Q)->lN u w B c Q λb=>bD u w b f y:=λe=>av (iE.mp e) λx Y Z=>by cases Z;exact ID S r Y
 cases v with
 |dJ n=>
  exact dh (vB<|aiJ.symm.trans e) λx l Y Z dm=>by
   have hn:=av (jr.mp Y) λo aW a_=>aW.trans<|az q a_;cases dm;refine have L:=S.ins n _ _ hn;r.1▸L.2.2.2.1.elim λod p=>p.elim λkvs p=>(aiL S p.2.2 Z).then λW N R=>?_;have J:=N.st.ins n _ _ hn;have O:Nx u w B (c.re W ⟨l.2,c.M.ins⟩) ((c.re W ⟨l.2,c.M.ins⟩).re _ ⟨l.2,c.M.ins.set n z⟩):=IB N.st C J.2.1 C wo
    (λm o E p=>⟨E,λt=>(nomatch ((N.st.fl m o E p).1.symm.trans (az W t)).trans J.2.1)⟩)
    λm x E=>(rJ E).elim (λl=>(nomatch l.2)) λl=>have y:=N.st.ins m _ _ l.2;(cr l.2 (λt=>(nomatch (y.1.symm.trans<|az W t).trans J.2.1)) λt=>l.1<|IE<|(y.2.1.symm.trans<|az W t).trans J.2.1)
   have P:(c.I n).1≠(c.I n).2:=λt=>(nomatch (J.1.symm.trans<|az W t).trans J.2.1);have N3:=IB (t:=⟨l.2,c.M.ins.set n z⟩) O.st C ((dG P).trans J.1) C rfl
    (λm o E p=>⟨E,λt=>(nomatch ((O.st.fl m o E p).1.symm.trans (az _ t)).trans<|(dG P).trans J.1)⟩)
    λm x E=>have y:=O.st.ins m _ _ E;(cr E (λt=>(rJ E).elim (λl=>(nomatch l.2)) λl=>l.1<|P1<|(y.1.symm.trans<|az _ t).trans<|(dG P).trans J.1) λt=>(nomatch (y.2.1.symm.trans<|az _ t).trans<|(dG P).trans J.1))
   exact(aT _ (O.trans N3)<|bV _ kvs C (jE _ od (kN (gA _ _ _) L.2.2.1) (N3.ay.b _ _<|kN (gA _ _ _) p.1) p.2.1 L.2.2.2.2.1)<|eu.bz (λ_ _ e=>N3.ay.b _ _<|O.ay.b _ _ e) _ R)
 |_=>exact one e
def aiM:∀{J:G au}{c:Cf}{r:G F×Mem},St B w E c->dI B w c l J->oK l c.M=q r->lN B w E c r.2 λb=>bp B w b r.1 J:=by induction l with|nil=>exact λ{_ c _} S r e=>bH e▸⟨c.W,.refl S,r⟩|cons e l ih=>exact λ{_ c _} S r L=>dh (vB<|P0.symm.trans L) λx f a b h=>h▸dh r λu O p m t=>p▸(yb S m a).then λW N R=>(ih N.st (t.ay N.ay) b).imp λY P Q=>bV u O C (bD.bz P.ay.b _ R) Q
def IF(S:St f w m c)(r:dI f w c l p)(e:oK l c.M=q (t,u)):lN f w m c u λb=>bp f w b t p:=aiM S r e
end
noncomputable def IG(f:fX)(c:aN)(r:ak):jW (Ut ak):=if r=D then do let m<-isTrue c f (eval c f);pure (Ft m)else pure (Ft r)
section
variable(l:cA)(w:b9)(t:bt)(u:Fns)(d:aj)(B:Cx)
def IH(n:aj)(c:Cf)(P:G V->Mem->Prop)(Q:G au->a8->Prop):Prop:=∀p f m,m.length=n->P p f.M->Nx l w t c f->dI l w f p m->Q m f.s
def tF(m:G Mine.X)(r:G aN):Prop:=∀(f:Fr)(c:Cf)(P:G V->Mem->Prop)(Q:G au->a8->Prop)(E:au->a8->Prop)(p:eZ),f.cx=B->Rd l w t d f c->jZ u m f.ρ c.M P->IH l w t m.length c P Q->aH (ax l w) f.A (spliced<|backTo p<|nA r f.env) Q E c.s
def AR(p:G Mine.X)(r:G aN):Prop:=∀(f:Fr)(c:Cf)(P:ak->Mem->Prop)(Q:ak->a8->Prop)(E:au->a8->Prop),f.cx=B->Rd l w t d f c->WC u p f.ρ c.M P->(∀b m,P b m.M->Nx l w t c m->Q b m.s)->aH (ax l w) f.A (forIn r D<|IG f.env) Q E c.s
end
section
def II:tF l w t u d B [] []:=λf c P Q E p x r h m=>ar1<|m _ c _ rfl h (.refl r.st) C
def aiN(Y:∀J,nA (e::L) J=(j,eval e J)::nA L J)(Z:eP l w t u d B x e)(tG:tF l w t u d B xs L):tF l w t u d B (x::xs) (e::L):=λf c P Q E p N r h m=>ar2 (Z f c _ _ _ N r h λv c1 y h O r1=>tG f c1 _ _ _ p N (r.on O) h λvs c2 ys hl h R r2=>m _ c2 _ (az (· +1) hl) h (O.trans R)<|bV _ _ rfl (r1.ay R.ay) r2)<|Y _
def aiO(O:L.length<=100)(h:tF l w t u d B L R):ed l w t u d B (.ai L) (.Tuple R kk p):=iZ (λf c P Q E Y r Z m=>ar3 (h f c _ _ _ p Y r Z λvs c1 ys hn h N r1=>cq (kQ h) λfs x aX aV=>(IF N.st r1 aX).elim λW J=>⟨aG (hn▸O)<|aG {} mw,m (.fz<|.ai fs) ((c1.re W x).fz _) _ aV (N.trans<|J.1.trans<|xV J.1.st C)<|bV _ _ rfl ⟨_,DQ C⟩<|bp.bz xU.ay.b _ J.2⟩)) λ_ _=>C
def IJ(h:tF l w t u d B O R):ed l w t u d B (.af m O) (.List R p):=iZ (λf c P Q E Y r Z x=>ar4<|h f c _ _ _ p Y r Z λvs c1 ys hn h N r1=>cq (kQ h) λfs J aX aV=>(IF N.st r1 aX).elim λW L=>have k:=ahv (p:=ys.toArray) L.1.st L.2 aV<|x.on<|N.trans L.1;⟨aG (cY L.2.len.symm)<|aG k.1 mw,k.2⟩) λ_ _=>C
def P2:∀(f:G aN),Q j s->aH (ax l w) A (forIn f j<|IG m) Q E s:=by intro p;induction p with|nil=>exact λc=>bu c|cons e f ih=>exact λc=>U (yY ..)<|aL<|bu<|ih c
def aiP:AR l w t u d B [] []:=λf c P Q E p r h m=>bu<|m _ c h<|.refl r.st
def aiQ(Y:AP l w t u d B x e)(Z:AR l w t u d B L N):AR l w t u d B (x::L) (e::N):=λf c P Q E O r h m=>by calc U (yY ..);exact aL<|aL (Y f c (λb p=>match b with|D=>WC u L f.ρ p P|j=>P j p) _ _ O r h λb R h J=>match b,h with|D,h=>bu<|Z f R _ _ _ O (r.on J) h λb c2 h n2=>m b c2 h<|J.trans n2|j,h=>bu<|P2 N<|m _ R h J)
end
def vC(e:aN):Prop:=∀o i,subscripted e j o i=operate [o,i] (getItem o i)
section
variable{B:cA}{w:b9}{a:Mine.X}
def bp.jx{n:aj}(h:bp B w b l m):l[n]? =q f->∃v,m[n]? =q v/\bD B w b f v:=bp.eF (P:=λl m=>∀n:aj,l[n]? =q f->∃v,m[n]? =q v/\bD B w b f v) (λ_ e=>by injection e) (λg v l r a _ c n=>by cases n with|zero=>exact λe=>aT v C<|bH e▸a|succ n=>exact c n) l h n
def IK(c:G au)(i:M)(v:au):Prop:=(0<=i/\c[i.toNat]? =q v)\/(i<0/\-(c.length:M)<=i/\c[(i+c.length).toNat]? =q v)
def P3(r:bp B w b l p)(e:eH l i P):∃f v,P f/\bD B w b f v/\IK p i v/\small i=D:=by
 have c:=cO e;have m:=c.2;revert m;refine bX (aa<|0<=i) (λh m=>?_) λh m=>?_;·exact av (dq m) λf t u=>(r.jx t).elim λv g=>(jE f v u g.2 (.inl ⟨dw h,g.1⟩) c.1)
 ·have m:=dM m;exact(dq m.2).elim λf k=>(r.jx k.1).elim λv g=>⟨f,v,k.2,g.2,.inr ⟨uf.mp<|wj h,ar5<|r.len▸m.1,by refine U (Ud ..)<|U (Eq.symm r.len) ?_;exact g.1⟩,c.1⟩
def IK.idx(h:IK f i v):∃c,seqIndex? i f.length=q c/\f[c]? =q v:=h.elim (λh=>⟨_,seqIndex_of h.1<|(Fg h.1).mp<|fC h.2,h.2⟩) λh=>⟨_,ar6 h.1 h.2.1,h.2.2⟩
def yc{a:eD au}{n:aj}(h:a.toList[n]? =q v):a[n]? =q v:=yZ.symm.trans h
def AS(h:small i=D): -(2^63:M)<=i/\i<2^63:=have c:(i.natAbs:M)<2^63:=sm.mpr<|Fx (AJ h) {};⟨ft (M.neg_le_neg<|qE c)<|ar5<|M.natAbs_neg i▸ar7,B0 ar7 c⟩
variable(B w)in
def D2(A:dY)(s:a8)(c l:aN)(x y:au)(b:Bv)(P:F->Prop):Prop:=∃f v,P f/\bD B w b f v/\∀Q E:au->a8->Prop,(∀m,Q v {s with toks:=m})->aH (ax B w) A (subscriptTail c l x y) Q E s
def P4(J:vC L)(h:∃a i,x= .ref a/\pe s.heap.get? a i/\bp B w b l i.toList)(e:eH l k P):D2 B w A s p L x (.int k t) b P:=h.elim λa h=>cP h λi N O R=>N▸(P3 R e).elim λf c=>lZ c λv Y Z eL u=>O.elim λ_ h=>(bV f v Y Z λQ E m=>have r:s.heap.IsList a i:=hU h;Fy r.typeIs ar8.lookup (eL.elim (λg=>wpAny_getItem_list r g.1 (AS u).2 (yc g.2) (m s.toks)) λg=>wpAny_getItem_list_neg r g.1 g.2.1 (AS u).1 (yc g.2.2) (m s.toks)) (J _ _))
def aiS(L:vC N)(h:∃a i,x= .ref a/\Us s.heap a i/\bp B w b l i.toList)(e:eH l k P):D2 B w A s r N x (.int k t) b P:=h.elim λa h=>cP h λi O u R=>O▸(P3 R e).elim λf c=>lZ c λv Y Z eL J=>av eL.idx λm cI cG=>(bV f v Y Z λQ E p=>Fy u.typeIs slot_tuple_getitem.lookup (getItem_tuple u (AS J).1 (AS J).2 cI (yc cG) (p s.toks))<|L _ _)
def P6(u:vC J)(h:∃a i,x= .ref a/\iX B w (eY B w) s.heap.get? a i/\dX B w b l i)(e:oP (aQ k l) P):D2 B w A s p J x (.int k t) b P:=av (dq e) λf L N=>dh h λa r O R Y=>O▸cP R λo Z cG _=>by have m:=(cG.of Z).mapOf;have g:=Y.aQ (k:=k);rw[L]at g;revert g;exact gT (valueAt r k) (λ_ g=>g.elim) λv c g=>(bV f v N g λQ E q'=>Fy m.typeIs slot_dict_getitem.lookup (wpAny_getItem_of (qm k t) m c<|q' _)<|u _ _)
def P7(p:vC N)(S:St B w J c)(m:aP B w c u x)(e:jY u (.fz<|.int k) c.M.fl P):D2 B w A c.s r N x (.int k t) c.b P:=by
  cases u with
  |fz f=>cases f with|ai l=>exact aiS p (DW m) e|af l=>exact P4 p (DV m) e|di l=>exact P6 p (xX m) e|_=>exact e.elim
  |ref n=>exact av (dq e) λo L E=>by cases o with|list l=>exact P4 p (Im S m L) E|di l=>exact P6 p (AL S m L) E|_=>exact E.elim
  |_=>exact e.elim
def aiT(hs:vC L)(ha:eP B w u N d O a ea)(hi:eP B w u N d O i L):ed B w u N d O (.sub a i) (.Subscript ea L p):=iZ (λf c P Q E R r h l=>Uy (ha f c _ _ _ R r h λx c1 y1 h Y r1=>hi f c1 _ _ _ R (r.on Y) h λy c2 y2 h J r2=>av (xW h) λk IL _=>by obtain rfl:=IL;exact r2.elim λt ht=>ht▸(P7 hs J.st (r1.ay J.ay) h).elim λf m=>cP m λv bA bG eL=>eL _ _ λZ=>l _ (c2.tk Z) _ bA ((Y.trans J).tk Z) bG)) λ_ _=>C
end
section
variable{a:Mine.X}{p:V}{B:aN}
def bp.take(n:aj)(h:bp m w b l t):bp m w b (l.take n) (t.take n):=bp.eF (P:=λl t=>∀n,bp m w b (l.take n) (t.take n)) (λn=>by cases n<;>rfl) (λf v l r a _ c n=>by cases n with|zero=>rfl|succ n=>exact bV v _ rfl a<|c n) l h n
def bp.drop(n:aj)(h:bp m w b l t):bp m w b (l.drop n) (t.drop n):=bp.eF (P:=λl t=>∀n,bp m w b (l.drop n) (t.drop n)) (λn=>by cases n<;>rfl) (λf v l r a k c n=>by cases n with|zero=>exact bV v _ rfl a k|succ n=>exact c n) l h n
def P8(y c:au)(n:aj)(P:aj->aj->Prop):Prop:=(∃(k:aj)(t:lY),y= .none/\c= .int k t/\P 0 (min k n))\/∃(k:aj)(t:lY),y= .int k t/\c= .none/\P (min k n) n
def P9(h:0<=i):((i.toNat:aj):M)=i:=B_ h
def P_(f:aP u w c p y)(r:aP u w c L l)(e:uv p L n P):P8 y l n P:=by
 delta uv at e;revert e;refine bX (isNone p) (λh e=>?_) λ_ e=>?_;·obtain rfl:=Iq h;exact cq (ji r e) λi t E x=>have g:=cO x;.inl (bV i.toNat t f (E.trans<|az (Fz · t) (P9 (vo g.1).1).symm) g.2)
 ·exact cq (ji f e) λi t E x=>have g:=cO x;have m:=bh g.1;have J:=bh m.1;by clear e x m;obtain rfl:=Iq J.1;exact .inr<|bV i.toNat t (E.trans<|az (Fz · t) (P9<|dw J.2).symm) r g.2
def aiU{P:G F->Prop}(r:bp x w b l u.toList)(e:P8 y c l.length λa b=>P<|(l.take b).drop a):∃p N m,IsPart y p/\IsPart c N/\P m/\bp x w b m (slicePick u p N z).toList:=
 e.elim (λe=>e.elim λk e=>cP e λt E J L=>(L6 z (q k) (l.take k) (E▸ .none) (J▸ .int _ _) (G.take_eq_take_min▸L)<|U (slicePick_upto' ..)<|r.take k))
  λe=>e.elim λk e=>cP e λt E J L=>(L6 (q k) z (l.drop k) (E▸ .int _ _) (J▸ .none) (by
   have f:P ((l.take l.length).drop<|min k l.length):=L;rw[ar9]at f;rcases aj.le_total k l.length with g|g
   ·rw[Fl g]at f;exact f
   ·rw[aj.min_eq_right g,Cg (bR _)]at f;calc U (Cg g);exact f)<|U (slicePick_from' ..)<|r.drop k)
def Qa(f:slicePicked x l u z=(jn (n-m)).map (m+·))(P:m<=n)(R:n<=x.length)(E:x.length<=aM)(c:∀t J,Q (.str (ah.mk (x.cps.extract m n)) t) {s with toks:=J}):(sliceMade x t l u z).post Q s:=by
 delta sliceMade
 split
 ·rename_i r
  rw[ku,bw,bw,f]at r
  have h:n-m=x.length:=by simpa using r.2
  have L:m=0:=by lia
  have N:n=x.length:=by simp_all
  subst L N
  have e:ah.mk (x.cps.extract 0 x.length)=x:=by simp[cM]
  rw[e]at c
  exact c t s.toks
 ·have e:(⟨((slicePicked x l u z).filterMap (x.cps[·]?)).toArray⟩:ah)=ah.mk (x.cps.extract m n):=by
   have O:(x.cps.extract m n).toList=(x.cps.toList.drop m).take (n-m):=by exact U eD.toList_extract C
   exact U f (U (pick_run ..) (U (Eq.symm O) C))
  refine U e ⟨aG ?_ (aG E mw),c _ _⟩
  show(x.cps.extract m n).size<=x.cps.size
  exact U eD.size_extract<|aG (aj.sub_le _ _) (Uz _ _)
def Qb(k n:aj):max 0 (min (k:M) n)=((min k n:aj):M):=by lia
def aiV(x:ah)(k:aj)(t:lY):slicePicked x z (q (k,t)) z=(jn<|min k x.length-0).map (0+·):=by
 have h:¬((k:M)<0):=by simp
 have e:slicePicked x z (q ((k:M),t)) z=sliceRange ((0:aj):M) (max 0<|min (k:M) (x.length:M)) 1:=by rfl
 exact U e<|U (Qb ..)<|U (ar_ ..) C
def aiW(x:ah)(k:aj)(t:lY):slicePicked x (q (k,t)) z z=(jn<|x.length-min k x.length).map (min k x.length+·):=by
 have h:¬((k:M)<0):=by lia
 have e:slicePicked x (q ((k:M),t)) z z=sliceRange (max 0<|min (k:M) (x.length:M)) (x.length:M) 1:=by rfl
 exact U e<|U (Qb ..)<|U (ar_ ..) C
end
section
variable{m:cA}{w:b9}{B:bt}{J:Fns}{d:aj}{L:Cx}{a:Mine.X}{Z:aN}{p:eZ}{u N O:V}{A:dY}{s:a8}{b:Bv}{R:aN}
def aiX(h:Mb v k r):(∃l,v= .fz (.raw l)/\k l)\/r:=by cases v with
 |fz f=>cases f with|raw l=>exact .inl<|aT l C h|_=>exact .inr h
 |_=>exact .inr h
noncomputable def AT(y c:au):dy:={cls:=.type "slice",data:=.fields #[y,c,.none]}
variable(m w)in
def AU(c:Cf)(x:au)(l:G F):Prop:=∃a i,x= .ref a/\c.h.IsList a i/\bp m w c.b l i.toList
def aiY(r:aP m w c (.fz<|.raw l) x):AU m w c x l:=mH (λ_=>mH λ_ r=>(cr r.1 (dh r.2.1 λ_ _ f t E=>(cN _ (lM f) t ⟨_,E⟩)) r.2.2)) r
def Qc(hs:subscripted R j x (.ref c.s.heap.objs.size)=operate [.ref c.s.heap.objs.size,x] (getItem x<|.ref c.s.heap.objs.size))(S:St m w B c)(h:AU m w c x l)(f:aP m w c N y)(r:aP m w c O t)(e:gd (l.length<=aM) (uv N O l.length λa b=>P (.fz<|.af<|(l.take b).drop a) c.M))(g:Go m w B c P Q):aH (ax m w) A (subscriptTail Y R x<|.ref c.s.heap.objs.size) Q E (c.fz<|AT y t).s:=dh h λ_ _ aX aV dm=>oC (aiU (P:=λl=>P (.fz<|.af l) c.M) dm<|P_ f r (dM e).2) λ_ _ _ aW a_ dS iy=>by obtain rfl:=aX;exact have n:=xV (o:=AT y t) S C;Fy (aV.push _).typeIs ar8.lookup (wpAny_getItem_list_slice (aV.push _) (bt.IsSliceOf.new ..) aW a_ .none (λh=>by injection h) (Ij n.st (bp.bz n.ay.b _ iy) dS<|g.on n)<|dm.size▸aG (dM e).1 mw) hs
def aiZ(hs:subscripted R j (.str k t) (.ref c.s.heap.objs.size)=operate [.ref c.s.heap.objs.size,.str k t] (getItem (.str k t)<|.ref c.s.heap.objs.size))(S:St m w B c)(f:aP m w c N y)(r:aP m w c O l)(e:gd (k.length<=aM) (uv N O k.length λa b=>P (.fz<|.str<|ah.mk<|k.cps.extract a b) c.M))(g:Go m w B c P Q):aH (ax m w) A (subscriptTail Y R (.str k t)<|.ref c.s.heap.objs.size) Q E (c.fz<|AT y l).s:=
 have n:=xV (o:=AT y l) S C;have hx:=(dM e).1;Fy (FA _ k t) F.slot_str_getitem.lookup ((P_ f r (dM e).2).elim
  (λe=>e.elim λx e=>cP e λu ir rI vD=>asa (l:=z) (u:=q (x,u)) (st:=z) (cN _ (jq _ rfl) C<|U ir<|U rI C) C<|Qa (aiV k x u) (cD _) (Uz _ _) hx λt tk=>(g.on n).tk n.st vD ⟨_,C⟩)
  λe=>e.elim λx e=>cP e λu ir rI vD=>asa (l:=q (x,u)) (u:=z) (st:=z) (cN _ (jq _ rfl) C<|U ir<|U rI C) C<|Qa (aiW k x u) (Uz _ _) (bR _) hx λt tk=>(g.on n).tk n.st vD ⟨_,C⟩) hs
def ai0(R:aN):Prop:=∀x i,subscripted R j x i=operate [i,x] (getItem x i)
def ai1(hs:ai0 R)(S:St m w B c)(h:aP m w c u x)(Y:aP m w c N y)(r:aP m w c O z0)(e:Mc u N O c.M λf=>P (.fz f) c.M)(g:Go m w B c P Q):aH (ax m w) A (subscriptTail value R x<|.ref c.s.heap.objs.size) Q E (c.fz<|AT y z0).s:=
 (tC e).elim (λe=>(xW e).elim λ_ h=>h.2.elim) λe=>e.elim (λe=>cq (mu h e) λk t i0 kc=>i0▸aiZ (hs _ _) S Y r kc g) λe=>(aiX e).elim
  (λe=>av e λl aW a_=>Qc (hs _ _) S (aiY<|aW▸h) Y r a_ g) λe=>oC (m_ S h e) λl a i aW a_ dS iy=>Qc (hs _ _) S (bV a i aW (a_.elim λ_ z0=>hU z0) dS) Y r iy g
variable(m w B J d L)in
def AV(x:Mine.X)(e:ar aN):Prop:=∀(f:Fr)(c:Cf)(P:V->Mem->Prop)(Q E:au->a8->Prop),f.cx=L->Rd m w B d f c->WX J x f.ρ c.M P->Go m w B c P Q->aH (ax m w) f.A (evalPart e f.env) Q E c.s
def ai2:AV m w B J d L (.lit .none) z:=λf c P Q E t r h l=>bu<|l.here r.st h C
def ai3(h:eP m w B J d L i c):AV m w B J d L i (q c):=h
def ai4{N O:Mine.X}{l u:ar aN}{p':eZ}(ha:eP m w B J d L a Z)(hl:AV m w B J d L N l)(hh:AV m w B J d L O u):ed m w B J d L (.pE a N O) (.Subscript Z (.Slice l u z p') p):=iZ (λf c P Q E hc r h t=>Uy<|ha f c _ _ _ hc r h λx c1 y1 h n1 r1=>wpAny_Slice<|hl f c1 _ _ _ hc (r.on n1) h λy c2 y2 h n2 r2=>hh f c2 _ _ _ hc (r.on<|n1.trans n2) h λY c3 y3 h n3 r3=>bu (ai1 (λ_ _=>C) n3.st (r1.ay (n2.trans n3).ay) (r2.ay n3.ay) r3 h<|t.on<|n1.trans<|n2.trans n3)) λ_ _=>C
end
noncomputable abbrev ph:G ah:=["op","dst","args","more","is_volatile","line","number","steps","end","name","params","is_static","slots","blocks","registers","has_value","align","pieces","funcs","data","externs"]
noncomputable def AW(o:ar (ar au)):ak:=match o with|q z=>D|_=>j
noncomputable def D3(s:jC)(o:ar (ar au)):ak:=match o with|q (q<|.builtin i)=>i==s|_=>j
def D4(h:AW o=D):o=q z:=by cases o with|none=>exact bZ h|some o=>cases o with|none=>rfl|some _=>exact bZ h
def IM(h:D3 s o=D):o=q (q<|.builtin s):=by cases o with|none=>exact bZ h|some o=>cases o with|none=>exact bZ h|some v=>cases v with|builtin i=>exact az (λi=>q<|q<|au.builtin i)<|bw.mp h|_=>exact bZ h
noncomputable def IN(K:cH)(c:aw)(n:ah):ak:=AW (findIn K (.ref c) n)&&(D3 "object.__getattribute__" (findIn K (.ref c) "__getattribute__")&&(clsIn K c).any (·.hasDict))
noncomputable def IP(K:cH)(c:aw)(n:ah):ak:=plainOver K c&&(AW (takerIn K c n)&&((clsIn K c).any (·.hasDict)&&D3 "object.__setattr__" (findIn K (.ref c) "__setattr__")))
noncomputable def vE(p:aw->ah->ak):ak:=tw.all λc=>ph.all λn=>p c n
def Qd(h:vE p=D)(r:c∈tw)(t:ph.contains n=D):p c n=D:=fc.mp (fc.mp h c r) n<|fW.mp t
def D5{r:Type}{o:ar r}{p:r->ak}(h:o.any p=D):∃a,o=q a/\p a=D:=by cases o with|none=>exact bZ h|some a=>exact(aT a rfl h)
structure Su(J:cA)(w:b9)(N:bt)(K:cH)(gl:G (ah×F))(R Z:ah->ar au):Prop where
 rK:K.In N
 g:N.Ns la R
 b:N.Ns builtinsNs Z
 bi:∀x:ah,x≠"__name__"->Z x=y0 x
 nolimit:N.NoLimit
 nodigits:N.NoDigits
 attrs:vE (IN K)=D
 ai5:vE (IP K)=D
 gl:∀(i:aj)(e:ah×F),gl[i]? =q e->∃v,R e.1=q v/\bD J w N.get? e.2 v
section
variable{J:cA}{w:b9}{N:bt}{K:cH}{gl:G (ah×F)}{R Z:ah->ar au}{l:Fns}{d:aj}{L:Cx}{a:Mine.X}{m:aN}{p:eZ}{c:Cf}{f:Fr}{u v:V}{A:dY}{s:a8}{y B:au}{n id:ah}{i:aj}
def St.jR(S:St J w N c)(a:aw)(o:dy)(e:N.get? a=q o):c.h.get? a=q o:=(S.base a o e).2
def St.ai6(S:St J w N c)(a:aw)(o:dy)(e:N.get? a=q o):c.b a=q o:=kN (S.base a o e).1 (S.base a o e).2
def Su.Qe(r:Su J w N K gl R Z)(t:bY J w f c)(S:St J w N c)(P:D1 f.cx id=D)(Y:R id=q y){Q E:au->a8->Prop}(x:Q y c.s):aH (ax J w) f.A (eval (.Name id p) f.env) Q E c.s:=have B:=bh P;UA t.kf (t.tE<|bw.mp B.1) (Calls.loadGlobal_global (t.xR▸r.g.keeps S.jR) Y x) (Iv B.2).1
def ai7(t:Su J w N K gl R Z)(hg:l.gl=gl)(h:D1 L id=D)(Y:gl[i]?.any (λe=>e.1==id)=D):ed J w N l d L (.gl i) (.Name id p):=iZ (λf c P Q E hc r hw x=>(dq hw).elim λe k=>by rw[hg]at k;have B:=D5 Y;rw[k.1]at B;have B:(e.1==id)=D:=B.elim λ_ h=>(bH h.1)▸h.2;clear Y;obtain rfl:=bw.mp B;exact av (t.gl i e k.1) λv cI cG=>t.Qe r.e r.st (hc▸h) cI<|x.here r.st k.2<|bD.bz r.st.ai6 _ cG) λ_ _=>C
def Qf(h:jO P Q):hZ n P=q y->∃e,Q.find? (·.key.isStr n)=q e/\e.val=y:=
 jO.eF (P:=λP Q=>hZ n P=q y->∃e,Q.find? (·.key.isStr n)=q e/\e.val=y) (λh=>by injection h) (λe Y t x r _ E h=>bX (e.1==n) (λB=>aT _ (arJ (p:=λe:ug=>e.key.isStr n) (a:=⟨Y,.str e.1 t,e.2⟩) B) (bH ((AC B).symm.trans h)))
  λB=>(E ((AD B).symm.trans h)).imp λ_ g=>⟨(arK (p:=λe:ug=>e.key.isStr n) (a:=⟨Y,.str e.1 t,e.2⟩) λk=>su (B.symm.trans k)).trans g.1,g.2⟩) P h
def Qg(r:n_ x t)(h:hZ n t=q y):lookIn n x=q (q y):=cq r.2 λes ep E P=>av (Qf P h) λe Q Y=>by delta lookIn;calc U E;dsimp only;exact U Q<|U (Eq.symm Y) C
variable(J w)in
def Qh(s:a8)(x:au)(n:ah)(y:au):Prop:=∀(A:dY)(r:ak)(Q E:au->a8->Prop),(∀t,Q y {s with toks:=t})->aH (ax J w) A (getAttr x n r) Q E s
def Qi{K:cH}{t:dy}(E:clsIn K r=q x)(P:findIn K (.ref r) n=q z)(Q:x.hasDict=D)(Y:lookIn n t=q (q y)):findObj K r (q t) n=q (.value y):=jr.mpr ⟨x,E,jr.mpr ⟨z,P,jr.mpr ⟨z,C,jr.mpr ⟨j,C,jr.mpr ⟨q y,(cE Q).trans Y,C⟩⟩⟩⟩⟩
def Qj{c a d:aw}{P:dy}{x:G (ah×au)}(X:K.In s.heap)(r:vE (IN K)=D)(hc:c∈tw)(hn:ph.contains n=D)(ha:s.heap.get? a=q (instObj c d))(hd:s.heap.get? d=q P)(ho:n_ P x)(hv:hZ n x=q y)(hh:handedIn y=D):Qh J w s (.ref a) n y:=λA AX Q E t=>have Y:=bh<|Qd r hc hn;have C2:=bh Y.2;get_value (ox:=instObj c d) (od:=q P) X ⟨ha,C,C,hd⟩ (IM C2.1) (av (D5 C2.2) λcd f3 f4=>Qi f3 (D4 Y.1) f4<|Qg ho hv) hh (t _)
def Qk{f:F}(r:bD J w b f y):handedIn y=D:=by cases f with|none=>subst r;rfl|bool=>subst r;rfl|int=>exact r.elim λ_ h=>h▸C|str=>exact r.elim λ_ h=>h▸C|bytes=>exact r.elim λ_ h=>h▸C|_=>exact cq r λ_ _ t _=>t▸C
def ai8(r:aP J w c v y):handedIn y=D:=by cases v with|fz f=>exact Qk r|exc n=>exact av r λ_ t _=>t▸C|_=>exact r.1▸C
def ai9{f:F}(h:eu J w b P E):hZ n P=q f->∃v,hZ n E=q v/\bD J w b f v:=eu.eF (P:=λP E=>hZ n P=q f->∃v,hZ n E=q v/\bD J w b f v) (λh=>by injection h) (λk g v t r a _ x h=>bX (k==n) (λB=>aT v (AC B)<|bH ((AC B).symm.trans h)▸a) λB=>(x<|(AD B).symm.trans h).imp λ_ g=>⟨(AD B).trans g.1,g.2⟩) P h
def ai_(h:ew J w c Q P):hZ n Q=q v->∃y,hZ n P=q y/\aP J w c v y:=ew.eF J w (P:=λQ P=>hZ n Q=q v->∃y,hZ n P=q y/\aP J w c v y) (λh=>by injection h) (λk x t r a _ E h=>bX (k.1==n) (λB=>aT x (AC B)<|bH ((AC B).symm.trans h)▸a) λB=>(E<|(AD B).symm.trans h).imp λ_ g=>⟨(AD (e:=(k.1,x)) B).trans g.1,g.2⟩) Q h
def Su.in(r:Su J w N K gl R Z)(S:St J w N c):K.In c.h:=r.rK.keeps S.jR
def aja{P:V->Prop}(x:Su J w N K gl R Z)(S:St J w N c)(hn:ph.contains n=D)(r:aP J w c u B)(e:Ma u n c.M P):∃v y,P v/\aP J w c v y/\Qh J w c.s B n y:=by
 cases u with
 |fz f=>cases f with|hV cl fs=>exact(dq e).elim λf k=>r.elim λa r=>r.elim λi r=>(ai9 r.2.2 k.1).elim λy g=>r.2.1.elim λd E=>E.elim λod E=>r.1▸(bV _ y k.2 g.2<|Qj (x.in S) x.attrs E.2.2.2 hn (lM E.1) (lM E.2.1) E.2.2.1 g.1<|Qk g.2)|_=>exact e.elim
 |dJ Q=>
  exact(dq e).elim λo k=>cq (kQ k.2) λcl fs aX aV=>(dq aV).elim λv g=>have Y:=S.ins Q cl fs<|k.1.trans<|az q aX
  Y.2.2.2.1.elim λod E=>cP E λkvs i0 kc qp=>(ai_ qp g.1).elim λy t=>r.1▸(bV v y g.2 t.2<|Qj (x.in S) x.attrs Y.2.2.2.2.1 hn Y.2.2.1 i0 kc t.1<|ai8 t.2)
 |_=>exact e.elim
def ajb(t:Su J w N K gl R Z)(hn:ph.contains n=D)(hb:∀env,eval (.Attribute m n p) env=(do
   let o<-eval m env
   standAt p.atName
   let r<-holding [o] (getAttr o n D)
   letTemporaryGo m o r
   pure r))(ha:eP J w N l d L a m):ed J w N l d L (.aR a n) (.Attribute m n p):=
 iZ (λf c P Q E hc r h Y=>asb (ha f c _ _ _ hc r h λx c1 y1 h n1 r1=>dh (aja t n1.st hn r1 h) λv y aW a_ dS=>dS _ _ _ _ λtk=>Y v (c1.tk tk) y aW (n1.tk tk) a_)<|hb _) λ_ _=>C
end
section
variable{p:cA}{w:b9}{B h:bt}{d J:aj}{c:Cf}{u v:V}{A:dY}{s:a8}{x y m:au}{b:Bv}{a:aw}{o:dy}{L:FObj}{R:V->Mem->Prop}{Q E:au->a8->Prop}
noncomputable def Cf.gr(c:Cf)(h:bt)(J:aj):Cf:={c with s:={c.s with heap:=h,toks:=J}}
noncomputable def Cf.gz(c:Cf)(h:bt)(J:aj)(a:aw):Cf:={c with s:={c.s with heap:=h,toks:=J},W:=iw c.W a (q .fz)}
noncomputable def Cf.gh(c:Cf)(h:bt)(J:aj)(a:aw)(L:FObj):Cf:={c with s:={c.s with heap:=h,toks:=J},W:=iw c.W a<|q<|.hd c.M.fl.length,H:=xT c.H c.M.fl.length a,M:=⟨c.M.fl++[L],c.M.ins⟩}
def ajc{r:dO}{f:Prop}(S:St p w B c)(g:c.h.get? a=z)(e:c.W a=q r):f:=(S.role a r e).2.elim λ_ m=>(by injection(g.symm.trans m))
def IQ{h:bt}{a x:aw}{o:dy}(g:h.get? a=z)(e:h.get? x=q o):x≠a:=λm=>nomatch g.symm.trans<|(az h.get? m).symm.trans e
def kS(S:St p w B c)(h:c.h.get? a=z):c.W a=z:=by
 refine gT (c.W a) (λ_=>?_) λr f=>?_;·rfl
 ·exact ajc S h f
variable{X:aw->Prop}
def IR(S:St p w B c)(f:∀a,X a->c.W a=z)(k:∀a o,¬X a->c.h.get? a=q o->h.get? a=q o):cv p w X B c (c.gr h J):=have x:kP X c (c.gr h J):=⟨λa o n e=>⟨k a o n e,C⟩,f,λ_ _=>⟨C,C⟩,λ_ _=>⟨C,C⟩,bR _,bR _⟩;⟨x.st S (λ_ _ g e=>(by injection(g.symm.trans e))) (λ_ _ l e _=>absurd (fC e)<|lX.mpr l) λ_ _ _ l e=>absurd (fC e)<|lX.mpr l,x.ay,C,C⟩
def IS(S:St p w B c)(t:∀a,X a->c.W a=z)(k:∀a o,¬X a->c.h.get? a=q o->h.get? a=q o)(ne:∀x o,¬X x->c.h.get? x=q o->x≠a)(N:h.get? a=q o):cv p w X B c (c.gz h J a):=
 have x:kP X c (c.gz h J a):=⟨λx o n e=>⟨k x o n e,dG<|ne x o n e⟩,t,λ_ _=>⟨C,C⟩,λ_ _=>⟨C,C⟩,bR _,bR _⟩;⟨x.st S (λx r g e=>if f:x=a then by clear ne;subst f;cases(gA c.W _ _).symm.trans e;exact⟨trivial,o,N⟩else nomatch g.symm.trans ((dG f).symm.trans e))
  (λ_ _ l e _=>absurd (fC e)<|lX.mpr l) λ_ _ _ l e=>absurd (fC e)<|lX.mpr l,x.ay,C,C⟩
def my(S:St p w B c)(k:∀a o,c.h.get? a=q o->h.get? a=q o):Nx p w B c (c.gr h J):=IR S (λ_ h=>h.elim) λa o _=>k a o
def AY(S:St p w B c)(k:∀a o,c.h.get? a=q o->h.get? a=q o)(f:c.h.get? a=z)(l:h.get? a=q o):Nx p w B c (c.gz h J a):=IS S (λ_ h=>h.elim) (λa o _=>k a o) (λ_ _ _ e=>IQ f e) l
def AZ(f:h.get? a=q o):(c.gz h J a).b a=q o:=kN (gA _ _ _) f
def IT:(c.gh h J a L).H c.M.fl.length=a:=AF _ _ _
def IU:aP p w (c.gh h J a L) (.ref c.M.fl.length) (.ref a):=⟨az _ IT.symm,iD (mG _)<|cY jh.symm⟩
def Ql(S:St p w B c)(t:∀a,X a->c.W a=z)(k:∀a o,¬X a->c.h.get? a=q o->h.get? a=q o)(ne:∀x o,¬X x->c.h.get? x=q o->x≠a)(N:h.get? a=q o)(f:∀b:Bv,(∀a o,c.b a=q o->b a=q o)->m9 p w h.get? b a L):cv p w X B c (c.gh h J a L):=
 have x:kP X c (c.gh h J a L):=⟨λx o n e=>⟨k x o n e,dG<|ne x o n e⟩,t,λ_ l=>⟨AG l,DR l⟩,λ_ _=>⟨C,C⟩,aG (jV _)<|cY jh.symm,bR _⟩;⟨x.st S (λx r g e=>if f:x=a then by clear ne;subst f;cases(gA c.W _ _).symm.trans e;exact⟨⟨IT.symm,(IU (p:=p) (w:=w)).2⟩,o,N⟩else nomatch g.symm.trans ((dG f).symm.trans e))
  (λn O l e _=>by have m:=AH l e;obtain rfl:=m.1;obtain rfl:=m.2;delta Ih;calc U IT;exact⟨gA _ _ _,f _ x.ay.b⟩) λ_ _ _ l e=>absurd (fC e)<|lX.mpr l,x.ay,C,C⟩
def ajd(S:St p w B c)(k:∀a o,c.h.get? a=q o->h.get? a=q o)(l:c.h.get? a=z)(r:h.get? a=q o)(f:∀b:Bv,(∀a o,c.b a=q o->b a=q o)->m9 p w h.get? b a L):Nx p w B c (c.gh h J a L):=Ql S (λ_ h=>h.elim) (λa o _=>k a o) (λ_ _ _ e=>IQ l e) r f
def yd{args:G V}{f:G au}{k:V->Prop}(r:dI p w c args f)(h:b1 args k):∃v x,f=[x]/\aP p w c v x/\args=[v]/\k v:=by cases args with|nil=>exact h.elim|cons v l=>cases l with|nil=>exact dh r λx P t N O=>(jE v x (t.trans<|az _ O) N C h)|cons=>exact h.elim
def IV{args:G V}{f:G au}{k:V->V->Prop}(r:dI p w c args f)(h:b2 args k):∃v u x y,f=[x,y]/\aP p w c v x/\aP p w c u y/\k v u:=by cases args with|nil=>exact h.elim|cons v l=>cases l with|nil=>exact h.elim|cons u l=>cases l with|nil=>exact dh r λx r' t N O=>dh O λy _ P Y Z=>(L7 v u x y (t.trans<|az _<|P.trans<|az _ Z) N Y h)|cons=>exact h.elim
def aje:(aM:M)<2^63:={}
def IW{n:aj}(h:n<=aM):(n:M)<2^63:=B0 (qC.mpr h) aje
def Qm{l:G F}(h:AU p w c x l)(r:l.length<=aM)(f:∀t J,Q (.int l.length t) {c.s with toks:=J}):aH (ax p w) A (call (.builtin "len") [x]) Q E c.s:=dh h λa i N O P=>by clear h;obtain rfl:=N;rw[P.size]at f r;exact PySem.Calls.call_len_list O (IW r)<|f _ _
def dX.len{b:Bv}:∀{l:G (M×F)}{f:G (M×au)},dX p w b l f->l.length=f.length:=by intro r;induction r with|nil=>intro _ h;subst h;rfl|cons t N ih=>intro _ h;exact h.elim λ_ h=>h.elim λ_ h=>by obtain rfl:=h.1;exact az (· +1)<|ih h.2.2
def eu.len{b:Bv}:∀{l:G (ah×F)}{f:G (ah×au)},eu p w b l f->l.length=f.length:=by intro r;induction r with|nil=>intro _ h;subst h;rfl|cons t N ih=>intro _ h;exact h.elim λ_ h=>h.elim λ_ h=>by obtain rfl:=h.1;exact az (· +1)<|ih h.2.2
def IX{l:G F}(r:∃a i,y= .ref a/\pe c.h.get? a i/\bp p w c.b l i.toList):AU p w c y l:=r.imp λ_ h=>h.imp λ_ h=>(cr h.1 (h.2.1.elim λ_ m=>hU m) h.2.2)
def ajf(S:St p w B c)(r:aP p w c v x)(e:Mg v c.M λn=>gd (n<=aM)<|R (.fz<|.int n) c.M)(N:Go p w B c R Q):aH (ax p w) A (call (.builtin "len") [x]) Q E c.s:=by
 have O:∀{n:aj},gd (n<=aM) (R (.fz<|.int n) c.M)->∀t J,Q (.int n t) {c.s with toks:=J}:=λe t J=>N.tk S (dM e).2 ⟨_,C⟩;cases v with
 |fz f=>cases f with|str s=>exact r.elim λt h=>h▸P.len_str (uf.mpr<|IW (dM e).1) (O e _ _)|bytes s=>exact r.elim λt h=>h▸PySem.W.len_bytes (aG (dM e).1 {}) (O e _ _)|di l=>exact dh (xX r) λa i aX aV dm=>cP aV λo aW a_ dS=>by obtain rfl:=aX;have Y:=O e;have Z:=(dM e).1;rw[dm.len]at Y Z;exact call_len_dict (mF.mpr dS) (a_.of aW) (IW Z)<|Y _ _|af l=>exact Qm (IX<|DV r) (dM e).1 (O e)|_=>exact e.elim
 |ref n=>exact(dq e).elim λl h=>(jr.mp h.1).elim λo k=>Qm (IX<|Im S r<|k.1.trans<|az q<|DT k.2) (dM h.2).1 (O h.2)
 |_=>exact e.elim
end
def ajg(c:cA)(w:b9):Prop:=∀(A:dY)(s:a8)(n:M)(t:lY),A.handled=z->A.units+100<=cLine->0<=n->n<=1000->∀(E:au->a8->Prop)(Q:au->a8->Prop),(∀u f,Q (.bytes (jA n.toNat 0) u) {s with toks:=f})->aH (ax c w) A (call (.type "bytes") [.int n t]) Q E s
def ajh(c:cA)(w:b9):Prop:=∀(A:dY)(s:a8)(a:aw)(m:dy)(l:G M),A.handled=z->A.units+100<=cLine->s.heap.get? a=q m->gQ c w m l->(l.all λi=>aa (0<=i)&&aa (i<16))=D->∀(E:au->a8->Prop)(Q:au->a8->Prop),(∀f p o,(∀b o,s.heap.get? b=q o->f.get? b=q o)->f.get? s.heap.objs.size=q o->gQ c w o l->Q (.ref s.heap.objs.size) {s with heap:=f,toks:=p})->aH (ax c w) A (call (.type "set") [.ref a]) Q E s
def aji:typeLookup (.type "int") "__bytes__"=pure z:=by refine U (UB ..)<|U UC ?_;kernel_rfl
def ajj:typeLookup (.type "int") "__index__"=pure (q<|.builtin "int.__index__"):=by refine U (UB ..)<|U UC ?_;kernel_rfl
section
def ajk(x:0<=n)(B:n<=1000)(c:∀u m,Q (.bytes (jA n.toNat 0) u) {s with toks:=m}):i9 (ax f w) A (.call (.builtin "bytes.__new__") {.type "bytes",.int n t}) (wants Q E) s:=by
 refine UD<|aL<|pB (F.bm_newCall _)<|bu ⟨plainId_quiet asc _,asd F.bm_entry<|U (dY.under_plainId asc _)<|have l:s.TypeIs (.int n t) "int":=Up _ _ _;aL (pB (a:=D) C<|wq C<|aL<|pB F.bm_sub<|wq C<|aL<|pB (F.bm_bind _)<|aL<|pB (a:=jX.unit) C<|aL<|pB (a:=jX.unit) C<|wq C<|aL<|UE l aji<|aL<|aL<|pB (a:=z) C<|bu<|wq C<|aL<|UE l ajj<|wq C<|aL<|ase<|pB (C:asIndex (.int n t)=pure n) ?_)⟩;dsimp only;have p:asf n=D:=by delta asf;simp only[ku,kt];exact⟨q8,q6⟩
 have r:ash n.toNat=j:=by unfold ash;exact U qH (by lia)
 refine U p<|U r<|U (cB {})<|U (cB (show¬n<0 by exact sp.mpr ‹_›))<|U (cB (show¬n>2^63-34 by lia))<|U (cB {})<|aL<|UF<|aL<|wpAny_mkBytes (wr {} ?_)<|U Fi<|U qH (by lia);first|exact bu<|c _ _|exact aL<|bu<|bu<|c _ _
def ajl:ajg l w:=by
 intro A s n t J L r x E Q c;refine callType_codes (Q₁:=λm p=>p.TypeIs m "bytes"/\Q m p) UG (F.bm_typeCall _) F.entry_object_init
  (ajk r x λu B=>⟨PySem.W.typeIs_bytes _ _ _,c u B⟩) λm p f=>?_
 exact(cr f.1 (F.args_object_init_2 m _)<|object_init_meets UG.init.lookup UG.made {} l w A.in1 _ p<|cr f.1 C f.2)
end
def ajm{L:G (ar aj)}:∀{c:aj},L[c]? =q z->((L.set c<|q k).filterMap id).Perm (k::L.filterMap id):=by induction L with|nil=>exact λh=>by injection h|cons x L ih=>intro c;cases c with|zero=>exact λh=>U (P:=λx=>(((x::L).set 0<|q k).filterMap id).Perm<|k::(x::L).filterMap id) (bH h)<|.refl _|succ c=>exact λh=>oc (P:=λx=>(((x::L).set (c+1)<|q k).filterMap id).Perm<|k::(x::L).filterMap id) x (ih h) λy=>(G.Perm.cons y<|ih h).trans<|G.Perm.swap k y _
def ajn{L:G (ar aj)}:(L.filterMap id).length<L.length->∃c,c<L.length/\L[c]? =q z:=by induction L with|nil=>exact λh=>absurd h<|Uo 0|cons x L ih=>exact oc (P:=λx=>((x::L).filterMap id).length<(x::L).length->∃c,c<(x::L).length/\(x::L)[c]? =q z) x (λ_=>aT 0 (Fj _) C) λy h=>(ih<|Uw h).elim λc f=>aT (c+1) (LF f.1) f.2
def Qn{c m:Type}{f g:c->ar m}:∀{l:G c},(∀x∈l,f x=g x)->l.filterMap f=l.filterMap g:=by intro p;induction p with|nil=>exact λ_=>C|cons x l ih=>exact λh=>U LG<|U LG<|U (h x<|.head _)<|U (ih λy r=>h y<|.tail _ r) C
structure rM(mask:aj)(owner:eD (ar aj))(k:aj):Prop where
 size:owner.size=mask+1
 perm:(owner.toList.filterMap id).Perm (jn k)
def rM.step(o:rM l f k)(m:f[c]? =q z):rM l (f.setIfInBounds c<|q k) (k+1):=⟨by calc U eD.size_setIfInBounds;exact o.size,U asi<|U G.range_succ<|have p:=ajm (k:=k) (L:=f.toList) (c:=c)<|U (yZ) m;p.trans ((G.Perm.cons k o.perm).trans (G.perm_append_singleton k<|jn k).symm)⟩
def Qo:qJ c f (l+1) i p=((jn<|FC c i+1-i).find? λk=>(f.getD (i+k)<|q 0).isNone).elim (qJ c f l (LH c i p).1 (LH c i p).2) λk=>q (i+k):=()
def ajo:0<FC c i+1-i:=aj.sub_pos_of_lt<|Ff (by
 delta FC;by_cases h:i+9<=c;·exact U (cE h)<|mB ..
 ·exact U (cB h)<|bR _)
def IY(h:f[i]? =q z):qJ l f (m+1) i p=q i:=Qo.trans (az (λo:ar aj=>o.elim _ λk=>q<|i+k)<|G.find?_range_eq_some.mpr ⟨by rw[LI,B7,h];rfl,Fo.mpr ajo,λc h=>absurd h<|Fw c⟩)
noncomputable def qq(i:aj):aj:=(i*5+1)%8
def ajp(n:aj):∀i,aj.repeat qq (n+1) i=aj.repeat qq n (qq i):=by induction n with|zero=>exact λ_=>C|succ n ih=>exact λi=>az qq<|ih i
def ajq(h:p<32):LH 7 i p=(qq i,0):=by delta LH qq;exact U (aj.div_eq_of_lt h) C
def ajr(x:i<8)(m:p<32)(r:c[i]? =q (q y)):qJ 7 c (f+1) i p=qJ 7 c f (qq i) 0:=by
 calc U Qo;have l:FC 7 i+1-i=1:=by delta FC;exact U (cB λh:i+9<=7=>absurd (aG (yN 9 i) h) {})<|Lo ..
 have t:((jn 1).find? λk=>(c.getD (i+k)<|q 0).isNone)=z:=G.find?_eq_none.mpr λk u=>by calc U (arD.mp<|Fo.mp u);rw[LI,B7,r];exact su
 exact U l<|U t<|U (ajq m) C
def ajt(L:l.size=8)(E:l[c]? =q z)(n:aj):∀(i p f:aj),i<8->p<32->(aj.repeat qq n i)=c->n<=f->∃r,qJ 7 l (f+1) i p=q r/\l[r]? =q z:=by induction n with|zero=>exact λi p f u J(t:i=c) B=>aT i (IY<|t▸E)<|t▸E|succ n ih=>intro i p f u J t B;cases f with|zero=>exact absurd B<|aj.not_succ_le_zero n|succ f=>exact gT (l[i]?) (λm=>absurd (eD.getElem?_eq_none_iff.mp m)<|arO<|L▸u) λx=>oc x (λm=>aT i (IY m) m) λy m=>(ih (qq i) 0 f (UH _ {}) {} ((ajp n i).symm.trans t)<|LJ B).imp λr h=>⟨(ajr u J m).trans h.1,h.2⟩
def aju:∀i<8,∀c<8,∃n,n<=7/\aj.repeat qq n i=c:=by decide+kernel
def ajv(c:0<=h)(f:h<16):wt h=h.toNat:=by delta wt;exact U (M.emod_eq_of_lt c<|Lr ‹_› {}) C
def ajw{h:M}(o:rM 7 l k)(m:h<16)(p:k<8):∃c,qJ 7 l 22 (h.toNat%8) h.toNat=q c/\l[c]? =q z:=(ajn (L:=l.toList)<|jD (qB (cY<|o.perm.length_eq.trans Fp) p)<|o.size.symm.trans g_.symm).elim λc f=>av (aju (h.toNat%8) (UH _ {}) c<|jD f.1<|g_.trans o.size) λn a b=>ajt o.size (yZ.symm.trans f.2) n _ _ 21 (UH _ {}) (Fx ((UI {}).mpr m) {}) b<|aG a {}
def ajx(o:rM t r k)(x:0<=h)(u:h<16)(B:(t=7/\k<8)\/(15<=t/\r[h.toNat]? =q z)):∃f,qJ t r (LK t) (wt h%(t+1)) (wt h)=q f/\r[f]? =q z/\(15<=t->f=h.toNat):=
 U (ajv x u) (B.elim (λl=>U (P:=λm=>rM m r k->∃f,qJ m r (LK m) (h.toNat%(m+1)) h.toNat=q f/\r[f]? =q z/\(15<=m->f=h.toNat)) l.1 (λo=>(ajw o u l.2).imp λf p=>cr p.1 p.2 λc=>absurd c {}) o)
  λl=>U (aj.mod_eq_of_lt<|Ff<|aG (wg<|(UI {}).mpr u) l.1)<|cN h.toNat (IY (m:=t+14) l.2) l.2 λ_=>C)
noncomputable def D7(f:aj)(m:ar (eD (ar aj)×aj))(h:M):ar (eD (ar aj)×aj):=do
 let(l,k)<-m
 let c<-qJ f l (LK f) (wt h%(f+1)) (wt h)
 pure (l.setIfInBounds c<|q k,k+1)
def ajy(c:qJ m l (LK m) (wt h%(m+1)) (wt h)=q f):D7 m (q (l,k)) h=q (l.setIfInBounds f<|q k,k+1):=az (λo:ar aj=>o.bind λf=>q (l.setIfInBounds f<|q k,k+1)) c
def toNat_inj{a b:M}(c:0<=a)(f:0<=b)(e:a.toNat=b.toNat):a=b:=(B_ c).symm.trans<|(az M.ofNat e).trans<|B_ f
def ajz{l:G M}:∀{t:eD (ar aj)}{k:aj},rM u t k->(∀h∈l,0<=h/\h<16)->l.Nodup->(u=7/\k+l.length<=8\/15<=u/\∀h∈l,t[h.toNat]? =q z)->∃E,l.foldl (D7 u) (q (t,k))=q (E,k+l.length)/\rM u E (k+l.length):=by
 induction l with|nil=>exact λ{t k} o _ _ _=>⟨t,C,o⟩|cons h l ih=>
 exact λ{t k} o J N L=>have n:=qK.mp N;have r:=J h<|.head _;cP (ajx o r.1 r.2<|L.imp (λf=>⟨f.1,iD (T4<|Fj _) f.2⟩) λf=>⟨f.1,f.2 h<|.head _⟩) λm a b c=>have p:k+1+l.length=k+(l.length+1):=yL k 1 l.length;(ih (o.step b) (λx B=>J x<|.tail _ B) n.2<|L.imp (λf=>⟨f.1,p▸f.2⟩) λ(f:15<=u/\∀x∈h::l,t[x.toNat]? =q z)=>⟨f.1,λx B=>(asj λe=>n.1<|toNat_inj (J x<|.tail _ B).1 r.1 (e.symm.trans<|c f.1)▸B).trans<|f.2 x<|.tail _ B⟩).imp λE g=>p▸⟨(az (l.foldl<|D7 u)<|ajy a).trans g.1,g.2⟩
def ajA(c:aj):rM c (jA (c+1) z) 0:=by
 refine⟨by simp,U eD.toList_replicate ?_⟩;have:∀n,(bN n (z:ar aj)).filterMap id=[]:=λn=>by induction n with|zero=>rfl|succ n ih=>refine U TX<|U LG ?_;exact ih
 exact U (this ..)<| .refl _
def Qp{c:Type}:∀L:G c,(jn L.length).filterMap (L[·]?)=L:=by intro f;induction f with|nil=>exact C|cons x L ih=>rw[eX,Lx,LG,G.filterMap_map];exact az (x::·)<|ih
def ajB{J plain:ak}(N:∀h∈p.toList,0<=h/\h<16)(R:p.toList.Nodup)(O:m=7/\p.size<=7\/15<=m/\p.size<=m):∃t P,FD m B L J plain p=q (t,P)/\P.toList.Perm (jn p.size)/\t.fits p.size=D:=by
 obtain⟨l,Q,E⟩:=ajz (u:=m) (ajA m) N R (O.imp (λc=>⟨c.1,aG (cY<|(kq _).trans g_)<|Ly c.2⟩) λc=>⟨c.1,λh x=>asl.trans<|cE<|Ff<|aG (wg<|(UI {}).mpr (N h x).2) c.1⟩);rw[kq,g_]at Q E;have Y:asm m p=q l:=by
  delta asm
  exact U (Eq.symm<|eD.foldl_toList ..)<|have:p.toList.foldl (D7 m) (q (jA (m+1) z,0))=q (l,p.size):=Q
  U this rfl
 have r:((jn<|m+1).filterMap λf=>(l.getD f z).map (f,·)).map (·.2)=l.toList.filterMap id:=by have h:=az (G.filterMap id)<|Qp l.toList;rw[G.filterMap_filterMap,g_,E.size]at h;exact U G.map_filterMap<|U h.symm<|Qn λf _=>U LI<|U (yZ (xs:=l))<|oc l[f]? rfl λo=>oc o C λ_=>C
 refine(bV _ _ (by delta FD;exact U Y rfl) ?_ ?_);·dsimp only;exact U r E.perm
 ·have u:((jn<|m+1).filterMap λf=>(l.getD f z).map (f,·)).length=p.size:=by
   have:=az mC r
   rw[bx,E.perm.length_eq,Fp]at this
   exact this
  delta UJ SetTable.fill
  simp only[asn,bx,u,jB,Uj,kt,yM,B7]
  rcases O with⟨Z,h2⟩|⟨Z,h2⟩<;>simp_all
def ajC{f:G M}:∀{l:G M},l.Nodup->(∀x∈l,x∈f)->f.length<=l.length->f.Nodup:=by induction f with|nil=>exact λ_ _ _=>.nil|cons x r ih=>exact λm p t=>qK.mpr ⟨λP=>aj.not_succ_le_self _<|aG t<|Uu m λy c=>(i6.mp<|p y c).elim (λe=>e▸P) id,ih (m.erase x) (λy c=>have c:=m.mem_erase_iff.mp c;(i6.mp<|p y c.2).resolve_left c.1) (aG (aj.le_sub_of_add_le t) G.le_length_erase)⟩
def ajD(f m p:aj)(u plain:ak):FD f m p u plain #[]=q ({mask:=f,place:= #[],dummies:= #[],finger:=m,led:=u,moves:=p,plain:=plain},#[]):=by
 have r:((jn<|f+1).filterMap λc=>((jA (f+1) (z:ar aj)).getD c z).map (c,·))=[]:=by rw[G.filterMap_eq_nil_iff];intro c t;rw[LI,asl];split<;>rfl
 unfold FD;show(q (jA (f+1) (z:ar aj))>>=_)=_;simp only[ar.bind_eq_bind,UK];rw[r];rfl
def above(n:aj)(h:n<=16)(g:(0+n)*5>=7*3):∃m,aso ((0+n)*2)=m+1/\15<=m/\n<=m/\m<=1000:=(show∀n:Fin 17,(0+n.1)*5>=7*3->∃m∈[15,31,63],aso ((0+n.1)*2)=m+1/\15<=m/\n.1<=m/\m<=1000 by decide+kernel) ⟨n,Ff h⟩ g|>.imp λ_ h=>h.2
def ajE(a:0<=k)(b:k<16):hashInt k=k:=
 have h:∀n:Fin 16,hashInt (n.val:M)=(n.val:M):=by decide+kernel
 B_ a▸h ⟨k.toNat,(Fg a).mpr b⟩
def ajF{J:eD (M×au)}{f:eD aj}(g:f.toList.Perm (jn J.size)):(f.filterMap (J[·]?)).toList.Perm J.toList:=by have h:=Qp J.toList;rw[g_]at h;rw[eD.toList_filterMap];exact(g.filterMap _).trans (.of_eq ((Qn λc _=>yZ.symm).trans h))
noncomputable abbrev tb(m c f:aj)(u p:ak):SetTable:=⟨m,#[],#[],c,u,f,p⟩
noncomputable abbrev A0(J:eD (M×au))(n:aj)(t:SetTable):dy:={cls:=.type "set",dict:=z,data:=.set J n t}
section
variable{B:cA}{w:b9}{A:dY}{E:au->a8->Prop}{s:a8}{S a:aw}{u:ak}{N:dy}{l:G M}{Q:jX->a8->Prop}{J:eD (M×au)}{L:bt}
def ajG(c:s.heap.get? S=q (A0 #[] 0 (.fresh 0 0 u)))(x:n<=16)(p:∀L m P R Y k,(∀b o,b≠S->s.heap.get? b=q o->L.get? b=q o)->L.get? S=q (A0 #[] k (tb m P R u Y))->(m=7/\n<=7\/15<=m/\n<=m)->Q jX.unit {s with heap:=L}):aH (ax B w) A (setRoomFor S n) Q E s:=by
 unfold setRoomFor;refine aL<|pA c rfl rfl ?_;dsimp only;by_cases r:(0+n)*5>=7*3;·refine U (show(FE 0 0 u).roomFor n=q ((0+n)*2)from cE r)<|lZ (above n x r) λm f t Z hm4=>?_;unfold setRelay;refine aL<|pA c rfl rfl<|Fv (g9<|U f<|U qH (by lia)) ?_;dsimp only;exact U (show asp (FE 0 0 u) ((#[]:eD (M×au)).map (·.1)) ((0+n)*2)=_ from(az (asp (FE 0 0 u) · ((0+n)*2)) eD.map_empty).trans<|(az (λk=>FD (k-1) 0 (SetTable.movedTo (FE 0 0 u)<|k-1) u D #[]) f).trans<|ajD ..)<|aL<|pB (a:=((#[]:eD (M×au)),_)) C<|asq c rfl (p _ m 0 _ D 1 (λb o hb e=>(FF _ _ _ _ hb).trans e) (qL _ c rfl)<|.inr ⟨t,Z⟩)<|cD _
 ·exact U (show(FE 0 0 u).roomFor n=z from cB r)<|bu<|p s.heap 7 0 0 D 0 (λb o _ e=>e) c<|.inl ⟨C,by lia⟩
def ajH:UJ (tb m c f u p) 0=D:=by unfold UJ SetTable.fill;simp
def ajI(x:l.Nodup)(kR:Cc (eY B w) J.toList)(P:∀k,l.contains k=D↔∃e∈J.toList,(eY B w).is k e.2=D)(R:J.size=l.length)(p:∀i∈l,0<=i/\i<16):
  (∀e∈J.toList,0<=e.1/\e.1<16)/\(J.toList.map (·.1)).Nodup/\J.size<=16:=by
 have r:∀e∈J.toList,0<=e.1/\e.1<16/\(eY B w).is e.1 e.2=D:=λe m=>fH (kR e m) λh _=>av h λk f hh=>
  have c:=p k<|fW.mp<|(P k).mpr<|aT e m f
  have h:e.1=k:=hh.trans<|ajE c.1 c.2
  U h (cr c.1 c.2 f)
 refine cr (λe h=>⟨(r e h).1,(r e h).2.1⟩) (ajC x (λk f=>av ((P k).mp<|fW.mpr f) λe m t=>?_)<|U (bx _)<|U g_<|cY R) ?_
 ·refine Exists.elim (Ce t) λt1 e1=>(Ce (r e m).2.2).elim λt2 Y=>?_
  have:k=e.1:=by rw[e1]at Y;injection Y
  exact U this<|mE.mpr<|aT e m C
 ·have Z:l.length<=(G.map (λn:aj=>(n:M))<|jn 16).length:=Uu x λk f=>
   mE.mpr (aT k.toNat (Fo.mpr<|(Fg (p k f).1).mpr (p k f).2)<|B_ (p k f).1)
  rw[bx,Fp]at Z
  exact U R Z
def ajK(hSa:S≠a)(hS:s.heap.get? S=q (A0 #[] 0 (.fresh 0 0 u)))(ha:s.heap.get? a=q N)(da:gQ B w N l)(hr:∀i∈l,0<=i/\i<16){ajM:jW jX}(c:∀L o,(∀b o,b≠S->s.heap.get? b=q o->L.get? b=q o)->L.get? S=q o->gQ B w o l->Q jX.unit {s with heap:=L}):aH (ax B w) A (setMerge S a ajM) Q E s:=by
 refine fH da λxa f=>fH f λna f=>wF f λJ ep t hd kR hm hsz hf hl=>qO (ajI na kR hm hl hr) λA1 hks Qq=>?_
 unfold setMerge
 refine Fv (g9 (by simpa using hSa)) (aL (pA ha hd hf ?_))
 dsimp only
 by_cases Y:J.isEmpty=D
 ·refine aut (de Y) ?_
  have h0:J.size=0:=by simpa using Y
  obtain rfl:l=[]:=asr.mp (hl.symm.trans h0)
  refine bu (c s.heap _ (λb o _ e=>e) hS (cr (cr C rfl rfl) .nil (wD #[] 0 _ rfl (λe Y=>absurd Y gk) (λk=>⟨λh=>absurd h Ca,λh=>h.elim λ_ h=>absurd h.1 gk⟩) {} C rfl)))
 ·refine Fv (g9 Y) (aL (ajG hS Qq λL m fg mv pl n hk I1 ajO=>aL (pA I1 C ajH ?_)))
  dsimp only
  have Z:∀{r:eD (M×au)}{P:SetTable},r.toList.Perm J.toList->P.fits r.size=D->aH (ax B w) A (storeSet S r P) Q E {s with heap:=L}:=λ{r P} hp ht=>
   have R:r.size=J.size:=g_.symm.trans (hp.length_eq.trans g_)
   asq I1 C (c _ _ (λb o hb e=>(FF _ _ _ _ hb).trans (hk b o hb e)) (qL _ I1 C)
    (cr (cr C rfl rfl) na (wD r _ P C (kR.perm hp) (λk=>(hm k).trans ⟨λh=>av h λe h1 h2=>aT e (hp.mem_iff.mpr h1) h2,λh=>av h λe h1 h2=>aT e (hp.mem_iff.mp h1) h2⟩) (U R hsz) ht (R.trans hl)))) (U R (U qH (aG Qq {})))
  unfold SetTable.road
  rw[cB (by simp[SetTable.fill])]
  by_cases hc:(m==t.mask&&t.dummies.isEmpty)=D
  ·rw[cE hc]
   exact Z (.refl _) hf
  ·rw[cB hc]
   refine dh (ajB (m:=m) (B:=fg) (L:=mv) (J:=u&&t.led) (plain:=pl&&t.plain) (p:=J.map (·.1)) (λx hx=>?_) (U ass hks) (U ast ajO)) λP tH g1 g2 g3=>?_
   ·rw[ass]at hx
    exact av (mE.mp hx) λe h1 h2=>h2▸A1 e h1
   ·rw[ast]at g2 g3
    dsimp only
    exact U g1<|have p:=ajF g2;have R:(tH.filterMap (J[·]?)).size=J.size:=g_.symm.trans (p.length_eq.trans g_);aL (m:=_) (pB (a:=(tH.filterMap (J[·]?),P)) (U (P:=λk=>(if(k !=J.size)=D then _ else _)=_) R (cB (by simp))) (Z p (U R g3)))
end
section
variable{A:dY}{E:au->a8->Prop}{s:a8}{S:aw}
def ajP{m:Model}{c:wu}{R:y_->a8->Prop}{P:a8}(k:i9 m A c (wants (λv Y=>∃p u,v= .ref S/\Y={s with heap:=p}/\p.get? S=q (A0 #[] 0 (.fresh 0 0 u))/\∀b o,s.heap.get? b=q o->p.get? b=q o/\b≠S) E) P)(h:∀p u,p.get? S=q (A0 #[] 0 (.fresh 0 0 u))->(∀b o,s.heap.get? b=q o->p.get? b=q o/\b≠S)->R (.ok<|.ret<|.ref S) {s with heap:=p})(Z:∀e t,E e t->R (.error e) t):i9 m A c R P:=UL k λr t x=>by cases r with|error e=>exact Z e t x|ok f=>cases f with|ret v=>refine mJ x λp u e1 e2 g1 g2=>?_;subst e1;subst e2;exact h p u g1 g2|_=>exact x.elim
def ajQ{m:Model}{c:wu}{R:y_->a8->Prop}{Y:a8}{H:bt->Prop}(k:i9 m A c (wants (λv Z=>∃p t,v= .none/\Z={s with heap:=p,toks:=t}/\H p) E) Y)(h:∀p t,H p->R (.ok<|.ret .none) {s with heap:=p,toks:=t})(he:∀e x,E e x->R (.error e) x):i9 m A c R Y:=UL k λr x P=>by cases r with|error e=>exact he e x P|ok f=>cases f with|ret v=>refine dh P λp t e1 e2 g=>?_;subst e1;subst e2;exact h p t g|_=>exact P.elim
theorem ajR:ajh B w:=by
 intro A s a N l hh hu ha R hr E Q h
 have Y:∀i∈l,0<=i/\i<16:=λi hi=>by
  have:=fc.mp hr i hi
  simpa using this
 refine dZ wv.mro λc tl Z=>have p:=wv.made;have m:=wv.sub;Ch (UD (bu ⟨wu.quiet_builtin _ (by decide+kernel),asd F.entry_type_call ?_⟩))
 rw[dY.under_plain (weight_type_call_type "set" [.ref a] []) C]
 have h1:=wv.notType
 have h2:=wv.canCreate
 have hct:=F.typeCall_set_1 (.ref a)
 wp_delta
 refine Fv C<|Fv C<|aL<|pB hct<|aL<|pB Z<|Fv C<|aL<|pB p<|aL<|bu<|aL<|i8<|Ch ?_
 refine ajP (S:=s.heap.objs.size) (code_set_new_1 (.ref a) (E:=E) λu=>jE _ u C rfl (jq _ rfl) λb o e=>⟨jp _ e,hO (hR e)⟩) (λh1 u hS x=>?_) λ_ _ h=>h
 have P:asu {s with heap:=h1} (.ref s.heap.objs.size) "set":=(aT _ hS C)
 have hli:=wv.init.lookup
 have hbi:=wv.init.bind (.ref s.heap.objs.size)
 refine aL (auv P m (Fv C (aL (i8 ?_))))
 wp_delta
 refine aL<|UE P hli<|i8<|aL<|pB hbi<|aL<|Ch ?_
 refine ajQ (s:=s) (H:=λL=>∃o,(∀b o,s.heap.get? b=q o->L.get? b=q o)/\L.get? s.heap.objs.size=q o/\gQ B w o l) (LL wv.init.plain F.entry_set_init (check_set_init_1 P ?_)) (λL tk f=>?_) λ_ _ h=>h
 ·have r:=(x a _ ha).1
  have Io:asu {s with heap:=h1} (.ref a) "set":=(aT _ r R.1.1)
  unfold Builtin.«set.__init__» noKeywords Builtin.Frozenset.updateFrom
  generalize hM:asv=MM
  refine aL (aut C (bu ?_))
  wp_delta
  refine aL ?_
  wp_delta
  refine aL ?_
  wp_delta
  refine aL<|auu P<|Fv C<|bu ?_
  wp_delta
  wp_delta
  refine bu<|aL ?_
  wp_delta
  refine Fv C<|Fv C<|Fv C<|bu<|aL ?_
  wp_delta
  refine bu<|aL ?_
  wp_delta
  refine aL ?_
  wp_delta
  refine aL<|wpAny_load' hS<|Fv C<|bu<|bu<|Fv C ?_
  wp_delta
  refine aL<|aL ?_
  wp_delta
  wp_delta
  refine aL<|auv Io m ?_
  wp_delta
  refine bu<|aut C<|aL ?_
  wp_delta
  refine bu ?_
  subst hM
  unfold asv setEpoch
  exact fH R.2 λ_ f=>wF f λJ ep t hd _ _ _ hf _=>aL (aL (pA r hd hf (bu (ajK (x a _ ha).2.symm hS r R Y λL o k1 k2 k3=>bu (bV L _ rfl rfl (cN o (λb ob e=>k1 b ob (x b _ e).2 (x b _ e).1) k2 k3))))))
 ·refine cP f λo g1 g2 g3=>?_
  refine bu (Fv C ?_)
  wp_delta
  wp_delta
  refine bu ?_
  exact h L tk o g1 g2 g3
end
def ajT(c:G M):∀n,n=c.length->firstMet (λi=>c.getD i 0) n=c.foldl ww []:=by
 rintro n rfl
 delta firstMet
 congr 1
 refine arS (by simp) λi f l=>?_
 simp at f
 simp[Ux,f]
def Qr:k∈js l i↔k∈l\/k=i:=by delta js;exact bX (l.contains i) (λh=>⟨.inl,λc=>c.elim id λe=>by calc U e;exact fW.mp h⟩) λ_=>i6.trans or_comm
def Qs(c:l.Nodup):(js l i).Nodup:=by delta js;exact bX (l.contains i) (λ_=>c) (λh=>qK.mpr ⟨λm=>(by injection(h.symm.trans<|fW.mpr m)),c⟩)
def ajU:∀{is l:G M},k∈nH l is↔k∈l\/k∈is:=by intro c;induction c with|nil=>intro _;exact⟨.inl,λh=>h.elim id (by simp)⟩|cons i is ih=>intro l;exact(ih).trans<|(LM Qr Iff.rfl).trans<|or_assoc.trans<|LM Iff.rfl i6.symm
def ajV:∀{is l:G M},l.Nodup->(nH l is).Nodup:=by intro c;induction c with|nil=>intro _ h;exact h|cons f is ih=>intro _ h;exact ih<|Qs h
def ajW{i k:M}:k∈ww l i↔k∈l\/k=i:=by
 delta ww;split;·rename_i h;exact⟨.inl,λc=>c.elim id λe=>e▸(by simpa using h)⟩
 ·simp
def ajX{i:M}(h:l.Nodup):(ww l i).Nodup:=by
 delta ww;split;·exact h
 ·rename_i c;exact asw.mpr<|cr h (dw C) (λa m b f e=>c (by rw[sA.mp f]at e;clear c f;subst e;simpa using m))
def ajY:∀{is l:G M},k∈is.foldl ww l↔k∈l\/k∈is:=by intro c;induction c with|nil=>intro _;exact⟨.inl,λh=>h.elim id (by simp)⟩|cons i is ih=>intro l;exact(ih).trans<|(LM ajW Iff.rfl).trans<|or_assoc.trans<|LM Iff.rfl i6.symm
def ajZ:∀{is l:G M},l.Nodup->(is.foldl ww l).Nodup:=by intro c;induction c with|nil=>intro _ h;exact h|cons f is ih=>intro _ h;exact ih<|ajX h
section
variable{u:cA}{w:b9}{h:bt}{x:au}{a:aw}{o:dy}
def gQ.Qt{S:M->ak}{n:aj}{l:G M}(x:h.SetOf (eY u w) a S n)(c:l.Nodup)(f:∀k,S k=D↔k∈l)(m:n=l.length):∃o,h.get? a=q o/\gQ u w o l:=Vs x λo p r t B E J L N O P Q=>(oB o B E c<|wD p r t J L (λk=>by rw[fW,<-f k];exact N k) O P<|U Q<|U m C)
variable(u w)in
def D8(s:a8)(l:G M)(Q:au->a8->Prop):Prop:=∀c f o,(∀b o,s.heap.get? b=q o->c.get? b=q o)->c.get? s.heap.objs.size=q o->gQ u w o l->Q (.ref s.heap.objs.size) {s with heap:=c,toks:=f}
def aj0[fe d](B:eT A d)(h:AU u w c x l)(J:gV l=q is)(L:is.length<=1000)(f:D8 u w c.s (nH [] is) Q):aH (ax u w) A (call (.type "set") [x]) Q E c.s:=dh h λa i N O P=>by clear h;obtain rfl:=N;refine have m:=vu P J;have p:i.size=is.length:=DY m;call_set_list B.hh O m (U p<|qB (mD L) (by decide:1001<scanBound)) λR Y r Z=>?_;rw[ajT is _ p]at r;exact have t:(nH [] is).Nodup:=ajV Lz;have mem:∀k,k∈is.foldl ww []↔k∈nH [] is:=λk=>ajY.trans ajU.symm;av (gQ.Qt (l:=nH [] is) r t (λk=>by rw[<-mem k];simp) ((G.perm_ext_iff_of_nodup (ajZ Lz) t).mpr mem).length_eq) λo ho I2=>f R Y o (λb o e=>Z b o (hR e) e) ho I2
def toSet_ok[fe d](m:eT A d)(S:St u w J c)(r:aP u w c v x)(e:toSetW v c.M P)(f:∀l,P l->D8 u w c.s l Q):aH (ax u w) A (call (.type "set") [x]) Q E c.s:=by
 delta toSetW at e;revert e;refine gT (sE c.M.fl v) (λ_ e=>?_) λl h e=>?_;·exact oC (m_ S r e) λl a i p t B N=>av (dq N) λis O L=>aj0 m (IX<|bV a i p t B) O (dM L).1 (f _ (dM L).2)
 ·exact dh (D0 S r h) λa o p t B=>p▸ajR A c.s a o _ m.hh m.cl t B (cO e).1 E Q (f l (cO e).2)
def aj1(S:St u w m c)(p:R (.fz<|.set l) c.M)(f:Go u w m c R Q):D8 u w c.s l Q:=λt B o E r J=>f _ (c.gz t B c.s.heap.objs.size) _ p (AY S E (lK _) r) (bV _ o C (AZ r) J)
def aj2(S:St u w m c)(p:R (.ref c.M.fl.length) ⟨c.M.fl++[.set l],c.M.ins⟩)(f:Go u w m c R Q):D8 u w c.s l Q:=λt B o E r J=>f _ (c.gh t B c.s.heap.objs.size<|.set l) _ p (ajd S E (lK _) r λ_ _=>(aT o r J)) IU
end
noncomputable def A4:BI->au| .len=>.builtin "len"| .str=>.type "str"| .oE=>.type "list"| .list=>.type "list"| .set=>.type "set"| .wH=>.type "set"| .max=>.builtin "max"| .zq=>.builtin "abs"| .sum=>.builtin "sum"| .bytes=>.type "bytes"| .int=>.type "int"
def aj3(h:jF c=D)(n:aj):(n:M)*10+((c:M)-48)=((n*10+(c-48):aj):M):=have h:=(vo h).1;(by omega)
def aj4:∀(l:G aj)(n:aj),l.all jF=D->l.foldl (λ(n:M)(c:aj)=>n*10+((c:M)-48)) (n:M)=((l.foldl (λm c=>m*10+(c-48)) n:aj):M):=by intro p;induction p with|nil=>exact λ_ _=>C|cons c l ih=>intro n h;rw[Fs]at h;have f:=bh h;rw[asx,asx,aj3 f.1,ih _ f.2]
section
def aj5(S:St l w m c)(r:aP l w c v x)(e:cF v λi=>gd (small i)<|R (.fz<|.str<|cV<|toString i) c.M)(f:Go l w m c R Q):aH (ax l w) A (call (.type "str") [x]) Q E c.s:=cq (ji r e) λi t u p=>u▸str_of_int_fit (N:=2^62) (by have:=AJ (cO p).1;split<;>omega) {} λ_=>f.tk S (cO p).2 ⟨_,C⟩
def aj6(S:St p w t c)(r:aP p w c v x)(e:gF c.M.fl v λl=>gd (l.length<=aM) (R (.fz (.af l)) c.M))(f:Go p w t c R Q):aH (ax p w) A (call (.type "list") [x]) Q E c.s:=
 oC (m_ S r e) λl a i N O B J=>O.elim λY m=>by
  clear r;obtain rfl:=N;exact call_list_seq a (.inl C) m C rfl (λP Z L u=>f _ (c.gz P c.s.toks c.s.heap.objs.size) _ (dM J).2 (AY S L (lK _) u) (bV _ _ rfl ⟨_,AZ u⟩ (bp.bz (AY S L (lK _) u).ay.b _ B)))
   (aG (B.size▸(dM J).1) mw)
def aj7[fe d](N:eT A d)(S:St m w p c)(r:aP m w c v x)(O:aP m w c u y)(e:cF v λa=>cF u λb=>R (.fz<|.int (match aa (a<b)with|D=>b|j=>a)) c.M)(f:Go m w p c R Q):aH (ax m w) A (call (.builtin "max") [x,y]) Q E c.s:=
 ng r O e λi t l Z P Y e=>by
  subst P Y;refine max_two_ints N.hh λB J L=>?_;by_cases g:i<l;·refine U (cE g) ?_;rw[de g]at e;exact f _ (c.gr B J) _ e (my S L) ⟨_,C⟩
  ·calc U (cB g);rw[g9 g]at e;exact f _ (c.gr B J) _ e (my S L) ⟨_,C⟩
def aj8(S:St l w m c)(r:aP l w c v x)(e:cF v λa=>R (.fz<|.int a.natAbs) c.M)(f:Go l w m c R Q):aH (ax l w) A (call (.builtin "abs") [x]) Q E c.s:=
 cq (ji r e) λi t p B=>by
  refine U p<|call_abs_int λu J=>?_;have g:(if i<0 then-i else i)=((i.natAbs:aj):M):=by split<;>omega
  exact U g<|f.tk S B ⟨_,C⟩
def aj9[fe d](O:eT A d)(S:St m w u c)(r:aP m w c v x)(e:gF c.M.fl v λl=>oP (gV l) λis=>R (.fz<|.int is.sum) c.M)(f:Go m w u c R Q):aH (ax m w) A (call (.builtin "sum") [x]) Q E c.s:=
 oC (m_ S r e) λl a p P Y Z iy=>av (dq iy) λis bA bG=>Y.elim λep B=>by
  clear r
  obtain rfl:=P
  refine have L:=vu Z bA;call_sum_walkG (UM (hU B)<|have N:a<c.s.heap.objs.size:=hR B;(Co _ _ _ _<|wD _ _ (λi=>is.getD i 0) C (Walks.list (A:=A.in1) O.hh c.s.heap.objs.size a (hO N) p) ⟨(cN _ (jq _ rfl) C rfl),(hU B).push _⟩ (λb hb=>?_) (λi v hv=>?_) λh' tk t' hk=>?_))
  ·show b<(c.s.heap.push _).objs.size
   refine U (asy ..) ?_
   rcases i6.mp hb with e|e
   ·exact e▸mG _
   ·exact sA.mp e▸UN N
  ·exact have J:=(za.mp hv);J.elim λJ e=>(Ip L i J).imp λt g=>e.symm.trans g
  ·exact U (preSum_getD ..)<|U (show p.size=is.length from DY L)<|U ar9<|f _ (c.gr h' tk) _ bG (my S λb o e=>hk b o (by simp only[sA];exact hO<|hR e)<|jp _ e) ⟨_,C⟩
def aj_[fe d](B:eT A d)(S:St l w m c)(r:aP l w c v x)(e:cF v λn=>gd (0<=n&&n<=1000)<|R (.fz<|.bytes<|jA n.toNat 0) c.M)(f:Go l w m c R Q):aH (ax l w) A (call (.type "bytes") [x]) Q E c.s:=cq (ji r e) λi t J p=>J▸ajl A c.s i t B.hh B.cl (vo (cO p).1).1 (vo (cO p).1).2 E Q λu L=>f.tk S (cO p).2 ⟨_,C⟩
def aka(S:St l w m c)(r:aP l w c v x)(e:gU v λs=>gd (s.length<=100&&s.cps.size !=0&&s.cps.toList.all jF)<|R (.fz<|.int<|digitsVal s.cps.toList) c.M)(f:Go l w m c R Q):aH (ax l w) A (call (.type "int") [x]) Q E c.s:=cq (mu r e) λk t J p=>by clear r;obtain rfl:=J;exact have g:=bh (cO p).1;have u:=bh g.1;have B:=dw u.1;KIN.call_text (n:=digitsVal k.cps.toList) (U (show digitsVal k.cps.toList=((NumText.digitsVal k.cps.toList:aj):M)from aj4 _ 0 g.2)<|PySem.intText_digits (λc L=>vo<|fc.mp g.2 c L) (λe=>py.mp u.2<|g_.symm.trans<|az mC e)<|aG B {}) (aG B {}) (f.tk S (cO p).2 ⟨_,C⟩)
def akb[fe d](B:eT A d)(S:St t w J c)(r:dI t w c args P)(e:Mh k args c.M R)(Y:k≠ .oE)(m:Go t w J c R Q):aH (ax t w) A (call (A4 k) P) Q E c.s:=by have one:∀{f:V->Prop},b1 args f->(∀v x,aP t w c v x->f v->aH (ax t w) A (call (A4 k) [x]) Q E c.s)->aH (ax t w) A (call (A4 k) P) Q E c.s:=λe g=>mJ (yd r e) λv x L N _ O=>L▸g v x N O;cases k with|len=>exact one e λv x r e=>ajf S r e m|str=>exact one e λv x r e=>aj5 S r e m|oE=>exact absurd C Y|list=>exact one e λv x r e=>aj6 S r e m|set=>exact one e λv x r e=>toSet_ok B S r e λl p=>aj1 S p m|wH=>exact one e λv x r e=>toSet_ok B S r e λl p=>aj2 S p m|max=>exact Cp (IV r e) λv u x y L N Z O=>L▸aj7 B S N Z O m|zq=>exact one e λv x r e=>aj8 S r e m|sum=>exact one e λv x r e=>aj9 B S r e m|bytes=>exact one e λv x r e=>aj_ B S r e m|int=>exact one e λv x r e=>aka S r e m
end
noncomputable def ye:BI->ah| .len=>"len"| .str=>"str"| .oE=>"list"| .list=>"list"| .set=>"set"| .wH=>"set"| .max=>"max"| .zq=>"abs"| .sum=>"sum"| .bytes=>"bytes"| .int=>"int"
def Qu(k:BI):y0 (ye k)=q (A4 k):=by cases k<;>decide+kernel
def Qv(k:BI):ye k≠("__name__":ah):=by cases k<;>decide+kernel
def Qw:y0 "range"=q (.type "range"):=by decide+kernel
noncomputable def i4(K:cH)(N:Cx)(id:ah)(v:ar au):ak:=D1 N id&&nsIn K la id==q v
def A5(J:cA)(w:b9)(h:bt)(f:au):Prop:=∃k,(k=Keeper.frame\/k=Keeper.machine\/k=Keeper.boundFrame)/\LN (ax J w) h (keeperOf f) k
section
variable{J:cA}{w:b9}{L:bt}{K:cH}{m:G (ah×F)}{x l:ah->ar au}{R:Fns}{d:aj}{N:Cx}{a:Mine.X}{u:G Mine.X}{Z:G aN}{p O:eZ}{c:Cf}{f:Fr}{A:dY}{s:a8}{y B:au}{id:ah}
variable(J w L R d N)in
def jS(u:G Mine.X)(Z:G aN):Prop:=tF J w L R d N u Z/\∀P p,(backTo p<|nA Z P).any (·.1)=j/\((u=[]/\Z=[])\/∃E r,nA Z P=(j,E)::r)
def Qx:jS J w L R d N [] []:=⟨II,λ_ _=>⟨C,.inl ⟨C,C⟩⟩⟩
def I3(P:∀E,nA (e::Z) E=(j,eval e E)::nA Z E)(Q:eP J w L R d N r e)(h:jS J w L R d N u Z):jS J w L R d N (r::u) (e::Z):=⟨aiN P Q h.1,λE p=>⟨by calc U (P ..);exact(h.2 E p).1,.inr<|qN _ _<|P E⟩⟩
def Qy(h:jS J w L R d N u Z)(hc:f.cx=N)(r:Rd J w L d f c)(hw:jZ R u f.ρ c.M P)(Y:IH J w L u.length c P λys s=>Q ⟨ys,[]⟩ s):aH (ax J w) f.A (evalArgs B D (backTo p<|nA Z f.env) []) Q E c.s:=
 (h.2 f.env p).2.elim (λg=>by
  obtain rfl:=g.1;obtain rfl:=g.2;exact evalArgs_nil3<|Y [] c [] C hw (.refl r.st) C) λg=>dZ g λz0 r' g=>by
  have all:=h.1 f c P _ E p hc r hw Y;rw[g]at all⊢;exact UO all
def Su.yf(r:Su J w L K m x l)(P:bY J w f c)(S:St J w L c)(hf:i4 K f.cx id z=D)(hn:id≠("__name__":ah))(hb:y0 id=q y){Q E:au->a8->Prop}(Y:Q y c.s):aH (ax J w) f.A (eval (.Name id p) f.env) Q E c.s:=have g:=bh hf;have B:=bh g.1;UA P.kf (P.tE<|bw.mp B.1) (asz (P.xR▸r.g.keeps S.jR) (asA r.rK r.g<|bw.mp g.2) (P.AE▸r.b.keeps S.jR) ((r.bi id hn).trans hb) Y) (Iv B.2).1
def Su.yg(r:Su J w L K m x l)(P:bY J w f c)(S:St J w L c)(hf:i4 K f.cx id (q y)=D){Q E:au->a8->Prop}(Y:Q y c.s):aH (ax J w) f.A (eval (.Name id p) f.env) Q E c.s:=r.Qe P S (bh hf).1 (mg_of r.rK r.g<|bw.mp (bh hf).2) Y
def qr{P:G V->Mem->Prop}{Q E:au->a8->Prop}(h:jS J w L R d N u Z)(hc:f.cx=N)(r:Rd J w L d f c)(hw:jZ R u f.ρ c.M P)(hn:∀Q':au->a8->Prop,Q' B c.s->aH (ax J w) f.A (eval (.Name id O) f.env) Q' E c.s)(hk:∀c',St J w L c'->A5 J w c'.h B)(Y:IH J w L u.length c P λys s=>aH (ax J w) f.A (call B ys) Q E s):aH (ax J w) f.A (eval (.Call (.Name id O) Z [] p) f.env) Q E c.s:=asB<|hn _<|asC (P:=λh=>A5 J w h B) (U ((h.2 f.env p).1) C) (λh z0=>z0)<|Qy h hc r hw λvs c' ys hl h n r'=>⟨hk c' n.st,Y vs c' ys hl h n r'⟩
def akc(k:BI)(h:bt):A5 J w h (A4 k):=(aT (.machine) (.inr<|.inl C) (by cases k<;>exact LP C))
def A6(T:jC)(h:bt):A5 J w h (.type T):=(aT (.machine) (.inr<|.inl C)<|LP C)
def akd[fe d]{k:BI}(Y:Su J w L K m x l)(hk:k≠ .oE)(hf:i4 K N (ye k) z=D)(h:jS J w L R d N u Z):ed J w L R d N (.bi k u) (.Call (.Name (ye k) O) Z [] p):=iZ (λf c P Q E hc r hw z0=>qr h hc r hw (λQ'=>Y.yf r.e r.st (hc▸hf) (Qv k)<|Qu k) (λc' _=>akc k c'.h) λvs c1 ys hl e n1 r1=>akb r.a n1.st r1 e hk<|z0.on n1) λ_ _=>C
def ake:∀(r:G au)(k:aj),(∀E v,r[E]? =q v->∃P,v=Fz ((k+E:aj):M) P)->bp J w b ((Ll k r.length).map λ(i:aj)=>F.int (i:M)) r:=by intro Y;induction Y with|nil=>exact λ_ _=>C|cons v r ih=>exact λk h=>U eX<|U ard<|U uc<|bV v r C (h 0 v C)<|ih (k+1) λE Q e=>(h (E+1) Q e).imp λP g=>g.trans<|U (aj.succ_add ..)<|U (aj.add_succ ..) C
def akf(h:ItemsOf (λi v=>∃r,v=Fz (0+(i:M)*1) r) P n):bp J w b ((jn n).map λ(i:aj)=>F.int (i:M)) P.toList:=by have g:=ake (J:=J) (w:=w) (b:=b) P.toList 0 λE v e=>(h.2 E v<|yc e).imp λr k=>k.trans<|U (TY ..)<|U (Lw ..)<|U (kq ..) C;rw[g_,h.1,<-G.range_eq_range']at g;exact g
def Qz(n:M):asD 0 n 1=n.toNat:=by unfold asD;lia
def akg[fe d](hA:eT A d)(S:St J w L c)(e:gd (-1000000<=n&&n<=1000000) (r (.fz<|.af<|fh n) c.M))(P:Go J w L c r Q):aH (ax J w) A (call (.type "range") [.int n Y]) (λv s'=>aH (ax J w) A (call (.type "list") [v]) Q E s') E c.s:=asE<|have hn:=vo (cO e).1;have hr:=asF c.s.heap 0 n 1 c.s.toks Y<|c.s.toks+1;have n1:=my (h:=c.s.heap.push {cls:=.type "range",data:=.fields #[.int 0 c.s.toks,.int n Y,.int 1 (c.s.toks+1)]}) (J:=c.s.toks+1+1) S λa o e=>jp _ e;call_list_range hA.hh hr (small_one {} {} (z5) (by lia)) (Qz n) (by lia) λh' tk acc c' hk ho hi=>have n2:=AY (J:=tk) n1.st hk (lK _) ho;(P.on n1) _ (Cf.gz _ h' tk _) _ (cO e).2 n2 (bV _ _ rfl ⟨_,AZ ho⟩<|akf hi)
def akh[fe d]{p1 p2:eZ}(Y:Su J w L K m x l)(hf:i4 K N "list" z=D)(hr:i4 K N "range" z=D)(h:jS J w L R d N u Z):ed J w L R d N (.bi .oE u) (.Call (.Name "list" O) [.Call (.Name "range" p1) Z [] p2] [] p):=iZ (λf c P Q E hc r hw z0=>by refine asB<|Y.yf r.e r.st (hc▸hf) (Qv .list) (Qu .list) ?_;refine asC (P:=λh=>True) C (λh _=>A6 "list" h)<|UO<|UP ?_;refine qr h hc r hw (λQ'=>Y.yf r.e r.st (hc▸hr) (by decide+kernel) Qw) (λc' _=>A6 "range" c'.h) λvs c1 ys hl e n1 r1=>?_;exact mJ (yd r1 e) λv ze cI cG _ vF=>cI▸cq (ji cG vF) λi zl aW a_=>aW▸gm (akg (E:=E) r.a n1.st a_<|z0.on n1) (λv s2 h2=>asG ⟨trivial,h2⟩) λ_ _ e=>e) λ_ _=>C
end
section
variable{n:aj}{c:Cf}
noncomputable def Cf.tn(c:Cf)(h:bt)(f n:aj)(l:FObj):Cf:={c with s:={c.s with heap:=h,toks:=f},M:=⟨c.M.fl.set n l,c.M.ins⟩}
def dz(S:St p w u c)(P:c.M.fl[n]? =q J)(Q:xP J=j)(R:ui (c.H n) c.h x)(N:x.get? (c.H n)=q o)(B:∀b:Bv,(∀a o,c.b a=q o->b a=q o)->m9 p w x.get? b (c.H n) O):Nx p w u c (c.tn x Y n O):=
 have L:=S.fl n J P Q;have ne:∀{a:aw}{r:ar dO},c.W a=r->r≠q (.hd n)->a≠c.H n:=λe f l=>f<|e.symm.trans<|(az c.W l).trans L.1;have k:∀{a o},a≠c.H n->c.h.get? a=q o->x.get? a=q o:=λf e=>(R.2 _ f).trans e;have T:tz c (c.tn x Y n O):=⟨λa o r e f h=>⟨k (ne f λl=>by injection l with l;subst l;exact bZ h) e,f⟩,λa o e f _=>⟨f,o.slots,k (ne f (λh=>by injection h)) e,λ_=>C⟩,λ_ _=>C,λ_ _=>C,cY wo.symm,bR _,λa E e _=>if l:a=c.H n then⟨o,l▸N⟩else⟨E,k l e⟩⟩;⟨{
  base:=λa o e=>have f:=S.base a o e;have l:=T.kfz a o .fz f.2 f.1 C;⟨l.2,l.1⟩
  role:=λa r e=>have f:=S.role a r e;⟨match r,f.1 with| .fz,_=>trivial| .cL,_=>trivial| .hd _,g=>⟨g.1,jD g.2 wo.symm⟩| .ih _,g=>g| .id _,g=>g,if g:a=c.H n then⟨o,g▸N⟩else f.2.imp λ_=>k g⟩
  fl:=λm E e f=>(rJ e).elim (λl=>by cases l.1;obtain rfl:=l.2;exact⟨L.1,B _ T.b⟩) λl=>have g:=S.fl m E l.2 f;⟨g.1,g.2.bz T.b λ_=>k<|ne g.1 λt=>l.1<|IC t⟩
  ins:=λm Z fs e=>have g:=S.ins m Z fs e;⟨g.1,g.2.1,k (ne g.1<|dO.ne C) g.2.2.1,g.2.2.2.1.imp λ_ h=>h.imp λ_ h=>⟨k (ne g.2.1<|dO.ne C) h.1,h.2.1,h.2.2.ay T⟩,g.2.2.2.2⟩},T,C,C⟩
def I4(f:eD au)(n:aj)(x:au):uj (λl=>l.push x) {cls:=.type "list",dict:=z,data:=.seq f n,slots:= #[]}={cls:=.type "list",dict:=z,data:=.seq (f.push x) (n+1),slots:= #[]}:=by
 have e:((f.push x).size==f.size)=j:=by simp
 simp only[uj,e,ak.false_eq_true,FG]
def I5(S:St f w p c)(E:c.M.fl[n]? =q (.list l))(J:mI c.h (c.H n) i L)(u:g {cls:=.type "list",dict:=z,data:=.seq i L,slots:= #[]}={cls:=.type "list",dict:=z,data:=.seq t x,slots:= #[]})(r:bp f w c.b m t.toList):Nx f w p c (c.tn (c.h.update (c.H n) g) c.s.toks n<|.list m):=
 have B:(c.h.update (c.H n) g).get? (c.H n)=q {cls:=.type "list",dict:=z,data:=.seq t x,slots:= #[]}:=by exact U (qL _ J (by calc U u;rfl))<|U u C
 dz S E C (zb ..) B λb N=>(aT t ⟨x,B⟩<|bp.bz N _ r)
def I6(S:St f w p c)(r:aP f w c (.ref n) x)(t:c.M.fl[n]? =q (.list l)):x= .ref (c.H n)/\∃i m,mI c.h (c.H n) i m/\bp f w c.b l i.toList:=⟨r.1,(S.fl n _ t C).2.elim λi h=>h.1.elim λm k=>(fY i m k h.2)⟩
def D9(e:oP c.M.fl[n]? λo=>oP (oM o) k):∃l,c.M.fl[n]? =q (.list l)/\k l:=av (dq e) λo f m=>(dq m).imp λl k=>⟨f.trans<|az q<|DT k.1,k.2⟩
def akj(S:St p w r c)(u:aP p w c (.ref n) x)(N:bD p w c.b f y)(e:Mi n f c.M R)(m:Go p w r c R Q):aH (ax p w) A (call (.builtin "list.append") [x,y]) Q E c.s:=av (D9 e) λl B J=>have g:=I6 S u B;cq g.2 λi O t L=>by clear u;obtain rfl:=g.1;refine have P:i.size<=sizeLine:=L.size▸aG (sq (dM J).1) mw;LA asH (hU t).typeIs asI ?_ (asJ _ _);show aH _ _ (updateSeq (c.H n) (·.push y)>>=λ_=>ret .none) _ _ c.s;exact aL<|asK t C<|bu<|aT (.none) C<|m _ (c.tn _ c.s.toks n _) _ (dM J).2 (I5 S B t (I4 i O y)<|U asL<|L.append (l':=[f])<|bV y [] C N C) C
def akk(S:St p w r c)(J:aP p w c (.ref n) x)(L:aP p w c v y)(e:oP c.M.fl[n]? λo=>oP (oM o) λl=>gF c.M.fl v λm=>gd (l.length+m.length<aM)<|R (.fz .none) ⟨c.M.fl.set n<|.list<|l++m,c.M.ins⟩)(f:Go p w r c R Q):aH (ax p w) A (call (.builtin "list.extend") [x,y]) Q E c.s:=av (D9 e) λl N Z=>have g:=I6 S J N;g.2.elim λi g'=>av g' λep u O=>oC (m_ S L Z) λm b B aW a_ P Y=>a_.elim λog k'=>by clear J;obtain rfl:=g.1;clear L;obtain rfl:=aW;exact have t:=sizes O P<|sq (dM Y).1;yX PySem.F.slot_list_extend (aT _ u C) PySem.F.entry_list_extend (PySem.F.args_list_extend_2 _ _) (AutoSeq1.list_extend_list_list_0 (c.H n) i ep b B og (extend_door t)<|aG (mB _ _) t) (cr u k'<|f _ (c.tn _ c.s.toks n _) _ (dM Y).2 (I5 (g:=uj λxs=>xs++B) (t:=i++B) S N u C<|U yU<|O.append P) C)
def bp.dropLast:bp p w b l t->bp p w b l.dropLast t.dropLast:=bp.eF (P:=λl t=>bp p w b l.dropLast t.dropLast) C (λf v l r a k m=>by cases l with|nil=>exact U (P:=λr=>bp p w b [] (v::r).dropLast) k C|cons g l=>exact dh k λu x e _ _=>U (P:=λr=>bp p w b (g::l).dropLast r.dropLast->bp p w b (f::(g::l).dropLast) (v::r).dropLast) e (λm=>bV v _ rfl a m) m) l
def akl{i:eD au}(h:i.size≠0):i.eraseIdxIfInBounds (i.size-1)=i.pop:=by apply eD.toList_inj.mp;delta eD.eraseIdxIfInBounds;exact U (dif_pos<|asM (UQ h) asN)<|U eD.toList_eraseIdx<|U asO<|U (Eq.symm g_)<|U G.eraseIdx_length_sub_one C
def akm(h:i.size≠0):uj (λf=>f.eraseIdxIfInBounds<|i.size-1) {cls:=.type "list",dict:=z,data:=.seq i l,slots:= #[]}={cls:=.type "list",dict:=z,data:=.seq i.pop (l+1),slots:= #[]}:=by have e:(i.size-1==i.size)=j:=mF.mpr<|hO<|asM (UQ h) asN;simp[uj,akl h,e]
def akn(S:St p w r c)(B:aP p w c (.ref n) x)(e:oP c.M.fl[n]? λo=>oP (oM o) λl=>oP l.getLast? λf=>gd (P&&l.length<=aM)<|R (.fz f) ⟨c.M.fl.set n<|.list l.dropLast,c.M.ins⟩)(m:Go p w r c R Q):aH (ax p w) A (call (.builtin "list.pop") [x]) Q E c.s:=
 av (D9 e) λl J Y=>have g:=I6 S B J;g.2.elim λi Z=>av Z λep u t=>av (dq Y) λf aW L=>av (t.jx<|Lj.symm.trans aW) λy vz vA=>by
  clear B;obtain rfl:=g.1;have N:i[i.size-1]? =q y:=yc<|t.size▸vz;have h0:i.size≠0:=λe=>by rw[LQ (U e<|cD _)]at N;contradiction
  exact yX PySem.F.slot_list_pop (aT _ u C) PySem.F.entry_list_pop (PySem.F.args_list_pop_1 _) (PySem.MeetsSeq.list_pop_last (c.H n) i ep y N<|t.size▸aG (dw (bh (cO L).1).2) mw) ⟨u,have O:=I5 (m:=l.dropLast) S J u (akm h0)<|asO▸t.dropLast;m _ (c.tn _ c.s.toks n _) _ (cO L).2 O (bD.bz O.ay.b _ vA)⟩
def ako:(js l i).length=if l.contains i=D then l.length else l.length+1:=by delta js;cases l.contains i<;>rfl
def akp(S:St m w p c)(J:aP m w c (.ref n) x)(e:oP c.M.fl[n]? λo=>oP (Cr o) λl=>gd (l.length<1000)<|R (.fz .none) ⟨c.M.fl.set n<|.set<|js l i,c.M.ins⟩)(f:Go m w p c R Q):aH (ax m w) A (call (.builtin "set.add") [x,.int i t]) Q E c.s:=av (dq e) λo L N=>(dq N).elim λl k=>by have B:=L.trans<|az q<|PK k.1;obtain rfl:=J.1;exact(S.fl n _ B C).2.elim λo g=>call_set_add (qm i t) C (g.2.of g.1) (iD (LF (dM k.2).1) {}) λO u P=>av (gQ.Qt (l:=js l i) P (Qs g.2.2.1) (λk=>by simp[Qr]) ako.symm) λY r Z=>f _ (c.tn O _ n _) _ (dM k.2).2 (dz S B C u r λ_ _=>(aT Y r Z)) C
end
noncomputable def D_:Me->ah| .append=>"append"| .gD=>"extend"| .pop=>"pop"| .count=>"count"| .pC=>"get"| .pD=>"get"| .add=>"add"| .join=>"join"| .split=>"split"| .startswith=>"startswith"
noncomputable def I7:Me->jC| .append=>"list"| .gD=>"list"| .pop=>"list"| .count=>"list"| .pC=>"dict"| .pD=>"dict"| .add=>"set"| .join=>"str"| .split=>"str"| .startswith=>"str"
noncomputable def A7:Me->jC| .append=>"list.append"| .gD=>"list.extend"| .pop=>"list.pop"| .count=>"list.count"| .pC=>"dict.get"| .pD=>"dict.get"| .add=>"set.add"| .join=>"str.join"| .split=>"str.split"| .startswith=>"str.startswith"
def I8:∀k:Me,PlainAttrs (I7 k)/\Slot (I7 k) (D_ k) (A7 k)/\typeOf (.builtin<|A7 k)=pure (.type "method_descriptor")| .append=>(cr LR F.slot_list_append F.type_list_append)| .gD=>(cr LR F.slot_list_extend F.type_list_extend)| .pop=>(cr LR F.slot_list_pop F.type_list_pop)| .count=>(cr LR F.slot_list_count F.type_list_count)| .pC=>(cr asP asQ asR)| .pD=>(cr asP asQ asR)| .add=>(cr F.plainAttrs_set F.slot_set_add F.type_set_add)| .join=>(cr UR F.slot_str_join F.type_str_join)| .split=>(cr UR LS F.type_str_split)| .startswith=>(cr UR F.slot_str_startswith F.type_str_startswith)
def akr:∀{c:G ah},c.all (λt=>aa<|t.length<=1)=D->(c.map (·.length)).sum<=c.length:=by intro f;induction f with|nil=>intro _;exact bR _|cons t c ih=>intro h;have g:=bh<|Fs▸h;refine U uc<|U G.sum_cons<|U eX<|U (tW ..) ?_;exact iC (ih g.2)<|dw g.1
section
def A8(s:a8)(x:au)(T:jC):Prop:=s.TypeIs x T/\(∀a,x= .ref a->∃c,s.heap.get? a=q c/\c.dict=z)
def Ea(S:St m w t c)(r:aP m w c u x)(h:(zr c.M.fl u).isSome=D):A8 c.s x "list":=(B5.mp h).elim λl B=>zp (m_ (k:=λ_=>True) S r (by delta gF;calc U B;trivial)) λ_ a i E J _=>J.elim λL f=>E▸⟨(aT _ f C),λb p=>by injection p with p;subst p;exact(aT _ f C)⟩
def QC(r:∃a i,y= .ref a/\iX c w (eY c w) s.heap.get? a i/\dX c w b t i):A8 s y "dict":=dh r λa i m p _=>cP p λo f l _=>m▸⟨(l.of f).mapOf.typeIs,(l.of f).mapOf.noDict⟩
def QD(S:St p w t c)(r:aP p w c u x)(h:recOk .pC u c.M.fl=D):A8 c.s x "dict":=by
 cases u with
 |fz f=>cases f with|di l=>exact QC<|xX r|_=>exact bZ h
 |ref n=>
  have h:(match c.M.fl[n]? with|q (.di _)=>D|_=>j)=D:=h;revert h;refine gT (c.M.fl[n]?) (λ_ h=>?_) λo m h=>?_;·exact bZ h
  ·cases o with|di l=>exact QC<|AL S r m|_=>exact bZ h
 |_=>exact bZ h
def I9(r:aP m w c u x)(h:recOk .join u c.M.fl=D):A8 c.s x "str":=by
 cases u with
 |fz f=>cases f with|str l=>exact r.elim λt e=>e▸⟨FA _ _ _,λ_ e=>(by injection e)⟩|_=>exact bZ h
 |_=>exact bZ h
def aks(S:St f w m c)(r:aP f w c u x)(e:recOk k u c.M.fl=D):A8 c.s x (I7 k):=by cases k with|append=>exact Ea S r e|gD=>exact Ea S r e|pop=>exact Ea S r e|count=>exact Ea S r e|pC=>exact QD S r e|pD=>exact QD S r e|add=>exact(B5.mp e).elim λl B=>dh (D0 S r B) λa o E p t=>E▸⟨(aT o p t.1.1),(t.of p).noDict⟩|join=>exact I9 r e|split=>exact I9 r e|startswith=>exact I9 r e
def akt(L:y.length=1)(N:x.length<=10000)(c:∀l O,l.map (·.1)=Txt.split x y->Q (.ref s.heap.objs.size) {s with heap:=s.heap.push {cls:=.type "list",data:=.seq (strValues l).toArray},toks:=O}):
  aH (ax B w) A (call (.builtin "str.split") [.str x t,.str y u]) Q E s:=by
 have P:10000+2<=sizeLine:=by refine U qH ?_;decide
 have p:x.length<=sizeLine:=aG (aj.le_add_right_of_le N) P
 have r:(Builtin.Str.partsBetween x (Builtin.Str.occurrences x y 0 x.length (x.length+1)) y.length).length<=sizeLine:=U (len_partsBetween ..)<|have:=StrLaws.occ_length_le x y 0 x.length (x.length+1)
 (by lia)
 have J:(y.length==0)=j:=by refine U L ?_;rfl
 cases f:(aa (x.length<y.length)||aa (asS x<asS y))
 ·cases m:(Builtin.Str.occurrences x y 0 x.length (x.length+1)).isEmpty
  ·exact yX LS (FA _ _ _) US (UT _ _) (meets_str_split_sep x y t u f J m p r)<|U (strsFrom_eq ..)<|c (PySem.numbered s.toks _) _ ((PySem.numbered_texts _ _).trans ((cB (UU f)).trans (cB (UU m))).symm)
  ·exact yX LS (FA _ _ _) US (UT _ _) (meets_str_split_not_found x y t u f J m)
    (c [(x,t)] s.toks ((cB (UU f)).trans (cE m)).symm)
 ·exact yX LS (FA _ _ _) US (UT _ _) (meets_str_split_cannot_occur x y t u f)
   (c [(x,t)] s.toks (cE f).symm)
def akv:∀(l:G (ah×lY)),bp c w b ((l.map (·.1)).map .str) (strValues l):=by intro f;induction f with|nil=>exact C|cons e l ih=>exact(bV _ _ rfl ⟨e.2,C⟩<|ih)
def QF(S:St m w p c)(r:aP m w c u x)(e:zt u c.M P):∃l,P l/\∃a i,x= .ref a/\iX m w (eY m w) c.h.get? a i/\dX m w c.b l i:=by
 cases u with
 |fz f=>cases f with|di l=>exact(aT l e<|xX r)|_=>exact e.elim
 |ref n=>exact(dq e).elim λo h=>by cases o with|di l=>exact(aT l h.2<|AL S r h.1)|_=>exact h.2.elim
 |_=>exact e.elim
def QG(t:dX p w c.b l r)(u:aP p w c v y):∃m,(valueAt r i).getD y=m/\aP p w c (match aQ i l with|q f=>.fz f|z=>v) m:=by
 have g:=t.aQ (k:=i);cases x:aQ i l<;>cases B:valueAt r i<;>rw[x,B]at g;·exact(aT y C u)
 ·exact g.elim
 ·exact g.elim
 ·exact(aT _ rfl g)
end
section
def akw(S:St r w B c)(J:aP r w c u x)(e:zt u c.M λl=>R (.fz<|(aQ i l).getD .none) c.M)(f:Go r w B c R Q):aH (ax r w) A (call (.builtin "dict.get") [x,.int i t]) Q E c.s:=av (QF S J e) λl N L=>L.elim λa g=>cP g λi O P Y=>cP P λo Z kc qp=>by clear J L g;obtain rfl:=O;refine have m:=(kc.of Z).mapOf;asT asU m.typeIs asV (PySem.F.args_dict_get_2 _ _) (meets_dict_get (eY r w) a (qm _ t)<|mF.mpr qp) (aT _ m ?_);exact(QG (v:=.fz .none) (y:=.none) Y rfl).elim λp h=>by refine U h.1<|f.tk S N ?_;revert h;cases aQ _ l<;>exact λh=>h.2
def akx(S:St B w J c)(L:aP B w c u x)(O:aP B w c v y)(e:zt u c.M λl=>R (match aQ i l with|q f=>.fz f|z=>v) c.M)(p:Go B w J c R Q):aH (ax B w) A (call (.builtin "dict.get") [x,.int i t,y]) Q E c.s:=av (QF S L e) λl P N=>N.elim λa g=>cP g λi Y Z kh=>cP Z λo i0 kc qp=>by clear L N g;obtain rfl:=Y;exact have m:=(kc.of i0).mapOf;asT asU m.typeIs asV (PySem.F.args_dict_get_3 _ _ _) (meets_dict_get_default (eY B w) a (qm _ t) (mF.mpr qp) y) (aT _ m<|av (QG kh O) λr aX aV=>U aX<|p _ (c.tk _) _ P (nc S _) aV)
def aky(S:St p w r c)(B:aP p w c u x)(J:aP p w c v y)(e:cF v λi=>gF c.M.fl u λl=>oP (gV l) λis=>R (.fz<|.int<|is.count i) c.M)(f:Go p w r c R Q):aH (ax p w) A (call (.builtin "list.count") [x,y]) Q E c.s:=cq (ji J e) λi t L N=>oC (m_ S B N) λl a i O P Y Z=>av (dq Z) λis cI cG=>P.elim λep m=>by clear J;obtain rfl:=L;clear B;obtain rfl:=O;exact count_list_ints (hU m) (vu Y cI)<|f.tk S cG ⟨_,C⟩
def akz(S:St p w r c)(L:aP p w c u x)(N:aP p w c v y)(e:gU u λs=>gF c.M.fl v λl=>oP (iG l) λB=>gd (B.length<=10000&&s.length==0&&B.all (λt=>aa<|t.length<=1))<|R (.fz<|.str<|Fd s B) c.M)(f:Go p w r c R Q):aH (ax p w) A (call (.builtin "str.join") [x,y]) Q E c.s:=cq (mu L e) λk t Z aV=>oC (m_ S N aV) λl a i i0 kc qp J=>av (dq J) λB cI O=>kc.elim λep m=>by clear L;obtain rfl:=Z;clear N;obtain rfl:=i0;exact have P:=bh (cO O).1;have Y:=bh P.1;join_list (hU m) (AK qp cI) (U (bw.mp Y.2)<|have a1:=akr P.2;have a2:=dw Y.1;q1 (aG ‹_› ‹_›)) λt' k=>f.tk S (cO O).2 ⟨_,C⟩
def akB(S:St m w p c)(r:aP m w c u x)(B:aP m w c v y)(e:gU v λy=>gU u λx=>gd (x.length<=10000&&y.length==1)<|R (.fz<|.af<|(Txt.split x y).map .str) c.M)(f:Go m w p c R Q):aH (ax m w) A (call (.builtin "str.split") [x,y]) Q E c.s:=dZ (mu B e) λk t h=>cq (mu r h.2) λZ t' O J=>by clear B;obtain rfl:=h.1;clear r;obtain rfl:=O;refine have L:=bh (cO J).1;akt (bw.mp L.2) (dw L.1) λl N P=>?_;have e:=(cO J).2;rw[<-P]at e;exact have Y:=AY (J:=N) (h:=c.s.heap.push {cls:=.type "list",data:=.seq (strValues l).toArray}) S (λ_ _ e=>jp _ e) (lK _)<|jq _ rfl;f _ (c.gz _ N _) _ e Y (bV _ _ rfl ⟨_,AZ<|jq _ rfl⟩<|akv l)
def akC(S:St l w m c)(p:aP l w c u x)(r:aP l w c v y)(e:gU v λy=>gU u λx=>R (.fz<|.bool<|Lh x y) c.M)(f:Go l w m c R Q):aH (ax l w) A (call (.builtin "str.startswith") [x,y]) Q E c.s:=cq (mu r e) λk t B J=>cq (mu p J) λO P L N=>by clear r;obtain rfl:=B;clear p;obtain rfl:=L;exact SC.startswith<|f.here S N C
def I_(h:qR v k):∃i,v= .ref i/\k i:=by cases v with|ref n=>exact(aT n C h)|_=>exact h.elim
def akD(S:St L w h₁ c)(N:aP L w c u x)(r:dI L w c args xs)(e:kB k u args c.M R)(m:Go L w h₁ c R Q):aH (ax L w) A (call (.builtin<|A7 k)<|x::xs) Q E c.s:=by
 have one:∀{f:V->Prop},b1 args f->(∀v y,aP L w c v y->f v->aH (ax L w) A (call (.builtin<|A7 k) [x,y]) Q E c.s)->aH (ax L w) A (call (.builtin<|A7 k)<|x::xs) Q E c.s:=λe g=>mJ (yd r e) λv x P Y _ lL=>P▸g v x Y lL;have Z:∀{f:aj->Prop}{p:Prop},qR u f->(∀n,aP L w c (.ref n) x->f n->p)->p:=λe g=>av (I_ e) λn P Y=>g n (P▸N) Y;cases k with
 |append=>exact one e λv y O e=>Z e λn N e=>cq (kQ e) λf B P Y=>av (yb S O P) λW bA bG=>akj (c:=c.re W B) bA.st (N.ay bA.ay) bG Y<|m.on bA
 |gD=>exact one e λv y O e=>Z e λn N e=>akk S N O e m
 |pop=>exact Z e λn N e=>by cases args with|nil=>subst r;exact akn S N e m|cons=>exact(D9 e).elim λl h=>(dq h.2).elim λf k=>bZ (cO k.2).1
 |count=>exact one e λv y O e=>aky S N O e m
 |pC=>exact one e λv y O e=>cq (ji O e) λi t P Y=>P▸akw S N Y m
 |pD=>exact Cp (IV r e) λv u y J P Y dm lL=>cq (ji Y lL) λi t cI cG=>P▸cI▸akx S N dm cG m
 |add=>exact one e λv y O e=>cq (ji O e) λi t P Y=>P▸Z Y λn N e=>akp S N e m
 |join=>exact one e λv y O e=>akz S N O e m
 |split=>exact one e λv y O e=>akB S N O e m
 |startswith=>exact one e λv y O e=>akC S N O e m
def akE{f:Type}{l:G (ak×f)}(h:l.any (·.1)=j):l.all (λx=> !x.1)=D:=fc.mpr λc m=>by
 refine bX c.1 (λp=>?_) λ_=>?_;·exact absurd p<|arB.mp h c m
 ·rfl
def akF(hb:∀J O,attributeBase R (D_ k) J O=O)(Y:p'.endLine=p.line)(hn:Z.length<20)(ha:eP m w x Φ d cx a R)(hs:jS m w x Φ d cx xs Z):ed m w x Φ d cx (.cw k a xs) (.Call (.Attribute R (D_ k) p') Z [] p):=
 iZ (λf c P Q E hc r hw l=>by
  have B:=(hs.2 f.env p).1;refine wpAny_Call_method (hb _ _) ?_ (bw.mpr Y) (I8 k).1 (I8 k).2.1 (I8 k).2.2 (ha f c _ _ _ hc r hw λu c1 y1 e L r1=>?_);·refine U (akE B) ?_;exact de<|iD hn {}
  ·have t:=aks L.st r1 (cO e).1;exact(cr t.1 t.2<|asW B<|Qy hs hc (r.on L) (cO e).2 λvs c2 ys Y e N r2=>akD N.st (r1.ay N.ay) r2 e<|l.on<|L.trans N)) λ_ _=>C
end
section
variable{m:cA}{w:b9}{p:bt}{n:aj}{A:dY}{o:dy}{f:F}{l:G F}{X:aw->Prop}{u:aN}{a:aw}
noncomputable def Cf.lo(c:Cf)(h:bt)(r:aj)(W:RM):Cf:={c with s:={c.s with heap:=h,toks:=r},W:=W}
def A9(S:St m w p c)(r:∀a,t a->c.W a=z)(x:∀b o,¬t b->c.h.get? b=q o->B.get? b=q o):cv m w t p c (c.lo B E c.W):=IR S r x
def QH(S:St m w p c)(t:∀a,r a->c.W a=z)(B:∀b o,¬r b->c.h.get? b=q o->x.get? b=q o)(E:c.h.get? a=z)(_:¬r a)(J:x.get? a=q o):cv m w r p c (c.lo x L<|iw c.W a<|q .fz):=IS S t B (λ_ _ _ e=>IQ E e) J
def Nx.to(n:Nx m w p c r):cv m w X p c r:=cv.bz n λ_=>False.elim
def cv.kT(x:cv m w X p c O)(y:cv m w Y p O L)(N:∀a,Y a->¬X a->c.h.get? a=z):cv m w X p c L:=
 ⟨y.st,{
     kfz:=λa o r e f h=>have B:=x.ay.kfz a o r e f h;y.ay.kfz a o r B.1 B.2 h
     knone:=λa o e f g=>have B:=x.ay.knone a o e f g;av B.2 λ_ P Q=>have t:=y.ay.knone a _ P B.1 λE=>(nomatch (N a E g).symm.trans e);⟨t.1,t.2.imp λ_ J=>⟨J.1,λE=>(J.2 E).trans<|Q E⟩⟩
     H:=λn l=>(y.ay.H n<|iD l x.ay.flen).trans<|x.ay.H n l
     I:=λn l=>(y.ay.I n<|iD l x.ay.ilen).trans<|x.ay.I n l
     flen:=aG x.ay.flen y.ay.flen,ilen:=aG x.ay.ilen y.ay.ilen,dom:=λa o e g=>(x.ay.dom a o e g).elim λR Z=>y.ay.dom a R Z λE=>(nomatch (N a E g).symm.trans e)},y.gens.trans x.gens,y.os.trans x.os⟩
variable(m w p)in
structure jj(A:dY)(u:aN)(it:au)(own:aw->Prop)(At:G F->bt->RM->Prop):Prop where
 own_:∀l h W a,At l h W->own a->W a=z/\∃o,h.get? a=q o/\vn o
 frame:∀l h W h' W',At l h W->(∀a o,mo h W a=q o->mo h' W' a=q o)->(∀a o,own a->h.get? a=q o->h'.get? a=q o/\W' a=z)->At l h' W'
 next:∀f l(c:Cf),St m w p c->At (f::l) c.h c.W->∀(Q:au->a8->Prop)(E:au->a8->Prop),
  (∀v h tk W,cv m w own p c (c.lo h tk W)->bD m w (mo h W) f v->At l h W->Q v (c.lo h tk W).s)->
  aH (ax m w) A (pyNext it) (λr dN=>match r with|z=>False|q v=>aH (ax m w) A (letOwnedTupleGo u it v) (λ_ ka=>Q v ka) E dN) E c.s
 done:∀(c:Cf),St m w p c->At [] c.h c.W->∀(Q:a8->Prop)(E:au->a8->Prop),(∀h tk,cv m w own p c (c.lo h tk c.W)->Q (c.lo h tk c.W).s)->aH (ax m w) A (pyNext it) (λr dN=>match r with|z=>Q dN|q _=>False) E c.s
 self:∀l(s:a8)(W:RM),At l s.heap W->∀(Q:au->a8->Prop)(E:au->a8->Prop),Q it s->aH (ax m w) A (pyIter it) Q E s
noncomputable def Eb:G jC:=["enumerate","zip","dict_itemiterator","dict_reverseitemiterator","odict_iterator","itertools.zip_longest","itertools.pairwise"]
def akG{T:jC}(x:Eb.contains T=j)(B:∃o,s.heap.get? I=q o/\o.cls= .type T/\∃c,o.data= .fields c)(h:t jX.unit s):aH (ax m w) A (letOwnedTupleGo target (.ref I) v) t E s:=by
 refine cP B λo J L N=>Exists.elim N λc O=>?_;have r:∀a:aw,aH (ax m w) A (if(Eb.contains T&&c[0]? ==q (rawInt a))=D then(do rule "for.unpacks-the-owned-tuple";updateField I 0 .none)else pure jX.unit) t E s:=λa=>U x<|U (ak.false_and ..)<|U (cB Ca)<|bu h;cases target<;>first
  |exact bu h
  |(cases v<;>first
    |exact bu h
    |(
     refine aL<|wpAny_load J ?_
     refine U L<|U O ?_
     exact r _))
def WAt(c:aj->bt->Prop)(l:G F)(n:aj)(t:Bv)(I:aw)(r:G F)(h:bt)(W:RM):Prop:=∃i,c i h/\i<=n/\r=l.drop i/\(∀a o,t a=q o->mo h W a=q o)/\W I=z
def Ec{T:jC}(r:o.cls= .type T)(c:o.data= .fields t):vn o:=(cr (λe=>(by injection(r.symm.trans e))) (λ_ _ e=>(by injection(c.symm.trans e))) (λ_ e=>(by injection(c.symm.trans e))))
def akI{I:aw}{fp:G aw}{P:aj->au->Prop}{rN:aj->bt->Prop}(O:Walks m w A I fp [I] n P rN){T:jC}(hT:Eb.contains T=j)(hI:∀i h,rN i h->∃o,h.get? I=q o/\o.cls= .type T/\∃vs,o.data= .fields vs)(hl:l.length=n)(R:Bv)(Ja:∀a∈fp,a≠I->∃o,R a=q o)(hP:∀i v,P i v->∃f,l[i]? =q f/\bD m w R f v):jj m w p A u (.ref I) (λa=>a=I) (WAt rN l n R I) where
 own_:=λr h W a x e=>nD x λi J _ _ _ rO=>cP (hI i h J) λo cI cG kh=>kh.elim λvs g'=>e▸⟨rO,(aT o cI<|Ec cG g')⟩
 frame:=λr h W L W' x N ko=>nD x λi J jk jT kU _=>(hI i h J).elim λo g=>(wC i (O.frame i h L J λb hb o' e=>if t:b=I then(ko b o' t e).1 else(Ja b hb t).elim λo2 e2=>by have f1:=kU b o2 e2;cases(mq f1).2.symm.trans e;exact(mq<|N b _ f1).2) jk jT (λa o e=>N a o<|kU a o e)<|(ko I o C g.1).2)
 next:=λf r c S x Q E t=>x.elim λi x=>by have Y:i<l.length:=asX λB=>(by injection(x.2.2.1.trans<|Cg B));have h3:=x.2.2.1;rw[wx Y]at h3;refine O.item i c.s _ E (hl▸Y) x.1 λv L Z hv hs hk=>(hI (i+1) L hs).elim λo g=>akG hT ⟨o,g⟩ ?_;have n1:=A9 (B:=L) (E:=Z) (t:=λa=>a=I) S (λa e=>e▸x.2.2.2.2) λb o t e=>hk b o (λB=>t<|sA.mp B) e;have N:∀a o,R a=q o->mo L c.W a=q o:=λa o e=>n1.ay.b a o<|x.2.2.2.1 a o e;exact av (hP i v hv) λf' aW a_=>by have:f'=f:=bH<|aW.symm.trans<|(ub Y).trans<|az q (sB h3).1.symm;subst this;exact t v L Z c.W n1 (bD.bz N _ a_)<|wC (i+1) hs (hl▸Y) ((sB h3).2) N x.2.2.2.2
 done:=λc S x Q E t=>nD x λi J jk jT _ rO=>by have:i=n:=arE jk<|hl▸asY.mp jT.symm;subst this;exact O.done c.s _ E J λL Z hk=>t L Z<|A9 (t:=λa=>a=I) S (λa e=>e▸rO) λb o t e=>hk b o (λB=>t<|sA.mp B) e
 self:=λr s W x Q E t=>av x λi J _=>O.self i s Q E J t
end
section
variable{J:cA}{w:b9}{L u:bt}{d R n:aj}[fe d]{c B Z:Cf}{A:dY}{s:a8}{x y p:au}{o:dy}{Q E:au->a8->Prop}{f:F}{l m:G F}{X Y O:aw->Prop}{N:aN}{a:aw}
variable(J w L)in
def rP(A:dY)(N:aN)(l:G F)(c:Cf)(Q:au->a8->Prop):Prop:=∀it h R O r,jj J w L A N it O r->r l h c.W->Nx J w L c (c.gr h R)->(∀a,O a->c.h.get? a=z)->Q it (c.gr h R).s
def Jb(S:St J w L c){o:dy}:Nx J w L c (c.gr (c.h.push o) c.s.toks):=my S λ_ _ e=>jp _ e
def A_{fp:G aw}{P:aj->au->Prop}{rN:aj->bt->Prop}{T:jC}{t:eD au}(S:St J w L c)(Wk:Walks J w A c.s.heap.objs.size fp [c.s.heap.objs.size] n P rN)(hT:Eb.contains T=j)(hI:∀i h,rN i h->∃o,h.get? c.s.heap.objs.size=q o/\o.cls= .type T/\∃t,o.data= .fields t)(hl:l.length=n)(Ja:∀a∈fp,a≠c.s.heap.objs.size->∃o,c.b a=q o)(hP:∀i v,P i v->∃f,l[i]? =q f/\bD J w c.b f v)(h0:rN 0 (c.h.push {cls:=.type T,data:=.fields t}))(r:rP J w L A N l c Q):Q (.ref c.s.heap.objs.size) {c.s with heap:=c.s.heap.push {cls:=.type T,data:=.fields t}}:=have n1:=Jb (o:={cls:=.type T,data:=.fields t}) S;r _ _ c.s.toks _ _ (akI Wk hT hI hl c.b Ja hP) (wC 0 h0 (cD _) C n1.ay.b<|kS S<|lK _) n1 λa e=>e▸lK _
def bp.at{b:Bv}{l:G F}{i:eD au}{t:aj}{v:au}(r:bp J w b l i.toList)(h:i[t]? =q v):∃f,l[t]? =q f/\bD J w b f v:=have P:t<l.length:=r.size▸(za.mp h).1;av (r.jx<|ub P) λv' aW a_=>(aT _ (ub P)<|bH ((yc aW).symm.trans h)▸a_)
def QI{b i:aw}{o:dy}{r:Bv}(e:r a=q o)(h:b∈[i,a])(n:b≠i):∃o,r b=q o:=(i6.mp h).elim (λp=>absurd p n) λp=>⟨o,sA.mp p▸e⟩
def akJ(hA:eT A d)(S:St J w L c)(r:bD J w c.b (.af l) x)(t:rP J w L A N l c Q):aH (ax J w) A (pyIter x) Q E c.s:=dh r λa items lO cg ju=>cg.elim λep g=>by clear r;obtain rfl:=lO;exact have hl:mI c.s.heap a items ep:=lM g;have lP:a<c.s.heap.objs.size:=hR hl;UM (hU hl) (A_ S (Walks.list hA.hh c.s.heap.objs.size a (hO lP) items) {} (λi h P=>P.1.imp λ_ k=>(cr k.1 k.2.1 ⟨_,k.2.2⟩)) ju.size (λb=>QI g) (λi v hv=>ju.at hv) ⟨(cN _ (jq _ rfl) C rfl),(hU hl).push _⟩ t)
def QJ{b:Bv}{x:ah}{i:aj}{v:au}(t:SignAt x i v):∃f,(wM x)[i]? =q f/\bD J w b f v:=by refine cq t λc r P cg=>?_;clear t;subst cg;exact⟨.str ⟨#[c]⟩,U (LU)<|U (yZ)<|U P C,r,C⟩
def akK{x:ah}(hA:eT A d)(S:St J w L c)(r:bD J w c.b (.str x) y)(P:rP J w L A N (wM x) c Q):aH (ax J w) A (pyIter y) Q E c.s:=
 r.elim λt e=>by
  clear r;subst e;have hlen:(wM x).length=x.cps.size:=by delta wM;simp
  have hI:∀{T:jC}(i:aj)(h:bt),h.IsStrIter c.s.heap.objs.size T x t i->∃o,h.get? c.s.heap.objs.size=q o/\o.cls= .type T/\∃vs,o.data= .fields vs:=λi h z0=>z0.imp λ_ k=>(cr k.1 k.2.1 ⟨_,k.2.2⟩);cases ha:x.cps.all (· <128);·exact wpAny_pyIter_wide ha<|A_ S (Walks.strWide hA.hh _ x t) {} hI hlen (λb h k=>absurd (sA.mp h) k) (λi v hv=>QJ hv) (cN _ (jq _ rfl) C rfl) P
  ·exact wpAny_pyIter_ascii ha<|A_ S (Walks.strAscii hA.hh _ x t) {} hI hlen (λb h k=>absurd (sA.mp h) k) (λi v hv=>QJ hv) (cN _ (jq _ rfl) C rfl) P
def dX.eV{b:Bv}{v:au}{i:aj}{l:G (M×F)}{kvs:G (M×au)}{t:M}(h:dX J w b l kvs):kvs[i]? =q (t,v)->(l.map λe=>F.int e.1)[i]? =q (.int t):=dX.eF (P:=λl kvs=>∀i:aj,kvs[i]? =q (t,v)->(l.map λe=>F.int e.1)[i]? =q (.int t)) (λ_ e=>by injection e) (λa x P l r _ _ z0 i=>by cases i with|zero=>exact λe=>az (ar.map λe:M×au=>F.int e.1) e|succ i=>exact z0 i) l h i
def akL{l:G (M×F)}(hA:eT A d)(S:St J w L c)(r:bD J w c.b (.di l) y)(P:rP J w L A N (l.map λe=>.int e.1) c Q):aH (ax J w) A (pyIter y) Q E c.s:=
 dh r λa kvs lO cg ju=>cP cg λo cI cG kh=>by
  clear r;obtain rfl:=lO;obtain⟨ep,Ba⟩:=(cG.of<|lM cI).dictAt;exact wpAny_pyIter_dict (mF.mpr kh) Ba (A_ S (Walks.dictKeys (knd:=eY J w) hA.hh c.s.heap.objs.size a (hO Ba.lt_size) kvs ep) {} (λi h z0=>z0.1.imp λ_ k=>(cr k.1 k.2.1 ⟨_,k.2.2⟩)) (bx _|>.trans ju.len) (λb=>QI cI)
   (λi v hv=>by refine cq hv λk x hk hv=>?_;obtain⟨t,rfl⟩:=Ce hv;exact⟨_,ju.eV hk,t,C⟩) ⟨(cN _ (jq _ rfl) C rfl),Ba.push _⟩ P)
end
def akM:∀(l:G F)(i:aj),(numbered i l).length=l.length:=by intro c;induction c with|nil=>exact λi=>C|cons f l ih=>exact λi=>az (· +1)<|ih<|i+1
section
variable{d:aj}[fe d]{l:G F}
def akN(N:eT A d)(S:St r w u c)(J:(aa (-1000000<=n)&&aa (n<=1000000))=D)(f:rP r w u A x (fh n) c Q):aH (ax r w) A (call (.type "range") [.int n t]) (λv O=>aH (ax r w) A (pyIter v) Q E O) E c.s:=by
 refine asE<|have J:=vo J;have P:=asF c.s.heap 0 n 1 c.s.toks t<|c.s.toks+1;wpAny_pyIter_range P (small_one {} {} (z5) (by omega))<|have L:=my (h:=c.s.heap.push {cls:=.type "range",data:=.fields #[.int 0 c.s.toks,.int n t,.int 1 (c.s.toks+1)]}) (J:=c.s.toks+1+1) S λa o e=>jp _ e;A_ (J:=r) (w:=w) (L:=u) (N:=x) (A:=A) (l:=fh n) L.st ((Walks.range N.hh _ 0 1 n.toNat).bound) {} (λi h R=>(cN _ R C ⟨_,C⟩)) (by simp[fh]) (λb h k=>absurd (sA.mp h) k) (λi v Y=>?_) ?_ λit h Z B At e1 e2 e3 e4=>f it h Z B At e1 e2 (L.trans e3) λa p=>?_;·obtain⟨hi,t,rfl⟩:=Y;exact⟨.int (i:M),by delta fh;simp[hi],t,by exact U (TY ..)<|U (Lw ..) C⟩
 ·show IsRangeIter _ _ ((0:M)+((0:aj):M)*1) ((n.toNat:M)-((0:aj):M)) 1;exact U (show(0:M)+((0:aj):M)*1=0 from C)<|U (show((n.toNat:M)-((0:aj):M))=(n.toNat:M)from M.sub_zero _)<|U (Qz ..)<|jq _ rfl
 ·refine gT (c.h.get? a) (λ_=>?_) λo g=>?_
  ·rfl
  ·exact(nomatch (e4 a p).symm.trans<|jp _ g)
def Jc(c:Bv)(N a:aw)(l:G F)(r:G F)(h:bt)(W:RM):Prop:=∃(i:aj)(f:au),IsEnum h (N+1) N (i:M) f/\h.IsListIter N a i/\r=numbered i (l.drop i)/\(∀b o,c b=q o->mo h W b=q o)/\W (N+1)=z/\W N=z
abbrev Ed(N:aw):aw->Prop:=λb=>b=N+1\/b=N
def Bb{h:bt}(k:h.IsListIter N a i):∃o,h.get? N=q o/\vn o:=k.imp λ_ k=>⟨k.1,Ec k.2.1 k.2.2⟩
def Jd{h f:bt}(k:h.IsListIter N a i)(c:∀o,h.get? N=q o->f.get? N=q o):f.IsListIter N a i:=k.imp λo k=>⟨c o k.1,k.2⟩
def Jc.none(x:Jc f N a l m h W):∀b,Ed N b->W b=z:=λb c=>x.elim λi x=>x.elim λp x=>c.elim (λe=>e▸x.2.2.2.2.1) λe=>e▸x.2.2.2.2.2
def akO{k:G F->G F}(e:g::r=k (l.drop i))(f:k []=[]):i<l.length:=asX λc=>by rw[Cg c,f]at e;injection e
def akP(hA:eT A d)(h1:i5 a=q {cls:=.type "list",dict:=z,data:=.seq t ep,slots:= #[]})(h2:bp P w i5 l t.toList):jj P w h₁ A (.Tuple Bc kk pos) (.ref<|N+1) (Ed N) (Jc i5 N a l) where
 own_:=λr h W b x B=>⟨x.none b B,x.elim λi x=>cP x λR J L _=>B.elim (λe=>e▸(aT _ J<|Ec C rfl)) λe=>e▸Bb L⟩
 frame:=λr h W h' W' x kf ko=>x.elim λi x=>nD x λR J L jT kU _=>av (Bb L) λo cI _=>have e1:=ko _ _ (.inl C) J
  (Cn i R e1.1 (Jd L λo e=>(ko _ _ (.inr C) e).1) jT (λb o e=>kf b o<|kU b o e) e1.2<|(ko _ _ (.inr C) cI).2)
 next:=λf r c S x Q E m=>have u:=x.none;dZ x λi R x=>by
  refine have Y:=akO (k:=numbered i) x.2.2.1 C;have Bd:i<t.size:=h2.size▸Y;have Je:mI c.s.heap a t ep:=(mq<|x.2.2.2.1 a _ h1).2;have QK:N+1≠N:=asZ N;wpAny_pyNext_enum_item x.1 x.2.1 (hU Je) (x:=t[i]) (Ci Bd) QK λh4 heo akR Ee QL tI=>wpAny_letOwnedTupleGo_enum heo λZ he5 O=>?_;replace O:ui (N+1) h4 Z:=O;have rQ:c.s.heap.objs.size≠N+1:=Cj<|hR x.1;have QM:c.s.heap.objs.size≠N:=av (Bb x.2.1) λo cI _=>Cj<|hR cI;have n1:=QH (L:=c.s.toks+1) (r:=Ed N) (x:=Z) S u (λb o B e=>(O.2 b λp=>B<|.inl p).trans<|tI b o (λp=>B<|.inl p) (λp=>B<|.inr p) e) (lK _) (λp=>p.elim rQ QM)<|(O.2 _ rQ).trans Ee;have k4:=x.2.2.1;rw[wx Y]at k4;refine have k5:=sB k4;have yh:∀b o,i5 b=q o->mo Z _ b=q o:=λb o e=>n1.ay.b b o (x.2.2.2.1 b o e);av (h2.at<|Ci Bd) λf' aW a_=>m _ Z _ _ n1 ?_<|Cn (i+1) (t[i]) ?_ (akR.extBut O.extBut QK.symm) k5.2 yh ((dG rQ.symm).trans<|u _<|.inl C)<|(dG QM.symm).trans<|u _<|.inr C;·have:f'=l[i]:=bH<|aW.symm.trans<|ub Y;clear aW;subst this;exact U k5.1<|bV _ _ rfl ⟨_,kN (gA _ _ _)<|(O.2 _ rQ).trans Ee⟩<|bV _ _ rfl ⟨_,C⟩<|bV _ _ rfl (bD.bz yh _ a_) C
  ·exact U (M.natCast_succ ..) he5
 done:=λc S x Q E m=>have u:=x.none;x.elim λi x=>nD x λR J L jT kU _=>have Y:l.length<=i:=asY.mp<|asr.mp<|(akM _ _).symm.trans<|az mC jT.symm;have Je:mI c.s.heap a t ep:=(mq<|kU a _ h1).2;wpAny_pyNext_enum_end hA.hh J L (hU Je) (LQ<|h2.size▸Y) λh4 tI=>m h4 c.s.toks<|A9 (t:=Ed N) S u λb o B e=>tI b o (λp=>B<|.inr p) e
 self:=λr s W x Q E m=>x.elim λi x=>av x λR J _=>as0 J m
def akT(N:eT A d)(S:St p w t c)(r:bD p w c.b (.af l) x)(f:rP p w t A (.Tuple Bc kk pos) (numbered 0 l) c Q):aH (ax p w) A (call (.type "enumerate") [x]) (λv O=>aH (ax p w) A (pyIter v) Q E O) E c.s:=r.elim λa r=>r.elim λB r=>r.2.1.elim λep g=>by obtain rfl:=r.1;exact call_enumerate_list (hU<|lM g) λP J R Y Z=>as0 J<|have L:=my (J:=c.s.toks) S Z;have u:∀m,c.h.get? (c.s.heap.objs.size+m)=z:=λm=>UV (mB _ _);f _ P c.s.toks _ _ (akP N g r.2.2) (Cn 0 (.none) J R C L.ay.b (kS S<|u 1)<|kS S<|u 0) L λb hb=>hb.elim (λe=>e▸u 1) λe=>e▸u 0
end
section
variable{d:aj}[fe d]{l m:G F}
abbrev rR(N:aw):aw->Prop:=λb=>b=N+4\/b=N+2\/b=N+3\/b=N\/b=N+1
def QN(h:¬rR N b):b≠N+4/\b≠N+2/\b≠N+3/\b≠N/\b≠N+1:=by simpa only[not_or]using h
def Jf{P:aw->Prop}(f:P (N+4))(p:P (N+2))(r:P (N+3))(t:P N)(u:P (N+1))(b:aw)(c:rR N b):P b:=c.elim (λe=>e▸f) λc=>c.elim (λe=>e▸p) λc=>c.elim (λe=>e▸r) λc=>c.elim (λe=>e▸t) λe=>e▸u
def yi(N c f:aw)(h:bt)(i:aj):Prop:=∃b1 b2,IsZip h (N+4) (N+2) (N+3) .none/\IsPair h (N+2) (.ref N) (.ref<|N+1)/\IsPair h (N+3) b1 b2/\h.IsListIter N c i/\h.IsListIter (N+1) f i
def akU(c:Bv)(N f p:aw)(l m:G F)(r:G F)(h:bt)(W:RM):Prop:=∃i:aj,yi N f p h i/\r=mL (l.drop i) (m.drop i)/\(∀b o,c b=q o->mo h W b=q o)/\∀b,rR N b->W b=z
def yi.own(x:yi N u B h i):∀b,rR N b->∃o,h.get? b=q o/\vn o:=FQ x λ_ _ c f p r t=>Jf (aT _ c<|Ec C rfl) (oB _ f (λe=>(by injection e)) (λ_ _ e=>(by injection e)) (λ_ e=>(by injection e))) (oB _ p (λe=>(by injection e)) (λ_ _ e=>(by injection e)) (λ_ e=>(by injection e))) (Bb r)<|Bb t
def yi.cL(x:yi N c f h i)(k:∀b,rR N b->∀o,h.get? b=q o->p.get? b=q o):yi N c f p i:=x.imp λ_ x=>x.imp λ_ x=>(wB (k _ (.inl C) _ x.1) (k _ (.inr<|.inl C) _ x.2.1) (k _ (.inr<|.inr<|.inl C) _ x.2.2.1) (Jd x.2.2.2.1 λo e=>k _ (.inr<|.inr<|.inr<|.inl C) o e)<|Jd x.2.2.2.2 λo e=>k _ (.inr<|.inr<|.inr<|.inr C) o e)
def akV(e:f::r=mL (l.drop i) (m.drop i)):∃(t:i<l.length)(u:i<m.length),f= .ai [l[i],m[i]]/\r=mL (l.drop<|i+1) (m.drop<|i+1):=by
 rcases FH i l.length with c|c
 ·rcases FH i m.length with p|p
  ·rw[wx c,wx p]at e;exact⟨c,p,(sB e).1,(sB e).2⟩
  ·rw[Cg (l:=m) p,wx c]at e;injection e
 ·rw[Cg (l:=l) c]at e;injection e
def akW(e:[]=mL (l.drop i) (m.drop i)):l.length<=i\/m.length<=i:=by
 rcases FH i l.length with c|c
 ·rcases FH i m.length with f|f
  ·rw[wx c,wx f]at e;injection e
  ·exact .inr f
 ·exact .inl c
def QO(c:p<N)(f:r<N):ZipApart (N+4) (N+2) (N+3) N (N+1) p r:=by have lt:∀(a b:aj),a<b->∀k,a≠b+k:=λa b h k e=>absurd (e▸h)<|lX.mpr<|mB _ _;constructor<;>first|exact lt _ _ c _|exact lt _ _ f _|exact hO c|exact hO f|((show(_:aj)≠(_:aj));simp)
def bp.Ef{i:eD au}(r:bp p w b l i.toList)(t:c<i.size)(u:c<l.length):bD p w b l[c] i[c]:=av (r.at<|Ci t) λf x B=>bH (x.symm.trans<|ub u)▸B
def akX(hA:eT A d)(l1:P<N)(l2:R<N)(g1:Y P=q {cls:=.type "list",dict:=z,data:=.seq i1 e1,slots:= #[]})(r1:bp L w Y l i1.toList)(g2:Y R=q {cls:=.type "list",dict:=z,data:=.seq i2 e2,slots:= #[]})(r2:bp L w Y m i2.toList):jj L w h₁ A (.Tuple Bc kk pos) (.ref (N+4)) (rR N) (akU Y N P R l m) where
 own_:=λr h W b x B=>lZ x λi J _ _ kU=>⟨kU b B,J.own b B⟩
 frame:=λr h W h' W' x kf ko=>lZ x λi J jk jT _=>(oB i (J.cL λb B o e=>(ko b o B e).1) jk (λb o e=>kf b o (jT b o e)) (λb B=>(J.own b B).elim λo e=>(ko b o B e.1).2))
 next:=λf r c S x Q E p=>x.elim λi x=>x.1.elim λb1 y=>y.elim λb2 y=>by obtain⟨hi,Bd,ef,er⟩:=akV x.2.1;refine have hj:i<i1.size:=r1.size▸hi;have QP:i<i2.size:=r2.size▸Bd;have t:=QO l1 l2;have hl:mI c.s.heap P i1 e1:=(mq (x.2.2.1 P _ g1)).2;have fM:mI c.s.heap R i2 e2:=(mq (x.2.2.1 R _ g2)).2;wpAny_pyNext_zip_item t y.1 y.2.1 y.2.2.1 y.2.2.2.1 y.2.2.2.2 (hU hl) (hU fM) (Ci hj) (Ci QP) λh4 QL akY akZ ak0 Ee atX tI=>wpAny_letOwnedTupleGo_zip QL λh5 hz5 O=>?_;replace O:ui (N+4) h4 h5:=O;exact have xS:∀b,rR N b->c.s.heap.objs.size≠b:=λb B=>av (x.1.own b B) λo ir _=>Cj (hR ir);have Z:=(O.2 _ (xS _ (.inl C))).trans Ee;have n1:=QH (L:=c.s.toks) (r:=rR N) (x:=h5) S x.2.2.2 (λb o B e=>have u:=QN B;(O.2 b u.1).trans (tI b o u.1 u.2.2.1 u.2.2.2.1 u.2.2.2.2 e)) (lK _) (λu=>xS _ u C) Z;have yh:∀b o,Y b=q o->mo h5 _ b=q o:=λb o e=>n1.ay.b b o (x.2.2.1 b o e);p _ h5 _ _ n1 (U ef (bV _ _ rfl ⟨_,kN (gA _ _ _) Z⟩ (bV _ _ rfl (bD.bz yh _ (r1.Ef hj hi)) (bV _ _ rfl (bD.bz yh _ (r2.Ef QP Bd)) C)))) (oB (i+1) (um _ _ hz5 ((O.2 _ t.TIz).trans (tI _ _ t.TIz t.TITO t.TIi1 t.TIi2 y.2.1)) ((O.2 _ t.TOz).trans akY) (akZ.extBut O.extBut t.i1z) (ak0.extBut O.extBut t.i2z)) er yh (λb B=>(dG (xS b B).symm).trans (x.2.2.2 b B)))
 done:=λc S x Q E p=>lZ x λi J jk jT kU=>FQ J λb1 b2 jU mz yj yk vG=>by
  have hl:mI c.s.heap P i1 e1:=(mq (jT P _ g1)).2;have fM:mI c.s.heap R i2 e2:=(mq (jT R _ g2)).2;exact wpAny_pyNext_zip_end hA.hh (QO l1 l2) jU mz yj yk vG (hU hl) (hU fM) ((akW jk).imp (λu=>LQ (r1.size▸u)) λu=>LQ (r2.size▸u))
   λh4 tI=>p h4 c.s.toks (A9 (t:=rR N) S kU λb o B e=>have u:=QN B;tI b o u.1 u.2.2.1 u.2.2.2.1 u.2.2.2.2 e)
 self:=λr s W x Q E p=>av x λi J _=>cq J λ_ _ J _=>as1 J p
def ak2(hA:eT A d)(S:St t w J c)(r:bD t w c.b (.af l) x)(B:bD t w c.b (.af m) y)(f:rP t w J A (.Tuple Bc kk pos) (mL l m) c Q):aH (ax t w) A (call (.type "zip") [x,y]) (λv s'=>aH (ax t w) A (pyIter v) Q E s') E c.s:=r.elim λa r=>r.elim λL r=>r.2.1.elim λep g=>B.elim λa' B=>B.elim λatY B=>B.2.1.elim λog N=>by obtain rfl:=r.1;obtain rfl:=B.1;exact call_zip_2 (hU<|lM g) (hU<|lM N) λoi Y O P R Jg hsz hk=>as1 Y<|have Z:=my (J:=c.s.toks) S hk;have u:∀p,c.h.get? (c.s.heap.objs.size+p)=z:=λp=>UV (mB _ _);f _ oi c.s.toks _ _ (akX hA (hR<|lM g) (hR<|lM N) g r.2.2 N B.2.2) (oB 0 (um _ _ Y O P R Jg) C Z.ay.b<|Jf (kS S<|u 4) (kS S<|u 2) (kS S<|u 3) (kS S<|u 0)<|kS S<|u 1) Z (Jf (u 4) (u 2) (u 3) (u 0)<|u 1)
end
def ak6:y0 "enumerate"=q (.type "enumerate"):=by decide+kernel
def ak7:y0 "zip"=q (.type "zip"):=by decide+kernel
section
def ak8(h:oP (gH .plain v u) P):∃f,v= .fz f/\oP (Mf f) P:=by cases v with|fz f=>exact(aT f C h)|_=>exact h.elim
def ak9(h:oP (gH .range v u) P):∃n,v= .fz (.int n)/\(aa (-1000000<=n)&&aa (n<=1000000))=D/\P (fh n):=by cases v with
 |fz f=>cases f with
  |int n=>
   refine(aT n C ?_)
   have h:oP (if-1000000<=n/\n<=1000000 then q (fh n)else z) P:=h
   by_cases c: -1000000<=n/\n<=1000000
   ·rw[cE c]at h;exact⟨(ku _ _).mpr ⟨de c.1,de c.2⟩,h⟩
   ·rw[cB c]at h;exact h.elim
  |_=>exact h.elim
 |_=>exact h.elim
def ak_(h:oP (gH .nE v u) P):∃l,v= .fz (.af l)/\P (numbered 0 l):=by cases v with
 |fz f=>cases f with|af l=>exact(aT l C h)|_=>exact h.elim
 |_=>exact h.elim
def ala(h:oP (gH .zip v u) P):∃l m,v= .fz (.af l)/\u= .fz (.af m)/\P (mL l m):=by
 have no:∀{v},oP (gH .zip v u) P->∃l,v= .fz (.af l):=λ{v} h=>by cases v with
  |fz f=>cases f with|af l=>exact⟨l,C⟩|_=>exact h.elim
  |_=>exact h.elim
 exact(no h).elim λl e=>by
  subst e;clear no;cases u with
  |fz f=>cases f with|af m=>exact(bV l m C rfl h)|_=>exact h.elim
  |_=>exact h.elim
end
section
variable{B:cA}{w:b9}{J:bt}{K:cH}{N:Fns}{d:aj}[fe d]{L:Cx}{a:Mine.X}{A:dY}
variable(B w J N d L)in
def vH(k:qP)(a b:Mine.X)(r p:aN):Prop:=∀(f:Fr)(c:Cf)(P:G F->Mem->Prop)(Q E:au->a8->Prop),f.cx=L->Rd B w J d f c->(WX N a f.ρ c.M λx l=>WX N b f.ρ l λy l=>oP (gH k x y) λm=>P m l)->(∀m t,P m t.M->Nx B w J c t->rP B w J f.A r m t Q)->aH (ax B w) f.A (eval p f.env) (λv u=>aH (ax B w) f.A (pyIter v) Q E u) E c.s
variable(B w J N d L)in
def Eg(a:Mine.X)(r p:aN):Prop:=∀(f:Fr)(c:Cf)(u:V->V)(P:G F->Mem->Prop)(Q E:au->a8->Prop),f.cx=L->Rd B w J d f c->(WX N a f.ρ c.M λx l=>oP (gH .plain x<|u x) λm=>P m l)->(∀m t,P m t.M->Nx B w J c t->rP B w J f.A r m t Q)->aH (ax B w) f.A (eval p f.env) (λv O=>aH (ax B w) f.A (pyIter v) Q E O) E c.s
def Eh(Z:eP B w J N d L a t):Eg B w J N d L a tgt t:=λf c u P Q E hc r hw m=>Z f c _ _ _ hc r hw λv R y h p Y=>av (ak8 h) λg aX O=>by clear h;obtain rfl:=aX;cases g with|af l=>exact akJ r.a p.st Y<|m _ R O p|str x=>exact akK r.a p.st Y<|m _ R O p|di l=>exact akL r.a p.st Y<|m _ R O p|_=>exact O.elim
def alb(p:eP B w J N d L a m):vH B w J N d L .plain a (.lit .none) t m:=λf c P Q E u r x l=>Eh p f c (λ_=>.fz .none) P Q E u r x l
def alc(l:Su B w J K gl mg mb)(hf:i4 K L "range" z=D)(ha:jS B w J N d L [a] es):vH B w J N d L .range a (.lit .none) tgt (.Call (.Name "range" p1) es [] p):=λf c P Q E Y r hw m=>qr (P:=λZ u=>b1 Z λx=>oP (gH .range x<|.fz .none) λR=>P R u) ha Y r hw (λQ'=>l.yf r.e r.st (Y▸hf) (by decide+kernel) Qw) (λc' _=>A6 "range" c'.h) λZ c1 ys hl e n1 r1=>mJ (yd r1 e) λv x cI cG _ vF=>cI▸cP (ak9 vF) λn aW a_ dS=>(aW▸cG:aP B w c1 (.fz<|.int n) x).elim λt O=>O▸akN r.a n1.st a_ (m _ c1 dS n1)
def ald(l:Su B w J K gl mg mb)(hf:i4 K L "enumerate" z=D)(ha:jS B w J N d L [a] es):vH B w J N d L .nE a (.lit .none) (.Tuple Bc kk p2) (.Call (.Name "enumerate" p1) es [] p):=λf c P Q E O r hw m=>qr (P:=λR t=>b1 R λx=>oP (gH .nE x<|.fz .none) λu=>P u t) ha O r hw (λQ'=>l.yf r.e r.st (O▸hf) (by decide+kernel) ak6) (λc' _=>A6 "enumerate" c'.h) λR Y ys hl e Z r1=>mJ (yd r1 e) λv x cI cG _ vF=>cI▸av (ak_ vF) λn aW a_=>akT r.a Z.st (aW▸cG:aP B w Y (.fz<|.af n) x)<|m _ Y a_ Z
def ale(l:Su B w J K gl mg mb)(hf:i4 K L "zip" z=D)(ha:jS B w J N d L [a,b] es):vH B w J N d L .zip a b (.Tuple Bc kk p2) (.Call (.Name "zip" p1) es [] p):=λf c P Q E Z r hw t=>qr (P:=λvs O=>b2 vs λx y=>oP (gH .zip x y) λR=>P R O) ha Z r hw (λQ'=>l.yf r.e r.st (Z▸hf) (by decide+kernel) ak7) (λc' _=>A6 "zip" c'.h) λvs Y ys hl e n1 r1=>Cp (IV r1 e) λv u x y cI cG kh vF=>cI▸dh (ala vF) λn m aW a_ dS=>ak2 r.a n1.st (aW▸cG:aP B w Y (.fz<|.af n) x) (a_▸kh:aP B w Y (.fz<|.af m) y)<|t _ Y dS n1
end
def Jh{id:ah}:∀{i:aj},dk u id=q i->i<u.length:=by induction u with|nil=>exact λe=>by injection e|cons x r ih=>exact λ{i} e=>if m:(x==id)=D then bH ((cE m).symm.trans e)▸Fj _ else av (iE.mp<|(cB m).symm.trans e) λt a b=>b▸LF (ih a)
def yl{id u:ah}:dk L id=q i->dk L u=q i->id=u:=by
 induction L generalizing i with
 |nil=>exact λe=>by injection e
 |cons x r ih=>
  exact λe J=>if m:(x==id)=D then
   if E:(x==u)=D then(bw.mp m).symm.trans (bw.mp E)
   else av (iE.mp<|(cB E).symm.trans J) λt a b=>absurd (b.trans (bH<|(cE m).symm.trans e).symm)<|Fq t
  else av (iE.mp<|(cB m).symm.trans e) λt a b=>
   if E:(x==u)=D then absurd (b.trans (bH<|(cE E).symm.trans J).symm) (Fq t)
   else av (iE.mp<|(cB E).symm.trans J) λP N O=>ih a<|FI (O.trans b.symm)▸N
section
variable{l:cA}{w:b9}{p:bt}{B i:aj}{c:Cf}{A:dY}{f:Fr}{v:V}{y:au}{X Y:aw->Prop}{id:ah}{a:aw}
noncomputable def Fr.on(f:Fr)(ρ:Rho):Fr:={f with ρ:=ρ}
def QQ(E:bY l w f c):(f.env.scope.kind== .class||(f.env.scope.kind== .module&&f.env.locals !=f.env.globals))=j:=U E.kf C
theorem rS{ρ:Rho}(e:(ρ.set i<|q v)[m]? =q (q t)):(m=i/\t=v)\/(m≠i/\ρ[m]? =q (q t)):=(rJ e).imp (λr=>⟨r.1,bH r.2⟩) id
def ym(l:cA)(w:b9)(f:Fr)(c m:Cf):Prop:=∀{v:V}{y:au},(∀r,v= .exc r->dk f.cx.nm "word"=z)->aP l w c v y->aP l w m v y
def Ji(x:mr X c m)(t:dk f.cx.nm "word"=z->rH X c):ym l w f c m:=λ{v y} u r=>by cases v with|exc E=>exact r.own x<|t<|u E C|_=>exact r.pg x rfl
def ym.at(k:ym l w f c u)(O:bY l w f c){m:aj}(e:f.ρ[m]? =q (q v))(r:aP l w c v y):aP l w u v y:=k (λx t=>O.exc m x<|t▸e) r
def QR{ρ:Rho}(O:bY l w f c)(u:∀t,v= .exc t->dk f.cx.nm "word"=z)(m:aj)(t:ah)(e:(f.ρ.set i<|q v)[m]? =q (q<|V.exc t)):dk f.cx.nm "word"=z:=(rS e).elim (λr=>u t r.2.symm) λr=>O.exc m t r.2
def QS(n:c.h.Ns a m)(u:m "word"=z):rH (· =a) c:=λb o e r k=>by subst e;refine oC n λO P Q E x _ J=>?_;obtain rfl:=bH<|k.symm.trans E;refine⟨λd h=>h.2.2.elim λR e=>(by injection(x.symm.trans e)),λZ h=>h.2.elim λL h=>h.elim λt h=>h.elim λj_ h=>h.elim λog h=>?_⟩;cases x.symm.trans h.1;refine av (Qf h.2.1 h.2.2) λen N _=>?_;rw[<-J]at u;simp only[nsFind,findBy,ar.map_eq_none_iff]at u;rw[<-as2,N]at u;injection u
def alf(n:c.h.IsCell a u):rH (· =a) c:=λb o e m k=>by subst e;exact av n λL x r=>by obtain rfl:=bH<|k.symm.trans x;exact⟨λd h=>h.2.2.elim λN e=>(by injection(r.symm.trans e)),λO h=>FR h.2 λE t P Q J _=>(by injection(r.symm.trans J))⟩
def yn(S:St l w p c)(m:c.W a=z)(r:ui a c.h t):cv l w (· =a) p c (c.lo t B c.W):=A9 S (λb e=>e▸m) λb o n e=>(r.2 b n).trans e
def alh(O:bY l w f c)(S:St l w p c)(P:dk f.cx.nm id=q i)(Z:f.cx.sc.names.lookup id=q .local)(r:aP l w c v y)(hv:∀wd,v= .exc wd->dk f.cx.nm "word"=z)(t:∀h B,cv l w (· =f.env.locals) p c (c.lo h B c.W)->bY l w (f.on<|f.ρ.set i<|q v) (c.lo h B c.W)->Q jX.unit (c.lo h B c.W).s):aH (ax l w) f.A (storeName f.env id y) Q E' c.s:=
 cP O.ns λm vy QT Iy=>wpAny_storeName_local (O.tE Z) vy (λh' o9 iV=>by
  have n1:=yn (B:=c.s.toks+1) S O.wL iV
  have kv:ym l w f c (c.lo h' (c.s.toks+1) c.W):=Ji n1.ay λhw=>QS vy<|QT _ hw
  refine t h' (c.s.toks+1) n1 {O with exc:=QR (ρ:=f.ρ) O hv,ns:=(cN _ o9 (λJ lS=>?_) λJ x v' N h2 R=>?_),cells:=λJ hc=>(O.cells J hc).imp λa h=>h.imp λu h=>⟨(cr h.1.1 (h.1.2.1.sameBut iV h.1.2.2.2) h.1.2.2),λx v' N R=>?_⟩,fr:=O.fr.cL λL r=>?_}
  ·have e:J≠id:=λe=>by rw[<-e]at P;exact(nomatch P.symm.trans lS)
   simp only[e,FG]
   exact QT J lS
  ·by_cases e:J=id
   ·subst e
    refine(rS R).elim (λE=>(aT y (by simp)<|E.2▸kv hv r)) λE=>absurd (bH<|N.symm.trans P) E.1
   ·exact(rS R).elim (λE=>absurd (yl (E.1▸N) P) e) λE=>(Iy J x v' N h2 E.2).imp λy' g=>⟨by simp only[e,FG];exact g.1,kv.at O E.2 g.2⟩
  ·by_cases e:L=f.env.locals
   ·subst e
    refine zp o9 λo es ep e1 e2 _=>?_
    exact(cN o e1 O.wL<|qN es ep e2)
   ·exact r.cL n1.ay (λ_ _ h=>h) λ_ _ _ _=>e
  ·exact(rS R).elim (λE=>by
    clear o9;obtain rfl:=yl (E.1▸N) P
    exact hc.elim (λE=>nomatch Z.symm.trans E) λE=>nomatch Z.symm.trans E) λE=>(h.2 x v' N E.2).imp λy' g=>⟨g.1,kv.at O E.2 g.2⟩)<|QQ O
def ali{Q:jX->a8->Prop}{E':au->a8->Prop}(O:bY l w f c)(S:St l w p c)(hs:dk f.cx.nm id=q i)(hk:f.cx.sc.names.lookup id=q .cell)(r:aP l w c v y)(hv:∀wd,v= .exc wd->dk f.cx.nm "word"=z)(x:∀a h B,f.env.cells.lookup id=q a->cv l w (· =a) p c (c.lo h B c.W)->bY l w (f.on<|f.ρ.set i<|q v) (c.lo h B c.W)->Q jX.unit (c.lo h B c.W).s):aH (ax l w) f.A (storeName f.env id y) Q E' c.s:=
 O.ns.elim λm hm=>cq (O.cells id<|.inl hk) λa u N _=>wpAny_storeName_cell O.kf (O.tE hk) N.1 N.2.1 λh' Z iV=>by
  refine have n1:=yn (B:=c.s.toks) S N.2.2.1 iV;have kv:ym l w f c (c.lo h' c.s.toks c.W):=Ji n1.ay λ_=>alf N.2.1;x a h' c.s.toks N.1 n1 {O with exc:=QR (ρ:=f.ρ) O hv,ns:=⟨m,hm.1.sameBut iV N.2.2.2.symm,hm.2.1,λP E v' R h2 h3=>?_⟩,cells:=λP hc=>?_,fr:=O.fr.cL λL r=>?_};·exact(rS h3).elim (λJ=>by clear x;obtain rfl:=yl (J.1▸R) hs;exact(nomatch h2.symm.trans hk)) λJ=>(hm.2.2 P E v' R h2 J.2).imp λy' g=>⟨g.1,kv.at O J.2 g.2⟩
  ·by_cases e:P=id
   ·clear x;subst e;exact(fY a (q y) (cr N.1 Z N.2.2) λE v' R h3=>(rS h3).elim (λJ=>(aT y C<|J.2▸kv hv r)) λJ=>absurd (bH<|R.symm.trans hs) J.1)
   ·exact(O.cells P hc).imp λa' g=>g.imp λu' g=>⟨(cr g.1.1 (g.1.2.1.sameBut iV λJ=>e<|O.xS P id a (J▸g.1.1) N.1) g.1.2.2),λE v' R h3=>(rS h3).elim (λJ=>absurd (yl (J.1▸R) hs) e) λJ=>(g.2 E v' R J.2).imp λy' t=>⟨t.1,kv.at O J.2 t.2⟩⟩
  ·refine r.cL n1.ay (λ_ _ h=>h) λo e _ g J=>av N.2.1 λoc gR nl=>?_;clear r N Z iV n1;subst J;obtain rfl:=bH<|e.symm.trans gR;exact dZ g λes ep g=>nomatch nl.symm.trans g
def vI(f:Fr)(Y:aw->Prop)(id:ah):Prop:=Y f.env.locals/\(f.cx.sc.names.lookup id=q .cell->∀a,f.env.cells.lookup id=q a->Y a)
def Ei{Q:jX->a8->Prop}{L:au->a8->Prop}(O:bY l w f c)(S:St l w p c)(x:dk f.cx.nm id=q i)(u:f.cx.sc.names.lookup id=q .local\/f.cx.sc.names.lookup id=q .cell)(r:aP l w c v y)(E:∀N,v= .exc N->dk f.cx.nm "word"=z)(J:vI f Y id)(m:∀h B,cv l w Y p c (c.lo h B c.W)->bY l w (f.on<|f.ρ.set i<|q v) (c.lo h B c.W)->Q jX.unit (c.lo h B c.W).s):aH (ax l w) f.A (storeName f.env id y) Q L c.s:=u.elim (λu=>alh O S x u r E λh B n=>m h B<|n.bz λa e=>e▸J.1) λu=>ali O S x u r E λa h B e n=>m h B<|n.bz λb t=>t▸J.2 u a e
end
section
theorem QU(J:t≠it):∀(n i:aj)(s:a8)(Q:G au->a8->Prop),s.heap.IsListIter it t i->s.heap.IsList t c->i+n<=c.size->(∀f,f.IsListIter it t (i+n)->ui it s.heap f->Q ((c.toList.drop i).take n) {s with heap:=f})->aH (ax m w) A (draw (.ref it) n) Q E s
 |0,i,s,Q,l,_,_,p=>bu (by simpa using p s.heap l (ui.refl ..))
 |n+1,i,s,Q,l,L,Z,p=>by
  have N:i<c.size:=by lia
  refine aL (wpAny_pyNext_list_item l L (x:=c[i]) (by simp[N]) λu P O=>aL<|i8 (QU J n (i+1) _ _ P (L.extBut O.extBut J) (by lia) λR r x=>bu ?_));have Y:c.toList.drop i=c[i]::c.toList.drop (i+1):=by simp[wx,N]
  have:=p R (by rw[show i+(n+1)=i+1+n by lia];exact r)<|O.trans x;rw[Y,G.take_succ_cons]at this;exact this
def alm(R:A.handled=z)(l:s.heap.IsList t c)(Y:p.length=c.size)(r:p.findIdx? (·.1)=z)(h:∀L,as3 s.heap.objs.size s.heap L->aH (ax m w) A (assignInOrder (p.map (·.2)) c.toList) Q E {s with heap:=L}):aH (ax m w) A (unpack (.ref t) p) Q E s:=by
 have N:t≠s.heap.objs.size:=by refine av l λo Z _=>?_;exact hO<|hR Z
 delta unpack;exact U Y<|U r<|aL<|i8<|aL<|aL<|UE l.typeIs slot_list_iter.lookup<|bu<|aL<|i8<|UM l<|aL<|i8 (QU N c.size 0 _ _ (cN _ (jq _ rfl) C rfl) (l.push _) (by simp) λu Jj O=>have x:G.take c.size (G.drop 0 c.toList)=c.toList:=U Un<|G.take_of_length_le (by simp);U x<|U (cB (by simp))<|have J:u.IsList t c:=(l.push _).extBut O.extBut N;aL (i8 (wpAny_pyNext_list_end R Jj J (by simp) λoi f=>bu<|h oi λb o P e=>f b o P<|O.extBut b o P<|jp _ e)))
end
mutual
noncomputable def bJ:aN->G ah| .Name id _=>[id]| .Tuple c _ _=>rT c|_=>[]
noncomputable def rT:G aN->G ah|[]=>[]|e::r=>bJ e++rT r
end
section
variable{m:cA}{w:b9}{u:bt}{d:aj}{A:dY}{id:ah}{a:aw}{B:Cx}
variable(m w u)in
def QV(f:Fr)(Y:aw->Prop)(c:Cf)(ρ:Rho)(Q:jX->a8->Prop):Prop:=∀h l,cv m w Y u c (c.lo h l c.W)->bY m w (f.on ρ) (c.lo h l c.W)->Q jX.unit (c.lo h l c.W).s
variable(m w u d B)in
def pi(t:T)(e:aN):Prop:=∀(f:Fr)(c:Cf)(Y:aw->Prop)(Q:jX->a8->Prop)(l:au->a8->Prop)(g:F)(y:au)(ρ:Rho),f.cx=B->Rd m w u d f c->(∀x∈bJ e,vI f Y x)->bD m w c.b g y->fy t g f.ρ=q ρ->QV m w u f Y c ρ Q->aH (ax m w) f.A (assign e f.env y) Q l c.s
variable(m w u d B)in
def Be(r:G T)(p:G aN):Prop:=(∀(f:Fr)(c:Cf)(Y:aw->Prop)(Q:jX->a8->Prop)(t:au->a8->Prop)(g:G F)(y:G au)(ρ:Rho),f.cx=B->Rd m w u d f c->(∀x∈rT p,vI f Y x)->bp m w c.b g y->nG r g f.ρ=q ρ->QV m w u f Y c ρ Q->aH (ax m w) f.A (assignInOrder ((qM p f.env).map (·.2)) y) Q t c.s)/\∀l,(qM p l).length=r.length/\(qM p l).findIdx? (·.1)=z
def alq(h:nh B id i=D)(E:(B.sc.names.lookup id==q .free)=j):pi m w u d B (.var i) (.Name id p):=λf c Y Q P g y ρ J r L N x l=>by
 have x:(if i<f.ρ.length then q (f.ρ.set i<|q<|.fz g)else z)=q ρ:=x;by_cases t:i<f.ρ.length;·rw[cE t]at x;obtain rfl:=bH x;have k:=bh h;have O:=bh k.2;clear h;subst J;exact as4<|Ei (v:=.fz g) r.e r.st (bw.mp k.1) ((Iw O.1).imp (λt=>t) λt=>t.resolve_right λt=>by rw[t]at E;injection E) N (by intros;contradiction) (L id<|show _∈[_]from .head _) l
 ·rw[cB t]at x;injection x
def alr:Be m w u d B [] []:=⟨λf c Y Q t g y ρ x r E J p l=>by
 injection p with p;subst p
 exact UW<|l c.s.heap c.s.toks (.refl r.st) r.e,λ_=>⟨C,C⟩⟩
def Jl:nG (t::c) (g::f) ρ=(fy t g ρ).bind λρ=>nG c f ρ:=C
def als(Z:∀E r,qM (e::r) E=(j,assign e E)::qM r E)(ht:pi m w u d B t e)(kL:Be m w u d B ts J):Be m w u d B (t::ts) (e::J):=⟨λf c Y Q E' g y ρ hc r hY hr he l=>by
 cases g with|nil=>injection he|cons g gs=>calc U (Z ..);exact av (jr.mp<|Jl.symm.trans he) λyo aW a_=>dh hr λv vs L N O=>by clear hr;obtain rfl:=L;refine UX<|ht f c Y _ _ g v yo hc r (λx P=>hY x<|show x∈bJ e++rT J from Fk _ P) N aW λh tk R O1=>?_;exact kL.1 (f.on yo) (c.lo h tk c.W) Y Q E' gs vs ρ hc ⟨r.a,O1,R.st⟩ (λx P=>hY x<|show x∈bJ e++rT J from ud _ P) (bp.bz R.ay.b _ O) a_ λh' Jm n2 O2=>l h' Jm (R.trans n2) O2,
 λE=>by refine U (Z ..)<|U (UY) ?_;have p:=kL.2 E;exact⟨az (· +1) p.1,by calc U p.2;rfl⟩⟩
def alw[fe d](P:Be m w u d B N es):pi m w u d B (.ai N) (.Tuple es kk p):=λf c Y Q E' g y ρ hc r hY hr L t=>by
 have hY:∀x∈rT es,vI f Y x:=λx hx=>hY x hx;have R:∀{l:G F}{J:eD au}{O:bt},bp m w c.b l J.toList->nG N l f.ρ=q ρ->as3 c.s.heap.objs.size c.s.heap O->
   aH (ax m w) f.A (assignInOrder ((qM es f.env).map (·.2)) J.toList) Q E' {c.s with heap:=O}:=λ{l J O} rl L Z=>by
  have n1:=my (J:=c.s.toks) r.st λb o e=>Z b o (hO<|hR e) e
  exact P.1 f (c.gr O c.s.toks) Y Q E' l _ ρ hc (r.on n1) hY (bp.bz n1.ay.b _ rl) L λh2 tk n2 O2=>t h2 tk ((Nx.to n1).trans n2) O2
 have two:∀{l:G F},(if(N.length==l.length)=D then nG N l f.ρ else z)=q ρ->N.length=l.length/\nG N l f.ρ=q ρ:=λ{l} L=>by
  by_cases E:(N.length==l.length)=D;·rw[cE E]at L;exact⟨bw.mp E,L⟩
  ·rw[cB E]at L;injection L
 cases g with|ai l=>have k:=two L;exact(DW (c:=c) hr).elim λa E=>cP E λJ bA bG eL=>by obtain rfl:=bA;exact as5 r.a.hh (bG.imp λ_ g=>g) ((P.2 f.env).1.trans (k.1.trans eL.size)) (P.2 f.env).2 λO Z=>R eL k.2 Z|af l=>have k:=two L;exact(DV (c:=c) hr).elim λa E=>cP E λJ bA bG eL=>bG.elim λep g=>by clear hr E;obtain rfl:=bA;exact U (arm_assign_Tuple ..)<|aL<|lb<|alm r.a.hh (hU g) ((P.2 f.env).1.trans (k.1.trans eL.size)) (P.2 f.env).2 λO Z=>R eL k.2 Z|_=>injection L
end
def mA(h:(!b)=D):b=j:=Cb _▸h
def pj{c:Type}{v:c}{l:G (ah×c)}(h:n=x):((x,v)::l).lookup n=q v:=as6.trans<|U (bw.mpr h:(n==x)=D) C
def qu{c:Type}{v:c}{l:G (ah×c)}(h:¬n=x):((x,v)::l).lookup n=l.lookup n:=as6.trans<|U (mF.mpr h:(n==x)=j) C
def alx{P:ah×oz->ak}{l:G (ah×oz)}{r:G (ah×aw)}{n id:ah}{k:oz}{c:aw}{E:ar aw}(e:id=n->E=q c/\P (n,k)=D)(f:¬id=n->P (n,k)=j):(if l.any P then E else((n,c)::r).lookup id)=if((n,k)::l).any P then E else r.lookup id:=
 if m:l.any P=D then(cE m).trans (cE<|(oA _ _).mpr<|.inr m).symm
 else(cB m).trans (if h:id=n then(pj h).trans ((e h).1.symm.trans (cE<|(oA _ _).mpr<|.inl (e h).2).symm)else(qu h).trans (cB λp=>((oA _ _).mp p).elim (λp=>su<|p.symm.trans<|f h) m).symm)
def aly(l:G (ah×oz)):∀(m:G (ah×aw)),(∀x∈l,x.2= .free->∃c,p.cells.lookup x.1=q c)->∃t,(forIn l m λ(x:ah×oz)(r:G (ah×aw))=>if(x.2==FJ)=D then do let c<-cellOf p x.1;pure (Ft<|(x.1,c)::r)else pure (Ft r):jW (G<|ah×aw))=pure t/\ ∀id,t.lookup id=if l.any (λx=>x.1==id&&x.2==FJ)then p.cells.lookup id else m.lookup id:=by
 induction l with
 |nil=>exact λm _=>⟨m,C,λid=>C⟩
 |cons x l ih=>
  intro m L;have u:=λy N=>L y<|.tail _ N;by_cases B:x.2=FJ;·exact(L x (.head _) B).elim λc e=>av (ih ((x.1,c)::m) u) λt E J=>⟨t,(yY ..).trans<|U (cE<|bw.mpr B)<|U (show cellOf p x.1=pure c by delta cellOf;exact U e C) E,λid=>(J id).trans<|alx (λf=>⟨f▸e,zn (bw.mpr f.symm)<|bw.mpr B⟩) λf=>U (show(x.1==id)=j from mF.mpr λy=>f y.symm) C⟩
  ·exact av (ih m u) λt E J=>⟨t,(yY ..).trans<|U (cB λf=>B<|bw.mp f) E,λid=>(J id).trans<|U (P:=λb=>_=if b=D then _ else _) (show(x::l).any (λx=>x.1==id&&x.2==FJ)=l.any _ from U (P:=λb=>(x.1==id&&b||_)=_) (mF.mpr B)<|U (P:=λb=>(b||_)=_) (B6 _) C) C⟩
def mem_of_lookup{c:Type}{id:ah}{v:c}{l:G (ah×c)}:l.lookup id=q v->(id,v)∈l:=PySem.mem_of_lookup
noncomputable def gY:G ah->ak|[]=>D|x::r=> !r.contains x&&gY r
def Ej{l:G ah}(h:(!l.contains x)=D)(m:n∈l):¬n=x:=λe=>su<|(mA h).symm.trans<|fW.mpr<|e▸m
def alz{f:Type}{l:G (ah×f)}:gY (l.map (·.1))=D->∀x∈l,l.lookup x.1=q x.2:=by induction l with|nil=>exact λ_ _ c=>absurd c gk|cons k l ih=>exact λh x c=>(i6.mp c).elim (λe=>(pj<|az sy e).trans<|az (λx:ah×f=>q x.2) e.symm) λm=>(qu<|Ej (bh h).1 (as7 m)).trans<|ih (bh h).2 x m
def QW:gY (a++b)=D->x∈a->x∈b->False:=by induction a with|nil=>exact λ_ h _=>absurd h gk|cons y a ih=>exact λc l f=>(i6.mp l).elim (λe=>Ej (bh c).1 (ud _ f) e) λm=>ih (bh c).2 m f
def vJ{id:ah}:dk (l++p) id=if l.contains id then dk l id else(dk p id).map (· +l.length):=by
 induction l with
 |nil=>exact(ar.map_id' (x:=dk p id)).symm
 |cons x l ih=>
  by_cases c:(x==id)=D;·exact(cE c).trans ((cE<|fW.mpr<|bw.mp c▸ .head _).trans<|cE c).symm
  ·refine((cB c).trans<|az (ar.map (· +1)) ih).trans ?_
   by_cases m:id∈l;·exact(az (ar.map (· +1))<|cE<|fW.mpr m).trans ((cE<|fW.mpr<|.tail _ m).trans<|cB c).symm
   ·exact(az (ar.map (· +1))<|cB λf=>m<|fW.mp f).trans<|(ar.map_map ..).trans (cB λf=>(i6.mp<|fW.mp f).elim (λe=>c<|bw.mpr e.symm) m).symm
noncomputable def vL(c:Cx)(n:ah)(k:oz):oz:=if(k== .free&&c.sc.kind== .function&&c.sc.names.lookup n==q .cell)=D then .cell else k
noncomputable def fV(c:gC)(f:Cx):gC:={c with names:=c.names.map λx=>(x.1,vL f x.1 x.2)}
noncomputable def fN(c:Cx)(f:gC)(l:G ah):Cx:=⟨fV f c,l++c.nm⟩
def alA{id:ah}:(fV c f).names.lookup id=(c.names.lookup id).map (vL f id):=by show(c.names.map _).lookup id=_;induction c.names with|nil=>rfl|cons x l ih=>exact if h:id=x.1 then(pj h).trans ((az (ar.map<|vL f id)<|pj (l:=l) (v:=x.2) h).trans<|h▸C).symm else(qu h).trans (ih.trans (az (ar.map<|vL f id)<|qu (l:=l) (v:=x.2) h).symm)
noncomputable def QX(c:Cx)(f:G ah)(n:ah)(k:oz):ak:=match k with
 | .local=>f.contains n||n==".0"
 | .free=>c.sc.names.lookup n==q .cell||c.sc.names.lookup n==q .free
 | .cell=>j
 |_=>D
noncomputable def Ek(l:Cx)(f:gC)(c:G ah)(m:aj):ak:=
 f.kind== .function&&(c.length==m&&(gY c&&(c.all (λn=>f.names.lookup n==q .local)&&
 (!c.contains ".0"&&(!c.contains "word"&&(f.names.all (λx=>QX l c x.1 x.2)&&gY (f.names.map (·.1))))))))
structure lT(cx:Cx)(sc:gC)(cn:G ah)(ns:aj):Prop where
 kind:sc.kind= .function
 len:cn.length=ns
 Bf:gY cn=D
 QY:∀n∈cn,sc.names.lookup n=q .local
 vm:cn.contains ".0"=j
 oH:cn.contains "word"=j
 names:∀x∈sc.names,QX cx cn x.1 x.2=D
 aQ:∀x∈sc.names,sc.names.lookup x.1=q x.2
def Jn(h:Ek l m p r=D):lT l m p r:=have a:=bh h;have b:=bh a.2;have c:=bh b.2;have d:=bh c.2;have e:=bh d.2;have f:=bh e.2;have g:=bh f.2;⟨bw.mp a.1,bw.mp b.1,c.1,λn t=>bw.mp<|fc.mp d.1 n t,Cb _▸e.1,Cb _▸f.1,fc.mp g.1,λx u=>alz g.2 x u⟩
def lT.free{c:Cx}{f:gC}{l:G ah}{m:aj}(h:lT c f l m){id:ah}(p:f.names.lookup id=q .free):c.sc.names.lookup id=q .cell\/c.sc.names.lookup id=q .free:=((oA _ _).mp<|h.names _<|mem_of_lookup p).imp bw.mp bw.mp
def lT.El{p:Cx}{r:gC}{u:G ah}{x:aj}(h:lT p r u x){id:ah}{k:oz}(t:(fV r p).names.lookup id=q k):(k= .cell\/k= .free->r.names.lookup id=q .free)/\(k= .local->r.names.lookup id=q .local):=by
 refine av (iE.mp<|alA.symm.trans t) λc e m=>?_;have B:=h.names _<|mem_of_lookup e;unfold vL at m;by_cases f:(c== .free&&p.sc.kind== .function&&p.sc.names.lookup id==q .cell)=D;·rw[cE f]at m;obtain rfl:=bw.mp (bh (bh f).1).1;exact⟨λ_=>e,λl=>(by injection(m.trans l))⟩
 ·rw[cB f]at m;clear f t;subst m;exact⟨λl=>l.elim (λl=>by subst l;exact bZ B) λl=>l▸e,λl=>l▸e⟩
section
variable{A:dY}{f:Fr}{id:ah}{a:aw}{r:Cx}{ρ:Rho}
def bY.mQ(O:bY p w (f.on ρ) c)(t:∀(i:aj) v,ρ'[i]? =q (q v)->ρ[i]? =q (q v)):bY p w (f.on ρ') c:={O with exc:=λi x e=>O.exc i x<|t _ _ e,ns:=O.ns.imp λm h=>(cr h.1 h.2.1 λid i v a b k=>h.2.2 id i v a b<|t _ _ k),cells:=λid l=>(O.cells id l).imp λa h=>h.imp λu h=>⟨h.1,λi v a b=>h.2 i v a<|t _ _ b⟩}
def alB(c:f.env.scope=f.cx.sc):relabel l f.env=fV l f.cx:=by
 delta relabel fV
 congr 1
 refine as8 λx _=>?_
 show(if(x.2== .free&&f.env.scope.kind== .function&&f.env.kindOf x.1==q .cell)=D then _ else _)=(x.1,vL f.cx x.1 x.2)
 delta vL fX.kindOf
 refine U c ?_
 split<;>rfl
def om(l:gC)(c:fX)(m:G (ah×aw)):Prop:=∀id,m.lookup id=if l.names.any (λx=>x.1==id&&x.2==FJ)then c.cells.lookup id else z
def Jo(p:lT f.cx m P Q)(O:bY t w f c):∃l,closureFor m f.env=pure l/\om m f.env l:=by refine av (aly m.names [] (p:=f.env) λx B E=>(O.cells x.1<|p.free<|E▸p.aQ x B).imp λa h=>av h λu J _=>J.1) λl L N=>(aT l ?_ N);simp only[closureFor];exact U L C
def Bg{ρ:Rho}(e:(bN l z++ρ)[i]? =q (q v)):l<=i/\ρ[i-l]? =q (q v):=by
 by_cases c:i<l;·rw[yV (U oy c),as9,cE c]at e;cases e
 ·rw[yW (U oy<|Cd c),oy]at e;exact⟨Cd c,e⟩
def om.has(h:om c f.env l)(e:c.names.lookup id=q .free):l.lookup id=f.env.cells.lookup id:=U (h ..)<|U (cE<|arm.mpr<|aT _ (mem_of_lookup e) (by simp)) C
def om.of(h:om l f.env c)(e:c.lookup x=q a):f.env.cells.lookup x=q a:=by
 rw[h]at e;split at e;·exact e
 ·injection e
def Fr.comp(f:Fr)(l:gC)(m:G ah)(p:aj)(c:fX):Fr:=⟨f.A,fN f.cx l m,{c with scope:=fV l f.cx},bN p z++f.ρ⟩
def QZ(L:lT f.cx Z Y ns)(O:bY N w f c)(S:St N w h₁ c)(h2:om Z f.env cl)(Q:fX->a8->Prop)(E:au->a8->Prop)(m:∀(J:fX) h',{J with scope:=relabel Z f.env}={J with scope:=fV Z f.cx}->c.h.get? J.locals=z->Nx N w h₁ c (c.gr h' c.s.toks)->bY N w (f.comp Z Y ns J) (c.gr h' c.s.toks)->Q J (c.gr h' c.s.toks).s):aH (ax N w) f.A (zc Z f.env.globals cl [] f.env.qual z .none (q f.env)) Q E c.s:=by
 refine wpAny_newFunctionEnv (λx hx h=>?_) (by intro x hx;simp at hx) (λh' hn hs=>?_) L.kind;·have k:=L.names x hx;rw[h]at k;exact bZ k
 refine have R:=lK c.s.heap;have hw:=kS S R;have n1:=my (J:=c.s.toks) S λb o e=>hs.extBut b o (hO<|hR e) (jp _ e);have E1:=O.ay n1.ay;m _ h' (U (alB O.sc) C) R n1 ⟨C,L.kind,O.xR,O.AE,?_,λi wd e=>?_,hw,⟨_,hn,λid lS=>C,λid i v a b e=>?_⟩,λid lS=>?_,λid id' a e e'=>O.xS id id' a (h2.of e)<|h2.of e',E1.fr⟩;·show dk (Y++f.cx.nm) ".0"=z;exact U vJ<|U L.vm<|U O.vm C
 ·show dk (Y++f.cx.nm) "word"=z;exact U vJ<|U L.oH<|U (O.exc _ _ (Bg e).2) C
 ·exfalso
  have l:=(L.El b).2 C;have k:=Bg e;have P:dk (Y++f.cx.nm) id=q i:=a;rw[vJ]at P;rcases(oA _ _).mp (show(Y.contains id||id==".0")=D from L.names _<|mem_of_lookup l)with p|p
  ·rw[cE p]at P;exact absurd (L.len▸Jh P)<|lX.mpr k.1
  ·clear l;obtain rfl:=bw.mp p;rw[L.vm,O.vm]at P;injection P
 ·refine have e1:Z.names.lookup id=q .free:=lS.elim (λp=>(L.El p).1 (.inl C)) λp=>(L.El p).1 (.inr C);(E1.cells id<|L.free e1).imp λa k=>k.imp λu k=>⟨(nB ((h2.has e1).trans k.1.1) k.1.2.1 k.1.2.2.1 λp=>?_),λi v P b=>?_⟩
  ·exact cq (O.cells id<|L.free e1) λP u' oh _=>oh.2.1.elim λo t=>by cases oh.1.symm.trans k.1.1;have p:a=c.s.heap.objs.size:=p;rw[p,R]at t;injection t.1
  ·have P:dk (Y++f.cx.nm) id=q i:=P
   have hcn:Y.contains id=j:=by
    refine bX (Y.contains id) (λp=>?_) λ_=>?_;·exact(nomatch (L.QY id<|fW.mp p).symm.trans e1)
    ·rfl
   rw[vJ,hcn]at P;refine av (iE.mp P) λB ej cg=>?_;clear P;clear P;subst cg;have b:=(Bg b).2;rw[L.len,aj.add_sub_cancel]at b;exact k.2 B v ej b
def qx(r:Cx)(t:T)(e:aN):Prop:=∀(g:F)(ρ ρ':Rho),fy t g ρ=q ρ'->∀i,(∀x∈bJ e,dk r.nm x≠q i)->ρ'[i]? =ρ[i]?
def Bh(r:Cx)(c:G T)(l:G aN):Prop:=∀(g:G F)(ρ ρ':Rho),nG c g ρ=q ρ'->∀i,(∀x∈rT l,dk r.nm x≠q i)->ρ'[i]? =ρ[i]?
def alD(h:nh r id n=D):qx r (.var n) (.Name id p):=λg ρ ρ' l i m=>by
 have l:(if n<ρ.length then q (ρ.set n<|q<|.fz g)else z)=q ρ':=l;by_cases c:n<ρ.length;·rw[cE c]at l;obtain rfl:=bH l;exact UZ λc:n=i=>m id (show id∈[id]from .head _)<|(bw.mp (bh h).1).trans<|az q c
 ·rw[cB c]at l;injection l
def alE:Bh r [] []:=λg ρ ρ' c i l=>by obtain rfl:=bH c;rfl
def alF(h:qx r t e)(B:Bh r E c):Bh r (t::E) (e::c):=λg ρ ρ' m i p=>by cases g with|nil=>injection m|cons g J=>exact av (jr.mp<|Jl.symm.trans m) λu L N=>(B J u ρ' N i λx l=>p x<|show x∈bJ e++rT c from ud _ l).trans<|h g ρ u L i λx l=>p x<|show x∈bJ e++rT c from Fk _ l
def alG(h:Bh r t u):qx r (.ai t) (.Tuple u B p):=λg ρ ρ' m i x=>by
 have two:∀{l:G F},(if(t.length==l.length)=D then nG t l ρ else z)=q ρ'->ρ'[i]? =ρ[i]? :=λ{l} m=>by
  by_cases c:(t.length==l.length)=D;·rw[cE c]at m;exact h l ρ ρ' m i x
  ·rw[cB c]at m;injection m
 cases g with|ai l=>exact two m|af l=>exact two m|_=>injection m
def Jp(m:lT r p c l)(h:qx (fN r p c) t e)(u:∀x∈bJ e,x∈c)(B:fy t g (bN l z++ρ)=q ρ')(i:aj)(v:V)(k:(bN l z++ρ)[i]? =q (q v)):ρ'[i]? =q (q v):=by refine(h g _ ρ' B i λx E e=>?_).trans k;have e:dk (c++r.nm) x=q i:=e;rw[vJ,cE (fW.mpr<|u x E)]at e;exact absurd (m.len▸Jh e)<|lX.mpr (Bg k).1
end
section
variable{t:cA}{w:b9}{u:bt}{d k:aj}{c B:Cf}{A:dY}{g:Fr}{v:V}{X:aw->Prop}{a m:aw}{p:eZ}{l L:G F}
def Q0(hq:(as_ e O it P N).quiet=D)(Jq:(ax t w).den (.compLoop e O it P N)=(compTurn e O it P N).onRaise (λx=>do noteFrame x N;theTreesLotGoes x))(hu:A.under (.compLoop e O it P N)=A)(Jr:compTurn e O it P N=(standAt p>>=λ_=>pyNext it>>=λr=>match r with
   |z=>pure<|.done .next
   |q v=>letOwnedTupleGo Z it v>>=λ_=>assign Z N v>>=λ_=>rest))(cU:jj t w u A Z it own At)(J:G F->Cf->Prop)(hJ:∀l c,J l c->St t w u c/\At l c.h c.W)(dz:∀f l c,J (f::l) c->∀v h Q W,cv t w own u c (c.lo h Q W)->bD t w (mo h W) f v->At l h W->∀E',
   aH (ax t w) A (assign Z N v) (λ_ ka=>aH (ax t w) A rest (λfin kj=>fin= .again (.compLoop e O it P N)/\∃c₃,c₃.s=kj/\J l c₃) E' ka) E' (c.lo h Q W).s)(done:∀c,J [] c->∀h Q,cv t w own u c (c.lo h Q c.W)->R (.ok .next) (c.lo h Q c.W).s)(l:G F)(hj:J l c):
  i9 (ax t w) A (.compLoop e O it P N) R c.s:=by
 refine codeAny_loop hq (λn s=>∃l c,n=l.length/\c.s=s/\J l c) (λn s hI=>dh hI λl c cg ju hj=>?_) l.length<|bV l c rfl rfl hj
 clear hI
 subst cg
 subst ju
 refine U hu<|U Jq<|U Jr<|wpAny_noted<|aL<|lb<|aL ?_
 have E:=hJ l c hj
 cases l with
 |nil=>
  refine gm (cU.done c E.1 E.2 _ _ λh Q n=>done c hj h Q n) (λr s1 h1=>?_) λ_ _ Y=>Y
  cases r with|none=>exact bu h1|some v=>exact h1.elim
 |cons f l=>
  refine gm (cU.next f l c E.1 E.2 _ _ λv h Q W n rf Ef=>dz f l c hj v h Q W n rf Ef<|notedBy (ax t w) A N λe s'=>R (.error e) s') (λr s1 h1=>?_) λ_ _ Y=>Y
  cases r with
  |none=>exact h1.elim
  |some v=>
   refine aL<|gm h1 (λ_ s2 h2=>aL<|gm h2 (λ_ s3 h3=>gm h3 (λfin s4 h4=>?_) λ_ _ Y=>Y) λ_ _ Y=>Y) λ_ _ Y=>Y
   obtain⟨rfl,c3,e3,j3⟩:=h4
   exact⟨C,(aT l.length (mG _)<|bV l c3 C e3 j3)⟩
variable(t w)in
def fO(c:Cf)(m:aw)(l:G F):Prop:=∃f r,mI c.h m f r/\c.W m=z/\bp t w c.b l f.toList
def fO.step(x:mr X c B)(r:¬X m)(a:fO t w c m l):fO t w B m l:=a.imp λi a=>a.imp λE a=>have f:=x.knone m _ a.1 a.2.1 r;f.2.elim λJ e=>by obtain rfl:=e.2 (by simp);exact(cr e.1 f.1<|bp.bz x.b _ a.2.2)
def fO.append(S:St t w u c)(a:fO t w c m l)(P:bD t w c.b x y)(R:l.length<aM)(f:∀h r,cv t w (· =m) u c (c.lo h r c.W)->fO t w (c.lo h r c.W) m (l++[x])->Q .none (c.lo h r c.W).s):aH (ax t w) A (call (.builtin "list.append") [.ref m,y]) Q E c.s:=
 dZ a λi Y a=>by
  have Z:i.size<=sizeLine:=a.2.2.size▸aG (sq R) mw;refine LA asH (hU a.1).typeIs asI ?_<|asJ _ _;show aH _ _ (updateSeq m (·.push y)>>=λ_=>ret .none) _ _ c.s;refine aL<|asK a.1 C<|bu<|aT (.none) C ?_;have J:(c.h.update m<|uj λN=>N.push y).get? m=q {cls:=.type "list",dict:=z,data:=.seq (i.push y) (Y+1),slots:= #[]}:=by exact U (qL _ a.1 (by calc U (I4 ..);rfl))<|U (I4 ..) C
  have O:=yn (B:=c.s.toks) S a.2.1<|zb (h:=c.h) (a:=m) (f:=uj λN=>N.push y);exact f _ _ O<|bV _ _ J a.2.1 (by calc U asL;exact(bp.bz O.ay.b _ a.2.2).append (l':=[x])<|bV y [] C (bD.bz O.ay.b _ P) C)
def fO.tJ(a:fO t w c m l):tx (· =m) c:=λb o e f k=>cq a λi x r _=>by clear a;subst e;obtain rfl:=bH<|k.symm.trans r;exact(cr (λh=>by injection h) (by simp) (by simp))
def jj.cL(E:jj t w u A Q it r J)(N:J l c.h c.W)(x:fG X Y Z c B)(R:∀a,r a->¬X a):J l B.h B.W:=E.frame l _ _ _ _ N x.b λa o O e=>have k:=E.own_ l _ _ a N O;k.2.elim λo' P=>by obtain rfl:=bH<|e.symm.trans P.1;exact have f:=x.knone a o e k.1<|R a O;f.2.elim λsl g=>by obtain rfl:=g.2 P.2.2.1;exact⟨g.1,f.1⟩
def jj.tJ(x:jj t w u A E it r J)(N:J l c.h c.W):tx r c:=λa o O f e=>(x.own_ l _ _ a N O).2.elim λP k=>bH (k.1.symm.trans e)▸k.2
def jj.was(r:jj t w u A x it f E)(J:E l h W)(n:h.get? a=z):¬f a:=λN=>(r.own_ l _ _ a J N).2.elim λo k=>(by injection(n.symm.trans k.1))
def Q1{step:F->Mem->(ar F->Mem->Prop)->Prop}:∀{l:G F}{r:Mem}{P:G F->Mem->Prop},gW step l r P=lh (λf r k=>step f r λo r=>k o.toList r) l r P:=by
 intro x;induction x with
 |nil=>intro _ _;exact C
 |cons f l ih=>
  intro r P
  show step f r (λo r=>gW step l r λl r=>P (Ct o l) r)=step f r λo r=>lh _ l r λl r=>P (o.toList++l) r
  congr 1
  funext o r
  refine U ih ?_
  cases o<;>rfl
def LX(m f:aw)(a:aw):Prop:=a=m\/a=f
def Js{e:aN}{Y:aj}{it:au}{tgt:aN}{rest:jW Fin}{R:y_->a8->Prop}(hq:(as_ e Y it (.ref m) g.env).quiet=D)(Jq:(ax t w).den (.compLoop e Y it (.ref m) g.env)=(compTurn e Y it (.ref m) g.env).onRaise (λx=>do noteFrame x g.env;theTreesLotGoes x))(hu:g.A.under (.compLoop e Y it (.ref m) g.env)=g.A)(Jr:compTurn e Y it (.ref m) g.env=(standAt p>>=λ_=>pyNext it>>=λr=>match r with
   |z=>pure (.done .next)
   |q v=>letOwnedTupleGo tgt it v>>=λ_=>assign tgt g.env v>>=λ_=>rest)){own:aw->Prop}{At:G F->bt->RM->Prop}(cU:jj t w u g.A tgt it own At)(step:F->Mem->(G F->Mem->Prop)->Prop)(hD:¬own m)(hC:¬own g.env.locals)(dz:∀(x:F)(c:Cf)(L:G F)(P:G F->Mem->Prop)(v:au)(Q:a8->Prop) E',Rd t w u d g c->fO t w c m L->L.length+k<=aM->bD t w c.b x v->step x c.M P->
   (∀Z B,Z.length<=k->P Z B.M->cv t w (LX m g.env.locals) u c B->bY t w g B->fO t w B m (L++Z)->Q B.s)->
   aH (ax t w) g.A (assign tgt g.env v) (λ_ ka=>aH (ax t w) g.A rest (λfin kj=>fin= .again (.compLoop e Y it (.ref m) g.env)/\Q kj) E' ka) E' c.s){P:G F->Mem->Prop}(r:Rd t w u d g c)(acc:fO t w c m L)(aq:At l c.h c.W)(hb:L.length+k*l.length<=aM)(hw:lh step l c.M λZ E=>P Z E)(J:∀Z B,Z.length<=k*l.length->P Z B.M->cv t w (λa=>own a\/LX m g.env.locals a) u c B->bY t w g B->fO t w B m (L++Z)->R (.ok .next) B.s):
  i9 (ax t w) g.A (.compLoop e Y it (.ref m) g.env) R c.s:=by
 refine Q0 hq Jq hu Jr cU (λl' c5=>cv t w (λa=>own a\/LX m g.env.locals a) u c c5/\bY t w g c5/\At l' c5.h c5.W/\∃d5,fO t w c5 m (L++d5)/\d5.length+k*l'.length<=k*l.length/\lh step l' c5.M λZ E=>P (d5++Z) E)
  (λl' c5 N=>⟨N.1.st,N.2.2.1⟩) (λx l' c5 N v h tk W n1 rf gS E'=>N.2.2.2.elim λd5 O=>?_) (λc5 N h tk n1=>N.2.2.2.elim λd5 O=>?_) l (nB (.refl r.st) r.e aq (cN [] ((bK L).symm▸acc) (cY (kq _)) hw))
 ·have lk:k*(x::l').length=k*l'.length+k:=ara _ _
  have hz:d5.length+k+k*l'.length<=k*l.length:=by have:=O.2.1;rw[lk,tW (k*l'.length),<-B1]at this;exact this
  refine dz x (c5.lo h tk W) (L++d5) _ v _ E' ⟨r.a,N.2.1.own n1.ay (cU.tJ N.2.2.1),n1.st⟩ (O.1.step n1.ay hD) (U bO (aG (U (B1 ..) (sk (aG (mB _ _) hz) _)) hb)) rf O.2.2 λZ c6 ho p6 n6 E6 acc6=>(wC c6 C ((N.1.trans (n1.bz λa h=>.inl h)).trans (n6.bz λa h=>.inr h)) E6 (cU.cL gS n6.ay λa h hx=>hx.elim (λe=>hD (e▸h)) λe=>hC (e▸h)) (cN (d5++Z) (cZ L d5 Z▸acc6) (U bO (aG (yK (sk ho _) _) hz)) ?_))
  simp only[cZ]
  exact p6
 ·have p:P (d5++[]) c5.M:=O.2.2
  rw[bK]at p
  exact J d5 (c5.lo h tk c5.W) (aG (mB _ _) O.2.1) p (N.1.trans (n1.bz λa h=>.inl h)) (N.2.1.own n1.ay (cU.tJ N.2.2.1)) (O.1.step n1.ay hD)
end
section
variable{t:cA}{w:b9}{u:bt}{L:Fns}{d:aj}{c B:Cf}{A:dY}{f g:Fr}{v:V}{y:au}{X:aw->Prop}{a p:aw}{N:Cx}{ρ:Rho}{J:G F}
variable(t w u)in
def qy(f:Fr)(c:Cf)(P:V->Mem->Prop)(Z:au->aw->a8->Prop):Prop:=∀v(l:aw) B y,P v B.M->dU v=D->Nx t w u c B->aP t w B v y->c.h.get? l=z->B.W l=z->(∃m,B.h.Ns l m/\∀(i:aj) r,f.ρ[i]? =q (q<|V.exc r)->m "word"=z)->Z y l B.s
def cv.toNx(S:St t w u c)(x:cv t w X u c B)(h:∀a,X a->c.h.get? a=z):Nx t w u c B:=(cv.refl S).kT x λa l _=>h a l
def pq(x:Nx t w u c B)(h:B.h.get? a=z):c.h.get? a=z:=by
 refine gT (c.h.get? a) (λ_=>?_) λo l=>?_;·rfl
 ·exact(x.ay.dom a o l λh=>h).elim λo e=>(by injection(h.symm.trans e))
noncomputable def Cf.as(c:Cf)(W:RM)(H:aj->aw)(l:Mem):Cf:={c with W:=W,H:=H,M:=l}
def alI(S:St t w u c)(n:cv t w X u c B)(R:fO t w B p l)(hn:c.h.get? p=z)(hX:∀a,X a->c.h.get? a=z)(e:gI m l B.M P):∃v W H r,P v r/\dU v=D/\Nx t w u c (B.as W H r)/\aP t w (B.as W H r) v (.ref p)/\∀E,E≠p->B.W E=z->W E=z:=R.elim λi R=>R.elim λep R=>by have hD:∀{c2},cv t w (· =p) u B c2->Nx t w u c c2:=λY=>cv.toNx S (n.kT Y λa e _=>e▸hn) hX;cases m with|true=>exact have Y:=Ql (X:=(· =p)) (h:=B.h) (J:=B.s.toks) (L:=.list l) n.st (λa e=>e▸R.2.1) (λ_ _ _ e=>e) (λx o O _=>O) R.1 λb kb=>(aT i ⟨ep,R.1⟩<|bp.bz kb _ R.2.2);(L8 _ _ _ _ ((dM e).2) C (hD Y) IU λE Z Q=>(dG Z).trans Q)|false=>exact have Y:=IS (X:=(· =p)) (h:=B.h) (J:=B.s.toks) n.st (λa e=>e▸R.2.1) (λ_ _ _ e=>e) (λx o O _=>O) R.1;(L8 (.fz<|.af l) _ B.H B.M ((dM e).2) C (hD Y) (bV p i C ⟨ep,AZ R.1⟩<|bp.bz Y.ay.b _ R.2.2) λE Z Q=>(dG Z).trans Q)
def Em(m:lT f.cx E r O)(P:∀x∈bJ e,x∈r):∀x∈bJ e,vI (f.comp E r O l) (· =l.locals) x:=λx Q=>⟨C,λR=>by have Y:=(m.El R).1 (.inl C);exact(nomatch (m.QY x<|P x Q).symm.trans Y)⟩
def Q3{m:ah->ar au}(r:lT f.cx P x Q)(O:bY t w f c)(E:∀id,dk (x++f.cx.nm) id=z->m id=z)(i:aj)(l:ah)(e:f.ρ[i]? =q (q<|V.exc l)):m "word"=z:=E "word" (U vJ<|U r.oH<|U (O.exc i l e) C)
def Q4{Z:Mine.X}{e:aN}{P:G F->Mem->Prop}{Q E:au->a8->Prop}(he:eP t w u L d g.cx Z e)(r:Rd t w u d g c)(hw:WX L Z g.ρ c.M λv l=>eQ (gE v l) λx l=>P [x] l)(R:fO t w c p J)(hb:J.length<aM)(m:∀x B,P [x] B.M->cv t w (· =p) u c B->bY t w g B->fO t w B p (J++[x])->Q .none B.s):aH (ax t w) g.A (eval e g.env) (λx dN=>aH (ax t w) g.A (call (.builtin "list.append") [.ref p,x]) Q E dN) E c.s:=he g c _ _ _ rfl r hw λv c1 y h n1 r1=>cq (kQ h) λx l Eo Ep=>av (yb n1.st r1 Eo) λW bA bG=>have Y:=n1.trans bA;have O:=R.step Y.ay id;fO.append (c:=c1.re W l) bA.st O bG hb λh' tk n3 Er=>m x _ Ep ((Nx.to Y).trans n3) ((r.on Y).e.own n3.ay O.tJ) Er
end
section
variable{u:cA}{w:b9}{B:bt}{R:Fns}{d l:aj}[fe d]{c r:Cf}{f:Fr}{E:Cx}{t:T}{p a b:Mine.X}{Q:G Mine.X}{k:qP}{m J N:aN}{O:G aN}{Z:gC}
def alJ{Y:aw->Prop}{P:aw->Prop}(h1:∀a,Y a->P a)(h2:P x)(h3:P L)(a:aw)(h:Y a\/LX x L a):P a:=h.elim (h1 a) λh=>h.elim (λe=>e▸h2) λe=>e▸h3
variable(u w B R d E)in
structure LC(l:aj)(p:Mine.X)(t:T)(k:qP)(a b:Mine.X)(Q:G Mine.X)(m J N:aN)(O:G aN)(Z:gC):Prop where
 hs:lT E Z (bJ J) l
 ht:pi u w B d (fN E Z<|bJ J) t J
 ho:qx (fN E Z<|bJ J) t J
 kR:eP u w B R d (fN E Z<|bJ J) p m
 Jt:AR u w B R d (fN E Z<|bJ J) Q O
 lQ:vH u w B R d E k a b J N
 Bi:∀env v,zd N env v=pure v
section
def alK(hs:lT f.cx Z tn l)(x:Rd u w B d f c)(n2:Nx u w B c c2)(cU:jj u w B f.A J it own At)(gS:At items c2.h c2.W)(L:∀a,own a->c.h.get? a=z)(kl:om Z f.env cl)(body:∀(Y:aw)(cenv:fX)(c4:Cf)(z0:y_->a8->Prop),c4.M=c2.M->Rd u w B d (f.comp Z tn l cenv) c4->fO u w c4 Y []->At items c4.h c4.W->¬own Y->¬own cenv.locals->cenv.locals≠Y->(∀ze c8,gI zl ze c8.M P->cv u w (λa=>own a\/LX Y cenv.locals a) B c4 c8->bY u w (f.comp Z tn l cenv) c8->fO u w c8 Y ze->z0 (.ok .next) c8.s)->i9 (ax u w) f.A (.compLoop (.ListComp m (⟨J,N,O,0⟩::gens) Z zw) 0 it (.ref Y) {cenv with scope:=fV Z f.cx}) z0 c4.s)(zx:qy u w B f c P λy zB s'=>ky (ax u w) f.A zD use zF y zB (.ok .next) s')(n3:Nx u w B c2 c3)(hD:c2.h.get? Y=z)(Er:fO u w c3 Y [])(hM:c3.M=c2.M):aH (ax u w) f.A (zc Z f.env.globals cl [] f.env.qual z .none (q f.env)) (λcenv pr=>i9 (ax u w) f.A (.compStart (.ListComp m (⟨J,N,O,0⟩::gens) Z zw) 0 it (.ref Y) {cenv with scope:=relabel Z f.env}) (ky (ax u w) f.A zD use zF (.ref Y) cenv.locals) pr) zD c3.s:=
 have n123:=n2.trans n3
 have at3:=cU.cL gS n3.ay λ_ _ h=>h
 QZ hs (x.on n123).e n3.st kl _ zD λcenv h4 Ju hC n4 O4=>by
 refine U Ju ?_
 have at4:=cU.cL at3 n4.ay λ_ _ h=>h
 have hCs:=pq n123 hC
 have nq:cenv.locals≠Y:=λzG=>dZ Er λ_ _ a=>by injection((zG▸hC).symm.trans a.1)
 have loop:=body Y cenv (c3.gr h4 c3.s.toks) (ky (ax u w) f.A zD use zF (.ref Y) cenv.locals) hM ⟨x.a,O4,n4.st⟩ (Er.step n4.ay λh=>h) at4 (cU.was gS hD) (cU.was at3 hC) nq λze c8 h8 n8 O8 vM=>Vq (alI x.st ((Nx.to<|n123.trans n4).trans n8) vM (pq n2 hD) (alJ L (pq n2 hD) hCs) h8) λv W H zH a b e g k=>zx v cenv.locals (c8.as W H zH) (.ref Y) a b e g hCs (k _ nq O8.wL)<|O8.ns.imp λzl hm=>⟨hm.1,λi wd e=>Q3 hs x.e hm.2.1 i wd e⟩
 exact codeAny_compStart_list loop<|cU.self _ _ _ at4 _ _ loop
def Q5(hs:lT f.cx Z tn l)(x:Rd u w B d f c)(n2:Nx u w B c c2)(cU:jj u w B f.A J it own At)(gS:At items c2.h c2.W)(L:∀a,own a->c.h.get? a=z)(kl:om Z f.env cl)(body:∀(Y:aw)(cenv:fX)(c4:Cf)(z0:y_->a8->Prop),c4.M=c2.M->Rd u w B d (f.comp Z tn l cenv) c4->fO u w c4 Y []->At items c4.h c4.W->¬own Y->¬own cenv.locals->cenv.locals≠Y->(∀ze c8,gI zl ze c8.M P->cv u w (λa=>own a\/LX Y cenv.locals a) B c4 c8->bY u w (f.comp Z tn l cenv) c8->fO u w c8 Y ze->z0 (.ok .next) c8.s)->i9 (ax u w) f.A (.compLoop (.ListComp m (⟨J,N,O,0⟩::gens) Z zw) 0 it (.ref Y) {cenv with scope:=fV Z f.cx}) z0 c4.s)(zx:qy u w B f c P λy zB s'=>ky (ax u w) f.A zD use zF y zB (.ok .next) s'):aH (ax u w) f.A (Ck []) (λacc kj=>aH (ax u w) f.A (zc Z f.env.globals cl [] f.env.qual z .none (q f.env)) (λcenv pr=>i9 (ax u w) f.A (.compStart (.ListComp m (⟨J,N,O,0⟩::gens) Z zw) 0 it acc {cenv with scope:=relabel Z f.env}) (ky (ax u w) f.A zD use zF acc cenv.locals) pr) zD kj) zD c2.s:=have hD:=lK c2.s.heap;wpAny_newList (alK (c3:=c2.gr (c2.h.push {cls:=.type "list",data:=.seq ([]:G au).toArray}) c2.s.toks) hs x n2 cU gS L kl body zx (Jb n2.st) hD (bV (#[]) 0 (jq _ rfl) (show c2.W c2.s.heap.objs.size=z from kS n2.st hD) C) C) (cD _)
end
noncomputable abbrev Jv(m:aN)(O:G aN)(x:aw)(L:fX)(Y:wu):jW Fin:=do
 let mut P:=D
 for c in O do
  if P then P<-isTrue c L (eval c L)
 if P then
  (do let _<-call (.builtin "list.append") [.ref x,<-eval m L])
 again Y
abbrev Jw(R:Fns)(l:aj)(p:Mine.X)(t:T)(Q:G Mine.X)(ρ:Rho)(x:F)(L:Mem)(k:G F->Mem->Prop):Prop:=oP (fy t x<|bN l z++ρ) λρ'=>WC R Q ρ' L λP L=>match P with|D=>WX R p ρ' L λv L=>eQ (gE v L) λx L=>k [x] L|j=>k [] L
def alL{c5:Cf}{P:aw}{cenv:fX}{dn:G F}{P5:G F->Mem->Prop}{v:au}{x:F}{Q':a8->Prop}{E':au->a8->Prop}{cd:wu}(L:LC u w B R d f.cx l p t k a b Q m J N O Z)(nq:cenv.locals≠P)(r5:Rd u w B d (f.comp Z (bJ J) l cenv) c5)(rU:fO u w c5 P dn)(hb:dn.length+1<=aM)(hv:bD u w c5.b x v)(rV:Jw R l p t Q f.ρ x c5.M P5)(q':∀Y r,Y.length<=1->P5 Y r.M->cv u w (LX P cenv.locals) B c5 r->bY u w (f.comp Z (bJ J) l cenv) r->fO u w r P (dn++Y)->Q' r.s):aH (ax u w) f.A (assign J {cenv with scope:=fV Z f.cx} v) (λ_ ka=>aH (ax u w) f.A (Jv m O P {cenv with scope:=fV Z f.cx} cd) (λfin kj=>fin= .again cd/\Q' kj) E' ka) E' c5.s:=av (dq rV) λdP i0 kc=>L.ht (f.comp Z (bJ J) l cenv) c5 (· =cenv.locals) _ E' x v dP C r5 (Em L.hs λx hx=>hx) hv i0 λh6 rW n6 O6=>by refine aL (L.Jt ((f.comp Z (bJ J) l cenv).on dP) (c5.lo h6 rW c5.W) (λok z0=>match ok with|D=>WX R p dP z0 λv z0=>eQ (gE v z0) λx z0=>P5 [x] z0|j=>P5 [] z0) _ _ rfl ⟨r5.a,O6,n6.st⟩ kc λok c7 h7 n7=>?_);have Q6:cv u w (LX P cenv.locals) B c5 c7:=(n6.bz λa e=>.inr e).trans<|Nx.to n7;have acc7:=(rU.step n6.ay λze=>nq ze.symm).step n7.ay λh=>h;have back:=λ{c8}(zl:bY u w ((f.comp Z (bJ J) l cenv).on dP) c8)=>zl.mQ (ρ':=bN l z++f.ρ) λi v e=>Jp L.hs L.ho (λx hx=>hx) i0 i v e;cases ok with|true=>exact aL<|aL<|gm (Q4 (g:=(f.comp Z (bJ J) l cenv).on dP) (Q:=λ_ s7=>Q' s7) (E:=E') L.kR ⟨r5.a,O6.ay n7.ay,n7.st⟩ h7 acc7 (ata hb) λx c8 h8 n8 O8 vM=>q' [x] c8 (bR _) h8 (Q6.trans<|n8.bz λa e=>.inl e) (back O8) vM) (λx s7 h7=>aL<|gm h7 (λ_ s8 h8=>bu<|bu ⟨C,h8⟩) λ_ _ e=>e) λ_ _ e=>e|false=>exact bu ⟨C,q' [] c7 (cD _) h7 Q6 (back<|O6.ay n7.ay) ((bK dn).symm▸acc7)⟩
def alM(h:gW (λx L P=>oP (fy t x<|bN l z++ρ) λρ'=>WC R Q ρ' L λok L=>match ok with
    |D=>WX R p ρ' L λv L=>eQ (gE v L) λx L=>P (q x) L
    |j=>P z L) Y L P):lh (Jw R l p t Q ρ) Y L P:=by
 rw[Q1]at h
 refine cast (az (λs=>lh s Y L P) ?_) h
 funext x L k
 congr 1
def alN(L:LC u w B R d f.cx l p t k a b Q m J N O Z)(Y:Rd u w B d f c)(n2:Nx u w B c c2)(cU:jj u w B f.A J it own At)(gS:At items c2.h c2.W)(z0:∀a,own a->c.h.get? a=z)(kl:om Z f.env cl)(hB:fP (λx ze P=>oP (fy t x<|bN l z++f.ρ) λρ'=>WC R Q ρ' ze λok ze=>match ok with
    |D=>WX R p ρ' ze λv ze=>eQ (gE v ze) λx ze=>P (q x) ze
    |j=>P z ze) items c2.M λzl ze=>gI zw zl ze P)(zx:qy u w B f c P λy zB s'=>ky (ax u w) f.A zD use zF y zB (.ok .next) s'):
  aH (ax u w) f.A (Ck []) (λacc kj=>aH (ax u w) f.A (zc Z f.env.globals cl [] f.env.qual z .none (q f.env)) (λcenv pr=>i9 (ax u w) f.A (.compStart (.ListComp m [⟨J,N,O,0⟩] Z zG) 0 it acc {cenv with scope:=relabel Z f.env}) (ky (ax u w) f.A zD use zF acc cenv.locals) pr) zD kj) zD c2.s:=
 Q5 L.hs Y n2 cU gS z0 kl (λzH cenv c4 zI hM r4 Jx at4 hD hC nq zJ=>
  Js (g:=f.comp Z (bJ J) l cenv) (k:=1) (d:=d) (p:=N.pos) (P:=λzl ze=>gI zw zl ze P) (rest:=Jv m O zH {cenv with scope:=fV Z f.cx} (.compLoop (.ListComp m [⟨J,N,O,0⟩] Z zG) 0 it (.ref zH) {cenv with scope:=fV Z f.cx})) C rfl rfl (by rfl) cU (Jw R l p t Q f.ρ) hD hC
   (λx c5 dn P5 v Q' E' r5 rU hb hv rV q'=>alL L nq r5 rU hb hv rV q') r4 Jx at4 (U (U0 items.length)<|aG (cY<|kq _) (dM hB).1) (alM<|hM▸(dM hB).2) λzK c8 _=>zJ zK c8) zx
def Q7(L:LC u w B R d E l p t k a b Q m J N O Z)(hc:f.cx=E)(Y:Rd u w B d f c)(hw:WX R (.eG z0 l p t k a b Q) f.ρ c.M P)(ze:qy u w B f c P λy zl s'=>ky (ax u w) f.A zw use zx y zl (.ok .next) s'):aH (ax u w) f.A (comprehension (.ListComp m [⟨J,N,O,0⟩] Z zB) Z f.env p' (Ck []) j (eval N f.env) use) zx zw c.s:=by subst hc;exact av (Jo L.hs Y.e) λcl hcl kl=>U3 (e:=.ListComp m [⟨J,N,O,0⟩] Z zB) C (L.Bi f.env) hcl L.hs.kind (λx hx hl=>hl▸L.hs.aQ x hx)<|L.lQ f c (λitems zD=>fP _ items zD λzF zD=>gI z0 zF zD P) _ zw C Y hw λitems c1 hB n1 it h1 vN own At cU gS n2 zG=>alN (c2:=c1.gr h1 vN) L Y (n1.trans n2) cU gS (λa ha=>pq n1<|zG a ha) kl hB ze
def Jy(S:St u w B c)(x:Go u w B c P L):qy u w B f c P λy Y s'=>ky (ax u w) f.A z0 z L y Y (.ok .next) s':=λv Y r y ze ne n zl hC hW hm=>hm.elim λzw hm=>(aT zw hm.1 (λh' sb=>by have n2:=yn (B:=r.s.toks) n.st hW sb;exact x v (r.lo h' r.s.toks r.W) y ze (cv.toNx (X:=(· =Y)) S ((Nx.to n).trans n2) λa e=>e▸hC)<|zl.pg n2.ay ne))
def alO(L:LC u w B R d E l p t k a b Q m J N O Z):ed u w B R d E (.eG x l p t k a b Q) (.ListComp m [⟨J,N,O,0⟩] Z Y):=iZ (λf c P z0 ze hc zl hw zw=>by calc U (atb ..);exact Q7 L hc zl hw<|Jy zl.st zw) λ_ _=>C
end
section
variable{t1 t2:aN}
def alQ(h0:i9 (ax l w) A (.compLoop (.ListComp O [⟨t1,Z,[],0⟩,⟨t2,J,[],0⟩] t pos) 1 it Y P) L s)(h:aH (ax l w) A (pyIter it) (λJz s'=>i9 (ax l w) A (.compLoop (.ListComp O [⟨t1,Z,[],0⟩,⟨t2,J,[],0⟩] t pos) 1 Jz Y P) L s')
   (notedBy (ax l w) A P λx s'=>L (.error x) s') s):
  i9 (ax l w) A (.compStart (.ListComp O [⟨t1,Z,[],0⟩,⟨t2,J,[],0⟩] t pos) 1 it Y P) L s:=by
 refine UD<|wpAny_notedAt<|aL<|U4<|wpAny_ite ?_
 split
 ·first
   |exact aL<|bu<|bu<|And.intro C h0
   |exact bu<|And.intro C h0
 ·first
   |exact aL<|UF<|aL<|lb<|aL<|gm h (λJz s' h'=>bu<|And.intro C h') λ_ _ x=>x
   |(refine aL<|UF ?_;exact aL<|lb<|aL<|gm h (λJz s' h'=>bu<|And.intro C h') λ_ _ x=>x)
end
section
variable{l:cA}{w:b9}{m:bt}{u:Fns}{d B:aj}[fe d]{r:Cf}{f:Fr}{E:Cx}{Q N:T}{p:eZ}{c a R:Mine.X}{O t1 Z t2 J:aN}{t:gC}
variable(l w m u d E)in
structure tK(B:aj)(c:Mine.X)(Q:T)(a:Mine.X)(N:T)(R:Mine.X)(O t1 Z t2 J:aN)(t:gC):Prop where
 hs:lT E t (bJ t1++bJ t2) B
 ht1:pi l w m d (fN E t<|bJ t1++bJ t2) Q t1
 Q8:qx (fN E t<|bJ t1++bJ t2) Q t1
 Q9:pi l w m d (fN E t<|bJ t1++bJ t2) N t2
 tL:qx (fN E t<|bJ t1++bJ t2) N t2
 kR:eP l w m u d (fN E t<|bJ t1++bJ t2) c O
 lQ:Eg l w m u d E a t1 Z
 alS:Eg l w m u d (fN E t<|bJ t1++bJ t2) R t2 J
 Bi:∀env v,zd Z env v=pure v
 alT:∀env v,zd J env v=pure v
def tK.mQ(L:tK l w m u d f.cx B c Q a N R O t1 Z t2 J t){x y:F}{dP yp:Rho}(g1:fy Q x (bN B z++f.ρ)=q dP)(g2:fy N y dP=q yp)(i:aj)(v:V)(e:dP[i]? =q (q v)):yp[i]? =q (q v):=by
 by_cases Y:∃x∈bJ t2,dk ((bJ t1++bJ t2)++f.cx.nm) x=q i;·exfalso;refine av Y λx Y As=>?_;have h2:=L.Q8 _ _ _ g1 i λP hz hz2=>QW L.hs.Bf hz<|yl hz2 As▸Y;rw[vJ,cE (fW.mpr<|ud _ Y)]at As;exact absurd (L.hs.len▸Jh As)<|lX.mpr (Bg<|h2.symm.trans e).1
 ·exact(L.tL _ _ _ g2 i λx eC hx2=>Y<|aT x eC hx2).trans e
noncomputable abbrev E2(O t1 Z t2 J:aN)(t:gC)(p:eZ):aN:=.ListComp O [⟨t1,Z,[],0⟩,⟨t2,J,[],0⟩] t p
abbrev Es(u:Fns)(c:Mine.X)(N:T)(Y:Rho)(x:F)(L:Mem)(P:ar F->Mem->Prop):Prop:=oP (fy N x Y) λzw=>WX u c zw L λv L=>eQ (gE v L) λf L=>P (q f) L
abbrev Et(u:Fns)(B:aj)(c:Mine.X)(Q N:T)(R:Mine.X)(ρ:Rho)(x:F)(L:Mem)(P:G F->Mem->Prop):Prop:=oP (fy Q x<|bN B z++ρ) λρ'=>WX u R ρ' L λy L=>oP (gH .plain y y) λY=>gd (Y.length<=1000)<|gW (Es u c N ρ') Y L P
def alV{dP:Rho}{Y:aw}{cenv:fX}{c2:Cf}{x:F}{items:G F}{it:au}{own:aw->Prop}{At:G F->bt->RM->Prop}{P:G F->Mem->Prop}{z0:y_->a8->Prop}{dn:G F}(L:tK l w m u d f.cx B c Q a N R O t1 Z t2 J t)(g1:fy Q x (bN B z++f.ρ)=q dP)(cU:jj l w m f.A t2 it own At)(gS:At items c2.h c2.W)(hD:¬own Y)(hC:¬own cenv.locals)(nq:cenv.locals≠Y)(ze:Rd l w m d ((f.comp t (bJ t1++bJ t2) B cenv).on dP) c2)(acc:fO l w c2 Y dn)(hl:items.length<=1000)(hb:dn.length+1000<=aM)(hw:gW (Es u c N dP) items c2.M P)(zl:∀zw r,zw.length<=1000->P zw r.M->cv l w (λa=>own a\/LX Y cenv.locals a) m c2 r->bY l w ((f.comp t (bJ t1++bJ t2) B cenv).on dP) r->fO l w r Y (dn++zw)->z0 (.ok .next) r.s):i9 (ax l w) f.A (.compLoop (E2 O t1 Z t2 J t p) 1 it (.ref Y) {cenv with scope:=fV t f.cx}) z0 c2.s:=Js (g:=(f.comp t (bJ t1++bJ t2) B cenv).on dP) (k:=1) (d:=d) (p:=J.pos) (P:=P) (rest:=Jv O [] Y {cenv with scope:=fV t f.cx} (.compLoop (E2 O t1 Z t2 J t p) 1 it (.ref Y) {cenv with scope:=fV t f.cx})) C rfl rfl (by rfl) cU (λx zx k=>Es u c N dP x zx λo zx=>k o.toList zx) hD hC (λy c5 dn P5 v Q' E' r5 rU hb hv rV q'=>av (dq rV) λyp i0 kc=>L.Q9 ((f.comp t (bJ t1++bJ t2) B cenv).on dP) c5 (· =cenv.locals) _ E' y v yp C r5 (Em L.hs λx hx=>ud _ hx) hv i0 λh6 rW n6 O6=>aL<|bu<|wr C<|aL<|aL<|gm (Q4 (c:=c5.lo h6 rW c5.W) (g:=(f.comp t (bJ t1++bJ t2) B cenv).on yp) (P:=P5) (Q:=λ_ s7=>Q' s7) (E:=E') L.kR ⟨ze.a,O6,n6.st⟩ kc (rU.step n6.ay λzB=>nq zB.symm) (ata hb) λx c8 h8 n8 O8 vM=>q' [x] c8 (bR _) h8 ((n6.bz λa e=>.inr e).trans<|n8.bz λa e=>.inl e) (O8.mQ (ρ:=yp)<|L.mQ g1 i0) vM) (λx s7 h7=>aL<|gm h7 (λ_ s8 h8=>bu<|bu ⟨C,h8⟩) λ_ _ e=>e) λ_ _ e=>e) ze acc gS (U (U0 ..)<|aG (sk hl _) hb) (Q1▸hw) λzw c8 ho h8 n8 O8 vM=>zl zw c8 (aG (aG ho<|cY<|U0 _) hl) h8 n8 O8 vM
end
section
variable{u:cA}{w:b9}{B:bt}{R:Fns}{d Z:aj}[fe d]{c P:Cf}{f:Fr}{r:Cx}{Q t:T}{p x:eZ}{l a E:Mine.X}{m t1 O t2 N:aN}{J:gC}{use:ar (au->jW jX)}
abbrev Q_(m t1 O t2 N:aN)(J:gC)(p:eZ)(Y:aw)(env:fX)(cd:wu):jW Fin:=do
 let mut ok:=D
 for c in([]:G aN) do
  if ok then ok<-isTrue c env (eval c env)
 if ok then
  let z0<-eval N env
  standAt N.pos
  let z0<-zd N env z0
  let _<-runOwn (.compStart (E2 m t1 O t2 N J p) 1 (<-holding [z0] (pyIter z0)) (.ref Y) env) env
 again cd
def alW{c5:Cf}{Y:aw}{cenv:fX}{dn:G F}{P5:G F->Mem->Prop}{v:au}{z0:F}{Q':a8->Prop}{E':au->a8->Prop}{cd:wu}(ze:tK u w B R d f.cx Z l Q a t E m t1 O t2 N J)(nq:cenv.locals≠Y)(r5:Rd u w B d (f.comp J (bJ t1++bJ t2) Z cenv) c5)(rU:fO u w c5 Y dn)(hb:dn.length+1000<=aM)(hv:bD u w c5.b z0 v)(rV:Et R Z l Q t E f.ρ z0 c5.M P5)(q':∀zl P,zl.length<=1000->P5 zl P.M->cv u w (LX Y cenv.locals) B c5 P->bY u w (f.comp J (bJ t1++bJ t2) Z cenv) P->fO u w P Y (dn++zl)->Q' P.s):
  aH (ax u w) f.A (assign t1 {cenv with scope:=fV J f.cx} v) (λ_ ka=>aH (ax u w) f.A (Q_ m t1 O t2 N J p Y {cenv with scope:=fV J f.cx} cd) (λfin kj=>fin= .again cd/\Q' kj) E' ka) E' c5.s:=
 av (dq rV) λdP i0 kc=>ze.ht1 (f.comp J (bJ t1++bJ t2) Z cenv) c5 (· =cenv.locals) _ E' z0 v dP C r5 (Em ze.hs λz0 hx=>Fk _ hx) hv i0 λh6 rW n6 O6=>by
   refine have acc6:=rU.step n6.ay λzw=>nq zw.symm;aL (bu (wr C (aL (gm (ze.alS ((f.comp J (bJ t1++bJ t2) Z cenv).on dP) (c5.lo h6 rW c5.W) id (λnI zx=>gd (aa (nI.length<=1000)) (gW (Es R l t dP) nI zx P5)) (λJA s6=>i9 (ax u w) (f.A.mark z) (.compStart (E2 m t1 O t2 N J p) 1 JA (.ref Y) {cenv with scope:=fV J f.cx}) (λzB s7=>match zB with| .ok _=>Q' s7| .error e=>cameBackBy (ax u w) f.A {cenv with scope:=fV J f.cx} E' e s7) s6) E' C ⟨r5.a,O6,n6.st⟩ kc λnI c7 Ra n7 JA h8 qz atZ At2 Rb Rc n8 JB=>?_) (λz0 s6 h6=>?_) λ_ _ e=>e))))
   ·have acc7:=acc6.step n7.ay λh=>h
    have O7:=O6.ay n7.ay
    have loop2:=alV (p:=p) (c2:=c7.gr h8 qz) (cenv:=cenv) (z0:=λzB s7=>match zB with| .ok _=>Q' s7| .error e=>cameBackBy (ax u w) f.A {cenv with scope:=fV J f.cx} E' e s7) ze i0 Rb Rc (λzw=>dZ acc7 λ_ _ zD=>by injection((JB Y zw).symm.trans zD.1)) (λzw=>av O7.ns λzF a _=>av (tA a) λo zD _=>by injection((JB _ zw).symm.trans zD)) nq ⟨r5.a,O7.ay n8.ay,n8.st⟩ (acc7.step n8.ay λh=>h) (dM Ra).1 hb (dM Ra).2 λzl c9 ho p9 n9 O9 alX=>q' zl c9 ho p9 ((n6.bz λa e=>.inr e).trans ((Nx.to n7).trans ((Nx.to n8).kT n9 λa hy hx=>hy.elim (JB a) λzw=>absurd zw hx)))
     (O9.mQ (ρ:=dP) λi v e=>Jp ze.hs ze.Q8 (λz0 hx=>Fk _ hx) i0 i v e) alX
    exact alQ loop2 (Rb.self _ _ _ Rc _ _ loop2)
   ·refine aL (lb (aL (pB (ze.alT _ z0) (aL (i8 (gm h6 (λJA s7 h7=>?_) λ_ _ e=>e))))))
    exact aL (wpAny_runOwn (UL h7 λzB s8 h8=>by
     cases zB with
     |ok f=>exact bu ⟨C,h8⟩
     |error e=>exact h8))
def alY{c2:Cf}{Y:V->Mem->Prop}{z0 ze:au->a8->Prop}{items:G F}{it:au}{own:aw->Prop}{At:G F->bt->RM->Prop}{cl:G (ah×aw)}(zl:tK u w B R d f.cx Z l Q a t E m t1 O t2 N J)(zw:Rd u w B d f c)(n2:Nx u w B c c2)(cU:jj u w B f.A t1 it own At)(gS:At items c2.h c2.W)(zx:∀a,own a->c.h.get? a=z)(kl:om J f.env cl)(hB:gd (items.length<=1000) (lh (Et R Z l Q t E f.ρ) items c2.M λzB zD=>gI j zB zD Y))(zF:qy u w B f c Y λy zG s'=>ky (ax u w) f.A ze use z0 y zG (.ok .next) s'):aH (ax u w) f.A (Ck []) (λacc kj=>aH (ax u w) f.A (zc J f.env.globals cl [] f.env.qual z .none (q f.env)) (λcenv pr=>i9 (ax u w) f.A (.compStart (E2 m t1 O t2 N J p) 0 it acc {cenv with scope:=relabel J f.env}) (ky (ax u w) f.A ze use z0 acc cenv.locals) pr) ze kj) ze c2.s:=
 Q5 zl.hs zw n2 cU gS zx kl (λzH cenv c4 zI hM r4 Jx at4 hD hC nq zJ=>
  Js (g:=f.comp J (bJ t1++bJ t2) Z cenv) (k:=1000) (d:=d) (p:=O.pos) (P:=λzB zD=>gI j zB zD Y) (rest:=Q_ m t1 O t2 N J p zH {cenv with scope:=fV J f.cx} (.compLoop (E2 m t1 O t2 N J p) 0 it (.ref zH) {cenv with scope:=fV J f.cx})) C rfl rfl (by rfl) cU (Et R Z l Q t E f.ρ) hD hC
   (λzK c5 dn P5 v Q' E' r5 rU hb hv rV q'=>alW zl nq r5 rU hb hv rV q') r4 Jx at4 (aG (cY<|kq _)<|aG (Lm 1000 (dM hB).1) {}) (show lh _ items c4.M _ from hM▸(dM hB).2) λzN c8 _=>zJ zN c8) zF
def Re(Y:tK u w B R d r Z l Q a t E m t1 O t2 N J){z0:V->Mem->Prop}{ze zl:au->a8->Prop}(hc:f.cx=r)(zw:Rd u w B d f c)(hw:WX R (.sD Z l Q a t E) f.ρ c.M z0)(zx:qy u w B f c z0 λy zB s'=>ky (ax u w) f.A zl use ze y zB (.ok .next) s'):aH (ax u w) f.A (comprehension (E2 m t1 O t2 N J p) J f.env x (Ck []) j (eval O f.env) use) ze zl c.s:=by subst hc;exact av (Jo Y.hs zw.e) λcl hcl kl=>U3 (e:=E2 m t1 O t2 N J p) C (Y.Bi f.env) hcl Y.hs.kind (λzD hx hl=>hl▸Y.hs.aQ zD hx)<|Y.lQ f c id (λitems zF=>gd (items.length<=1000)<|lh (Et R Z l Q t E f.ρ) items zF λzG zF=>gI j zG zF z0) _ zl C zw hw λitems c1 hB n1 it h1 vN own At cU gS n2 zH=>alY (c2:=c1.gr h1 vN) Y zw (n1.trans n2) cU gS (λa ha=>pq n1<|zH a ha) kl hB zx
def alZ(Y:tK u w B R d r Z l Q a t E m t1 O t2 N J):ed u w B R d r (.sD Z l Q a t E) (E2 m t1 O t2 N J p):=iZ (λf c z0 ze zl hc zw hw zx=>by calc U (atb ..);exact Re Y hc zw hw<|Jy zw.st zx) λ_ _=>C
end
section
variable{K:Type}[k_ K]{k a:K}{B:G (K×au)}
def Rf(h:k∉B.map (·.1)):stored ((k,l)::B) k y=(k,y)::B:=by
 delta stored
 refine U (cE (by simp))<|U uc<|U (cE C) ?_
 congr 1
 exact(as8 (g:=λx=>x) λp m=>cB λl:p.1=k=>h<|l▸as7 m).trans<|G.map_id' _
def Rg(h:a≠k):stored ((a,l)::B) k y=(a,l)::stored B k y:=by
 delta stored;refine have p:aa (a=k)=j:=g9 h;have r:((a,l)::B).any (λm=>aa<|m.1=k)=B.any λm=>aa (m.1=k):=U B3<|U p<|U (T_ ..) C;U r<|bc (B.any λm=>aa<|m.1=k) ?_ ?_;·simp[h]
 ·rfl
end
def Rh{K:Type}[k_ K]{k:K}{l:G (K×F)}:cJ k f ((k,x)::l)=(k,f)::l:=az (λb=>match b with|D=>(k,f)::l|j=>(k,x)::cJ k f l)<|jB k
def Ri{K:Type}[k_ K]{a k:K}{l:G (K×F)}(h:a≠k):cJ k f ((a,x)::l)=(a,x)::cJ k f l:=az (λb=>match b with|D=>(a,f)::l|j=>(a,x)::cJ k f l)<|mF.mpr h
section
variable{u:cA}{w:b9}{J h:bt}{c Q:Cf}{f:F}{a:aw}{O:FObj}{E:G FObj}{N:G (ar<|aw×G (ah×V))}{X:aw->Prop}
def dX.oW(m:bD u w b f y):dX u w b l B->(B.map (·.1)).Nodup->dX u w b (cJ k f l) (stored B k y):=
 dX.eF (P:=λl B=>(B.map (·.1)).Nodup->dX u w b (cJ k f l) (stored B k y)) (λ_=>bV y [] C m C) (λa x v l r p t ih n=>have n:=qK.mp n
  if e:a=k then by subst e;exact U Rh<|U (Rf n.1)<|bV y r C m t
  else U (Ri e) (U (Rg e)<|bV v _ rfl p<|ih n.2)) l
def eu.oW(m:bD u w b f y):eu u w b l B->(B.map (·.1)).Nodup->eu u w b (cJ k f l) (stored B k y):=
 eu.eF (P:=λl B=>(B.map (·.1)).Nodup->eu u w b (cJ k f l) (stored B k y)) (λ_=>bV y [] C m C) (λa x v l r p t ih n=>have n:=qK.mp n
  if e:a=k then by subst e;exact U Rh<|U (Rf n.1)<|bV y r C m t
  else U (Ri e) (U (Rg e)<|bV v _ rfl p<|ih n.2)) l
def al1{K:Type}[BEq K]{k:K}:∀{l:G (K×F)},(cJ k f l).length<=l.length+1:=by intro m;induction m with|nil=>exact bR _|cons e l ih=>exact bc (P:=λb=>(match b with|D=>(e.1,f)::l|j=>e::cJ k f l).length<=l.length+1+1) (e.1==k) (jV _)<|mD ih
def lJ.Bj{K:Type}[k_ K]{l:sv u w K}{B:G (K×au)}(x:h.DictOf l a B):∃o,h.get? a=q o/\lJ u w l o B:=zp x λo m p r t L=>(cN o r t<|qN m p L)
def iX.Bf{K:Type}[k_ K]{l:sv u w K}{g:Bv}{B:G (K×au)}(x:iX u w l g a B):(B.map (·.1)).Nodup:=cP x λ_ _ m _=>mJ m.2 λ_ _ _ _ _ p=>p
def Rj{n:aj}(h:li p N=D)(e:N[n]? =q (q (m,l))):l.all (λe=>p e.2)=D:=fc.mp h _<|zf e
def Rk(h:iH n (.ref m)=D)(l:m<n+1):m<n:=FK (wg l)<|py.mp h
def Cf.pop(c:Cf)(E:G FObj):Cf:=c.re (iw c.W (c.H E.length)<|q .fz) ⟨E,c.M.ins⟩
def Eu(S:St u w J c)(hM:c.M.fl=E++[O])(ef:lg O=q f)(hi:li (iH E.length) c.M.ins=D):St u w J (c.pop E)/\fG kO E.length c.M.ins.length c (c.pop E)/\bD u w (c.pop E).b f (.ref<|c.H E.length):=by
 have hn:c.M.fl[E.length]? =q O:=by refine U hM<|U (yW<|bR _)<|U (yO ..) ?_;rfl
 have L:=S.fl _ _ hn<|PZ ef;have Y:c.M.fl.length=E.length+1:=by calc U hM;exact jh
 have ne:∀{a r},c.W a=r->r≠q (.hd E.length)->a≠c.H E.length:=λe l p=>l<|e.symm.trans<|(az c.W p).trans L.1;have T:fG kO E.length c.M.ins.length c (c.pop E):=⟨λx o r e l h=>⟨e,(dG (ne l λp=>by injection p with p;subst p;exact bZ h)).trans l⟩,λx o e l _=>⟨(dG<|ne l (λh=>by injection h)).trans l,(aT o.slots e λ_=>C)⟩,λ_ _=>C,λ_ _=>C,bR _,bR _,λ_ o e _=>⟨o,e⟩⟩;have rv:∀{v:V}{y:au},dU v=D->iH E.length v=D->aP u w c v y->aP u w (c.pop E) v y:=λ{v y} hx hf r=>by cases v with|fz g=>exact bD.bz T.b g r|ref m=>exact⟨r.1,Rk hf<|Y▸r.2⟩|dJ m=>exact r|exc wd=>exact bZ hx
 have ra:∀{P:G (ah×V)}{B:G (ah×au)},P.all (λe=>dU e.2)=D->P.all (λe=>iH E.length e.2)=D->ew u w c P B->ew u w (c.pop E) P B:=λ{P}=>by induction P with|nil=>exact λ_ _ h=>h|cons e P ih=>exact λZ h2 r=>have Z:=bh Z;have h2:=bh h2;r.imp λx r=>r.imp λr' r=>(cr r.1 (rv Z.1 h2.1 r.2.1)<|ih Z.2 h2.2 r.2.2)
 refine⟨{
      base:=λx o e=>have l:=S.base x o e;⟨(T.kfz x o .fz l.2 l.1 C).2,l.2⟩
      role:=λx r e=>if p:x=c.H E.length then by
        subst p
        cases(gA c.W _ _).symm.trans e
        exact⟨trivial,(S.role _ _ L.1).2⟩
       else by have l:=S.role x r<|(dG p).symm.trans e;cases r with|hd m=>exact⟨⟨l.1.1,FK (wg<|jD l.1.2 Y) λt=>p<|l.1.1.trans<|az c.H t⟩,l.2⟩|_=>exact l
      fl:=λm o e l=>?_
      ins:=λm cl P e=>?_},T,PY L.2 (λx hx=>kN (gA _ _ _) hx) T.b ef⟩
 ·exact have e:E[m]? =q o:=e;have y:=S.fl m o (U hM<|U (yV<|fC e) e) l;⟨(dG<|ne y.1 λt=>absurd (IC t)<|hO<|fC e).trans y.1,y.2.bz T.b λ_=>id⟩
 ·exact have y:=S.ins m cl P e;⟨(dG<|ne y.1<|dO.ne C).trans y.1,(dG<|ne y.2.1<|dO.ne C).trans y.2.1,y.2.2.1,y.2.2.2.1.imp λ_ h=>h.imp λ_ h=>⟨h.1,h.2.1,ra y.2.2.2.2.2 (Rj hi e) h.2.2⟩,y.2.2.2.2⟩
def cv.pop(n:cv u w X J Q c)(m:c.M.fl=E++[O])(p:lg O=q f)(r:li (iH E.length) c.M.ins=D)(t:Q.M.fl.length<=E.length):cv u w X J Q (c.pop E):=have l:=Eu n.st m p r;⟨l.1,(n.ay.trans<|l.2.1.bz (λ_ h=>h.elim) t n.ay.ilen),n.gens,n.os⟩
def Rl(S:St u w J c)(P:∀v y,aP u w c v y->p v=D):li p c.M.ins=D:=fc.mpr λe t=>by
 refine Exists.elim (G.getElem?_of_mem t) λm Y=>?_;clear t;cases e with
 |none=>rfl
 |some e=>
  refine have L:=S.ins m e.1 e.2 Y;L.2.2.2.1.elim λod k=>k.elim λB k=>?_;have:∀{l:G (ah×V)}{B:G (ah×au)},ew u w c l B->l.all (λe=>p e.2)=D:=λ{l}=>by induction l with|nil=>exact λ_=>C|cons x l ih=>exact λr=>dh r λy r' _ Z ju=>(ku _ _).mpr ⟨P x.2 y Z,ih ju⟩
  exact this k.2.2
def Rm(S:St u w J c):li (iH c.M.fl.length) c.M.ins=D:=Rl S λv y l=>by cases v with|ref m=>exact py.mpr<|hO l.2|_=>rfl
def al2(S:St u w J c):li (nJ c.M.ins.length) c.M.ins=D:=Rl S λv y l=>by cases v with|dJ m=>exact py.mpr<|hO l.2|_=>rfl
end
def Bm(N c:Mem):Prop:=∀(n:aj) o,N.fl[n]? =q o->c.fl[n]? =q o
def al3(h:Bm N c)(e:jY u (.fz<|.int k) N.fl P):jY u (.fz<|.int k) c.fl P:=by cases u with|fz f=>cases f<;>exact e|ref n=>exact av (dq e) λo m p=>by show oP c.fl[n]? _;exact U (h n o m) p|_=>exact e
def eq_int(e:zs u (.fz<|.int c) N P):∃i,u= .fz (.int i)/\P (i==c):=(tC e).elim xW λe=>e.elim (λe=>av (DS e) λ_ _ f=>f.elim) λe=>av (dq e) λ_ _ f=>f.elim
section
variable(l:cA)(w:b9)(B:bt)(J:Fns)(d:aj)(L:Cx)
def vO(x:Mine.X)(e:aN):Prop:=∀(f:Fr)(c:Cf)(N:Mem)(P:V->Mem->Prop)(Q E:au->a8->Prop),f.cx=L->Rd l w B d f c->Bm N c.M->WX J x f.ρ N P->(∀v m y,P v N->aP l w (c.tk m) v y->Q y (c.tk m).s)->aH (ax l w) f.A (eval e f.env) Q E c.s
def Ew(x:Mine.X)(e:aN):Prop:=∀(f:Fr)(c:Cf)(N:Mem)(P:V->Mem->Prop)(Q E:au->a8->Prop),f.cx=L->Rd l w B d f c->Bm N c.M->WX J x f.ρ N P->(∀g m y,P (.fz g) N->bD l w (c.tk m).b g y->Q y (c.tk m).s)->aH (ax l w) f.A (eval e f.env) Q E c.s
def Bn(m:G Mine.X)(p:G aN):Prop:=∀(f:Fr)(c:Cf)(N:Mem)(P:ak->Mem->Prop)(Q:ak->a8->Prop)(E:au->a8->Prop),f.cx=L->Rd l w B d f c->Bm N c.M->WC J m f.ρ N P->(∀b r,P b N->Q b (c.tk r).s)->aH (ax l w) f.A (forIn p D<|IG f.env) Q E c.s
end
section
variable{id:ah}
def Rd.tk(r:Rd l w B d f c)(m:aj):Rd l w B d f (c.tk m):=r.on<|nc r.st m
def al4(h:nh L id n=D):vO l w B J d L (.var n) (.Name id p):=λf c N P Q E t r hp u m=>av (dq u) λo x O=>av (dq O) λv R Y=>load r.e (t▸h) (x.trans<|az q R) λy Z=>m v c.s.toks y Y Z
def al5(h:Ew l w B J d L x e):vO l w B J d L x e:=λf c N P Q E p r t u m=>h f c N P Q E p r t u λg O y=>m (.fz g) O y
def al6(hs:vC Y)(ha:vO l w B J d L a ea)(hi:vO l w B J d L i Y):Ew l w B J d L (.sub a i) (.Subscript ea Y p):=λf c N P Q E Z r O hw m=>Uy (ha f c N _ _ _ Z r O hw λx t1 y1 h R=>hi f (c.tk t1) N _ _ _ Z (r.tk t1) O h λy t2 y2 h r2=>av (xW h) λk IL _=>by obtain rfl:=IL;have R:aP l w ((c.tk t1).tk t2) x y1:=R.ay (nc (w:=w) (u:=l) (r.tk t1).st t2).ay;exact r2.elim λt ht=>ht▸(P7 hs ((r.tk t1).tk t2).st R<|al3 O h).elim λg u=>cP u λv bA bG eL=>eL _ _ λtk=>m g tk _ bA bG)
def al7:Bn l w B J d L [] []:=λf c N P Q E t r u p m=>bu<|m _ c.s.toks p
def al8(hj:oj (.int t) (.int k)=D)(ha:vO l w B J d L a ea)(hs:Bn l w B J d L O R):Bn l w B J d L (.aA .Eq a (.lit<|.int t)::O) (.Compare ea [.Eq] [.Constant (.int k) kk p'] p::R):=λf c N P Q E Y r Z hw u=>by refine U (yY ..)<|aL<|aL<|arV (ha f c N _ _ _ Y r Z hw λx t1 y1 h r1=>IA (b:=c.b) hj λt2 y2 h2=>(eq_int (u:=x) (c:=t) (N:=N) (P:=λb=>match b with|D=>WC J O f.ρ N P|j=>P j N) h).elim λm hm=>?_) C;obtain rfl:=hm.1;refine h2.elim λu2 e2=>r1.elim λu1 e1=>U e1<|U e2<|arT<|uh ?_;have h:=hm.2;revert h;exact bc (m==t) (λh=>bu<|hs f ((c.tk t1).tk t2) N P _ _ Y ((r.tk t1).tk t2) Z h λb tk hb=>u b tk hb) λh=>bu<|P2 R<|u _ t2 h
end
section
variable{B:cA}{w:b9}{J:bt}{K:cH}{gl:G (ah×F)}{mg mb:ah->ar au}{Φ:Fns}{d ns:aj}[fe d]{c:Cf}{f:Fr}{cx:Cx}{t:T}{p:eZ}{x val a:Mine.X}{cQ:G Mine.X}{kx vx m r:aN}{l:G aN}{L:gC}
def al9[k_ κ](Y:sv B w κ):lJ B w Y {cls:=.type "dict",data:=.dict #[]} []:=⟨(cr C rfl rfl),(jE (#[]) 0 C (λe he=>(by cases he;rename_i h;contradiction)) (.nil)<|.nil)⟩
def al_(Y:Su B w J K gl mg mb)(S:St B w J c):c.s.heap.objs.size≠sysModules:=λe=>by refine zo Y.g λo _ _ h _=>?_;have:=hR<|S.jR _ _ h;rw[show(c.h).objs.size=c.s.heap.objs.size from C,e]at this;exact absurd this {}
def Rn(Y:Su B w J K gl mg mb)(S:St B w J c):Nx B w J c (c.hd {cls:=.type "dict",data:=.dict #[]} (.di [])):=Pn S C λg b kb kg=>(aT [] (cN _ kg (al9 _)<|al_ Y S) C)
def JC(S:St B w J c)(e:c.M.fl[n]? =q (.di Y)):∃i,iX B w (eY B w) c.h.get? (c.H n) i/\dX B w c.b Y i:=(S.fl n _ e C).2
variable(B w J Φ d cx)in
structure DC(ns:aj)(x val:Mine.X)(t:T)(a:Mine.X)(cQ:G Mine.X)(kx vx m r:aN)(l:G aN)(L:gC):Prop where
 hs:lT cx L (bJ m) ns
 ht:pi B w J d (fN cx L<|bJ m) t m
 ho:qx (fN cx L<|bJ m) t m
 hk:vO B w J Φ d (fN cx L<|bJ m) x kx
 hv:Ew B w J Φ d (fN cx L<|bJ m) val vx
 Jt:Bn B w J Φ d (fN cx L<|bJ m) cQ l
 lQ:Eg B w J Φ d cx a m r
 Bi:∀env v,zd r env v=pure v
abbrev yq(Φ:Fns)(ns:aj)(x val:Mine.X)(t:T)(cQ:G Mine.X)(ρ:Rho)(Y:F)(z0:Mem)(P:ar (M×F)->Mem->Prop):Prop:=oP (fy t Y<|bN ns z++ρ) λρ'=>WC Φ cQ ρ' z0 λok z0=>match ok with|D=>WX Φ x ρ' z0 λk z0=>WX Φ val ρ' z0 λv z0=>cF k λk=>eQ (gE v z0) λf z0=>P (q (k,f)) z0|j=>P z z0
def Bo{α:Type}{Y:G α}{z0:α}:(Y++[z0])[Y.length]? =q z0:=by refine U (yW<|bR _)<|U (yO ..) ?_;rfl
def JD{α:Type}{Y:G α}{z0 y:α}:(Y++[z0]).set Y.length y=Y++[y]:=by refine U (arf _ _<|bR _)<|U (yO ..) ?_;rfl
def ama{N:Mem}(S:St B w J c)(hM:c.M=⟨N.fl++[.di Z],N.ins⟩)(hD:c.H N.fl.length=u)(hl:Z.length<=1000)(ry:bD B w c.b Y y)(z0:∀c',Nx B w J c c'->c'.M=⟨N.fl++[.di (cJ k Y Z)],N.ins⟩->c'.H N.fl.length=u->Q jX.unit c'.s):aH (ax B w) A (dictSet u (.int k tk) y) Q E c.s:=by
 have hn:c.M.fl[N.fl.length]? =q (.di Z):=by calc U hM;exact Bo
 subst hD;refine av (JC S hn) λkvs bA bG=>cP bA λo vq vt JE=>wpAny_dictSet_pairs (knd:=eY B w) (k:=k) (qm k tk) (vt.of vq) (λh' hd sb=>av (lJ.Bj hd) λo' nt vP=>z0 _ (dz (Y:=c.s.toks+1) (O:=.di (cJ k Y Z)) S hn C sb nt λb kb=>(aT _ (cN o' nt vP JE)<|(dX.bz kb _ bG).oW (bD.bz kb _ ry) bA.Bf)) ?_ rfl)<|bG.len▸aG hl (U qH {});show(⟨c.M.fl.set N.fl.length _,c.M.ins⟩:Mem)=_;exact U hM<|az (Mem.mk · N.ins) JD
noncomputable abbrev Ro(kx vx:aN)(l:G aN)(u:aw)(Y:fX)(cd:wu):jW arP:=do
 let mut ok:=D
 for c in l do
  if ok then ok<-isTrue c Y (eval c Y)
 if ok then
  (do
   let kv<-eval kx Y
   let vv<-holding [kv] (eval vx Y)
   standAt {kx.pos with endLine:=vx.pos.endLine,endCol:=vx.pos.endCol}
   holding [kv,vv] (dictSet u kv vv))
 again cd
section
variable{N:Mem}{u:aw}{Z:G (M×F)}{O:fX}{cd:wu}{R:G F}{it:au}{own:aw->Prop}{At:G F->bt->RM->Prop}{cl:G (ah×aw)}{P:V->Mem->Prop}{Q E:au->a8->Prop}{c2 c4 c7:Cf}
def amb{Kt:G (M×F)->Mem->Prop}{dP:Rho}{Q':a8->Prop}{E':au->a8->Prop}(Y:DC B w J Φ d f.cx ns x val t a cQ kx vx m r l L)(r7:Rd B w J d ((f.comp L (bJ m) ns O).on dP) c7)(hM:c7.M=⟨N.fl++[.di Z],N.ins⟩)(hH:c7.H N.fl.length=u)(hl:Z.length<=1000)(hk:WC Φ cQ dP N λok z0=>match ok with
   |D=>WX Φ x dP z0 λk z0=>WX Φ val dP z0 λv z0=>cF k λk=>eQ (gE v z0) λze z0=>Kt (zu (q (k,ze)) Z) z0
   |j=>Kt (zu z Z) z0)(zl:∀Bp c8,Bp.length<=Z.length+1->Kt Bp N->c8.M=⟨N.fl++[.di Bp],N.ins⟩->c8.H N.fl.length=u->Nx B w J c7 c8->Q' c8.s):
  aH (ax B w) f.A (Ro kx vx l u {O with scope:=fV L f.cx} cd) (λfin kj=>fin= .again cd/\Q' kj) E' c7.s:=by
 have hp:Bm N c7.M:=λn o e=>hM▸(yV<|fC e).trans e
 refine aL (Y.Jt ((f.comp L (bJ m) ns O).on dP) c7 N (λok z0=>match ok with|D=>WX Φ x dP z0 λk z0=>WX Φ val dP z0 λv z0=>cF k λk=>eQ (gE v z0) λze z0=>Kt (zu (q (k,ze)) Z) z0|j=>Kt (zu z Z) z0) _ _ rfl r7 hp hk λok qz h8=>?_)
 cases ok with|true=>exact have r8:=r7.tk qz;aL (aL<|Y.hk ((f.comp L (bJ m) ns O).on dP) (c7.tk qz) N _ _ _ rfl r8 hp h8 λkv vQ y9 h9 r9=>aL<|i8<|Y.hv ((f.comp L (bJ m) ns O).on dP) ((c7.tk qz).tk vQ) N _ _ _ rfl (r8.tk vQ) hp h9 λgv JF Y9 h10 r10=>aL<|lb<|i8<|av (xW h10) λkk e h=>(show aP B w ((c7.tk qz).tk vQ) (.fz<|.int kk) y9 from e▸r9).elim λtkk e9=>have r10':=(r8.tk vQ).tk JF;U e9 (ama (c:=((c7.tk qz).tk vQ).tk JF) (N:=N) r10'.st hM hH hl r10 λc11 n11 amf amg=>bu ⟨C,zl (cJ kk gv Z) c11 al1 h amf amg<|((nc r7.st qz).trans<|(nc r8.st vQ).trans<|nc (r8.tk vQ).st JF).trans n11⟩))|false=>exact bu ⟨C,zl Z (c7.tk qz) (jV _) h8 hM hH<|nc r7.st qz⟩
def DJ(B:cA)(w:b9)(J:bt)(X:aw->Prop)(g:Fr)(At:G F->bt->RM->Prop)(N:Mem)(u:aw)(n:aj)(Kt:G F->G (M×F)->Mem->Prop)(c:Cf)(Y:G F)(c5:Cf):Prop:=cv B w X J c c5/\bY B w g c5/\At Y c5.h c5.W/\c5.H N.fl.length=u/\∃Z:G (M×F),c5.M=⟨N.fl++[.di Z],N.ins⟩/\Z.length+Y.length<=n/\Kt Y Z N
def amh{Y:y_->a8->Prop}{Kf:G (M×F)->Mem->Prop}(z0:DC B w J Φ d f.cx ns x val t a cQ kx vx m r l L)(hA:eT f.A d)(cU:jj B w J f.A m it own At)(hC:¬own O.locals)(hn:R.length<=1000)(ze:∀c5 Z,cv B w (λa=>own a\/a=O.locals) J c c5->bY B w (f.comp L (bJ m) ns O) c5->c5.H N.fl.length=u->c5.M=⟨N.fl++[.di Z],N.ins⟩->Kf Z N->Y (.ok .next) c5.s)(zl:DJ B w J (λa=>own a\/a=O.locals) (f.comp L (bJ m) ns O) At N u R.length (λzw Z zx=>pF (yq Φ ns x val t cQ f.ρ) zw zx Z Kf) c R c4):i9 (ax B w) f.A (.compLoop (.DictComp kx vx [⟨m,r,l,0⟩] L p) 0 it (.ref u) {O with scope:=fV L f.cx}) Y c4.s:=by
 refine Q0 (p:=r.pos) (rest:=Ro kx vx l u {O with scope:=fV L f.cx} (.compLoop (.DictComp kx vx [⟨m,r,l,0⟩] L p) 0 it (.ref u) {O with scope:=fV L f.cx})) C rfl rfl (compTurn_dict ..) cU (DJ B w J (λa=>own a\/a=O.locals) (f.comp L (bJ m) ns O) At N u R.length (λzw Z zx=>pF (yq Φ ns x val t cQ f.ρ) zw zx Z Kf) c)
  (λl5 c5 zl=>⟨zl.1.st,zl.2.2.1⟩) (λzB l5 c5 zl v h6 rW W6 n6 rf wX E'=>zl.2.2.2.2.elim λZ zD=>av (dq zD.2.2) λdP aW a_=>?_) (λc5 zl h6 rW n6=>zl.2.2.2.2.elim λZ zD=>ze _ Z (zl.1.trans (n6.bz λa h=>.inl h)) (zl.2.1.own n6.ay (cU.tJ zl.2.2.1)) zl.2.2.2.1 zD.1 zD.2.2) R zl
 exact z0.ht (f.comp L (bJ m) ns O) (c5.lo h6 rW W6) (· =O.locals) _ E' zB v dP C ⟨hA,zl.2.1.own n6.ay (cU.tJ zl.2.2.1),n6.st⟩ (Em z0.hs λzB hx=>hx) rf aW λh7 JG n7 O7=>amb (Kt:=λZ zx=>pF (yq Φ ns x val t cQ f.ρ) l5 zx Z Kf) (c7:=(c5.lo h6 rW W6).lo h7 JG W6) z0 ⟨hA,O7,n7.st⟩ zD.1 zl.2.2.2.1 (aG (aG (mB _ _) zD.2.1) hn) a_ λBp c8 hl hK hM hH n8=>aT c8 C ⟨((zl.1.trans (n6.bz λa h=>.inl h)).trans (n7.bz λa h=>.inr h)).trans (Nx.to n8),(O7.ay n8.ay).mQ (ρ':=bN ns z++f.ρ) λi v e=>Jp z0.hs z0.ho (λzB hx=>hx) aW i v e,cU.cL (cU.cL wX n7.ay λa ho hx=>hC (hx▸ho)) n8.ay λ_ _ h=>h,hH,cN Bp hM (aG (yK hl _) (aG (cY (yL _ _ _)) zD.2.1)) hK⟩
def ami(Y:DC B w J Φ d f.cx ns x val t a cQ kx vx m r l L)(z0:Rd B w J d f c)(n2:Nx B w J c c2)(cU:jj B w J f.A m it own At)(gS:At R c2.h c2.W)(ze:∀a,own a->c.h.get? a=z)(kl:om L f.env cl)(hB:gd (R.length<=1000) (pF (yq Φ ns x val t cQ f.ρ) R c2.M [] λzl zw=>qS j zl zw P))(zx:qy B w J f c P λy zB s'=>ky (ax B w) f.A E z Q y zB (.ok .next) s')(n3:Nx B w J c2 c3)(hDo:c3.h.get? u=q oD)(hH:c3.H c2.M.fl.length=u)(hM:c3.M=⟨c2.M.fl++[.di []],c2.M.ins⟩):aH (ax B w) f.A (zc L f.env.globals cl [] f.env.qual z .none (q f.env)) (λO pr=>i9 (ax B w) f.A (.compStart (.DictComp kx vx [⟨m,r,l,0⟩] L p) 0 it (.ref u) {O with scope:=relabel L f.env}) (ky (ax B w) f.A E z Q (.ref u) O.locals) pr) E c3.s:=
 have n123:=n2.trans n3
 have at3:=cU.cL gS n3.ay λ_ _ h=>h
 QZ Y.hs (z0.on n123).e n3.st kl _ E λO h4 Ju hC n4 O4=>by
 refine U Ju ?_
 have at4:=cU.cL at3 n4.ay λ_ _ h=>h
 have hCs:=pq n123 hC
 have loop:=amh (p:=p) (N:=c2.M) (u:=u) (c:=c) (c4:=c3.gr h4 c3.s.toks) (Y:=ky (ax B w) f.A E z Q (.ref u) O.locals) (Kf:=λzl zw=>qS j zl zw P) Y z0.a cU (cU.was at3 hC) (dM hB).1 (λc5 Z n5 O5 Rp JH hK=>?_) ⟨Nx.to<|n123.trans n4,O4,at4,hH,cN [] hM (cY<|kq _) (dM hB).2⟩
 ·exact codeAny_compStart_dict loop<|cU.self _ _ _ at4 _ _ loop
 ·have h:=dM hK
  have Rq:c5.M.fl=c2.M.fl++[.di Z]:=az Mem.fl JH
  have Rr:li (iH c2.M.fl.length) c5.M.ins=D:=JH▸Rm n2.st
  have hMp:(c5.pop c2.M.fl).M=c2.M:=by show(⟨c2.M.fl,c5.M.ins⟩:Mem)=_;exact U JH C
  refine zx (.fz<|.di Z) O.locals (c5.pop c2.M.fl) (.ref u) (hMp▸h.2) C (cv.toNx z0.st (n5.pop (f:=.di Z) Rq C Rr n2.ay.flen) λa ha=>ha.elim (ze a) λe=>e▸hCs) (Rp▸(Eu n5.st Rq (f:=.di Z) C Rr).2.2) hCs ?_<|O5.ns.imp λzD hm=>⟨hm.1,λi wd e=>Q3 Y.hs z0.e hm.2.1 i wd e⟩
  exact(dG λzF=>by injection((zF▸hC).symm.trans<|Rp▸hDo)).trans O5.wL
def aml(Y:Su B w J K gl mg mb)(z0:DC B w J Φ d f.cx ns x val t a cQ kx vx m r l L)(ze:Rd B w J d f c)(n2:Nx B w J c c2)(cU:jj B w J f.A m it own At)(gS:At R c2.h c2.W)(zF:∀a,own a->c.h.get? a=z)(kl:om L f.env cl)(hB:gd (R.length<=1000) (pF (yq Φ ns x val t cQ f.ρ) R c2.M [] λzw zx=>qS j zw zx P))(zB:qy B w J f c P λy zD s'=>ky (ax B w) f.A E z Q y zD (.ok .next) s'):aH (ax B w) f.A PySem.newDict (λZ kj=>aH (ax B w) f.A (zc L f.env.globals cl [] f.env.qual z .none (q f.env)) (λO pr=>i9 (ax B w) f.A (.compStart (.DictComp kx vx [⟨m,r,l,0⟩] L p) 0 it Z {O with scope:=relabel L f.env}) (ky (ax B w) f.A E z Q Z O.locals) pr) E kj) E c2.s:=atc (ami (c3:=c2.hd {cls:=.type "dict",data:=.dict #[]} (.di [])) (u:=c2.s.heap.objs.size) z0 ze n2 cU gS zF kl hB zB (Rn Y n2.st) (jq _ rfl) AI C) (cD _)
end
def amm(Y:Su B w J K gl mg mb)(z0:DC B w J Φ d cx ns x val t a cQ kx vx m r l L):ed B w J Φ d cx (.wI ns x val t a cQ) (.DictComp kx vx [⟨m,r,l,0⟩] L p):=iZ (λf c P Q E hc ze hw zl=>by subst hc;calc U (arm_eval_DictComp ..);refine av (Jo z0.hs ze.e) λcl hcl kl=>?_;refine U3 (e:=.DictComp kx vx [⟨m,r,l,0⟩] L p) C (z0.Bi f.env) hcl z0.hs.kind (λzw hx hl=>hl▸z0.hs.aQ zw hx) ?_;exact z0.lQ f c id (λR zx=>gd (R.length<=1000)<|pF (yq Φ ns x val t cQ f.ρ) R zx [] λzB zx=>qS j zB zx P) _ E C ze hw λR c1 hB n1 it h1 vN own At cU gS n2 zF=>aml (c2:=c1.gr h1 vN) Y z0 ze (n1.trans n2) cU gS (λa ha=>pq n1<|zF a ha) kl hB<|Jy ze.st zl) λ_ _=>C
end
def Rt:∀(c:G F)(N:Mem),oK (c.map .fz) N=q (c,N):=by intro f;induction f with|nil=>exact λ_=>C|cons g c ih=>intro N;exact P0.trans (by show(q (g,N)).bind _=_;refine U (UK ..)<|U (ih N) ?_;rfl)
section
variable(t:cA)(w:b9)(u:bt)(B:Fns)(d:aj)(J:Cx)
def Ex(x:Mine.X)(e:aN):Prop:=∀(f:Fr)(c:Cf)(N:Mem)(P:V->Mem->Prop)(Q E:au->a8->Prop),f.cx=J->Rd t w u d f c->WX B x f.ρ N P->(∀g l y,P (.fz g) N->l.M=c.M->Nx t w u c l->bD t w l.b g y->Q y l.s)->aH (ax t w) f.A (eval e f.env) Q E c.s
def Bq(x:G Mine.X)(L:G aN):Prop:=∀(f:Fr)(c:Cf)(N:Mem)(P:G V->Mem->Prop)(Q:G au->a8->Prop)(E:au->a8->Prop)(p:eZ),f.cx=J->Rd t w u d f c->jZ B x f.ρ N P->(∀m l r,P (m.map .fz) N->l.M=c.M->Nx t w u c l->bp t w l.b m r->Q r l.s)->aH (ax t w) f.A (spliced<|backTo p<|nA L f.env) Q E c.s
def Br(r:G M)(L:G Mine.X)(O:G (ar aN))(R:G aN):Prop:=∀(f:Fr)(c:Cf)(N:Mem)(P:G V->Mem->Prop)(Q:G (au×au)->a8->Prop)(E:au->a8->Prop)(p:eZ),f.cx=J->Rd t w u d f c->jZ B L f.ρ N P->(∀x m l,P (x.map .fz) N->m.M=c.M->Nx t w u c m->bp t w m.b x (l.map (·.2))->Carries (eY t w) l (r.zip<|l.map (·.2))->l.length=r.length->Q l m.s)->aH (ax t w) f.A (evalPairs<|pairTrees O R f.env p) Q E c.s
end
section
variable{K:cH}
def amn(h:oj m k=D):Ex t w u B d J (.lit m) (.Constant k R p):=λf c N P Q E Y r L l=>IA (b:=c.b) h λx y O=>l m (c.tk x) y L C (nc r.st x) O
def amo:Bq t w u B d J [] []:=λf c N P Q E p m r h l=>ar1<|l [] c _ h C (.refl r.st) C
def amp(Z:∀m,nA (e::L) m=(j,eval e m)::nA L m)(hx:Ex t w u B d J x e)(tG:Bq t w u B d J xs L):Bq t w u B d J (x::xs) (e::L):=λf c N P Q E p O r h l=>ar2 (hx f c N _ _ _ O r h λg c1 y h e1 R r1=>tG f c1 N _ _ _ p O (r.on R) h λgs c2 ys h e2 Y r2=>l (g::gs) c2 _ h (e2.trans e1) (R.trans Y)<|bV _ _ rfl (bD.bz Y.ay.b _ r1) r2) (Z _)
def amq(h:Bq t w u B d J O R):Ex t w u B d J (.af j O) (.List R p):=λf c N P Q E Y r Z l=>ar4 (h f c N _ _ _ p Y r Z λm c1 ys h e1 x L=>by rw[Rt]at h;have k:_/\P (.fz<|.af m) N:=dM h;exact⟨aG (cY L.len.symm)<|aG k.1 mw,l (.af m) (c1.fz _) _ k.2 e1 (x.trans<|xV x.st C)<|bV _ ys.toArray C ⟨_,DQ C⟩<|bp.bz xU.ay.b _ L⟩)
def amr:Br t w u B d J [] [] [] []:=λf c N P Q E p m r h l=>evalPairs_nil<|l [] c [] h C (.refl r.st) C trivial rfl
def ams(Y:Ex t w u B d J x e)(Z:Br t w u B d J ks xs eV es):Br t w u B d J (k::ks) (x::xs) (q (.Constant (.int k) kk p)::eV) (e::es):=λf c N P Q E p L r h l=>by refine pairTrees_cons_walk<|ar0 ?_;have m:=nc r.st<|c.s.toks+1;exact Y f (c.tk<|c.s.toks+1) N _ _ _ L (r.on m) h λg c1 y h e1 O r1=>Z f c1 N _ _ _ p L ((r.on m).on O) h λgs c2 ps h e2 R r2 k2 l2=>l (g::gs) c2 _ h (e2.trans e1) ((m.trans O).trans R) (bV _ _ rfl (bD.bz R.ay.b _ r1) r2) (cr (qm _ _) C k2) (az (· +1) l2)
def bp.zip{m:G M}(h:bp t w b p x):dX t w b (m.zip p) (m.zip x):=bp.eF (P:=λp x=>∀m:G M,dX t w b (m.zip p) (m.zip x)) (λm=>by cases m<;>rfl) (λf v l r a _ c m=>by cases m with|nil=>rfl|cons k m=>exact bV v _ rfl a<|c m) p h m
def Ru(S:St t w u c)(n:Nx t w u c r)(x:r.M=⟨c.M.fl++[.di l],c.M.ins⟩)(N:r.H c.M.fl.length=f)(e:qS m l c.M P)(p:Go t w u c P Q):Q (.ref f) r.s:=by
 have e:=dM e;subst N;cases m with
 |true=>exact p (.ref c.M.fl.length) r _ (x▸e.2) n ⟨C,by calc U x;exact jD (mG _) jh.symm⟩
 |false=>
  have E:r.M.fl=c.M.fl++[.di l]:=by exact U x rfl
  have L:li (iH c.M.fl.length) r.M.ins=D:=by calc U x;exact Rm S
  have O:(r.pop c.M.fl).M=c.M:=by show(⟨c.M.fl,r.M.ins⟩:Mem)=_;exact U x rfl
  exact p (.fz<|.di l) (r.pop c.M.fl) _ (O▸e.2) (n.pop (f:=.di l) E C L<|bR _) (Eu n.st E (f:=.di l) C L).2.2
def amt(l:Su t w u K gl mg mb)(hk:N.all (·.isSome)=D)(hl:N.length=es.length)(h15:N.length<=15)(h0:N=[]->O=[]/\xs=[])(h:Br t w u B d J O xs N es):ed t w u B d J (.oG m O xs) (.Dict N es p):=
 iZ (λf c P Q E hc r hw x=>by
  have n1:=Rn l r.st;have hH:(c.hd {cls:=.type "dict",data:=.dict #[]} (.di [])).H c.M.fl.length=c.s.heap.objs.size:=AI;cases N with
  |nil=>obtain rfl:=(h0 C).1;obtain rfl:=(h0 C).2;cases es with|nil=>exact wpAny_Dict_empty<|Ru (r:=c.hd _ _) r.st n1 C hH (cO<|show gd (([]:G M).length==([]:G F).length&&aa ([]:G M).Nodup) (qS m [] c.M P)from hw).2 x|cons=>injection hl
  |cons ke N=>
   calc wpAny_Dict_walk (knd:=eY t w) hk hl (λh=>by injection h) h15;refine h f (c.hd {cls:=.type "dict",data:=.dict #[]} (.di [])) c.M _ _ _ _ hc (r.on n1) hw λgs L ps hP e2 Y r2 k2 l2=>?_;rw[Rt]at hP;have g:=cO hP;have g1:=bh g.1;have n12:=n1.trans Y;have tM:L.M=⟨c.M.fl++[.di []],c.M.ins⟩:=e2;have hn:L.M.fl[c.M.fl.length]? =q (.di []):=by refine U tM ?_;exact Bo
   have R:L.H c.M.fl.length=c.s.heap.objs.size:=(Y.ay.H _<|jD (mG _) jh.symm).trans hH;refine av (JC Y.st hn) λkvs bA bG=>bA.elim λo Z=>?_;rw[R]at Z;obtain rfl:=bG;refine(cN _ k2 (Z.2.1.of Z.1) λh' hd sb=>?_);have amu:(O.zip<|ps.map (·.2)).map (·.1)=O:=atd<|U (bx ..)<|U l2<|bR _;rw[merged_nil_of_nodup _ (U amu<|dw g1.2)]at hd;refine av (lJ.Bj hd) λo' nt vP=>?_;have n3:=dz (Y:=L.s.toks+ps.length) (O:=.di (O.zip gs)) Y.st hn C (R▸sb) (R▸nt) λb kb=>(aT _ (cN o' (R▸nt) vP<|R▸Z.2.2)<|(bp.bz kb _ r2).zip);refine Ru (r:=L.tn h' (L.s.toks+ps.length) c.M.fl.length<|.di<|O.zip gs) r.st (n12.trans n3) ?_ R g.2 x;show(⟨L.M.fl.set c.M.fl.length _,L.M.ins⟩:Mem)=_;refine U tM ?_;exact az (Mem.mk · c.M.ins) JD) λ_ _=>C
end
def amv{m:Type}{f:G ah}:∀{l:G m},l.length=f.length->∀n∈f,∃v,(f.zip l).lookup n=q v:=by induction f with|nil=>exact λ_ n h=>absurd h gk|cons x f ih=>intro l e n h;cases l with|nil=>injection e|cons v l=>exact if c:n=x then⟨v,pj c⟩else(ih (FI e) n<|(i6.mp h).resolve_left c).imp λ_ g=>(qu c).trans g
def amw{m:Type}:∀{l:G m},l.length=c.length->gY c=D->∀(f:ah->ar m),(∀n∈c,f n=(c.zip l).lookup n)->c.filterMap (λn=>(f n).map (n,·))=c.zip l:=by induction c with|nil=>exact λ_ _ _ _=>C|cons x c ih=>intro l e p f r;cases l with|nil=>injection e|cons v l=>exact(qF (f:=λn=>(f n).map (n,·)) (b:=(x,v))<|az (ar.map (x,·))<|(r x<|.head _).trans<|pj C).trans<|az ((x,v)::·)<|ih (FI e) (bh p).2 f λn t=>(r n<|.tail _ t).trans<|qu<|Ej (bh p).1 t
def JI(p:Arguments):ak:=p.posonlyargs.isEmpty&&p.kwonlyargs.isEmpty&&p.vararg.isNone&&p.kwarg.isNone&&gY (p.args.map (·.arg))
def amx(l:¬(aa (c.length>(f.map Arg.arg).length)&&D)=D)(m:∀k,¬(!(((f.map Arg.arg).take k).filter λn=>(((f.map Arg.arg).zip c).lookup n).isNone).isEmpty)=D):bindArgs ⟨p,r,⟨[],f,z,[],t,z,u⟩,x,B,E,J,.none,L,N,O,an,P,Q,R⟩ ⟨c,[]⟩=pure ((f.map Arg.arg++[]).filterMap λn=>(((f.map Arg.arg).zip c).lookup n).map (n,·)):=by refine(cB l).trans<|(cB<|m _).trans ?_;show(forIn (G.zip _<|G.drop _ []) _ _>>=_)=_;exact U G.drop_nil<|U G.zip_nil_right C
def amy{p:Arguments}(l:p.posonlyargs=[])(m:p.vararg=z)(r:p.kwonlyargs=[])(t:p.kwarg=z):p=⟨[],p.args,z,[],p.kw_defaults,z,p.defaults⟩:=by obtain⟨a,b,c,d,e,f,g⟩:=p;exact U (show a=[]from l)<|U (show c=z from m)<|U (show d=[]from r)<|U (show f=z from t) C
def amz{f:zg}(c:f.params=p)(l:f.defaults= .none):f=⟨f.name,f.qualname,p,f.body,f.scope,f.globals,f.closure,.none,f.kwdefaults,f.doc,f.pyModule,f.annotations,f.code,f.closureTuple,f.builtins⟩:=U (Eq.symm c)<|U (Eq.symm l) C
def Rv(f:JI l.params=D)(p:l.defaults= .none)(r:c.length=l.params.args.length):bindArgs l ⟨c,[]⟩=pure ((l.params.args.map (·.arg)).zip c):=
 fH (ue.mp f) λf t=>fH (ue.mp f) λf u=>fH (ue.mp f) λf x=>fH (ue.mp f) λB E=>
 have m:c.length=(l.params.args.map Arg.arg).length:=r.trans (bx _).symm
 (az (bindArgs · ⟨c,[]⟩)<|amz (amy (pz.mp B) (U5.mp x) (pz.mp E)<|U5.mp u) p).trans<|
 (amx (by refine U m<|U (g9<|Uo _) ?_;nofun) λk=>U (G.filter_eq_nil_iff.mpr λn J=>(amv m n<|U6 J).elim λv e=>by calc U e;nofun) Ca).trans<|
 az pure (U (bK _)<|amw m t _ λn _=>C)
def Rw{c:Type}{l:G (ah×c)}(h:(!(l.map (·.1)).contains x)=D):l.lookup x=z:=ar.eq_none_iff_forall_ne_some.mpr λv e=>su<|(mA h).symm.trans<|fW.mpr<|mE.mpr<|aT _ (mem_of_lookup e) C
def Ey{k:ah->ar oz}{l:G (ah×au)}:∀{m:ah->ar au},gY (l.map (·.1))=D->∀id,bindL k l m id=match l.lookup id with
  |q v=>if k id=q .local then q v else m id
  |z=>m id:=by
 induction l with
 |nil=>exact λ_ _=>C
 |cons x l ih=>
  intro m p id
  refine(ih (bh p).2 id).trans ?_
  by_cases c:id=x.1
  ·refine U (pj c)<|U (c▸Rw (bh p).1:l.lookup id=z) ?_
   exact if f:k x.1=q .local then(wy (cE f) id).trans ((cE c).trans (cE<|c▸f).symm)else(wy (cB f) id).trans (cB<|c▸f).symm
  ·refine U (qu c)<|U (?_:(if k x.1=q .local then λy=>if y=x.1 then q x.2 else m y else m) id=m id) C
   exact if f:k x.1=q .local then(wy (cE f) id).trans (cB c)else wy (cB f) id
def amA{k:ah->ar oz}{l:G (ah×au)}:∀{m:ah->ar au},gY (l.map (·.1))=D->∀id,bindC k l m id=match l.lookup id with
  |q v=>if k id=q .local then m id else q v
  |z=>m id:=by
 induction l with
 |nil=>exact λ_ _=>C
 |cons x l ih=>
  intro m p id
  refine(ih (bh p).2 id).trans ?_
  by_cases c:id=x.1
  ·refine U (pj c)<|U (c▸Rw (bh p).1:l.lookup id=z) ?_
   exact if f:k x.1=q .local then(wy (cE f) id).trans (cE<|c▸f).symm else(wy (cB f) id).trans ((cE c).trans (cB<|c▸f).symm)
  ·refine U (qu c)<|U (?_:(if k x.1=q .local then m else λy=>if y=x.1 then q x.2 else m y) id=m id) C
   exact if f:k x.1=q .local then wy (cE f) id else(wy (cB f) id).trans (cB c)
def Rx{t:Type}:∀{n:aj}{l:G t}{id:ah}{i:aj},dk m id=q i->i<n->l.length=n->n<=m.length->((m.take n).zip l).lookup id=l[i]? :=by
 induction m with
 |nil=>exact λh _ _ _=>by injection h
 |cons x m ih=>
  intro n l id i h p r u;cases n with
  |zero=>exact absurd p<|Fw _
  |succ n=>
   cases l with
   |nil=>injection r
   |cons v l=>
    exact if c:(x==id)=D then(pj (bw.mp c).symm).trans (az (λi=>(v::l)[i]?)<|bH<|(cE c).symm.trans h)
     else av (iE.mp<|(cB c).symm.trans h) λf a b=>b▸(qu λe=>c<|bw.mpr e.symm).trans (ih a (Uw<|qB (cY b) p) (FI r)<|LJ u)
def amB:∀{n:aj}{id:ah},id∈f.take n->∃i,dk f id=q i/\i<n:=by induction f with|nil=>exact λh=>absurd (U6 h) gk|cons x f ih=>intro n id h;cases n with|zero=>exact absurd h gk|succ n=>exact if c:(x==id)=D then aT 0 (cE c) (Fj _)else(ih<|(i6.mp h).resolve_left λe=>c<|bw.mpr e.symm).elim λi g=>aT (i+1) ((cB c).trans<|az (ar.map (· +1)) g.1)<|LF g.2
def amC:∀{n:aj},gY l=D->gY (l.take n)=D:=by induction l with|nil=>exact λ{n} _=>by cases n<;>rfl|cons x l ih=>intro n h;cases n with|zero=>rfl|succ n=>exact zn (az not<|arN.mpr λe=>Ej (bh h).1 (U6<|fW.mp e) C)<|ih (bh h).2
def amD{id:ah}(e:dk l id=q i):l.contains id=D:=fW.mpr (by revert i;induction l with|nil=>exact λe=>by injection e|cons x r ih=>exact λe=>if c:(x==id)=D then bw.mp c▸ .head _ else av (iE.mp<|(cB c).symm.trans e) λf a _=>.tail _ (ih a))
def JJ:∀{n:aj}{p:G (ah×aw)}{id:ah},((id,ate)∈l\/(p.lookup id).isSome=D)->((cellsFrom n l p).lookup id).isSome=D:=by
 induction l with
 |nil=>exact λh=>h.elim (λh=>absurd h gk) id
 |cons x l ih=>
  intro n p id h;by_cases f:(x.2==ate)=D;·exact(az (λc=>(T0 id c).isSome)<|cE f).trans<|ih<|h.elim (λh=>(i6.mp h).elim (λe=>.inr (az Lu<|pj<|az sy e)) .inl) λh=>.inr (if m:id=x.1 then az Lu (pj m)else(az Lu<|qu m).trans h)
  ·exact(az (λc=>(T0 id c).isSome)<|cB f).trans<|ih<|h.imp (λh=>(i6.mp h).resolve_left λe=>f<|bw.mpr (az FL e).symm) _root_.id
def amE{l:G (ah×aw)}(m:l.Pairwise (λx y=>x.2≠y.2)){id f:ah}(h:l.lookup id=q c)(p:l.lookup f=q c):id=f:=name_of_addr m (mem_of_lookup h)<|mem_of_lookup p
def FX(f:Fr)(a:aw):Prop:=a=f.env.locals\/∃l,f.cx.sc.names.lookup l=q .cell/\f.env.cells.lookup l=q a
noncomputable def Ez(c:zg)(f:Fn)(l:G ah):ak:=
 c.closure.isEmpty&&(c.globals==la&&(c.builtins==builtinsNs&&(c.scope.kind== .function&&(!c.scope.isCoroutine&&(!c.scope.isGenerator&&(JI c.params&&(c.defaults== .none&&
 (c.params.args.map (·.arg)==l.take f.np&&(l.length==f.ns&&(gY l&&(aa (f.np<=f.ns)&&((l.take f.np).all (λx=>c.scope.names.lookup x==q .local||c.scope.names.lookup x==q .cell)&&
 (c.scope.names.all (λx=>x.2 != .free)&&(gY (c.scope.names.map (·.1))&& !l.contains ".0"))))))))))))))
structure JK(fd:zg)(fn:Fn)(nm:G ah):Prop where
 Ry:fd.closure.isEmpty=D
 xR:fd.globals=la
 AE:fd.builtins=builtinsNs
 kind:fd.scope.kind= .function
 co:fd.scope.isCoroutine=j
 Rz:fd.scope.isGenerator=j
 pp:JI fd.params=D
 df:fd.defaults= .none
 pn:fd.params.args.map (·.arg)=nm.take fn.np
 len:nm.length=fn.ns
 nd:gY nm=D
 le:fn.np<=fn.ns
 pk:∀x∈nm.take fn.np,fd.scope.names.lookup x=q .local\/fd.scope.names.lookup x=q .cell
 free:∀x∈fd.scope.names,x.2≠ .free
 ndn:gY (fd.scope.names.map (·.1))=D
 vm:nm.contains ".0"=j
def JL(h:Ez R Y Z=D):JK R Y Z:=have u:=bh h;have B:=bh u.2;have E:=bh B.2;have J:=bh E.2;have L:=bh J.2;have N:=bh L.2;have O:=bh N.2;have P:=bh O.2;have Q:=bh P.2;have c:=bh Q.2;have f:=bh c.2;have l:=bh f.2;have m:=bh l.2;have p:=bh m.2;have r:=bh p.2;⟨u.1,bw.mp B.1,bw.mp E.1,bw.mp J.1,mA L.1,mA N.1,O.1,bw.mp P.1,bw.mp Q.1,bw.mp c.1,f.1,dw l.1,λx t=>((oA _ _).mp<|fc.mp m.1 x t).imp bw.mp bw.mp,λx t=>py.mp<|fc.mp p.1 x t,r.1,mA r.2⟩
section
def dI.len:dI m w c p t->p.length=t.length:=dI.eF m w (P:=λl r=>l.length=r.length) C (λ_ _ _ _ _ _ f=>az (· +1) f) p
def dI.jx{i:aj}(h:dI m w c p t):p[i]? =q v->∃y,t[i]? =q y/\aP m w c v y:=dI.eF m w (P:=λl r=>∀i:aj,l[i]? =q v->∃y,r[i]? =q y/\aP m w c v y) (λ_ e=>by injection e) (λu x l r a _ f i=>by cases i with|zero=>exact λe=>aT x rfl<|bH e▸a|succ i=>exact f i) p h i
def EA{c:G V}(m:c.length=f)(e:(c.map q++bN (t-f) (z:ar V))[i]? =q (q v)):i<f/\c[i]? =q v:=by
 by_cases l:i<f;·rw[yV (U (bx ..)<|U m l),LU]at e;exact av (iE.mp e) λu p r=>⟨l,p.trans<|az q<|bH r⟩
 ·rw[yW (U (bx ..)<|U m<|Cd l),as9]at e;split at e<;>cases e
noncomputable def Fr.call(A:dY)(l:zg)(f:Fn)(m:G ah)(p:G V)(c:fX):Fr:=⟨A.deeper c,⟨l.scope,m⟩,c,p.map q++bN (f.ns-f.np) z⟩
def amF(J:JK x E B)(hv:Z.length=E.np)(hx:Z.all dU=D)(S:St u w h₁ c)(F:jw A c)(r:dI u w c Z P)(hc:InCallC c.s (gn x c.s.heap.objs.size N).locals (bindL (gn x c.s.heap.objs.size N).kindOf ((B.take E.np).zip P) λ_=>z) (gn x c.s.heap.objs.size N).cells
    (bindC (gn x c.s.heap.objs.size N).kindOf ((B.take E.np).zip P) λ_=>z) s'):
  ∃h Q,s'=(c.gr h Q).s/\Nx u w h₁ c (c.gr h Q)/\bY u w (Fr.call A x E B Z<|gn x c.s.heap.objs.size N) (c.gr h Q)/\∀a,FX (Fr.call A x E B Z<|gn x c.s.heap.objs.size N) a->c.h.get? a=z:=by
 have hy:P.length=E.np:=r.len.symm.trans hv
 have amG:(((B.take E.np).zip P).map (·.1))=B.take E.np:=atd<|U atf<|U hy<|aj.min_le_left _ _
 have JM:gY (((B.take E.np).zip P).map (·.1))=D:=by refine U amG ?_;exact amC J.nd
 obtain⟨⟨⟨h',Q,rfl⟩,dp,hkeep,hfresh⟩,hcell,amH,habove⟩:=hc
 have n1:=my (J:=Q) S hkeep
 have O:=lK c.s.heap
 have hw:=kS S O
 have q7:E.np<=B.length:=J.len▸J.le
 have RA:∀{i:aj}{v:V},Z[i]? =q v->∃y,P[i]? =q y/\aP u w (c.gr h' Q) v y:=λe=>(r.jx e).imp λy k=>⟨k.1,k.2.ay n1.ay⟩
 have JN:∀t a,(gn x c.s.heap.objs.size N).cells.lookup t=q a->c.h.get? a=z/\a≠c.s.heap.objs.size:=λt a e=>have h1:c.s.heap.objs.size<a:=habove t a<|mem_of_lookup e
  ⟨UV<|sq h1,Cj h1⟩
 refine(jE h' Q C n1 ⟨C,J.kind,J.xR,J.AE,?_,λi wd e=>?_,hw,(cN _ dp (λt R=>?_) λt i v a b e=>?_),λt R=>?_,λt id' a e e'=>amE amH e e',?_⟩ λa Y=>Y.elim (λe=>e▸O) λ⟨t,_,e⟩=>(JN t a e).1)
 ·cases e:dk B ".0" with
  |none=>exact e
  |some i=>injection(J.vm.symm.trans<|amD e)
 ·injection(fc.mp hx _<|zf (EA hv e).2)
 ·show bindL _ _ _ t=z
  refine U (Ey JM ..) ?_
  refine gT (((B.take E.np).zip P).lookup t) (λ_=>?_) λv e=>?_
  ·rfl
  ·exact av (amB (U7<|mem_of_lookup e).1) λi aW _=>(by injection((show dk B t=z from R).symm.trans aW))
 ·have k:=EA hv e
  refine(RA k.2).imp λy m=>⟨?_,m.2⟩
  refine U (Ey JM ..)<|U (Rx (show dk B t=q i from a) k.1 hy q7)<|U m.1 ?_
  exact cE b
 ·have R:x.scope.names.lookup t=q .cell:=R.resolve_right λh=>J.free _ (mem_of_lookup h) C
  have h1:((gn x c.s.heap.objs.size N).cells.lookup t).isSome=D:=JJ<|.inl<|mem_of_lookup R
  refine(B5.mp h1).elim λa' Y=>have hwc:=kS S (JN t a' Y).1;(fY a' _ (nB Y (hcell t a' Y) hwc<|(JN t a' Y).2) λi v a b=>?_)
  have k:=EA hv b
  refine(RA k.2).imp λy m=>⟨?_,m.2⟩
  refine U (amA JM ..)<|U (Rx (show dk B t=q i from a) k.1 hy q7)<|U m.1 ?_
  exact cB λp:x.scope.names.lookup t=q .local=>nomatch R.symm.trans p
 ·refine av F λl aX aV=>(aT (gn x c.s.heap.objs.size N::l) (az (ar.map _) aX:A.frames.map _=_) λenv he=>?_)
  rcases i6.mp he with rfl|he
  ·refine zp dp λo es ep e hd _=>?_
   refine⟨λp=>?_,(aT c.s.heap.objs.size C<|cN o e hw<|qN es ep hd)⟩
   exact(nomatch J.kind.symm.trans p)
  ·have k:=aV env he
   exact⟨k.1,k.2.imp λL k=>⟨k.1,k.2.cL n1.ay (λ_ _ h=>h) λ_ _ _ _ h=>h⟩⟩
end
section
variable{A:dY}{u:aw->Prop}{m:fX}{T a:aw}
def RB(c:Cf)(l:bt)(u:aw->Prop):Prop:=∀b o,¬u b->c.h.get? b=q o->∃f,l.get? b=q {o with slots:=f}/\((∀p r,o.data≠ .dict p r)->f=o.slots)/\(c.W b≠z->f=o.slots)
def amI(S:St p w x c)(B:∀a,u a->c.W a=z)(E:RB c J u):cv p w u x c (c.lo J N c.W):=
 have k:∀a o r,c.W a=q r->c.h.get? a=q o->J.get? a=q o:=λa o r f e=>(E a o (λl=>nomatch f.symm.trans<|B a l) e).elim λL l=>by obtain rfl:=l.2.2 λt=>nomatch f.symm.trans t;exact l.1
 have T:mr u c (c.lo J N c.W):=⟨λa o r e f _=>⟨k a o r f e,f⟩,λa o e f n=>⟨f,(E a o n e).imp λL l=>⟨l.1,l.2.1⟩⟩,λ_ _=>C,λ_ _=>C,bR _,bR _,λa o e n=>(E a o n e).elim λL l=>⟨_,l.1⟩⟩;⟨{
  base:=λa o e=>have f:=S.base a o e;⟨f.1,k a o _ f.1 f.2⟩
  role:=λa r e=>have f:=S.role a r e;⟨by cases r<;>exact f.1,f.2.imp λo=>k a o r e⟩
  fl:=λn o e f=>have l:=S.fl n o e f;⟨l.1,l.2.bz T.b λo=>k _ o _ l.1⟩
  ins:=λn O P e=>have l:=S.ins n O P e;⟨l.1,l.2.1,k _ _ _ l.1 l.2.2.1,l.2.2.2.1.imp λ_ h=>h.imp λ_ h=>⟨k _ _ _ l.2.1 h.1,h.2.1,h.2.2.pg T l.2.2.2.2.2⟩,l.2.2.2.2⟩},T,C,C⟩
def amJ(p:bt)(c:Cf)(e:aw)(f:eD au):ar au->Prop|none=>f[1]? =q .none|some r=>∃T l,f[1]? =q (.ref T)/\T≠e/\iY c (λo=>o.data= .fields l) T/\l[3]? =q r/\p.get? T=z
def gZ(l:bt)(c:Cf)(e:aw)(p:ah)(x:ar au):Prop:=∃f r,iY c (λo=>o.data= .fields f) e/\f[0]? =q r/\l.get? e=z/\rG c e p/\amJ l c e f x
def EB(m:fX)(x:ar au):Prop:=x=z\/x=q .none\/∃L,m.frame=q L/\x=q (rawInt L)
def RC(o:dy)(f):(o.mapFields f).dict=o.dict:=by obtain⟨c,d,l,p⟩:=o;cases l<;>rfl
def jw.fun(F:∀m∈l,Pl c m):∀(p:G aw),(∀m∈l,∀L,m.frame=q L->L∈p)->c.h.FunFrames (hideAll c.h p) l:=by intro p;induction l with|nil=>intro _;trivial|cons m l ih=>exact λB=>fH (F m<|.head _) λf J=>av J λL E r=>cP r λo N P t=>dZ t λQ R O=>(cr f (jE L o E (hideAll_none p<|B m (.head _) L E) N (λY e=>(by injection(O.symm.trans e))))<|ih (λe x=>F e<|.tail _ x) λe x=>B e<|.tail _ x)
def amM{L:aw}(lU:A.frames=q (m::oo))(F:jw A c)(hf:m.frame=q L)(he:c.h.get? e=q oe)(hd:oe.data= .fields vs)(hsz:1<vs.size)(f:∀h' T B P,c.h.get? T=z->T≠e->h'.get? e=q (oe.mapFields (·.setIfInBounds 1 (.ref T)))->h'.get? T=q B->B.data= .fields P->P[3]? =q (rawInt L)->RB c h' (· =e)->Q jX.unit {c.s with heap:=h'}):aH (ax prog w) A (do let a<-frameOf m;let pl<-entryPlaceOf L amN;let b<-atg head a .none (rawInt L) .none pl;setField (.ref e) 1 b) Q E c.s:=by
 refine av F λl hl fr=>?_;obtain rfl:=bH<|lU.symm.trans hl;have frl:=jw.fun fr ((m::oo).filterMap (·.frame)) λJO kX L' JP=>ath.mpr<|aT JO kX JP;have JQ:∀b∈(m::oo).filterMap (·.frame),iY c Ig b:=λb R=>av (ath.mp R) λJO h1 h2=>(fr JO h1).2.elim λL' k=>bH (k.1.symm.trans h2)▸k.2;have amO:e∉(m::oo).filterMap (·.frame):=λY=>cP (JQ e Y) λo aW _ dS=>dZ dS λes ep k'=>by obtain rfl:=bH<|he.symm.trans aW;injection(hd.symm.trans k')
 refine aL<|wpAny_frameOf_fun lU frl hf λr qt=>aL<|wpAny_entryPlaceOf λpl Z=>aL<|atc ?_<|Z.sizeOk5 _ _ _ _ _;generalize hOT:({cls:=.type "traceback",dict:=z,data:=.fields ([head,.ref L,.none,rawInt L,.none]++(if pl.isEmpty then bN 6 au.none else pl)).toArray}:dy)=B;have hoT:B.isFreed=j/\∃P,B.data= .fields P/\P[3]? =q (rawInt L):=by subst hOT;exact⟨C,(aT _ rfl (by first|(rfl;done)|(rcases Z with rfl|⟨_,_,_,_,_,_,_,rfl⟩<;>rfl)))⟩
 refine fH hoT λhoF fB=>av fB λP kL amS=>?_;have RD:r.get? e=q oe:=(qt.2.1 e amO).trans he;have t:=jp (h:=r) B RD;have rQ:r.objs.size≠e:=Cj<|hR RD;have J:=zh hd (·.setIfInBounds 1 (hG r.objs.size));have N:=qL (sC (·.setIfInBounds 1 (hG r.objs.size))) t<|LV J;have O:=(zi (r.push B) (sC (·.setIfInBounds 1 (hG r.objs.size)))<|Ne.symm rQ).trans<|jq r hoF;have hTn:c.h.get? r.objs.size=z:=by refine U qt.1 ?_;exact lK _
 refine LW t hd hsz<|f _ _ _ _ hTn rQ N O kL amS λb o hbe R=>?_;obtain⟨sl,hs⟩:=qt.2.2 b o R;exact have x:b∉(m::oo).filterMap (·.frame)->sl=o.slots:=λhbn=>az dy.slots (bH<|hs.symm.trans<|(qt.2.1 b hbn).trans R);(cN sl (U (zi _ _<|Ne.symm hbe)<|jp _ hs) (λyu=>x λY=>cP (JQ b Y) λo' aW _ dS=>dZ dS λes ep k'=>yu es ep<|bH (aW.symm.trans R)▸k') λhw=>x λY=>cP (JQ b Y) λo' _ a_ _=>hw a_)
def tN(f:bt)(c:Cf)(a:aw):Prop:=f.get? a=z/\c.W a=z
def yv(f:bt)(c:Cf):Prop:=∀a o,f.get? a=q o->∃l,c.h.get? a=q l
theorem yv.none(d:yv l c)(h:c.h.get? a=z):l.get? a=z:=by cases f:l.get? a with|none=>rfl|some o=>exact(d a o f).elim λo e=>nomatch h.symm.trans e
def RE(lU:A.frames=q (m::oo))(F:jw A c)(hf:m.frame=q L)(S:St p w r c)(he:iY c (λo=>o.data= .fields J) e)(h0:J[0]? =q a0)(x:1<J.size)(hn:B.get? e=z)(hh:yv B c)(hx:rG c e wd)(f:∀h,cv p w (tN B c) r c (c.lo h c.s.toks c.W)->gZ B (c.lo h c.s.toks c.W) e wd (q<|rawInt L)->Q jX.unit (c.lo h c.s.toks c.W).s):aH (ax p w) A (do let a<-frameOf m;let pl<-entryPlaceOf L amN;let b<-atg head a .none (rawInt L) .none pl;setField (.ref e) 1 b) Q E c.s:=
 cP he λoe N _ O=>amM lU F hf N O x λh' T oT ts hT rQ e1 e2 e3 e4 kp=>av hx λP Eo Ep=>nD Eo λnu eU R jT kU rO=>Ep.elim λod l=>by
  obtain rfl:=bH<|N.symm.trans eU;have Y:=kS S hT;have n1:=amI (N:=c.s.toks) (u:=tN B c) S (λa l=>l.2) λb o nb e'=>kp b o (λl=>nb<|l▸⟨hn,R⟩) e';have Z:P≠e:=λt=>by clear Eo Ep he hx N;subst t;obtain rfl:=bH<|l.1.symm.trans eU;exact rO.elim λJ v=>l.2.2.2.elim λkvs t=>dZ t λt' es t=>av t λep gR _=>nomatch v.symm.trans gR
  exact av (kp P od Z l.1) λsl f_0 _=>f h' n1<|um _ a0 (cN _ e1 R<|zh O _) ((asj {}).trans h0) hn (aT P (wC _ e1 R ((ati _ _).trans jT) ((RC _ _).trans kU) ⟨_,(zh O _)⟩)<|cN _ f_0 l.2.1 l.2.2)<|um T ts (by simp[x]) rQ (cN oT e2 Y e3) e4<|hh.none hT
def RF(S:St l w p c)(t:iY c (λo=>o.data= .fields J) T)(x:r.get? T=z)(g:dy->dy):cv l w (tN r c) p c (c.lo (c.h.update T g) c.s.toks c.W):=IR S (λa f=>f.2) λb o B e=>(zi _ _ λf:T=b=>B<|f▸(⟨x,cP t λ_ _ E _=>E⟩:tN r c T)).trans e
def Bs(f:iY c (λo=>o.data= .fields l) T)(h:iY c p b)(n:b≠T):iY (c.lo (c.h.update T g) c.s.toks c.W) p b:=h.imp λo k=>⟨(zi _ _<|Ne.symm n).trans k.1,k.2⟩
def RG(l:iY c (λo=>o.data= .fields J) T)(ne:T≠e)(h:rG c e r):rG (c.lo (c.h.update T g) c.s.toks c.W) e r:=h.imp λL h=>⟨Bs l h.1<|Ne.symm ne,Bs l h.2 λf=>by clear ne;subst f;exact cP l λo t _ x=>h.2.elim λN p=>by obtain rfl:=bH<|t.symm.trans p.1;exact FR p.2.2.2 λB O P Q E _=>nomatch x.symm.trans E⟩
def JT(lU:A.frames=q (m::oo))(F:jw A c)(N:m.frame=q L)(S:St p w t c)(hx:EB m x)(hy:gZ R c e wd x)(hh:yv R c)(f:∀h,cv p w (tN R c) t c (c.lo h c.s.toks c.W)->gZ R (c.lo h c.s.toks c.W) e wd (q<|rawInt L)->Q jX.unit (c.lo h c.s.toks c.W).s):aH (ax p w) A (noteFrame (.ref e) m) Q E c.s:=
 hy.elim λvs y=>nD y λa0 Y mz yj yk Z=>cP Y λoe Bt _ Bu=>by
  delta noteFrame;simp only[N];rcases hx with rfl|rfl|⟨L',JP,rfl⟩
  ·exact have y6:vs[1]? =q .none:=Z;aL (wz Bt Bu y6<|wq C<|RE lU F N S Y mz (za.mp y6).1 yj hh yk f)
  ·exact Z.elim λT l=>nD l λts O bG r P rX=>cP r λoT B _ J=>by refine aL<|wz Bt Bu O<|wr C<|aL<|wz B J P<|wq C<|aL<|LW B J (za.mp P).1 ?_;have n1:=RF S r rX<|sC (·.setIfInBounds 3 au.none);refine RE (c:=c.lo (c.h.update T<|sC (·.setIfInBounds 3 au.none)) c.s.toks c.W) lU (F.cL λL' k=>Bs r k λf=>by subst f;exact cP k λo aW _ dS=>by obtain rfl:=bH<|B.symm.trans aW;exact dZ dS λes ep k=>(by injection(J.symm.trans k))) N n1.st (Bs r Y<|Ne.symm bG) mz (za.mp O).1 yj (λa o ha=>?_) (RG r bG yk) λh n2=>f h<|n1.trans n2;exact(hh a o ha).imp λo' eo=>(zi _ _ λf=>by subst f;exact nomatch rX.symm.trans ha).trans eo
  ·clear y;obtain rfl:=bH<|N.symm.trans JP;exact Z.elim λT l=>nD l λts O _ r P _=>cP r λoT B _ J=>aL<|wz Bt Bu O<|wr C<|aL<|wz B J P<|wr (show(rawInt L==rawInt L)=D from by simp)<|bu<|f c.h (.refl S) hy
def JU(S:St r w t c)(Z:gZ L c e wd (q fl))(l:∀h,cv r w (tN L c) t c (c.lo h c.s.toks c.W)->gZ L (c.lo h c.s.toks c.W) e wd (q<|fr.elim au.none λf=>rawInt f)->Q jX.unit (c.lo h c.s.toks c.W).s):aH (ax r w) A (setFlight (.ref e) fr) Q E c.s:=Z.elim λvs y=>nD y λa0 N mz yj yk vG=>cP N λoe Bt _ Bu=>vG.elim λT p=>nD p λts O B x jQ P=>cP x λoT R nl J=>have Y:3<ts.size:=(za.mp jQ).1;aL (wz Bt Bu O<|wr C<|LW R J Y<|l _ (RF S x P _)<|um vs a0 (Bs x N<|Ne.symm B) mz yj (RG x B yk)<|um T _ O B (cN _ (qL _ R<|LV<|zh J _) nl<|zh J _) (by simp[Y]) P)
end
structure pu(fl E:G FObj)(u:G aj):Prop where
 len:E.length=u.length
 jx:∀(i n:aj),u[i]? =q n->∃o,fl[n]? =q o/\E[i]? =q o
 nd:u.Nodup
def RI(u:G aj)(a v:V):Prop:=(∃f,a= .fz f/\v= .fz f)\/∃n i:aj,a= .ref n/\v= .ref i/\u[i]? =q n
def EC(u:G aj):G V->G V->Prop|[],f=>f=[]|a::l,f=>∃v r,f=v::r/\RI u a v/\EC u l r
def JV{f:Type}{l m:G f}{i:aj}{x:f}(h:l[i]? =q x):(l++m)[i]? =q x:=(yV<|fC h).trans h
def pu.GP{l E:G FObj}(p:pu l E u)(t:l[n]? =q o)(x:n∉u):pu l (E++[o]) (u++[n]):=
 ⟨jh.trans<|(az (· +1) p.len).trans jh.symm,λi m r=>(FH i u.length).elim (λf=>(p.jx i m<|(DR f).symm.trans r).imp λo k=>⟨k.1,JV k.2⟩) λf=>have s:=AH f r
  aT o (s.2▸t) (s.1▸p.len▸Bo),asw.mpr ⟨p.nd,qK.mpr ⟨gk,.nil⟩,λa L b O e=>x<|sA.mp O▸e▸L⟩⟩
def JW:∀{E:G FObj}{u:G aj}{r:G V×G FObj×G aj},wO t L E u=q r->pu t E u->pu t r.2.1 r.2.2/\EC r.2.2 L r.1/\(∃l,r.2.2=u++l)/\r.1.all dU=D:=by
 induction L with
 |nil=>exact λe p=>bH e▸⟨p,C,⟨[],(bK _).symm⟩,C⟩
 |cons a L ih=>
  intro E u r e p;cases a with
  |fz f=>exact av (iE.mp e) λy h k=>k▸(have g:=ih h p;nB g.1 (bV _ _ rfl (.inl<|aT f C rfl) g.2.1) g.2.2.1 g.2.2.2)
  |ref n=>
   revert e;exact bX (P:=λb=>(match b with|D=>z|j=>t[n]?.bind λo=>(wO t L (E++[o])<|u++[n]).map λx=>(V.ref u.length::x.1,x.2))=q r->_) (u.contains n) (λ_ e=>by injection e) λO e=>av (jr.mp e) λo P e=>av (iE.mp e) λy h k=>k▸(have g:=ih h<|p.GP P λm=>su<|O.symm.trans<|fW.mpr m
    nB g.1 (bV _ _ rfl (.inr<|bV n u.length C rfl<|g.2.2.1.elim λl e=>e▸JV Bo) g.2.1) (g.2.2.1.elim λl e=>⟨n::l,e.trans<|cZ _ _ _⟩) g.2.2.2)
  |_=>injection e
theorem JX:∀{u:G aj}{E l:G FObj},u.length<=E.length->(pG u E l)[m]? =q x->(∃i:aj,u[i]? =q m/\E[i]? =q x)\/(l[m]? =q x/\m∉u)|[],_,_,_,e=>.inr ⟨e,(by simp)⟩|n::u,[],_,h,_=>(by contradiction)|n::u,o::E,l,h,e=>(JX (u:=u) (E:=E) (l:=l.set n o) (LJ h) e).elim (λk=>.inl (k.elim λi k=>⟨i+1,k⟩)) λk=>(rJ k.1).elim (λf=>.inl (aT 0 (az q f.1.symm)<|az q f.2.symm)) λf=>.inr ⟨f.2,λt=>(i6.mp t).elim f.1 k.2⟩
theorem vR:∀{u:G aj}{E f:G FObj},(pG u E f).length=f.length|[],_,_=>rfl|_::_,[],_=>rfl|_::u,_::E,_=>(vR (u:=u) (E:=E)).trans wo
noncomputable def place:G aj->aj->ar aj|[],_=>z|x::r,n=>if x=n then q 0 else(place r n).map (· +1)
def RJ:∀{i:aj},place u n=q i->u[i]? =q n:=by induction u with|nil=>exact λe=>by injection e|cons x r ih=>exact λe=>if f:x=n then bH ((cE f).symm.trans e)▸az q f else av (iE.mp<|(cB f).symm.trans e) λl a b=>b▸ih a
def amY:∀{i:aj},u.Nodup->u[i]? =q n->place u n=q i:=by induction u with|nil=>exact λ_ e=>by injection e|cons x r ih=>intro i h;have h:=qK.mp h;cases i with|zero=>exact λe=>cE<|bH e|succ i=>exact λe=>(cB λf:x=n=>h.1<|f▸zf e).trans<|az (ar.map (· +1))<|ih h.2 e
def amZ(h:n∉u):place u n=z:=by
 refine gT (place u n) (λ_=>?_) λi f=>?_;·rfl
 ·exact absurd (zf<|RJ f) h
noncomputable def tO(u:G aj):dO->dO
 | .fz=>.fz
 | .hd n=>match place u n with|q i=>.hd i|z=>.cL
 |_=>.cL
noncomputable def Cf.view(c:Cf)(E:G FObj)(u:G aj):Cf:=⟨c.s,λa=>(c.W a).map<|tO u,λi=>c.H<|u.getD i 0,c.I,⟨E,[]⟩⟩
noncomputable def JY(f:aj->ar aj)(l:ar dO):dO->ar dO| .fz=>q .fz| .hd i=>(f i).map .hd| .cL=>l|_=>z
noncomputable def Cf.back(c N:Cf)(f:aj->ar aj)(H:aj->aw)(L:G FObj):Cf:=⟨N.s,λa=>(N.W a).bind<|JY f<|c.W a,H,c.I,⟨L,[]⟩⟩
section
variable{B:cA}{w:b9}{J:bt}{c N:Cf}{E:G FObj}{u:G aj}
def am0(h:tO u r= .hd i):∃n,r= .hd n/\u[i]? =q n:=by cases r with|hd n=>exact gT (P:=λo=>(match o with|q i=>dO.hd i|z=>dO.cL)= .hd i->_) (place u n) (λ_ h=>by injection h) (λf l h=>aT n C<|RJ<|l.trans<|az q (by injection h)) h|_=>injection h
def RK:tO u r≠ .ih n/\tO u r≠ .id n:=by cases r with|hd m=>exact oc (P:=λo=>(match o with|q i=>dO.hd i|z=>dO.cL)≠ .ih n/\(match o with|q i=>dO.hd i|z=>dO.cL)≠ .id n) (place u m) ⟨λe=>by injection e,λe=>by injection e⟩ λ_=>⟨λe=>by injection e,λe=>by injection e⟩|_=>exact⟨(λh=>by injection h),(λh=>by injection h)⟩
def am1(h:c.W a=q (.hd n)):(c.view E u).W a=q (match place u n with|q i=>.hd i|z=>.cL):=by show(c.W a).map _=_;exact U h C
def RL(e:c.b a=q o):(c.view E u).b a=q o:=have f:=mq e;kN (by show(c.W a).map _=_;exact U f.1 C) f.2
def Bw(h:u[i]? =q n):u.getD i 0=n:=by refine U (Ux)<|U h ?_;rfl
def am2(S:St B w J c)(p:pu c.M.fl E u)(f:c.W a=q m)(e:tO u m=r):xQ (c.view E u) a r:=by
 cases r with
 |fz=>trivial
 |cL=>trivial
 |hd i=>
  exact av (am0 e) λn t l=>have k:=S.role a _<|f.trans<|az q t
  ⟨k.1.1.trans<|az c.H (Bw l).symm,p.len▸fC l⟩
 |ih n=>exact absurd e RK.1
 |id n=>exact absurd e RK.2
def JZ(S:St B w J c)(p:pu c.M.fl E u):St B w J (c.view E u) where
 base:=λa o e=>have f:=S.base a o e;⟨by show(c.W a).map _=_;calc U f.1;rfl,f.2⟩
 role:=λa r e=>(iE.mp e).elim λt k=>⟨am2 S p k.1 k.2,(S.role a t k.1).2⟩
 fl:=λi o e f=>by refine have m:i<u.length:=p.len▸fC e;have l:=p.jx i u[i] (ub m);l.elim λO l=>?_;obtain rfl:=bH<|e.symm.trans l.2;exact have L:=S.fl _ _ l.1 f;have x:(c.view E u).H i=c.H u[i]:=az c.H<|Bw<|ub m;U x ⟨(am1 L.1).trans<|U (amY p.nd<|ub m) C,L.2.bz (λ_ _=>RL) λ_=>id⟩
 ins:=λn P Q e=>(by injection e)
def am3(p:pu c.M.fl E u)(h:RI u a v)(r:aP B w c a y):aP B w (c.view E u) v y:=
 h.elim (λh=>av h λf a b=>b▸bD.bz (λ_ _=>RL) f (show aP B w c (.fz f) y from a▸r)) λh=>dh h λn i a b k=>b▸(have r:aP B w c (.ref n) y:=a▸r
  ⟨r.1.trans<|az hG<|az c.H (Bw k).symm,p.len▸fC k⟩)
def J0(p:pu c.M.fl E u)(h:EC u t m)(r:dI B w c t x):dI B w (c.view E u) m x:=dI.eF B w (P:=λt x=>∀m,EC u t m->dI B w (c.view E u) m x) (λ_ h=>U h C) (λa y t x L _ ih m h=>dh h λv r f k l=>U f<|bV y _ rfl (am3 p k L)<|ih r l) t r m h
def RN(S:St B w J c)(Y:c.M.ins=[])(O:Nx B w J (c.view E u) N){x:aj->ar aj}{L:G FObj}{H:aj->aw}(Z:∀i m,x i=q m->m<L.length/\H m=N.H i)(hH:∀m,m<c.M.fl.length->H m=c.H m)(hl:c.M.fl.length<=L.length)(hL:∀m o,L[m]? =q o->xP o=j->(∃i,x i=q m/\N.M.fl[i]? =q o)\/(c.M.fl[m]? =q o/\m∉u)):Nx B w J c (c.back N x H L)/\∀a o,N.b a=q o->(c.back N x H L).b a=q o:=by
 have Q:∀{a r},N.W a=q r->(c.back N x H L).W a=JY x (c.W a) r:=λ{a r} e=>by show(N.W a).bind _=_;calc U e;rfl
 have bb:∀a o,N.b a=q o->(c.back N x H L).b a=q o:=λa o e=>have f:=mq e
 kN (Q f.1) f.2
 have kp:∀{a o r},c.h.get? a=q o->c.W a=q r->tO u r= .cL->N.h.get? a=q o/\(c.back N x H L).W a=q r:=λ{a o r} e t v=>have f:=O.ay.kfz a o .cL e (by show(c.W a).map _=_;exact U t<|az q v) C
 ⟨f.1,(Q f.2).trans t⟩
 have T:tz c (c.back N x H L):=⟨λa o r e t h=>by
   cases r with|fz=>exact have f:=O.ay.kfz a o .fz e (by show(c.W a).map _=_;exact U t C) C;⟨f.1,Q f.2⟩|cL=>exact kp e t C|_=>exact bZ h,
  λa o e t n=>have f:=O.ay.knone a o e (by show(c.W a).map _=_;exact U t C) n;⟨by show(N.W a).bind _=_;calc U f.1;rfl,f.2⟩,λn l=>hH n l,λ_ _=>C,hl,(U Y<|cD _),λa o e n=>O.ay.dom a o e n⟩
 refine⟨⟨{
      base:=λa o e=>have t:=S.base a o e;(T.kfz a o .fz t.2 t.1 C).symm
      role:=λa r e=>(jr.mp e).elim λr2 k=>⟨?_,(O.st.role a r2 k.1).2⟩
      fl:=λm o e t=>(hL m o e t).elim (λf=>f.elim λi f=>?_) λf=>?_
      ins:=λn cl fs e=>(by injection e)},T,O.gens,O.os⟩,bb⟩
 ·have t:=(O.st.role a r2 k.1).1
  have R:JY x (c.W a) r2=q r:=k.2;cases r2 with
  |fz=>clear e;obtain rfl:=bH R;trivial
  |hd i=>exact av (iE.mp R) λm gR nl=>by obtain rfl:=nl;exact⟨t.1.trans (Z i m gR).2.symm,(Z i m gR).1⟩
  |cL=>have p:=(S.role a r R).1;clear e;cases r with|fz=>trivial|cL=>trivial|hd m=>exact⟨p.1.trans (hH m p.2).symm,iD p.2 hl⟩|ih m=>have P:=p.2;rw[Y]at P;exact nomatch P|id m=>have P:=p.2;rw[Y]at P;exact nomatch P
  |_=>injection R
 ·have y:=O.st.fl i o f.2 t;have hm:=(Z i m f.1).2;show(c.back N x H L).W (H m)=_/\m9 B w _ _ (H m) o;exact U hm ⟨(Q y.1).trans (by show(x i).map _=_;exact U f.1 C),y.2.bz bb λ_=>id⟩
 ·have y:=S.fl m o f.1 t
  have hm:=hH m<|fC f.1;have hv:tO u (.hd m)= .cL:=by show(match place u m with|q i=>dO.hd i|z=>.cL)=_;exact U (amZ f.2) C
  show(c.back N x H L).W (H m)=_/\m9 B w _ _ (H m) o;exact U hm ⟨(S.role _ _ y.1).2.elim λo' k=>(kp k y.1 hv).2,y.2.bz T.b λo' k=>(kp k y.1 hv).1⟩
end
def jl(ρ:Rho):Prop:=∀(i:aj) Y,ρ[i]? ≠q (q<|V.exc Y)
section
variable{B:cA}{w:b9}{J:bt}{K:cH}{O:G (ah×F)}{m mb:ah->ar au}{E:Fns}{d:aj}{Q:Cx}{c l N R:Cf}{A:dY}{f:Fr}{X:aw->Prop}{P:aw}{L:G Mine.X}{u:G aN}{Z:ah}{p p':eZ}{r:G FObj}{t:G aj}{x:ar au}
def bY.move(Y:bY B w f c)(x:fG X k ki c N)(ex:∀(i:aj)(wd:ah),ρ[i]? =q (q<|V.exc wd)->dk f.cx.nm "word"=z)(rv:∀{i:aj}{v:V},ρ[i]? =q (q v)->∃z0,f.ρ[i]? =q (q z0)/\∀y,aP B w c z0 y->aP B w N v y)(n1:¬X f.env.locals)(n2:∀Z a,(f.cx.sc.names.lookup Z=q .cell\/f.cx.sc.names.lookup Z=q .free)->f.env.cells.lookup Z=q a->¬X a)(n3:∀ze,f.A.frames=q ze->∀env∈ze,∀zl,env.frame=q zl->¬X zl):bY B w ⟨f.A,f.cx,f.env,ρ⟩ N:=
 {Y with
  exc:=ex
  wL:=av Y.ns λ_ aX _=>av (tA aX) λo ir _=>(x.knone _ o ir Y.wL n1).1
  ns:=Y.ns.imp λzw h=>(cr (av (tA h.1) λo ir _=>Ib h.1 λ_ e'=>bH (ir.symm.trans e')▸(x.knone _ o ir Y.wL n1).2.imp λ_ h=>h.1) h.2.1 λZ i v a b e=>av (rv e) λz0 aW a_=>(h.2.2 Z i z0 a b aW).imp λ_ h=>⟨h.1,a_ _ h.2⟩)
  cells:=λZ zx=>(Y.cells Z zx).imp λa h=>h.imp λz0 h=>⟨av h.1.2.1 λo ir _=>have zB:=x.knone a o ir h.1.2.2.1<|n2 Z a zx h.1.1;(nB h.1.1 (Pm h.1.2.1 λ_ e'=>bH (ir.symm.trans e')▸zB.2.imp λ_ h=>h.1) zB.1 h.1.2.2.2),λi v a b=>av (rv b) λz0 aW a_=>(h.2 i z0 a aW).imp λ_ h=>⟨h.1,a_ _ h.2⟩⟩
  fr:=Y.fr.imp λze h=>⟨h.1,λe he=>⟨(h.2 e he).1,(h.2 e he).2.imp λzl k=>⟨k.1,k.2.cL x (λ_ _ h=>h) λ_ _ _ _=>n3 ze h.1 e he zl k.1⟩⟩⟩}
def bY.am4(Y:bY B w f c)(x:mr X c N)(hn:jl f.ρ)(n1:¬X f.env.locals)(n2:∀Z a,(f.cx.sc.names.lookup Z=q .cell\/f.cx.sc.names.lookup Z=q .free)->f.env.cells.lookup Z=q a->¬X a)(n3:∀z0,f.A.frames=q z0->∀env∈z0,∀ze,env.frame=q ze->¬X ze):bY B w f N:=Y.move x Y.exc (λ{i v} e=>(aT v e (λy zl=>zl.pg x (by clear zl;cases v with|exc wd=>exact absurd e<|hn i wd|_=>rfl)))) n1 n2 n3
def bY.new{f0:Fr}(O0:bY B w f0 l)(Y:bY B w f c)(hA:f0.A=f.A)(he:f0.env=f.env)(hx:f0.cx=f.cx)(x:mr X c N)(hn:jl f.ρ)(hX:∀a,X a->l.h.get? a=z):bY B w f N:=
 Y.am4 x hn (λz0=>av O0.ns λ_ aX _=>(tA aX).elim λo e=>nomatch (hX _<|he▸z0).symm.trans e.1)
  (λZ a ze e z0=>cq (O0.cells Z<|hx▸ze) λa' zl aX _=>aX.2.1.elim λo k=>nomatch (hX a z0).symm.trans<|show l.h.get? a=q o from bH (aX.1.symm.trans<|he▸e)▸k.1)
  λzw hl env he zx hL z0=>av O0.fr λl' aX aV=>(aV env<|bH (aX.symm.trans<|hA▸hl)▸he).2.elim λL' k=>k.2.elim λo zB=>nomatch (hX zx z0).symm.trans<|show l.h.get? zx=q o from bH (k.1.symm.trans hL)▸zB.1
def J2(Y:bY B w f c)(h:FX f a):∃o,c.h.get? a=q o:=h.elim (λe=>e▸av Y.ns λ_ aX _=>(tA aX).imp λ_ e=>e.1) λh=>av h λZ aX aV=>cq (Y.cells Z<|.inl aX) λa' z0 aW _=>bH (aW.1.symm.trans aV)▸aW.2.1.imp λ_ e=>e.1
def gZ.back(y:gZ d9 c e wd x)(hh:∀a,d9.get? a=z->oi.get? a=z):gZ oi c e wd x:=y.imp λvs y=>y.imp λa0 y=>(wB y.1 y.2.1 (hh _ y.2.2.1) y.2.2.2.1 (by have Y:=y.2.2.2.2;clear y;clear y;clear y;cases x with|none=>exact Y|some fl=>exact Y.imp λT z0=>z0.imp λts z0=>(wB z0.1 z0.2.1 z0.2.2.1 z0.2.2.2.1<|hh _ z0.2.2.2.2)))
def iY.as{p:dy->Prop}(h:iY c p a)(Y:N.h=c.h)(hW:c.W a=z->N.W a=z):iY N p a:=h.imp λo k=>(cr (Y▸k.1) (hW k.2.1) k.2.2)
def gZ.as(y:gZ d9 c e wd x)(hh:N.h=c.h)(hW:∀a,c.W a=z->N.W a=z):gZ d9 N e wd x:=y.imp λvs y=>y.imp λa0 y=>(wB (y.1.as hh<|hW _) y.2.1 y.2.2.1 (y.2.2.2.1.imp λ_ k=>⟨k.1.as hh<|hW _,k.2.as hh<|hW _⟩) (by have Y:=y.2.2.2.2;clear y;clear y;clear y;cases x with|none=>exact Y|some fl=>exact Y.imp λT z0=>z0.imp λts z0=>(nB z0.1 z0.2.1 (z0.2.2.1.as hh<|hW _) z0.2.2.2)))
variable(B w J)in
def Bx(E:Fns)(d:aj):Prop:=∀(P:aw)(vs:G V)(fl:G FObj)(Y:bL->Mem->Prop),E.call P vs fl Y->vs.all dU=D->∀(A:dY)(c:Cf)(ys:G au)(z0 ze:au->a8->Prop),eT A d->jw A c->St B w J c->c.M=⟨fl,[]⟩->dI B w c vs ys->(∀v y N,Y (.ret v) N.M->Nx B w J c N->aP B w N v y->z0 y N.s)->(∀wd e N,Y (.exc wd) N.M->Nx B w J c N->gZ c.h N e wd (q .none)->ze (.ref e) N.s)->aH (ax B w) A (call (.ref P) ys) z0 ze c.s
def By(Y:Su B w J K O m mb)(hk:keepIn K (.ref P)=D):∀N,St B w J N->A5 B w N.h (.ref P):=λN S=>keeps_K hk N.h<|Y.in S
abbrev Cf.ret(c R:Cf)(t:G aj)(Y:G FObj):Cf:=c.back R (λi=>t[i]?) c.H<|pG t Y c.M.fl
def J3{Y:Mem}(S:St B w J c)(hi:c.M.ins=[])(p:pu c.M.fl r t)(n2:Nx B w J (c.view r t) R)(hM:R.M=Y):Nx B w J c (c.ret R t Y.fl)/\∀a o,R.b a=q o->(c.ret R t Y.fl).b a=q o:=by subst hM;exact have hl:t.length<=R.M.fl.length:=p.len▸n2.ay.flen;have J4:∀{i z0:aj},t[i]? =q z0->R.H i=c.H z0:=λe=>(n2.ay.H _<|p.len▸fC e).trans (az c.H<|Bw e);RN S hi n2 (λi z0 e=>⟨jD (av (p.jx i z0 e) λo aW _=>fC aW) vR.symm,(J4 e).symm⟩) (λ_ _=>C) (cY vR.symm) λz0 o e _=>JX hl e
def jw.view(F:jw A c):jw A (c.view r t):=F.cL λa h=>iY.as (c:=c) (N:=c.view r t) h C λe=>az (ar.map<|tO t) e
def J5:pu Y [] []:=⟨C,(by intros;contradiction),Lz⟩
def J6{Y:Mem}(h:Y.ins.isEmpty=D):Y.ins=[]:=pz.mp h
def am5(Y:Su B w J K O m mb)(FO:Bx B w J E d)(hk:keepIn K (.ref P)=D)(hf:i4 K Q Z (q<|.ref P)=D)(h:jS B w J E d Q L u):ed B w J E d Q (.call P L) (.Call (.Name Z p') u [] p):=iZ (λf c z0 ze zl hc zw hw zx=>qr h hc zw hw (λQ'=>Y.yg zw.e zw.st<|hc▸hf) (By Y hk) λvs c1 ys hl e n1 r1=>by have hi:=J6 (cO e).1;refine cq (kQ (cO e).2) λtD x aW a_=>?_;have g:=JW aW J5;refine FO P tD x.1 _ a_ g.2.2.2 f.A (c1.view x.1 x.2) ys ze zl zw.a ((zw.on n1).e.fr.view) (JZ n1.st g.1) C (J0 g.1 g.2.1 r1) (λv y R hP n2 r2=>?_) λwd e R hP n2 _=>hP.elim;exact cq (kQ hP) λfv zB gR nl=>av (yb n2.st r2 gR) λW bA bG=>have b:=J3 n1.st hi g.1 (n2.trans bA) C;zx (.fz fv) (c1.ret (R.re W zB) x.2 zB.fl) y nl (n1.trans b.1) (bD.bz b.2 _ bG)) λ_ _=>C
def am6(Y:Su B w J K O m mb)(FO:Bx B w J E d)(hk:keepIn K (.ref P)=D)(hf:i4 K Q Z (q<|.ref P)=D)(h:jS B w J E d Q L u):ed B w J E d Q (.Cq P L) (.Call (.Name Z p') u [] p):=
 iZ (λf c z0 ze zl hc zw hw zx=>qr h hc zw hw (λQ'=>Y.yg zw.e zw.st<|hc▸hf) (By Y hk) λvs c1 ys hl e n1 r1=>by
  have hi:=J6 (cO e).1;refine cq (kQ (cO e).2) λtD x aW a_=>?_;have g:=JW aW J5;refine FO P tD x.1 _ a_ g.2.2.2 f.A (c1.view x.1 x.2) ys ze zl zw.a ((zw.on n1).e.fr.view) (JZ n1.st g.1) C (J0 g.1 g.2.1 r1) (λv y R hP n2 r2=>?_) λwd e R hP n2 _=>hP.elim;refine av (I_ hP) λn gR nl=>av (dq (dM nl).2) λo RO s_1=>(dq s_1).elim λzB zD=>?_;have hn:x.2.length<=n:=(dM nl).1;have hln:=RO.trans<|az q<|DT zD.1;have ry:aP B w R (.ref n) y:=gR▸r2;have hlen:x.2.length<=R.M.fl.length:=g.1.len▸n2.ay.flen;have J4:∀{i zF:aj},x.2[i]? =q zF->R.H i=c1.H zF:=λe=>(n2.ay.H _<|g.1.len▸fC e).trans<|az c1.H<|Bw e;have hm:∀{i zF:aj},x.2[i]? =q zF->zF<c1.M.fl.length:=λ{i zF} e=>av (g.1.jx i zF e) λo aW _=>fC aW;have b:=RN (x:=λi=>if i=n then q c1.M.fl.length else x.2[i]?) (L:=pG x.2 R.M.fl c1.M.fl++[.list zB]) (H:=xT c1.H c1.M.fl.length<|R.H n) n1.st hi n2 (λi zF e=>?_) (λzF hm=>AG hm) (U jh<|U vR<|jV _) λzF o e _=>?_;·exact zx (.ref c1.M.fl.length) (c1.back R _ _ _) y zD.2 (n1.trans b.1) ⟨ry.1.trans<|az hG (AF _ _ _).symm,by refine U jh<|U vR ?_;exact mG _⟩
  ·have e:(if i=n then q c1.M.fl.length else x.2[i]?)=q zF:=e
   refine U jh<|U vR ?_;by_cases zG:i=n;·rw[cE zG]at e;obtain rfl:=bH e;clear gR nl RO ry;subst zG;exact⟨mG _,AF _ _ _⟩
   ·rw[cB zG]at e;exact⟨UN<|hm e,(AG<|hm e).trans (J4 e).symm⟩
  ·by_cases zG:zF<(pG x.2 R.M.fl c1.M.fl).length
   ·rw[yV zG]at e;exact(JX hlen e).imp (λk=>k.imp λi k=>⟨(cB λzH:i=n=>absurd (zH▸fC k.1)<|lX.mpr hn).trans k.1,k.2⟩) λk=>k
   ·have zH:=AH (Cd zG) e;clear e zG;obtain rfl:=zH.1;clear e;obtain rfl:=zH.2;exact .inl<|aT n ((cE C).trans<|az q vR.symm) hln) λ_ _=>C
end
section
variable{r:G (ah×u)}
def Bz(h:(e.1==n)=D):gG n v (e::r)=(e.1,v)::r:=az (λb=>match b with|D=>(e.1,v)::r|j=>e::gG n v r) h
def yw(h:(e.1==n)=j):gG n v (e::r)=e::gG n v r:=az (λb=>match b with|D=>(e.1,v)::r|j=>e::gG n v r) h
def RP:∀{r:G (ah×u)},(gG n v r).length<=r.length+1:=by intro c;induction c with|nil=>exact bR _|cons e r ih=>exact bX (e.1==n) (λh=>U (Bz h)<|jV _) λh=>U (yw h)<|mD ih
end
def am8(f:dU v=D):∀{l:G (ah×V)},l.all (λe=>dU e.2)=D->(gG n v l).all (λe=>dU e.2)=D:=by intro m;induction m with|nil=>exact λ_=>(ku _ _).mpr ⟨f,C⟩|cons e r ih=>exact λh=>bX (e.1==n) (λc=>U (Bz c)<|(ku _ _).mpr ⟨f,(bh h).2⟩) λc=>U (yw c)<|(ku _ _).mpr ⟨(bh h).1,ih (bh h).2⟩
section
variable{K:cH}
def am9:jO m l->jO (gG p y m) ((l.findIdx? (·.key.isStr p)).elim (l++[⟨E,.str p t,y⟩]) λi=>l.modify i λe=>{e with val:=y}):=
 jO.eF (P:=λm l=>jO (gG p y m)<|(l.findIdx? (·.key.isStr p)).elim (l++[⟨E,.str p t,y⟩]) λi=>l.modify i λe=>{e with val:=y}) (uo _ _ _ rfl rfl) (λe J x l r h g=>by
  refine U UY<|bX (e.1==p) (λc=>?_) λc=>?_;·refine U (Bz c)<|U (cE<|show(au.str e.1 x).isStr p=D from c) ?_;exact uo _ _ _ rfl h
  ·refine U (yw c)<|U (cB λf:(au.str e.1 x).isStr p=D=>su<|f.symm.trans c) ?_;revert g;cases r.findIdx? (·.key.isStr p)<;>exact λg=>uo _ _ _ rfl g) m
def RQ(r:n_ m p):n_ (LY f x (.str f t) y m) (gG f y p)/\(LY f x (.str f t) y m).isFreed=j:=by obtain⟨c,P,Q,R⟩:=m;obtain⟨J,L,Y,N,O⟩:=r;subst N;subst J;have g:=am9 (p:=f) (E:=x) (t:=t) (y:=y) O;obtain⟨l⟩:=L;simp only[dy.putName_eq,dy.putNameByArray,G.findIdx?_toArray];cases E:l.findIdx? (·.key.isStr f)with|some i=>rw[E]at g;exact⟨⟨C,(fY _ _ rfl (by simpa using g))⟩,C⟩|none=>rw[E]at g;exact⟨⟨C,(fY _ _ rfl (by simpa using g))⟩,C⟩
def jO.len:jO f l->l.length=f.length:=jO.eF (P:=λk l=>l.length=k.length) C (λ_ _ _ _ _ _ c=>az (· +1) c) f
def jO.am_:jO f l->l.any (·.refKey)=j:=jO.eF (P:=λ_ l=>l.any (·.refKey)=j) C (λ_ _ _ _ _ _ c=>c) f
def ew.len:ew m w c t p->t.length=p.length:=ew.eF m w (P:=λl r=>l.length=r.length) C (λ_ _ _ _ _ _ f=>az (· +1) f) t
def ew.oW(r:aP m w c v y):ew m w c t p->ew m w c (gG E v t) (gG E y p):=ew.eF m w (P:=λt p=>ew m w c (gG E v t)<|gG E y p) (bV _ _ rfl r C) (λe x l k a b h=>bX (e.1==E) (λf=>U (Bz f)<|U (Bz (e:=(e.1,x)) f)<|bV _ _ rfl r b) λf=>U (yw f)<|U (yw (e:=(e.1,x)) f)<|bV _ _ rfl a h) t
def ana(X:K.In s.heap)(c:vE (IP K)=D)(hc:L∈tw)(hn:ph.contains l=D)(Z:s.heap.get? a=q (instObj L t))(J:s.heap.get? t=q od)(ho:n_ od m)(hl:m.length<900)(f:∀N J7 tk,ui t s.heap N->N.get? t=q J7->n_ J7 (gG l y m)->Q jX.unit {s with heap:=N,toks:=tk}):aH (ax x w) A (setAttr (.ref a) l y) Q E s:=by
 refine have C1:=bh<|Qd c hc hn;have C2:=bh C1.2;have C3:=bh C2.2;av (D5 C3.1) λcd J8 gJ=>have I:LZ s.heap a (instObj L t) L (q od):=⟨Z,C,C,J⟩;set_plain X I (IM C3.2) (osa_open (s:={s with toks:=s.toks+1}) X I C1.1 (D4 C2.1) λb=>aL<|bu<|aL<|aL<|U8 Z<|aL<|(looks_clsIn (M:=ax x w) (h:=s.heap) X J8).at<|U gJ<|bu (a:=q t)<|aL<|bu<|aL<|aL<|aL<|U4<|bu<|aL<|U9<|aL<|U8 J<|have O:=ho;fH O λ_ P=>cq P λes ep R he=>U R ?_);have cc:(!es.any (·.key.isStr l)&&es.any (·.refKey))=j:=by have:=he.am_;rw[eD.any_toList]at this;exact U this<|U (B6 ..) C
 dsimp only;refine U (atj ..)<|U cc<|wpAny_updatePart J<|have p:=RQ (f:=l) (x:=uk w.params l) (t:=s.toks+1) (y:=y) ho;have D':=qL (LY l (uk w.params l) (.str l<|s.toks+1) y) J p.2;have p1:=p.1;fH p1 λ_ P=>cq P λj_ og Y J9=>?_;refine aL<|atk D' (by refine U Y ?_;calc atl;have h1:=J9.len;have h2:=RP (n:=l) (v:=y) (r:=m);rw[g_]at h1;calc U qH;lia) ?_;exact bu<|f _ _ _ (zb ..) D' p.1
noncomputable def Cf.it(c:Cf)(h:bt)(f n:aj)(x:ar (aw×G (ah×V))):Cf:={c with s:={c.s with heap:=h,toks:=f},M:=⟨c.M.fl,c.M.ins.set n x⟩}
def anc(S:St p w x c)(Y:c.M.ins[n]? =q (q (O,Z)))(hb:ui (c.I n).2 c.h J)(P:J.get? (c.I n).2=q N)(Ba:n_ N E)(r:ew p w c Q E)(hx:Q.all (λe=>dU e.2)=D):Nx p w x c (c.it J tk n<|q (O,Q)):=
 have L:=S.ins n O Z Y;have ne:∀{a:aw}{r:ar dO},c.W a=r->r≠q (.id n)->a≠(c.I n).2:=λe f l=>f<|e.symm.trans<|(az c.W l).trans L.2.1;have k:∀{a o},a≠(c.I n).2->c.h.get? a=q o->J.get? a=q o:=λf e=>(hb.2 _ f).trans e;have T:tz c (c.it J tk n<|q (O,Q)):=⟨λa o r e f h=>⟨k (ne f λl=>by injection l with l;subst l;exact bZ h) e,f⟩,λa o e f _=>⟨f,o.slots,k (ne f (λh=>by injection h)) e,λ_=>C⟩,λ_ _=>C,λ_ _=>C,bR _,cY wo.symm,λa R e _=>if l:a=(c.I n).2 then⟨N,l▸P⟩else⟨R,k l e⟩⟩;⟨{
  base:=λa o e=>have f:=S.base a o e;have l:=T.kfz a o .fz f.2 f.1 C;⟨l.2,l.1⟩
  role:=λa r e=>have f:=S.role a r e;⟨match r,f.1 with| .fz,_=>trivial| .cL,_=>trivial| .hd _,g=>g| .ih _,g=>⟨g.1,jD g.2 wo.symm⟩| .id _,g=>⟨g.1,jD g.2 wo.symm⟩,if g:a=(c.I n).2 then⟨N,g▸P⟩else f.2.imp λ_=>k g⟩
  fl:=λm R e f=>have g:=S.fl m R e f;⟨g.1,g.2.bz T.b λ_=>k<|ne g.1<|dO.ne C⟩
  ins:=λm vS yx e=>(rJ e).elim (λl=>by clear e;cases l.1;cases l.2;exact⟨L.1,L.2.1,k (ne L.1<|dO.ne C) L.2.2.1,⟨N,E,P,Ba,r.ay T⟩,L.2.2.2.2.1,hx⟩) λl=>have g:=S.ins m vS yx l.2;⟨g.1,g.2.1,k (ne g.1<|dO.ne C) g.2.2.1,g.2.2.2.1.imp λ_ h=>h.imp λ_ h=>⟨k (ne g.2.1 λt=>l.1<|IE t) h.1,h.2.1,h.2.2.ay T⟩,g.2.2.2.2⟩},T,C,C⟩
def RR(f:Su m w p K gl mg mb)(S:St m w p c)(Y:aP m w c (.dJ n) x)(P:c.M.ins[n]? =q (q (N,t)))(Z:aP m w c v y)(hv:dU v=D)(hl:t.length<100)(oO:ph.contains O=D)(l:∀h J,Nx m w p c (c.it h J n<|q (N,gG O v t))->Q jX.unit (c.it h J n<|q (N,gG O v t)).s):aH (ax m w) A (setAttr x O y) Q E c.s:=have L:=S.ins n N t P;dh L.2.2.2.1 λod kvs i0 kc R=>by obtain rfl:=Y.1;exact ana (f.in S) f.ai5 L.2.2.2.2.1 oO L.2.2.1 i0 kc (R.len▸Fx hl {}) λh' J7 J sb e1 e2=>l h' J<|anc S P sb e1 e2 (R.oW Z)<|am8 hv L.2.2.2.2.2
end
def ED{f:Type}{x:ar f}{c:f}(h:(if b=D then x else z)=q c):b=D/\x=q c:=by cases b with|true=>exact⟨C,h⟩|false=>injection h
def ane{r:Type}{l:G r}{o:r}(m:l[n]? =q o)(c:n+1=l.length):l=l.dropLast++[o]/\n=l.dropLast.length:=
 have p:l≠[]:=λf=>by rw[f]at m;injection m
 have t:l.getLast p=o:=bH<|(Fh p).symm.trans<|Lj.trans<|c▸m;⟨t▸(T7 p).symm,by rw[atm,<-c];rfl⟩
def anf:sF b n ρ c l=c[n]?.bind λo=>if(n+1==c.length&&aa (b<=n))=D then(if(uw (iH n) ρ&&li (iH n) l)=D then(lg o).map λf=>(f,c.dropLast)else z)else(lg o).map λf=>(f,c.set n .bv):=()
def ang:ut (.ref n) c=c[n]?.bind λo=>(lg o).map λf=>(f,c.set n .bv):=()
def anh(e:sF b n ρ f l=q r):∃o,f[n]? =q o/\lg o=q r.1/\((f=r.2++[o]/\n=r.2.length/\b<=n/\uw (iH n) ρ=D/\li (iH n) l=D)\/r.2=f.set n .bv):=
 av (jr.mp<|anf.symm.trans e) λo m e=>
  if c:(n+1==f.length&&aa (b<=n))=D then
   have e:=ED<|(cE c).symm.trans e
   have c:=bh c;have d:=ane m<|bw.mp c.1
   av (iE.mp e.2) λg a k=>k▸cN o m a (.inl ⟨d.1,d.2,dw c.2,bh e.1⟩)
  else av (iE.mp<|(cB c).symm.trans e) λg a k=>k▸cN o m a (.inr C)
def J_(b:aj)(ρ:Rho)(c:G (ar<|aw×G (ah×V)))(r:G (ah×V))(v:V)(l:G FObj):ar (F×G FObj):=match v with| .fz f=>q (f,l)| .ref k=>if r.all (λe=>iH k e.2)=D then sF b k ρ l c else z|_=>z
def Ka:lj b ρ c ((n,v)::r) l=(J_ b ρ c r v l).bind λx=>(lj b ρ c r x.2).bind λy=>q ((n,x.1)::y.1,y.2):=v.casesOn (motive:=λv=>lj b ρ c ((n,v)::r) l=(J_ b ρ c r v l).bind λx=>(lj b ρ c r x.2).bind λy=>q ((n,x.1)::y.1,y.2)) (λ_=>by kernel_rfl) (λk=>if h:(r.all λe=>iH k e.2)=D then(cE h).trans ((show ar.bind (sF b k ρ l c) (λ(f,l)=>(lj b ρ c r l).bind λ(m,l)=>q ((n,f)::m,l))=(sF b k ρ l c).bind λx=>(lj b ρ c r x.2).bind λy=>q ((n,x.1)::y.1,y.2) by kernel_rfl).trans (az (λo:ar (F×G FObj)=>o.bind _)<|cE h).symm)else(cB h).trans (az (λo:ar (F×G FObj)=>o.bind _)<|cB h).symm) (λ_=>C) λ_=>C
section
variable(B:cA)(w:b9)(E:bt)
structure vT(b:aj)(p:V->Prop)(c c':Cf):Prop where
 st:St B w E c'
 ay:fG kO b c'.M.ins.length c c'
 len:b<=c'.M.fl.length
 kv:∀v y,p v->aP B w c v y->aP B w c' v y
end
def EE(ρ:Rho)(v:V):Prop:=dU v=D/\∃i:aj,ρ[i]? =q (q v)
def RS(h:uw p ρ=D){i:aj}(e:ρ[i]? =q (q v)):p v=D:=fc.mp h _<|zf e
section
def ani(T:fG kO f.length c.M.ins.length c (c.pop f))(l:c.M.fl=f++[o])(p:dU v=D)(t:iH f.length v=D)(r:aP B w c v y):aP B w (c.pop f) v y:=by cases v with|fz g=>exact bD.bz T.b g r|ref m=>exact⟨r.1,Rk t<|jD r.2<|l▸jh⟩|dJ m=>exact r|exc u=>exact bZ p
def RT(S:St B w E c)(e:sF b n ρ c.M.fl c.M.ins=q r)(u:b<=c.M.fl.length):∃W,vT B w E b (λv=>dU v=D/\(iH n v=D\/∃i:aj,ρ[i]? =q (q v))) c (c.re W ⟨r.2,c.M.ins⟩)/\bD B w (c.re W ⟨r.2,c.M.ins⟩).b r.1 (.ref<|c.H n):=
 cP (anh e) λo a J d=>d.elim (λk=>have P:=Eu S k.1 J<|k.2.1▸k.2.2.2.2
  have l:b<=r.2.length:=k.2.1▸k.2.2.1
  aT (c.pop r.2).W ⟨P.1,P.2.1.bz (λ_=>id) l<|bR _,l,λv y L m=>ani P.2.1 k.1 L.1 (k.2.1▸(L.2.elim id λt=>t.elim λi t=>RS k.2.2.2.1 t)) m⟩ (k.2.1.symm▸P.2.2)) λk=>by
  refine U k ?_
  exact av (ID (v:=.ref n) S ⟨C,fC a⟩<|ang.trans<|(az (λx:ar FObj=>x.bind λo=>(lg o).map λf=>(f,c.M.fl.set n .bv)) a).trans<|az (ar.map λf=>(f,c.M.fl.set n .bv)) J) λW p m=>aT W ⟨p.st,p.ay.bz (λ_=>id) u<|bR _,aG u p.ay.flen,λv y _ r=>r.ay p.ay⟩ m
def anj(S:St B w E c)(r:aP B w c v y)(e:J_ b ρ c.M.ins l v c.M.fl=q x)(t:b<=c.M.fl.length):∃W,vT B w E b (λu=>dU u=D/\((∀k,v= .ref k->iH k u=D)\/∃i:aj,ρ[i]? =q (q u))) c (c.re W ⟨x.2,c.M.ins⟩)/\bD B w (c.re W ⟨x.2,c.M.ins⟩).b x.1 y/\∀k,v= .ref k->l.all (λe=>iH k e.2)=D:=by cases v with|fz f=>exact bH e▸⟨c.W,⟨S,.refl t<|bR _,t,λ_ _ _=>id⟩,r,λ_ e=>by injection e⟩|ref k=>exact have h:=ED e;r.1▸(RT S h.2 t).imp λW p=>⟨⟨p.1.st,p.1.ay,p.1.len,λv y J=>p.1.kv v y ⟨J.1,J.2.imp (λm=>m k C) id⟩⟩,p.2,λL e=>by injection e with e;exact e▸h.1⟩|_=>injection e
def ank:∀{L:G (ah×au)}{c:Cf}{r:G (ah×F)×G FObj},St B w E c->ew B w c l L->l.all (λe=>dU e.2)=D->lj b ρ c.M.ins l c.M.fl=q r->b<=c.M.fl.length->∃W,vT B w E b (EE ρ) c (c.re W ⟨r.2,c.M.ins⟩)/\eu B w (c.re W ⟨r.2,c.M.ins⟩).b r.1 L:=by
 induction l with
 |nil=>exact λ{_ c _} S r _ e N=>bH e▸⟨c.W,⟨S,.refl N<|bR _,N,λ_ _ _=>id⟩,r⟩
 |cons a l ih=>
  exact λ{_ c _} S r O e N=>have O:=bh O
   dh (vB<|Ka.symm.trans e) λx f p m h=>h▸dh r λu R i J t=>i▸(anj S J p N).elim λY k=>(ih (c:=c.re Y ⟨x.2,c.M.ins⟩) k.1.st (t.kv λe Q y=>k.1.kv e.2 y ⟨fc.mp O.2 e Q,.inl λn f=>fc.mp (k.2.2 n f) e Q⟩) O.2 m k.1.len).imp λW g=>⟨⟨g.1.st,k.1.ay.trans g.1.ay,g.1.len,λv y P r=>g.1.kv v y P<|k.1.kv v y ⟨P.1,.inr P.2⟩ r⟩,bV u R C (bD.bz g.1.ay.b _ k.2.1) g.2⟩
def anl(S:St B w E c)(r:ew B w c l m)(p:l.all (λe=>dU e.2)=D)(e:lj b ρ c.M.ins l c.M.fl=q (t,f))(u:b<=c.M.fl.length):∃W,vT B w E b (EE ρ) c (c.re W ⟨f,c.M.ins⟩)/\eu B w (c.re W ⟨f,c.M.ins⟩).b t m:=ank S r p e u
end
section
variable{a:aw}
def Cf.kp(c:Cf)(f:G (ar<|aw×G (ah×V))):Cf:=c.re (iw (iw c.W (c.I f.length).1 (q .cL)) (c.I f.length).2 (q .cL)) ⟨c.M.fl,f⟩
def anm(S:St u w J c)(N:c.M.ins=p++[q (Y,Z)])(hi:li (nJ p.length) p=D):vT u w J c.M.fl.length (λv=>dU v=D/\nJ p.length v=D) c (c.kp p):=by
 have hn:c.M.ins[p.length]? =q (q (Y,Z)):=by refine U N<|U (yW<|bR _)<|U (yO ..) ?_;rfl
 have L:=S.ins _ Y Z hn;have B:c.M.ins.length=p.length+1:=by calc U N;exact jh
 have O:∀{a r},c.W a=r->r≠q (.ih p.length)->a≠(c.I p.length).1:=λe f l=>f<|e.symm.trans<|(az c.W l).trans L.1;have P:∀{a r},c.W a=r->r≠q (.id p.length)->a≠(c.I p.length).2:=λe f l=>f<|e.symm.trans<|(az c.W l).trans L.2.1;have E:∀{a r},c.W a=r->r≠q (.ih p.length)->r≠q (.id p.length)->(c.kp p).W a=r:=λe f q'=>(dG<|P e q').trans<|(dG<|O e f).trans e;have T:fG kO c.M.fl.length p.length c (c.kp p):=⟨λx o r e f h=>⟨e,E f (λl=>by injection l with l;subst l;exact bZ h) λl=>by injection l with l;subst l;exact bZ h⟩,λx o e f _=>⟨E f (λh=>by injection h) (λh=>by injection h),(aT o.slots e λ_=>C)⟩,λ_ _=>C,λ_ _=>C,bR _,bR _,λ_ o e _=>⟨o,e⟩⟩;have rv:∀(v:V)(y:au),(dU v=D/\nJ p.length v=D)->aP u w c v y->aP u w (c.kp p) v y:=λv y h r=>by cases v with|fz g=>exact bD.bz T.b g r|ref m=>exact r|dJ m=>exact⟨r.1,FK (wg<|jD r.2 B)<|py.mp h.2⟩|exc wd=>exact bZ h.1
 refine⟨{
      base:=λx o e=>have f:=S.base x o e;⟨E f.1 (by simp) (by simp),f.2⟩
      role:=λx r e=>if l:x=(c.I p.length).2 then by
        subst l
        cases(gA _ _ _).symm.trans e
        exact⟨trivial,(S.role _ _ L.2.1).2⟩
       else if Q:x=(c.I p.length).1 then by subst Q;cases(gA _ _ _).symm.trans ((dG l).symm.trans e);exact⟨trivial,(S.role _ _ L.1).2⟩
       else by refine have f:=S.role x r<|(dG Q).symm.trans<|(dG l).symm.trans e;⟨?_,f.2⟩;cases r with|ih m=>exact⟨f.1.1,FK (wg<|jD f.1.2 B) λt=>Q<|f.1.1.trans<|az (λn=>(c.I n).1) t⟩|id m=>exact⟨f.1.1,FK (wg<|jD f.1.2 B) λt=>l<|f.1.1.trans<|az (λn=>(c.I n).2) t⟩|_=>exact f.1
      fl:=λm o e f=>have y:=S.fl m o e f;⟨E y.1 (by simp) (by simp),y.2.bz T.b λ_=>id⟩
      ins:=λm vS yx e=>?_},T,bR _,rv⟩
 exact have e:p[m]? =q (q (vS,yx)):=e;have y:=S.ins m vS yx<|N▸JV e;have hm:=hO<|fC e;⟨E y.1 (λt=>hm<|P1 t)<|dO.ne C,E y.2.1 (dO.ne C) λt=>hm<|IE t,y.2.2.1,y.2.2.2.1.imp λ_ h=>h.imp λ_ h=>⟨h.1,h.2.1,h.2.2.kv λR kX l=>rv R.2 l ⟨fc.mp y.2.2.2.2.2 R kX,fc.mp (Rj hi e) R kX⟩⟩,y.2.2.2.2⟩
def RU(S:St p w t c)(N:c.W a=q .cL):St p w t (c.re (iw c.W a<|q .fz) c.M)/\∀x o,c.b x=q o->(c.re (iw c.W a<|q .fz) c.M).b x=q o:=by
 have ne:∀{x r},c.W x=r->r≠q .cL->x≠a:=λe f l=>f<|e.symm.trans<|(az c.W l).trans N
 have u:∀{x r},c.W x=r->r≠q .cL->(c.re (iw c.W a<|q .fz) c.M).W x=r:=λe f=>(dG<|ne e f).trans e
 have E:∀x o,c.b x=q o->(c.re (iw c.W a<|q .fz) c.M).b x=q o:=λx o e=>have l:=mq e
 kN (u l.1<|nofun) l.2
 have O:∀{J:G (ah×V)}{B:G (ah×au)},J.all (λe=>dU e.2)=D->ew p w c J B->ew p w (c.re (iw c.W a<|q .fz) c.M) J B:=λh r=>r.kv λe P y r=>by have h:=fc.mp h e P;cases L:e.2 with|fz g=>rw[L]at r;exact bD.bz E g r|exc Y=>rw[L]at h;exact bZ h|_=>rw[L]at r;exact r
 exact⟨{
     base:=λx o e=>have f:=S.base x o e;⟨u f.1<|nofun,f.2⟩
     role:=λx r e=>if l:x=a then by
        clear ne
        subst l
        cases(gA _ _ _).symm.trans e
        exact⟨trivial,(S.role _ _ N).2⟩
       else have f:=S.role x r<|(dG l).symm.trans e;⟨by cases r<;>exact f.1,f.2⟩
     fl:=λm o e f=>have y:=S.fl m o e f;⟨u y.1<|dO.ne C,y.2.bz E λ_=>id⟩
     ins:=λm Q R e=>have y:=S.ins m Q R e;(wB (u y.1<|dO.ne C) (u y.2.1<|dO.ne C) y.2.2.1 (y.2.2.2.1.imp λ_ h=>h.imp λ_ h=>(cr h.1 h.2.1<|O y.2.2.2.2.2 h.2.2)) y.2.2.2.2)},E⟩
def anp:∀{l:G (ah×V)}{r:G FObj}{c:G (ah×F)×G FObj},lj b ρ t l r=q c->l.all (λe=>nJ m e.2)=D:=by intro u;induction u with|nil=>intro _ _ _;exact C|cons x l ih=>intro r c e;exact dh (vB<|Ka.symm.trans e) λp f B E _=>(ku _ _).mpr ⟨by have g:=B;show nJ m x.2=D;cases J:x.2 with|dJ k=>rw[J]at g;injection g|_=>rfl,ih E⟩
def RV(S:St B w J c)(hM:c.M.ins=u++[q (R,O)])(h1:uw (nJ u.length) ρ=D)(hi:li (nJ u.length) u=D)(e:lj b ρ u O c.M.fl=q (l,E))(hb:b<=c.M.fl.length):∃W,vT B w J b (EE ρ) c (c.re W ⟨E,u⟩)/\bD B w (c.re W ⟨E,u⟩).b (.hV R l) (.ref (c.I u.length).1):=by
 have hn:c.M.ins[u.length]? =q (q (R,O)):=by refine U hM<|U (yW<|bR _)<|U (yO ..) ?_;rfl
 refine have L:=S.ins _ R O hn;have P:=anm S hM hi;have Y:(c.I u.length).1≠(c.I u.length).2:=λt=>(nomatch (L.1.symm.trans<|az c.W t).trans L.2.1);have w1:(c.kp u).W (c.I u.length).1=q .cL:=(dG Y).trans<|gA _ _ _;have w2:(c.kp u).W (c.I u.length).2=q .cL:=gA _ _ _;L.2.2.2.1.elim λod f=>f.elim λN f=>have rA:ew B w (c.kp u) O N:=f.2.2.kv λZ he y=>P.kv Z.2 y ⟨fc.mp L.2.2.2.2.2 Z he,fc.mp (anp e) Z he⟩;(anl (c:=c.kp u) P.st rA L.2.2.2.2.2 e hb).elim λW1 k=>?_;have f1:=k.1.ay.kfz _ _ .cL L.2.2.1 w1 C;have f2:=k.1.ay.kfz _ _ .cL f.1 w2 C;have U1:=RU k.1.st f1.2;have U2:=RU U1.1<|(dG<|Ne.symm Y).trans f2.2;have nk:∀{x:aw}{r:ar dO},c.W x=r->r≠q (.ih u.length)->r≠q (.id u.length)->x≠(c.I u.length).1/\x≠(c.I u.length).2:=λe m q'=>⟨λp=>m<|e.symm.trans<|(az c.W p).trans L.1,λp=>q'<|e.symm.trans<|(az c.W p).trans L.2.1⟩;have T1:fG kO b u.length c (c.re W1 ⟨E,u⟩):=(P.ay.bz (λ_=>id) hb<|bR _).trans k.1.ay;have T:fG kO b u.length c (c.re (iw (iw W1 (c.I u.length).1 (q .fz)) (c.I u.length).2 (q .fz)) ⟨E,u⟩):={T1 with
  kfz:=λx o r e m h=>have p:=T1.kfz x o r e m h;have n:=nk m (λp=>by injection p with p;subst p;exact bZ h) (λp=>by injection p with p;subst p;exact bZ h);⟨p.1,(dG n.2).trans<|(dG n.1).trans p.2⟩
  knone:=λx o e m g=>have p:=T1.knone x o e m g;have n:=nk m (λh=>by injection h) (λh=>by injection h);⟨(dG n.2).trans<|(dG n.1).trans p.1,p.2⟩}
 refine(aT _ ⟨U2.1,T,k.1.len,λv y Q r=>?_⟩<|bV _ N C (jE _ od (kN ((dG Y).trans<|gA _ _ _) f1.1) (kN (gA _ _ _) f2.1) f.2.1 L.2.2.2.2.1)<|eu.bz (λx o e=>U2.2 x o<|U1.2 x o e) _ k.2);have r2:=k.1.kv v y Q<|P.kv v y ⟨Q.1,Q.2.elim λi p=>RS h1 p⟩ r;clear r;cases v with|fz g=>exact bD.bz (λx o e=>U2.2 x o<|U1.2 x o e) g r2|exc wd=>exact bZ Q.1|_=>exact r2
def anq(S:St m w t c)(e:Cv b v ρ c.M=q (f,u))(B:b<=c.M.fl.length):∃W,vT m w t b (EE ρ) c (c.re W u)/\∀y,aP m w c v y->bD m w (c.re W u).b f y:=by
 cases v with
 |fz g=>cases e;exact(aT c.W ⟨S,fG.refl B<|bR _,B,λ_ _ _=>id⟩ λ_ r=>r)
 |ref n=>exact av (iE.mp e) λx Y Z=>by cases Z;exact(RT S Y B).imp λW k=>⟨⟨k.1.st,k.1.ay,k.1.len,λv y O=>k.1.kv v y ⟨O.1,.inr O.2⟩⟩,λy r=>have E:y= .ref (c.H n):=r.1;E▸k.2⟩
 |dJ n=>
  have e:(match c.M.ins[n]? with|q (q (c2,fs))=>_|_=>z)=q (f,u):=e;cases p:c.M.ins[n]? with
  |none=>rw[p]at e;injection e
  |some o=>cases o with
   |none=>rw[p]at e;injection e
   |some x=>
    rw[p]at e
    have e:(if(n+1==c.M.ins.length&&uw (nJ n) ρ&&li (nJ n) c.M.ins.dropLast)=D then(lj b ρ c.M.ins.dropLast x.2 c.M.fl).bind λy=>q (.hV x.1 y.1,(⟨y.2,c.M.ins.dropLast⟩:Mem))else z)=q (f,u):=by
     refine U (Eq.symm e) ?_
     congr 1
    refine have e:=ED e;av (jr.mp e.2) λl aW a_=>?_
    cases a_
    have J:=bh e.1
    have L:=bh J.1
    have P:=bw.mp L.1
    have N:c.M.ins≠[]:=λl=>by rw[l]at p;injection p
    have hg:c.M.ins.getLast N=q x:=bH<|(Fh N).symm.trans<|U (Lj)<|U (Eq.symm P) p
    have hM:c.M.ins=c.M.ins.dropLast++[q x]:=hg▸(T7 N).symm
    have Q:n=c.M.ins.dropLast.length:=by refine U atm<|U (Eq.symm P) ?_;rfl
    rw[Q]at J L
    refine(RV (R:=x.1) (O:=x.2) S hM L.2 J.2 aW B).imp λW R=>⟨R.1,λy r=>?_⟩
    have E:y= .ref (c.I n).1:=r.1
    rw[Q]at E
    exact E▸R.2
 |exc wd=>injection e
end
def dE[tY p]{f:p->ak}(h:(if c:p then f c else j)=D):∃c,f c=D:=by cases(inferInstance:tY p)with|isTrue c=>exact⟨c,(dif_pos c).symm.trans h⟩|isFalse c=>exact bZ<|(dif_neg c).symm.trans h
section
variable{m:Prop}
noncomputable def Kb(c:aN)(f:PySem.BoolOp->G aN->eZ->ak):ak:=if h:c.ctorIdx=0 then aN.BoolOp.elim (motive_1:=λ_=>ak) c h λa b p=>f a b p else j
def RW(l:aN)(h:Kb l r=D)(c:∀a b p,aN.BoolOp a b p=l->r a b p=D->m):m:=(dE h).elim λf t=>aN.BoolOp.elim (motive_1:=λu=>u=l->∀f,aN.BoolOp.elim (motive_1:=λ_=>ak) u f (λa b p=>r a b p)=D->m) l f (λa b p w _=>c a b p w) C f t
noncomputable def RX(c:aN)(f:aN->Fc->aN->ak):ak:=if h:c.ctorIdx=2 then aN.BinOp.elim (motive_1:=λ_=>ak) c h λl o r _=>f l o r else j
def anr(t:aN)(h:RX t x=D)(c:∀l o r p,aN.BinOp l o r p=t->x l o r=D->m):m:=(dE h).elim λf E=>aN.BinOp.elim (motive_1:=λu=>u=t->∀f,aN.BinOp.elim (motive_1:=λ_=>ak) u f (λl o r _=>x l o r)=D->m) t f (λl o r p w _=>c l o r p w) C f E
noncomputable def Kc(c:aN)(f:UnaryOp->aN->ak):ak:=if h:c.ctorIdx=3 then aN.UnaryOp.elim (motive_1:=λ_=>ak) c h λo x _=>f o x else j
def RY(l:aN)(h:Kc l r=D)(c:∀o x p,aN.UnaryOp o x p=l->r o x=D->m):m:=(dE h).elim λf t=>aN.UnaryOp.elim (motive_1:=λu=>u=l->∀f,aN.UnaryOp.elim (motive_1:=λ_=>ak) u f (λo x _=>r o x)=D->m) l f (λo x p w _=>c o x p w) C f t
noncomputable def RZ(c:aN)(f:aN->aN->aN->ak):ak:=if h:c.ctorIdx=5 then aN.IfExp.elim (motive_1:=λ_=>ak) c h λt a b _=>f t a b else j
def ant(l:aN)(h:RZ l r=D)(c:∀t a b p,aN.IfExp t a b p=l->r t a b=D->m):m:=(dE h).elim λf x=>aN.IfExp.elim (motive_1:=λu=>u=l->∀f,aN.IfExp.elim (motive_1:=λ_=>ak) u f (λt a b _=>r t a b)=D->m) l f (λt a b p w _=>c t a b p w) C f x
noncomputable def R0(c:aN)(f:G (ar aN)->G aN->ak):ak:=if h:c.ctorIdx=6 then aN.Dict.elim (motive_1:=λ_=>ak) c h λk v _=>f k v else j
def anu(l:aN)(h:R0 l r=D)(c:∀k v p,aN.Dict k v p=l->r k v=D->m):m:=(dE h).elim λf t=>aN.Dict.elim (motive_1:=λu=>u=l->∀f,aN.Dict.elim (motive_1:=λ_=>ak) u f (λk v _=>r k v)=D->m) l f (λk v p w _=>c k v p w) C f t
noncomputable def BA(c:aN)(f:aN->G FM->gC->eZ->ak):ak:=if h:c.ctorIdx=8 then aN.ListComp.elim (motive_1:=λ_=>ak) c h λe g s p=>f e g s p else j
def Ke(l:aN)(h:BA l r=D)(c:∀e g s p,aN.ListComp e g s p=l->r e g s p=D->m):m:=(dE h).elim λf t=>aN.ListComp.elim (motive_1:=λu=>u=l->∀f,aN.ListComp.elim (motive_1:=λ_=>ak) u f (λe g s p=>r e g s p)=D->m) l f (λe g s p w _=>c e g s p w) C f t
noncomputable def R1(c:aN)(f:aN->aN->G FM->gC->ak):ak:=if h:c.ctorIdx=10 then aN.DictComp.elim (motive_1:=λ_=>ak) c h λx y g s _=>f x y g s else j
def anv(l:aN)(h:R1 l r=D)(c:∀x y g s p,aN.DictComp x y g s p=l->r x y g s=D->m):m:=(dE h).elim λf t=>aN.DictComp.elim (motive_1:=λu=>u=l->∀f,aN.DictComp.elim (motive_1:=λ_=>ak) u f (λx y g s _=>r x y g s)=D->m) l f (λx y g s p w _=>c x y g s p w) C f t
noncomputable def EF(c:aN)(f:aN->G t_->G aN->ak):ak:=if h:c.ctorIdx=15 then aN.Compare.elim (motive_1:=λ_=>ak) c h λl o r _=>f l o r else j
def Kg(t:aN)(h:EF t x=D)(c:∀l o r p,aN.Compare l o r p=t->x l o r=D->m):m:=(dE h).elim λf E=>aN.Compare.elim (motive_1:=λu=>u=t->∀f,aN.Compare.elim (motive_1:=λ_=>ak) u f (λl o r _=>x l o r)=D->m) t f (λl o r p w _=>c l o r p w) C f E
noncomputable def EG(c:aN)(l:aN->G aN->G Keyword->eZ->ak):ak:=if h:c.ctorIdx=16 then aN.Call.elim (motive_1:=λ_=>ak) c h λf a k p=>l f a k p else j
def Kh(r:aN)(h:EG r t=D)(c:∀f a k p,aN.Call f a k p=r->t f a k p=D->m):m:=(dE h).elim λl x=>aN.Call.elim (motive_1:=λu=>u=r->∀l,aN.Call.elim (motive_1:=λ_=>ak) u l (λf a k p=>t f a k p)=D->m) r l (λf a k p w _=>c f a k p w) C l x
noncomputable def vU(c:aN)(f:Const->ak):ak:=if h:c.ctorIdx=19 then aN.Constant.elim (motive_1:=λ_=>ak) c h λk _ _=>f k else j
def BB(l:aN)(h:vU l r=D)(c:∀k n p,aN.Constant k n p=l->r k=D->m):m:=(dE h).elim λf t=>aN.Constant.elim (motive_1:=λu=>u=l->∀f,aN.Constant.elim (motive_1:=λ_=>ak) u f (λk _ _=>r k)=D->m) l f (λk n p w _=>c k n p w) C f t
noncomputable def tP(c:aN)(f:aN->ah->eZ->ak):ak:=if h:c.ctorIdx=20 then aN.Attribute.elim (motive_1:=λ_=>ak) c h λv n p=>f v n p else j
def vV(l:aN)(h:tP l r=D)(c:∀v n p,aN.Attribute v n p=l->r v n p=D->m):m:=(dE h).elim λf t=>aN.Attribute.elim (motive_1:=λu=>u=l->∀f,aN.Attribute.elim (motive_1:=λ_=>ak) u f (λv n p=>r v n p)=D->m) l f (λv n p w _=>c v n p w) C f t
noncomputable def BC(c:aN)(f:aN->aN->ak):ak:=if h:c.ctorIdx=21 then aN.Subscript.elim (motive_1:=λ_=>ak) c h λv s _=>f v s else j
def EH(l:aN)(h:BC l r=D)(c:∀v s p,aN.Subscript v s p=l->r v s=D->m):m:=(dE h).elim λf t=>aN.Subscript.elim (motive_1:=λu=>u=l->∀f,aN.Subscript.elim (motive_1:=λ_=>ak) u f (λv s _=>r v s)=D->m) l f (λv s p w _=>c v s p w) C f t
noncomputable def kY(c:aN)(f:ah->eZ->ak):ak:=if h:c.ctorIdx=23 then aN.Name.elim (motive_1:=λ_=>ak) c h λn p=>f n p else j
def kZ(l:aN)(h:kY l r=D)(c:∀n p,aN.Name n p=l->r n p=D->m):m:=(dE h).elim λf t=>aN.Name.elim (motive_1:=λu=>u=l->∀f,aN.Name.elim (motive_1:=λ_=>ak) u f (λn p=>r n p)=D->m) l f (λn p w _=>c n p w) C f t
noncomputable def yy(c:aN)(f:G aN->ak):ak:=if h:c.ctorIdx=24 then aN.List.elim (motive_1:=λ_=>ak) c h λl _=>f l else j
def EI(r:aN)(h:yy r t=D)(c:∀l p,aN.List l p=r->t l=D->m):m:=(dE h).elim λf x=>aN.List.elim (motive_1:=λu=>u=r->∀f,aN.List.elim (motive_1:=λ_=>ak) u f (λl _=>t l)=D->m) r f (λl p w _=>c l p w) C f x
noncomputable def vW(c:aN)(f:G aN->ak):ak:=if h:c.ctorIdx=25 then aN.Tuple.elim (motive_1:=λ_=>ak) c h λl _ _=>f l else j
def vX(r:aN)(h:vW r t=D)(c:∀l n p,aN.Tuple l n p=r->t l=D->m):m:=(dE h).elim λf x=>aN.Tuple.elim (motive_1:=λu=>u=r->∀f,aN.Tuple.elim (motive_1:=λ_=>ak) u f (λl _ _=>t l)=D->m) r f (λl n p w _=>c l n p w) C f x
noncomputable def R3(c:aN)(f:ar aN->ar aN->ar aN->ak):ak:=if h:c.ctorIdx=26 then aN.Slice.elim (motive_1:=λ_=>ak) c h λl u t _=>f l u t else j
def anw(r:aN)(h:R3 r x=D)(c:∀l u t p,aN.Slice l u t p=r->x l u t=D->m):m:=(dE h).elim λf E=>aN.Slice.elim (motive_1:=λu=>u=r->∀f,aN.Slice.elim (motive_1:=λ_=>ak) u f (λl u t _=>x l u t)=D->m) r f (λl u t p w _=>c l u t p w) C f E
end
section
variable{m:Prop}
noncomputable def R4(c:dT)(f:ar aN->ak):ak:=if h:c.ctorIdx=3 then dT.Return.elim (motive_2:=λ_=>ak) c h λx _=>f x else j
def anx(l:dT)(h:R4 l r=D)(c:∀x p,dT.Return x p=l->r x=D->m):m:=(dE h).elim λf t=>dT.Return.elim (motive_2:=λu=>u=l->∀f,dT.Return.elim (motive_2:=λ_=>ak) u f (λx _=>r x)=D->m) l f (λx p w _=>c x p w) C f t
noncomputable def BD(c:dT)(f:G aN->aN->eZ->ak):ak:=if h:c.ctorIdx=5 then dT.Assign.elim (motive_2:=λ_=>ak) c h λt v p=>f t v p else j
def EJ(l:dT)(h:BD l r=D)(c:∀t v p,dT.Assign t v p=l->r t v p=D->m):m:=(dE h).elim λf x=>dT.Assign.elim (motive_2:=λu=>u=l->∀f,dT.Assign.elim (motive_2:=λ_=>ak) u f (λt v p=>r t v p)=D->m) l f (λt v p w _=>c t v p w) C f x
noncomputable def R5(c:dT)(f:aN->aN->G dT->G dT->ak):ak:=if h:c.ctorIdx=9 then dT.For.elim (motive_2:=λ_=>ak) c h λt i b o _=>f t i b o else j
def anz(l:dT)(h:R5 l r=D)(c:∀t i b o p,dT.For t i b o p=l->r t i b o=D->m):m:=(dE h).elim λf x=>dT.For.elim (motive_2:=λu=>u=l->∀f,dT.For.elim (motive_2:=λ_=>ak) u f (λt i b o _=>r t i b o)=D->m) l f (λt i b o p w _=>c t i b o p w) C f x
noncomputable def R6(c:dT)(f:aN->G dT->G dT->ak):ak:=if h:c.ctorIdx=11 then dT.While.elim (motive_2:=λ_=>ak) c h λt b o _=>f t b o else j
def anA(l:dT)(h:R6 l r=D)(c:∀t b o p,dT.While t b o p=l->r t b o=D->m):m:=(dE h).elim λf x=>dT.While.elim (motive_2:=λu=>u=l->∀f,dT.While.elim (motive_2:=λ_=>ak) u f (λt b o _=>r t b o)=D->m) l f (λt b o p w _=>c t b o p w) C f x
noncomputable def R7(c:dT)(f:aN->G dT->G dT->ak):ak:=if h:c.ctorIdx=12 then dT.If.elim (motive_2:=λ_=>ak) c h λt a b _=>f t a b else j
def anB(l:dT)(h:R7 l r=D)(c:∀t a b p,dT.If t a b p=l->r t a b=D->m):m:=(dE h).elim λf x=>dT.If.elim (motive_2:=λu=>u=l->∀f,dT.If.elim (motive_2:=λ_=>ak) u f (λt a b _=>r t a b)=D->m) l f (λt a b p w _=>c t a b p w) C f x
noncomputable def R8(f:dT)(l:ar aN->ar aN->ak):ak:=if h:f.ctorIdx=16 then dT.Raise.elim (motive_2:=λ_=>ak) f h λx c _=>l x c else j
def anC(r:dT)(h:R8 r t=D)(f:∀x c p,dT.Raise x c p=r->t x c=D->m):m:=(dE h).elim λl E=>dT.Raise.elim (motive_2:=λu=>u=r->∀l,dT.Raise.elim (motive_2:=λ_=>ak) u l (λx c _=>t x c)=D->m) r l (λx c p w _=>f x c p w) C l E
noncomputable def R9(c:dT)(l:G dT->G atn->G dT->G dT->ak):ak:=if h:c.ctorIdx=17 then dT.Try.elim (motive_2:=λ_=>ak) c h λb h o f _=>l b h o f else j
def anD(r:dT)(h:R9 r t=D)(c:∀b h o f p,dT.Try b h o f p=r->t b h o f=D->m):m:=(dE h).elim λl x=>dT.Try.elim (motive_2:=λu=>u=r->∀l,dT.Try.elim (motive_2:=λ_=>ak) u l (λb h o f _=>t b h o f)=D->m) r l (λb h o f p w _=>c b h o f p w) C l x
noncomputable def BE(c:dT)(f:aN->ak):ak:=if h:c.ctorIdx=24 then ato.elim (motive_2:=λ_=>ak) c h λe _=>f e else j
def EK(l:dT)(h:BE l r=D)(c:∀e p,ato e p=l->r e=D->m):m:=(dE h).elim λf t=>ato.elim (motive_2:=λu=>u=l->∀f,ato.elim (motive_2:=λ_=>ak) u f (λe _=>r e)=D->m) l f (λe p w _=>c e p w) C f t
noncomputable def R_(c:dT)(f:ak):ak:=if h:c.ctorIdx=26 then dT.Break.elim (motive_2:=λ_=>ak) c h λ_=>f else j
def anE(l:dT)(h:R_ l r=D)(c:∀p,dT.Break p=l->r=D->m):m:=(dE h).elim λf t=>dT.Break.elim (motive_2:=λu=>u=l->∀f,dT.Break.elim (motive_2:=λ_=>ak) u f (λ_=>r)=D->m) l f (λp w _=>c p w) C f t
noncomputable def Sa(c:dT)(f:ak):ak:=if h:c.ctorIdx=27 then dT.Continue.elim (motive_2:=λ_=>ak) c h λ_=>f else j
def anF(l:dT)(h:Sa l r=D)(c:∀p,dT.Continue p=l->r=D->m):m:=(dE h).elim λf t=>dT.Continue.elim (motive_2:=λu=>u=l->∀f,dT.Continue.elim (motive_2:=λ_=>ak) u f (λ_=>r)=D->m) l f (λp w _=>c p w) C f t
end
section
variable{m:Prop}{B:Type}
noncomputable def lC(l:G B)(k:B->G B->ak):ak:=match l with|[]=>j|a::r=>k a r
def g7(l:G B)(h:lC l k=D)(c:∀a r,a::r=l->k a r=D->m):m:=match l,h,c with|a::r,h,c=>c a r C h
noncomputable def l1(l:G B)(k:B->ak):ak:=lC l λa r=>r.isEmpty&&k a
def iz(l:G B)(h:l1 l k=D)(c:∀a,[a]=l->k a=D->m):m:=g7 l h λa _ w h=>c a (pz.mp (bh h).1▸w) (bh h).2
noncomputable def l2(l:G B)(k:B->B->ak):ak:=lC l λa r=>l1 r<|k a
def yz(l:G B)(h:l2 l k=D)(c:∀a b,[a,b]=l->k a b=D->m):m:=g7 l h λa r w h=>iz r h λb f h=>c a b (f▸w) h
noncomputable def oS(o:ar B)(k:B->ak):ak:=match o with|z=>j|q a=>k a
def BF(o:ar B)(h:oS o k=D)(c:∀a,q a=o->k a=D->m):m:=match o,h,c with|q a,h,c=>c a rfl h
def iA(l:G B)(h:l.isEmpty=D):[]=l:=(pz.mp h).symm
noncomputable def BG(e:aN)(k:ah->G aN->eZ->ak):ak:=EG e λf a l p=>l.isEmpty&&kY f λr _=>k r a p
def EL(e:aN)(h:BG e k=D)(c:∀r t a p,.Call (.Name r t) a [] p=e->k r a p=D->m):m:=Kh e h λf a E p w h=>kZ f (bh h).2 λr t u x=>c r t a p (u▸pz.mp (bh h).1▸w) x
noncomputable def k6(e:aN):ak:= !(e.ctorIdx==22)
def EM(h:k6 e=D)(c:fX):nA (e::f) c=(j,eval e c)::nA f c:=by cases e<;>first|rfl|exact bZ h
def EN(h:k6 e=D)(c:fX)(r:G aN):qM (e::r) c=(j,assign e c)::qM r c:=by cases e<;>first|rfl|exact bZ h
noncomputable def Ki(e:aN):ak:= !(e.ctorIdx==26)
def Sb(h:Ki e=D):vC e:=λo i=>by cases e<;>first|rfl|exact bZ h
noncomputable def yA(e:aN):ak:= !(e.ctorIdx==7)
def BH(h:yA e=D)(c:fX)(v:au):zd e c v=pure v:=by cases e<;>first|rfl|exact bZ h
noncomputable def EO(e:aN):ak:= !(e.ctorIdx==16)
def Se(h:EO e=D)(n:ah)(c:fX)(x:jW au):attributeBase e n c x=x:=by cases e<;>first|rfl|exact bZ h
end
section
variable{c:Cf}
noncomputable def Cf.ni(c:Cf)(f:aw):Cf:={s:={c.s with heap:=(c.s.heap.push emptyDict).push (instObj f c.s.heap.objs.size)},W:=iw (iw c.W (c.s.heap.objs.size+1)<|q<|.ih c.M.ins.length) c.s.heap.objs.size<|q<|.id c.M.ins.length,H:=c.H,I:=xT c.I c.M.ins.length (c.s.heap.objs.size+1,c.s.heap.objs.size),M:=⟨c.M.fl,c.M.ins++[q (f,[])]⟩}
def Sf:kP kO c (c.ni f):=⟨λa _ _ e=>have l:=hR e;⟨jp _<|jp _ e,(dG<|hO l).trans<|dG<|hO<|UN l⟩,λ_ h=>h.elim,λ_ _=>⟨C,C⟩,λ_ l=>⟨AG l,DR l⟩,bR _,aG (jV _)<|cY jh.symm⟩
def EP:(c.ni f).I c.M.ins.length=(c.s.heap.objs.size+1,c.s.heap.objs.size):=AF _ _ _
def anG(S:St t w u c)(Q:p∈tw):Nx t w u c (c.ni p):=by
 have x:(c.ni p).h.get? c.s.heap.objs.size=q emptyDict:=jp _<|jq _ rfl;have E:(c.ni p).h.get? (c.s.heap.objs.size+1)=q (instObj p c.s.heap.objs.size):=(az _ (asy c.s.heap emptyDict).symm).trans<|jq (c.s.heap.push emptyDict) C;have L:(c.ni p).W c.s.heap.objs.size=q (.id c.M.ins.length):=gA _ _ _;have N:(c.ni p).W (c.s.heap.objs.size+1)=q (.ih c.M.ins.length):=(dG<|asZ _).trans<|gA _ _ _;have O:c.M.ins.length<(c.ni p).M.ins.length:=jD (mG _) jh.symm;refine⟨Sf.st S (λa r g e=>if f:a=c.s.heap.objs.size then by
   subst f
   obtain rfl:=bH<|L.symm.trans e
   exact⟨⟨(az FL EP).symm,O⟩,_,x⟩
  else if P:a=c.s.heap.objs.size+1 then by subst P;obtain rfl:=bH<|N.symm.trans e;exact⟨⟨(az sy EP).symm,O⟩,_,E⟩
  else(by injection(g.symm.trans<|(dG P).symm.trans<|(dG f).symm.trans e))) (λn _ l e _=>absurd (fC e)<|lX.mpr l) λn R Y l e=>?_,Sf.ay,C,C⟩
 have m:=AH l e;clear l e;obtain rfl:=m.1;cases m.2;delta DL;exact U EP<|Vf N L E (bV _ [] x ⟨C,(fY _ _ rfl rfl)⟩ C) Q C
end
noncomputable def vY:F->ak| .af l=>l.isEmpty|_=>j
noncomputable def Sg(m:ak)(e:kA):Mine.X:=match e with
 | .i_ i=>.var (i+1)
 | .ff f=>match vY f with|D=>.af j []|j=>.lit f
 | .nF=>.af m []
noncomputable def Sh(m:Cx)(e:kA)(v:aN):ak:=match e with
 | .i_ i=>kY v λid _=>nh m id<|i+1
 | .ff f=>match vY f with|D=>yy v λl=>l.isEmpty|j=>vU v λc=>oj f c
 | .nF=>yy v λl=>l.isEmpty
noncomputable def Kj(p:Cx):G (ah×kA)->G dT->ak|[],m=>m.isEmpty|x::l,m=>lC m λu r=>BD u (λE v _=>l1 E λt=>tP t λo n _=>kY o λid _=>nh p id 0&&(n==x.1&&(ph.contains n&&Sh p x.2 v)))&&Kj p l r
noncomputable def BJ(m:ak)(p:G V)(e:kA)(l:G FObj):ar (V×G FObj):=match e with| .i_ i=>(p[i]?).map λv=>(v,l)| .ff f=>q (.fz f,l)| .nF=>match m with|D=>q (.ref l.length,l++[.list []])|j=>q (.fz<|.af [],l)
noncomputable def tQ(m:ak)(p:G V):G (ah×kA)->G FObj->ar (G (ah×V)×G FObj)|[],l=>q ([],l)|x::r,l=>(BJ m p x.2 l).bind λy=>(tQ m p r y.2).bind λf=>q ((x.1,y.1)::f.1,f.2)
def anH(p:G V):∀(l:G (ah×kA))(m:G FObj),wN p l m=tQ D p l m:=by
 intro r;induction r with
 |nil=>exact λm=>C
 |cons x l ih=>
  intro m;have ih:=ih;cases x with
  |mk n e=>
   cases e with
   |i_ i=>
    show((p[i]?).map λv=>(v,m)).bind _=ar.bind ((p[i]?).map λv=>(v,m)) _;refine oc (p[i]?) ?_ λv=>?_;·rfl
    ·show(wN p l m).bind _=_;exact U (ih ..) C
   |ff f=>show(wN p l m).bind _=_;calc U (ih ..);rfl
   |nF=>show(wN p l<|m++[.list []]).bind _=_;calc U (ih ..);rfl
def anI(t:G F):∀{l:G (ah×kA)}{u:G FObj}{r:G (ah×F)},Cu t l=q r->tQ j (t.map .fz) l u=q (r.map λe=>(e.1,.fz e.2),u):=by
 intro L;induction L with
 |nil=>intro u r e;obtain rfl:=bH e;rfl
 |cons x l ih=>
  intro u r h;cases x with
  |mk n e=>
   have two:∀{o:ar F},(o.bind λf=>(Cu t l).bind λl=>q<|(n,f)::l)=q r->BJ j (t.map .fz) e u=o.map (λf=>(.fz f,u))->((BJ j (t.map .fz) e u).bind λy=>(tQ j (t.map .fz) l y.2).bind λm=>q ((n,y.1)::m.1,m.2))=q (r.map λe=>(e.1,.fz e.2),u):=λ{o} h p=>(jr.mp h).elim λf k=>(jr.mp k.2).elim λl' E=>by refine U p<|U k.1 ?_;show(tQ j (t.map .fz) l u).bind _=_;calc U (ih E.1);clear k;obtain rfl:=bH E.2;rfl
   cases e with|i_ i=>exact two (o:=t[i]?) h (by show ar.map _ _=_;calc U (LU);cases t[i]? <;>rfl)|ff f=>exact two (o:=q f) h C|nF=>exact two (o:=q<|.af []) h C
def anJ:∀{l:G (ah×kA)}{p:G FObj}{r:G (ah×V)×G FObj},tQ m L l p=q r->r.1.map (·.1)=l.map (·.1):=by intro t;induction t with|nil=>intro p r h;obtain rfl:=bH h;rfl|cons x l ih=>intro p r h;exact dh (vB h) λy f _ u E=>E▸az (x.1::·) (ih u)
def anK(l:p.all dU=D)(h:BJ m p e x=q r):dU r.1=D:=by
 cases e with
 |i_ i=>exact av (iE.mp h) λv t u=>u▸fc.mp l v (zf t)
 |ff f=>injection h with h;subst h;rfl
 |nF=>cases m<;>(injection h with h;subst h;rfl)
def anL(x:∀i:aj,ρ[i+1]? =(E[i]?).map q)(h:BJ m E e t.fl=q r)(p:P r.1 ⟨r.2,t.ins⟩):WX L (Sg m e) ρ t P:=by
 cases e with
 |i_ i=>exact av (iE.mp h) λv N O=>by obtain rfl:=O;show oP ρ[i+1]? _;refine U (x ..)<|U N ?_;exact p
 |ff f=>
  injection h with h;subst h
  show WX L (match vY f with|D=>.af j []|j=>.lit f) ρ t P;refine bX (vY f) (λu=>?_) λ_=>?_;·cases f with|af l=>obtain rfl:=pz.mp u;exact p|_=>exact bZ u
  ·exact p
 |nF=>cases m<;>(injection h with h;subst h;exact p)
section
variable{K:cH}{B:G (ah×F)}{e:kA}
def anM(h:Sh u e v=D):eP r w t x d u (Sg m e) v:=by cases e with|i_ i=>exact kZ v h λid p w h=>w▸(Iz h).1|ff f=>show eP r w t x d u (match vY f with|D=>.af j []|j=>.lit f) v;have h:(match vY f with|D=>yy v λE=>E.isEmpty|j=>vU v λc=>oj f c)=D:=h;revert h;exact bc (vY f) (λh=>EI v h λl p w h=>w▸iA l h▸(IJ II).1) λh=>BB v h λk n p w h=>w▸(PW h).1|nF=>exact EI v h λl p w h=>w▸iA l h▸(IJ II).1
def Si(h:aH (ax f w) A (eval o l) (λm p=>aH (ax f w) A (setAttr m n v) Q E p) E s):aH (ax f w) A (assign (.Attribute o n pos) l v) Q E s:=U (arm_assign_Attribute ..)<|aL<|i8<|gm h (λm u r=>aL<|lb<|aL<|i8<|gm r (λ_ x t=>atp t) λ_ _ e=>e) λ_ _ e=>e
def Sj(h:aH (ax l w) A (eval f m) (λv p=>aH (ax l w) A (eval o m) (λr t=>aH (ax l w) A (setAttr r n v) (λ_=>Q .next) E t) E p) E s):aH (ax l w) A (exec (.Assign [.Attribute o n x] f pos) m) Q E s:=U_ (gm h (λv L u=>Si u) λ_ _ e=>e) (by clear h;cases f<;>rfl) (by clear h;cases f<;>rfl)
noncomputable def BK(f:G (ah×V)):G (ah×V)->G (ah×V)|[]=>f|e::r=>BK (gG e.1 e.2 f) r
noncomputable abbrev Sm:Fns:={call:=λ_ _ _ _=>False,cls:=λ_=>z,gl:=[]}
def anN(L:Su prog w h₁ K B mg mb)(h0:f.ρ[0]? =q (q<|.dJ n))(Kk:∀i:aj,f.ρ[i+1]? =(vs[i]?).map q)(hx:vs.all dU=D):∀{l:G (ah×kA)}{body:G dT}{fs:G (ah×V)}{r:G (ah×V)×G FObj}{c:Cf},Kj f.cx l body=D->tQ m vs l c.M.fl=q r->c.M.ins[n]? =q (q (cl,fs))->fs.length+l.length<95->Rd prog w h₁ d f c->(∀c',Nx prog w h₁ c c'->c'.M=⟨r.2,c.M.ins.set n<|q (cl,BK fs r.1)⟩->Q .next c'.s)->aH (ax prog w) f.A (execs body f.env) Q E c.s:=by
 intro bg;induction bg with
 |nil=>
  intro body fs r c hc he hi hl R N;exact iA body hc▸(zj (by
   injection he with he;subst he
   exact N c (.refl R.st)<|az (Mem.mk c.M.fl) (G.ext_getElem? λO=>by
    by_cases P:O=n;·subst P;calc U (atq<|fC hi);exact hi
    ·exact U (UZ<|Ne.symm P) C)))
 |cons x l ih=>
  intro body fs r c hc he hi hl R N;exact g7 body hc λY body w h=>by
   clear hc;subst w;refine dh (vB he) λy P xY xZ Ir=>?_;clear he;obtain rfl:=Ir;refine EJ Y (bh h).1 λts v p w1 h1=>iz ts h1 λt w2 h1=>vV t h1 λo nm p1 w3 h1=>kZ o h1 λid p2 w4 h1=>?_;subst w4;subst w3;subst w2;subst w1;refine have k:=bh h1;have k2:=bh k.2;have k3:=bh k2.2;have k4:=bw.mp k2.1;L2 (Sj (anM (x:=Sm) (m:=m) k3.2 f c (λv Z=>v=y.1/\Z=⟨y.2,c.M.ins⟩) _ _ rfl R (anL Kk xY ⟨C,C⟩) λv c1 u e1 n1 r1=>(Iz (Z:=Sm) (d:=d) (u:=h₁) k.1).1 f c1 (λv Z=>v= .dJ n/\Z=c1.M) _ _ rfl (R.on n1) (by show oP f.ρ[0]? _;exact U h0 ⟨C,C⟩) λv2 c2 u2 e2 n2 r2=>?_));have tM:c2.M=⟨y.2,c.M.ins⟩:=e2.2.trans e1.2;have Jg:c2.M.ins[n]? =q (q (cl,fs)):=by refine U tM ?_;exact hi
   refine RR L n2.st (e2.1▸r2) Jg (r1.ay n2.ay) (e1.1▸anK hx xY) (qB (mB ..)<|Fx hl {}) k3.1 λh3 tk3 n3=>?_;have n123:=(n1.trans n2).trans n3;have BL:(c2.it h3 tk3 n<|q (cl,gG nm v fs)).M=⟨y.2,c.M.ins.set n<|q (cl,gG nm v fs)⟩:=by show(⟨c2.M.fl,c2.M.ins.set n _⟩:Mem)=_;exact U tM C
   exact ih (bh h).2 (U BL xZ) (U BL<|atq<|fC hi) (qB (yK RP l.length)<|U (yL fs.length 1 l.length) hl) (R.on n123) λc4 n4 hM4=>N c4 (n123.trans n4)<|U hM4<|U BL<|U k4<|U e1.1<|az (Mem.mk P.2)<|atr ..
end
noncomputable def EQ(v:au)(k:aw->ak):ak:=if h:v.ctorIdx=10 then hG.elim (motive:=λ_=>ak) v h k else j
def Kl(h:EQ v k=D):∃a,v= .ref a/\k a=D:=(dE h).elim<|hG.elim (motive:=λv=>∀c,hG.elim (motive:=λ_=>ak) v c k=D->∃a,v= .ref a/\k a=D) v (dE h).1 λa _ h=>(aT a rfl h)
noncomputable def Sn(v:Data)(k:zg->ak):ak:=if h:v.ctorIdx=7 then Data.func.elim (motive:=λ_=>ak) v h k else j
def anQ(h:Sn v k=D):∃a,v= .func a/\k a=D:=(dE h).elim<|Data.func.elim (motive:=λv=>∀c,Data.func.elim (motive:=λ_=>ak) v c k=D->∃a,v= .func a/\k a=D) v (dE h).1 λa _ h=>(aT a rfl h)
noncomputable def So(v:FuncBody)(k:G dT->ak):ak:=if h:v.ctorIdx=0 then FuncBody.stmts.elim (motive:=λ_=>ak) v h k else j
def anR(h:So v k=D):∃a,v= .stmts a/\k a=D:=(dE h).elim<|FuncBody.stmts.elim (motive:=λv=>∀c,FuncBody.stmts.elim (motive:=λ_=>ak) v c k=D->∃a,v= .stmts a/\k a=D) v (dE h).1 λa _ h=>(aT a rfl h)
def tR{k:c->ak}(h:oS o k=D):∃a,o=q a/\k a=D:=BF o h λa w h=>(aT a w.symm h)
noncomputable def ER(K:cH)(f:aw)(k:zg->G dT->ak):ak:=oS (K.lookup f) λo=>Sn o.data λc=>codeIn K c.code c.qualname&&So c.body (k c)
structure Sq(K:cH)(f:aw)(fd:zg)(body:G dT):Prop where
 aq:∃o,K.lookup f=q o/\o.data= .func fd
 code:codeIn K fd.code fd.qualname=D
 body:fd.body= .stmts body
def Km{K:cH}(h:ER K f k=D):∃l c,Sq K f l c/\k l c=D:=av (tR h) λo p r=>av (anQ r) λl t m=>av (anR (bh m).2) λc u x=>(fY l c ⟨(aT o p t),(bh m).1,u⟩ x)
set_option backward.match.sparseCases true in
noncomputable def anS(f:wA):au:=match f with| .ret v=>v|_=>.none
section
variable{K:cH}
def enter(l:Su p w B K gl mg mb)(t:JK u L P)(Q:Sq K J u E)(hA:A.depth<recursionLimit)(hv:O.length=L.np)(Y:O.all dU=D)(S:St p w B c)(F:jw A c)(r:dI p w c O Z)(m:∀h N,Nx p w B c (c.gr h N)->bY p w (Fr.call A u L P O (gn u c.s.heap.objs.size J)) (c.gr h N)->(∀a,FX (Fr.call A u L P O (gn u c.s.heap.objs.size J)) a->c.h.get? a=z)->
   aH (ax p w) (A.deeper (gn u c.s.heap.objs.size J)) (execs E (gn u c.s.heap.objs.size J)) (λf s'=>R (.ok (.ret (anS f))) s')
    (λe s'=>aH (ax p w) (A.deeper (gn u c.s.heap.objs.size J)) (leaving (gn u c.s.heap.objs.size J) e) (λ_ vZ=>R (.error e) vZ) (λe' vZ=>R (.error e') vZ) s') (c.gr h N).s):i9 (ax p w) A (.call (.ref J) ⟨Z,[]⟩) R c.s:=by
 have hyl:Z.length=L.np:=r.len.symm.trans hv
 have w7:u.params.args.length=L.np:=by
  have:=az mC t.pn
  rw[bx,atf,t.len]at this
  exact this.trans (Fl t.le)
 refine av Q.aq λo nt vP=>?_
 refine ats (fd:=u) (body:=E) (binds:=(P.take L.np).zip Z) hA (l.in S _ _ nt) vP (l.nolimit.keeps S.jR) (att (l.in S) Q.code) Q.body (U (Rv t.pp t.df (hyl.trans w7.symm)) (U t.pn C)) (pz.mp t.Ry)
  (λx Y=>(t.pk x.1 (U7 Y).1).imp id λh=>⟨h,JJ (.inl (mem_of_lookup h))⟩) (λs1 ET=>?_) t.co t.Rz t.kind
 refine mJ (amF (A:=A) t hv Y S F r ET) λh N bA bG eL jQ=>?_
 clear ET;obtain rfl:=bA
 exact m h N bG eL jQ
noncomputable def BM(K:cH)(c:aw)(p:aj)(l:G (ah×kA)):ak:=makesIn K c&&(tw.contains c&&(aa (l.length<90)&&(gY (l.map (·.1))&&(keepIn K (.ref c)&&oS (findIn K (.ref c) "__init__") λx=>oS x λv=>EQ v λr=>typeIn K (.ref r)==q (.type "function")&&ER K r λm f=>Ez m ⟨p+1,p+1,[]⟩ (m.params.args.map (·.arg))&&Kj ⟨m.scope,m.params.args.map (·.arg)⟩ l f))))
def anU:∀{f:G (ah×V)},(f.map (·.1)).contains n=j->gG n v f=f++[(n,v)]:=by intro l;induction l with|nil=>exact λ_=>C|cons e f ih=>exact λh=>have h:(n==e.1||(f.map (·.1)).contains n)=j:=h;have h:=ak.or_eq_false_iff.mp h;U (yw<|mF.mpr λc=>mF.mp h.1 c.symm) (U (ih h.2) C)
def anV:∀{l f:G (ah×V)},gY (f.map (·.1)++l.map (·.1))=D->BK f l=f++l:=by
 intro m;induction m with
 |nil=>intro f _;exact(bK f).symm
 |cons e l ih=>
  intro f h;have p:(f.map (·.1)).contains e.1=j:=by cases c:(f.map (·.1)).contains e.1 with|false=>rfl|true=>exact(QW h (fW.mp c)<|.head _).elim
  show BK (gG e.1 e.2 f) l=_;refine U (anU p)<|U (ih (by refine U fx<|U (cZ ..) ?_;exact h))<|U (cZ ..) ?_;rfl
def Sr:(wu.builtin "type.__call__" ⟨.ref c::f,[]⟩).weight<=1:=by first|exact cY C|exact cD 1
def anW:(wu.builtin "type.__call__" ⟨.ref c::f,[]⟩).cUnits<=50:=yS C
theorem Ss[fe d](f:Su B w J K gl mg mb)(hco:BM K u np l=D)(hA:eT A d)(F:jw A c)(S:St B w J c)(r:dI B w c N L)(hn:N.length=np)(hx:N.all dU=D)(he:tQ m N l c.M.fl=q O)(p:∀Y,Nx B w J c Y->Y.M=⟨O.2,c.M.ins++[q (u,O.1)]⟩->Q (.ref (Y.I c.M.ins.length).1) Y.s):aH (ax B w) A (call (.ref u) L) Q E c.s:=by
 refine have k1:=bh hco;have k2:=bh k1.2;have k3:=bh k2.2;have k4:=bh k3.2;have k5:=bh k4.2;av (tR k5.2) λx anX Sv=>av (tR Sv) λv anY Sw=>av (Kl Sw) λfI anZ an0=>have k9:=bh an0;(Km k9.2).elim λfd k=>av k λbody aW a_=>?_;have P:=bh a_;have hs:=JL P.1;have X:=f.in S;clear Sv;obtain rfl:=anY;clear Sw;obtain rfl:=anZ;refine have Z:=anG S<|fW.mp k2.1;have hI:(c.ni u).I c.M.ins.length=_:=EP;Ch (make_core (makes_of X k1.1) (L3 X anX) (λR=>bind_fn X R<|bw.mp k9.1) (.inl C)<|have rs1:dI B w (c.ni u) (.dJ c.M.ins.length::N) (.ref (c.s.heap.objs.size+1)::L):=(bV _ _ rfl ⟨az (λt:aw×aw=>hG t.1) hI.symm,jD (mG _) jh.symm⟩<|r.ay Z.ay);have F1:jw (A.under<|.builtin "type.__call__" ⟨.ref u::L,[]⟩) (c.ni u):=F.cL λa h=>h.cL Z.ay (λ_ _ h=>h) λ_ _ _ _ h=>h;have hd1:=hA.depth;have hd2:=hA.units;have hd:=UQ<|fe.ne d;have hw:=Sr (c:=u) (f:=L);have hu:=anW (c:=u) (f:=L);enter (c:=c.ni u) (O:=.dJ c.M.ins.length::N) f hs aW ?_ (az (· +1) hn) hx Z.st F1 rs1 λh tk n2 E2 _=>?_);·show A.depth+_<1000;lia
 ·have hAO:eT ((A.under<|.builtin "type.__call__" ⟨.ref u::L,[]⟩).deeper<|gn fd (c.ni u).s.heap.objs.size fI) 0:=by
   refine⟨.inl C,?_,?_⟩
   ·show A.depth+(wu.builtin "type.__call__" ⟨.ref u::L,[]⟩).weight+1+_<=_;lia
   ·show A.units+(wu.builtin "type.__call__" ⟨.ref u::L,[]⟩).cUnits+3+_<=_;lia
  refine have an3:((c.ni u).gr h tk).M.ins[c.M.ins.length]? =q (q (u,[])):=Bo;anN (n:=c.M.ins.length) (vs:=N) (m:=m) (cl:=u) (d:=0) (c:=(c.ni u).gr h tk) f C (λi=>?_) hx P.2 he an3 (qB (cY<|kq _)<|Fx (dw k3.1) {}) ⟨hAO,E2,n2.st⟩ λc3 n3 BL=>?_
  ·show(N.map q++bN (np+1-(np+1)) z)[i]? =_;exact U (yO ..)<|U G.replicate_zero<|U (bK ..)<|U (LU) C
  ·refine have an4:BK [] O.1=O.1:=anV (f:=[])<|U (anJ he) k4.1;have n:=(Z.trans n2).trans n3;have hl:c.M.ins.length<((c.ni u).gr h tk).M.ins.length:=jD (mG _) jh.symm;have hI3:(c3.I c.M.ins.length).1=c.s.heap.objs.size+1:=az sy<|(n3.ay.I _ hl).trans hI;⟨C,?_⟩;have g:=p c3 n<|U BL<|U an4<|az (Mem.mk O.2) JD;rw[hI3]at g;exact g
end
section
variable{u:cA}{w:b9}{B:bt}{K:cH}{Z:G (ah×F)}{x E:ah->ar au}{O:Fns}{d:aj}{R:Cx}{c:Cf}{J l:aw}{id:ah}{p t:eZ}{N:G Mine.X}{L:G aN}{s:a8}
def an6{l:G F}:bp u w c.b l r->dI u w c (l.map .fz) r:=bp.eF (P:=λl r=>dI u w c (l.map .fz) r) C (λ_ _ _ _ a _ f=>bV _ _ rfl a f) l
def an7:∀(l:G (ah×F)),lj b ρ f (l.map λe=>(e.1,V.fz e.2)) r=q (l,r):=by intro P;induction P with|nil=>exact C|cons e l ih=>exact Ka.trans (by show(lj b ρ f (l.map λe=>(e.1,V.fz e.2)) r).bind _=_;calc U (ih);rfl)
def an8[fe d]{Y:ak}(z0:Su u w B K Z x E)(CO:∀c np l,O.cls c=q (np,l)->BM K c np l=D)(hk:keepIn K (.ref J)=D)(hf:i4 K R id (q<|.ref J)=D)(h:jS u w B O d R N L):ed u w B O d R (.cls Y J N) (.Call (.Name id t) L [] p):=
 iZ (λf c P Q ze hc r hw zl=>qr h hc r hw (λQ'=>z0.yg r.e r.st<|hc▸hf) (By z0 hk) λvs c1 ys hl e n1 r1=>by
  refine cq (kQ e) λnp l cI cG=>?_;have hco:=CO J np l cI;have g2:=cO cG;have g3:=bh g2.1;have hn:=bw.mp g3.1;clear hw cG;cases Y with
  |true=>exact(kQ g2.2).elim λfs k=>av k λfl aW a_=>Ss z0 hco r.a (r.on n1).e.fr n1.st r1 hn g3.2 ((anH vs l c1.M.fl).symm.trans aW) λc2 n2 hM=>zl (.dJ c1.M.ins.length) c2 _ (U hM a_) (n1.trans n2) ⟨C,by calc U hM;exact jD (mG _) jh.symm⟩
  |false=>
   refine(kQ g2.2).elim λfs k=>av k λzw aW a_=>av (dq a_) λl' oh qo=>av (IF n1.st r1 aW) λW bA bG=>?_;have n12:=n1.trans bA;refine Ss (c:=c1.re W zw) (m:=j) z0 hco r.a (r.on n12).e.fr n12.st (an6 bG) ?_ (fc.mpr λzx hx=>av (mE.mp hx) λa _ aV=>aV▸C) (anI fs oh) λc2 n2 hM=>?_;·refine U (bx ..)<|U bG.len ?_;exact r1.len.symm.trans hn
   ·have hM1:c2.M.ins=zw.ins++[q (J,l'.map λe=>(e.1,V.fz e.2))]:=(az Mem.ins hM:);have tM:c2.M.fl=zw.fl:=(az Mem.fl hM:);refine av (RV (b:=zw.fl.length) (ρ:=[]) n2.st hM1 C (al2 (c:=c1.re W zw) n12.st) (an7 l')<|cY (az mC tM).symm) λW2 Sx an_=>?_;have n3:Nx u w B (c1.re W zw) (c2.re W2 ⟨c2.M.fl,zw.ins⟩):=⟨Sx.st,n2.ay.trans Sx.ay,n2.gens,n2.os⟩;refine zl (.fz<|.hV J l') (c2.re W2 ⟨c2.M.fl,zw.ins⟩) _ ?_ (n12.trans n3) an_;refine U tM ?_;exact qo) λ_ _=>C
def bp.set(r:bD u w b f y){l:G F}(n:aj)(h:bp u w b l Q):bp u w b (l.set n f) (Q.set n y):=bp.eF (P:=λl Q=>∀n,bp u w b (l.set n f) (Q.set n y)) (λ_=>C) (λg v l Q a k P n=>by cases n with|zero=>exact bV y _ rfl r k|succ n=>exact bV v _ rfl a<|P n) l h n
def Sy(hl:mI s.heap l items ep)(aoa:arI k=D)(hi:(0<=k/\f=k.toNat)\/(k<0/\seqIndex? k items.size=q f))(hj:f<items.size)(hQ:∀h' n',mI h' l (items.setIfInBounds f v) n'->ui l s.heap h'->Q jX.unit {s with heap:=h'}):aH (ax u w) A (setItem (.ref l) (.int k r) v) Q P s:=by
 refine cP hl.isList λo ho hc fB=>Exists.elim fB λne hd=>have hlist:=hl.isList;have hx:items[f]? =q items[f]:=Ci hj;have gJ:∃n',uj (λN=>N.setIfInBounds f v) {cls:=.type "list",dict:=z,data:=.seq items ep,slots:= #[]}={cls:=.type "list",dict:=z,data:=.seq (items.setIfInBounds f v) n',slots:= #[]}:=⟨_,C⟩;Exists.elim gJ λn' gJ=>?_;have EU:mI (s.heap.update l<|uj (·.setIfInBounds f v)) l (items.setIfInBounds f v) n':=by show bt.get? _ _=_;exact U (qL _ hl<|U gJ C)<|U gJ C
 delta setItem;try with_reducible refine i8 ?_
 first|refine aL (bu ?_)|skip
 refine aL<|wpAny_sequenceKey hlist.typeIs {} ?_;refine aL (wpAny_callSpecial?_slot (name:=cV "__setitem__") hlist.typeIs atu
  (LA atu hlist.typeIs entry_list_setitem ?_<|args_list_setitem _ _ _))
 show aH _ _ (Builtin.List.listSubscript? (.int k r)>>=_) _ _ s;refine aL<|wpAny_listSubscript_int aoa ?_;cases k with
 |ofNat Y=>have hm:f=Y:=hi.elim (λh=>h.2) λh=>absurd h.1<|sp.mpr<|gB Y;subst hm;refine aL<|aL<|wpAny_seqItemAt ho hd<|bu<|U hx<|aL<|atv ho hd ?_;first|exact aL<|bu<|bu ⟨.none,C,bu<|hQ _ _ EU<|zb ..⟩|exact bu ⟨.none,C,bu<|hQ _ _ EU<|zb ..⟩
 |negSucc Y=>
  refine have hidx:=hi.elim (λh=>absurd h.1<|uf.mpr<|M.negSucc_lt_zero Y) λh=>h.2
  aL (aL<|aL<|wpAny_seqItems ho hd<|bu<|bu<|U hidx ?_)
  simp only[UK,hx,ar.map_some]
  refine aL<|atv ho hd ?_
  first|exact aL<|bu<|bu ⟨.none,C,bu<|hQ _ _ EU<|zb ..⟩|exact bu ⟨.none,C,bu<|hQ _ _ EU<|zb ..⟩
variable(u w B)in
def Sz(c:Cf)(P:G FObj->Prop)(Q:jX->a8->Prop):Prop:=∀h r n f,Nx u w B c (c.tn h r n f)->P (c.M.fl.set n f)->Q jX.unit (c.tn h r n f).s
def aob(S:St u w B c)(hn:c.M.fl[n]? =q (.list ls))(ry:bD u w c.b f y)(e:Cs ls k f λl=>P<|c.M.fl.set n<|.list l)(r:Sz u w B c P Q):aH (ax u w) A (setItem (.ref<|c.H n) (.int k Y) y) Q z0 c.s:=
 (S.fl n _ hn C).2.elim λitems g=>g.1.elim λep g'=>by
  have ze:=cO e;have se:=AS ze.1;have hsz:ls.length=items.size:=g.2.len;have e:=ze.2;have fin:∀zl:aj,P (c.M.fl.set n<|.list<|ls.set zl f)->∀h' n',mI h' (c.H n) (items.setIfInBounds zl y) n'->ui (c.H n) c.s.heap h'->Q jX.unit {c.s with heap:=h'}:=λzl p h' n' fM sb=>r h' c.s.toks n (.list<|ls.set zl f) (dz S hn C sb fM λb kb=>(aT _ ⟨n',fM⟩ (by calc U asi;exact bp.set (bD.bz kb _ ry) _<|bp.bz kb _ g.2))) p;revert e;refine bX (aa<|0<=k) (λh0 e=>?_) λh0 e=>?_;·have e:=dM e;have h0:=dw h0;exact Sy g' (fitsIndex_of h0 se.2) (.inl ⟨h0,C⟩) (hsz▸(Fg h0).mpr e.1)<|fin _ e.2
  ·have e:=dM e;have h0:=uf.mp<|wj h0;have hx:seqIndex? k items.size=q (k+ls.length).toNat:=hsz▸ar6 h0 e.1;refine Sy g' (fitsIndex_neg h0 se.1) (.inr ⟨h0,hx⟩) ?_<|fin _ e.2;lia
def aoc(S:St u w B c)(rx:aP u w c o r)(rz:aP u w c i Y)(ry:bD u w c.b f y)(e:FU o i f c.M.fl P)(z0:Sz u w B c P Q):aH (ax u w) A (setItem r Y y) Q ze c.s:=by
 refine av (I_ e) λn aX aV=>av (dq aV) λfo rZ ES=>?_;obtain rfl:=aX;obtain rfl:=rx.1;rcases tC ES with g|g|g
 ·refine dZ (ji rz g) λk zl g=>?_;cases g.1;cases fo with|list l=>exact aob S rZ ry g.2 z0|di l=>exact have e:=dM g.2;av (JC S rZ) λkvs bA bG=>bA.elim λo z'=>Va (knd:=eY u w) (k:=k) (qm k zl) (z'.2.1.of z'.1) (λh' hd sb=>(lJ.Bj hd).elim λo' ho=>z0 h' _ n (.di<|cJ k f l) (dz S rZ C sb ho.1 λb kb=>(aT _ (cN o' ho.1 ho.2 z'.2.2)<|(dX.bz kb _ bG).oW (bD.bz kb _ ry)<|iX.Bf bA)) e.2)<|aG (cY bG.len.symm)<|aG (sq e.1) mw|_=>exact g.2.elim
 ·refine(mu rz g).elim λk g=>g.elim λzl g=>?_
  obtain rfl:=g.1;cases fo with
  |ds l=>exact have e:=dM g.2;(S.fl n _ rZ C).2.elim λkvs Y=>Y.1.elim λo z'=>Va (knd:=nz u w) (k:=k) (by simp[Vb,Vc]) (z'.2.1.of z'.1) (λh' hd sb=>(lJ.Bj hd).elim λo' ho=>z0 h' _ n (.ds<|cJ k f l) (dz S rZ C sb ho.1 λb kb=>(aT _ (cN o' ho.1 ho.2 z'.2.2)<|(eu.bz kb _ Y.2).oW (bD.bz kb _ ry)<|iX.Bf Y.1)) e.2)<|aG (cY Y.2.len.symm)<|aG (sq e.1) mw
  |di l=>
   have e:=cO g.2;clear ES;obtain rfl:=pz.mp e.1;refine(S.fl n _ rZ C).2.elim λkvs Y=>cP Y.1 λo vq vt JE=>?_;have hk:kvs=[]:=Y.2;subst hk;refine fH vt λd1 fB=>mJ fB λL ep d2 d3 d4 d5=>?_;have SB:L.toList=[]:=by generalize L.toList=Y at d4;cases d4;rfl
   exact have k3:lJ u w (nz u w) o []:=⟨d1,(jE L ep d2 (λe he=>(by rw[<-Ur,SB]at he;contradiction)) (U SB .nil)<|.nil)⟩;Va (knd:=nz u w) (k:=k) (by simp[Vb,Vc]) (k3.of vq) (λh' hd sb=>av (lJ.Bj hd) λo' nt vP=>z0 h' _ n (.ds [(k,f)]) (dz S rZ C sb nt λb kb=>(aT _ (cN o' nt vP JE)<|bV _ _ rfl (bD.bz kb _ ry) C)) e.2) (cD _)
  |_=>exact g.2.elim
 ·exact g.elim
end
def v7(K:cH):ak:=D3 "BaseException.__getattribute__" (findIn K (.ref 31) "__getattribute__")&&(AW (findIn K (.ref 31) "word")&&(AW (findIn K (.ref 31) "__getattr__")&&((clsIn K 31).any (·.hasDict)&&mroIn K 31 (.type "BaseException")==q D)))
section
variable{l:cA}{w:b9}{m h:bt}{K:cH}{B:G (ah×F)}{J L:ah->ar au}{N:Fns}{d i:aj}{u:Cx}{id:ah}{p O:eZ}
def aod{T:au}(X:K.In h)(I:LZ h e f 31 t)(c:mroIn K 31 T=q r):LN (ax l w) h (isInstance (.ref e) T) r:=I.type.andThen (looks_mroIn X c)
def aoe(a b:au):∃k:ak->jW jX,checkBuiltinCall "BaseException.__getattribute__" ⟨[a,b],[]⟩=(isInstance a (.type "BaseException")>>=k)/\k D=pure jX.unit:=by
 have c:builtinKind "BaseException.__getattribute__"=q .slot:=by decide+kernel
 have f:splitId "BaseException.__getattribute__"=q ("BaseException","__getattribute__"):=by decide+kernel
 unfold checkBuiltinCall;rw[c,f];exact aT _ rfl<|U (P:=λx:jW jX=>_=x) (F.args_bexc_ga a b).symm<|cB Ca
def aof(X:K.In s.heap)(c:v7 K=D)(I:LZ s.heap e oe 31 (q od))(hl:lookIn "word" od=q (q v))(hh:handedIn v=D)(r:Q v {s with toks:=s.toks+1}):aH (ax l w) A (getAttr (.ref e) "word" AX) Q E s:=by
 refine have c1:=bh c;have c2:=bh c1.2;have c3:=bh c2.2;have c4:=bh c3.2;av (D5 c4.1) λcd f4 f5=>?_;obtain⟨SD,g,dr,t,x⟩:=s;refine have L0:=I.type (M:=ax l w);aL (U9<|i8<|aL<|L0.at<|aL<|(L3 (M:=ax l w) X<|IM c1.1).at<|U (show(onTheHeap (hG 31)&&au.builtin "BaseException.__getattribute__"==au.builtin "object.__getattribute__")=j from by decide+kernel) ?_);delta getAttrByItsOwn hookBefore;refine U (cE<|show onTheHeap (hG 31)=D from C)<|aL<|(L3 (M:=ax l w) X<|D4 c3.1).at<|aL<|ase<|i8 ?_;delta callGetattribute;refine U (show(AX&&onTheHeap (au.builtin "BaseException.__getattribute__"))=j from by cases AX<;>rfl)<|aL<|U (atw.ga.bind<|.ref e)<|bu<|Ch<|LL atw.ga.plain F.entry_bexc_ga<|av (aoe (.ref e)<|.str "word" t) λk h1 h2=>U h1<|aL<|(aod (l:=l) (w:=w) X I<|bw.mp c4.2).at<|U h2<|bu ?_;have Y:aH (ax l w) A.in1 (Builtin.«object.__getattribute__» {pos:=[hG e,au.str (cV "word") t]})
   (λZ s'=>match Z with| .done (.ret v)=>aH (ax l w) A (handedOut v) Q E s'|_=>False) (λ_ _=>False) ⟨SD,g,dr,t+1,x⟩:=
  aL (bu<|aL<|bu<|aL<|L0.at<|aL<|(looks_find (M:=ax l w) X I<|Qi f4 (D4 c2.1) f5 hl).at<|bu<|show aH (ax l w) A (handedOut v) Q E ⟨SD,g,dr,t+1,x⟩from U (atx hh)<|bu r)
 exact gm Y (λf s' P=>by rcases f with(_|_|_|_)|_<;>first|exact P|exact P.elim) λ_ _ P=>P.elim
def SE(h:EO e=D):eval (.Attribute e n p) c=(do
   let o<-eval e c
   standAt p.atName
   let r<-holding [o] (getAttr o n D)
   letTemporaryGo e o r
   pure r):=by cases e<;>first|rfl|exact bZ h
def aog{v:V}{k:ah->Prop}(h:(match v with| .exc w=>k w|_=>False:Prop)):∃c,v= .exc c/\k c:=by cases v with|exc c=>exact(aT c rfl h)|_=>exact h.elim
def aoh(r:rG c e E):∃x f t,LZ c.h e x 31 (q f)/\lookIn "word" f=q (q<|.str E t):=av r λdd P Q=>nD P λx Y _ Z kU rO=>lZ Q λf bA _ eL jQ=>Vp jQ λkvs t es ep aW a_ dS=>rO.elim λvs hv=>(uo x f t ⟨Y,Z,by delta notCls;exact U hv C,by calc U kU;exact bA⟩<|Qg ⟨eL,(fY es ep aW a_)⟩ dS)
def aoi(x:Su l w m K B J L)(Y:v7 K=D)(hl:nh u id i=D):ed l w m N d u (.oH i) (.Attribute (.Name id O) "word" p):=
 iZ (λf c P Q E hc r hw Z=>by
  refine asb (h:= ?_)<|SE (h:=C)
  exact av (dq hw) λo aW a_=>av (dq a_) λv oh qo=>av (aog qo) λwd cI cG=>by
   clear qo;obtain rfl:=cI
   exact load r.e (hc▸hl) (aW.trans<|az q oh) λy ry=>av ry λe aoj aok=>aoj▸dZ (aoh aok) λoe od z0=>av z0 λt bA bG=>aof (x.in r.st) Y bA bG C<|Z.tk (v:=.fz (.str wd)) r.st cG ⟨t,C⟩) λ_ _=>C
end
def an{P:Prop}(h:(a&&b)=D)(c:a=D->b=D->P):P:=c (bh h).1 (bh h).2
mutual
noncomputable def r_(f:Cx):T->aN->ak| .var i,e=>kY e λm _=>nh f m i&& !(f.sc.names.lookup m==q .free)| .ai p,e=>vW e λl=>Kn f p l
noncomputable def Kn(f:Cx):G T->G aN->ak|[],c=>c.isEmpty|t::l,c=>lC c λe c=>k6 e&&(r_ f t e&&Kn f l c)
end
noncomputable def yB(x:Mine.X)(k:F->ak):ak:=if h:x.ctorIdx=0 then X.lit.elim (motive_1:=λ_=>ak) x h k else j
noncomputable def tT(x:Mine.X)(k:aj->ak):ak:=if h:x.ctorIdx=2 then X.var.elim (motive_1:=λ_=>ak) x h k else j
noncomputable def SG(x:Mine.X)(k:t_->Mine.X->Mine.X->ak):ak:=if h:x.ctorIdx=5 then X.aA.elim (motive_1:=λ_=>ak) x h k else j
noncomputable def SH(x:Mine.X)(k:ak->G Mine.X->ak):ak:=if h:x.ctorIdx=12 then X.af.elim (motive_1:=λ_=>ak) x h k else j
noncomputable def SI(x:Mine.X)(k:Mine.X->Mine.X->ak):ak:=if h:x.ctorIdx=15 then X.sub.elim (motive_1:=λ_=>ak) x h k else j
section
variable{B:Prop}(x:Mine.X)
def EV{k:F->ak}(h:yB x k=D)(c:∀f,X.lit f=x->k f=D->B):B:=(dE h).elim λl m=>X.lit.elim (motive_1:=λu=>u=x->∀l,X.lit.elim (motive_1:=λ_=>ak) u l k=D->B) x l (λf w _=>c f w) C l m
def SJ{k:aj->ak}(h:tT x k=D)(c:∀f,X.var f=x->k f=D->B):B:=(dE h).elim λl m=>X.var.elim (motive_1:=λu=>u=x->∀l,X.var.elim (motive_1:=λ_=>ak) u l k=D->B) x l (λf w _=>c f w) C l m
def aol{k:t_->Mine.X->Mine.X->ak}(h:SG x k=D)(c:∀o a b,X.aA o a b=x->k o a b=D->B):B:=(dE h).elim λf l=>X.aA.elim (motive_1:=λu=>u=x->∀f,X.aA.elim (motive_1:=λ_=>ak) u f k=D->B) x f (λo a b w _=>c o a b w) C f l
def aom{k:ak->G Mine.X->ak}(h:SH x k=D)(c:∀o a,X.af o a=x->k o a=D->B):B:=(dE h).elim λf l=>X.af.elim (motive_1:=λu=>u=x->∀f,X.af.elim (motive_1:=λ_=>ak) u f k=D->B) x f (λo a w _=>c o a w) C f l
def aon{k:Mine.X->Mine.X->ak}(h:SI x k=D)(c:∀a b,X.sub a b=x->k a b=D->B):B:=(dE h).elim λf l=>X.sub.elim (motive_1:=λu=>u=x->∀f,X.sub.elim (motive_1:=λ_=>ak) u f k=D->B) x f (λa b w _=>c a b w) C f l
end
noncomputable def v8(x:Mine.X):ak:=yB x Iu
noncomputable def SK(f:F)(k:M->ak):ak:=match f with| .int i=>k i|_=>j
def aoo{B:Prop}(f:F)(h:SK f k=D)(c:∀i,.int i=f->k i=D->B):B:=by cases f with|int i=>exact c i C h|_=>exact bZ h
def EW(x:Mine.X)(h:v8 x=D):x= .lit .none:=EV x h λ_ w h=>w▸az _ (PV h)
noncomputable def dK(f:Cx)(x:Mine.X)(e:aN):ak:=tT x λi=>kY e λl _=>nh f l i
noncomputable def dV(c:Cx)(x:Mine.X)(e:aN):ak:=SI x λa i=>BC e λv s=>Ki s&&(dK c a v&&dK c i s)
noncomputable def dC(p:Cx)(t:G Mine.X)(u:G aN):ak:=l1 t λx=>l1 u λe=>SG x λop a b=>aa (op= .Eq)&&yB b λf=>SK f λc=>EF e λl L N=>l1 L λo=>l1 N λr=>aa (o= .Eq)&&(dV p a l&&vU r λk=>oj (.int c) k)
noncomputable def Ko:G Mine.X->G aN->ak|[],l=>l.isEmpty|x::m,l=>lC l λe l=>k6 e&&(yB x (λf=>vU e λc=>oj f c)&&Ko m l)
noncomputable def aop(k:M)(o:ar aN):ak:=oS o λe=>vU e λc=>oj (.int k) c
noncomputable def Kp:G Mine.X->G M->G (ar aN)->G aN->ak|[],f,p,c=>f.isEmpty&&(p.isEmpty&&c.isEmpty)|x::r,f,p,c=>lC f λk f=>lC p λo p=>lC c λe c=>aop k o&&(SH x (λm l=> !m&&yy e λc=>Ko l c)&&Kp r f p c)
noncomputable def BN(K:cH)(f:Cx)(n:ah)(e:aN)(k:G aN->ak):ak:=BG e λl a _=>l==n&&(i4 K f n z&&k a)
noncomputable def SM(e:aN):ak:=vW e λ_=>D
noncomputable def Kq(K:cH)(l:Cx)(k:qP)(f p:aN->ak)(m:ak)(c it:aN):ak:=match k with| .plain=>m&&f it| .range=>m&&BN K l "range" it λa=>l1 a λx=>k6 x&&f x| .nE=>m&&(SM c&&BN K l "enumerate" it λa=>l1 a λx=>k6 x&&f x)| .zip=>SM c&&BN K l "zip" it λa=>l2 a λx y=>k6 x&&(f x&&(k6 y&&p y))
section
variable{E:cA}{J:bt}{K:cH}{d:aj}
def Kr(h:dK f x e=D):vO E w J l d f x e:=SJ x h λi w h=>w▸kZ e h λm p w h=>w▸al4 h
def SN(h:dV c x e=D):Ew E w J r d c x e:=aon x h λa i w h=>w▸EH e h λv s p w h=>w▸an h λf h=>an h λl m=>al6 (Sb f) (Kr l)<|Kr m
def SO{B:Prop}(c:Const)(h:oj (.int f) c=D)(l:∀k,.int k=c->oj (.int f) (.int k)=D->B):B:=by cases c with|int k=>exact l k C h|_=>exact bZ h
def aoq(h:dC O L N=D):Bn E w J Φ d O L N:=iz L h λx w h=>w▸iz N h λe w h=>w▸aol x h λop a b w h=>w▸an h λP h=>dw P▸EV b h λf w h=>w▸aoo f h λm w h=>w▸Kg e h λl Q R p w h=>w▸iz Q h λo w h=>w▸iz R h λr w h=>w▸an h λY h=>an h λZ u=>BB r u λc kk p w u=>w▸SO c u λk w u=>w▸by obtain rfl:=dw Y;exact al8 u (al5<|SN Z) al7
def aor:∀{m:G Mine.X}{l:G aN},Ko m l=D->Bq E w J N d O m l:=by intro r;induction r with|nil=>intro l h;exact iA l h▸amo|cons x m ih=>intro l h;exact g7 l h λe l w h=>w▸an h λt h=>an h λu L=>amp (EM t) (EV x u λf w h=>w▸BB e h λc n p w h=>w▸amn h)<|ih L
theorem SP:∀{N:G Mine.X}{r:G M}{t:G (ar aN)}{u:G aN},Kp N r t u=D->Br E w J Φ d cx r N t u/\(t=[]->r=[]/\N=[])|[],r,t,u,h=>an h λL h=>an h λO P=>by obtain rfl:=iA r L;obtain rfl:=iA t O;obtain rfl:=iA u P;exact⟨amr,λ_=>⟨C,C⟩⟩|x::N,r,t,u,h=>g7 r h λk r Q h=>g7 t h λo t R h=>g7 u h λe u Y h=>an h λL h=>an h λO P=>BF o L λZ w h=>BB Z h λc n p w' h=>SO c h λf mO h0=>by subst mO;subst w';subst w;subst Y;subst R;subst Q;obtain rfl:=(show k=f from bw.mp h0);exact⟨ams (aom x O λm l w h=>w▸an h λL h=>by cases m with|true=>exact bZ L|false=>exact EI e h λl p w h=>w▸amq (aor h)) (SP P).1,(λh=>by injection h)⟩
def EX{B:Prop}(e:aN)(h:BN K m n e r=D)(c:∀p a l,.Call (.Name n p) a [] l=e->i4 K m n z=D->r a=D->B):B:=EL e h λN p a l w h=>an h λt h=>an h λu L=>c p a l (bw.mp t▸w) u L
def EY(c:k6 e=D)(f:eP E w J l d m a e):jS E w J l d m [a] [e]:=I3 (EM c) f Qx
def SQ[fe d](c:Su E w J K gl mg mb)(u:∀e,R e=D->eP E w J P d L a e)(Y:∀e,Z e=D->eP E w J P d L b e)(N:bn=D->b= .lit .none)(h:Kq K L k R Z bn r it=D):vH E w J P d L k a b r it:=by cases k with|plain=>exact an h λm f=>N m▸alb (u it f)|range=>exact an h λm f=>N m▸EX it f λp l Q w t h=>w▸iz l h λx w h=>w▸an h λm f=>alc c t<|EY m<|u x f|nE=>exact an h λm h=>an h λO f=>vX r O λel kk p2 w _=>w▸N m▸EX it f λp l Q w t h=>w▸iz l h λx w h=>w▸an h λm f=>ald c t<|EY m<|u x f|zip=>exact an h λO f=>vX r O λel kk p2 w _=>w▸EX it f λp l Q w t h=>w▸yz l h λx y w h=>w▸an h λm h=>an h λf h=>an h λh3 h4=>ale c t<|I3 (EM m) (u x f)<|EY h3<|Y y h4
def yC[fe d](t:T):∀(f:Cx)(e:aN),r_ f t e=D->pi E w J d f t e/\qx f t e:=
 T.rec (motive_1:=λt=>∀(f:Cx)(e:aN),r_ f t e=D->pi E w J d f t e/\qx f t e) (motive_2:=λr=>∀(f:Cx)(m:G aN),Kn f r m=D->Be E w J d f r m/\Bh f r m)
  (λi f e h=>kZ e h λP p w h=>w▸an h λu L=>⟨alq u<|mA L,alD u⟩)
  (λr ih f e h=>vX e h λl n p w h=>w▸⟨alw (ih f l h).1,alG (ih f l h).2⟩)
  (λf m h=>iA m h▸⟨alr,alE⟩)
  (λt r it N f m h=>g7 m h λe m w h=>w▸an h λu h=>an h λL O=>⟨als (EN u) (it f e L).1 (N f m O).1,alF (it f e L).2 (N f m O).2⟩) t
end
section
variable(K:cH)(J:G (ah×F))
noncomputable def BO(l:Cx)(e:aN)(f:aw)(k:G aN->ak):ak:=BG e λp a _=>keepIn K (.ref f)&&(i4 K l p (q<|.ref f)&&k a)
mutual
noncomputable def dv:Mine.X->Cx->aN->ak
 | .lit f,_,e=>vU e λc=>oj f c
 | .gl k,cx,e=>kY e λY _=>D1 cx Y&&J[k]?.any λx=>x.1==Y
 | .var i,cx,e=>kY e λY _=>nh cx Y i
 | .oH i,cx,e=>tP e λv n _=>n==("word":ah)&&kY v λY _=>nh cx Y i
 | .aJ op a b,cx,e=>RX e λl o r=>aa (o=op)&&(dv a cx l&&dv b cx r)
 | .neg a,cx,e=>Kc e λo x=>aa (o= .USub)&&dv a cx x
 | .aA op a b,cx,e=>EF e λl z0 rs=>l1 z0 λo=>l1 rs λr=>aa (o=op)&&(!behindInMarks op r&&(dv a cx l&&dv b cx r))
 | .kz a o1 b o2 c,cx,e=>EF e λl z0 rs=>l2 z0 λp1 p2=>l2 rs λm r=>aa (p1=o1)&&(aa (p2=o2)&&(!behindInMarks o2 r&&(dv a cx l&&(dv b cx m&&dv c cx r))))
 | .not a,cx,e=>Kc e λo x=>aa (o= .Not)&&dv a cx x
 | .and a b,cx,e=>Kb e λo es p=>aa (o= .And)&&lC es λx r=>lC r λy rest=>dv a cx x&&(match rest with|[]=>dv b cx y|ze::rest=>dv b cx<|.BoolOp .And (y::ze::rest) p)
 | .or a b,cx,e=>Kb e λo es p=>aa (o= .Or)&&lC es λx r=>lC r λy rest=>dv a cx x&&(match rest with|[]=>dv b cx y|ze::rest=>dv b cx<|.BoolOp .Or (y::ze::rest) p)
 | .eM t a b,cx,e=>RZ e λt' x y=>dv t cx t'&&(dv a cx x&&dv b cx y)
 | .ai es,cx,e=>vW e λl=>aa (es.length<=100)&&nv es cx l
 | .af _ es,cx,e=>yy e λl=>nv es cx l
 | .oG _ ks es,_,e=>R0 e λeV vals=>eV.all (·.isSome)&&(eV.length==vals.length&&(aa (eV.length<=15)&&Kp es ks eV vals))
 | .sub a i,cx,e=>BC e λv s=>Ki s&&(dv a cx v&&dv i cx s)
 | .pE a zl hi,cx,e=>BC e λv s=>R3 s λl zw t=>t.isNone&&(dv a cx v&&((match l with
  |z=>v8 zl
  |q l=>dv zl cx l)&&(match zw with
  |z=>v8 hi
  |q zw=>dv hi cx zw)))
 | .aR a n,cx,e=>tP e λv m _=>m==n&&(ph.contains n&&(EO v&&dv a cx v))
 | .call f args,cx,e=>BO K cx e f λa=>nv args cx a
 | .Cq f args,cx,e=>BO K cx e f λa=>nv args cx a
 | .cls _ c args,cx,e=>BO K cx e c λa=>nv args cx a
 | .bi k args,cx,e=>BG e λY a _=>Y==ye k&&(i4 K cx (ye k) z&&(match aa (k= .oE)with|D=>l1 a λx=>BN K cx "range" x λa=>nv args cx a|j=>nv args cx a))
 | .cw k o args,cx,e=>EG e λf a kw p=>kw.isEmpty&&tP f λov n p'=>n==D_ k&&(EO ov&&(p'.endLine==p.line&&(aa (a.length<20)&&(dv o cx ov&&nv args cx a))))
 | .eG _ O P t k a b Q,cx,e=>BA e λel gs sc _=>l1 gs λg=>Ek cx sc (bJ g.target) O&&(g.is_async==0&&(r_ (fN cx sc<|bJ g.target) t g.target&&(dv P (fN cx sc<|bJ g.target) el&&(nv Q (fN cx sc<|bJ g.target) g.ifs&&(yA g.iter&&Kq K cx k (λe=>dv a cx e) (λe=>dv b cx e) (v8 b) g.target g.iter)))))
 | .sD O P t1 a t2 a2,cx,e=>BA e λel gs sc _=>l2 gs λg g2=>Ek cx sc (bJ g.target++bJ g2.target) O&&((g.is_async==0&&g2.is_async==0)&&((g.ifs.isEmpty&&g2.ifs.isEmpty)&&((yA g.iter&&yA g2.iter)&&((r_ (fN cx sc<|bJ g.target++bJ g2.target) t1 g.target&&r_ (fN cx sc<|bJ g.target++bJ g2.target) t2 g2.target)&&(dv P (fN cx sc<|bJ g.target++bJ g2.target) el&&(dv a cx g.iter&&dv a2 (fN cx sc<|bJ g.target++bJ g2.target) g2.iter))))))
 | .wI O key val t a Q,cx,e=>R1 e λek ev gs sc=>l1 gs λg=>Ek cx sc (bJ g.target) O&&(g.is_async==0&&(r_ (fN cx sc<|bJ g.target) t g.target&&(dK (fN cx sc<|bJ g.target) key ek&&(dV (fN cx sc<|bJ g.target) val ev&&(dC (fN cx sc<|bJ g.target) Q g.ifs&&(yA g.iter&&dv a cx g.iter))))))
noncomputable def nv:G Mine.X->Cx->G aN->ak|[],_,c=>c.isEmpty|x::N,f,c=>lC c λe c=>k6 e&&(dv x f e&&nv N f c)
end
end
section
variable(B:cA)(w:b9)(E:bt)(K:cH)(J:G (ah×F))(R Z:ah->ar au)(L:Fns)(d:aj)
structure BP:Prop where
 U:Su B w E K J R Z
 hg:L.gl=J
 FO:Bx B w E L d
 CO:∀c np l,L.cls c=q (np,l)->BM K c np l=D
 ex:v7 K=D
def PX(x:Mine.X):Prop:=∀(c:Cx)(e:aN),dv K J x c e=D->ed B w E L d c x e
def tU(N:G Mine.X):Prop:=∀(c:Cx)(f:G aN),nv K J N c f=D->jS B w E L d c N f/\AR B w E L d c N f
end
section
variable{B:cA}{w:b9}{E:bt}{K:cH}{J:G (ah×F)}{R Z:ah->ar au}{L:Fns}{d:aj}{a b:Mine.X}{N:G Mine.X}{k:qP}{t:T}{O:aj}{m:ak}{P:Mine.X}{Q:G Mine.X}
def aos(x:PX B w E K J L d a)(Y:PX B w E K J L d b):PX B w E K J L d (.aA op a b):=λf e h=>Kg e h λl z0 rs p w h=>w▸iz z0 h λo w h=>w▸iz rs h λr w h=>w▸an h λh1 h=>an h λh2 h=>an h λh3 h4=>by cases dw h1;exact aiw (mA h2) (x f l h3).1 (Y f r h4).1
def aot(Y:PX B w E K J L d a)(ib:PX B w E K J L d b)(ic:PX B w E K J L d c):PX B w E K J L d (.kz a o1 b o2 c):=λx e h=>Kg e h λl f rs p w h=>w▸yz f h λp1 p2 w h=>w▸yz rs h λm r w h=>w▸an h λh1 h=>an h λh0 h=>an h λh2 h=>an h λh3 h=>an h λh4 h5=>by obtain rfl:=dw h1;clear h;clear h;cases dw h0;exact aiB (mA h2) (Y x l h3).1 (ib x m h4).1 (ic x r h5).1
def aou(l:PX B w E K J L d a)(Y:PX B w E K J L d b):PX B w E K J L d (.and a b):=λf e h=>RW e h λo es p w h=>w▸an h λh1 h=>g7 es h λx r w h=>w▸g7 r h λy rest w h=>w▸an h λh2 h3=>by clear w h;obtain rfl:=dw h1;cases rest with|nil=>exact PN (l f x h2)<|aiz<|Y f y h3|cons c rest=>exact PN (l f x h2)<|Y f _ h3
def aov(l:PX B w E K J L d a)(Y:PX B w E K J L d b):PX B w E K J L d (.or a b):=λf e h=>RW e h λo es p w h=>w▸an h λh1 h=>g7 es h λx r w h=>w▸g7 r h λy rest w h=>w▸an h λh2 h3=>by clear w h;obtain rfl:=dw h1;cases rest with|nil=>exact PO (l f x h2)<|aiA<|Y f y h3|cons c rest=>exact PO (l f x h2)<|Y f _ h3
def aow{r:G M}(c:Su B w E K J R Z):PX B w E K J L d (.oG m r N):=λcx e h=>anu e h λeV l p w h=>w▸an h λx h=>an h λY h=>an h λh3 h4=>have f:=SP h4;amt c x (bw.mp Y) (dw h3) f.2 f.1
def aox{Y hi:Mine.X}(ia:PX B w E K J L d a)(il:PX B w E K J L d Y)(iu:PX B w E K J L d hi):PX B w E K J L d (.pE a Y hi):=λr e h=>EH e h λv s p x h=>x▸anw s h λl f t p' x h=>x▸an h λh1 h=>an h λh2 h=>an h λh3 h4=>by
 clear x;cases t with
 |some _=>exact bZ h1
 |none=>
  have br:∀{i:Mine.X}{o:ar aN},PX B w E K J L d i->(match o with|z=>v8 i|q l=>dv K J i r l)=D->AV B w E L d r i o:=λ{i o} ii h=>by cases o with|none=>exact EW i h▸ai2|some l=>exact ai3 (ii r l h).1
  exact ai4 (ia r v h2).1 (br il h3) (br iu h4)
def EZ{c:Prop}(e:aN)(h:BO K cx e f κ=D)(l:∀x Y a p,.Call (.Name x Y) a [] p=e->keepIn K (.ref f)=D->i4 K cx x (q<|.ref f)=D->κ a=D->c):c:=EL e h λx Y a p w h=>an h λh1 h=>an h λh2 h3=>l x Y a p w h1 h2 h3
def aoy[fe d]{k:BI}(c:Su B w E K J R Z)(is:tU B w E K J L d N):PX B w E K J L d (.bi k N):=λr e h=>EL e h λf p' a p w h=>w▸an h λY h=>bw.mp Y▸an h λh2 h=>by cases l:aa (k=BI.oE)with|true=>obtain rfl:=dw l;exact iz a h λx w h=>w▸EX x h λp2 a p3 w hr h=>w▸akh c h2 hr (is r a h).1|false=>rw[l]at h;exact bw.mp Y▸akd c (wj l) h2 (is r a h).1
def SR{k:Me}(l:PX B w E K J L d a)(is:tU B w E K J L d N):PX B w E K J L d (.cw k a N):=λc e h=>Kh e h λf r x p w h=>w▸an h λY h=>vV f h λov n p' w h=>w▸an h λh1 h=>an h λh2 h=>an h λh3 h=>an h λh4 h=>an h λh5 h6=>by obtain rfl:=iA x Y;obtain rfl:=bw.mp h1;exact akF (Se h2 _) (bw.mp h3) (dw h4) (l c ov h5).1 (is c r h6).1
def aoz{f:Prop}{l:FM}(h:(l.is_async==0&&p)=D)(k:∀t i c,⟨t,i,c,0⟩=l->p=D->f):f:=an h λr x=>k l.target l.iter l.ifs (by clear h k;cases l;exact az _ (bw.mp r).symm) x
def SS[fe d]{c:Prop}{cx:Cx}{e:aN}(f:Su B w E K J R Z)(ie:PX B w E K J L d P)(ia:PX B w E K J L d a)(ib:PX B w E K J L d b)(ic:tU B w E K J L d Q)(h:dv K J (.eG m O P t k a b Q) cx e=D)(l:∀el tg it Y sc p,.ListComp el [⟨tg,it,Y,0⟩] sc p=e->LC B w E L d cx O P t k a b Q el tg it Y sc->c):c:=Ke e h λel gs sc p r h=>iz gs h λg u2 h=>an h λh1 h=>aoz h λtg it Y u3 h=>by subst u3;exact an h λh2 h=>an h λh3 h=>an h λh4 h=>an h λh5 h6=>have x:=yC (E:=B) (w:=w) (J:=E) (d:=d) t _ _ h2;l el tg it Y sc p (u2▸r) ⟨Jn h1,x.1,x.2,(ie _ _ h3).1,(ic _ _ h4).2,SQ f (λe h=>(ia cx e h).1) (λe h=>(ib cx e h).1) (EW b) h6,BH h5⟩
end
section
variable{B:cA}{w:b9}{E:bt}{K:cH}{J:G (ah×F)}{P Q:ah->ar au}{N:Fns}{d:aj}{a b x:Mine.X}{R:G Mine.X}{t t1 t2:T}{O:aj}{Z c r val:Mine.X}{L:G Mine.X}
def Ks{f:FM}(h:(f.is_async==0)=D):f=⟨f.target,f.iter,f.ifs,0⟩:=by cases f;exact az _<|bw.mp h
def SU[fe d]{f:Prop}{cx:Cx}{e:aN}(ie:PX B w E K J N d Z)(ia:PX B w E K J N d a)(i2:PX B w E K J N d c)(h:dv K J (.sD O Z t1 a t2 c) cx e=D)(Y:∀el Ku fq Kv eW sc p,E2 el Ku fq Kv eW sc p=e->tK B w E N d cx O Z t1 a t2 c el Ku fq Kv eW sc->f):f:=Ke e h λel gs sc p u h=>yz gs h λg g2 u2 h=>an h λh1 h=>an h λh2 h=>an h λh3 h=>an h λh4 h=>an h λh5 h=>an h λh6 h=>an h λh7 h8=>an h2 λb1 b2=>an h3 λf1 f2=>an h4 λs1 s2=>an h5 λt1 t2=>have z0:=yC (E:=B) (w:=w) (J:=E) (d:=d) _ _ _ t1;have y:=yC (E:=B) (w:=w) (J:=E) (d:=d) _ _ _ t2;Y el g.target g.iter g2.target g2.iter sc p (U (Eq.symm u)<|U (Eq.symm u2)<|U (Ks b1)<|U (Ks b2)<|U (Eq.symm<|iA _ f1)<|U (Eq.symm<|iA _ f2) C) ⟨Jn h1,z0.1,z0.2,y.1,y.2,(ie _ _ h6).1,Eh (ia cx _ h7).1,Eh (i2 _ _ h8).1,BH s1,BH s2⟩
def aoA[fe d](f:Su B w E K J P Q)(ia:PX B w E K J N d a):PX B w E K J N d (.wI O r val t a L):=λcx e h=>anv e h λek ev gs sc p u h=>u▸iz gs h λg u h=>u▸an h λh1 h=>an h λh2 h=>an h λh3 h=>an h λh4 h=>an h λh5 h=>an h λh6 h=>an h λh7 h8=>have Y:=yC (E:=B) (w:=w) (J:=E) (d:=d) _ _ _ h3;U (Ks h2)<|amm f ⟨Jn h1,Y.1,Y.2,Kr h4,SN h5,aoq h6,Eh (ia cx _ h8).1,BH h7⟩
variable{op:Fc}{i:aj}{m:ah}
def SV:PX B w E K J N d (.lit f):=λcx e h=>BB e h λY n p u h=>u▸PW h
def SW:PX B w E K J N d (.var i):=λY e h=>kZ e h λz0 p u h=>u▸Iz h
def SX(ia:PX B w E K J N d a)(ib:PX B w E K J N d b):PX B w E K J N d (.aJ op a b):=λcx e h=>anr e h λf o Y p u h=>u▸an h λh1 h=>an h λh2 h3=>dw h1▸aiu (ia cx f h2).1 (ib cx Y h3).1
def SY(f:Su B w E K J P Q)(ex:v7 K=D):PX B w E K J N d (.oH i):=λcx e h=>vV e h λv n p u h=>u▸an h λh1 h=>kZ v h λY p' u h=>u▸(bw.mp h1).symm▸aoi f ex h
def SZ(f:Su B w E K J P Q)(ia:PX B w E K J N d a):PX B w E K J N d (.aR a m):=λcx e h=>vV e h λv Y p u h=>u▸an h λh1 h=>an h λh2 h=>an h λh3 h4=>(bw.mp h1).symm▸ajb f h2 (λenv=>SE h3) (ia cx v h4).1
def Kw:tU B w E K J N d []:=λp f h=>iA f h▸⟨Qx,aiP⟩
def Kx(Y:PX B w E K J N d x)(is:tU B w E K J N d R):tU B w E K J N d (x::R):=λf p h=>g7 p h λe p u h=>u▸an h λh1 h=>an h λh2 h3=>⟨I3 (EM h1) (Y f e h2).1 (is f p h3).1,aiQ (Y f e h2).2 (is f p h3).2⟩
def jm[fe d](H:BP B w E K J P Q N d)(x:Mine.X):PX B w E K J N d x:=
 X.rec (motive_1:=PX B w E K J N d) (motive_2:=tU B w E K J N d)
  (λ_=>SV)
  (λk cx e h=>kZ e h λY p u h=>u▸an h λh1 h2=>ai7 H.U H.hg h1 h2)
  (λ_=>SW)
  (λ_ _ _ ia ib=>SX ia ib)
  (λa ia cx e h=>RY e h λo x p u h=>u▸an h λh1 h2=>(dw h1).symm▸aiv (ia cx x h2).1)
  (λop a b ia ib=>aos ia ib)
  (λa o1 b o2 z0 ia ib ic=>aot ia ib ic)
  (λa ia cx e h=>RY e h λo x p u h=>u▸an h λh1 h2=>(dw h1).symm▸aix (ia cx x h2))
  (λa b ia ib=>aou ia ib)
  (λa b ia ib=>aov ia ib)
  (λt a b it ia ib cx e h=>ant e h λt' x y p u h=>u▸an h λh1 h=>an h λh2 h3=>aiy (it cx t' h1).2 (ia cx x h2) (ib cx y h3))
  (λes is cx e h=>vX e h λze n p u h=>u▸an h λh1 h2=>aiO (dw h1) (is cx ze h2).1.1)
  (λzl es is cx e h=>EI e h λze p u h=>u▸IJ (is cx ze h).1.1)
  (λzl ks es is=>aow H.U)
  (λ_=>SY H.U H.ex)
  (λa i ia ii cx e h=>EH e h λv s p u h=>u▸an h λh1 h=>an h λh2 h3=>aiT (Sb h1) (ia cx v h2).1 (ii cx s h3).1)
  (λa zw hi ia il iu=>aox ia il iu)
  (λ_ _ ia=>SZ H.U ia)
  (λf args is cx e h=>EZ e h λY p' a p u h1 h2 h=>u▸am5 H.U H.FO h1 h2 (is cx a h).1)
  (λf args is cx e h=>EZ e h λY p' a p u h1 h2 h=>u▸am6 H.U H.FO h1 h2 (is cx a h).1)
  (λzl z0 args is cx e h=>EZ e h λY p' a p u h1 h2 h=>u▸an8 H.U H.CO h1 h2 (is cx a h).1)
  (λk args is=>aoy H.U is)
  (λk o args io is=>SR io is)
  (λzl O Z t k a b L ie ia ib ic cx e h=>SS H.U ie ia ib ic h λel tg it ifs sc p u zx=>u▸alO zx)
  (λO Z t1 a t2 c ie ia i2 cx e h=>SU ie ia i2 h λel t1 i1 t2 i2 sc p u zx=>u▸alZ zx)
  (λO r val t a L ik iv ia ic=>aoA H.U ia)
  Kw
  (λ_ _ ix is=>Kx ix is) x
def Ky[fe d](H:BP B w E K J P Q N d):∀R:G Mine.X,tU B w E K J N d R:=by intro f;induction f with|nil=>exact Kw|cons x R ih=>exact Kx (jm H x)<|ih
end
section
variable(l:cA)(w:b9)(m:bt)
structure fb(b:aj)(X:aw->Prop)(c u:Cf):Prop where
 st:St l w m u
 ay:fG X b 0 c u
 gens:u.s.gens=c.s.gens
 os:u.s.os=c.s.os
def aoB(c:Cf):Out->wA->Prop| .next,f=>f= .next| .brk,f=>f= .brk| .cont,f=>f= .cont| .ret v,f=>∃y,f= .ret y/\aP l w c v y| .exc _,_=>False
structure Sd(b d:aj)(f:Fr)(c:Cf):Prop where
 a:eT f.A d
 fr:∃oo,f.A.frames=q (f.env::oo)
 lf:∃L,f.env.frame=q L
 e:bY l w f c
 st:St l w m c
 nx:jl f.ρ
 b:b<=c.M.fl.length
structure oq(b d:aj)(f:Fr)(c:Cf)(P:DK)(Q:wA->a8->Prop)(E:au->a8->Prop):Prop where
 ok:∀o ρ u fl,P o ρ u.M->fb l w m b (FX f) c u->Sd l w m b d (f.on ρ) u->aoB l w u o fl->Q fl u.s
 exc:∀wd ρ u e x,P (.exc wd) ρ u.M->fb l w m b (FX f) c u->Sd l w m b d (f.on ρ) u->EB f.env x->gZ c.h u e wd x->E (.ref e) u.s
variable(B:Fns)(d:aj)(J:Cx)
def iB(t:S)(st:dT):Prop:=∀(f:Fr)(c:Cf)(P:DK)(Q:wA->a8->Prop)(E:au->a8->Prop),f.cx=J->Sd l w m B.base d f c->WS B t f.ρ c.M P->oq l w m B.base d f c P Q E->aH (ax l w) f.A (exec st f.env) Q E c.s
def ot(Z:G S)(N:G dT):Prop:=∀(f:Fr)(c:Cf)(P:DK)(Q:wA->a8->Prop)(E:au->a8->Prop),f.cx=J->Sd l w m B.base d f c->ao B Z f.ρ c.M P->oq l w m B.base d f c P Q E->aH (ax l w) f.A (execs N f.env) Q E c.s
end
section
variable{l:cA}{w:b9}{m:bt}{B:Fns}{d b:aj}{J:Cx}{c u R:Cf}{f:Fr}{X Y:aw->Prop}{P:DK}{Q:wA->a8->Prop}{E:au->a8->Prop}{ρ:Rho}{x:Mine.X}{e:aN}{p:eZ}{t:S}{Z L tb:G S}{st:dT}{N r O:G dT}
def Sd.rd(T:Sd l w m b d f c):Rd l w m d f c:=⟨T.a,T.e,T.st⟩
def cv.toB(n:cv l w X m c u)(hb:b<=c.M.fl.length):fb l w m b X c u:=⟨n.st,n.ay.bz (λ_ h=>h) hb<|cD _,n.gens,n.os⟩
def fb.bz(n:fb l w m b X c u)(h:∀a,X a->Y a):fb l w m b Y c u:=⟨n.st,n.ay.bz h (bR _)<|bR _,n.gens,n.os⟩
def fb.trans(x:fb l w m b X c u)(y:fb l w m b X u R):fb l w m b X c R:=⟨y.st,x.ay.trans y.ay,y.gens.trans x.gens,y.os.trans x.os⟩
def fb.refl(S:St l w m c)(hb:b<=c.M.fl.length):fb l w m b X c c:=(cv.refl S).toB hb
def Sd.to(T:Sd l w m b d f c)(n:Nx l w m c u):fb l w m b X c u:=(n.toB T.b).bz λ_ h=>h.elim
def Sd.on(T:Sd l w m b d f c)(n:Nx l w m c u):Sd l w m b d f u:={T with e:=T.e.ay n.ay,st:=n.st,b:=aG T.b n.ay.flen}
def fb.was(n:fb l w m b (FX f) c u)(z0:bY l w (f.on ρ) u)(a:aw)(h:u.h.get? a=z):c.h.get? a=z:=by
 refine gT (c.h.get? a) (λ_=>?_) λo e=>?_;·rfl
 ·
  by_cases ze:FX f a;·exact(J2 z0 (a:=a) ze).elim λo' e'=>nomatch h.symm.trans e'
  ·exact(n.ay.dom a o e ze).elim λo' e'=>nomatch h.symm.trans e'
def oq.step(z0:oq l w m b d f c P Q E)(n:fb l w m b (FX f) c u)(ze:bY l w (f.on ρ) u):oq l w m b d (f.on ρ) u P Q E:=⟨λo ρ' c2 fl hp n2 T2 g=>z0.ok o ρ' c2 fl hp (n.trans n2) T2 g,λwd ρ' c2 e x hp n2 T2 hx y=>z0.exc wd ρ' c2 e x hp (n.trans n2) T2 hx<|y.back<|n.was ze⟩
def oq.on(z0:oq l w m b d f c P Q E)(T:Sd l w m b d f c)(n:Nx l w m c u):oq l w m b d f u P Q E:=z0.step (ρ:=f.ρ) (T.to n) (T.on n).e
def aoC:ot l w m B d J [] []:=λf c P Q E hc T hw z0=>zj<|z0.ok .next f.ρ c .next hw (.refl T.st T.b) T C
def aoD(h1:iB l w m B d J t st)(h2:ot l w m B d J Z N):ot l w m B d J (t::Z) (st::N):=λf c P Q E hc T hw z0=>by refine U (execs_cons ..)<|aL<|h1 f c _ _ _ hc T hw ⟨λo ρ u fl hp n T1 g=>?_,λwd ρ u e x hp n T1 hx y=>z0.exc wd ρ u e x hp n T1 hx y⟩;cases o with|next=>subst g;exact h2 (f.on ρ) u P Q E hc T1 hp<|z0.step n T1.e|brk=>subst g;exact bu<|z0.ok .brk ρ u .brk hp n T1 C|cont=>subst g;exact bu<|z0.ok .cont ρ u .cont hp n T1 C|ret v=>exact g.elim λy g=>g.1▸bu (z0.ok (.ret v) ρ u (.ret y) hp n T1<|aT y C g.2)|exc wd=>exact g.elim
def Sd.Kz(T:Sd l w m b d f c):interactive f.env=j:=by delta interactive;exact U T.e.sc<|U T.e.kind C
noncomputable def yD(e:aN):ak:= !(e.ctorIdx==8||e.ctorIdx==9||e.ctorIdx==10)
def aoE(hx:eP l w m B d J x e)(hv:yD e=D):iB l w m B d J (.cS x) (.Expr e p):=λf c P Q E hc T hw z0=>L4 (hx f c _ _ _ hc T.rd hw λv c1 y h n ze=>z0.ok .next f.ρ c1 .next h (T.to n) (T.on n) C) T.Kz (by clear hx;cases e<;>first|rfl|exact bZ hv)
def aoF(hx:eP l w m B d J x e):iB l w m B d J (.ret x) (.Return (q e) p):=λf c P Q E hc T hw z0=>wpAny_Return_some (hx f c _ _ _ hc T.rd hw λv c1 y h n ze=>z0.ok (.ret v) f.ρ c1 (.ret y) h (T.to n) (T.on n)<|aT y C ze)
def aoG:iB l w m B d J (.ret<|.lit .none) (.Return z p):=λf c P Q E hc T hw z0=>wpAny_Return_none (z0.ok (.ret<|.fz .none) f.ρ c (.ret .none) hw (.refl T.st T.b) T<|aT _ rfl rfl)
def aoH:iB l w m B d J .brk (.Break p):=λf c P Q E hc T hw z0=>aL<|lb<|bu<|z0.ok .brk f.ρ c .brk hw (.refl T.st T.b) T C
def aoI:iB l w m B d J .cont (.Continue p):=λf c P Q E hc T hw z0=>aL<|lb<|bu<|z0.ok .cont f.ρ c .cont hw (.refl T.st T.b) T C
def aoJ(ht:AP l w m B d J x e)(ha:ot l w m B d J L r)(hb:ot l w m B d J tb O):iB l w m B d J (.ite x L tb) (.If e r O p):=λf c P Q E hc T hw z0=>
 wpAny_If (ht f c (λt ze=>match t with|D=>ao B L f.ρ ze P|j=>ao B tb f.ρ ze P) _ _ hc T.rd hw λt c1 h n=>by
  cases t;·exact hb f c1 P Q E hc (T.on n) h<|z0.on T n
  ·exact ha f c1 P Q E hc (T.on n) h<|z0.on T n)
end
section
def jl.set(l:jl ρ)(m:dU v=D):jl (ρ.set i<|q v):=λc p e=>(rS e).elim (λf=>bZ<|(az dU f.2).trans m) λf=>l c p f.2
def jl.aoK(l:jl ρ):jl (ρ.set i z):=λc m e=>(rJ e).elim (λf=>(by injection f.2)) λf=>l c m f.2
def S0(t:T):∀{f:F}{ρ ρ':Rho},jl ρ->fy t f ρ=q ρ'->jl ρ':=
 T.rec (motive_1:=λt=>∀{f:F}{ρ ρ':Rho},jl ρ->fy t f ρ=q ρ'->jl ρ') (motive_2:=λp=>∀{r:G F}{ρ ρ':Rho},jl ρ->nG p r ρ=q ρ'->jl ρ')
  (λi f ρ ρ' m e=>by
   have e:(if i<ρ.length then q (ρ.set i<|q<|.fz f)else z)=q ρ':=e;by_cases c:i<ρ.length;·rw[cE c]at e;injection e with e;subst e;exact m.set C
   ·rw[cB c]at e;injection e)
  (λp ih f ρ ρ' m e=>by
   have e:(match FV (.fz f)with|q l=>if(p.length==l.length)=D then nG p l ρ else z|z=>z)=q ρ':=e;revert e;refine oc (FV<|.fz f) (λe=>?_) λl e=>?_;·injection e
   ·exact ih m (ED e).2)
  (λm e=>by injection e with e;subst e;exact m)
  (λt p it u r ρ ρ' m e=>by cases r with|nil=>injection e|cons f r=>exact av (jr.mp<|Jl.symm.trans e) λO x E=>u (it m x) E) t
end
section
variable(B:cA)(w:b9)(J:bt)(N:Fns)(d:aj)(L:Cx)
def pv(f:Fr)(c:Cf)(P:Rho->Mem->Prop)(Q:jX->a8->Prop):Prop:=∀ρ l,P ρ l.M->cv B w (FX f) J c l->bY B w (f.on ρ) l->jl ρ->Q jX.unit l.s
def sf(t:Tg)(l:aN):Prop:=∀(f:Fr)(c:Cf)(P:Rho->Mem->Prop)(Q:jX->a8->Prop)(E:au->a8->Prop)(v:V)(y:au),f.cx=L->Rd B w J d f c->jl f.ρ->aP B w c v y->ez N t v f.ρ c.M P->pv B w J f c P Q->aH (ax B w) f.A (assign l f.env y) Q E c.s
end
section
variable{K:cH}{id:ah}
def BQ:vI f (FX f) id:=⟨.inl C,λh _ e=>.inr (aT id h e)⟩
def aoL(h:nh L id i=D)(x:(L.sc.names.lookup id==q .free)=j):sf B w J N d L (.v<|.var i) (.Name id p):=λf c P Q E v y hc r hn rv t l=>by subst hc;exact have t:=cO t;have u:=(bh t.1).2;have Y:=bh h;as4 (Ei r.e r.st (bw.mp Y.1) ((Iw (bh Y.2).1).imp (λm=>m) λm=>m.resolve_right λm=>by rw[m]at x;injection x) rv (λwd e=>by rw[e]at u;exact bZ u) BQ λh tk n O=>l _ (c.lo h tk c.W) t.2 n O<|hn.set u)
def aoM(h:pi B w J d L (.ai t) u):sf B w J N d L (.v<|.ai t) u:=λf c P Q E v y Y r hn rv m l=>by cases v with|fz g=>exact av (dq m) λρ p a_=>h f c (FX f) Q E g y ρ Y r (λx _=>BQ) rv p λh tk n O=>l ρ (c.lo h tk c.W) a_ n O<|S0 _ hn p|_=>exact m.elim
def aoN(h:Md v k):∃n,v= .dJ n/\k n:=by cases v with|dJ n=>exact(aT n C h)|_=>exact h.elim
def aoO(l:Su B w J K R mg mb)(hn:ph.contains n=D)(ho:eP B w J N d L o oe):sf B w J N d L (.aR o n) (.Attribute oe n p):=λf c P Q E v y hc r hx rv hw m=>Si (ho f c _ _ _ hc r hw λu c1 t h x r1=>(aoN h).elim λk g=>av (dq g.2) λe O Y=>cq (kQ Y) λcl fs aoR aoS=>by have g4:=cO aoS;have g5:=bh g4.1;have g6:=bh g5.1;refine RR l x.st (g.1▸r1) (O.trans<|az q aoR) (rv.ay x.ay) g6.2 (dw g6.1) hn λh2 tk n2=>m f.ρ _ g4.2 ((x.trans n2).bz λ_ h=>h.elim) (r.e.ay (x.trans n2).ay) hx)
def aoT(h:aH (ax B w) A (eval m c) (λf r=>aH (ax B w) A (eval t c) (λl u=>aH (ax B w) A (setItem f l v) Q E u) E r) E s):aH (ax B w) A (assign (.Subscript m t p) c v) Q E s:=U (arm_assign_Subscript ..)<|aL<|i8<|gm h (λf Y x=>aL<|i8<|gm x (λl s2 O=>aL<|lb<|aL<|i8<|gm O (λ_ s3 P=>atp P) λ_ _ e=>e) λ_ _ e=>e) λ_ _ e=>e
def aoU(ho:eP B w J N d L o oe)(hi:eP B w J N d L ix ie):sf B w J N d L (.sub o ix) (.Subscript oe ie p):=λf c P Q E v y hc r hx rv hw l=>aoT (ho f c _ _ _ hc r hw λu c1 m h n1 r1=>hi f c1 _ _ _ hc (r.on n1) h λu2 c2 z2 h O r2=>cq (kQ h) λg t aW a_=>av (yb O.st ((rv.ay n1.ay).ay O.ay) aW) λW Y bG=>by have x:=(n1.trans O).trans Y;exact aoc (c:=c2.re W t) Y.st ((r1.ay O.ay).ay Y.ay) (r2.ay Y.ay) bG a_ λh tk n fo n3 hP=>l f.ρ _ hP ((x.trans n3).bz λ_ h=>h.elim) (r.e.ay (x.trans n3).ay) hx)
def KA(O:bY B w f c):f.env.blockKind= .function:=by delta fX.blockKind;exact U O.sc<|U O.kind C
end
section
variable(K:cH)(R:G (ah×F))
def KB(t:Tg)(L:Cx)(e:aN):ak:=match t with| .v t=>r_ L t e| .aR o n=>tP e λv m _=>m==n&&(ph.contains n&&dv K R o L v)| .sub o i=>BC e λv s=>dv K R o L v&&dv K R i L s
end
section
variable{K:cH}
def S1[fe d](H:BP B w J K R r x N d)(t:Tg)(h:KB K R t L e=D):sf B w J N d L t e:=by
 cases t with
 |v t=>cases t with|var i=>exact kZ e h λid p u h=>u▸an h λc f=>aoL c<|mA f|ai E=>exact aoM (yC (E:=B) (w:=w) (J:=J) (d:=d) _ _ _ h).1
 |aR o n=>exact vV e h λv m p u h=>u▸an h λc h=>an h λf l=>(bw.mp c).symm▸aoO H.U f (jm H o L v l).1
 |sub o i=>exact EH e h λv s p u h=>u▸an h λc f=>aoU (jm H o L v c).1 (jm H i L s f).1
end
section
variable{r:cA}{w:b9}{B:bt}{K:cH}{E:G (ah×F)}{mg mb:ah->ar au}{N:Fns}{d:aj}{L:Cx}{c:Cf}{f:Fr}{X:aw->Prop}{A:dY}{J:fX}{s:a8}{t:Tg}{x:Mine.X}{O:aN}{p R l:eZ}{Z:gC}{m:G FM}{id:ah}{u:aw}{P:G Mine.X}{Q:G aN}
def aoV(h:yD Y=D):FN [te] Y n J=pure j:=by cases Y<;>first|rfl|exact bZ h
noncomputable def KC(e:aN):ak:=e.ctorIdx==25||e.ctorIdx==24
def aoW(h:(!KC te)=D):Cm [te] Y J=pure z:=by cases te<;>first|rfl|exact bZ h
noncomputable def KD(te Y:aN):ak:= !KC te||vW te λ_=> !KC Y
def aoX(h:KD te value=D):Cm [te] value J=pure z:=((oA _ _).mp h).elim aoW λh=>vX te h λY n p z0 h=>z0▸by cases value<;>first|rfl|exact bZ h
def aoY(hs:FN [te] value p.line J=pure j)(hw:Cm [te] value J=pure z)(ht:k6 te=D)(h:aH (ax r w) A (eval value J) (λv dN=>aH (ax r w) A (assign te J v) (λ_=>Y .next) z0 dN) z0 s):aH (ax r w) A (exec (.Assign [te] value p) J) Y z0 s:=U_ (U (EN ht ..) h) hs hw
def pv.of(T:Sd r w B b d f c)(Y:oq r w B b d f c z0 ze zl)(n:Nx r w B c c'):pv r w B f c' (λρ zw=>z0 .next ρ zw) λ_=>ze .next:=λρ c2 hp n2 zx hx=>Y.ok .next ρ c2 .next hp ((T.to n).trans<|n2.toB (T.on n).b) ⟨T.a,T.fr,T.lf,zx,n2.st,hx,aG (T.on n).b n2.ay.flen⟩ C
def KE(hx:eP r w B N d L x value)(ht:sf r w B N d L t te)(hs:∀J:fX,J.blockKind= .function->J.scope=L.sc->FN [te] value p.line J=pure j)(hn:KD te value=D)(vl:k6 te=D):iB r w B N d L (.a9 t x) (.Assign [te] value p):=λf c Y z0 ze hc T hw zl=>aoY (hs _ (KA T.e)<|hc▸T.e.sc) (aoX hn) vl (hx f c _ _ _ hc T.rd hw λv c1 y h n1 r1=>ht f c1 _ _ _ v y hc (T.rd.on n1) T.nx r1 h<|pv.of T zl n1)
noncomputable def yE(L:Cx)(id:ah)(l:eZ)(Z:gC)(R:eZ):ak:=L.sc.names.lookup id==q .local&&l.line==R.line&& !(Z.names.any λ(n,k)=>n==id&&(k== .local||k== .cell))
def S2(Y:J.blockKind= .function)(hs:J.scope=L.sc):swapsWith (.ListComp O m Z R) (q<|.Name id l) n J=pure (yE L id l Z R):=by have hk:J.kindOf id=L.sc.names.lookup id:=az (λs:gC=>s.names.lookup id) hs;show(pure (J.blockKind== .function&&J.kindOf id==q .local&&l.line==R.line&& !(Z.names.any λ(n,k)=>n==id&&(k== .local||k== .cell))):jW ak)=_;exact U Y<|U hk C
def fb.aoZ(n:fb r w B b Y c c')(h:∀a,Y a->X a\/c.h.get? a=z):fb r w B b X c c':=have no:∀{a o},c.h.get? a=q o->¬X a->¬Y a:=λe z0 y=>(h _ y).elim z0 λze=>(by injection(ze.symm.trans e));⟨n.st,{n.ay with knone:=λa o e z0 g=>n.ay.knone a o e z0<|no e g,dom:=λa o e g=>n.ay.dom a o e (no e g)},n.gens,n.os⟩
def fb.kT(x:fb r w B b X c c')(y:fb r w B b Y c' c2)(h:∀a,Y a->c.h.get? a=z):fb r w B b X c c2:=((x.bz (Y:=λa=>X a\/Y a) λ_=>.inl).trans<|y.bz λ_=>.inr).aoZ λa z0=>z0.imp_right<|h a
def S3(ht:sf r w B N d L t (.Name id l))(hu:yE L id l Z R=D)(ao0:∀(f:Fr)(c:Cf)(Y:V->Mem->Prop)(z0 ze:au->a8->Prop)(use:ar (au->jW jX)),f.cx=L->Rd r w B d f c->WX N x f.ρ c.M Y->qy r w B f c Y (λy zl s'=>ky (ax r w) f.A ze use z0 y zl (.ok .next) s')->aH (ax r w) f.A (comprehension (.ListComp O m Z R) Z f.env (firstIterPos m R) (Ck []) (firstAsync m) (firstIter m f.env) use) z0 ze c.s):iB r w B N d L (.a9 t x) (.Assign [.Name id l] (.ListComp O m Z R) p):=λf c Y z0 ze hc T hw zw=>by calc U (exec_Assign_Name_used _ _ _ _<|(S2 (KA T.e)<|hc▸T.e.sc).trans<|az pure hu);refine aL<|lb<|aL ?_;refine aL<|ao0 f c _ (λ_ s'=>aH (ax r w) f.A (pure jX.unit) (λ_ vZ=>aH (ax r w) f.A (pure .next) z0 ze vZ) ze s') ze _ hc T.rd hw λv zl c1 y hp _ n1 r1 hC hW hm=>?_;refine ht f c1 _ _ ze v y hc (T.rd.on n1) T.nx r1 hp λρ c2 hp n2 O2 hx=>?_;have nC:¬FX f zl:=λzx=>(J2 T.e zx).elim λo e=>nomatch hC.symm.trans e;refine av hm λzB vy _=>av (tA vy) λo nt _=>?_;have kC:=n2.ay.knone zl o nt hW nC;refine(aT zB (Ib vy λo' e=>bH (nt.symm.trans e)▸kC.2.imp λ_ h=>h.1) λh' sb=>?_);have n3:=yn (B:=c2.s.toks) n2.st kC.1 sb;have hl1:=(T.on n1).b;have hl2:=aG hl1 n2.ay.flen;have n13:=(((T.to n1).trans<|n2.toB hl1).kT (n3.toB hl2) λa e=>e▸hC);exact bu<|bu<|zw.ok .next ρ (c2.lo h' c2.s.toks c2.W) .next hp n13 ⟨T.a,T.fr,T.lf,T.e.new O2 C rfl rfl n3.ay hx λa e=>e▸hC,n3.st,hx,hl2⟩ C
def ao1{p' p2:eZ}(Y:Su r w B K E mg mb)(FO:Bx r w B N d)(hk:keepIn K (.ref u)=D)(hf:i4 K L id (q<|.ref u)=D)(h:jS r w B N d L P Q):iB r w B N d L (.oJ u P) (.Expr (.Call (.Name id p') Q [] p) p2):=λf c z0 ze zl hc T hw zw=>
 L4 (qr h hc T.rd hw (λQ'=>Y.yg T.e T.st<|hc▸hf) (By Y hk) λvs c1 ys hl e n1 r1=>by
  have hi:=J6 (cO e).1;refine cq (kQ (cO e).2) λtD x aW a_=>?_;have g:=JW aW J5;refine FO u tD x.1 _ a_ g.2.2.2 f.A (c1.view x.1 x.2) ys _ zl T.a ((T.e.ay n1.ay).fr.view) (JZ n1.st g.1) C (J0 g.1 g.2.1 r1) (λv y c2 hP n2 r2=>?_) λwd e c2 hP n2 y=>?_;·exact cq (kQ hP) λfv zx gR nl=>(yb n2.st r2 gR).elim λW k2=>have b:=J3 n1.st hi g.1 (n2.trans k2.1) C;zw.ok .next f.ρ (c1.ret (c2.re W zx) x.2 zx.fl) .next nl (T.to<|n1.trans b.1) (T.on<|n1.trans b.1) C
  ·have b:=J3 n1.st hi g.1 n2 C;exact zw.exc wd f.ρ (c1.ret c2 x.2 c2.M.fl) e _ hP (T.to<|n1.trans b.1) (T.on<|n1.trans b.1) (.inr<|.inl C)<|(gZ.as (N:=c1.ret c2 x.2 c2.M.fl) y C λa e=>az (λo:ar dO=>o.bind _) e).back λa e=>pq n1 e) T.Kz C
end
def KF(u:cA)(w:b9)(B:bt)(p:Fns)(d:aj)(f:Fr)(c:Cf)(t:G F->bt->RM->Prop)(step:F->Rho->Mem->(DK)->Prop)(P:DK)(n:aj)(s:a8):Prop:=∃(l:G F)(m:Cf)(r:Rho),n=l.length/\s=m.s/\t l m.h m.W/\fb u w B p.base (FX f) c m/\Sd u w B p.base d (f.on r) m/\bj step l r m.M P
def ao2(u:cA)(w:b9)(B:bt)(m:Fns)(d:aj)(f:Fr)(c:Cf)(W:aj->Rho->Mem->Prop)(n:aj)(s:a8):Prop:=∃(l:Cf)(p:Rho),s=l.s/\fb u w B m.base (FX f) c l/\Sd u w B m.base d (f.on p) l/\W n p l.M
section
variable{u:cA}{w:b9}{B:bt}{d b:aj}{c R:Cf}{f:Fr}{P:DK}{Q:wA->a8->Prop}{E:au->a8->Prop}{ρ:Rho}{e:aw}{a:Mine.X}{J:G S}
def fb.dom(n:fb u w B b (FX f) c R)(O:bY u w (f.on ρ) R):yv c.h R:=λa o e=>by
 refine gT (R.h.get? a) (λh=>?_) λl _=>?_;·injection((n.was O a h).symm.trans e)
 ·exact⟨l,C⟩
def ao3(T:Sd u w B b d f c)(l:oq u w B b d f c P Q E)(hp:P (.exc wd) ρ R.M)(n:fb u w B b (FX f) c R)(m:Sd u w B b d (f.on ρ) R)(hx:EB f.env x)(y:gZ c.h R e wd x):aH (ax u w) f.A (noteFrame (.ref e) f.env) (λ_ vZ=>cameBackBy (ax u w) f.A f.env E (.ref e) vZ) E' R.s:=T.fr.elim λoo lU=>T.lf.elim λL p=>JT lU m.e.fr p m.st hx y (n.dom m.e) λh2 r y2=>by refine have O2:=T.e.new m.e C rfl rfl r.ay m.nx λa l=>l.1;FQ y2 λvs a0 t _ _ _ N=>cP t λoe O _ Y=>cq N λT' ts qA _=>aL<|wz O Y qA<|wq C<|JU r.st y2 λh3 Z y3=>?_;have O3:=T.e.new O2 C rfl rfl Z.ay m.nx λa l=>l.1;rw[p]at y3;exact l.exc wd ρ _ e _ hp ((n.kT (r.toB m.b) λa l=>l.1).kT (Z.toB m.b) λa l=>l.1) ⟨T.a,T.fr,T.lf,O3,Z.st,m.nx,m.b⟩ (.inr<|.inr<|aT L p rfl) y3
def S4{t:Rho->Mem->Prop}{I:a8->Prop}(T:Sd u w B b d f c)(m:oq u w B b d f c P Q E)(n:fb u w B b (FX f) c R)(O:bY u w (f.on ρ) R)(p:∀N L,t N L.M->fb u w B b (FX f) R L->Sd u w B b d (f.on N) L->I L.s):oq u w B b d (f.on ρ) R (λo ρ r=>nK o ρ r t P) (λf' s3=>match f' with
   | .next=>I s3
   | .cont=>I s3
   | .brk=>Q .next s3
   | .ret v=>Q (.ret v) s3) (notedBy (ax u w) f.A f.env λe s'=>cameBackBy (ax u w) f.A f.env E e s') where
 ok:=λo N L fl Y Z T2 g=>by cases o with|next=>subst g;exact p N L Y Z T2|cont=>subst g;exact p N L Y Z T2|brk=>subst g;exact m.ok .next N L .next Y (n.trans Z) T2 C|ret v=>exact g.elim λy g=>g.1▸m.ok (.ret v) N L (.ret y) Y (n.trans Z) T2 (aT y C g.2)|exc wd=>exact g.elim
 exc:=λwd N L e x Y Z T2 hx y=>ao3 T m Y (n.trans Z) T2 hx<|y.back<|n.was O
def ao8[fe d](lQ:vH u w B Φ d cx k a a' tgt iter)(ht:pi u w B d cx t tgt)(hb:ot u w B Φ d cx J sts)(hs:∀env v,zd iter env v=pure v):iB u w B Φ d cx (.c_ t k a a' J) (.For tgt iter sts [] p):=λf c P Q E hc T hw L=>by
 refine wpAny_For (lQ f c (λZ N=>bj (λx ρ N P=>oP (fy t x ρ) λρ=>ao Φ J ρ N P) Z f.ρ N P) _ E hc T.rd hw λZ R h n1 it h1 vN own At cU gS n2 O=>have n12:=n1.trans n2;have KG:∀a,own a->c.h.get? a=z:=λa ha=>pq n1 (O a ha);have hown:∀a,own a->¬FX f a:=λa ha Y=>(J2 T.e Y).elim λo e=>nomatch (KG a ha).symm.trans e;codeAny_forLoop_any (KF u w B Φ d f c At (λx ρ N P=>oP (fy t x ρ) λρ=>ao Φ J ρ N P) P) (λn s hI=>wF hI λl c5 lV r1 r2 E0 n5 T5 h5=>?_) Z.length (wD Z (R.gr h1 vN) f.ρ C rfl gS (T.to n12) (T.on n12) h))<|hs f.env;clear hI;subst r1;subst r2;cases l with
 |nil=>refine gm (cU.done c5 T5.st E0 (λs6=>Q .next s6) _ λh tk n6=>L.ok .next lV (c5.lo h tk c5.W) .next h5 (n5.kT (n6.toB T5.b) KG) ⟨T.a,T.fr,T.lf,T5.e.own n6.ay<|cU.tJ E0,n6.st,T5.nx,T5.b⟩ C) (λr s6 h6=>?_) λ_ _ h'=>h';cases r with|none=>exact zj h6|some v=>exact h6.elim
 |cons x l=>refine av (dq h5) λS5 S6 ao9=>?_;refine gm (cU.next x l c5 T5.st E0 (λv dN=>aH (ax u w) f.A (assign tgt f.env v) (λ_ ka=>aH (ax u w) f.A (execs sts f.env) (λf' s3=>match f' with| .next=>∃m,m<l.length+1/\KF u w B Φ d f c At (λx ρ N P=>oP (fy t x ρ) λρ=>ao Φ J ρ N P) P m s3| .cont=>∃m,m<l.length+1/\KF u w B Φ d f c At (λx ρ N P=>oP (fy t x ρ) λρ=>ao Φ J ρ N P) P m s3| .brk=>Q .next s3| .ret v=>Q (.ret v) s3) (notedBy (ax u w) f.A f.env λe s'=>cameBackBy (ax u w) f.A f.env E e s') ka) (notedBy (ax u w) f.A f.env λe s'=>cameBackBy (ax u w) f.A f.env E e s') dN) _ λv h tk W n6 rv wX=>?_) (λr s1 h1=>by cases r with|none=>exact h1.elim|some v=>exact h1) λ_ _ h'=>h';exact have r6:Rd u w B d (f.on lV) (c5.lo h tk W):=⟨T.a,T5.e.own n6.ay<|cU.tJ E0,n6.st⟩;have n56:=n5.kT (n6.toB T5.b) KG;ht (f.on lV) (c5.lo h tk W) (FX f) _ _ x v S5 hc r6 (λx _=>BQ) rv S6 λh7 JG n7 O7=>have n57:=n56.trans<|n7.toB T5.b;have x7:=S0 t T5.nx S6;have at7:=cU.cL wX n7.ay hown;hb (f.on S5) ((c5.lo h tk W).lo h7 JG W) _ _ _ hc ⟨T.a,T.fr,T.lf,O7,n7.st,x7,T5.b⟩ ao9 (S4 T L n57 O7 λKH c8 h8 n8 T8=>(aT l.length (mG _)<|wD l c8 KH C rfl (cU.cL at7 n8.ay hown) (n57.trans n8) T8 h8))
def ao_(ht:AP u w B r d cx a te)(hb:ot u w B r d cx J O):iB u w B r d cx (.uq a J) (.While te O [] p):=λf c P Q E hc T Y l=>Y.elim λN Y=>by refine wpAny_While<|codeAny_whileLoop (ao2 u w B r d f c λn ρ m=>mM (λρ m P=>WX r a ρ m λx m=>ja x λb=>P b m) (λρ m P=>ao r J ρ m P) n ρ m P) (λn s hI=>mJ hI λc5 L r1 n5 Z h5=>?_) N<|jE c f.ρ C (.refl T.st T.b) T Y;clear hI;subst r1;cases n with|zero=>exact h5.elim|succ n=>refine ht (f.on L) c5 (λb m=>match b with|D=>ao r J L m λo ρ m=>nK o ρ m (λρ m=>mM (λρ m P=>WX r a ρ m λx m=>ja x λb=>P b m) (λρ m P=>ao r J ρ m P) n ρ m P) P|j=>P .next L m) _ _ hc Z.rd h5 λb c6 h6 n6=>?_;have t:=n5.trans<|Z.to n6;have T6:=Z.on n6;cases b with|true=>exact hb (f.on L) c6 _ _ _ hc T6 h6<|S4 T l t T6.e λKH c8 h8 n8 T8=>(aT n (mG _)<|jE c8 KH C (t.trans n8) T8 h8)|false=>exact zj<|l.ok .next L c6 .next h6 t T6 C
end
noncomputable def apa(c:G aN):aj:=(c.head?.map (·.pos.line)).getD 0
set_option backward.match.sparseCases true in
noncomputable def v9(k:ah->ar oz)(c:G aN):G ah:=c.filterMap λ| .Name id pos=>if k id==q .local&&pos.line==apa c then q id else z|_=>z
noncomputable def k7(L:Cx)(c:G aN):G ah:=v9 (λid=>L.sc.names.lookup id) c
set_option backward.match.sparseCases true in
noncomputable def KI(e:aN):ak:=match e with| .Starred .. =>D|_=>j
noncomputable def KJ(L:Cx)(c:G aN):ak:=(k7 L c).length !=c.length
noncomputable def KL(L:Cx)(c f:G aN):ak:=(c.length==2||c.length==3)&&(f.length==c.length&&(!(f.any KI)&&((k7 L c).length==c.length&&((k7 L c).eraseDups.length==(k7 L c).length&&(gY (k7 L c)&&(!(f.all<|foldedForSure 8)&& !(f.all<|constantsAlone 8)))))))
section
variable{B:cA}{w:b9}{J:bt}{R:Fns}{d:aj}{L:Cx}{X:aw->Prop}{ρ:Rho}{t:Tg}{N:G Tg}
def S7(f:fX)(c l:G aN)(m p:aj)(r u:eZ):Cm [.Tuple c m r] (.Tuple l p u) f=(do
  if !(c.length==2||c.length==3)||l.length !=c.length||f.blockKind != .function then return z
  if l.any KI then return z
  if(v9 f.kindOf c).length !=c.length||(v9 f.kindOf c).eraseDups.length !=(v9 f.kindOf c).length then return z
  if l.all (foldedForSure 8)then return z
  if l.all (constantsAlone 8)then unsupported "assign.tuple-of-constant-expressions:order-of-the-stores"
  return q (v9 f.kindOf c)):=C
def S8(O:bY B w f c):v9 f.env.kindOf l=k7 f.cx l:=az (λk=>v9 k l)<|az (λ(s:gC) id=>s.names.lookup id) O.sc
def apb(O:bY B w f c)(p:KJ f.cx l=D):Cm [.Tuple l r u] (.Tuple m x E) f.env=pure z:=by
 refine U (S7 ..)<|U (S8 O)<|U (show((k7 f.cx l).length !=l.length)=D from p)<|U (ak.true_or ..) ?_
 cases(!(l.length==2||l.length==3)||m.length !=l.length||f.env.blockKind != .function)<;>cases m.any KI<;>rfl
def apc(O:bY B w f c)(m:KL f.cx l p=D):Cm [.Tuple l k1 p1] (.Tuple p k2 p2) f.env=pure (q<|k7 f.cx l):=an m λr m=>an m λu m=>an m λx m=>an m λE m=>an m λP m=>an m λh6 m=>an m λQ Y=>have b2:(p.length !=l.length)=j:=az (!·) u;have Z:((k7 f.cx l).length !=l.length)=j:=az (!·) E;have b5:((k7 f.cx l).eraseDups.length !=(k7 f.cx l).length)=j:=az (!·) P;U (S7 ..) (U (S8 O)<|U (KA O)<|U (mA x)<|U (mA Q)<|U (mA Y)<|U r<|U b2<|U Z<|U b5 C)
noncomputable def pw:G (aj×V)->Rho->Rho|[],ρ=>ρ|e::l,ρ=>pw l<|ρ.set e.1<|q e.2
def apd:∀{l:G (aj×V)}{ρ:Rho},i∉l.map (·.1)->pw l (ρ.set i<|q v)=(pw l ρ).set i (q v):=by intro f;induction f with|nil=>intro _ _;exact C|cons e l ih=>intro ρ h;show pw l ((ρ.set i<|q v).set e.1<|q e.2)=_;calc U (G.set_comm _ _ λc:i=e.1=>h<|c▸ .head _);exact ih λm=>h<|.tail _ m
def ape:∀{l m:G (aj×V)}{ρ:Rho},pw (l++m) ρ=pw m (pw l ρ):=by intro c;induction c with|nil=>intro _ _;exact C|cons e l ih=>intro m ρ;exact ih
def apf:∀{l:G (aj×V)}{ρ:Rho},(l.map (·.1)).Nodup->pw l.reverse ρ=pw l ρ:=by intro c;induction c with|nil=>intro _ _;exact C|cons e l ih=>intro ρ h;have h:=qK.mp h;refine U G.reverse_cons<|U ape<|U (ih h.2) ?_;exact(apd h.1).symm
structure sg where
 id:ah
 i:aj
 v:V
 y:au
noncomputable abbrev sg.s(e:sg):aj×V:=(e.i,e.v)
structure KM(B:cA)(w:b9)(c:Cf)(L:Cx)(e:sg):Prop where
 sl:dk L.nm e.id=q e.i
 lo:L.sc.names.lookup e.id=q .local
 nx:dU e.v=D
 KN:aP B w c e.v e.y
def pv.after(l:pv B w J f c P Q)(n:cv B w (FX f) J c m):pv B w J (f.on ρ) m P Q:=λρ' p r u O x=>l ρ' p r (n.trans u) O x
theorem S9:∀{l:G sg}{f:Fr}{c:Cf}{P:Rho->Mem->Prop},(∀e∈l,KM B w c f.cx e)->bY B w f c->St B w J c->jl f.ρ->P (pw (l.map sg.s) f.ρ) c.M->pv B w J f c P Q->aH (ax B w) f.A (assignInOrder (l.map λe=>bindName f.env e.id)<|l.map (·.y)) Q E c.s|[],f,c,P,_,O,S,r,u,m=>UW<|m f.ρ c u (.refl S) O r|e::l,f,c,P,Y,O,S,r,u,m=>have h:=Y e<|.head _;UX (bindName_ (Ei O S h.sl (.inl h.lo) h.KN (λwd p=>by have n:=h.nx;rw[p]at n;exact bZ n) BQ λZ tk x O1=>S9 (l:=l) (f:=f.on<|f.ρ.set e.i<|q e.v) (c:=c.lo Z tk c.W) (P:=P) (λe' kX=>have g:=Y e'<|.tail _ kX;⟨g.sl,g.lo,g.nx,g.KN.pg x.ay g.nx⟩) O1 x.st (r.set h.nx) u<|m.after x))
def dI.pg(x:mr X c l)(n:f.all dU=D):dI B w c f m->dI B w l f m:=dI.kv λe h _ r=>r.pg x<|fc.mp n e h
variable(B w J R d L)in
def BR(N:G Tg)(l:G aN):Prop:=(∀(f:Fr)(c:Cf)(P:Rho->Mem->Prop)(Q:jX->a8->Prop)(E:au->a8->Prop)(p:G V)(r:G au),f.cx=L->Rd B w J d f c->jl f.ρ->p.all dU=D->dI B w c p r->qT R N p f.ρ c.M P->pv B w J f c P Q->aH (ax B w) f.A (assignInOrder ((qM l f.env).map (·.2)) r) Q E c.s)/\∀m,(qM l m).length=N.length/\(qM l m).findIdx? (·.1)=z
def S_(h:qT R (t::N) f ρ c P):∃v r,f=v::r/\ez R t v ρ c λρ c=>qT R N r ρ c P:=by cases f with|nil=>exact h.elim|cons v r=>exact(fY v r C h)
def apg:BR B w J R d L [] []:=⟨λf c P Q E u x O r m Y Z p l=>UW<|l f.ρ c p (.refl r.st) r.e m,λ_=>⟨C,C⟩⟩
def aph(hs:k6 te=D)(ht:sf B w J R d L t te)(kL:BR B w J R d L N u):BR B w J R d L (t::N) (te::u):=⟨λf c P Q E vs ys hc r hx p rv hw l=>by
 refine U (EN hs ..) ?_
 refine cq (S_ hw) λv vr bA bG=>?_
 clear hw;obtain rfl:=bA
 refine dh rv λy yr x Y Z=>?_
 clear rv;obtain rfl:=x
 have p:=bh p
 exact UX<|ht f c _ _ E v y hc r hx Y bG λρ c2 hp n O hx2=>kL.1 (f.on ρ) c2 P Q E vr yr hc ⟨r.a,O,n.st⟩ hx2 p.2 (Z.pg n.ay p.2) hp<|l.after n,
 λenv=>by refine U (EN hs ..)<|U (UY) ?_;have m:=kL.2 env;exact⟨az (· +1) m.1,by calc U m.2;rfl⟩⟩
noncomputable def Ta(t:Tg)(k:aj->ak):ak:=match t with
 | .v t=>match t with| .var i=>k i|_=>j
 |_=>j
def apl(h:Ta t k=D):∃i,t= .v (.var i)/\k i=D:=by
 cases t with
 |v t=>cases t with|var i=>exact(aT i C h)|ai _=>exact bZ h
 |_=>exact bZ h
noncomputable def E3(L:Cx):G Tg->G ah->ak|[],c=>c.isEmpty|t::N,c=>lC c λn c=>Ta t (λi=>dk L.nm n==q i&&L.sc.names.lookup n==q .local)&&E3 L N c
def apm:∀{N:G Tg}{m:G ah}{p:G V}{x:G au}{ρ:Rho}{f:Mem}{P:Rho->Mem->Prop},E3 L N m=D->N.length=p.length->dI B w c p x->qT R N p ρ f P->∃l:G sg,(∀e∈l,KM B w c L e)/\l.map (·.id)=m/\l.map (·.y)=x/\P (pw (l.map sg.s) ρ) f:=by intro N;induction N with|nil=>intro m p x ρ f P h O r E;obtain rfl:=G.eq_nil_of_length_eq_zero O.symm;obtain rfl:=iA m h;subst r;exact(oB [] (λ_ h=>absurd h gk) C rfl E)|cons t N ih=>intro m p x ρ f P h O r E;refine g7 m h λn nr u h=>an h λQ Z=>av (apl Q) λi cI Y=>cq (S_ E) λv vr bA bG=>?_;clear h;subst u;clear E h Q;obtain rfl:=cI;obtain rfl:=bA;refine dh r λy yr lO cg ju=>?_;clear r;obtain rfl:=lO;have k:=cO bG;exact lZ (ih Z (FI O) ju k.2) λl qA sh E4 KO=>(oB (⟨n,i,v,y⟩::l) (wk.mpr ⟨⟨bw.mp (bh Y).1,bw.mp (bh Y).2,(bh k.1).2,cg⟩,qA⟩) (az (n::·) sh) (az (y::·) E4) KO)
def apn:∀{l:G ah},gY l=D->l.Nodup:=by intro f;induction f with|nil=>exact λ_=>.nil|cons x l ih=>exact λh=>an h λm p=>qK.mpr ⟨λc=>(by injection((mA m).symm.trans<|fW.mpr c)),ih p⟩
def apo:∀{l:G sg},(∀e∈l,KM B w c L e)->(l.map (·.id)).Nodup->((l.map sg.s).map (·.1)).Nodup:=by
 intro E;induction E with
 |nil=>exact λ_ _=>.nil
 |cons e l ih=>
  exact λr m=>have m:=qK.mp m
  qK.mpr ⟨λf=>av (mE.mp f) λp O P=>(mE.mp O).elim λx u=>m.1<|mE.mpr<|aT x u.1<|yl ((r x<|.tail _ u.1).sl.trans<|az q<|(az sy u.2).trans P) (r e<|.head _).sl,ih (λe Q=>r e<|.tail _ Q) m.2⟩
def Tb(Z:tF B w J R d L x vs)(hl:x.length<=100)(hc:f.cx=L)(r:Rd B w J d f c)(hw:jZ R x f.ρ c.M P)(l:∀u a m p,P u m.M->Nx B w J c m->dI B w m u p->m.h.IsTuple a p.toArray->Q (.ref a) m.s):aH (ax B w) f.A (eval (.Tuple vs k2 p2) f.env) Q E c.s:=ar3 (Z f c _ _ _ p2 hc r hw λu m p hn h O r1=>⟨aG (hn▸hl)<|aG {} mw,by have Y:=Jb (o:={cls:=.type "tuple",data:=.seq p.toArray}) O.st;exact l u m.s.heap.objs.size (m.gr _ _) p h (O.trans Y) (r1.ay Y.ay)<|cN _ (jq _ rfl) C ⟨_,C⟩⟩)
def apq[fe d](hx:tF B w J R d L xs vs)(hl:xs.length<=100)(h:(BR B w J R d L N r/\KJ L r=D)\/(KL L r vs=D/\E3 L N (k7 L r)=D)):iB B w J R d L (.iF N xs) (.Assign [.Tuple r k1 p1] (.Tuple vs k2 p2) p):=λf c P Q E hc T hw m=>by
 subst hc;rcases h with h|h
 ·refine U_ (Tb hx hl C T.rd hw λus a x Z hp O r1 ht=>?_) C<|apb T.e h.2;have g:=cO hp;have g1:=bh g.1;show aH _ _ (assign (.Tuple r k1 p1) f.env _) _ _ _;exact as5 T.a.hh ht ((h.1.2 f.env).1.trans ((bw.mp g1.1).trans r1.len)) (h.1.2 f.env).2 λh' kX=>have u:=my (J:=x.s.toks) O.st λb o e=>kX b o (hO<|hR e) e;h.1.1 f (x.gr h' x.s.toks) _ _ E us Z rfl (T.rd.on<|O.trans u) T.nx g1.2 (r1.ay u.ay) g.2 (pv.of T m<|O.trans u)
 ·refine Assign_Tuple_swapped (Tb hx hl C T.rd hw λus a x Z hp O r1 ht=>have g:=cO hp;have g1:=bh g.1;have Y:=bw.mp g1.1;lZ (apm h.2 Y r1 g.2) λl qA sh E4 KO=>?_) C<|apc T.e h.1
  have hsz:(k7 f.cx r).length=Z.toArray.size:=by exact U (Eq.symm sh)<|U (bx ..)<|U asn<|U (Eq.symm E4)<|U (bx ..) C
  exact U hsz<|wpAny_unpackItems_tuple T.a.hh ht λh' kX=>have u:=my (J:=x.s.toks) O.st λb o e=>kX b o (hO<|hR e) e;have yu:gY (k7 f.cx r)=D:=an h.1 λ_ h=>an h λ_ h=>an h λ_ h=>an h λ_ h=>an h λ_ h=>an h λh6 _=>h6;have e3:(k7 f.cx r).reverse.map (λn=>bindName f.env n)=l.reverse.map λe=>bindName f.env e.id:=U (Eq.symm sh)<|U (Eq.symm Vd)<|U lW C;have e4:Z.toArray.toList.reverse=l.reverse.map (·.y):=U (Eq.symm E4)<|U Vd C;U e3 (U e4<|S9 (l:=l.reverse) (f:=f) (c:=x.gr h' x.s.toks) (λe he=>have k:=qA e<|G.mem_reverse.mp he;⟨k.sl,k.lo,k.nx,k.KN.ay u.ay⟩) (T.on<|O.trans u).e u.st T.nx (U Vd<|U (apf<|apo qA<|sh▸apn yu) KO)<|pv.of T m<|O.trans u)
end
section
def apr(h2:ot J w L Φ d cx ts R):ot J w L Φ d cx (.fz i::ts) R:=λf c P Q E hc T hw l=>av (dq hw) λo cI cG=>av (dq cG) λv aW a_=>(kQ a_).elim λx m=>av m λp qA sh=>av (anq T.st qA T.b) λW N Y=>by have hi:f.ρ[i]? =q (q v):=cI.trans<|az q aW;have n:fb J w L Φ.base (FX f) c (c.re W p):=⟨N.st,N.ay.bz (λ_ h=>h.elim) (bR _)<|cD _,C,C⟩;have hx:jl (f.ρ.set i<|q<|.fz x):=T.nx.set C;have O:bY J w (f.on<|f.ρ.set i<|q<|.fz x) (c.re W p):=T.e.move N.ay (λB Z e=>absurd e<|hx B Z) (λ{B u} e=>(rS e).elim (λt=>by clear e;cases t.1;obtain rfl:=t.2;exact(aT v hi Y)) λt=>⟨u,t.2,λy r=>N.kv u y ⟨(by clear e;cases u with|exc Z=>exact absurd t.2<|T.nx B Z|_=>rfl),B,(UZ<|Ne.symm t.1).trans t.2⟩ r⟩) (λh=>h) (λ_ _ _ _ h=>h) λ_ _ _ _ _ _ h=>h;exact h2 (f.on<|f.ρ.set i<|q<|.fz x) (c.re W p) P Q E hc ⟨T.a,T.fr,T.lf,O,N.st,hx,N.len⟩ sh<|l.step n O
end
section
open Builtin Builtin.ObjectAttr
noncomputable def Tc(v:Data)(k:Ve->ak):ak:=if h:v.ctorIdx=8 then Data.cls.elim (motive:=λ_=>ak) v h k else j
def apt(h:Tc v k=D):∃a,v= .cls a/\k a=D:=(dE h).elim<|Data.cls.elim (motive:=λv=>∀c,Data.cls.elim (motive:=λ_=>ak) v c k=D->∃a,v= .cls a/\k a=D) v (dE h).1 λa _ h=>(aT a rfl h)
noncomputable abbrev KP:G au:=[.type "Exception",.type "BaseException",.type "object"]
noncomputable def Td(l:G (ar au)):ak:=lC l λ_ l=>lC l λ_ l=>lC l λ_ l=>lC l λ_ l=>lC l λx l=>l1 l λ_=>x==q (.builtin "Exception.__new__")
noncomputable def apu(K:cH)(o:dy):ak:=o.cls== .type "type"&&(Td o.slots.toList&&Tc o.data λc=>c.mro== .ref 31::KP&&(!c.hasDel&&(c.hasDict&&(nsOkIn K c.ns&&(nsIn K c.ns "__init__"==q (q<|.ref 28)&&(nsIn K c.ns "word"==q z&&nsIn K c.ns "__setattr__"==q z))))))
noncomputable def Te(c:G dT):ak:=l2 c λl m=>BE l (λe=>EG e λf a p B=>p.isEmpty&&(tP f (λo n E=>n=="__init__"&&(E.endLine==B.line&&kY o λx _=>x=="Exception"))&&l2 a λu v=>kY u (λn _=>n=="self")&&kY v (λn _=>n=="word")))&&BD m λJ v _=>l1 J (λt=>tP t λo n _=>n=="word"&&kY o λx _=>x=="self")&&kY v λn _=>n=="word"
noncomputable def si(K:cH):ak:=oS (K.lookup 31) (apu K)&&(oS (K.lookup 28) (λo=>o.cls== .type "function")&&(ER K 28 (λf c=>Te c&&(Ez f ⟨2,2,[]⟩ ["self","word"]&&(f.scope.names.lookup ("self":ah)==q .local&&(f.scope.names.lookup ("word":ah)==q .local&&f.scope.names.lookup ("Exception":ah)==q .globalImplicit))))&&nsIn K la "Exception"==q z))
def Tf{o:dy}(f:o.cls=c)(l:o.data=t)(m:o.slots=s):o=⟨c,o.dict,t,s⟩:=by exact U (Eq.symm f)<|U (Eq.symm l)<|U (Eq.symm m) C
def apv{K:cH}(h:K.lookup N=q ⟨c,d,.dict f l,m⟩):nsIn K N n=(match f.toList.find? (·.key.isStr n)with
  |q e=>q<|q e.val
  |z=>if f.toList.any (·.refKey)then z else q z):=by
 delta nsIn
 exact U h C
def KQ{K:cH}(X:K.In h)(c:h.Ns N m)(e:nsIn K N n=q v):m n=v:=oC c λo f E p t _ u=>gT (P:=λ_=>m n=v) (K.lookup N) (λl=>by injection((show nsIn K N n=z by delta nsIn;exact U l C).symm.trans e)) λB l=>have e:=(apv<|l.trans<|az q<|Tf (o:=B) C ((az dy.data<|bH<|p.symm.trans<|X _ _ l).symm.trans t) C).symm.trans e;(u n).symm.trans ((az (ar.map aty) (as2 (xs:=f)).symm).trans<|oc (P:=λo:ar ug=>(match o with|q e=>q (q e.val)|z=>if f.toList.any (·.refKey)=D then z else q z)=q v->o.map aty=v) (f.toList.find? (·.key.isStr n)) (bc (P:=λb=>(if b=D then z else q z)=q v->z=v) (f.toList.any (·.refKey)) (λe=>by injection e) bH) (λx=>bH) e)
def apw(h:Td l.toList=D):∃c f m p t,l= #[c,f,m,p,q (.builtin "Exception.__new__"),t]:=by obtain⟨l⟩:=l;exact g7 _ h λc B u h=>g7 _ h λf l1 E h=>g7 _ h λm l2 J h=>g7 _ h λp P L h=>g7 _ h λx Q N h=>iz _ h λt O h=>(Co c f m p ⟨t,have u:c::B=l:=u;U (Eq.symm u) (U (Eq.symm E)<|U (Eq.symm J)<|U (Eq.symm L)<|U (Eq.symm N)<|U (Eq.symm O)<|U (bw.mp h) C)⟩)
section
variable{r:cA}{w:b9}{K:cH}{A:dY}{h:bt}
structure apx(h:bt)(cd:Ve)(dd:ar aw)(k0 k1 k2 k3 k5:ar au)(mN:ah->ar au):Prop where
 aq:h.get? 31=q (excClassObj cd.name cd.qualname 31 cd.ns cd.bases KP D cd.slotNames cd.subclasses cd.abstract cd.collection dd k0 k1 k2 k3 k5 "Exception.__new__")
 ns:h.Ns cd.ns mN
 init:mN "__init__"=q (.ref 28)
 oH:mN "word"=z
 apy:mN "__setattr__"=z
def apz(h:bt):Prop:=∃c f l m p t u x,apx h c f l m p t u x
def apA{c:Ve}(f:c.mro=m)(l:c.hasDel=j)(p:c.hasDict=D):c=⟨c.name,c.bases,m,c.ns,c.qualname,D,c.slotNames,c.subclasses,c.abstract,c.collection,j⟩:=by exact U (Eq.symm f)<|U (Eq.symm l)<|U (Eq.symm p) C
def E5(c:si K=D)(X:K.In h):apz h:=av (tR (bh c).1) λo E J=>an J λL N=>an N λO P=>wG (apw O) λQ R Y Z g3=>g3.elim λk5 g5=>(apt P).elim λf m=>an m.2 λm1 p=>an p λp t=>an t λt u=>an u λu x=>an x λx B=>an B λB m7=>have l:h.Ns f.ns (h.nsMap f.ns):=.of_isNs (isNs_of_in X u);⟨f,o.dict,Q,R,Y,Z,k5,h.nsMap f.ns,(X _ _ E).trans<|az q<|Tf (bw.mp L) (m.1.trans<|az Data.cls<|apA (bw.mp m1) (mA p) t) g5,l,KQ X l<|bw.mp x,KQ X l<|bw.mp B,KQ X l<|bw.mp m7⟩
def apB{nm c:ah}{f N:aw}{bs bm:G au}{sn:G ah}{sub:G au}{ab:ak}{col:ar ak}{dd:ar aw}{k0 k1 k2 k3 k5:ar au}{B x sa J:jC}{mN:ah->ar au}{name:ah}{e:aw}{L:dy}{vs:eD au}{v:au}{Q:jX->a8->Prop}{E:au->a8->Prop}(m:StoreFacts B bm sa J){h:bt}{g:eD GenState}{dr:atz}{t:aj}{l:OsState}(Y:h.get? f=q (excClassObj nm c f N bs bm D sn sub ab col dd k0 k1 k2 k3 k5 x))(hN:h.Ns N mN)(hsa:mN "__setattr__"=z)(hna:mN name=z)(hB:typeLookup (.type B) name=pure z)(P:h.get? e=q L)(hc:L.cls= .ref f)(KR:L.dict=z)(hd:L.data= .fields vs)(c:∀Z tk od,(∀b u,b≠e->h.get? b=q u->Z.get? b=q u)->Z.get? e=q {L with dict:=q h.objs.size}->Z.get? h.objs.size=q od->n_ od [(name,v)]->Q jX.unit ⟨Z,g,dr,tk,l⟩):aH (ax r w) A (setAttr (.ref e) name v) Q E ⟨h,g,dr,t,l⟩:=by
 have f3:=m.slot.bind<|.ref e;have O:=m.passes<|.ref e;repeat(any_goals(first|assumption|(with_reducible calc L5 P;refine U hc ?_)|(with_reducible refine atA Y hN m.mro m.slot.lookup ?_;refine U hsa ?_)|wp_step))
 refine LL m.slot.plain m.entry<|wpAny_check_sa m Y P hc ?_;repeat(first|refine U (refuse_eq ..) ?_|(refine U (refuseLoop_ref ..)<|U O ?_)|(with_reducible refine L5 P ?_;refine U hc ?_)|with_reducible refine wpAny_mroOf_exc Y ?_|(with_reducible refine atA Y hN m.mro hB ?_;refine U hna ?_)|wp_step)
 refine U KR<|U (cB<|dw C)<|U hd<|have Ti:(h.push {cls:=.type "dict",data:=.dict #[]}).get? e=q L:=jp _ P;have tG:e≠h.objs.size:=hO<|hR P;aL (wpAny_alloc'<|aL<|wpAny_update' Ti<|bu ?_);have E7:((h.push {cls:=.type "dict",data:=.dict #[]}).update e λo=>{cls:=o.cls,dict:=q h.objs.size,data:=o.data,slots:=o.slots}).get? h.objs.size=q {cls:=.type "dict",data:=.dict #[]}:=(FF _ _ _ _ tG.symm).trans (bt.get?_push_at C rfl);have R:((h.push {cls:=.type "dict",data:=.dict #[]}).update e λo=>{cls:=o.cls,dict:=q h.objs.size,data:=o.data,slots:=o.slots}).get? e=q {L with dict:=q h.objs.size}:=qL _ Ti (LV (vs:=vs) hd);have Tj:∀b u,b≠e->h.get? b=q u->((h.push {cls:=.type "dict",data:=.dict #[]}).update e λo=>{cls:=o.cls,dict:=q h.objs.size,data:=o.data,slots:=o.slots}).get? b=q u:=λb u hb eb=>(FF _ _ _ _ hb).trans (jp _ eb);generalize hH:((h.push {cls:=.type "dict",data:=.dict #[]}).update e λo=>{cls:=o.cls,dict:=q h.objs.size,data:=o.data,slots:=o.slots})=H at E7 R Tj;refine aL<|bu<|aL<|aL<|aL<|U4<|bu<|aL<|U9<|aL<|U8 E7 ?_;have ho:n_ ({cls:=.type "dict",data:=.dict #[]}:dy) []:=⟨C,(fY _ _ rfl rfl)⟩;dsimp only;refine U (atj ..)<|Fv (g9 (by simp))<|wpAny_updatePart' E7<|have p:=RQ (f:=name) (x:=uk w.params name) (t:=t+1) (y:=v) ho;have D':=qL (LY name (uk w.params name) (.str name<|t+1) v) E7 p.2;have p1':=p.1;fH p1' λ_ fB=>cq fB λj_ og hd2 J9=>?_;refine aL<|atk D' (by refine U hd2 ?_;calc atl;have h1:=J9.len;rw[g_]at h1;refine U qH<|U h1 ?_;exact yN ..) ?_;exact bu<|bu<|bu<|c _ _ _ (λb u hb eb=>U (zi _ _<|Cj<|hR eb)<|Tj b u hb eb) (U (zi _ _ tG.symm) R) D' p.1
end
end
section
open Builtin Builtin.ObjectAttr
def apE{K:cH}:findCls K (.type "Exception") (.type "type") "__init__"=q (.val<|.builtin "Exception.__init__"):=()
def apF:typeOf (.type "Exception")=pure (.type "type"):=()
def apG:atB "Exception"=j:=by decide+kernel
def apH:handedIn (.builtin "Exception.__init__")=D:=by decide+kernel
section
variable{c:cA}{w:b9}{K:cH}{A:dY}{s:a8}{h:bt}
def apI{T:jC}{name:ah}{v:au}{E:au->a8->Prop}{r:jW ak}{Q:au×G au->a8->Prop}(X:K.In s.heap)(t:typeOf (.type T)=pure (.type "type"))(u:atB T=j)(e:findCls K (.type T) (.type "type") name=q (.val v))(x:handedIn v=D)(h:Q (v,[]) {s with toks:=s.toks+1}):aH (ax c w) A (getMethod (.type T) name r) Q E s:=by
 have l:opaqueClassAbove (.type T)=pure z:=by delta opaqueClassAbove;dsimp only;calc U u;rfl
 refine have m:LN (ax c w) s.heap (typeOf<|.type T) (.type "type"):=LP t;have p:findIn K (.type "type") "__getattribute__"=q (q<|.builtin "type.__getattribute__"):=type_tga;aL (aL<|m.here<|(L3 X p).here ?_);dsimp only;refine wr canon_tga<|aL<|gm (Q:=λv=>Q (v,[])) (E:=E) ?_ (λ_ _ f=>bu f) λ_ _ f=>f;have B:LN (ax c w) s.heap (opaqueClassAbove<|.type T) z:=LP l;refine cls_open X B m p (looks_hook X (r:=z) (by rfl)) (by rfl) e
  (bu (by show aH _ _ (handedOut v) _ _ _;exact U (atx x)<|bu h))
def apK{nm f:ah}{l N:aw}{bs P:G au}{r:ak}{sn:G ah}{sub:G au}{ab:ak}{x:ar ak}{dd:ar aw}{k0 k1 k2 k3 k5:ar au}{B p R:jC}{e:aw}{J:dy}{L:eD au}{rest:G au}{Q:au->a8->Prop}{E:au->a8->Prop}(O:ExcBaseFacts B p R P){h:bt}{g:eD GenState}{Y:atz}{t:aj}{Z:OsState}(hC:h.get? l=q (excClassObj nm f l N bs P r sn sub ab x dd k0 k1 k2 k3 k5 p))(hx:h.get? e=q J)(hc:J.cls= .ref l)(hd:J.data= .fields L){t0:aw}(Tn:L[0]? =q (.ref t0))(BS:rest.length<=sizeLine)(hq:Q .none ⟨(h.push {cls:=.type "tuple",data:=.seq rest.toArray}).update e<|sC (·.setIfInBounds 0 (.ref h.objs.size)),g,Y,t,Z⟩):aH (ax c w) A (call (.builtin R)<|.ref e::rest) Q E ⟨h,g,Y,t,Z⟩:=have h0:0<L.size:=(za.mp Tn).1;Ch (LL O.init.plain O.initEntry<|wpAny_check_init_sub O hC hx hc<|have u:=jp {cls:=.type "tuple",data:=.seq rest.toArray} hx;aL (wpAny_newTuple (hsz:=BS)<|aL<|aL<|wz u hd Tn<|aL<|LW u hd h0<|wpAny_letGo<|bu hq))
end
end
section
open Builtin Builtin.ObjectAttr
section
variable{K:cH}
def apL:y0 "Exception"=q (.type "Exception"):=by decide+kernel
def apM{c:Prop}(r:G dT)(h:Te r=D)(l:∀J B L p3 E N O P Q R,[ato (.Call (.Attribute (.Name "Exception" J) "__init__" B) [.Name "self" L,.Name "word" p3] [] E) N,.Assign [.Attribute (.Name "self" O) "word" P] (.Name "word" Q) R]=r->B.endLine=E.line->c):c:=yz r h λs1 s2 u h=>an h λm p=>EK s1 m λe N u1 m=>Kh e m λf a kw E u2 m=>an m λhk m=>an m λm Y=>vV f m λo n B u3 m=>an m λhn m=>an m λhl m=>kZ o m λx J u4 m=>yz a Y λa1 a2 u5 Y=>an Y λZ KT=>kZ a1 Z λn1 L u6 Z=>kZ a2 KT λn2 p3 u7 KT=>EJ s2 p λts v R u8 p=>an p λp hv=>iz ts p λt u9 p=>vV t p λo2 m2 P v1 p=>an p λhm p=>kZ o2 p λx2 O v2 p=>kZ v hv λx3 Q v3 hv=>l J B L p3 E N O P Q R (U (Eq.symm u)<|U (Eq.symm u1)<|U (Eq.symm u2)<|U (Eq.symm u3)<|U (Eq.symm u4)<|U (Eq.symm u5)<|U (Eq.symm u6)<|U (Eq.symm u7)<|U (Eq.symm u8)<|U (Eq.symm u9)<|U (Eq.symm v1)<|U (Eq.symm v2)<|U (Eq.symm v3)<|U (Eq.symm<|iA kw hk)<|U (bw.mp hn)<|U (bw.mp m)<|U (bw.mp Z)<|U (bw.mp KT)<|U (bw.mp hm)<|U (bw.mp p)<|U (bw.mp hv) C)<|bw.mp hl
structure KU(h':bt)(e d t':aw)(nu od:dy)(y:au):Prop where
 aq:h'.get? e=q nu
 cls:nu.cls= .ref 31
 dict:nu.dict=q d
 data:nu.data= .fields #[.ref t',.none,.none,.none,.bool j,.none]
 CF:h'.get? d=q od
 aR:n_ od [("word",y)]
def apN(c:Su R w Y K gl mg mb)(f:si K=D)(hk:∀a o,Y.get? a=q o->s.heap.get? a=q o)(apO:A.depth<990)(hx:s.heap.get? e=q Z)(eI:e≠31)(hc:Z.cls= .ref 31)(KR:Z.dict=z)(hd:Z.data= .fields #[.ref t0,.none,.none,.none,.bool j,.none])(Q:au->a8->Prop)(E:au->a8->Prop)(l:∀h' tk nu t' d od,(∀b O,b≠e->s.heap.get? b=q O->h'.get? b=q O)->KU h' e d t' nu od y->s.heap.get? d=z->Q .none {s with heap:=h',toks:=tk}):aH (ax R w) A (call (.ref 28) [.ref e,y]) Q E s:=by
 have X:K.In s.heap:=c.rK.keeps hk;have C2:=bh (bh f).2;have C3:=bh C2.2;refine(Km C3.1).elim λB k=>av k λbody aW a_=>an a_ λhbd k2=>an k2 λk8 k3=>an k3 λl1 k4=>an k4 λl2 l3=>apM body hbd λp1 Sl p2 p3 u p4 p5 p6 p7 p8 apQ l0=>?_;have L:=JL k8;have l1:=bw.mp l1;have l2:=bw.mp l2;have l3:=bw.mp l3;refine av aW.aq λoF apR apS=>?_;have w7:B.params.args.length=2:=by have:=az mC L.pn;rw[bx]at this;exact this
 refine Ch (ats (fd:=B) (binds:=(([("self":ah),"word"].take 2).zip [hG e,y])) (by have:recursionLimit=1000:=C;exact q1) (X _ _ apR) apS (c.nolimit.keeps hk) (att X aW.code) (aW.body.trans<|az _ apQ.symm)
  (by rw[Rv L.pp L.df (by rw[w7];rfl),L.pn]) (pz.mp L.Ry) (λx hx=>(L.pk x.1 (U7 hx).1).imp id λh=>⟨h,JJ<|.inl<|mem_of_lookup h⟩) (λs1 ET=>?_) L.co L.Rz L.kind)
 obtain⟨⟨⟨N,tk,rfl⟩,dp,hkeep,hfresh⟩,_,_,_⟩:=ET;have KV:∀a o,Y.get? a=q o->N.get? a=q o:=λa o p=>hkeep a o<|hk a o p;have X1:K.In N:=c.rK.keeps KV;have KW:N.get? e=q Z:=hkeep e Z hx;refine(E5 f X1).elim λcd p=>dZ p λdd k0 p=>wG p λk1 k2 k3 k5 p=>p.elim λmN t=>?_;have KY:(gn B s.heap.objs.size 28).scope.kind= .function:=L.kind;have yu:gY [("self":ah),"word"]=D:=by decide+kernel
 have KZ:bindL (gn B s.heap.objs.size 28).kindOf (([("self":ah),"word"].take 2).zip [hG e,y]) (λ_=>z) "self"=q (.ref e):=(Ey (l:=[(("self":ah),hG e),("word",y)]) yu "self").trans<|cE l1;have K0:bindL (gn B s.heap.objs.size 28).kindOf (([("self":ah),"word"].take 2).zip [hG e,y]) (λ_=>z) "word"=q y:=(Ey (l:=[(("self":ah),hG e),("word",y)]) yu "word").trans<|cE l2;dsimp only at dp;generalize bindL (gn B s.heap.objs.size 28).kindOf (([("self":ah),"word"].take 2).zip [hG e,y]) (λ_=>z)=m at dp KZ K0;have hnf:e≠(gn B s.heap.objs.size 28).locals:=hO<|iD (hR hx) hfresh;have E8:∀{s2:a8}{A2:dY}{pos:eZ}{n:ah}{v:au}{Q2:au->a8->Prop}{E2:au->a8->Prop},B.scope.names.lookup n=q .local->m n=q v->(n==("__debug__":ah))=j->s2.heap.Ns (gn B s.heap.objs.size 28).locals m->Q2 v s2->aH (ax R w) A2 (eval (.Name n pos)<|gn B s.heap.objs.size 28) Q2 E2 s2:=λhl hm hd hn2 q2=>LD (arZ KY hl hn2 hm q2) hd;have d1:(("self":ah)==("__debug__":ah))=j:=by decide+kernel
 have d2:(("word":ah)==("__debug__":ah))=j:=by decide+kernel
 refine L2<|L4 ?_ (by delta interactive;rw[KY];rfl) C;rw[arm_eval_Call,Se (e:=.Name "Exception" p1) C];refine aL<|UA KY l3 (asz (by rw[show(gn B s.heap.objs.size 28).globals=la from L.xR];exact c.g.keeps KV) (asA c.rK c.g<|bw.mp C3.2) (by rw[show(gn B s.heap.objs.size 28).builtins=builtinsNs from L.AE];exact c.b.keeps KV) ((c.bi _ (by decide+kernel)).trans apL) ?_) (by decide+kernel);refine aL<|lb ?_;have apV:∀J,methodCallForm ([aN.Name ("self":ah) p2,aN.Name "word" p3].length+([]:G Keyword).length) (backTo u<|nA [aN.Name ("self":ah) p2,aN.Name "word" p3] J) (backToKw u<|keywordEach [] J)=D:=λJ=>();have apW:∀o J,methodCallPos D o J Sl u=pure u:=λo J=>by delta methodCallPos;simp[l0]
 delta methodCall;rw[apV];calc aL;calc i8;calc apI (T:="Exception") (name:="__init__") (v:=.builtin "Exception.__init__") X1 apF apG apE apH;refine aL<|pB (apW _ _) ?_;refine asW C<|UO<|UP<|E8 l1 KZ d1 dp<|UP<|E8 l2 K0 d2 dp<|asG ?_;have BS:([y]:G au).length<=sizeLine:=by rw[qH];exact yN ..
 calc apK atC t.aq KW hc hd C BS;have hx2:=qL (sC (·.setIfInBounds 0 (hG N.objs.size))) (jp {cls:=.type "tuple",data:=.seq [y].toArray} KW)<|LV<|zh hd _;have tL:∀b O,b≠e->N.get? b=q O->((N.push {cls:=.type "tuple",data:=.seq [y].toArray}).update e<|sC (·.setIfInBounds 0 (hG N.objs.size))).get? b=q O:=λb O hb eb=>(FF _ _ _ _ hb).trans (jp _ eb);have P:=zh hd (·.setIfInBounds 0 (hG N.objs.size));have To:(sC (·.setIfInBounds 0 (hG N.objs.size)) Z).cls= .ref 31:=(ati _ _).trans hc;have apX:(sC (·.setIfInBounds 0 (hG N.objs.size)) Z).dict=z:=(RC _ _).trans KR;generalize (N.push {cls:=.type "tuple",data:=.seq [y].toArray}).update e (sC (·.setIfInBounds 0 (hG N.objs.size)))=H at hx2 tL;have Tp:H.Ns (gn B s.heap.objs.size 28).locals m:=by refine zo dp λo es ep e1 r=>?_;exact(uo o es ep (tL _ _ (Ne.symm hnf) e1) r)
 have apY:H.Ns cd.ns mN:=by refine zo t.ns λo es ep e1 r=>?_;refine(uo o es ep (tL _ _ (λp=>?_) e1) r);rw[p,KW]at e1;obtain rfl:=bH e1;rw[hd]at r;cases r.1
 refine L2<|Sj<|E8 l2 K0 d2 Tp<|E8 l1 KZ d1 Tp ?_;refine apB F.store_Exception (tL _ _ (Ne.symm eI) t.aq) apY t.apy t.oH (by rw[UB,UC];kernel_rfl) hx2 To apX P λh' Jm od r1 r2 r3 r4=>?_;refine zj<|l h' Jm _ _ _ od (λb O hb eb=>r1 b O hb<|tL b O hb<|hkeep b O eb) ⟨r2,To,C,P,r3,r4⟩ ?_;refine gT (s.heap.get? H.objs.size) (λ_=>?_) λO p=>?_;·rfl
 ·
  have hsz:=lK H;by_cases ze:H.objs.size=e;·rw[ze,hx2]at hsz;contradiction
  ·rw[tL _ _ ze (hkeep _ _ p)]at hsz;contradiction
def apZ(c:Su J w L K gl mg mb)(f:si K=D)(hk:∀a o,L.get? a=q o->s.heap.get? a=q o)(apO:A.depth<980)(Q:au->a8->Prop)(E:au->a8->Prop)(l:∀N P e R Y d Z,(∀b u,s.heap.get? b=q u->N.get? b=q u)->s.heap.get? e=z->KU N e d Y R Z y->s.heap.get? d=z->Q (.ref e) {s with heap:=N,toks:=P}):aH (ax J w) A (call (.ref 31) [y]) Q E s:=by
 refine have X:K.In s.heap:=c.rK.keeps hk;wG (E5 f X) λcd dd k0 k1 m=>wG m λk2 k3 k5 mN z0=>av (tR (bh (bh f).2).1) λoI ap0 ap1=>?_;have BS:([y]:G au).length<=sizeLine:=by refine U qH ?_;exact yN ..
 have x:=z0.aq;obtain⟨hp,g,dr,t,r⟩:=s;refine wpAny_call_exc_init atC x z0.ns z0.init (X _ _ ap0) (bw.mp ap1) (λN e B=>cP B.there λt0 ht Q9 ht3=>have eI:∀b u,hp.get? b=q u->b≠e:=λb u O m=>(nomatch ((B.new.symm.trans<|az hp.get? m.symm).trans O:z=q u));apN (s:=⟨N,g,dr,t,r⟩) c f (λa o m=>B.keeps a o<|hk a o m) ?_ ht (λm=>eI _ _ x m.symm) C rfl rfl _ _ λh2 P R Y d Z r1 r2 r3=>⟨C,?_⟩) BS;·show A.depth+(wu.builtin "type.__call__" ⟨.ref 31::[y],[]⟩).weight<_;exact have:=Sr (c:=31) (f:=[y]);q2
 ·refine l h2 P e R Y d Z (λb u O=>r1 b u (eI b u O)<|B.keeps b u O) B.new r2<|gT (hp.get? d) (λ_=>?_) λo m=>?_
  ·rfl
  ·injection(r3.symm.trans<|B.keeps d o m)
end
end
section
open Builtin Builtin.ObjectAttr
section
variable{l:cA}{w:b9}{B:bt}{K:cH}{r:G (ah×F)}{L m:ah->ar au}{u:Fns}{d i:aj}{R:Cx}{A:dY}{Z:fX}{s:a8}{c:Cf}{f:Fr}{x:Mine.X}{id:ah}{P E p:eZ}{e:aN}{a:aw}{J:ah}
def ap2{nm O:ah}{Y N:aw}{bs bm:G au}{hdct:ak}{sn:G ah}{sub:G au}{ab:ak}{col:ar ak}{dd:ar aw}{k0 k1 k2 k3 k5:ar au}{newId:jC}{z0:au->a8->Prop}{x:jW au}{ze:wA->a8->Prop}(ap3:bm.contains (.type "BaseException")=D)(hh:A.handled=z)(h:aH (ax l w) A x (λv dN=>∃e t od sl,v= .ref e/\dN.heap.get? Y=q (excClassObj nm O Y N bs bm hdct sn sub ab col dd k0 k1 k2 k3 k5 newId)/\ dN.heap.get? e=q {cls:=.ref Y,dict:=od,data:=.fields #[.ref t,.none,.none,.none,.bool j,.none],slots:=sl}/\z0 (.ref e) dN) z0 s):aH (ax l w) A (raiseStmt Z (q x) z) ze z0 s:=by
 have hcB:(hG Y::bm).contains (.type "BaseException")=D:=by exact U G.contains_cons<|U ap3<|U (Fm ..) C
 refine aL<|gm h (λv dN B=>Cp B λe t od sl cg hC he hE=>?_) λ_ _ x=>x;clear B;subst cg;obtain⟨hp,g,d,tk,zl⟩:=dN;repeat(first|with_reducible refine L5 he ?_|with_reducible refine L5 hC ?_|(with_reducible refine wpAny_isSubtype_exc hC ?_;refine U hcB ?_)|wp_step)
 exact wpAny_raiseNew_none hh hE
def ap5{h':bt}{tk:aj}{O t':aw}{Y od:dy}{t:lY}{d9:bt}(S:St l w B c)(h1:c.h.get? a=z)(h0:d9.get? a=z)(N:KU h' a O t' Y od (.str J t))(h2:c.h.get? O=z):gZ d9 (c.gr h' tk) a J z:=(um _ (.ref t') (cN Y N.aq (kS S h1:c.W a=z) N.data) C h0 (aT O (wC Y N.aq (kS S h1:c.W a=z) N.cls N.dict ⟨_,N.data⟩)<|oB od N.CF (kS S h2:c.W O=z) N.aR.1<|qN _ t<|cq N.aR.2 λes ep aW a_=>(bV es ep aW a_ C)) C)
def ap6[fe d](O:Su l w B K r L m)(Y:si K=D)(hk:keepIn K (.ref 31)=D)(hf:i4 K R id (q<|.ref 31)=D)(h:jS l w B u d R [x] [e]):iB l w B u d R (.fZ x) (.Raise (q<|.Call (.Name id P) [e] [] E) z p):=λf c z0 ze zl hc T hw zw=>by refine dZ (E5 Y O.rK) λcd dd k=>dZ k λk0 k1 k=>dZ k λk2 k3 k=>dZ k λk5 mN zx=>U (arm_exec_Raise ..)<|aL<|lb<|ap2 (Y:=31) (bm:=KP) (nm:=cd.name) (O:=cd.qualname) (N:=cd.ns) (bs:=cd.bases) (hdct:=D) (sn:=cd.slotNames) (sub:=cd.subclasses) (ab:=cd.abstract) (col:=cd.collection) (dd:=dd) (k0:=k0) (k1:=k1) (k2:=k2) (k3:=k3) (k5:=k5) (newId:="Exception.__new__") (by decide+kernel) T.a.hh<|aL (qr (P:=λvs zB=>b1 vs λv=>gU v λw=>z0 (.exc w) f.ρ zB) h hc T.rd hw (λQ'=>O.yg T.e T.st<|hc▸hf) (By O hk) λvs c1 ys hl e n1 r1=>(yd r1 e).elim λv g=>g.elim λy g=>U g.1<|(mu g.2.1 g.2.2.2).elim λJ zD=>av zD λt qA sh=>have hd1:=T.a.depth;U qA<|apZ (s:=c1.s) O Y n1.st.jR (by lia) _ _ λh' tk e nu t' dx od r1 r2 N r3=>aL<|lb<|bu ?_);have n2:=my (J:=tk) n1.st r1;have n:=n1.trans n2;have y:=ap5 (tk:=tk) n1.st r2 (pq n1 r2) N r3;have he:=N.aq;have hcl:=N.cls;have hdt:=N.data;obtain⟨oc,odd,odt,Tq⟩:=nu;subst hcl;subst hdt;exact(L7 e t' odd Tq C (r1 _ _<|n1.st.jR _ _ zx.aq) he<|zw.exc J f.ρ (c1.gr h' tk) e z sh (T.to n) (T.on n) (.inl C) y)
def ap9{pos:eZ}{t:jX->a8->Prop}{E':au->a8->Prop}(O:bY l w f c)(S:St l w B c)(hs:dk f.cx.nm id=q i)(hk:f.cx.sc.names.lookup id=q .local)(hw:dk f.cx.nm "word"=z)
  (N:∀h tk,cv l w (· =f.env.locals) B c (c.lo h tk c.W)->bY l w (f.on<|f.ρ.set i z) (c.lo h tk c.W)->t jX.unit (c.lo h tk c.W).s):aH (ax l w) f.A (do bindName f.env id .none;unbindBehindTheSuite f.env id pos) t E' c.s:=
 O.ns.elim λY hm=>wpAny_nameGoes_keeps (O.tE hk) hm.1 (QQ O) λh' v0 o9 iV=>by
  refine have n1:=yn (B:=c.s.toks+1) S O.wL iV;have kv:ym l w f c (c.lo h' (c.s.toks+1) c.W):=Ji n1.ay λhw=>QS hm.1 (hm.2.1 _ hw);have no:∀{z0:aj}{v:V},(f.ρ.set i z)[z0]? =q (q v)->z0≠i/\f.ρ[z0]? =q (q v):=λe=>(rJ e).elim (λze=>(by injection ze.2)) λze=>ze;N h' (c.s.toks+1) n1 {O with exc:=λ_ _ _=>hw,ns:=(cN _ o9 (λid' lS=>?_) λid' z0 v' h1 h2 h3=>?_),cells:=λid' hc=>(O.cells id' hc).imp λa h=>h.imp λzl h=>⟨(cr h.1.1 (h.1.2.1.sameBut iV h.1.2.2.2) h.1.2.2),λz0 v' h1 h3=>(h.2 z0 v' h1 (no h3).2).imp λy' g=>⟨g.1,kv.at O (no h3).2 g.2⟩⟩,fr:=O.fr.cL λzw zx=>?_}
  ·have e:id'≠id:=λe=>by rw[<-e]at hs;exact(nomatch hs.symm.trans lS)
   simp only[e,FG]
   exact hm.2.1 id' lS
  ·exact have e:id'≠id:=λe=>(no h3).1 (bH<|h1.symm.trans<|e▸hs);(hm.2.2 id' z0 v' h1 h2 (no h3).2).imp λy' g=>⟨by simp only[e,FG];exact g.1,kv.at O (no h3).2 g.2⟩
  ·by_cases e:zw=f.env.locals
   ·subst e
    exact zp o9 λo es ep e1 e2 _=>(cN o e1 O.wL<|qN es ep e2)
   ·exact zx.cL n1.ay (λ_ _ h=>h) λ_ _ _ _=>e
end
end
section
open Builtin Builtin.ObjectAttr
noncomputable def BU(x:Mine.X)(k:Mine.X->Mine.X->ak):ak:=if h:x.ctorIdx=3 then X.aJ.elim (motive_1:=λ_=>ak) x h λ_ a b=>k a b else j
noncomputable def Tr(x:Mine.X):ak:=x.ctorIdx==14
noncomputable def Ts(x:Mine.X)(k:Mine.X->ak):ak:=if h:x.ctorIdx=17 then X.aR.elim (motive_1:=λ_=>ak) x h λa _=>k a else j
noncomputable def ap_(x:Mine.X)(k:Mine.X->G Mine.X->ak):ak:=if h:x.ctorIdx=22 then X.cw.elim (motive_1:=λ_=>ak) x h λ_ a b=>k a b else j
noncomputable def Tt(x:Mine.X):ak:=ap_ x λo args=>tT o (λ_=>D)&&l1 args λa=>BU a λc u=>Tr u&&BU c λl2 r2=>yB r2 (λ_=>D)&&Ts l2 λY=>tT Y λ_=>D
section
variable{t:cA}{w:b9}{B:bt}{K:cH}{N:G (ah×F)}{E m:ah->ar au}{J:Fns}{d i:aj}{P:Cx}{A:dY}{f:Fr}{x:Mine.X}{id name:ah}{r Q p3 p:eZ}{l:aN}{Z:G S}{L:G dT}
def Tu(x:Mine.X)(h:tT x (λ_=>D)=D):PX t w B K N J d x:=SJ x h λ_ u _=>u▸SW
def aqa(c:Su t w B K N E m)(ex:v7 K=D)(h:Tt x=D):PX t w B K N J d x:=
 have aJ:∀{y:Mine.X}{k:Mine.X->Mine.X->ak},BU y k=D->(∀a b,k a b=D->PX t w B K N J d a/\PX t w B K N J d b)->PX t w B K N J d y:=λ{y k} h Y=>(dE h).elim λz0 hz=>X.aJ.elim (motive_1:=λu=>∀z0,X.aJ.elim (motive_1:=λ_=>ak) u z0 (λ_ a b=>k a b)=D->PX t w B K N J d u) y z0 (λ_ a b _ h=>SX (Y a b h).1 (Y a b h).2) z0 hz;(dE h).elim λz0 hz=>X.cw.elim (motive_1:=λu=>∀z0,X.cw.elim (motive_1:=λ_=>ak) u z0 (λ_ o args=>tT o (λ_=>D)&&l1 args λa=>BU a λze zl=>Tr zl&&BU ze λl2 r2=>yB r2 (λ_=>D)&&Ts l2 λo2=>tT o2 λ_=>D)=D->PX t w B K N J d u) x z0 (λk o args _ h=>an h λh1 h=>iz args h λa u h=>u▸
  SR (Tu o h1) (Kx (aJ h λze zl h=>an h λh1 h=>⟨aJ h λl2 r2 h=>an h λh1 h=>⟨(dE h).elim λz0 hz=>X.aR.elim (motive_1:=λu=>∀z0,X.aR.elim (motive_1:=λ_=>ak) u z0 (λa _=>tT a λ_=>D)=D->PX t w B K N J d u) l2 z0 (λa n _ h=>SZ c<|Tu a h) z0 hz,EV r2 h1 λ_ u _=>u▸SV⟩,X.oH.elim (motive_1:=λu=>PX t w B K N J d u) zl (bw.mp h1) λ_=>SY c ex⟩) Kw)) z0 hz
noncomputable abbrev Fr.E9(f:Fr)(v:ar au)(ρ:Rho):Fr:=⟨f.A.mark v,f.cx,f.env,ρ⟩
def bY.mark(u:bY t w f c):bY t w (f.E9 v f.ρ) c:={u with fr:=u.fr}
def bY.aqb(u:bY t w (f.E9 v ρ) c):bY t w (f.on ρ) c:={u with fr:=u.fr}
section
variable{R:fX}
def aqc(lU:A.frames=q (R::oo))(F:jw A c)(hf:R.frame=q u)(S:St t w B c)(hx:EB R xf)(hy:gZ d9 c e wd xf)(hh:yv d9 c)(Y:∀c',cv t w (tN d9 c) B c c'->c'.M=c.M->gZ d9 c' e wd (q<|rawInt u)->z0 jX.unit c'.s):aH (ax t w) A (noteFrame (.ref e) R) z0 ze c.s:=JT lU F hf S hx hy hh λ_ n y=>Y _ n C y
def Tv(S:St t w B c)(hy:gZ d9 c e wd (q fl))(u:∀c',cv t w (tN d9 c) B c c'->c'.M=c.M->gZ d9 c' e wd (q .none)->Y jX.unit c'.s):aH (ax t w) A (setFlight (.ref e) z) Y z0 c.s:=JU (fr:=z) S hy λ_ n y=>u _ n C y
def aqd(u:Su t w B K N E m)(Y:si K=D)(S:St t w B c)(y:gZ d9 c e wd xf)(z0:ze D c.s):aH (ax t w) A (excMatches (.ref e)<|.ref 31) ze zl c.s:=dZ (E5 Y u.rK) λcd dd k=>dZ k λk0 k1 k=>dZ k λk2 k3 k=>dZ k λk5 mN zB=>y.elim λvs v=>v.elim λa0 v=>v.2.2.2.1.elim λd zx=>zx.1.elim λoe zx=>wpAny_excMatches_sub_self (S.jR _ _ zB.aq) zx.1 zx.2.2.1 (by decide+kernel) z0
def aqe(u:bY t w f c)(S:St t w B c)(hs:dk f.cx.nm n=q i)(hk:f.cx.sc.names.lookup n=q .local)(z0:aP t w c v y)(hv:∀wd,v= .exc wd->dk f.cx.nm "word"=z)(hY:vI f Y n)(ze:∀c',cv t w Y B c c'->c'.M=c.M->bY t w (f.on<|f.ρ.set i<|q v) c'->zl jX.unit c'.s):aH (ax t w) f.A (storeName f.env n y) zl zw c.s:=Ei u S hs (.inl hk) z0 hv hY λ_ _ n u=>ze _ n C u
def aqf(u:bY t w f c)(S:St t w B c)(hs:dk f.cx.nm n=q i)(hk:f.cx.sc.names.lookup n=q .local)(hw:dk f.cx.nm "word"=z)(Y:∀c',cv t w (· =f.env.locals) B c c'->c'.M=c.M->bY t w (f.on<|f.ρ.set i z) c'->z0 jX.unit c'.s):aH (ax t w) f.A (do bindName f.env n .none;unbindBehindTheSuite f.env n pos) z0 ze c.s:=ap9 u S hs hk hw λ_ _ n u=>Y _ n C u
end
def aqg(u:Su t w B K N E m)(Y:si K=D)(hf:i4 K P id (q<|.ref 31)=D)(hs:dk P.nm name=q i)(hl:P.sc.names.lookup name=q .local)(hw:dk P.nm "word"=z)(hx:eP t w B J 0 P x l)(hv:yD l=D)(hb:ot t w B J d P Z L):iB t w B J d P (.ur Z i [.cS x]) (.Try L [.ExceptHandler (q<|.Name id r) (q name) [.Expr l Q] p3] [] [] p):=λf c z0 ze zl hc T eR zw=>by
 subst hc;refine wpAny_Try_except<|hb f c _ _ _ rfl T eR ⟨λo ρ c1 fl hp n T1 g=>?_,λwd ρ c1 e xf hp n T1 hxf y=>?_⟩;·cases o with|next=>subst g;exact zj<|zw.ok .next ρ c1 .next hp n T1 C|brk=>subst g;exact zw.ok .brk ρ c1 .brk hp n T1 C|cont=>subst g;exact zw.ok .cont ρ c1 .cont hp n T1 C|ret v=>exact g.elim λy g=>by refine U g.1 ?_;exact zw.ok (.ret v) ρ c1 (.ret y) hp n T1<|aT y C g.2|exc wd=>exact g.elim
 ·have hp2:=(cO hp).2
  refine T.fr.elim λoo lU=>T.lf.elim λzx hL=>aqc lU T1.e.fr hL T1.st hxf y (n.dom T1.e) λc2 n2 m2 y2=>Tv n2.st y2 λc3 n3 m3 y3=>?_;have O3:=T.e.new (T.e.new T1.e C rfl rfl n2.ay T1.nx λa zw=>zw.1) C rfl rfl n3.ay T1.nx λa zw=>zw.1;refine wpAny_handleBy_cons (codeAny_handlers_test<|u.yg (O3.mark (f:=f.on ρ) (v:=q<|.ref e)) n3.st hf<|aqd u Y n3.st y3<|codeAny_handlers_suite_as<|Tv n3.st y3 λc4 n4 m4 y4=>?_) (by intro zB;injection zB);have b2:J.base<=c2.M.fl.length:=m2▸T1.b;have b3:J.base<=c3.M.fl.length:=m3▸b2;have b4:J.base<=c4.M.fl.length:=m4▸b3;have n14:=((n.kT (n2.toB T1.b) λa zw=>zw.1).kT (n3.toB b2) λa zw=>zw.1).kT (n4.toB b3) λa zw=>zw.1;have O4:=T.e.new O3 C rfl rfl n4.ay T1.nx λa zw=>zw.1;refine aqe (f:=(f.on ρ).E9 (q<|.ref e) ρ) (v:=.exc wd) (Y:=FX f) (O4.mark (f:=f.on ρ)) n4.st hs hl (aT e C<|dZ y4 λvs a0 v=>v.2.2.2.1) (λ_ _=>hw) BQ λc5 n5 m5 O5=>?_;have b5:J.base<=c5.M.fl.length:=m5▸b4;have zD:c5.M=c1.M:=m5.trans<|m4.trans<|m3.trans m2;have n15:=n14.trans<|n5.toB b4;clear n2 n3 n4 n5 n14 O3 O4 y2 y3 y4;have hA0:eT (f.A.mark<|q<|.ref e) 0:=⟨.inl C,aG (yK (sk (cD _) _) _) T.a.depth,aG (yK (sk (cD _) _) _) T.a.units⟩;refine L2<|L4 (hx (((f.on ρ).E9 (q<|.ref e) ρ).on<|ρ.set i<|q<|.exc wd) c5 _ _ _ rfl ⟨hA0,O5,n15.st⟩ (zD▸hp2) λv c6 y6 hp6 n6 r6=>zj<|aqf (f:=f.on<|ρ.set i<|q<|.exc wd) (bY.aqb (f:=f) (v:=q<|.ref e)<|O5.ay n6.ay) n6.st hs hl hw λc7 n7 m7 O7=>?_) ?_ ?_;·have l6:J.base<=c6.M.fl.length:=aG b5 n6.ay.flen;have Tw:(ρ.set i<|q<|V.exc wd).set i z=ρ.set i z:=atr ..;exact zw.ok .next (ρ.set i z) c7 .next (m7▸Tw▸hp6) ((n15.trans<|(n6.toB b5).bz λ_ h=>h.elim).trans<|(n7.toB l6).bz (Y:=FX f) λa e=>.inl e) ⟨T.a,T.fr,T.lf,Tw▸O7,n7.st,T1.nx.aoK,m7▸l6⟩ C
  ·exact T.Kz
  ·clear hx;cases l<;>first|rfl|exact bZ hv
end
end
section
variable(K:cH)(N:G (ah×F))
noncomputable def K1(J:Cx):G Tg->G aN->ak|[],c=>c.isEmpty|t::R,c=>lC c λe c=>k6 e&&(KB K N t J e&&K1 J R c)
noncomputable def aqk(h:atn)(k:ah->ah->aN->ak):ak:=match h with| .ExceptHandler t n b _=>oS t λt=>kY t λf _=>oS n λn=>l1 b λs=>BE s λe=>k f n e
noncomputable def K2(s:S)(k:Mine.X->ak):ak:=s.casesOn (motive_1:=λ_=>ak) (λ_ _=>j) (λ_ _=>j) k (λ_ _=>j) (λ_=>j) (λ_ _ _=>j) (λ_ _=>j) (λ_ _ _ _ _=>j) j j (λ_=>j) (λ_ _ _=>j) λ_=>j
def aql{c:S->Prop}:K2 s k=D->(∀x,k x=D->c (.cS x))->c s:=s.casesOn (motive_1:=λs=>K2 s k=D->(∀x,k x=D->c (.cS x))->c s) (λ_ _ h _=>bZ h) (λ_ _ h _=>bZ h) (λx h f=>f x h) (λ_ _ h _=>bZ h) (λ_ h _=>bZ h) (λ_ _ _ h _=>bZ h) (λ_ _ h _=>bZ h) (λ_ _ _ _ _ h _=>bZ h) (λh _=>bZ h) (λh _=>bZ h) (λ_ h _=>bZ h) (λ_ _ _ h _=>bZ h) λ_ h _=>bZ h
noncomputable def K3(s:S):ak:=s.casesOn (motive_1:=λ_=>ak) (λ_ _=>j) (λ_ _=>j) (λ_=>j) (λ_ _=>j) (λ_=>j) (λ_ _ _=>j) (λ_ _=>j) (λ_ _ _ _ _=>j) j j (λ_=>j) (λ_ _ _=>j) λ_=>D
def aqm{c:S->Prop}:K3 s=D->(∀i,c (.fz i))->c s:=s.casesOn (motive_1:=λs=>K3 s=D->(∀i,c (.fz i))->c s) (λ_ _ h _=>bZ h) (λ_ _ h _=>bZ h) (λ_ h _=>bZ h) (λ_ _ h _=>bZ h) (λ_ h _=>bZ h) (λ_ _ _ h _=>bZ h) (λ_ _ h _=>bZ h) (λ_ _ _ _ _ h _=>bZ h) (λh _=>bZ h) (λh _=>bZ h) (λ_ h _=>bZ h) (λ_ _ _ h _=>bZ h) λi _ f=>f i
mutual
noncomputable def Tx:S->Cx->dT->ak
 | .a9 t x,J,u=>BD u λR v _=>l1 R λY=>k6 Y&&(KD Y v&&(KB K N t J Y&&(dv K N x J v&&(yD v||BA v λ_ _ sc vp=> !(Y.ctorIdx==23)||kY Y λz0 tp=> !(yE J z0 tp sc vp)||(x.ctorIdx==23||x.ctorIdx==24)))))
 | .iF R P,J,u=>BD u λtl v _=>l1 tl λY=>vW Y λL=>vW v λvs=>aa (P.length<=100)&&(nv K N P J vs&&((K1 K N J R L&&KJ J L)||(KL J L vs&&E3 J R (k7 J L))))
 | .cS x,J,u=>BE u λe=>yD e&&dv K N x J e
 | .oJ f args,J,u=>BE u λe=>BO K J e f λa=>nv K N args J a
 | .ret x,J,u=>R4 u λo=>match o with|z=>v8 x|q e=>dv K N x J e
 | .ite t a b,J,u=>R7 u λe sa sb=>dv K N t J e&&(sj a J sa&&sj b J sb)
 | .uq t b,J,u=>R6 u λe sb o=>o.isEmpty&&(dv K N t J e&&sj b J sb)
 | .c_ t k a b Z,J,u=>R5 u λtg it sb o=>o.isEmpty&&(yA it&&(Kq K J k (λe=>dv K N a J e) (λe=>dv K N b J e) (v8 b) tg it&&(r_ J t tg&&sj Z J sb)))
 | .brk,_,u=>R_ u D
 | .cont,_,u=>Sa u D
 | .fZ x,J,u=>R8 u λe c=>c.isNone&&oS e λe=>BG e λz0 a _=>i4 K J z0 (q<|.ref 31)&&l1 a λe=>k6 e&&dv K N x J e
 | .ur Z i h,J,u=>R9 u λb hs o f=>o.isEmpty&&(f.isEmpty&&(l1 hs (λhd=>aqk hd λz0 n e=>i4 K J z0 (q<|.ref 31)&&(dk J.nm n==q i&&(J.sc.names.lookup n==q .local&&(dk J.nm "word"==z&&(yD e&&l1 h λs=>K2 s λx=>Tt x&&dv K N x J e)))))&&sj Z J b))
 | .fz _,_,_=>j
noncomputable def sj:G S->Cx->G dT->ak|[],_,f=>f.isEmpty|t::R,J,f=>(K3 t&&sj R J f)||lC f λp f=>Tx t J p&&sj R J f
end
end
section
variable(l:cA)(w:b9)(B:bt)(K:cH)(N:G (ah×F))(m E:ah->ar au)(O:Fns)(d:aj)
structure v_:Prop extends BP l w B K N m E O d where
 em:si K=D
 BV:keepIn K (.ref 31)=D
def PS(t:S):Prop:=∀(J:Cx)(f:dT),Tx K N t J f=D->iB l w B O d J t f
def wb(R:G S):Prop:=∀(J:Cx)(c:G dT),sj K N R J c=D->ot l w B O d J R c
end
section
variable{l:cA}{w:b9}{B:bt}{K:cH}{N:G (ah×F)}{m E:ah->ar au}{O:Fns}{d i:aj}[fe d]{J:Cx}{t:Tg}{x:Mine.X}{Z h:G S}{R:G Tg}{P:G Mine.X}
def aqn(h:(!(c.ctorIdx==23))=D):FN [c] (.ListComp p r u L) n f=pure j:=by cases c<;>first|rfl|exact bZ h
def aqo{p:ah}(r: .Name p L=Y)(u: .ListComp el gs sc vp=v)(hu:yE J p L sc vp=j)(hb:f.blockKind= .function)(hs:f.scope=J.sc):FN [Y] v n f=pure j:=r▸u▸(S2 (n:=n) hb hs).trans (az pure hu)
noncomputable def E_(J:Cx)(f:ah)(p:eZ)(v:aN):ak:=BA v λ_ _ r u=>yE J f p r u
def aqp{zB:ah}(H:v_ l w B K N m E O d)(hg:sf l w B O d J t (.Name zB tp))(hu:E_ J zB tp v=D)(h4:dv K N x J v=D)(h7:(x.ctorIdx==23||x.ctorIdx==24)=D):iB l w B O d J (.a9 t x) (.Assign [.Name zB tp] v p):=
 ((oA _ _).mp h7).elim
  (λh7=>X.eG.elim (motive_1:=λx=>dv K N x J v=D->iB l w B O d J (.a9 t x) (.Assign [.Name zB tp] v p)) x (bw.mp h7) (λz0 ns ct tt k a b cQ h4=>SS H.U (jm H.toBP ct) (jm H.toBP a) (jm H.toBP b) (Ky H.toBP cQ) h4 λel tg it ifs sc p' u L=>(u▸λhu=>S3 hg hu λf c ze zl zw use hc r hw zx=>Q7 L hc r hw zx:E_ J zB tp v=D->iB l w B O d J (.a9 t<|.eG z0 ns ct tt k a b cQ) (.Assign [.Name zB tp] v p)) hu) h4)
  λh7=>X.sD.elim (motive_1:=λx=>dv K N x J v=D->iB l w B O d J (.a9 t x) (.Assign [.Name zB tp] v p)) x (bw.mp h7) (λns ct t1 a t2 a2 h4=>SU (jm H.toBP ct) (jm H.toBP a) (jm H.toBP a2) h4 λel Ku i1 Kv i2 sc p' u L=>(u▸λhu=>S3 hg hu λf c ze zl zw use hc r hw zx=>Re L hc r hw zx:E_ J zB tp v=D->iB l w B O d J (.a9 t<|.sD ns ct t1 a t2 a2) (.Assign [.Name zB tp] v p)) hu) h4
def aqq(H:v_ l w B K N m E O d):PS l w B K N O d (.a9 t x):=λJ c h=>EJ c h λR v p u h=>u▸iz R h λte u h=>u▸an h λh1 h=>an h λh2 h=>an h λh3 h=>an h λh4 L=>have hg:=S1 H.toBP t h3;((oA _ _).mp L).elim (λL=>KE (jm H.toBP x J v h4).1 hg (λ_ _ _=>aoV L) h2 h1) λL=>Ke v L λel gs sc vp u Y=>((oA _ _).mp Y).elim (λY=>KE (jm H.toBP x J v h4).1 hg (λenv _ _=>u▸aqn Y) h2 h1) λY=>kZ te Y λf tp u' h7=>(ak.eq_false_or_eq_true<|yE J f tp sc vp).elim (λhu=>u'▸aqp H (u'▸hg) (show E_ J f tp v=D from u▸hu) h4 (((oA _ _).mp h7).resolve_left λr=>su<|r.symm.trans<|az not hu)) λhu=>KE (jm H.toBP x J v h4).1 hg (λenv hb hs=>aqo u' u hu hb hs) h2 h1
def aqr(H:BP l w B K N m E O d):∀{R:G Tg}{c:G aN},K1 K N J R c=D->BR l w B O d J R c:=by intro f;induction f with|nil=>intro c h;exact iA c h▸apg|cons t R ih=>intro c h;exact g7 c h λe c u h=>u▸an h λp h=>an h λr L=>aph p (S1 H t r)<|ih L
def aqs(H:v_ l w B K N m E O d):PS l w B K N O d (.iF R P):=λJ f h=>EJ f h λr v p u h=>u▸iz r h λL u h=>u▸vX L h λY k1 p1 u h=>u▸vX v h λvs k2 p2 u h=>u▸an h λh1 h=>an h λh2 h3=>apq (Ky H.toBP P J vs h2).1.1 (dw h1) (((oA _ _).mp h3).imp (λh=>⟨aqr H.toBP (bh h).1,(bh h).2⟩) λh=>bh h)
def aqt(H:v_ l w B K N m E O d):PS l w B K N O d (.ret x):=λJ f h=>anx f h λo p u h=>u▸by clear u;cases o with|none=>exact EW x h▸aoG|some e=>exact aoF (jm H.toBP x J e h).1
def aqu(H:v_ l w B K N m E O d):PS l w B K N O d (.fZ x):=λJ L h=>anC L h λe c p u h=>u▸an h λY h=>BF e h λe u h=>u▸EL e h λr p' a p2 u h=>u▸an h λh2 h=>iz a h λe u h=>u▸an h λh3 h4=>by cases c with|some _=>exact bZ Y|none=>exact ap6 H.U H.em H.BV h2<|EY h3 (jm H.toBP x J e h4).1
def aqv(H:v_ l w B K N m E O d)(ib:wb l w B K N O d Z):PS l w B K N O d (.ur Z i h):=λJ c Y=>anD c Y λb hs o f p u Y=>u▸an Y λh1 Y=>an Y λh2 Y=>an Y λL h4=>iA o h1▸iA f h2▸iz hs L λhd u L=>u▸by obtain⟨ty,nm,bd,p3⟩:=hd;exact BF ty L λty u L=>u▸kZ ty L λr p1 u L=>u▸BF nm L λnm u L=>u▸iz bd L λs u L=>u▸EK s L λe p2 u L=>u▸an L λk1 k=>an k λk2 k=>an k λk3 k=>an k λk4 k=>an k λk5 k=>iz h k λs u k=>u▸(aql (c:=λs=>iB l w B O d J (.ur Z i [s])<|.Try b [.ExceptHandler (q<|.Name r p1) (q nm) [.Expr e p2] p3] [] [] p) k λx hz=>an hz λq1 q2=>aqg H.U H.em k1 (bw.mp k2) (bw.mp k3) (bw.mp k4) (aqa H.U H.ex q1 J e q2).1 k5 (ib J b h4))
def aqw(H:v_ l w B K N m E O d):∀R:G S,wb l w B K N O d R:=
 have nil:wb l w B K N O d []:=λJ Y h=>iA Y h▸aoC
 have cons:∀{t:S}{R:G S},PS l w B K N O d t->wb l w B K N O d R->wb l w B K N O d (t::R):=λ{t R} it jP J Y h=>((oA _ _).mp h).elim (λh=>an h λh1 h2=>aqm (c:=λt=>ot l w B O d J (t::R) Y) h1 λi=>apr<|jP J Y h2) λh=>g7 Y h λL Y u h=>u▸an h λh1 h2=>aoD (it J L h1)<|jP J Y h2
 have one:∀t:S,PS l w B K N O d t:=λt=>S.rec (motive_1:=PS l w B K N O d) (motive_2:=wb l w B K N O d)
  (λt x=>aqq H)
  (λR P=>aqs H)
  (λx J L h=>EK L h λe p u h=>u▸an h λh1 h2=>aoE (jm H.toBP x J e h2).1 h1)
  (λf args J L h=>EK L h λe p u h=>u▸EZ e h λr p' a p2 u h1 h2 h=>u▸ao1 H.U H.FO h1 h2 (Ky H.toBP args J a h).1)
  (λx=>aqt H)
  (λt a b ia ib J L h=>anB L h λe sa sb p u h=>u▸an h λh1 h=>an h λh2 h3=>aoJ (jm H.toBP t J e h1).2 (ia J sa h2) (ib J sb h3))
  (λt b ib J L h=>anA L h λe sb o p u h=>u▸an h λh0 h=>an h λh1 h2=>iA o h0▸ao_ (jm H.toBP t J e h1).2 (ib J sb h2))
  (λt k a b Z ib J L h=>anz L h λtg it sb o p u h=>u▸an h λh0 h=>an h λh1 h=>an h λh2 h=>an h λh3 h4=>iA o h0▸ao8 (SQ H.U (λe h=>(jm H.toBP a J e h).1) (λe h=>(jm H.toBP b J e h).1) (EW b) h2) (yC (E:=l) (w:=w) (J:=B) (d:=d) t J tg h3).1 (ib J sb h4) (BH h1))
  (λJ L h=>anE L h λp u _=>u▸aoH)
  (λJ L h=>anF L h λp u _=>u▸aoI)
  (λx=>aqu H)
  (λZ i h ib _=>aqv H ib)
  (λi J L h=>bZ h)
  nil (λt R it jP=>cons it jP) t
 λR=>by
  induction R with
  |nil=>exact nil
  |cons t R ih=>exact cons (one t) ih
end
def K4(K:cH)(u:G (ah×F))(f:aw)(l:Fn)(r:G ah):ak:=ER K f λt c=>Ez t l r&&sj K u l.body ⟨t.scope,r⟩ c
section
variable{m:cA}{w:b9}{p:bt}{K:cH}{u:G (ah×F)}{J L:ah->ar au}
def aqx(f:Su m w p K u J L)(hf:K4 K u fa fn nm=D)(hb:∀bs,wb m w p K u {Φ with base:=bs} d fn.body)(he:Mj Φ fn vs fl P)(hx:vs.all dU=D)(hA:eT A (d+1))(F:jw A c)(S:St m w p c)(hM:c.M=⟨fl,[]⟩)(r:dI m w c vs ys)(B:∀v y R,P (.ret v) R.M->Nx m w p c R->aP m w R v y->Q y R.s)(qe:∀wd e R,P (.exc wd) R.M->Nx m w p c R->gZ c.h R e wd (q .none)->E (.ref e) R.s):aH (ax m w) A (call (.ref fa) ys) Q E c.s:=
 cq (Km hf) λfd body aW a_=>an a_ λh1 h2=>by
  have g:=cO he;have hs:=JL h1;have hnp:=bw.mp g.1;have Y:fl.length=c.M.fl.length:=by exact U hM C
  refine have hd1:=hA.depth;have hd2:=hA.units;Ch (enter f hs aW (by show A.depth<1000;lia) hnp hx S F r λh tk n1 O1 Tz=>?_);have T:Sd m w p fl.length d (Fr.call A fd fn nm vs<|gn fd c.s.heap.objs.size fa) (c.gr h tk):=by
   refine⟨⟨.inr<|hA.Pk.resolve_left<|Fq d,?_,?_⟩,F.elim λl h=>⟨l,(az (ar.map _) h.1:A.frames.map _=_)⟩,⟨_,C⟩,O1,n1.st,λi wd e=>?_,cY Y⟩;·show A.depth+1+_+_<=_;lia
   ·show A.units+3+_+_<=_;lia
   ·injection(fc.mp hx _<|zf (EA hnp e).2)
  refine have TA:fb m w p fl.length kO c (c.gr h tk):=n1.toB<|cY Y;have Z:∀{c2},fb m w p fl.length kO c c2->Nx m w p c c2:=λ{c2} n=>⟨n.st,by refine U hM ?_;exact n.ay,n.gens,n.os⟩;hb fl.length ⟨fd.scope,nm⟩ body h2 _ (c.gr h tk) (runK P) _ _ rfl T (U hM g.2) ⟨λo ρ c2 fw hp n2 T2 O=>?_,λwd ρ c2 e x hp n2 T2 hx y=>?_⟩;·have n:=Z<|TA.kT n2 Tz;cases o with|next=>subst O;exact B (.fz .none) .none c2 hp n C|ret v=>exact O.elim λy O=>by calc U O.1;exact B v y c2 hp n O.2|exc wd=>exact O.elim|_=>exact hp.elim
  ·exact have n:=TA.kT n2 Tz;have y1:gZ c.h c2 e wd x:=y.back λa O=>pq n1 O;T.fr.elim λoo lU=>aL<|JT lU T2.e.fr C n2.st hx y1 (λa o O=>n.ay.dom a o O λt=>t) λh3 n3 y3=>JU n3.st y3 λh4 n4 y4=>have n5:=(n.kT (n3.toB T2.b) λa O=>O.1).kT (n4.toB T2.b) λa O=>O.1;qe wd e _ hp (Z n5) y4
variable(m w p K u J L)in
structure TB(P:Tab):Prop where
 U:Su m w p K u J L
 hg:P.gl=u
 CO:∀c np l,P.cls.lookup c=q (np,l)->BM K c np l=D
 nM:∀f fn,P.nM.lookup f=q fn->∃nm,K4 K u f fn nm=D
 ex:v7 K=D
 em:si K=D
 BV:keepIn K (.ref 31)=D
def aui{P:Tab}{a:aw}{v:G V}{l:G FObj}{Q:bL->Mem->Prop}:am P 0 a v l Q=False:=()
def auj{P:Tab}{a:aw}{v:G V}{l:G FObj}{Q:bL->Mem->Prop}:am P (n+1) a v l Q=oP (P.nM.lookup a) λf=>Mj {call:=am P n,cls:=λc=>P.cls.lookup c,gl:=P.gl} f v l Q:=()
theorem TC(B:TB m w p K u J L P):∀n,Bx m w p (Cw P n) (n+1)|0=>λf R Y Q t=>(cast aui t).elim|n+1=>λf R Y Q t Z A c ys Q' E hA F S hM r l qe=>(dq<|cast auj t).elim λO k=>(B.nM f O k.1).elim λnm x=>aqx (Φ:=Cw P n) (d:=n+1) B.U x (λbs=>aqw (O:={Cw P n with base:=bs}) ⟨⟨B.U,B.hg,TC B n,B.CO,B.ex⟩,B.em,B.BV⟩ O.body) k.2 Z hA F S hM r l qe
end
noncomputable def gK:G (G ah):=[Vz,VB,VD,VF,VH,VJ,VK,VL,VM,VN,VO,VQ,VR,VS,VT,VU,VV,VW,VX,VZ,V0,V1,V2,V4,V5,V6,V7,V9,Wa,Wc,We,Wf,Wh,Wj,Wl,Wm,Wn,Wo,Wp,Wq,Ws,Wt,Wu,Wv,Ww,Wx,Wy,Wz]
noncomputable def tV:G dy->aj->cH|[],_=>[]|o::l,n=>match o.isFreed with|D=>tV l<|n+1|j=>(n,o)::tV l (n+1)
noncomputable def km(h:bt):cH:=tV h.objs.toList 0
def aqz:∀{n},(tV l n).lookup a=q o->∃k,a=n+k/\l[k]? =q o/\o.isFreed=j:=by induction l with|nil=>exact λh=>by injection h|cons x l ih=>intro n h;have up:(tV l<|n+1).lookup a=q o->∃k,a=n+k/\(x::l)[k]? =q o/\o.isFreed=j:=λh=>(ih h).elim λk h=>⟨k+1,h.1.trans<|yL n 1 k,h.2⟩;exact bX (P:=λb=>(match b with|D=>tV l (n+1)|j=>(n,x)::tV l (n+1)).lookup a=q o->_) x.isFreed (λ_=>up) (λe h=>bX (P:=λb=>(match b with|D=>q x|j=>(tV l<|n+1).lookup a)=q o->_) (a==n) (λc h=>cN 0 (bw.mp c) h<|bH h▸e) (λ_=>up) h) h
def aqA(h:bt):(km h).In h:=λa o e=>(aqz e).elim λk e=>bt.get?_some_iff.mpr ⟨(az (λi=>h.objs[i]?)<|e.1.trans<|kq k).trans<|yZ.symm.trans e.2.1,e.2.2⟩
noncomputable def wc(v:au)(k:M->ak):ak:=if h:v.ctorIdx=(Fz 0 0).ctorIdx then Fz.elim (motive:=λ_=>ak) v h λi _=>k i else j
def K5(h:wc v k=D):∃i t,v= .int i t/\k i=D:=(dE h).elim<|Fz.elim (motive:=λv=>∀c,Fz.elim (motive:=λ_=>ak) v c (λi _=>k i)=D->∃i t,v= .int i t/\k i=D) v (dE h).1 λi t _ h=>(fY i t C h)
noncomputable def TD(v:au)(k:ah->ak):ak:=if h:v.ctorIdx=(au.str "" 0).ctorIdx then au.str.elim (motive:=λ_=>ak) v h λi _=>k i else j
def aqB(h:TD v k=D):∃i t,v= .str i t/\k i=D:=(dE h).elim<|au.str.elim (motive:=λv=>∀c,au.str.elim (motive:=λ_=>ak) v c (λi _=>k i)=D->∃i t,v= .str i t/\k i=D) v (dE h).1 λi t _ h=>(fY i t C h)
noncomputable def TF(v:Data)(k:eD ug->ak):ak:=if h:v.ctorIdx=(Data.dict #[] 0).ctorIdx then Data.dict.elim (motive:=λ_=>ak) v h λi _=>k i else j
def aqC(h:TF v k=D):∃i t,v= .dict i t/\k i=D:=(dE h).elim<|Data.dict.elim (motive:=λv=>∀c,Data.dict.elim (motive:=λ_=>ak) v c (λi _=>k i)=D->∃i t,v= .dict i t/\k i=D) v (dE h).1 λi t _ h=>(fY i t C h)
noncomputable def TG(v:Data)(k:eD au->ak):ak:=if h:v.ctorIdx=(Data.seq #[] 0).ctorIdx then Data.seq.elim (motive:=λ_=>ak) v h λi _=>k i else j
def aqD(h:TG v k=D):∃i t,v= .seq i t/\k i=D:=(dE h).elim<|Data.seq.elim (motive:=λv=>∀c,Data.seq.elim (motive:=λ_=>ak) v c (λi _=>k i)=D->∃i t,v= .seq i t/\k i=D) v (dE h).1 λi t _ h=>(fY i t C h)
noncomputable def we(K:cH)(n:ah)(k:au->ak):ak:=oS (nsIn K la n) λx=>oS x k
noncomputable def K6(K:cH)(n:ah)(k:dy->ak):ak:=we K n λv=>EQ v λa=>a !=sysModules&&oS (K.lookup a) k
noncomputable def K7(o:dy)(T:jC):ak:=o.cls== .type T&&(o.dict.isNone&&o.slots.isEmpty)
noncomputable def K8:G ug->G ah->ak|[],l=>l.isEmpty|e::c,l=>lC l λn l=>TD e.key (· ==n)&&(wc e.val (· ==1)&&K8 c l)
noncomputable def K9:G au->G M->ak|[],l=>l.isEmpty|v::c,l=>lC l λi l=>wc v (· ==i)&&K9 c l
noncomputable def Fa(K:cH)(n:ah)(l:G ah):ak:=K6 K n λo=>K7 o "dict"&&TF o.data λc=>K8 c.toList l
noncomputable def TH(K:cH)(n:ah)(l:G M):ak:=K6 K n λo=>K7 o "tuple"&&TG o.data λc=>K9 c.toList l
noncomputable def Fb(o:dy):G M:=if h:o.data.ctorIdx=3 then Data.dict.elim (motive:=λ_=>G M) o.data h λc _=>c.toList.map (·.hash)else[]
noncomputable def yG(K:cH)(n:ah):G M:=(nsIn K la n).elim [] λx=>x.elim [] λv=>if h:v.ctorIdx=10 then hG.elim (motive:=λ_=>G M) v h λa=>(K.lookup a).elim [] Fb else[]
noncomputable abbrev TI:G ah:=["add","sub","mul","div","divu","rem","remu","and","or","xor","shl","shr","sar","lt","ltu","eq","ne"]
noncomputable abbrev TJ:G ah:=["copy","neg","not","sx8","sx16","zx8","zx16"]
noncomputable abbrev TK:G ah:=["jump","branch","table","give"]
noncomputable def K_(K:cH):ak:=we K "MASK" (λv=>wc v (· ==4294967295))&&(we K "SIGN" (λv=>wc v (· ==2147483648))&&(we K "_law_mask" (λv=>wc v (· ==4294967295))&&(Fa K "BINARY" TI&&(Fa K "UNARY" TJ&&(Fa K "ENDS" TK&&(TH K "WIDTHS" [1,2,4]&&we K "law" λv=>EQ v (· ==453)))))))
noncomputable def yH(K:cH):ak:=vE (IN K)&&(vE (IP K)&&(v7 K&&(si K&&(keepIn K (.ref 31)&&(Mo.all (λx=>BM K x.1 x.2.1 x.2.2)&&K_ K)))))
noncomputable def BW(K:cH)(x:(aw×Fn)×G ah):ak:=K4 K wR x.1.1 x.1.2 x.2
noncomputable def BX(K:cH):ak:=((nM.zip gK).take 24).all<|BW K
noncomputable def BY(K:cH):ak:=((nM.zip gK).drop 24).all<|BW K
def aqE{K:cH}(h:BX K=D)(c:BY K=D):(nM.zip gK).all (BW K)=D:=(G.take_append_drop 24<|nM.zip gK)▸G.all_append.trans (zn h c)
noncomputable def yI(K:cH):G (G M):=[yG K "BINARY",yG K "UNARY",yG K "ENDS"]
noncomputable def yJ(p:Params):G (G M):=[TI.map (uk p),TJ.map (uk p),TK.map (uk p)]
def BZ(w:b9)(h:bt):Prop:=∃K:cH,K.In h/\(yH K=D/\(nM.zip gK).all (BW K)=D)/\yI K=yJ w.params
def aqF(w:b9)(s:a8)(h:((yH<|km s.heap,yI<|km s.heap),BX<|km s.heap,BY<|km s.heap)=((D,yJ w.params),D,D)):BZ w s.heap:=have a:=az sy h;have b:=az FL h;cN _ (aqA _) ⟨az sy a,aqE (az sy b)<|az FL b⟩ (az FL a)
def aqG(w:b9)(h c:bt)(x:BZ w h)(k:∀b o,h.get? b=q o->c.get? b=q o):BZ w c:=x.imp λ_ x=>⟨x.1.keeps k,x.2⟩
section
variable{B:cA}{w:b9}{r:bt}{K:cH}{E J:ah->ar au}{b:Bv}
def La(X:K.In r)(c:r.Ns la E)(h:we K n k=D):∃v,nsIn K la n=q (q v)/\E n=q v/\k v=D:=av (tR h) λx f l=>av (tR l) λv m p=>by clear l;subst m;exact(cN v f (mg_of X c f) p)
def Lb(X:K.In r)(c:r.Ns la E)(h:we K n (λv=>wc v (· ==i))=D):∃v,E n=q v/\bD B w b (.int i) v:=cP (La X c h) λv _ l m=>cq (K5 m) λf t p u=>(aT v l ⟨t,((bw.mp u:f=i)▸p)⟩)
def TL(X:K.In r)(c:r.Ns la E)(h:K6 K n k=D):∃a o,nsIn K la n=q (q<|.ref a)/\E n=q (.ref a)/\a≠sysModules/\K.lookup a=q o/\r.get? a=q o/\k o=D:=cP (La X c h) λv p t f=>av (Kl f) λa u l=>av (tR (bh l).2) λo m x=>by clear f;subst u;exact(Cn a o p t (py.mp (bh l).1) m (X _ _ m) x)
def TM{T:jC}(h:K7 o T=D):o.cls= .type T/\o.dict=z/\o.slots= #[]:=an h λc h=>an h λf l=>(cr (bw.mp c) (U5.mp f)<|arG.mp l)
theorem TN:∀{m:G ug}{l:G ah},K8 m l=D->m.map (·.hash)=l.map (uk w.params)->∃f:G (ah×au),Pairs (nz B w) m f/\f.map (·.1)=l/\eu B w b (l.map λn=>(n,F.int 1)) f/\∀e∈m,∃k,(nz B w).is k e.key=D/\e.hash=(nz B w).hash k
 |[],l,h,_=>by obtain rfl:=iA l h;exact(oB [] (.nil) C rfl (λe L=>absurd L gk))
 |e::m,l,h,p=>g7 l h λn l u h=>an h λN h=>an h λO P=>cq (aqB N) λi t Q R=>cq (K5 O) λc Y Z mz=>by
  subst u;cases(bw.mp R:i=n);obtain rfl:=(bw.mp mz:c=1);have x:(nz B w).is n e.key=D:=by calc U Q;simp[Vb,Vc]
  exact(TN P (sB p).2).elim λf k=>(oB ((n,e.val)::f) (.cons x rfl k.1) (az (n::·) k.2.1) (bV e.val f C ⟨Y,Z⟩ k.2.2.1)<|wk.mpr ⟨(aT n x<|(sB p).1),k.2.2.2⟩)
def Lc(X:K.In r)(c:r.Ns la E)(h:Fa K n l=D)(u:l.Nodup)(x:yG K n=l.map (uk w.params)):∃v,E n=q v/\bD B w r.get? (.ds<|l.map λn=>(n,F.int 1)) v:=(TL X c h).elim λa f=>Vm f λo L N O P Q R=>an R λY Z=>(aqC Z).elim λp y=>av y λep t mz=>by
 have hp:=TM Y;have hd:yG K n=p.toList.map (·.hash):=by delta yG;calc U L;show(K.lookup a).elim [] Fb=_;calc U P;show Fb o=_;delta Fb;calc U t;rfl
 exact lZ (TN (B:=B) (b:=r.get?) mz<|hd.symm.trans x) λm aW a_ dS iy=>(aT _ N<|bV a m C (cN o Q ⟨hp,(jE p ep t (λe he=>iy e<|Ur.mpr he) aW (by calc U a_;exact u))⟩ O) dS)
def aqH:∀{f:G au}{l:G M},K9 f l=D->bp B w b (l.map .int) f:=by intro m;induction m with|nil=>intro l h;exact iA l h▸C|cons v f ih=>intro l h;exact g7 l h λi l u h=>u▸an h λp x=>cq (K5 p) λc t L N=>(bV v f C ⟨t,(bw.mp N:c=i)▸L⟩<|ih x)
def aqI(X:K.In r)(c:r.Ns la E)(h:TH K n l=D):∃v,E n=q v/\bD B w r.get? (.ai<|l.map .int) v:=Vn (TL X c h) λa o _ m _ _ p t=>an t λu x=>cq (aqD x) λL N O P=>by have f:=TM u;obtain⟨oc,R,Q,Y⟩:=o;obtain rfl:=f.1;obtain rfl:=f.2.1;obtain rfl:=f.2.2;subst O;exact(aT _ m<|bV a L C ⟨N,p⟩<|aqH P)
def aqJ(X:K.In r)(c:r.Ns la E)(h:K_ K=D)(t:yI K=yJ w.params):∀(i:aj)(e:ah×F),wR[i]? =q e->∃v,E e.1=q v/\bD B w r.get? e.2 v:=λi e f=>
 an h λm h=>an h λs h=>an h λu h=>an h λx h=>an h λL h=>an h λN h=>an h λO _=>by
  have l:=sB t
  have p:=sB l.2
  have P:=sB p.2
  match i,f with|0,f=>obtain rfl:=bH f;exact Lb X c m|1,f=>obtain rfl:=bH f;exact Lc X c x (by decide+kernel) l.1|2,f=>obtain rfl:=bH f;exact Lc X c L (by decide+kernel) p.1|3,f=>obtain rfl:=bH f;exact Lc X c N (by decide+kernel) P.1|4,f=>obtain rfl:=bH f;exact aqI X c O|5,f=>obtain rfl:=bH f;exact Lb X c s|6,f=>obtain rfl:=bH f;exact Lb X c u
theorem Le{f m:Type}[BEq f][LawfulBEq f]{a:f}{b:m}:∀{l:G (f×m)},l.lookup a=q b->(a,b)∈l
 |[],h=>nomatch h
 |(x,y)::l,h=>by
  have h:(match a==x with|D=>q y|j=>l.lookup a)=q b:=h;revert h;refine bX (a==x) (λc h=>?_) λ_ h=>?_;·injection h with h;subst h;refine U (eq_of_beq c) ?_;exact .head _
  ·exact .tail _<|Le h
theorem TP{c f:Type}{p:c×f->ak}{a:c}:∀{l:G c}{m:G f},l.length<=m.length->(l.zip m).all p=D->a∈l->∃b,p (a,b)=D|x::l,y::m,t,h,u=>(i6.mp u).elim (λe=>⟨y,e▸(bh h).1⟩)<|TP (LJ t) (bh h).2
def aqK(m:Su B w r K wR E J)(h:yH K=D/\(nM.zip gK).all (BW K)=D):TB B w r K wR E J tab:=an h.1 λ_ k=>an k λ_ k=>an k λp k=>an k λt k=>an k λu k=>an k λx _=>⟨m,C,λc L l e=>fc.mp x (c,L,l)<|Le e,λf N e=>TP (by decide+kernel) h.2<|Le e,p,t,u⟩
end
abbrev rw0:=PySem.Challenge.rw_nm0035_01
abbrev pw0:=PySem.Challenge.pw_nm0035_01
def qv:cA:=view pw0 [64]
def loose:G ah:=pw0.boundNames
abbrev xt:a8->ak:=λs=>xlAt qv [] s&&PySem.W.recOk (RowW.records rw0.row.toRowW) s
noncomputable abbrev Lf(s:a8):(ak×G (G M))×ak×ak:=((yH (km s.heap),yI (km s.heap)),BX (km s.heap),BY (km s.heap))
noncomputable abbrev Lg(w:b9):(ak×G (G M))×ak×ak:=((D,yJ w.params),D,D)
theorem e1: @topRun= @PySem.W.Fast.tw14082659384304107361:=PySem.W.Fast.te14082659384304107361
theorem e2:treeTable=PySem.W.Fast.tw14364793385576792824:=PySem.W.Fast.te14364793385576792824
theorem e3: @importEnds= @PySem.W.Fast.tw10274390034422433532:=PySem.W.Fast.te10274390034422433532
theorem e4: @fenceModules?= @PySem.W.Fast.tw14289696077712309145:=PySem.W.Fast.te14289696077712309145
theorem e5: @openSeen= @PySem.W.Fast.tw4187177175401517315:=PySem.W.Fast.te4187177175401517315
noncomputable abbrev jz(b:ak)(w:b9):ar a8:=openEnds treeTable pw0 (w.withFollow "special-get-raises" b) 7000
theorem auk(w:b9):(jz D w).map (λs=>(openSeen qv loose (importedModules pw0.main.body) xt D s,(yH (km s.heap),yI (km s.heap)),BX (km s.heap)))=q (openGood qv loose,(D,yJ (w.withFollow "special-get-raises" D).params),D):=by
 unfold jz openEnds fencedOpening topFrom
 rw[e1,e2,e3,e4,e5]
 kernel_rfl
theorem aul(w:b9):(jz D w).map (λs=>BY (km s.heap))=q D:=by
 unfold jz openEnds fencedOpening topFrom
 rw[e1,e2,e3,e4]
 kernel_rfl
theorem aum(w:b9):(jz j w).map (λs=>(openSeen qv loose (importedModules pw0.main.body) xt D s,(yH (km s.heap),yI (km s.heap)),BX (km s.heap)))=q (openGood qv loose,(D,yJ (w.withFollow "special-get-raises" j).params),D):=by
 unfold jz openEnds fencedOpening topFrom
 rw[e1,e2,e3,e4,e5]
 kernel_rfl
theorem aun(w:b9):(jz j w).map (λs=>BY (km s.heap))=q D:=by
 unfold jz openEnds fencedOpening topFrom
 rw[e1,e2,e3,e4]
 kernel_rfl
theorem both{α β γ δ ε:Type}{o:ar α}{f:α->β}{g:α->γ}{h:α->δ}{i:α->ε}{b:β}{c:γ}{d:δ}{e:ε}:o.map (λs=>(f s,g s,h s))=q (b,c,d)->o.map i=q e->o.map (λs=>(f s,g s,h s,i s))=q (b,c,d,e):=
 oc (P:=λo=>o.map (λs=>(f s,g s,h s))=q (b,c,d)->o.map i=q e->o.map (λs=>(f s,g s,h s,i s))=q (b,c,d,e)) o (λh=>by injection h) λs h1 h2=>bH h2▸az (λx:β×γ×δ=>q (x.1,x.2.1,x.2.2,i s)) (bH h1)
theorem aug(b:ak)(w:b9):(jz b w).map (λs=>(openSeen qv loose (importedModules pw0.main.body) xt D s,Lf s))=q (openGood qv loose,Lg (w.withFollow "special-get-raises" b)):=bc b (both (auk w) (aul w)) (both (aum w) (aun w))
theorem aqV:LeftO pw0 qv loose xt Lf Lg 7000:=λw=>by
 have e:=b9.withFollow_self w "special-get-raises"
 have:=aug (w.params.followText "special-get-raises") w
 unfold jz at this
 rw[e]at this
 exact this
theorem TQ{prog:cA}{w:b9}{b:Bv}:∀{vs:G au}{is:G M},wn vs is->bp prog w b (is.map .int) vs|_,_,.nil=>rfl|_,_,.cons _ _ h=>⟨_,_,C,⟨_,C⟩,TQ h⟩
def ok0:(chainsOk qv&&opensWell rw0.row.prog&&(frees rw0.row.toRowW&&rw0.row.within.isEmpty))=D:=zn (zn (by decide+kernel) (by decide+kernel))<|zn (by decide+kernel) (by decide+kernel)
def aqX:rw0.row.prog.bare:=⟨C,C,C,C,C,by decide+kernel⟩
def hw0:rw0.row.toRowW.promised:=by w_witness2
def aqZ(d:DefRec)(kwd:G (ah×aN))(hn:d.name="law"):WalkO qv loose (XL qv []) BZ rw0.row.toRowW d kwd λf vs=>PySem.call f vs:=by
 intro w Sk dN mg mb l Y fa o pm cd doc dV kV ho aq1 J8 hD hmg hg args vals as aq3 I0 hrd Hn Pq;obtain⟨K,KX,hK,hh⟩:=Y;calc Ground.open l;intro T B m TE TW;clear B m TE TW J8 hD aq1 ho;wrow_args aq3 I0 hrd Hn Pq;rename_i is _ _ _ _ _ _ _ a vs _ hL _ _ _ hI _ hlen _;have aq5:is.length<=63:=by omega
 have TR:K_ K=D:=an hK.1 λ_ h=>an h λ_ h=>an h λ_ h=>an h λ_ h=>an h λ_ h=>an h λ_ h=>h;have hfa:fa=453:=by have h:=an TR λ_ h=>an h λ_ h=>an h λ_ h=>an h λ_ h=>an h λ_ h=>an h λ_ h=>an h λ_ h=>h;obtain⟨v,_,h1,h2⟩:=La KX T.g h;obtain⟨a,rfl,h3⟩:=Kl h2;have TS:mg "law"=q (.ref fa):=hn▸hmg;rw[h1]at TS;cases TS;exact bw.mp h3
 subst hfa;have p:Su rw0.row.prog w dN.heap K wR mg mb:=⟨KX,T.g,T.b,T.builtins,T.nolimit,T.nodigits,(bh hK.1).1,(bh (bh hK.1).2).1,aqJ KX T.g TR hh⟩;have FO:=TC (aqK p hK) 9;let W:RM:=λx=>if(dN.heap.get? x).isSome then q .fz else z;have hW:∀x o,dN.heap.get? x=q o->W x=q .fz:=λx o e=>by show(if _ then _ else _)=_;rw[e];rfl
 have TT:∀x r,W x=q r->r= .fz/\∃o,dN.heap.get? x=q o:=λx r e=>by have e:(if(dN.heap.get? x).isSome then q dO.fz else z)=q r:=e;cases t:dN.heap.get? x with|none=>rw[t]at e;cases e|some o=>rw[t]at e;cases e;exact⟨C,o,C⟩
 let c:Cf:=⟨dN,W,λ_=>0,λ_=>(0,0),⋯⟩;have S:St rw0.row.prog w dN.heap c:=⟨λx o e=>⟨hW x o e,e⟩,λx r e=>(TT x r e).1▸⟨trivial,(TT x r e).2⟩,λn o e=>(by injection e),λn c fs e=>by injection e⟩;obtain⟨oL,TU,hLc,nL,hLd⟩:=hL;have rL:bD rw0.row.prog w c.b (.raw<|is.map .int) (.ref a):=⟨a,vs.toArray,C,⟨oL,nL,kN (hW _ _ TU) TU,hLc,hLd⟩,TQ hI⟩;refine FO 453 [.fz (.raw<|is.map .int)] [] (λr _=>r= .ret (.fz<|.bool D)) (ahl (n:=1) aq5 λu=>C) C callerA c [.ref a] _ _ ⟨.inr C,{},{}⟩ ⟨[],C,λ_ h=>by cases h⟩ S C ⟨_,_,C,rL,C⟩ (λv y c' hP n r=>?_) λwd e c' hP=>nomatch hP;cases hP;cases r;refine⟨.inl ⟨_,_,[],C,λ_=>C,.bool _,?_,λ_=>⟨.nil,λx hx=>by cases hx⟩⟩,.of_keep λx o e=>(n.ay.kfz x o .fz e (hW x o e) C).1,n.os,.of_eq<|n.gens.trans hg⟩;kernel_rfl
def ok1:rw0.wellSaid=D:=by
 unfold OpenLaw.wellSaid OpenRow.wellSaid OpenRow.partSaid looksOpen;simp only[PySem.W.Fast.te11788848310118352699,PySem.W.Fast.te2368527892694137696,PySem.W.Fast.te9807087744658564304,PySem.W.Fast.te12862048085361865435,PySem.W.Fast.te8377067652309620493,PySem.W.R.allR_eq,PySem.W.Fast.te18344453789297297638,PySem.W.Fast.te3471404346716756564,PySem.W.Fast.sDec_eq,PySem.W.Fast.te14412699480532031325,PySem.W.Fast.te8326940854005059898,PySem.W.Fast.te5923862056798008813,PySem.W.Fast.te17691160309236699985,PySem.W.R.filterR_eq,PySem.W.Fast.te13343964577679436407,PySem.W.Fast.te17119622794617984870,PySem.W.Fast.te17868728402115742887,PySem.W.Fast.te9706382859710513879,PySem.W.SL.e9001593270443806431x14,PySem.W.SL.e2804747833354056582x9,PySem.W.S.strDecS_eq,PySem.W.Fast.te2357444279172408678,PySem.W.R.mapR_eq,PySem.W.Fast.te4857012375875476094,PySem.W.Fast.named_eq,PySem.W.Fast.te13582783067957832011,PySem.W.Fast.te5318747976498570220,PySem.W.Fast.te4579403493507170074,PySem.W.R.anyR_eq,PySem.W.Fast.te4274047373036748609,PySem.W.Fast.te12749700546528644094,PySem.W.Fast.te10501279942588096481,PySem.W.Fast.te8179353310426384613,PySem.W.Fast.te797321630700447069,PySem.W.Fast.te9572597257264208301,PySem.W.Fast.te9558739934217749035,PySem.W.Fast.te16286561074155671207,PySem.W.Fast.te6984425678791042302,PySem.W.Fast.te17095254045102204799,PySem.W.Fast.te12879404354523853263,PySem.W.Fast.te482687673346738481,PySem.W.Fast.te10792542408131684335,PySem.W.Fast.te7723801398212525404];repeat' with_reducible refine look_both ?_ ?_
 all_goals decide+kernel
def aud:rw0.Holds:=PySem.W.holds_law ok1 λaq_=>PySem.W.holds_open (q:=qv) (loose:=loose) (Xt:=xt) (XP:=XL qv []) (Yf:=Lf) (Ya:=Lg) (YP:=BZ) (N:=7000) aqV aqF aqG (λs e=>xl_of s (ue.mp e).1) XL.keeps (by rfl) (by rfl) (by rfl) (λs e=>recFacts_of (ue.mp e).2) (by rfl) aq_ ok0 aqX hw0 (aqZ _ _ rfl)
end
end Mine
theorem PySem.Challenge.cw_nm0035_01_holds : PySem.Challenge.rw_nm0035_01.Holds :=
 Mine.aud
