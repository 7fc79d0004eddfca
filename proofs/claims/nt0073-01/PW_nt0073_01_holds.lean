import PyProof.Rows.All
import Wide.All
import OpenK.AllK
import Wide.FinOn
import Lean
import PySem.Challenge.RW_nt0073_01
set_option Elab.async false
set_option maxRecDepth 100000
set_option autoImplicit false
set_option linter.unusedVariables false
set_option linter.unusedSectionVars false
set_option genSizeOf false
set_option genInjectivity false
set_option inductive.autoPromoteIndices false
namespace Mine
section
open Lean
structure ZNode where
 e:Expr
 ch:Array Nat
 y:Nat
 fv:Array Nat
 sz:Nat
structure ZSt where
 ix:Std.HashMap Expr Nat:={}
 ns:Array ZNode:= #[]
 lc:LocalContext
 ny:Nat:=1
def zName (s:String) (n:Nat):FVarId:=⟨.num (.mkSimple s) n⟩
def zMerge (a b:Array Nat):Array Nat:=b.foldl (fun a x=>if a.contains x then a else a.push x) a
structure ZF where
 e:Expr
 b:Bool
 y:Nat
 o:Expr
def zOpen (e0:Expr) (s0:ZSt):Nat×ZSt:=Id.run do
 let mut s:=s0
 let mut st:Array ZF:= #[⟨e0,false,0,e0⟩]
 while !st.isEmpty do
  let w:=st.getD (st.size - 1) ⟨e0,false,0,e0⟩
  st:=st.pop
  let e:=w.e
  if w.b then
   let(cs,own):Array Expr×Nat:=match e with
    | .app f a=>(#[f,a],32)
    | .lam _ t _ _=>(#[t,w.o],48)
    | .forallE _ t _ _=>(#[t,w.o],48)
    | .letE _ t v _ _=>(#[t,v,w.o],56)
    | .mdata _ b=>(#[b],32)
    | .proj _ _ b=>(#[b],40)
    | _=>(#[],0)
   let mut ch:= #[]
   let mut fv:= #[]
   let mut sz:=own
   for x in cs do
    let c:=s.ix.getD x 0
    ch:=ch.push c
    let n:=s.ns.getD c ⟨default, #[],0, #[],0⟩
    fv:=zMerge fv n.fv
    if n.e.hasFVar then sz:=min 1000000 (sz+n.sz)
   if w.y > 0 then fv:=fv.filter (· != w.y)
   if e.isFVar then
    if let .num (.str .anonymous "zy") j:=e.fvarId!.name then fv:= #[j]
   s:={s with ix:=s.ix.insert e s.ns.size,ns:=s.ns.push ⟨e,ch,w.y,fv,sz⟩}
  else if !s.ix.contains e then
   let one (x:Expr):ZF:=⟨x,false,0,x⟩
   let(n,t,b,v):Name×Expr×Expr×Option Expr:=match e with
    | .lam n t b _=>(n,t,b,none)
    | .forallE n t b _=>(n,t,b,none)
    | .letE n t v b _=>(n,t,b,some v)
    | _=>(default,e,e,none)
   if e.isBinding || e.isLet then
    let f:=zName "zy" s.ny
    let o:=b.instantiate1 (.fvar f)
    st:=st.push ⟨e,true,s.ny,o⟩ |>.push (one o)
    if let some v:=v then st:=st.push (one v)
    st:=st.push (one t)
    s:={s with ny:=s.ny+1,lc:=match v with
     | some v=>s.lc.mkLetDecl f n t v
     | none=>s.lc.mkLocalDecl f n t}
   else
    st:=st.push {w with b:=true}
    match e with
    | .app f a=>st:=st.push (one a) |>.push (one f)
    | .mdata _ b=>st:=st.push (one b)
    | .proj _ _ b=>st:=st.push (one b)
    | _=>pure ()
 return (s.ix.getD e0 0,s)
def zip (lim:Nat) (e:Expr):MetaM Expr:=do
 let e:=ShareCommon.shareCommon' e
 let(root,s):=zOpen e {lc:=←getLCtx}
 let N:=s.ns.size
 let mut cx:Array (Array Nat):= .replicate N #[]
 cx:=cx.set! root #[0]
 let mut isL:Array Bool:= .replicate N false
 let mut tys:Array Expr:= .replicate N default
 let mut lets:Array (Array Nat):= .replicate s.ny #[]
 for q in [0:N] do
  let i:=N - 1 - q
  let n:=s.ns.getD i ⟨default, #[],0, #[],0⟩
  let c:=cx[i]!
  let mut c2:=c
  if i != root&&c.size≥2&&n.e.hasFVar&&n.sz > 0&&(c.size - 1)*n.sz > lim&& !n.e.isMData then
   let t ←Meta.withLCtx s.lc {} (Meta.inferType n.e)
   if !t.hasFVar&& !t.hasMVar then
    let pos:=n.fv.foldl max 0
    isL:=isL.set! i true
    tys:=tys.set! i t
    lets:=lets.set! pos (lets[pos]!.push i)
    c2:= #[pos]
  for h:j in [0:n.ch.size] do
   let d:=n.ch[j]
   let c3:=if n.y > 0&&j+1==n.ch.size then #[n.y] else c2
   cx:=cx.set! d (zMerge cx[d]! c3)
 let mut out:Array Expr:= .replicate N default
 let mut raw:Array Expr:= .replicate N default
 let wrap (raw:Array Expr) (y:Nat) (b:Expr):Expr:=Id.run do
  let ls:=lets[y]!.reverse
  let ys:=if y > 0 then #[Expr.fvar (zName "zy" y)] else #[]
  let zs:=ys++ls.map fun i=>Expr.fvar (zName "zz" i)
  let mut r:=b.abstract zs
  for q in [0:ls.size] do
   let m:=ls.size - 1 - q
   let i:=ls[m]!
   r:= .letE `z tys[i]! (raw[i]!.abstract (zs.extract 0 (ys.size+m))) r false
  return r
 for i in [0:N] do
  let n:=s.ns.getD i ⟨default, #[],0, #[],0⟩
  let ch (j:Nat):Expr:=out[n.ch[j]!]!
  let r:Expr:=match n.e with
   | .app _ _=> .app (ch 0) (ch 1)
   | .lam m _ _ bi=> .lam m (ch 0) (wrap raw n.y (ch 1)) bi
   | .forallE m _ _ bi=> .forallE m (ch 0) (wrap raw n.y (ch 1)) bi
   | .letE m _ _ _ nd=> .letE m (ch 0) (ch 1) (wrap raw n.y (ch 2)) nd
   | .mdata d _=> .mdata d (ch 0)
   | .proj a b _=> .proj a b (ch 0)
   | e=>e
  raw:=raw.set! i r
  out:=out.set! i (if isL[i]! then .fvar (zName "zz" i) else r)
 return wrap raw 0 out[root]!
end
end Mine
namespace Mine
open PySem PySem.W PyProof.Rows PySem.Calls
open _root_.Nat renaming le_trans → a8, le_of_eq → ae, le_of_ble_eq_true → al, lt_of_lt_of_le → aq, le_add_right → av, lt_of_lt_of_eq → az, le_refl → aB, succ_le_succ → aH, lt_succ_self → aI, mul_le_mul_left → aJ, add_le_add_left → aL, add_le_add_right → aQ, lt_of_le_of_lt → aR, add_le_add → aU, blt → bf, zero_le → bl, zero_add → bo, add_assoc → bq, ble_eq_true_of_le → bu, min_le_right → bx, add_right_comm → bz, ne_of_lt → bD, le_of_succ_le → bF, le_succ_of_le → bG, add_comm → bI, eq_of_beq_eq_true → bJ, lt_of_succ_lt_succ → bT, not_lt → bU, le_of_lt → ck, le_add_left → cM, lt_trans → cN, lt_or_eq_of_le → cP, le_of_lt_succ → cX, ne_of_beq_eq_false → cY, sub_lt_sub_left → cZ, le_succ → d5, succ_pos → d9, ble → dm, blt_eq → dq, min_eq_left → dr, lt_of_succ_lt → dQ, mul_succ → dR, lt_or_ge → eI, sub_le → eJ, lt_succ_of_le → f0, casesOn → fu, mod_lt → gb, add_sub_cancel_left → gq, le_of_succ_le_succ → gA, lt_irrefl → i6, not_lt_zero → iv, succ_lt_succ → k8, le_antisymm → kW
open _root_.List renaming length_map → a9, mem_singleton → af, getD_eq_getElem?_getD → ah, getElem?_eq_getElem → ai, all_eq_true → aj, length_append → ak, map_append → ao, append_assoc → au, append_nil → aw, getElem?_map → ax, casesOn → ay, lookup_cons → aD, mem_flatMap → aG, length_cons → aM, mem_append → aN, map_map → aO, mem_map → aP, mem_cons → aS, length_drop → aT, drop_eq_getElem_cons → bj, map_cons → bp, replicate → br, foldl_cons → bE, range → bH, getElem?_eq_some_iff → bM, filter_cons → bN, drop_eq_nil_of_le → bO, length_nil → bW, nodup_cons → bX, length_take → c8, mem_filter → cp, not_mem_nil → cC, filterMap_cons → cE, reverse_append → cF, map_inj_left → cG, length_range → cW, take_of_length_le → dz, drop_length → dD, mem_range → dF, getElem?_eq_none_iff → dK, map → dL, mem_of_getElem? → dM, reverse_cons → dN, reverse_reverse → dO, size_toArray → dP, isEmpty_iff → ec, mem_reverse → ee, nodup_nil → eg, take_append_drop → eT, cons_append → fJ, map_take → fQ, find?_cons → fX, length_set → fY, filter_append → g7, getElem?_eq_none → gN, length_filter_le → gO, length_replicate → gQ, flatMap_nil → hF, all_cons → hJ, any_cons → hO, getElem?_set_ne → hZ, length → i3, mem_of_mem_drop → i4, mem_of_mem_take → i5, nil_append → io, map_congr_left → iu, getElem?_concat_length → iM, fst_mem_of_mem_zipIdx → iS, length_zipIdx → iT, mem_of_find?_eq_some → jg, cons_eq_cons → jh, foldl_append → ji, any_eq_true → jT, map_reverse → jU, all_map → kc, contains_iff_mem → kU, filter → lF, getLast?_append → lG, length_reverse → mo, length_take_le → mq, map_eq_nil_iff → mr
open _root_.Bool renaming and_eq_true_iff → aa, or_eq_true_iff → c9, false_ne_true → cO, and_eq_true → h9, casesOn → iJ, and_false → iR, not_eq_true → jS
open PySem.Str renaming ofString → ac
open PySem.Heap renaming get?_push_of_some → am, get?_push_size → aC, lt_size → d7, get?_none_of_le → hY, SameBut → iK, get?_update_self → kR
open _root_.Option renaming casesOn → an, map_eq_some_iff → aE, isSome_iff_exists → aZ, bind_eq_some_iff → bg, isSome → bY, isNone_iff_eq_none → fw, isSome_or → jw
open _root_.Int renaming toNat_natCast → aW, ofNat_lt → bn, natCast_nonneg → bP, ofNat_le → d8, not_lt → dp, fmod_eq_emod_of_nonneg → dG, le_trans → eH, fdiv_eq_ediv_of_nonneg → fq, add_sub_cancel → g8, le_of_lt → kg, mul_one → lS
open _root_.Array renaming getElem?_toList → aY, length_toList → cV, toList_append → dY, getElem?_eq_getElem → fH
def zA:Lean.Elab.Tactic.TacticM Unit:=do
 let g ←Lean.Elab.Tactic.getMainGoal
 let m ←g.withContext do Lean.Meta.mkFreshExprMVar (←g.getType) .syntheticOpaque `zz
 g.assign m
 Lean.Elab.Tactic.replaceMainGoal [m.mvarId!]
def zB:Lean.Elab.Tactic.TacticM Unit:=do
 let some m:=(←Lean.getMCtx).findUserName? `zz | throwError "zB"
 m.withContext do
  let e ←Lean.instantiateMVars (.mvar m)
  m.assign (←zip 60 e)
local macro_rules | `(tactic| walk_at "a")=> `(tactic| run_tac zA)
local macro_rules | `(tactic| walk_at "z")=> `(tactic| run_tac zB)
inductive T where
 | none | bool (b:Bool) | int (i:Int) | str (s:Str)
 | tup (ts:List T) | lst (ts:List T) | dct (es:List (T×T))
 | inst (C:Addr) (fs:List (T×T))
 | raw (v:Value)
noncomputable def T.toInt (d:T):Int:=T.casesOn (motive_1:=fun _=>Int) d 0 (fun _=>0) (fun i=>i) (fun _=>0) (fun _=>0) (fun _=>0) (fun _=>0) (fun _ _=>0) fun _=>0
inductive V where
 | t (d:T) | ref (n:Nat) | iref (C:Addr) (n:Nat)
inductive O where
 | list (ts:List T) | dict (es:List (T×V)) | frz (d:T) | tdct (es:List (T×T))
noncomputable abbrev cj:=Addr→Option Obj
noncomputable abbrev Mu:=Nat→Addr
noncomputable abbrev aF:=List (Option V)
noncomputable abbrev Hp:=List (Nat×O)
structure Cx where
 prog:Program
 w:World
 h0:Heap
 P:Addr
 lpos:Pos
 lqual:Str
 mg:Str→Option Value
 mb:Str→Option Value
 K:Frag
 mods:h0.get? sysModules≠none
 p4:sysModules≠P
noncomputable def qr (C:Cx) (d:T):Int:=T.casesOn (motive_1:=fun _=>Int) d 0 (fun _=>0) (fun i=>hashInt i) (fun s=>hashStr C.w s) (fun ts=>tupleKeyHash (intKind C.prog C.w) (ts.map T.toInt)) (fun _=>0) (fun _=>0) (fun _ _=>0) fun _=>0
noncomputable abbrev gm (items:Array Value) (n:Nat):Obj:={cls:= .type "tuple",data:= .seq items n}
inductive bv {α β:Type} (R:α→β→Prop):List α→List β→Prop
 | nil:bv R [] []
 | cons {a:α} {b:β} {as:List α} {bs:List β}:R a b→bv R as bs→bv R (a::as) (b::bs)
inductive jk (k:String) (R:T→Value→Prop):List T→Obj→Prop
 | mk {ts:List T} (items:Array Value) (n:Nat):bv R ts items.toList→jk k R ts {cls:= .type k,data:= .seq items n}
inductive E2 {β:Type} (C:Cx) (R1:T→Value→Prop) (R2:β→Value→Prop):T×β→DictEntry→Prop
 | mk {e:T×β} {d:DictEntry}:R1 e.1 d.key→d.hash=qr C e.1→R2 e.2 d.val→E2 C R1 R2 e d
inductive cL {β:Type} (C:Cx) (R1:T→Value→Prop) (R2:β→Value→Prop):List (T×β)→Obj→Prop
 | mk {es:List (T×β)} {o:Obj} (arr:Array DictEntry) (n:Nat):o.ExactDict→o.data= .dict arr n→bv (E2 C R1 R2) es arr.toList→(es.map (·.1)).Nodup→cL C R1 R2 es o
noncomputable def TR (C:Cx) (Φ:cj):T→Value→Prop:=T.rec (motive_1:=fun _=>Value→Prop) (motive_2:=fun _=>List Value→Prop) (motive_3:=fun _=>List DictEntry→Prop) (motive_4:=fun _=>DictEntry→Prop)
 (fun v=>v= .none) (fun b v=>v= .bool b) (fun i v=>∃t,v= .int i t) (fun s v=>∃t,v= .str s t)
 (fun _ ih v=>∃a items n,v= .ref a∧Φ a=some (gm items n)∧ih items.toList) (fun _ ih v=>∃a items n,v= .ref a∧Φ a=some (listOf items n)∧ih items.toList)
 (fun es ih v=>∃a o arr n,v= .ref a∧a≠sysModules∧Φ a=some o∧o.ExactDict∧o.data= .dict arr n∧ih arr.toList∧(es.map (·.1)).Nodup)
 (fun Cl es ih v=>∃a dx o arr n,v= .ref a∧Φ a=some (instObj Cl dx)∧Φ dx=some o∧o.ExactDict∧o.data= .dict arr n∧ih arr.toList∧(es.map (·.1)).Nodup) (fun w v=>v=w)
 (fun vs=>vs=[]) (fun _ _ h r vs=>∃v l,vs=v::l∧h v∧r l) (fun vs=>vs=[]) (fun _ _ h r vs=>∃v l,vs=v::l∧h v∧r l) fun k _ hk hd e=>hk e.key∧e.hash=qr C k∧hd e.val
noncomputable abbrev eD (C:Cx) (Φ:cj):=bv (TR C Φ)
section
variable {α β γ:Type} {R S:α→β→Prop}
theorem bv.imp {l:List α} {m:List β} (x:bv R l m) (h:∀a∈l,∀b,R a b→S a b):bv S l m:=by
 induction x with
 | nil=>exact .nil
 | cons r _ ih=>exact .cons (h _ (.head _) _ r) (ih fun a ha=>h a (.tail _ ha))
theorem bv.length {l:List α} {m:List β} (x:bv R l m):l.length=m.length:=by
 induction x with
 | nil=>rfl
 | cons _ _ ih=>exact congrArg (· +1) ih
theorem bv.append {l l':List α} {m m':List β} (x:bv R l m) (y:bv R l' m'):bv R (l++l') (m++m'):=by
 induction x with
 | nil=>exact y
 | cons r _ ih=>exact .cons r ih
theorem bv.take {l:List α} {m:List β} (x:bv R l m):∀n,bv R (l.take n) (m.take n):=by
 induction x with
 | nil=>intro n;rw [List.take_nil,List.take_nil];exact .nil
 | cons r _ ih=>intro n;cases n with
  | zero=>exact .nil
  | succ n=>exact .cons r (ih n)
theorem bv.drop {l:List α} {m:List β} (x:bv R l m):∀n,bv R (l.drop n) (m.drop n):=by
 induction x with
 | nil=>intro n;rw [List.drop_nil,List.drop_nil];exact .nil
 | cons r t ih=>intro n;cases n with
  | zero=>exact .cons r t
  | succ n=>exact ih n
theorem bv.set {l:List α} {m:List β} (x:bv R l m) {a:α} {b:β} (h:R a b):∀n,bv R (l.set n a) (m.set n b):=by
 induction x with
 | nil=>intro n;exact .nil
 | cons r t ih=>intro n;cases n with
  | zero=>exact .cons h t
  | succ n=>exact .cons r (ih n)
theorem bv.eraseIdx {l:List α} {m:List β} (x:bv R l m):∀n,bv R (l.eraseIdx n) (m.eraseIdx n):=by
 induction x with
 | nil=>intro n;exact .nil
 | cons r t ih=>intro n;cases n with
  | zero=>exact t
  | succ n=>exact .cons r (ih n)
theorem bv.dropLast {l:List α} {m:List β} (x:bv R l m):bv R l.dropLast m.dropLast:=by
 rw [List.dropLast_eq_take,List.dropLast_eq_take,x.length];exact x.take _
theorem bv.reverse {l:List α} {m:List β} (x:bv R l m):bv R l.reverse m.reverse:=by
 induction x with
 | nil=>exact .nil
 | cons r _ ih=>rw [dN,dN];exact ih.append (.cons r .nil)
theorem bv.get {l:List α} {m:List β} (x:bv R l m) {P:Prop}:∀{i:Nat} {a:α},l[i]? =some a→(∀b,m[i]? =some b→R a b→P)→P:=by
 induction x with
 | nil=>intro i a h;cases h
 | cons r _ ih=>intro i a h k;cases i with
  | zero=>cases h;exact k _ rfl r
  | succ i=>exact ih h k
theorem bv.get' {l:List α} {m:List β} (x:bv R l m) {P:Prop}:∀{i:Nat} {b:β},m[i]? =some b→(∀a,l[i]? =some a→R a b→P)→P:=by
 induction x with
 | nil=>intro i a h;cases h
 | cons r _ ih=>intro i a h k;cases i with
  | zero=>cases h;exact k _ rfl r
  | succ i=>exact ih h k
theorem bv.map {l:List γ} {f:γ→α} {g:γ→β} (h:∀c∈l,R (f c) (g c)):bv R (l.map f) (l.map g):=by
 induction l with
 | nil=>exact .nil
 | cons c l ih=>exact .cons (h c (.head _)) (ih fun d hd=>h d (.tail _ hd))
end
theorem jk.imp {k:String} {R S:T→Value→Prop} {ts:List T} {o:Obj} (x:jk k R ts o) (h:∀a∈ts,∀b,R a b→S a b):jk k S ts o:=by
 walk_at "a"
 cases x with | mk items n r=>exact .mk items n (r.imp h)
 walk_at "z"
theorem cL.imp {β:Type} {C:Cx} {R S:T→Value→Prop} {R2 S2:β→Value→Prop} {es:List (T×β)} {o:Obj} (x:cL C R R2 es o) (h:∀e∈es,∀b,R e.1 b→S e.1 b) (h2:∀e∈es,∀b,R2 e.2 b→S2 e.2 b):cL C S S2 es o:=by
 cases x with | mk arr n a b r d=>exact .mk arr n a b (r.imp fun e he d q=>by cases q with | mk q1 q2 q3=>exact .mk (h e he _ q1) q2 (h2 e he _ q3)) d
noncomputable def Le (Φ Φ':cj):Prop:=∀b o,Φ b=some o→Φ' b=some o
theorem Le.refl (Φ:cj):Le Φ Φ:=fun _ _ e=>e
theorem Le.trans {a b c:cj} (x:Le a b) (y:Le b c):Le a c:=fun _ _ e=>y _ _ (x _ _ e)
theorem Le.none {a b:cj} (x:Le a b) {c:Addr} (h:b c= .none):a c= .none:=by
 cases e:a c with
 | none=>rfl
 | some o=>rw [x _ _ e] at h;cases h
section
variable {C:Cx} {Φ Φ':cj}
noncomputable abbrev FB (C:Cx) (Φ:cj) (ts:List T):List Value→Prop:=T.rec_1 (motive_1:=fun _=>Value→Prop) (motive_2:=fun _=>List Value→Prop) (motive_3:=fun _=>List DictEntry→Prop) (motive_4:=fun _=>DictEntry→Prop)
 (fun v=>v= .none) (fun b v=>v= .bool b) (fun i v=>∃t,v= .int i t) (fun s v=>∃t,v= .str s t)
 (fun _ ih v=>∃a items n,v= .ref a∧Φ a=some (gm items n)∧ih items.toList) (fun _ ih v=>∃a items n,v= .ref a∧Φ a=some (listOf items n)∧ih items.toList)
 (fun es ih v=>∃a o arr n,v= .ref a∧a≠sysModules∧Φ a=some o∧o.ExactDict∧o.data= .dict arr n∧ih arr.toList∧(es.map (·.1)).Nodup)
 (fun Cl es ih v=>∃a dx o arr n,v= .ref a∧Φ a=some (instObj Cl dx)∧Φ dx=some o∧o.ExactDict∧o.data= .dict arr n∧ih arr.toList∧(es.map (·.1)).Nodup) (fun w v=>v=w)
 (fun vs=>vs=[]) (fun _ _ h r vs=>∃v l,vs=v::l∧h v∧r l) (fun vs=>vs=[]) (fun _ _ h r vs=>∃v l,vs=v::l∧h v∧r l) (fun k _ hk hd e=>hk e.key∧e.hash=qr C k∧hd e.val) ts
noncomputable abbrev ES (C:Cx) (Φ:cj) (ts:List (T×T)):List DictEntry→Prop:=T.rec_2 (motive_1:=fun _=>Value→Prop) (motive_2:=fun _=>List Value→Prop) (motive_3:=fun _=>List DictEntry→Prop) (motive_4:=fun _=>DictEntry→Prop)
 (fun v=>v= .none) (fun b v=>v= .bool b) (fun i v=>∃t,v= .int i t) (fun s v=>∃t,v= .str s t)
 (fun _ ih v=>∃a items n,v= .ref a∧Φ a=some (gm items n)∧ih items.toList) (fun _ ih v=>∃a items n,v= .ref a∧Φ a=some (listOf items n)∧ih items.toList)
 (fun es ih v=>∃a o arr n,v= .ref a∧a≠sysModules∧Φ a=some o∧o.ExactDict∧o.data= .dict arr n∧ih arr.toList∧(es.map (·.1)).Nodup)
 (fun Cl es ih v=>∃a dx o arr n,v= .ref a∧Φ a=some (instObj Cl dx)∧Φ dx=some o∧o.ExactDict∧o.data= .dict arr n∧ih arr.toList∧(es.map (·.1)).Nodup) (fun w v=>v=w)
 (fun vs=>vs=[]) (fun _ _ h r vs=>∃v l,vs=v::l∧h v∧r l) (fun vs=>vs=[]) (fun _ _ h r vs=>∃v l,vs=v::l∧h v∧r l) (fun k _ hk hd e=>hk e.key∧e.hash=qr C k∧hd e.val) ts
theorem fe {ts:List T}:∀{vs:List Value},FB C Φ ts vs→bv (TR C Φ) ts vs:=by
 walk_at "a"
 induction ts with
 | nil=>intro vs h;cases (show vs=[] from h);exact .nil
 | cons d r ih=>rintro vs ⟨v,l,rfl,a,b⟩;exact .cons a (ih b)
 walk_at "z"
theorem q5 {ts:List T} {vs:List Value} (h:bv (TR C Φ) ts vs):FB C Φ ts vs:=by
 induction h with
 | nil=>exact rfl
 | cons a _ ih=>exact⟨_,_,rfl,a,ih⟩
theorem iq {ts:List (T×T)}:∀{vs:List DictEntry},ES C Φ ts vs→bv (E2 C (TR C Φ) (TR C Φ)) ts vs:=by
 walk_at "a"
 induction ts with
 | nil=>intro vs h;cases (show vs=[] from h);exact .nil
 | cons d r ih=>rintro vs ⟨v,l,rfl,a,b⟩;exact .cons (.mk a.1 a.2.1 a.2.2) (ih b)
 walk_at "z"
theorem pZ {ts:List (T×T)} {vs:List DictEntry} (h:bv (E2 C (TR C Φ) (TR C Φ)) ts vs):ES C Φ ts vs:=by
 induction h with
 | nil=>exact rfl
 | cons a _ ih=>cases a with | mk a b c=>exact⟨_,_,rfl,⟨a,b,c⟩,ih⟩
theorem TR.none:TR C Φ .none .none:=rfl
theorem TR.bool (b:Bool):TR C Φ (.bool b) (.bool b):=rfl
theorem TR.int (i:Int) (t:Tok):TR C Φ (.int i) (.int i t):=⟨t,rfl⟩
theorem TR.str (s:Str) (t:Tok):TR C Φ (.str s) (.str s t):=⟨t,rfl⟩
theorem TR.raw (v:Value):TR C Φ (.raw v) v:=rfl
theorem TR.tup {a:Addr} {o:Obj} {ts:List T} (h:Φ a=some o) (x:jk "tuple" (TR C Φ) ts o):TR C Φ (.tup ts) (.ref a):=by
 walk_at "a"
 cases x with | mk items n x=>exact⟨a,items,n,rfl,h,q5 x⟩
 walk_at "z"
theorem TR.lst {a:Addr} {o:Obj} {ts:List T} (h:Φ a=some o) (x:jk "list" (TR C Φ) ts o):TR C Φ (.lst ts) (.ref a):=by
 walk_at "a"
 cases x with | mk items n x=>exact⟨a,items,n,rfl,h,q5 x⟩
 walk_at "z"
theorem TR.dct {a:Addr} {o:Obj} {es:List (T×T)} (ne:a≠sysModules) (h:Φ a=some o) (x:cL C (TR C Φ) (TR C Φ) es o):TR C Φ (.dct es) (.ref a):=by
 walk_at "a"
 cases x with | mk arr n e d x nd=>exact⟨a,o,arr,n,rfl,ne,h,e,d,pZ x,nd⟩
 walk_at "z"
theorem TR.inst {a Cl dx:Addr} {o:Obj} {es:List (T×T)} (h0:Φ a=some (instObj Cl dx)) (h:Φ dx=some o) (x:cL C (TR C Φ) (TR C Φ) es o):TR C Φ (.inst Cl es) (.ref a):=by
 walk_at "a"
 cases x with | mk arr n e d x nd=>exact⟨a,dx,o,arr,n,rfl,h0,h,e,d,pZ x,nd⟩
 walk_at "z"
noncomputable def KQ (C:Cx) (Φ:cj) (d:T) (v:Value):Prop:=T.casesOn (motive_1:=fun _=>Prop) d (∀P:Value→Prop,P .none→P v) (fun b=>∀P:Value→Prop,P (.bool b)→P v) (fun i=>∀P:Value→Prop,(∀t,P (.int i t))→P v) (fun s=>∀P:Value→Prop,(∀t,P (.str s t))→P v)
 (fun ts=>∀P:Value→Prop,(∀a o,Φ a=some o→jk "tuple" (TR C Φ) ts o→P (.ref a))→P v) (fun ts=>∀P:Value→Prop,(∀a o,Φ a=some o→jk "list" (TR C Φ) ts o→P (.ref a))→P v)
 (fun es=>∀P:Value→Prop,(∀a o,a≠sysModules→Φ a=some o→cL C (TR C Φ) (TR C Φ) es o→P (.ref a))→P v)
 (fun Cl fs=>∀P:Value→Prop,(∀a dx o,Φ a=some (instObj Cl dx)→Φ dx=some o→cL C (TR C Φ) (TR C Φ) fs o→P (.ref a))→P v) (fun w=>∀P:Value→Prop,P w→P v)
theorem TR.inv {d:T} {v:Value} (x:TR C Φ d v):KQ C Φ d v:=by
 walk_at "a"
 cases d with
 | none=>intro P k;rw [show v=_ from x];exact k
 | bool b=>intro P k;rw [show v=_ from x];exact k
 | int i=>obtain⟨t,rfl⟩:=x;exact fun P k=>k t
 | str i=>obtain⟨t,rfl⟩:=x;exact fun P k=>k t
 | raw w=>intro P k;rw [show v=w from x];exact k
 | tup ts=>obtain⟨a,items,n,rfl,h,x⟩:=x;exact fun P k=>k _ _ h (.mk items n (fe x))
 | lst ts=>obtain⟨a,items,n,rfl,h,x⟩:=x;exact fun P k=>k _ _ h (.mk items n (fe x))
 | dct es=>obtain⟨a,o,arr,n,rfl,ne,h,e,d,x,nd⟩:=x;exact fun P k=>k _ _ ne h (.mk arr n e d (iq x) nd)
 | inst Cl es=>obtain⟨a,dx,o,arr,n,rfl,h0,h,e,d,x,nd⟩:=x;exact fun P k=>k _ _ _ h0 h (.mk arr n e d (iq x) nd)
 walk_at "z"
theorem TR.mono (h:Le Φ Φ') {d:T} {v:Value}:TR C Φ d v→TR C Φ' d v:=by
 walk_at "a"
 exact T.rec (motive_1:=fun d=>∀v,TR C Φ d v→TR C Φ' d v) (motive_2:=fun ts=>∀d∈ts,∀v,TR C Φ d v→TR C Φ' d v) (motive_3:=fun es=>∀e∈es,(∀v,TR C Φ e.1 v→TR C Φ' e.1 v)∧∀v,TR C Φ e.2 v→TR C Φ' e.2 v) (motive_4:=fun e=>(∀v,TR C Φ e.1 v→TR C Φ' e.1 v)∧∀v,TR C Φ e.2 v→TR C Φ' e.2 v)
  (fun _ x=>x) (fun _ _ x=>x) (fun _ _ x=>x) (fun _ _ x=>x) (fun ts ih v x=>x.inv _ fun a o e s=> .tup (h _ _ e) (s.imp ih)) (fun ts ih v x=>x.inv _ fun a o e s=> .lst (h _ _ e) (s.imp ih))
  (fun es ih v x=>x.inv _ fun a o n e s=> .dct n (h _ _ e) (s.imp (fun e he=>(ih e he).1) fun e he=>(ih e he).2)) (fun Cl es ih v x=>x.inv _ fun a dx o e0 e s=> .inst (h _ _ e0) (h _ _ e) (s.imp (fun e he=>(ih e he).1) fun e he=>(ih e he).2))
  (fun _ _ x=>x) (fun _ h=>nomatch h) (fun _ _ a b d hd=>by cases hd with
   | head=>exact a
   | tail _ hd=>exact b d hd) (fun _ h=>nomatch h) (fun _ _ a b d hd=>by cases hd with
   | head=>exact a
   | tail _ hd=>exact b d hd) (fun _ _ a b=>⟨a,b⟩) d v
 walk_at "z"
end
noncomputable def VR (C:Cx) (Φ:cj) (μ:Mu) (x:V) (v:Value):Prop:=V.casesOn (motive:=fun _=>Prop) x (fun d=>TR C Φ d v) (fun n=>v= .ref (μ n)) fun Cl n=>∃a,v= .ref a∧Φ a=some (instObj Cl (μ n))
noncomputable def V.ids (x:V):List Nat:=V.casesOn (motive:=fun _=>List Nat) x (fun _=>[]) (fun n=>[n]) fun _ n=>[n]
noncomputable def O.ids (o:O):List Nat:=O.casesOn (motive:=fun _=>List Nat) o (fun _=>[]) (fun es=>es.flatMap fun e=>e.2.ids) (fun _=>[]) fun _=>[]
noncomputable def O.live (o:O):Bool:=O.casesOn (motive:=fun _=>Bool) o (fun _=>true) (fun _=>true) (fun _=>false) fun _=>true
theorem VR.mono {C:Cx} {Φ Φ':cj} {μ μ':Mu} (h:Le Φ Φ') {x:V} {v:Value} (e:∀n∈x.ids,μ' n=μ n) (r:VR C Φ μ x v):VR C Φ' μ' x v:=by
 walk_at "a"
 cases x with
 | t d=>exact TR.mono h r
 | ref n=>exact(show v= .ref (μ n) from r).trans (congrArg Value.ref (e n (.head _)).symm)
 | iref Cl n=>obtain⟨a,q,z⟩:=r;exact⟨a,q,by rw [e n (.head _)];exact h _ _ z⟩
 walk_at "z"
noncomputable def OR (C:Cx) (Φ:cj) (μ:Mu) (o:O) (ob:Obj):Prop:=O.casesOn (motive:=fun _=>Prop) o (fun ts=>jk "list" (TR C Φ) ts ob) (fun es=>cL C (TR C Φ) (VR C Φ μ) es ob) (fun _=>False) fun es=>cL C (TR C Φ) (TR C Φ) es ob
theorem OR.mono {C:Cx} {Φ Φ':cj} {μ μ':Mu} (h:Le Φ Φ') {o:O} {ob:Obj} (e:∀n∈o.ids,μ' n=μ n) (r:OR C Φ μ o ob):OR C Φ' μ' o ob:=by
 cases o with
 | list ts=>exact jk.imp r fun _ _ _ q=>q.mono h
 | dict es=>exact cL.imp r (fun _ _ _ q=>q.mono h) fun x hx _ q=>VR.mono h (fun n hn=>e n (aG.mpr ⟨x,hx,hn⟩)) q
 | frz d=>exact r
 | tdct es=>exact cL.imp r (fun _ _ _ q=>q.mono h) fun _ _ _ q=>q.mono h
theorem OR.live {C:Cx} {Φ:cj} {μ:Mu} {o:O} {ob:Obj} (r:OR C Φ μ o ob):o.live=true:=by
 cases o with
 | list ts=>rfl
 | dict es=>rfl
 | tdct es=>rfl
 | frz d=>exact r.elim
theorem OR.not_tab {C:Cx} {Φ:cj} {μ:Mu} {o:O} {ob:Obj} {ps:Array Value} (h:OR C Φ μ o ob):ob≠tabObj ps:=by
 walk_at "a"
 rintro rfl
 cases o with
 | list ts=>exact nomatch (show jk "list" (TR C Φ) ts (tabObj ps) from h)
 | dict es=>cases (show cL C (TR C Φ) (VR C Φ μ) es (tabObj ps) from h) with | mk arr n a=>cases (show Value.none=Value.type "dict" from a.1)
 | frz d=>exact h
 | tdct es=>cases (show cL C (TR C Φ) (TR C Φ) es (tabObj ps) from h) with | mk arr n a=>cases (show Value.none=Value.type "dict" from a.1)
 walk_at "z"
noncomputable def pY (C:Cx) (Φ:cj) (h:Heap):Prop:=
 ∃ps,h.get? C.P=some (tabObj ps)∧TriplesOk ps.toList∧
  (codeAmong C.lpos ps.toList=none∨∃c' o vs t,codeAmong C.lpos ps.toList=some (.ref c')∧Φ c'=some o∧o.data= .fields vs∧vs[1]? =some (.str C.lqual t))
theorem pY.mono {C:Cx} {Φ Φ':cj} {h h':Heap} (x:pY C Φ h) (l:Le Φ Φ') (e:h'.get? C.P=h.get? C.P):pY C Φ' h':=by
 walk_at "a"
 obtain⟨ps,a,b,c⟩:=x
 refine⟨ps,e.trans a,b,c.imp id ?_⟩
 rintro⟨c',o,vs,t,c1,c2,c3⟩
 exact⟨c',o,vs,t,c1,l _ _ c2,c3⟩
 walk_at "z"
noncomputable def Sub (Φ:cj) (h:Heap):Prop:=∀b o,Φ b=some o→h.get? b=some o
noncomputable def lT (C:Cx) (Φ:cj):Prop:=Φ C.P=none∧∀b o,b≠C.P→C.h0.get? b=some o→Φ b=some o
theorem gH {C:Cx} {Φ:cj} (B:lT C Φ):Φ sysModules≠none:=by
 cases e:C.h0.get? sysModules with
 | none=>exact absurd e C.mods
 | some o=>rw [B.2 _ _ C.p4 e];exact nofun
noncomputable def eQ (s s':Shared):Prop:=∃h tk,s'={s with heap:=h,toks:=tk}
theorem eQ.refl (s:Shared):eQ s s:=⟨_,_,rfl⟩
theorem eQ.trans {a b c:Shared} (x:eQ a b) (y:eQ b c):eQ a c:=by
 walk_at "a"
 obtain⟨h,t,rfl⟩:=x
 obtain⟨h',t',rfl⟩:=y
 exact⟨h',t',rfl⟩
 walk_at "z"
noncomputable def qM (g Φ Φ':cj):Prop:=Le Φ Φ'∧∀b,g b≠none→Φ' b=Φ b
theorem qM.refl (g Φ:cj):qM g Φ Φ:=⟨Le.refl _,fun _ _=>rfl⟩
theorem qM.trans {g a b c:cj} (x:qM g a b) (y:qM g b c):qM g a c:=⟨x.1.trans y.1,fun d hd=>(y.2 d hd).trans (x.2 d hd)⟩
theorem qM.le {g g' Φ Φ':cj} (l:Le g g') (x:qM g' Φ Φ'):qM g Φ Φ':=⟨x.1,fun b hb=>x.2 b fun q=>hb (l.none q)⟩
structure Pt where
 Φ:cj
 μ:Mu
 s:Shared
inductive BU (C:Cx) (g:cj) (p:Pt):O→Addr→Prop
 | frz {d:T} {a:Addr}:TR C p.Φ d (.ref a)→BU C g p (.frz d) a
 | live {o:O} {a:Addr} {ob:Obj}:p.s.heap.get? a=some ob→OR C p.Φ p.μ o ob→p.Φ a=none→g a=none→BU C g p o a
structure bc (C:Cx) (g:cj) (H:Hp) (p:Pt):Prop where
 base:lT C p.Φ
 sub:Sub p.Φ p.s.heap
 gsub:Sub g p.s.heap
 gP:g C.P=none
 tab:pY C p.Φ p.s.heap
 slots:∀n o,H.lookup n=some o→BU C g p o (p.μ n)
 inj:∀n m o o',H.lookup n=some o→H.lookup m=some o'→o.live=true→o'.live=true→p.μ n=p.μ m→n=m
 ids:∀n o,H.lookup n=some o→∀k∈o.ids,(H.lookup k).isSome=true
structure f5 (C:Cx) (g:cj) (H:Hp) (p:Pt) (H':Hp) (p':Pt):Prop where
 same:eQ p.s p'.s
 ext:qM g p.Φ p'.Φ
 mu:∀n,(H.lookup n).isSome=true→p'.μ n=p.μ n∧(H'.lookup n).isSome=true
 rel:bc C g H' p'
noncomputable def eC (C:Cx) (H:Hp) (p:Pt) (v:V) (cv:Value):Prop:=VR C p.Φ p.μ v cv∧∀n∈v.ids,(H.lookup n).isSome=true
section
variable {C:Cx} {g g':cj} {H H' H2:Hp} {p p' p2:Pt}
theorem f5.refl (R:bc C g H p):f5 C g H p H p:=⟨eQ.refl _,qM.refl _ _,fun _ h=>⟨rfl,h⟩,R⟩
theorem f5.trans (a:f5 C g H p H' p') (b:f5 C g H' p' H2 p2):f5 C g H p H2 p2:=
 ⟨a.same.trans b.same,a.ext.trans b.ext,fun n hn=>⟨(b.mu n (a.mu n hn).2).1.trans (a.mu n hn).1,(b.mu n (a.mu n hn).2).2⟩,b.rel⟩
theorem eC.step {v:V} {cv:Value} (x:eC C H p v cv) (st:f5 C g H p H' p'):eC C H' p' v cv:=⟨x.1.mono st.ext.1 fun n hn=>(st.mu n (x.2 n hn)).1,fun n hn=>(st.mu n (x.2 n hn)).2⟩
theorem TR.vri {d:T} {cv:Value} (x:TR C p.Φ d cv):eC C H p (.t d) cv:=⟨x,fun n hn=>nomatch hn⟩
theorem bc.neP (R:bc C g H p) {a:Addr} {ob:Obj} (ha:p.s.heap.get? a=some ob) (hn:∀ps,ob≠tabObj ps):a≠C.P:=fun q=>by
 obtain⟨ps,e,_⟩:=R.tab
 rw [q,e] at ha
 exact hn ps (Option.some.inj ha).symm
theorem BU.mono {o:O} {a:Addr} (x:BU C g p o a) (l:Le p.Φ p'.Φ) (m:∀k∈o.ids,p'.μ k=p.μ k) (h:∀ob,p.s.heap.get? a=some ob→p.Φ a=none→g a=none→o.live=true→(∀ps,ob≠tabObj ps)→p'.s.heap.get? a=some ob∧p'.Φ a=none∧g' a=none):BU C g' p' o a:=by
 walk_at "a"
 cases x with
 | frz x=>exact .frz (x.mono l)
 | live a b c d=>have:=h _ a c d b.live fun ps=>b.not_tab;exact .live this.1 (b.mono l m) this.2.1 this.2.2
 walk_at "z"
structure qN (Φ:cj) (s:Shared) (Φ':cj) (s':Shared):Prop where
 same:eQ s s'
 keep:∀b o,s.heap.get? b=some o→s'.heap.get? b=some o
 le:Le Φ Φ'
 ag:∀b,s.heap.get? b≠none→Φ' b=Φ b
 sub:Sub Φ' s'.heap
theorem qN.refl {Φ:cj} {s:Shared} (h:Sub Φ s.heap):qN Φ s Φ s:=⟨eQ.refl _,fun _ _ e=>e,Le.refl _,fun _ _=>rfl,h⟩
theorem bt {α:Type} {o:Option α} {x:α} (h:o=some x):o≠none:=by rw [h];exact nofun
theorem bc.grow (R:bc C g H p) {Φ':cj} {s':Shared} (G:qN p.Φ p.s Φ' s'):f5 C g H p H ⟨Φ',p.μ,s'⟩:=by
 refine⟨G.same,⟨G.le,fun b hb=>G.ag b ?_⟩,fun _ h=>⟨rfl,h⟩,⟨⟨?_,fun b o hb e=>G.le _ _ (R.base.2 b o hb e)⟩,G.sub,fun b o e=>G.keep _ _ (R.gsub _ _ e),R.gP,?_,fun n o e=>(R.slots n o e).mono G.le (fun _ _=>rfl) fun ob a b c _ _=>⟨G.keep _ _ a,(G.ag _ (bt a)).trans b,c⟩,R.inj,R.ids⟩⟩
 · cases e:g b with
   | none=>exact absurd e hb
   | some o=>exact bt (R.gsub _ _ e)
 · obtain⟨ps,hp,_⟩:=R.tab;exact(G.ag _ (bt hp)).trans R.base.1
 · obtain⟨ps,hp,_⟩:=R.tab;exact R.tab.mono G.le ((G.keep _ _ hp).trans hp.symm)
end
noncomputable def gY (H:Hp) (m:Nat) (x:O):Hp:=List.rec (motive:=fun _=>Hp) [] (fun e r ih=>bif Nat.beq m e.1 then(e.1,x)::r else e::ih) H
theorem be {k:Nat} {o:O} {H:Hp}:List.lookup k ((k,o)::H)=some o:=by rw [aD,beq_self_eq_true]
theorem aX {n k:Nat} {o:O} {H:Hp} (h:n≠k):List.lookup n ((k,o)::H)=H.lookup n:=by rw [aD,beq_false_of_ne h]
theorem nG {m:Nat} {x:O}:∀{H:Hp},(H.lookup m).isSome=true→(gY H m x).lookup m=some x:=by
 walk_at "a"
 intro H
 induction H with
 | nil=>intro h;cases h
 | cons e r ih=>
  intro h
  show(bif Nat.beq m e.1 then(e.1,x)::r else e::gY r m x).lookup m=_
  cases q:Nat.beq m e.1 with
  | true=>cases bJ q;exact be
  | false=>
   have ne:=cY q
   exact(aX ne).trans (ih (by rw [show List.lookup m (e::r)=r.lookup m from aX ne] at h;exact h))
 walk_at "z"
theorem rI {m n:Nat} {x:O} (hn:n≠m):∀{H:Hp},(gY H m x).lookup n=H.lookup n:=by
 walk_at "a"
 intro H
 induction H with
 | nil=>rfl
 | cons e r ih=>
  show(bif Nat.beq m e.1 then(e.1,x)::r else e::gY r m x).lookup n=_
  cases q:Nat.beq m e.1 with
  | true=>cases bJ q;exact(aX hn).trans (aX hn).symm
  | false=>
   show(e::gY r m x).lookup n=_
   rw [aD,ih,←aD]
 walk_at "z"
theorem iE {m n:Nat} {x:O} {H:Hp} (h:(H.lookup n).isSome=true):((gY H m x).lookup n).isSome=true:=by
 by_cases q:n=m
 · subst q;rw [nG h];rfl
 · rw [rI q];exact h
theorem df {m n:Nat} {x o:O} {H:Hp} (hm:(H.lookup m).isSome=true) {P:Prop} (h:(gY H m x).lookup n=some o) (k1:n=m→o=x→P) (k2:n≠m→H.lookup n=some o→P):P:=by
 walk_at "a"
 by_cases q:n=m
 · subst q;rw [nG hm] at h;cases h;exact k1 rfl rfl
 · rw [rI q] at h;exact k2 q h
 walk_at "z"
noncomputable def cj.put (Φ:cj) (a:Addr) (o:Obj):cj:=fun b=>if b=a then some o else Φ b
theorem dX {Φ:cj} {a b:Addr} {o:Obj} (h:b≠a):Φ.put a o b=Φ b:=if_neg h
theorem dj {Φ:cj} {a:Addr} {o:Obj}:Φ.put a o a=some o:=if_pos rfl
theorem iz {Φ:cj} {a:Addr} {o:Obj} (h:Φ a=none):Le Φ (Φ.put a o):=by
 walk_at "a"
 exact fun b x e=>(dX fun q=>by rw [q,h] at e;cases e).trans e
 walk_at "z"
theorem c5 {Φ:cj} {a b:Addr} {o:Obj} (h:Φ a=none) (e:Φ b=some o):b≠a:=by
 walk_at "a"
 exact fun q=>by rw [q,h] at e;cases e
 walk_at "z"
section
variable {C:Cx} {g g':cj} {H H' H2:Hp} {p p' p2:Pt}
theorem bc.alive (R:bc C g H p) {m:Nat} {o:O} (hm:H.lookup m=some o) (lv:o.live=true) {P:Prop} (k:∀ob,p.s.heap.get? (p.μ m)=some ob→OR C p.Φ p.μ o ob→p.Φ (p.μ m)=none→g (p.μ m)=none→p.μ m≠C.P→P):P:=by
 walk_at "a"
 have:=R.slots m o hm
 cases this with
 | frz _=>cases lv
 | live a b c d=>exact k _ a b c d (R.neP a fun ps=>b.not_tab)
 walk_at "z"
theorem bc.turn (R:bc C g H p) {m:Nat} {o o':O} {ob':Obj} {s':Shared} (hm:H.lookup m=some o) (lv:o.live=true) (sm:eQ p.s s') (sb:∀b,b≠p.μ m→s'.heap.get? b=p.s.heap.get? b) (hob:s'.heap.get? (p.μ m)=some ob') (hor:OR C p.Φ p.μ o' ob') (hid:∀k∈o'.ids,(H.lookup k).isSome=true):
 f5 C g H p (gY H m o') ⟨p.Φ,p.μ,s'⟩:=by
 walk_at "a"
 have hs:(H.lookup m).isSome=true:=by rw [hm];rfl
 refine R.alive hm lv fun ob h1 h2 h3 h4 h5=>⟨sm,qM.refl _ _,fun n hn=>⟨rfl,iE hn⟩,⟨R.base,fun b x e=>(sb b (c5 h3 e)).trans (R.sub _ _ e),fun b x e=>(sb b (c5 h4 e)).trans (R.gsub _ _ e),R.gP,R.tab.mono (Le.refl _) (sb _ (Ne.symm h5)),fun n x e=>df hs e ?_ ?_,fun n n' x x' e e' l l' q=>df hs e ?_ ?_,fun n x e k hk=>iE ?_⟩⟩
 · rintro rfl rfl;exact .live hob hor h3 h4
 · intro ne e
   exact(R.slots n x e).mono (Le.refl _) (fun _ _=>rfl) fun ob a b c l _=>⟨(sb _ fun q=>ne (R.inj n m x o e hm l lv q)).trans a,b,c⟩
 · exact fun qn _=>df hs e' (fun qm _=>qn.trans qm.symm) fun ne e'=>qn.trans (R.inj m n' o x' hm e' lv l' (by rw [←qn];exact q))
 · exact fun ne e=>df hs e' (fun qm _=>(R.inj n m x o e hm l lv (by rw [←qm];exact q)).trans qm.symm) fun ne e'=>R.inj _ _ x x' e e' l l' q
 · refine df hs e ?_ fun _ e=>R.ids n x e k hk
   rintro _ rfl;exact hid k hk
 walk_at "z"
theorem bc.alloc (R:bc C g H p) {k:Nat} {a:Addr} {o:O} {ob:Obj} (hk:H.lookup k=none) (ha:p.s.heap.get? a=some ob) (hor:OR C p.Φ p.μ o ob) (h1:p.Φ a=none) (h2:g a=none) (h3:∀n o,H.lookup n=some o→o.live=true→p.μ n≠a) (hid:∀i∈o.ids,(H.lookup i).isSome=true):
 f5 C g H p ((k,o)::H) ⟨p.Φ,fun n=>if n=k then a else p.μ n,p.s⟩:=by
 walk_at "a"
 have ne:∀{n},(H.lookup n).isSome=true→n≠k:=fun {n} h q=>by rw [q,hk] at h;cases h
 have up:∀{n},(H.lookup n).isSome=true→(if n=k then a else p.μ n)=p.μ n:=fun {n} h=>if_neg (ne h)
 have old:∀{n x},List.lookup n ((k,o)::H)=some x→n=k∧x=o∨n≠k∧H.lookup n=some x:=fun {n x} e=>by
  by_cases q:n=k
  · subst q;rw [be] at e;cases e;exact .inl ⟨rfl,rfl⟩
  · rw [aX q] at e;exact .inr ⟨q,e⟩
 have sm:∀{n x},H.lookup n=some x→(H.lookup n).isSome=true:=fun {n x} e=>by rw [e];rfl
 refine⟨eQ.refl _,qM.refl _ _,fun n hn=>⟨up hn,(congrArg bY (aX (ne hn))).trans hn⟩,⟨R.base,R.sub,R.gsub,R.gP,R.tab,fun n x e=>?_,fun n m x y e e' l l' q=>?_,fun n x e i hi=>?_⟩⟩
 · rcases old e with⟨rfl,rfl⟩ | ⟨q,e⟩
   · show BU C g _ _ (if _ then _ else _)
     rw [if_pos rfl]
     exact .live ha (hor.mono (Le.refl _) fun i hi=>up (hid i hi)) h1 h2
   · show BU C g _ _ (if _ then _ else _)
     rw [if_neg q]
     exact(R.slots n x e).mono (Le.refl _) (fun i hi=>up (R.ids n x e i hi)) fun ob a b c _ _=>⟨a,b,c⟩
 · have q:(if n=k then a else p.μ n)=(if m=k then a else p.μ m):=q
   rcases old e with⟨z,_⟩ | ⟨q1,e⟩
   · rcases old e' with⟨z',_⟩ | ⟨q2,e'⟩
     · exact z.trans z'.symm
     · rw [if_pos z,if_neg q2] at q;exact absurd q.symm (h3 _ _ e' l')
   · rcases old e' with⟨z',_⟩ | ⟨q2,e'⟩
     · rw [if_pos z',if_neg q1] at q;exact absurd q (h3 _ _ e l)
     · rw [if_neg q1,if_neg q2] at q;exact R.inj _ _ x y e e' l l' q
 · have:=fun h:(H.lookup i).isSome=true=>(congrArg bY (aX (o:=o) (H:=H) (ne h))).trans h
   rcases old e with⟨rfl,rfl⟩ | ⟨q,e⟩
   · exact this (hid i hi)
   · exact this (R.ids n x e i hi)
 walk_at "z"
theorem bc.still (R:bc C g H p) {m:Nat} {o:O} {d:T} (hm:H.lookup m=some o) (lv:o.live=true) (ht:∀ob,p.s.heap.get? (p.μ m)=some ob→OR C p.Φ p.μ o ob→p.Φ (p.μ m)=none→TR C (p.Φ.put (p.μ m) ob) d (.ref (p.μ m))) {P:Prop}
 (k:∀p',p'.s=p.s→p'.μ=p.μ→f5 C g H p (gY H m (.frz d)) p'→TR C p'.Φ d (.ref (p.μ m))→P):P:=by
 walk_at "a"
 have hs:(H.lookup m).isSome=true:=by rw [hm];rfl
 refine R.alive hm lv fun ob h1 h2 h3 h4 h5=>?_
 have l:=iz (o:=ob) h3
 have tr:=ht ob h1 h2 h3
 refine k ⟨p.Φ.put (p.μ m) ob,p.μ,p.s⟩ rfl rfl ⟨eQ.refl _,⟨l,fun b hb=>dX fun q=>hb (q▸h4)⟩,fun n hn=>⟨rfl,iE hn⟩,⟨⟨(dX (Ne.symm h5)).trans R.base.1,fun b o hb e=>l _ _ (R.base.2 b o hb e)⟩,fun b x e=>?_,R.gsub,R.gP,R.tab.mono l rfl,fun n x e=>df hs e ?_ ?_,fun n n' x x' e e' l l' q=>df hs e ?_ ?_,fun n x e i hi=>iE ?_⟩⟩ tr
 · by_cases q:b=p.μ m
   · subst q;exact h1.trans ((show p.Φ.put _ ob _=some ob from dj).symm.trans e)
   · exact R.sub _ _ ((dX q).symm.trans e)
 · rintro rfl rfl;exact .frz tr
 · intro ne e
   exact(R.slots n x e).mono l (fun _ _=>rfl) fun ob a b c l _=>⟨a,(dX fun q=>ne (R.inj n m x o e hm l lv q)).trans b,c⟩
 · rintro _ rfl;cases l
 · intro ne e
   refine df hs e' ?_ fun ne e'=>R.inj _ _ x x' e e' l l' q
   rintro _ rfl;cases l'
 · refine df hs e ?_ fun _ e=>R.ids n x e i hi
   rintro _ rfl;cases hi
 walk_at "z"
structure f6 (C:Cx) (g:cj) (H:Hp) (p:Pt) (b:Addr):Prop where
 has:p.s.heap.get? b≠none
 phi:p.Φ b=none
 g:g b=none
 ne:b≠C.P
 sl:∀n o,H.lookup n=some o→o.live=true→p.μ n≠b
theorem bc.but (R:bc C g H p) {s':Shared} (wr:Addr→Prop) (fr:∀b,wr b→f6 C g H p b) (sm:eQ p.s s') (k:∀b o, ¬ wr b→p.s.heap.get? b=some o→s'.heap.get? b=some o):f5 C g H p H ⟨p.Φ,p.μ,s'⟩:=by
 refine⟨sm,qM.refl _ _,fun n hn=>⟨rfl,hn⟩,⟨R.base,fun b o e=>k b o (fun q=>c5 (fr b q).phi e rfl) (R.sub _ _ e),fun b o e=>k b o (fun q=>c5 (fr b q).g e rfl) (R.gsub _ _ e),R.gP,?_,fun n o e=>(R.slots n o e).mono (Le.refl _) (fun _ _=>rfl) fun ob a b c l _=>⟨k _ _ (fun q=>(fr _ q).sl n o e l rfl) a,b,c⟩,R.inj,R.ids⟩⟩
 obtain⟨ps,hp,_⟩:=R.tab
 exact R.tab.mono (Le.refl _) ((k _ _ (fun q=>(fr _ q).ne rfl) hp).trans hp.symm)
theorem bc.guard (R:bc C g H p) (gs:Sub g' p.s.heap) (gP:g' C.P=none) (pr:∀n o,H.lookup n=some o→o.live=true→g (p.μ n)=none→g' (p.μ n)=none):bc C g' H p:=
 ⟨R.base,R.sub,gs,gP,R.tab,fun n o e=>(R.slots n o e).mono (Le.refl _) (fun _ _=>rfl) fun ob a b c l _=>⟨a,b,pr n o e l c⟩,R.inj,R.ids⟩
theorem bc.le (R:bc C g' H p) (l:Le g g'):bc C g H p:=R.guard (fun b o e=>R.gsub _ _ (l _ _ e)) (l.none R.gP) fun _ _ _ _ q=>l.none q
theorem f5.le (x:f5 C g' H p H' p') (l:Le g g'):f5 C g H p H' p':=⟨x.same,x.ext.le l,x.mu,x.rel.le l⟩
noncomputable def gw (own:List Addr) (h:Heap) (g:cj):cj:=fun b=>if b∈own then h.get? b else g b
theorem lL {own:List Addr} {h:Heap} {b:Addr} (hb:b∈own):gw own h g b=h.get? b:=if_pos hb
theorem gh {own:List Addr} {h:Heap} {b:Addr} (hb:b∉own):gw own h g b=g b:=if_neg hb
theorem vQ {own:List Addr} {h:Heap} (fr:∀b∈own,g b=none):Le g (gw own h g):=fun b o e=>(gh fun q=>c5 (fr b q) e rfl).trans e
theorem bc.guardL (R:bc C g H p) {own:List Addr} (fr:∀b∈own,f6 C g H p b):bc C (gw own p.s.heap g) H p:=by
 refine R.guard (fun b o e=>?_) ((gh fun q=>(fr _ q).ne rfl).trans R.gP) fun n o e l q=>(gh fun z=>(fr _ z).sl n o e l rfl).trans q
 by_cases q:b∈own
 · exact(lL q).symm.trans e
 · exact R.gsub _ _ ((gh q).symm.trans e)
theorem f5.held (x:f5 C g' H p H' p') (R:Sub g' p.s.heap) {b:Addr} (hb:g' b≠none):p'.s.heap.get? b=p.s.heap.get? b∧p'.Φ b=p.Φ b∧∀n o,H'.lookup n=some o→o.live=true→p'.μ n≠b:=by
 refine⟨?_,x.ext.2 b hb,fun n o e l q=>x.rel.alive e l fun _ _ _ _ h _=>hb (q▸h)⟩
 cases e:g' b with
 | none=>exact absurd e hb
 | some o=>exact(x.rel.gsub _ _ e).trans (R _ _ e).symm
theorem f6.step {own:List Addr} (x:f5 C (gw own p.s.heap g) H p H' p') (R:bc C g H p) (fr:∀b∈own,f6 C g H p b):∀b∈own,f6 C g H' p' b∧p'.s.heap.get? b=p.s.heap.get? b:=fun b hb=>by
 have h:=x.held (R.guardL fr).gsub (b:=b) (by rw [lL hb];exact(fr b hb).has)
 exact⟨⟨by rw [h.1];exact(fr b hb).has,h.2.1.trans (fr b hb).phi,(fr b hb).g,(fr b hb).ne,h.2.2⟩,h.1⟩
end
noncomputable def iy (l:List (Str×NameKind)) (x:Str):Nat→Option (Nat×NameKind):=List.rec (motive:=fun _=>Nat→Option (Nat×NameKind)) (fun _=>none) (fun p _ ih i=>if(p.1==x)=true then some (i,p.2) else ih (i+1)) l
theorem jD {l:List (Str×NameKind)} {x:Str}:∀{j i:Nat} {k:NameKind},iy l x j=some (i,k)→j≤i∧l[i - j]? =some (x,k)∧l.lookup x=some k:=by
 walk_at "a"
 induction l with
 | nil=>intro j i k h;cases h
 | cons p r ih=>
  intro j i k h
  replace h:(if(p.1==x)=true then some (j,p.2) else iy r x (j+1))=some (i,k):=h
  rw [aD]
  by_cases q:(p.1==x)=true
  · rw [if_pos q] at h
    cases h
    have q:=beq_iff_eq.mp q
    subst q
    rw [beq_self_eq_true,Nat.sub_self]
    exact⟨aB _,rfl,rfl⟩
  · rw [if_neg q] at h
    obtain⟨a,b,c⟩:=ih h
    rw [beq_false_of_ne fun z=>q (beq_iff_eq.mpr z.symm)]
    refine⟨bF a,?_,c⟩
    rw [show i - j=(i - (j+1))+1 from by omega,List.getElem?_cons_succ];exact b
 walk_at "z"
noncomputable def oj:Value→Shared→Prop:=fun _ _=>False
noncomputable abbrev Wp {α:Type} (C:Cx) (A:Around) (t:Sem α) (P:α→Shared→Prop) (s:Shared):Prop:=wpAny (model C.prog C.w) A t P oj s
noncomputable def lH (n:Nat) (A:Around):Prop:=A.handled=none∧A.depth+3*n≤990∧A.units+8*n+100≤cLine
theorem lH.le {n m:Nat} {A:Around} (h:lH n A) (hm:m≤n):lH m A:=⟨h.1,a8 (aL (aJ 3 hm) _) h.2.1,a8 (aQ (aL (aJ 8 hm) _) 100) h.2.2⟩
theorem lH.deeper {n:Nat} {A:Around} {env:Env} (h:lH (n+1) A):lH n (A.deeper env):=⟨h.1,by have:=h.2.1;show A.depth+1+_≤_;omega,by have:=h.2.2;show A.units+3+_+_≤_;omega⟩
noncomputable def dU:List Str:=["run","sorted"]
noncomputable def l6:Addr:=114
noncomputable def jo:Str:=("form_sorted":Str)++".<locals>."
structure yU (sc:Scope) (env:Env):Prop where
 scope:env.scope=sc
 globals:env.globals=mainGlobals
 builtins:env.builtins=builtinsNs
 cells:∀x,(sc.names.lookup x=some .cell∨sc.names.lookup x=some .free)→∃c,env.cells.lookup x=some c
 noLocal:∀x c,sc.names.lookup x=some .local→env.cells.lookup x=some c→False
 lam:sc.names.map (·.1)=dU→env.code= .ref l6∧env.qual=jo
structure Fm where
 A:Around
 env:Env
 g0:cj
 g:cj
 val:Str→Option Value
 oc:Bool
noncomputable def KA (m:Str→Option Value) (o:Obj):Prop:=∃es ep,o.data= .dict es ep∧StrKeys es∧∀x,nsFind es x=m x
theorem KA.ns {m:Str→Option Value} {o:Obj} {h:Heap} {a:Addr} (x:KA m o) (e:h.get? a=some o):h.Ns a m:=by
 obtain⟨es,ep,r⟩:=x;exact⟨o,es,ep,e,r⟩
noncomputable def Fa (env:Env) (b:Addr):Prop:=b=env.locals∨∃x,env.cells.lookup x=some b
structure FR (C:Cx) (sc:Scope) (n:Nat) (ρ:aF) (F:Fm) (H:Hp) (p:Pt):Prop where
 ok:lH n F.A
 env:yU sc F.env
 le:Le F.g0 F.g
 nd:(sc.names.map (·.1)).Nodup
 kd:sc.kind= .function
 out:F.g0 F.env.locals=none
 phi:∀b,Fa F.env b→p.Φ b=none
 ns:∃o m,F.g F.env.locals=some o∧KA m o∧∀x,sc.names.lookup x=some .local→m x=F.val x
 cells:∀x c,F.env.cells.lookup x=some c→c≠F.env.locals∧(F.oc=true→F.g0 c=none)∧∃o,F.g c=some o∧o.data= .cell (F.val x)
 apart:∀x y c,F.env.cells.lookup x=some c→F.env.cells.lookup y=some c→x=y
 vars:∀(i:Nat) (x:Str) (k:NameKind) (v:V),sc.names[i]? =some (x,k)→ρ[i]? =some (some v)→∃cv,F.val x=some cv∧eC C H p v cv
noncomputable def upd (val:Str→Option Value) (x:Str) (v:Value):Str→Option Value:=fun y=>if y=x then some v else val y
noncomputable def cj.upd (g:cj) (a:Addr) (h:Heap):cj:=fun b=>if b=a then h.get? b else g b
theorem t6 {l:List (Str×NameKind)} (h:(l.map (·.1)).Nodup) {i j:Nat} {x:Str} {k k':NameKind} (e:l[i]? =some (x,k)) (e':l[j]? =some (x,k')):i=j:=by
 have e1:(l.map (·.1))[i]? =some x:=by rw [ax,e];rfl
 have e2:(l.map (·.1))[j]? =some x:=by rw [ax,e'];rfl
 obtain⟨hi,_⟩:=bM.mp e1
 exact(List.getElem?_inj hi h).mp (e1.trans e2.symm)
section
variable {C:Cx} {sc:Scope} {n:Nat} {ρ:aF} {F:Fm} {H H':Hp} {p p':Pt}
theorem FR.kin (fr:FR C sc n ρ F H p) {x:Str} {k:Option NameKind} (h:sc.names.lookup x=k):F.env.kindOf x=k:=by unfold Env.kindOf;rw [fr.env.scope];exact h
theorem FR.fk (fr:FR C sc n ρ F H p):F.env.scope.kind= .function:=(congrArg Scope.kind fr.env.scope).trans fr.kd
theorem FR.fa (fr:FR C sc n ρ F H p) {b:Addr} (h:Fa F.env b):F.g b≠none:=by
 walk_at "a"
 rcases h with h | ⟨x,h⟩
 · obtain⟨o,m,a,_⟩:=fr.ns;rw [h];exact bt a
 · obtain⟨_,_,o,a,_⟩:=fr.cells x b h;exact bt a
 walk_at "z"
theorem FR.step (fr:FR C sc n ρ F H p) (st:f5 C F.g H p H' p'):FR C sc n ρ F H' p':={fr with phi:=fun b hb=>(st.ext.2 b (fr.fa hb)).trans (fr.phi b hb),vars:=fun i x k v e1 e2=>by obtain⟨cv,a,b⟩:=fr.vars i x k v e1 e2;exact⟨cv,a,b.step st⟩}
theorem FR.reg (fr:FR C sc n ρ F H p) {g0 g:cj} (le:Le g0 g) (e:∀b,Fa F.env b→g b=F.g b∧(F.g0 b=none→g0 b=none)):FR C sc n ρ {F with g0:=g0,g:=g} H p:=by
 walk_at "a"
 obtain⟨o,m,a,b⟩:=fr.ns
 refine {fr with le:=le,out:=(e _ (.inl rfl)).2 fr.out,ns:=⟨o,m,(e _ (.inl rfl)).1.trans a,b⟩,cells:=fun x c hc=>?_}
 obtain⟨c1,c2,o,c3,c4⟩:=fr.cells x c hc
 exact⟨c1,fun q=>(e _ (.inr ⟨x,hc⟩)).2 (c2 q),o,(e _ (.inr ⟨x,hc⟩)).1.trans c3,c4⟩
 walk_at "z"
theorem FR.unset (fr:FR C sc n ρ F H p) {ρ':aF} (h:∀(i:Nat) v,(ρ':List (Option V))[i]? =some (some v)→ρ[i]? =some (some v)):FR C sc n ρ' F H p:={fr with vars:=fun i x k v e1 e2=>fr.vars i x k v e1 (h i v e2)}
theorem FR.load (fr:FR C sc n ρ F H p) (R:bc C F.g H p) {x:Str} {i:Nat} {k:NameKind} {v:V} (hf:iy sc.names x 0=some (i,k)) (hv:(ρ:List (Option V))[i]? =some (some v)) (hn:(k== .local || k== .cell || k== .free)=true) (hd:(x==("__classdict__":Str))=false) {P:Value→Shared→Prop}
 (h:∀cv,eC C H p v cv→P cv p.s):Wp C F.A (loadName F.env x) P p.s:=by
 walk_at "a"
 obtain⟨_,hf1,hx⟩:=jD hf
 obtain⟨cv,e,r⟩:=fr.vars i x k v hf1 hv
 have h:=h cv r
 cases k with
 | «local» =>
  obtain⟨o,m,a,b,c⟩:=fr.ns
  exact wpAny_loadName_local fr.fk (fr.kin hx) (b.ns (R.gsub _ _ a)) ((c x hx).trans e) h
 | cell=>
  obtain⟨c,hc⟩:=fr.env.cells x (.inl hx)
  obtain⟨_,_,o,c3,c4⟩:=fr.cells x c hc
  exact wpAny_loadName_cell fr.fk (fr.kin hx) hc ⟨o,R.gsub _ _ c3,e▸c4⟩ h
 | free=>
  obtain⟨c,hc⟩:=fr.env.cells x (.inr hx)
  obtain⟨_,_,o,c3,c4⟩:=fr.cells x c hc
  exact wpAny_loadName_free fr.fk (fr.kin hx) hc ⟨o,R.gsub _ _ c3,e▸c4⟩ h hd
 | globalExplicit=>exact nomatch hn
 | globalImplicit=>exact nomatch hn
 walk_at "z"
theorem bc.own {g:cj} (R:bc C g H p) {a:Addr} {o:Obj} {h':Heap} (tk:Nat) (ha:g a=some o) (hp:p.Φ a=none) (hn:∀ps,o≠tabObj ps) (hb:∀b,b≠a→h'.get? b=p.s.heap.get? b):bc C (g.upd a h') H ⟨p.Φ,p.μ,{p.s with heap:=h',toks:=tk}⟩:=by
 walk_at "a"
 have hP:a≠C.P:=R.neP (R.gsub _ _ ha) hn
 refine⟨R.base,fun b x e=>(hb b (c5 hp e)).trans (R.sub _ _ e),fun b x e=>?_,(if_neg (Ne.symm hP)).trans R.gP,R.tab.mono (Le.refl _) (hb _ (Ne.symm hP)),fun m x e=>(R.slots m x e).mono (Le.refl _) (fun _ _=>rfl) fun ob z b c _ _=>?_,R.inj,R.ids⟩
 · by_cases q:b=a
   · exact(if_pos q).symm.trans e
   · exact(hb b q).trans (R.gsub _ _ ((if_neg q).symm.trans e))
 · have q:p.μ m≠a:=fun q=>by rw [q,ha] at c;cases c
   exact⟨(hb _ q).trans z,b,(if_neg q).trans c⟩
 walk_at "z"
theorem rz {m:Str→Option Value} {o:Obj} (x:KA m o) (ps:Array Value):o≠tabObj ps:=by
 rintro rfl;obtain⟨es,ep,e,_⟩:=x;cases e
theorem FR.store (fr:FR C sc n ρ F H p) (R:bc C F.g H p) {x:Str} {i:Nat} {k:NameKind} {v:V} {cv:Value} (hf:iy sc.names x 0=some (i,k)) (hn:(k== .local || (k== .cell&&F.oc))=true) (hv:eC C H p v cv) {P:Unit→Shared→Prop}
 (h:∀g' s',eQ p.s s'→FR C sc n (ρ.set i (some v)) {F with g:=g',val:=upd F.val x cv} H ⟨p.Φ,p.μ,s'⟩→bc C g' H ⟨p.Φ,p.μ,s'⟩→P () s'):Wp C F.A (storeName F.env x cv) P p.s:=by
 walk_at "a"
 obtain⟨_,hf1,hx⟩:=jD hf
 have vars:∀(j:Nat) (y:Str) (k':NameKind) (u:V),sc.names[j]? =some (y,k')→(ρ.set i (some v))[j]? =some (some u)→∃c,upd F.val x cv y=some c∧eC C H p u c:=by
  intro j y k' u e1 e2
  by_cases q:i=j
  · subst q
    cases (show some (x,k)=some (y,k') from hf1.symm.trans e1)
    rw [List.getElem?_set,if_pos rfl] at e2
    by_cases hi:i < ρ.length
    · rw [if_pos hi] at e2;cases e2;exact⟨cv,if_pos rfl,hv⟩
    · rw [if_neg hi] at e2;cases e2
  · rw [hZ q] at e2
    obtain⟨c,a,b⟩:=fr.vars j y k' u e1 e2
    exact⟨c,(if_neg fun z=>q (t6 fr.nd hf1 (z▸e1))).trans a,b⟩
 obtain⟨o,m,a,b,c⟩:=fr.ns
 cases k with
 | «local» =>
  refine wpAny_storeName_local (fr.kin hx) (b.ns (R.gsub _ _ a)) (fun h' hh hb=>h (F.g.upd F.env.locals h') _ ⟨h',_,rfl⟩ ?_ (R.own _ a (fr.phi _ (.inl rfl)) (rz b) hb.2)) (by rw [fr.fk];rfl)
  obtain⟨o',es,ep,e1,e2,e3,e4⟩:=hh
  refine {ok:=fr.ok,env:=fr.env,nd:=fr.nd,kd:=fr.kd,out:=fr.out,apart:=fr.apart,phi:=fr.phi,vars:=vars,le:=fun b' o'' e=>(if_neg (c5 fr.out e)).trans (fr.le _ _ e),ns:=⟨o',_,(if_pos rfl).trans e1,⟨es,ep,e2,e3,e4⟩,fun y hy=>?_⟩,cells:=fun y d hd=>?_}
  · by_cases q:y=x
    · exact(if_pos q).trans (if_pos q).symm
    · exact(if_neg q).trans ((c y hy).trans (if_neg q).symm)
  · obtain⟨c1,c2,o2,c3,c4⟩:=fr.cells y d hd
    have e:upd F.val x cv y=F.val y:=if_neg fun z:y=x=>fr.env.noLocal y d (z▸hx) hd
    exact⟨c1,c2,o2,(if_neg c1).trans c3,c4.trans (congrArg Data.cell e.symm)⟩
 | cell=>
  have oc:F.oc=true:=hn
  obtain⟨d,hd⟩:=fr.env.cells x (.inl hx)
  obtain⟨c1,c2,o2,c3,c4⟩:=fr.cells x d hd
  refine wpAny_storeName_cell fr.fk (fr.kin hx) hd ⟨o2,R.gsub _ _ c3,c4⟩ fun h' hh hb=>h (F.g.upd d h') _ ⟨h',p.s.toks,rfl⟩ ?_ (R.own _ c3 (fr.phi _ (.inr ⟨x,hd⟩)) (fun ps q=>by rw [q] at c4;cases c4) hb.2)
  obtain⟨o',e1,e2⟩:=hh
  refine {ok:=fr.ok,env:=fr.env,nd:=fr.nd,kd:=fr.kd,out:=fr.out,apart:=fr.apart,phi:=fr.phi,vars:=vars,le:=fun b' o'' e=>(if_neg (c5 (c2 oc) e)).trans (fr.le _ _ e),ns:=⟨o,m,(if_neg (Ne.symm c1)).trans a,b,fun y hy=>(c y hy).trans (if_neg fun z=>?_).symm⟩,cells:=fun y d' hd'=>?_}
  · rw [z,hx] at hy;cases hy
  · obtain⟨d1,d2,o3,d3,d4⟩:=fr.cells y d' hd'
    by_cases q:d'=d
    · subst q
      have e:upd F.val x cv y=some cv:=if_pos (fr.apart y x d' hd' hd)
      exact⟨d1,d2,o',(if_pos rfl).trans e1,e2.trans (congrArg Data.cell e.symm)⟩
    · have e:upd F.val x cv y=F.val y:=if_neg fun z=>q (Option.some.inj (hd'.symm.trans ((congrArg (fun z=>F.env.cells.lookup z) z).trans hd)))
      exact⟨d1,d2,o3,(if_neg q).trans d3,d4.trans (congrArg Data.cell e.symm)⟩
 | free=>exact nomatch hn
 | globalExplicit=>exact nomatch hn
 | globalImplicit=>exact nomatch hn
 walk_at "z"
end
inductive PV where
 | t (d:T) | lst (ts:List T)
noncomputable def PVR (C:Cx) (Φ:cj) (h h':Heap) (r:PV) (cv:Value):Prop:=PV.casesOn (motive:=fun _=>Prop) r (fun d=>TR C Φ d cv) fun ts=>∃a ob,cv= .ref a∧h'.get? a=some ob∧jk "list" (TR C Φ) ts ob∧Φ a=none∧h.get? a=none
noncomputable def cD (C:Cx) (A:Around) (Φ:cj) (t:Sem Value) (s:Shared) (r:PV):Prop:=∀P:Value→Shared→Prop,(∀cv s' Φ',qN Φ s Φ' s'→PVR C Φ' s.heap s'.heap r cv→P cv s')→Wp C A t P s
inductive C0 (i:Int):Value→Prop
 | mk (t:Tok):C0 i (.int i t)
inductive FQ (i:Str):Value→Prop
 | mk (t:Tok):FQ i (.str i t)
inductive Ky (C:Cx) (Φ:cj) (h:Heap) (ts:List T):Value→Prop
 | mk {a:Addr} {items:Array Value} {n:Nat}:h.get? a=some (listOf items n)→eD C Φ ts items.toList→Ky C Φ h ts (.ref a)
inductive KP (C:Cx) (Φ:cj) (ts:List T):Value→Prop
 | mk {a:Addr} {items:Array Value} {n:Nat}:Φ a=some (gm items n)→eD C Φ ts items.toList→KP C Φ ts (.ref a)
inductive vi {β:Type} (C:Cx) (Φ:cj) (R2:β→Value→Prop) (h:Heap) (es:List (T×β)):Value→Prop
 | mk {a:Addr} {o:Obj}:(a==sysModules)=false→h.get? a=some o→cL C (TR C Φ) R2 es o→vi C Φ R2 h es (.ref a)
section
variable {C:Cx} {Φ:cj} {h:Heap} {cv:Value}
theorem TR.i {i:Int} (x:TR C Φ (.int i) cv):C0 i cv:=x.inv _ fun t=> .mk t
theorem TR.s {i:Str} (x:TR C Φ (.str i) cv):FQ i cv:=x.inv _ fun t=> .mk t
theorem TR.tp {ts:List T} (x:TR C Φ (.tup ts) cv):KP C Φ ts cv:=x.inv _ fun a o e s=>by cases s with | mk items n s=>exact .mk e s
theorem TR.ls {ts:List T} (sb:Sub Φ h) (x:TR C Φ (.lst ts) cv):Ky C Φ h ts cv:=by
 walk_at "a"
 exact x.inv _ fun a o e s=>by cases s with | mk items n s=>exact .mk (sb _ _ e) s
 walk_at "z"
theorem TR.dc {es:List (T×T)} (sb:Sub Φ h) (x:TR C Φ (.dct es) cv):vi C Φ (TR C Φ) h es cv:=x.inv _ fun a o ne e s=> .mk (beq_false_of_ne ne) (sb _ _ e) s
end
noncomputable def AT (C:Cx) (Φ:cj) (h:Heap) (d:T) (cv:Value):Prop:=T.casesOn (motive_1:=fun _=>Prop) d (TR C Φ d cv) (fun _=>TR C Φ d cv) (fun _=>TR C Φ d cv) (fun _=>TR C Φ d cv) (fun _=>TR C Φ d cv)
 (fun ts=>Ky C Φ h ts cv) (fun es=>vi C Φ (TR C Φ) h es cv) (fun _ _=>TR C Φ d cv) (fun _=>TR C Φ d cv)
abbrev ATs (C:Cx) (Φ:cj) (h:Heap):=bv (AT C Φ h)
theorem AT.of {C:Cx} {Φ:cj} {h:Heap} (sb:Sub Φ h) {d:T} {cv:Value} (x:TR C Φ d cv):AT C Φ h d cv:=by
 cases d with
 | lst ts=>exact x.ls sb
 | dct es=>exact x.dc sb
 | _=>exact x
section
variable {C:Cx} {Φ:cj} {h:Heap} {cv:Value}
theorem AT.i {i:Int} (x:AT C Φ h (.int i) cv):C0 i cv:=TR.i (C:=C) (Φ:=Φ) x
theorem AT.s {i:Str} (x:AT C Φ h (.str i) cv):FQ i cv:=TR.s (C:=C) (Φ:=Φ) x
theorem AT.tp {ts:List T} (x:AT C Φ h (.tup ts) cv):KP C Φ ts cv:=TR.tp x
theorem AT.l {ts:List T} (x:AT C Φ h (.lst ts) cv):Ky C Φ h ts cv:=x
theorem AT.d {es:List (T×T)} (x:AT C Φ h (.dct es) cv):vi C Φ (TR C Φ) h es cv:=x
end
structure FH (C:Cx) (Φ:cj) (h:Heap):Prop where
 base:lT C Φ
 sub:Sub Φ h
 tab:pY C Φ h
theorem bc.amb {C:Cx} {g:cj} {H:Hp} {p:Pt} (R:bc C g H p):FH C p.Φ p.s.heap:=⟨R.base,R.sub,R.tab⟩
structure eP (C:Cx) (f:Value→Value→Sem Value) (da db:T) (r:PV):Prop where
 go:∀(A:Around) (Φ:cj) (s:Shared) (ca cb:Value),lH 2 A→FH C Φ s.heap→AT C Φ s.heap da ca→AT C Φ s.heap db cb→cD C A Φ (f ca cb) s r
structure Op1 (C:Cx) (f:Value→Sem Value) (da:T) (r:PV):Prop where
 go:∀(A:Around) (Φ:cj) (s:Shared) (ca:Value),lH 2 A→FH C Φ s.heap→AT C Φ s.heap da ca→cD C A Φ (f ca) s r
structure fj (C:Cx) (f:Value) (ds:List T) (r:PV):Prop where
 go:∀(A:Around) (Φ:cj) (s:Shared) (cvs:List Value),lH 2 A→FH C Φ s.heap→ATs C Φ s.heap ds cvs→cD C A Φ (call f cvs []) s r
structure si (C:Cx) (da di:T) (r:PV):Prop where
 go:∀(A:Around) (Φ:cj) (s:Shared) (ca ci:Value) (value slice:Expr),lH 2 A→FH C Φ s.heap→AT C Φ s.heap da ca→TR C Φ di ci→(∀o i,∃ops,subscripted slice false o i=operate ops (getItem o i))→cD C A Φ (subscriptTail value slice ca ci) s r
structure gJ (C:Cx) (da:T) (lo hi st:Option Int) (r:PV):Prop where
 go:∀(A:Around) (Φ:cj) (s:Shared) (ca vl vu vs:Value) (sl:Addr) (value slice:Expr),lH 2 A→FH C Φ s.heap→AT C Φ s.heap da ca→s.heap.IsSliceOf sl vl vu vs→IsPart vl lo→IsPart vu hi→IsPart vs st→(∀o i,∃ops,subscripted slice false o i=operate ops (getItem o i))→cD C A Φ (subscriptTail value slice ca (.ref sl)) s r
structure kn (C:Cx) (id:String) (ts ds ts':List T) (r:T):Prop where
 go:∀(A:Around) (Φ:cj) (s:Shared) (a:Addr) (items:Array Value) (n:Nat) (cvs:List Value) (P:Value→Shared→Prop),lH 2 A→FH C Φ s.heap→s.heap.get? a=some (listOf items n)→eD C Φ ts items.toList→eD C Φ ds cvs→
  (∀cv s' items' n',eQ s s'→(∀b,b≠a→s'.heap.get? b=s.heap.get? b)→s'.heap.get? a=some (listOf items' n')→eD C Φ ts' items'.toList→TR C Φ r cv→P cv s')→Wp C A (call (.builtin id) (.ref a::cvs) []) P s
section
variable {C:Cx} {A:Around} {Φ:cj} {t:Sem Value} {s:Shared} {d:T}
theorem cD.of (sb:Sub Φ s.heap) (h:∀P:Value→Shared→Prop,(∀cv k,TR C Φ d cv→P cv {s with toks:=k})→Wp C A t P s):cD C A Φ t s (.t d):=
 fun P k=>h P fun cv tk x=>k cv _ Φ ⟨⟨_,_,rfl⟩,fun _ _ e=>e,Le.refl _,fun _ _=>rfl,sb⟩ x
theorem cD.ofS (sb:Sub Φ s.heap) (h:∀P:Value→Shared→Prop,(∀cv s',eQ s s'→(∀b o,s.heap.get? b=some o→s'.heap.get? b=some o)→TR C Φ d cv→P cv s')→Wp C A t P s):cD C A Φ t s (.t d):=
 fun P k=>h P fun cv s' sm kp x=>k cv s' Φ ⟨sm,kp,Le.refl _,fun _ _=>rfl,fun b o e=>kp _ _ (sb _ _ e)⟩ x
theorem cS (h:Heap):h.get? h.objs.size=none:=hY (aB _)
theorem eG {h:Heap} {a:Addr} (sb:Sub Φ h) (e:h.get? a=none):Φ a=none:=by
 walk_at "a"
 cases q:Φ a with
 | none=>rfl
 | some o=>rw [sb _ _ q] at e;cases e
 walk_at "z"
theorem cD.ofL {ts:List T} (sb:Sub Φ s.heap) (h:∀P:Value→Shared→Prop,(∀s' c' vs,eD C Φ ts vs.toList→eQ s s'→(∀b o,s.heap.get? b=some o→s'.heap.get? b=some o)→s'.heap.get? s.heap.objs.size=some (listOf vs c')→P (.ref s.heap.objs.size) s')→Wp C A t P s):cD C A Φ t s (.lst ts):=
 fun P k=>h P fun s' c' vs hr sm kp e=>k _ s' Φ ⟨sm,kp,Le.refl _,fun _ _=>rfl,fun b o e=>kp _ _ (sb _ _ e)⟩ ⟨_,_,rfl,e, .mk vs c' hr,eG sb (cS _),cS _⟩
theorem cD.new {ts:List T} {vs:Array Value} (sb:Sub Φ s.heap) (hr:eD C Φ ts vs.toList) (h:∀P:Value→Shared→Prop,P (.ref s.heap.objs.size) {s with heap:=s.heap.push (listOf vs 0)}→Wp C A t P s):cD C A Φ t s (.lst ts):=
 cD.ofL sb fun P k=>h P (k _ 0 vs hr ⟨_,_,rfl⟩ (fun b o e=>am _ e) (aC _ rfl))
theorem qN.tup {s':Shared} {ts:List T} {vs:Array Value} {a:Addr} {n:Nat} (sb:Sub Φ s.heap) (sm:eQ s s') (kp:∀b o,s.heap.get? b=some o→s'.heap.get? b=some o) (hn:s.heap.get? a=none) (hr:eD C Φ ts vs.toList) (e:s'.heap.get? a=some (gm vs n)) {P:Prop} (k:∀Φ',qN Φ s Φ' s'→TR C Φ' (.tup ts) (.ref a)→P):P:=by
 have l:=iz (o:=gm vs n) (eG sb hn)
 refine k _ ⟨sm,kp,l,fun b hb=>dX fun q=>hb (by rw [q];exact hn),fun b o q=>?_⟩ (.tup dj (.mk vs n (hr.imp fun _ _ _ x=>x.mono l)))
 by_cases z:b=a
 · subst z;exact e.trans (dj.symm.trans q)
 · exact kp _ _ (sb _ _ ((dX z).symm.trans q))
theorem cD.tup {ts:List T} {vs:Array Value} (sb:Sub Φ s.heap) (hr:eD C Φ ts vs.toList) (h:∀P:Value→Shared→Prop,P (.ref s.heap.objs.size) {s with heap:=s.heap.push (gm vs 0)}→Wp C A t P s):cD C A Φ t s (.t (.tup ts)):=
 fun P k=>h P (qN.tup (s':={s with heap:=s.heap.push (gm vs 0)}) sb ⟨_,_,rfl⟩ (fun b o e=>am _ e) (cS _) hr (aC _ rfl) fun Φ' G x=>k _ _ Φ' G x)
theorem cD.tr {y:Value} (sb:Sub Φ s.heap) (ht:TR C Φ d y) (h:∀P:Value→Shared→Prop,P y s→Wp C A t P s):cD C A Φ t s (.t d):=
 fun P k=>h P (k _ s Φ (.refl sb) ht)
theorem eD.size {ts:List T} {vs:Array Value} (h:eD C Φ ts vs.toList):ts.length=vs.size:=h.length.trans cV
theorem eP.ii {f:Value→Value→Sem Value} {a b:Int} (h:∀(A:Around) (s:Shared) (ta tb:Tok) (P:Value→Shared→Prop),(∀cv k,(∀Φ,TR C Φ d cv)→P cv {s with toks:=k})→Wp C A (f (.int a ta) (.int b tb)) P s):eP C f (.int a) (.int b) (.t d):=
 .mk fun A Φ s ca cb hA M ha hb=>by cases ha.i with | mk ta=>cases hb.i with | mk tb=>exact cD.of M.sub fun P k=>h A s ta tb P fun cv tk x=>k cv tk (x Φ)
theorem eP.ss {f:Value→Value→Sem Value} {a b:Str} (h:∀(A:Around) (s:Shared) (ta tb:Tok) (P:Value→Shared→Prop),(∀cv k,(∀Φ,TR C Φ d cv)→P cv {s with toks:=k})→Wp C A (f (.str a ta) (.str b tb)) P s):eP C f (.str a) (.str b) (.t d):=by
 walk_at "a"
 exact .mk fun A Φ s ca cb hA M ha hb=>by cases ha.s with | mk ta=>cases hb.s with | mk tb=>exact cD.of M.sub fun P k=>h A s ta tb P fun cv tk x=>k cv tk (x Φ)
 walk_at "z"
end
section
variable {C:Cx}
theorem Bq (i:Int) (t:Tok):∀Φ,TR C Φ (.int i) (.int i t):=fun _=> .int i t
theorem Eo (b:Bool):∀Φ,TR C Φ (.bool b) (.bool b):=fun _=> .bool b
theorem IL (a b:Int):eP C (binaryOp .Add) (.int a) (.int b) (.t (.int (a+b))):= .ii fun A s ta tb P h=>PySem.P.add_int (h _ _ (Bq _ _))
theorem K8 (a b:Int):eP C (binaryOp .Sub) (.int a) (.int b) (.t (.int (a - b))):= .ii fun A s ta tb P h=>PySem.P.sub_int (h _ _ (Bq _ _))
theorem GG (a b:Int):eP C (inplaceOp .Add) (.int a) (.int b) (.t (.int (a+b))):= .ii fun A s ta tb P h=>PySem.P.iadd_int (h _ _ (Bq _ _))
theorem GR (a b:Int):eP C (inplaceOp .Sub) (.int a) (.int b) (.t (.int (a - b))):= .ii fun A s ta tb P h=>PySem.P.isub_int (h _ _ (Bq _ _))
theorem JE (a b:Int) (hm:IntMulOk a b):eP C (binaryOp .Mult) (.int a) (.int b) (.t (.int (a*b))):= .ii fun A s ta tb P h=>PySem.P.mul_int (h _ _ (Bq _ _)) hm
theorem IW (a b:Int) (h0:b≠0) (hb':b.natAbs < 1073741824):eP C (binaryOp .FloorDiv) (.int a) (.int b) (.t (.int (a.fdiv b))):= .ii fun A s ta tb P h=>floordiv_int h0 (h _ _ (Bq _ _)) (.inl (PyProof.noPylong_small hb'))
theorem JC (a b:Int) (h0:b≠0):eP C (binaryOp .Mod) (.int a) (.int b) (.t (.int (a.fmod b))):= .ii fun A s ta tb P h=>PyProof.Rows.mod_int h0 (h _ _ (Bq _ _))
theorem K4 (a b:Int) (h0:0≤b):eP C (binaryOp .RShift) (.int a) (.int b) (.t (.int (a.fdiv (2 ^ b.toNat)))):= .ii fun A s ta tb P h=>rshift_int h0 (h _ _ (Bq _ _))
theorem IN (a b:Int):eP C (binaryOp .BitAnd) (.int a) (.int b) (.t (.int (Builtin.bitAnd a b))):= .ii fun A s ta tb P h=>and_int (h _ _ (Bq _ _))
theorem LC (a b:Int):eP C (binaryOp .BitOr) (.int a) (.int b) (.t (.int (Builtin.bitOr a b))):= .ii fun A s ta tb P h=>or_int (h _ _ (Bq _ _))
theorem JQ (a b:Int) (h0:0≤b) (h1:b≤1000000) (ha':a.natAbs < 2 ^ 64):eP C (binaryOp .Pow) (.int a) (.int b) (.t (.int (a ^ b.toNat))):= .ii fun A s ta tb P h=>pow_int_small h0 h1 ha' (h _ _ (Bq _ _))
theorem Lp (a b:Int):eP C (compareOp .Lt) (.int a) (.int b) (.t (.bool (decide (a < b)))):= .ii fun A s ta tb P h=>PySem.P.lt_int (h _ _ (Eo _))
theorem Ll (a b:Int):eP C (compareOp .LtE) (.int a) (.int b) (.t (.bool (decide (a≤b)))):= .ii fun A s ta tb P h=>PySem.P.le_int (h _ _ (Eo _))
theorem L6 (a b:Int):eP C (compareOp .Gt) (.int a) (.int b) (.t (.bool (decide (a > b)))):= .ii fun A s ta tb P h=>PySem.P.gt_int (h _ _ (Eo _))
theorem L5 (a b:Int):eP C (compareOp .GtE) (.int a) (.int b) (.t (.bool (decide (a≥b)))):= .ii fun A s ta tb P h=>PySem.P.ge_int (h _ _ (Eo _))
theorem L2 (a b:Int):eP C (compareOp .Eq) (.int a) (.int b) (.t (.bool (a==b))):= .ii fun A s ta tb P h=>PySem.P.eq_int (h _ _ (Eo _))
theorem Lv (a b:Int):eP C (compareOp .NotEq) (.int a) (.int b) (.t (.bool (a != b))):= .ii fun A s ta tb P h=>PySem.P.ne_int (h _ _ (Eo _))
theorem L4 (a b:Str):eP C (compareOp .Eq) (.str a) (.str b) (.t (.bool (a==b))):= .ss fun A s ta tb P h=>PyProof.Rows.eq_str (h _ _ (Eo _))
theorem Lw (a b:Str):eP C (compareOp .NotEq) (.str a) (.str b) (.t (.bool (a != b))):= .ss fun A s ta tb P h=>by
 first
  | exact PyProof.Rows.ne_str (h _ _ (Eo _))
  | exact PySem.P.ne_str (h _ _ (Eo _))
theorem JG (a:Int):Op1 C (unaryOp .USub) (.int a) (.t (.int (-a))):=by
 refine .mk fun A Φ s ca hA M ha=>?_
 cases ha.i with | mk t=>
 refine cD.of M.sub fun Q h=>?_
 first
  | exact PySem.P.neg_int (h _ _ (.int _ _))
  | exact PyProof.Rows.neg_int (h _ _ (.int _ _))
theorem gM {A:Around} {E:Value→Shared→Prop} {s:Shared} {value slice:Expr} {o i:Value} {T id:String} {Q:Value→Shared→Prop} (hT:s.TypeIs o T) (hl:typeLookup (.type T) "__getitem__"=pure (some (.builtin id))) (h:wpAny (model C.prog C.w) A (getItem o i) Q E s)
 (hs:∀o i,∃ops,subscripted slice false o i=operate ops (getItem o i)):wpAny (model C.prog C.w) A (subscriptTail value slice o i) Q E s:=by
 walk_at "a"
 unfold subscriptTail
 refine wpAny_bind ?_
 rw [getitemInPython_of_ne hT.not_modules]
 refine wpAny_bind (wpAny_specialOf hT hl ?_)
 have fin:wpAny (model C.prog C.w) A (subscripted slice false o i) (fun r s₃=>wpAny (model C.prog C.w) A (letTemporaryGo value o r >>=fun _=>pure r) Q E s₃) E s:=by
  obtain⟨ops,e⟩:=hs o i
  rw [e]
  exact wpAny_operating (wpAny_mono h (fun r s₃ h₃=>wpAny_bind (wpAny_letTemporaryGo (wpAny_pure h₃))) fun _ _ x=>x)
 first
  | exact wpAny_pure (wpAny_bind fin)
  | exact wpAny_bind (wpAny_pure (wpAny_bind fin))
  | exact wpAny_bind fin
 walk_at "z"
theorem cA {h:Heap} {a:Addr} {items:Array Value} {n:Nat} (e:h.get? a=some (listOf items n)):h.IsList a items:=⟨_,e,rfl,_,rfl⟩
theorem nh {h:Heap} {a:Addr} {items:Array Value} {n:Nat} (e:h.get? a=some (gm items n)):IsTup h a items:=⟨_,e,rfl,_,rfl⟩
theorem Bu:sizeLine=16777216:=by decide
theorem D5 {ts:List T} {i:Int} {d:T} (h0:0≤i) (h1:i < 2 ^ 63) (hd:ts[i.toNat]? =some d):si C (.lst ts) (.int i) (.t d):=by
 walk_at "a"
 refine .mk fun A Φ s ca ci value slice hA M ha hi hs=>?_
 cases ha.l with | mk h hr=>
 cases hi.i with | mk t=>
 exact hr.get hd fun y hy ht=>cD.tr M.sub ht fun Q hq=>gM (cA h).typeIs slot_list_getitem.lookup (wpAny_getItem_list (cA h) h0 h1 (by rw [←aY];exact hy) hq) hs
 walk_at "z"
theorem D6 {ts:List T} {i:Int} {d:T} (h0:i < 0) (h2: -(ts.length:Int)≤i) (h1: -(2 ^ 63)≤i) (hd:ts[(i+ts.length).toNat]? =some d):si C (.lst ts) (.int i) (.t d):=by
 walk_at "a"
 refine .mk fun A Φ s ca ci value slice hA M ha hi hs=>?_
 cases ha.l with | mk h hr=>
 cases hi.i with | mk t=>
 exact hr.get hd fun y hy ht=>cD.tr M.sub ht fun Q hq=>gM (cA h).typeIs slot_list_getitem.lookup (wpAny_getItem_list_neg (cA h) h0 (by rw [←hr.size];exact h2) h1 (by rw [←hr.size,←aY];exact hy) hq) hs
 walk_at "z"
theorem D7 {ts:List T} {i:Int} {d:T} (h0:0≤i) (h1:i < 2 ^ 63) (hd:ts[i.toNat]? =some d):si C (.tup ts) (.int i) (.t d):=by
 refine .mk fun A Φ s ca ci value slice hA M ha hi hs=>?_
 cases ha.tp with | @mk a items n h hr=>
 cases hi.i with | mk t=>
 refine hr.get hd fun y hy ht=>?_
 have hl:i < items.size:=by
  have:=(bM.mp hy).1
  rw [cV] at this
  omega
 exact cD.tr M.sub ht fun Q hq=>gM (nh (M.sub _ _ h)).typeIs slot_tuple_getitem.lookup (PyProof.Rows.getItem_tuple (nh (M.sub _ _ h)) (by omega) (by omega) (seqIndex_of h0 hl) (by rw [←aY];exact hy) hq) hs
noncomputable def cJ (ts:List T) (lo hi:Option Int):List T:=(ts.drop (kms_lo lo ts.length)).take (kms_hi hi ts.length - kms_lo lo ts.length)
theorem yn {ts:List T} {lo hi:Option Int} (hz:ts.length≤sizeLine):gJ C (.lst ts) lo hi none (.lst (cJ ts lo hi)):=by
 refine .mk fun A Φ s ca vl vu vs sl value slice hA M ha hsl h1 h2 h3 hs=>?_
 cases ha.l with | @mk a items n h hr=>
 refine cD.new M.sub (vs:=slicePick items lo hi none) ?_ fun Q hq=>gM (cA h).typeIs slot_list_getitem.lookup (wpAny_getItem_list_slice (cA h) hsl h1 h2 h3 nofun hq (by rw [←hr.size];exact hz)) hs
 rw [kms_pick_eq]
 have:=(hr.drop (kms_lo lo ts.length)).take (kms_hi hi ts.length - kms_lo lo ts.length)
 unfold kms_pick cJ
 simpa [hr.size] using this
theorem qF {ts:List T} (hz:ts.length≤sizeLine):gJ C (.lst ts) none none (some (-1)) (.lst ts.reverse):=by
 refine .mk fun A Φ s ca vl vu vs sl value slice hA M ha hsl h1 h2 h3 hs=>?_
 cases ha.l with | @mk a items n h hr=>
 refine cD.new M.sub (vs:=slicePick items none none (some (-1))) ?_ fun Q hq=>gM (cA h).typeIs slot_list_getitem.lookup (wpAny_getItem_list_slice (cA h) hsl h1 h2 h3 (by decide) hq (by rw [←hr.size];exact hz)) hs
 rw [krv_pick]
 exact hr.reverse
theorem fS {xs ys:List T} (hz:xs.length+ys.length≤sizeLine):eP C (binaryOp .Add) (.lst xs) (.lst ys) (.lst (xs++ys)):=by
 walk_at "a"
 refine .mk fun A Φ s ca cb hA M ha hb=>?_
 cases ha.l with | @mk a items n h hr=>
 cases hb.l with | @mk b items2 n2 h2 hr2=>
 exact cD.new M.sub (vs:=items++items2) (by rw [dY];exact hr.append hr2) fun Q hq=>PySem.P.add_list h h2 hq (by rw [←hr.size,←hr2.size];exact hz)
 walk_at "z"
noncomputable def T.isNone (d:T):Bool:=T.casesOn (motive_1:=fun _=>Bool) d true (fun _=>false) (fun _=>false) (fun _=>false) (fun _=>false) (fun _=>false) (fun _=>false) (fun _ _=>false) fun _=>false
noncomputable def T.isRaw (d:T):Bool:=T.casesOn (motive_1:=fun _=>Bool) d false (fun _=>false) (fun _=>false) (fun _=>false) (fun _=>false) (fun _=>false) (fun _=>false) (fun _ _=>false) fun _=>true
theorem AT.plain {Φ:cj} {h:Heap} {d:T} {cv:Value} (x:AT C Φ h d cv) (hd:d.isRaw=false):plainIs cv .none=true∧(d.isNone=true∧cv= .none∨d.isNone=false∧cv≠ .none):=by
 walk_at "a"
 cases d with
 | none=>cases (show cv= .none from x);exact⟨rfl, .inl ⟨rfl,rfl⟩⟩
 | bool b=>cases (show cv= .bool b from x);exact⟨rfl, .inr ⟨rfl,nofun⟩⟩
 | int i=>cases x.i;exact⟨rfl, .inr ⟨rfl,nofun⟩⟩
 | str i=>cases x.s;exact⟨rfl, .inr ⟨rfl,nofun⟩⟩
 | raw w=>cases hd
 | tup ts=>cases x.tp;exact⟨rfl, .inr ⟨rfl,nofun⟩⟩
 | lst ts=>cases x.l;exact⟨rfl, .inr ⟨rfl,nofun⟩⟩
 | dct ts=>cases x.d;exact⟨rfl, .inr ⟨rfl,nofun⟩⟩
 | inst Cl ts=>obtain⟨a,_,_,_,_,rfl,_⟩:=x;exact⟨rfl, .inr ⟨rfl,nofun⟩⟩
 walk_at "z"
end
section
variable {α β γ δ:Type} {R:α→β→Prop}
theorem bv.find {p:α→Bool} {q:β→Bool} {l:List α} {m:List β} (x:bv R l m) (h:∀a b,R a b→p a=q b) {P:Option α→Option β→Prop} (k1:∀a b,R a b→P (some a) (some b)) (k2:P none none):P (l.find? p) (m.find? q):=by
 induction x with
 | nil=>exact k2
 | @cons a b as bs r _ ih=>
  rw [fX,fX,←h a b r]
  cases p a with
  | true=>exact k1 a b r
  | false=>exact ih
theorem bv.any {p:α→Bool} {q:β→Bool} {l:List α} {m:List β} (x:bv R l m) (h:∀a b,R a b→p a=q b):l.any p=m.any q:=by
 induction x with
 | nil=>rfl
 | cons r _ ih=>rw [hO,hO,h _ _ r,ih]
theorem bv.mapp {R':γ→δ→Prop} {f:α→γ} {g:β→δ} {l:List α} {m:List β} (x:bv R l m) (h:∀a b,R a b→R' (f a) (g b)):bv R' (l.map f) (m.map g):=by
 induction x with
 | nil=>exact .nil
 | cons r _ ih=>exact .cons (h _ _ r) ih
theorem bv.keys {f:α→γ} {g:β→γ} {l:List α} {m:List β} (x:bv R l m) (h:∀a b,R a b→g b=f a):m.map g=l.map f:=by
 induction x with
 | nil=>rfl
 | cons r _ ih=>rw [bp,bp,ih,h _ _ r]
theorem mJ {f:α→γ} {l:List α} (h:(l.map f).Nodup):l.Nodup:=by
 induction l with
 | nil=>exact eg
 | cons a r ih=>
  rw [bp,bX] at h
  exact bX.mpr ⟨fun q=>h.1 (aP.mpr ⟨a,q,rfl⟩),ih h.2⟩
theorem qA {f:α→γ} {l:List α} (hi:∀a∈l,∀b∈l,f a=f b→a=b) (h:l.Nodup):(l.map f).Nodup:=by
 induction l with
 | nil=>exact eg
 | cons a r ih=>
  rw [bX] at h
  refine bX.mpr ⟨fun q=>?_,ih (fun a ha b hb=>hi a (.tail _ ha) b (.tail _ hb)) h.2⟩
  obtain⟨b,hb,e⟩:=aP.mp q
  exact h.1 (hi b (.tail _ hb) a (.head _) e▸hb)
end
inductive KS where
 | int | str | tup
section
noncomputable def T.cs {α:Type} (d:T) (z:α) (fi:Int→α) (fs:Str→α) (ft:List T→α):α:=T.casesOn (motive_1:=fun _=>α) d z (fun _=>z) fi fs ft (fun _=>z) (fun _=>z) (fun _ _=>z) fun _=>z
noncomputable def lY (d:T):Bool:=d.cs false (fun _=>true) (fun _=>false) fun _=>false
noncomputable def dg (ks:KS) (d:T):Bool:=KS.casesOn (motive:=fun _=>Bool) ks (lY d) (d.cs false (fun _=>false) (fun _=>true) fun _=>false) (d.cs false (fun _=>false) (fun _=>false) fun ts=>ts.all lY)
noncomputable def gy (d d':T):Bool:=d.cs false (fun a=>d'.cs false (fun b=>decide (a=b)) (fun _=>false) fun _=>false) (fun a=>d'.cs false (fun _=>false) (fun b=>decide (a=b)) fun _=>false) fun a=>d'.cs false (fun _=>false) (fun _=>false) fun b=>decide (a.map T.toInt=b.map T.toInt)
noncomputable def eE {α:Type} (es:List (T×α)) (k:T):Option α:=(es.find? fun e=>gy e.1 k).map (·.2)
noncomputable def gu {α:Type} (es:List (T×α)) (k:T) (v:α):List (T×α):=if es.any (fun e=>gy e.1 k) then es.map (fun e=>if gy e.1 k then(e.1,v) else e) else es++[(k,v)]
noncomputable def cR {α:Type} (ks:KS) (es:List (T×α)):Bool:=es.all fun e=>dg ks e.1
end
structure VK (C:Cx) (K:Type) [DecidableEq K] where
 knd:KeyKind C.prog C.w K
 toK:T→K
 ok:T→Bool
 is:∀{Φ:cj} {d:T} {v:Value},ok d=true→TR C Φ d v→knd.is (toK d) v=true
 back:∀{Φ:cj} {d:T} {v:Value},ok d=true→knd.is (toK d) v=true→TR C Φ d v
 hash:∀{d:T},ok d=true→qr C d=knd.hash (toK d)
 eq:∀{d d':T},ok d=true→ok d'=true→gy d d'=decide (toK d=toK d')
 inj:∀{d d':T},ok d=true→ok d'=true→toK d=toK d'→d=d'
noncomputable def T.toStr (d:T):Str:=d.cs Str.empty (fun _=>Str.empty) (fun s=>s) fun _=>Str.empty
theorem eF {d:T} (h:dg .int d=true):∃i,d= .int i:=by
 walk_at "a"
 cases d <;> first | exact⟨_,rfl⟩ | cases h
 walk_at "z"
theorem gS {d:T} (h:dg .str d=true):∃i,d= .str i:=by
 walk_at "a"
 cases d <;> first | exact⟨_,rfl⟩ | cases h
 walk_at "z"
theorem gT {d:T} (h:dg .tup d=true):∃ts,d= .tup ts∧ts.all lY=true:=by
 walk_at "a"
 cases d <;> first | exact⟨_,rfl,h⟩ | cases h
 walk_at "z"
noncomputable def BC (C:Cx):VK C Int where
 knd:=intKind C.prog C.w
 toK:=T.toInt
 ok:=dg .int
 is:=fun h x=>by obtain⟨i,rfl⟩:=eF h;cases x.i;exact beq_self_eq_true i
 back:=fun h x=>by obtain⟨i,rfl⟩:=eF h;obtain⟨t,rfl⟩:=Value.isInt_shape x;exact .int _ _
 hash:=fun h=>by obtain⟨i,rfl⟩:=eF h;rfl
 eq:=fun h h'=>by obtain⟨i,rfl⟩:=eF h;obtain⟨j,rfl⟩:=eF h';rfl
 inj:=fun h h' e=>by obtain⟨i,rfl⟩:=eF h;obtain⟨j,rfl⟩:=eF h';exact congrArg T.int e
noncomputable def Ew (C:Cx):VK C Str where
 knd:=PySem.strKind C.prog C.w
 toK:=T.toStr
 ok:=dg .str
 is:=fun h x=>by obtain⟨i,rfl⟩:=gS h;cases x.s;exact decide_eq_true rfl
 back:=fun h x=>by obtain⟨i,rfl⟩:=gS h;obtain⟨t,rfl⟩:=Value.isStrOf_shape x;exact .str _ _
 hash:=fun h=>by obtain⟨i,rfl⟩:=gS h;rfl
 eq:=fun h h'=>by obtain⟨i,rfl⟩:=gS h;obtain⟨j,rfl⟩:=gS h';rfl
 inj:=fun h h' e=>by obtain⟨i,rfl⟩:=gS h;obtain⟨j,rfl⟩:=gS h';exact congrArg T.str e
section
variable {C:Cx} {β:Type} {R2:β→Value→Prop} {Φ:cj} {h:Heap} {es:List (T×β)}
noncomputable def hX (d:T):List Int:=d.cs [] (fun _=>[]) (fun _=>[]) fun ts=>ts.map T.toInt
theorem rg {ts:List T} (h:ts.all lY=true):ts=(ts.map T.toInt).map .int:=by
 induction ts with
 | nil=>rfl
 | cons d r ih=>
  rw [hJ,h9] at h
  obtain⟨i,rfl⟩:=eF h.1
  exact congrArg (T.int i:: ·) (ih h.2)
theorem xD {ts:List T} {vs:List Value} (x:eD C Φ ts vs) (hk:ts.all lY=true):ItemsAre (intKind C.prog C.w) (ts.map T.toInt) vs:=by
 induction x with
 | nil=>exact .nil
 | cons r _ ih=>
  rw [hJ,h9] at hk
  exact .cons ((BC C).is hk.1 r) (ih hk.2)
theorem Bt {d d':T} (h:dg .tup d=true) (h':dg .tup d'=true) (e:hX d=hX d'):d=d':=by
 obtain⟨a,rfl,ha⟩:=gT h
 obtain⟨b,rfl,hb⟩:=gT h'
 exact congrArg T.tup ((rg ha).trans ((congrArg (dL T.int) e).trans (rg hb).symm))
theorem sL {d:T} (h:dg .tup d=true):qr C d=tupleKeyHash (intKind C.prog C.w) (hX d):=by obtain⟨a,rfl,_⟩:=gT h;rfl
theorem ni {d d':T} (h:dg .tup d=true) (h':dg .tup d'=true):gy d d'=decide (hX d=hX d'):=by
 obtain⟨a,rfl,_⟩:=gT h;obtain⟨b,rfl,_⟩:=gT h';rfl
theorem wD (sb:Sub Φ h) {d:T} {cv:Value} (hk:dg .tup d=true) (x:TR C Φ d cv):∃a,cv= .ref a∧IsTupleKey (intKind C.prog C.w) h (hX d) a:=by
 walk_at "a"
 obtain⟨ts,rfl,hk⟩:=gT hk
 cases x.tp with | mk h1 h2=>exact⟨_,rfl,_,_,_,sb _ _ h1,rfl,rfl,xD h2 hk⟩
 walk_at "z"
inductive vj {K:Type} [DecidableEq K] (vk:VK C K) (R2:β→Value→Prop) (e:T×β):K×Value→Prop
 | mk {v:Value}:vk.ok e.1=true→R2 e.2 v→vj vk R2 e (vk.toK e.1,v)
inductive yM (C:Cx) (Φ:cj) (R2:β→Value→Prop) (e:T×β):List Int×Addr×Value→Prop
 | mk {a:Addr} {v:Value}:dg .tup e.1=true→TR C Φ e.1 (.ref a)→R2 e.2 v→yM C Φ R2 e (hX e.1,a,v)
theorem vj.key {K:Type} [DecidableEq K] {vk:VK C K} {e:T×β} {kv:K×Value} (x:vj vk R2 e kv):kv.1=vk.toK e.1:=by cases x;rfl
theorem yM.key {e:T×β} {kv:List Int×Addr×Value} (x:yM C Φ R2 e kv):kv.1=hX e.1:=by
 walk_at "a"
 cases x;rfl
 walk_at "z"
theorem vj.eq {K:Type} [DecidableEq K] {vk:VK C K} {e:T×β} {kv:K×Value} (x:vj vk R2 e kv) {k:T} (hk:vk.ok k=true):gy e.1 k=decide (kv.1=vk.toK k):=by cases x with | mk a b=>exact vk.eq a hk
theorem yM.eq {e:T×β} {kv:List Int×Addr×Value} (x:yM C Φ R2 e kv) {k:T} (hk:dg .tup k=true):gy e.1 k=decide (kv.1=hX k):=by
 walk_at "a"
 cases x with | mk a b=>exact ni a hk
 walk_at "z"
theorem dictOf {K:Type} [DecidableEq K] (vk:VK C K) {a:Addr} {o:Obj} (e:h.get? a=some o) (x:cL C (TR C Φ) R2 es o) (hk:es.all (fun e=>vk.ok e.1)=true):∃kvs,h.DictOf vk.knd a kvs∧bv (vj vk R2) es kvs:=by
 walk_at "a"
 cases x with | mk arr n h2 h3 h4 h5=>
 have key:∀{es:List (T×β)} {l:List DictEntry},bv (E2 C (TR C Φ) R2) es l→es.all (fun e=>vk.ok e.1)=true→∃kvs,Pairs vk.knd l kvs∧bv (vj vk R2) es kvs∧∀e∈l,∃k,vk.knd.is k e.key=true∧e.hash=vk.knd.hash k:=by
  intro es l hd
  clear h5 hk h4
  induction hd with
  | nil=>exact fun _=>⟨[], .nil, .nil,fun _ h=>nomatch h⟩
  | cons r _ ih=>
   intro hk
   rw [hJ,h9] at hk
   obtain⟨kvs,b1,b2,b3⟩:=ih hk.2
   cases r with | mk a1 a2 a3=>
   refine⟨_, .cons (vk.is hk.1 a1) rfl b1, .cons (.mk hk.1 a3) b2,fun y hy=>?_⟩
   cases hy with
   | head=>exact⟨_,vk.is hk.1 a1,a2.trans (vk.hash hk.1)⟩
   | tail _ hy=>exact b3 y hy
 obtain⟨kvs,b1,b2,b3⟩:=key h4 hk
 refine⟨kvs,⟨o,arr,n,e,h2,h3,fun e he=>b3 e (Array.mem_toList_iff.mpr he),b1,?_⟩,b2⟩
 rw [b2.keys (f:=fun e=>vk.toK e.1) fun _ _ r=>r.key,show(fun e:T×β=>vk.toK e.1)=vk.toK ∘ (·.1) from rfl,←aO]
 refine qA (fun a ha b hb e=>?_) h5
 obtain⟨a',ha',rfl⟩:=aP.mp ha
 obtain⟨b',hb',rfl⟩:=aP.mp hb
 exact vk.inj (aj.mp hk a' ha') (aj.mp hk b' hb') e
 walk_at "z"
theorem nP {K:Type} [DecidableEq K] (vk:VK C K) {a:Addr} {kvs:List (K×Value)} (x:h.DictOf vk.knd a kvs) (r:bv (vj vk R2) es kvs):∃o,h.get? a=some o∧cL C (TR C Φ) R2 es o:=by
 walk_at "a"
 obtain⟨o,arr,n,h1,h2,h3,h4,h5,h6⟩:=x
 refine⟨o,h1, .mk arr n h2 h3 ?_ ?_⟩
 · have h4':∀e∈arr.toList,∃k,vk.knd.is k e.key=true∧e.hash=vk.knd.hash k:=fun e he=>h4 e (Array.mem_toList_iff.mp he)
   generalize arr.toList=l at h5 h4'
   clear h1 h3 h6 h4
   induction h5 generalizing es with
   | nil=>cases r;exact .nil
   | @cons e kv l kvs a1 a2 a3 ih=>
    cases r with | cons r t=>
    cases r with | mk q1 q3=>
    obtain⟨k,k1,k2⟩:=h4' e (.head _)
    exact .cons (.mk (vk.back q1 a1) (by rw [k2,vk.knd.inj _ _ _ k1 a1,vk.hash q1]) (by rw [a2];exact q3)) (ih t fun y hy=>h4' y (.tail _ hy))
 · rw [r.keys (f:=fun e=>vk.toK e.1) fun _ _ r=>r.key,show(fun e:T×β=>vk.toK e.1)=vk.toK ∘ (·.1) from rfl,←aO] at h6
   exact mJ h6
 walk_at "z"
theorem CP (sb:Sub Φ h) {a:Addr} {o:Obj} (e:h.get? a=some o) (x:cL C (TR C Φ) R2 es o) (hk:cR .tup es=true):∃xs,h.DictOfH (tupleKind (intKind C.prog C.w)) a xs∧bv (yM C Φ R2) es xs:=by
 walk_at "a"
 cases x with | mk arr n h2 h3 h4 h5=>
 have key:∀{es:List (T×β)} {l:List DictEntry},bv (E2 C (TR C Φ) R2) es l→cR .tup es=true→∃xs,l=xs.map (entryOfKey (tupleKind (intKind C.prog C.w)))∧bv (yM C Φ R2) es xs∧∀x∈xs,IsTupleKey (intKind C.prog C.w) h x.1 x.2.1:=by
  intro es l hd
  clear h5 hk h4
  induction hd with
  | nil=>exact fun _=>⟨[],rfl, .nil,fun _ h=>nomatch h⟩
  | @cons a b _ _ r _ ih=>
   intro hk
   unfold cR at hk
   rw [hJ,h9] at hk
   obtain⟨xs,b1,b2,b3⟩:=ih hk.2
   cases r with | mk a1 a2 a3=>
   obtain⟨ka,e1,e2⟩:=wD sb hk.1 a1
   obtain⟨eh,ek,ev⟩:=b
   dsimp only at e1 a2 a3
   subst e1
   refine⟨(hX a.1,ka,ev)::xs,?_, .cons (.mk hk.1 a1 a3) b2,fun y hy=>?_⟩
   · rw [bp,←b1,a2,sL hk.1];rfl
   · cases hy with
     | head=>exact e2
     | tail _ hy=>exact b3 y hy
 obtain⟨xs,b1,b2,b3⟩:=key h4 hk
 refine⟨xs,⟨o,arr,n,e,h2,h3,b1,b3,?_⟩,b2⟩
 rw [b2.keys (f:=fun e=>hX e.1) fun _ _ r=>r.key,show(fun e:T×β=>hX e.1)=hX ∘ (·.1) from rfl,←aO]
 refine qA (fun a ha b hb e=>?_) h5
 obtain⟨a',ha',rfl⟩:=aP.mp ha
 obtain⟨b',hb',rfl⟩:=aP.mp hb
 exact Bt (aj.mp hk a' ha') (aj.mp hk b' hb') e
 walk_at "z"
theorem qX {a:Addr} {xs:List (List Int×Addr×Value)} (x:h.DictOfH (tupleKind (intKind C.prog C.w)) a xs) (r:bv (yM C Φ R2) es xs):∃o,h.get? a=some o∧cL C (TR C Φ) R2 es o:=by
 walk_at "a"
 obtain⟨o,arr,n,h1,h2,h3,h4,h5,h6⟩:=x
 refine⟨o,h1, .mk arr n h2 h3 ?_ ?_⟩
 · rw [h4]
   clear h4 h5 h6
   induction r with
   | nil=>exact .nil
   | cons r _ ih=>cases r with | mk q1 q3 q4=>exact .cons (.mk q3 (by rw [sL q1];rfl) q4) ih
 · rw [r.keys (f:=fun e=>hX e.1) fun _ _ r=>r.key,show(fun e:T×β=>hX e.1)=hX ∘ (·.1) from rfl,←aO] at h6
   exact mJ h6
 walk_at "z"
theorem mS {K:Type} [DecidableEq K] {vk:VK C K} {kvs:List (K×Value)} (r:bv (vj vk R2) es kvs) {k:T} (hk:vk.ok k=true) {P:Option β→Option Value→Prop} (k1:∀w v,R2 w v→P (some w) (some v)) (k2:P none none):P (eE es k) (valueAt kvs (vk.toK k)):=by
 show P ((es.find? _).map _) ((kvs.find? _).map _)
 exact r.find (p:=fun e=>gy e.1 k) (q:=fun kv=>decide (kv.1=vk.toK k)) (fun _ _ x=>x.eq hk) (P:=fun x y=>P (x.map (·.2)) (y.map (·.2))) (fun a b x=>by cases x with | mk _ x=>exact k1 _ _ x) k2
theorem mR {xs:List (List Int×Addr×Value)} (r:bv (yM C Φ R2) es xs) {k:T} (hk:dg .tup k=true) {P:Option β→Option (Addr×Value)→Prop} (k1:∀w v,R2 w v.2→P (some w) (some v)) (k2:P none none):P (eE es k) (atKey xs (hX k)):=by
 walk_at "a"
 show P ((es.find? _).map _) ((xs.find? _).map _)
 exact r.find (p:=fun e=>gy e.1 k) (q:=fun kv=>decide (kv.1=hX k)) (fun _ _ x=>x.eq hk) (P:=fun x y=>P (x.map (·.2)) (y.map (·.2))) (fun a b x=>by cases x with | mk _ _ x=>exact k1 _ _ x) k2
 walk_at "z"
theorem wq {K:Type} [DecidableEq K] {vk:VK C K} {kvs:List (K×Value)} (r:bv (vj vk R2) es kvs) {k:T} {w:β} {v:Value} (hk:vk.ok k=true) (hv:R2 w v):bv (vj vk R2) (gu es k w) (stored kvs (vk.toK k) v):=by
 unfold gu stored
 rw [r.any (p:=fun e=>gy e.1 k) (q:=fun kv=>decide (kv.1=vk.toK k)) fun _ _ x=>x.eq hk]
 split
 · refine r.mapp fun e kv x=>?_
   cases x with | @mk v' a b=>
   rw [vk.eq a hk]
   by_cases q:vk.toK e.1=vk.toK k
   · rw [if_pos (decide_eq_true q),if_pos q];exact .mk (e:=(e.1,w)) a hv
   · rw [if_neg (fun z=>q (of_decide_eq_true z)),if_neg q];exact .mk a b
 · exact r.append (.cons (.mk (e:=(k,w)) hk hv) .nil)
theorem DX {xs:List (List Int×Addr×Value)} (r:bv (yM C Φ R2) es xs) {k:T} {w:β} {ka:Addr} {v:Value} (hk:dg .tup k=true) (hka:TR C Φ k (.ref ka)) (hv:R2 w v):bv (yM C Φ R2) (gu es k w) (storedH xs (hX k) ka v):=by
 walk_at "a"
 have e2:(atKey xs (hX k)).isSome=xs.any fun x=>decide (x.1=hX k):=by
  unfold atKey
  rw [Option.isSome_map,Bool.eq_iff_iff,List.find?_isSome,jT]
 unfold gu storedH
 rw [e2,r.any (p:=fun e=>gy e.1 k) (q:=fun kv=>decide (kv.1=hX k)) fun _ _ x=>x.eq hk]
 split
 · refine r.mapp fun e kv x=>?_
   cases x with | @mk a' v' a b c=>
   rw [ni a hk]
   unfold putAt
   by_cases q:hX e.1=hX k
   · rw [if_pos (decide_eq_true q),if_pos q];exact .mk (e:=(e.1,w)) a b hv
   · rw [if_neg (fun z=>q (of_decide_eq_true z)),if_neg q];exact .mk a b c
 · exact r.append (.cons (.mk (e:=(k,w)) hk hka hv) .nil)
 walk_at "z"
end
section
variable {C:Cx} {A:Around} {E:Value→Shared→Prop} {s:Shared} {Φ:cj} {β:Type} {R2:β→Value→Prop} {cv:Value} {es:List (T×β)} {ks:KS} {k:T} {key:Value}
inductive yT (C:Cx) (A:Around) (Φ:cj) (R2:β→Value→Prop) (s:Shared) (es:List (T×β)) (k:T) (key:Value) (a:Addr):Prop
 | val (K:Type) (_:DecidableEq K) (vk:VK C K) (kvs:List (K×Value)):vk.ok k=true→vk.knd.is (vk.toK k) key=true→s.heap.DictOf vk.knd a kvs→bv (vj vk R2) es kvs→yT C A Φ R2 s es k key a
 | adr (ka:Addr) (xs:List (List Int×Addr×Value)):dg .tup k=true→key= .ref ka→TR C Φ k (.ref ka)→(tupleKind (intKind C.prog C.w)).is s.heap (hX k) ka→(tupleKind (intKind C.prog C.w)).room A.in1→s.heap.DictOfH (tupleKind (intKind C.prog C.w)) a xs→bv (yM C Φ R2) es xs→yT C A Φ R2 s es k key a
theorem vi.face (x:vi C Φ R2 s.heap es cv) (sb:Sub Φ s.heap) {n:Nat} (hu:lH n A) (hes:cR ks es=true) (hk:dg ks k=true) (hkey:TR C Φ k key):∃a,cv= .ref a∧(a==sysModules)=false∧s.TypeIs (.ref a) "dict"∧yT C A Φ R2 s es k key a:=by
 walk_at "a"
 cases x with | @mk a o ne e d=>
 have ty:s.TypeIs (.ref a) "dict":=by cases d with | mk _ _ h _ _ _=>exact⟨o,e,h.1⟩
 cases ks with
 | int=>obtain⟨kvs,b1,b2⟩:=dictOf (BC C) e d hes;exact⟨a,rfl,ne,ty, .val Int _ (BC C) kvs hk ((BC C).is hk hkey) b1 b2⟩
 | str=>obtain⟨kvs,b1,b2⟩:=dictOf (Ew C) e d hes;exact⟨a,rfl,ne,ty, .val Str _ (Ew C) kvs hk ((Ew C).is hk hkey) b1 b2⟩
 | tup=>
  obtain⟨xs,b1,b2⟩:=CP sb e d hes
  obtain⟨ka,e1,q⟩:=wD sb hk hkey
  subst e1
  exact⟨a,rfl,ne,ty, .adr ka xs hk rfl hkey q (tupleKind_room_in1 (by have:=hu.2.2;omega)) b1 b2⟩
 walk_at "z"
theorem mT {α β:Type} {a:Option α} {b:Option β} (h:a.isSome=b.isSome) {Q:Bool→Prop} (q:Q b.isSome):Q a.isSome:=h▸q
theorem EP {Q:Value→Shared→Prop} (x:vi C Φ R2 s.heap es cv) (sb:Sub Φ s.heap) {n:Nat} (hu:lH n A) (hes:cR ks es=true) (hk:dg ks k=true) (hkey:TR C Φ k key)
 (h:∀tk,Q (.bool (eE es k).isSome) {s with toks:=tk}):wpAny (model C.prog C.w) A (compareOp .In key cv) Q E s:=by
 obtain⟨a,rfl,ne,_,f⟩:=x.face sb hu hes hk hkey
 cases f with
 | val K _ vk kvs ok is d r=>exact wpAny_in_of is ne d.mapOf (mT (Q:=fun b=>Q (.bool b) _) (mS r ok (P:=fun x y=>y.isSome=x.isSome) (fun _ _ _=>rfl) rfl) (h _))
 | adr ka xs hk e _ is rm d r=>subst e;exact wpAny_in_heap rm is ne d (mT (Q:=fun b=>Q (.bool b) _) (mR r hk (P:=fun x y=>y.isSome=x.isSome) (fun _ _ _=>rfl) rfl) (h _))
theorem sA {Q:Value→Shared→Prop} (x:vi C Φ R2 s.heap es cv) (sb:Sub Φ s.heap) {n:Nat} (hu:lH n A) (hes:cR ks es=true) (hk:dg ks k=true) (hkey:TR C Φ k key)
 (h:∀tk,Q (.bool (!(eE es k).isSome)) {s with toks:=tk}):wpAny (model C.prog C.w) A (compareOp .NotIn key cv) Q E s:=by
 obtain⟨a,rfl,ne,_,f⟩:=x.face sb hu hes hk hkey
 cases f with
 | val K _ vk kvs ok is d r=>exact wpAny_notIn_of is ne d.mapOf (mT (Q:=fun b=>Q (.bool !b) _) (mS r ok (P:=fun x y=>y.isSome=x.isSome) (fun _ _ _=>rfl) rfl) (h _))
 | adr ka xs hk e _ is rm d r=>subst e;exact wpAny_notIn_heap rm is ne d (mT (Q:=fun b=>Q (.bool !b) _) (mR r hk (P:=fun x y=>y.isSome=x.isSome) (fun _ _ _=>rfl) rfl) (h _))
theorem zx {w:β} {Q:Value→Shared→Prop} (x:vi C Φ R2 s.heap es cv) (sb:Sub Φ s.heap) {n:Nat} (hu:lH n A) (hes:cR ks es=true) (hk:dg ks k=true) (hkey:TR C Φ k key) (hw:eE es k=some w)
 (h:∀v tk,R2 w v→Q v {s with toks:=tk}):s.TypeIs cv "dict"∧wpAny (model C.prog C.w) A (getItem cv key) Q E s:=by
 walk_at "a"
 obtain⟨a,rfl,ne,ty,f⟩:=x.face sb hu hes hk hkey
 refine⟨ty,?_⟩
 cases f with
 | val K _ vk kvs ok is d r=>
  obtain⟨v,y,hv⟩:=mS r ok (P:=fun x y=>∀w,x=some w→∃v,y=some v∧R2 w v) (fun _ v z _ e=>⟨v,rfl,Option.some.inj e▸z⟩) nofun w hw
  exact wpAny_getItem_of is d.mapOf y (h v _ hv)
 | adr ka xs hk e _ is rm d r=>
  subst e
  obtain⟨v,y,hv⟩:=mR r hk (P:=fun x y=>∀w,x=some w→∃v,y=some v∧R2 w v.2) (fun _ v z _ e=>⟨v,rfl,Option.some.inj e▸z⟩) nofun w hw
  exact wpAny_getItem_heap rm is d y (h _ _ hv)
 walk_at "z"
noncomputable def uG (R2:β→Value→Prop) (o:Option β) (dflt v:Value):Prop:=an (motive:=fun _=>Prop) o (v=dflt) fun w=>R2 w v
theorem CO {Q:Value→Shared→Prop} (x:vi C Φ R2 s.heap es cv) (sb:Sub Φ s.heap) {n:Nat} (hu:lH n A) (hes:cR ks es=true) (hk:dg ks k=true) (hkey:TR C Φ k key)
 (h:∀v tk,uG R2 (eE es k) .none v→Q v {s with toks:=tk}):wpAny (model C.prog C.w) A (call (.builtin "dict.get") [cv,key] []) Q E s:=by
 walk_at "a"
 obtain⟨a,rfl,ne,_,f⟩:=x.face sb hu hes hk hkey
 cases f with
 | val K _ vk kvs ok is d r=>exact call_meetsIn PySem.F.slot_dict_get d.typeIs PySem.F.entry_dict_get (PySem.F.args_dict_get_2 _ _) (meets_dict_get vk.knd a is ne) ⟨_,d.mapOf,h _ _ (mS r ok (P:=fun x y=>uG R2 x .none (y.getD .none)) (fun _ _ z=>z) rfl)⟩
 | adr ka xs hk e _ is rm d r=>subst e;exact call_meetsIn PySem.F.slot_dict_get d.typeIs PySem.F.entry_dict_get (PySem.F.args_dict_get_2 _ _) (meetsH_dict_get _ a ka ne) ⟨rm,_,xs,is,d,h _ _ (mR r hk (P:=fun x y=>uG R2 x .none ((y.map Prod.snd).getD .none)) (fun _ _ z=>z) rfl)⟩
 walk_at "z"
theorem zw {dflt:Value} {Q:Value→Shared→Prop} (x:vi C Φ R2 s.heap es cv) (sb:Sub Φ s.heap) {n:Nat} (hu:lH n A) (hes:cR ks es=true) (hk:dg ks k=true) (hkey:TR C Φ k key)
 (h:∀v tk,uG R2 (eE es k) dflt v→Q v {s with toks:=tk}):wpAny (model C.prog C.w) A (call (.builtin "dict.get") [cv,key,dflt] []) Q E s:=by
 walk_at "a"
 obtain⟨a,rfl,ne,_,f⟩:=x.face sb hu hes hk hkey
 cases f with
 | val K _ vk kvs ok is d r=>exact call_meetsIn PySem.F.slot_dict_get d.typeIs PySem.F.entry_dict_get (PySem.F.args_dict_get_3 _ _ _) (meets_dict_get_default vk.knd a is ne dflt) ⟨_,d.mapOf,h _ _ (mS r ok (P:=fun x y=>uG R2 x dflt (y.getD dflt)) (fun _ _ z=>z) rfl)⟩
 | adr ka xs hk e _ is rm d r=>subst e;exact call_meetsIn PySem.F.slot_dict_get d.typeIs PySem.F.entry_dict_get (PySem.F.args_dict_get_3 _ _ _) (meetsH_dict_get_default _ a ka ne dflt) ⟨rm,_,xs,is,d,h _ _ (mR r hk (P:=fun x y=>uG R2 x dflt ((y.map Prod.snd).getD dflt)) (fun _ _ z=>z) rfl)⟩
 walk_at "z"
theorem u5 {a:Addr} {w:β} {v:Value} {Q:Unit→Shared→Prop} (x:vi C Φ R2 s.heap es (.ref a)) (sb:Sub Φ s.heap) {n:Nat} (hu:lH n A) (hes:cR ks es=true) (hk:dg ks k=true) (hkey:TR C Φ k key) (hv:R2 w v) (hz:es.length≤sizeLine)
 (h:∀h' tk o,h'.get? a=some o→cL C (TR C Φ) R2 (gu es k w) o→iK a s.heap h'→Q () {s with heap:=h',toks:=tk}):wpAny (model C.prog C.w) A (setItem (.ref a) key v) Q E s:=by
 walk_at "a"
 obtain⟨_,e,ne,_,f⟩:=x.face sb hu hes hk hkey
 cases e
 cases f with
 | val K _ vk kvs ok is d r=>exact wpAny_setItem_pairs is d (fun h' d' sm=>by obtain⟨o,e,z⟩:=nP vk d' (wq r ok hv);exact h _ _ o e z sm) (by rw [←r.length];exact hz)
 | adr ka xs hk e hka is rm d r=>subst e;exact wpAny_setItem_heap rm is d (fun h' d' sm=>by obtain⟨o,e,z⟩:=qX d' (DX r hk hka hv);exact h _ _ o e z sm) (by rw [←r.length];exact hz)
 walk_at "z"
end
noncomputable def f9:T→PyData:=T.rec (motive_1:=fun _=>PyData) (motive_2:=fun _=>List PyData) (motive_3:=fun _=>Unit) (motive_4:=fun _=>Unit) .none .bool .int .str (fun _ l=> .tuple l) (fun _ l=> .list l) (fun _ _=> .none) (fun _ _ _=> .none) (fun _=> .none) [] (fun _ _ a r=>a::r) () (fun _ _ _ _=>()) (fun _ _ _ _=>())
noncomputable def iD:T→Bool:=T.rec (motive_1:=fun _=>Bool) (motive_2:=fun _=>Bool) (motive_3:=fun _=>Unit) (motive_4:=fun _=>Unit) true (fun _=>true) (fun _=>true) (fun s=>(PyData.str s).canLay0) (fun _ l=>l) (fun _ l=>l) (fun _ _=>false) (fun _ _ _=>false) (fun _=>false) true (fun _ _ a r=>a&&r) () (fun _ _ _ _=>()) (fun _ _ _ _=>())
noncomputable def oh:T→Nat:=T.rec (motive_1:=fun _=>Nat) (motive_2:=fun _=>Nat) (motive_3:=fun _=>Unit) (motive_4:=fun _=>Unit) 0 (fun _=>0) (fun _=>0) (fun _=>0) (fun _ l=>l+1) (fun _ l=>l+1) (fun _ _=>0) (fun _ _ _=>0) (fun _=>0) 0 (fun _ _ a r=>max a r) () (fun _ _ _ _=>()) (fun _ _ _ _=>())
noncomputable def Bl (ts:List T):Nat:=ts.foldr (fun d r=>max (oh d) r) 0
theorem dC (ts:List T):f9 (.lst ts)= .list (ts.map f9)∧f9 (.tup ts)= .tuple (ts.map f9):=by
 induction ts with
 | nil=>exact⟨rfl,rfl⟩
 | cons d r ih=>exact⟨congrArg (fun x:PyData=>PyData.list (f9 d::(match x with | .list l=>l | _=>[]))) ih.1,congrArg (fun x:PyData=>PyData.tuple (f9 d::(match x with | .tuple l=>l | _=>[]))) ih.2⟩
theorem jt (ts:List T):iD (.lst ts)=ts.all iD∧iD (.tup ts)=ts.all iD:=by
 induction ts with
 | nil=>exact⟨rfl,rfl⟩
 | cons d r ih=>exact⟨congrArg (iD d&& ·) ih.1,congrArg (iD d&& ·) ih.2⟩
theorem kN (ts:List T):oh (.lst ts)=Bl ts+1∧oh (.tup ts)=Bl ts+1:=by
 induction ts with
 | nil=>exact⟨rfl,rfl⟩
 | cons d r ih=>exact⟨congrArg (fun x=>max (oh d) (x - 1)+1) ih.1,congrArg (fun x=>max (oh d) (x - 1)+1) ih.2⟩
theorem T.pd {P:T→Prop} (hn:P .none) (hb:∀b,P (.bool b)) (hi:∀i,P (.int i)) (hs:∀s,(PyData.str s).canLay0=true→P (.str s)) (ht:∀ts,(∀d∈ts,iD d=true∧P d)→P (.tup ts)) (hl:∀ts,(∀d∈ts,iD d=true∧P d)→P (.lst ts)):∀d:T,iD d=true→P d:=by
 walk_at "a"
 have seq:∀ts:List T,(∀d∈ts,iD d=true→P d)→ts.all iD=true→∀d∈ts,iD d=true∧P d:=fun ts ih h d hd=>have q:=aj.mp h d hd;⟨q,ih d hd q⟩
 exact T.rec (motive_1:=fun d=>iD d=true→P d) (motive_2:=fun ts=>∀d∈ts,iD d=true→P d) (motive_3:=fun _=>True) (motive_4:=fun _=>True)
  (fun _=>hn) (fun b _=>hb b) (fun i _=>hi i) hs (fun ts ih h=>ht ts (seq ts ih ((jt ts).2▸h))) (fun ts ih h=>hl ts (seq ts ih ((jt ts).1▸h))) (fun _ _ h=>nomatch h) (fun _ _ _ h=>nomatch h) (fun _ h=>nomatch h)
  (fun _ h=>nomatch h) (fun _ _ a b d hd=>by cases hd with
   | head=>exact a
   | tail _ hd=>exact b d hd) trivial (fun _ _ _ _=>trivial) fun _ _ _ _=>trivial
 walk_at "z"
theorem nE {C:Cx} {Φ:cj} {h:Heap} {ts:List T} {vs:List Value} (x:eD C Φ ts vs) (f:∀d∈ts,∀v,TR C Φ d v→∃as,Reads h v (f9 d) as):∃as,ReadsAll h vs (ts.map f9) as:=by
 induction x with
 | nil=>exact⟨_, .nil⟩
 | cons r _ ih=>
  obtain⟨as,a⟩:=f _ (.head _) _ r
  obtain⟨bs,b⟩:=ih fun d hd=>f d (.tail _ hd)
  exact⟨_, .cons a b⟩
theorem th {C:Cx} {Φ:cj} {h:Heap} (sb:Sub Φ h) (d:T) (hk:iD d=true):∀v,TR C Φ d v→∃as,Reads h v (f9 d) as:=by
 walk_at "a"
 refine T.pd (P:=fun d=>∀v,TR C Φ d v→∃as,Reads h v (f9 d) as) (fun v x=>?_) (fun b v x=>?_) (fun i v x=>?_) (fun s _ v x=>?_) (fun ts ih v x=>?_) (fun ts ih v x=>?_) d hk
 · cases (show v=_ from x);exact⟨_, .none⟩
 · cases (show v=_ from x);exact⟨_, .bool b⟩
 · cases x.i;exact⟨_, .int i _⟩
 · cases x.s;exact⟨_, .str s _⟩
 · cases x.tp with | mk e r=>
   obtain⟨as,y⟩:=nE r fun d hd=>(ih d hd).2
   exact(dC ts).2▸⟨_, .tuple (sb _ _ e) rfl rfl y⟩
 · cases x.ls sb with | mk e r=>
   obtain⟨as,y⟩:=nE r fun d hd=>(ih d hd).2
   exact(dC ts).1▸⟨_, .list e rfl rfl y⟩
 walk_at "z"
theorem gW {C:Cx} {Φ:cj} {h:Heap} (sb:Sub Φ h) {d:T} {v:Value} (x:AT C Φ h d v) (hk:iD d=true):∃as,Reads h v (f9 d) as:=by
 walk_at "a"
 cases d with
 | lst ts=>
  rw [(jt ts).1] at hk
  cases x.l with | mk e r=>
  obtain⟨as,y⟩:=nE r fun d hd=>th sb d (aj.mp hk d hd)
  exact(dC ts).1▸⟨_, .list e rfl rfl y⟩
 | dct es=>cases hk
 | _=>exact th (C:=C) sb _ hk _ x
 walk_at "z"
theorem w0 {ts:List T} (h:∀d∈ts,(f9 d).canLay0=true):PyData.canLayAll0 (ts.map f9)=true:=by
 induction ts with
 | nil=>rfl
 | cons d r ih=>rw [bp,PyData.canLayAll0,h d (.head _),ih fun d hd=>h d (.tail _ hd)];rfl
theorem GW (d:T) (hk:iD d=true):(f9 d).canLay0=true:=
 T.pd (P:=fun d=>(f9 d).canLay0=true) rfl (fun _=>rfl) (fun _=>rfl) (fun _ h=>h) (fun ts ih=>by rw [(dC ts).2,PyData.canLay0];exact w0 fun d hd=>(ih d hd).2) (fun ts ih=>by rw [(dC ts).1,PyData.canLay0];exact w0 fun d hd=>(ih d hd).2) d hk
theorem vz {ts:List T} (h:∀d∈ts,(f9 d).depth=oh d):PyData.depthAll (ts.map f9)=Bl ts:=by
 induction ts with
 | nil=>rfl
 | cons d r ih=>rw [bp,PyData.depthAll,h d (.head _),ih fun d hd=>h d (.tail _ hd)];rfl
theorem Gr (d:T) (hk:iD d=true):(f9 d).depth=oh d:=
 T.pd (P:=fun d=>(f9 d).depth=oh d) rfl (fun _=>rfl) (fun _=>rfl) (fun _ _=>rfl) (fun ts ih=>by rw [(dC ts).2,PyData.depth,(kN ts).2,vz fun d hd=>(ih d hd).2]) (fun ts ih=>by rw [(dC ts).1,PyData.depth,(kN ts).1,vz fun d hd=>(ih d hd).2]) d hk
noncomputable def BX (a b:T):Bool:=PyData.eqv (f9 a) (f9 b)
noncomputable def jC (d:T):Bool:=iD d&&decide (oh d≤64)
theorem fW {d:T} (h:jC d=true):SeqAt.shaped (f9 d)=true:=by
 unfold jC at h
 rw [h9] at h
 unfold SeqAt.shaped
 rw [GW d h.1,Gr d h.1,h.2];rfl
theorem iY {d:T} (h:jC d=true):iD d=true:=(aa.mp h).1
theorem lH.u1 {A:Around} {n:Nat} (h:lH n A):A.units < cLine:=by have:=h.2.2;omega
section
variable {C:Cx}
theorem xj {a b:T} (ha:jC a=true) (hb:jC b=true):eP C (compareOp .Eq) a b (.t (.bool (BX a b))):=by
 refine .mk fun A Φ s ca cb hA M xa xb=>?_
 obtain⟨as,ra⟩:=gW M.sub xa (iY ha)
 obtain⟨bs,rb⟩:=gW M.sub xb (iY hb)
 exact cD.of M.sub fun Q hq=>eq_dataH ra rb (fW ha) (fW hb) (by have:=hA.2.2;omega) (hq _ s.toks (.bool _))
theorem rx {a b:T} (ha:jC a=true) (hb:jC b=true):eP C (compareOp .NotEq) a b (.t (.bool (!BX a b))):=by
 refine .mk fun A Φ s ca cb hA M xa xb=>?_
 obtain⟨as,ra⟩:=gW M.sub xa (iY ha)
 obtain⟨bs,rb⟩:=gW M.sub xb (iY hb)
 exact cD.of M.sub fun Q hq=>ne_dataH ra rb (fW ha) (fW hb) (by have:=hA.2.2;omega) (hq _ s.toks (.bool _))
theorem GL {ts:List T} {x:T} (h1:jC (.lst ts)=true) (h2:jC x=true) (hm:∀d∈ts,PySem.SeqAt.noMix (f9 d) (f9 x)=true):eP C (compareOp .In) x (.lst ts) (.t (.bool (decide (PySem.Spec.countIn (f9 x) (ts.map f9)≠0)))):=by
 walk_at "a"
 refine .mk fun A Φ s ca cb hA M xa xb=>?_
 obtain⟨as,ra⟩:=gW M.sub xa (iY h2)
 obtain⟨bs,rb⟩:=gW M.sub xb (iY h1)
 have sh:=fW h1
 rw [(dC ts).1] at rb sh
 refine cD.of M.sub fun Q hq=>in_list_dataH rb ra sh (fW h2) (by have:=hA.2.2;omega) (fun y hy=>?_) (hq _ s.toks (.bool _))
 obtain⟨d,hd,rfl⟩:=aP.mp hy
 exact hm d hd
 walk_at "z"
theorem A0 {ts:List T} {x:T} (h1:jC (.tup ts)=true) (h2:jC x=true) (hm:∀d∈ts,PySem.SeqAt.noMix (f9 d) (f9 x)=true):eP C (compareOp .In) x (.tup ts) (.t (.bool (decide (PySem.Spec.countIn (f9 x) (ts.map f9)≠0)))):=by
 refine .mk fun A Φ s ca cb hA M xa xb=>?_
 obtain⟨as,ra⟩:=gW M.sub xa (iY h2)
 obtain⟨bs,rb⟩:=gW M.sub xb (iY h1)
 have sh:=fW h1
 rw [(dC ts).2] at rb sh
 refine cD.of M.sub fun Q hq=>in_tuple_dataH rb ra sh (fW h2) (by have:=hA.2.2;omega) (fun y hy=>?_) (hq _ s.toks (.bool _))
 obtain⟨d,hd,rfl⟩:=aP.mp hy
 exact hm d hd
theorem zL {k:Nat} (h:k≤sizeLine):(k:Int) < 2 ^ 63:=Int.lt_of_le_of_lt (d8.mpr h) (by decide)
theorem Blt.one {f:Value} {d:T} {r:PV} (h:Op1 C (fun v=>call f [v] []) d r):fj C f [d] r:=by
 walk_at "a"
 refine .mk fun A Φ s cvs hA M hv=>?_
 cases hv with | cons h1 h2=>cases h2 with | nil=>exact h.go A Φ s _ hA M h1
 walk_at "z"
theorem Blt.two {f:Value} {d e:T} {r:PV} (h:eP C (fun v w=>call f [v,w] []) d e r):fj C f [d,e] r:=by
 walk_at "a"
 refine .mk fun A Φ s cvs hA M hv=>?_
 cases hv with | cons h1 h2=>cases h2 with | cons h2 h3=>cases h3 with | nil=>exact h.go A Φ s _ _ hA M h1 h2
 walk_at "z"
theorem Jp {ts:List T} (hz:ts.length≤sizeLine):fj C (.builtin "len") [.lst ts] (.t (.int ts.length)):=by
 refine Blt.one (.mk fun A Φ s ca hA M ha=>?_)
 cases ha.l with | mk h hr=>
 refine cD.of M.sub fun Q hq=>Calls.call_len_list (cA h) (by rw [←hr.size];exact zL hz) ?_
 rw [←hr.size]
 exact hq _ _ (.int _ _)
theorem Jq {ts:List T} (hz:ts.length≤sizeLine):fj C (.builtin "len") [.tup ts] (.t (.int ts.length)):=by
 refine Blt.one (.mk fun A Φ s ca hA M ha=>?_)
 cases ha.tp with | mk h hr=>
 refine cD.of M.sub fun Q hq=>PyProof.Rows.len_tuple (nh (M.sub _ _ h)) (by rw [←hr.size];exact zL hz) ?_
 rw [←hr.size]
 exact hq _ _ (.int _ _)
theorem Fn (a b:Int):fj C (.builtin "min") [.int a, .int b] (.t (.int (if b < a then b else a))):=by
 walk_at "a"
 refine Blt.two (.mk fun A Φ s ca cb hA M ha hb=>?_)
 cases ha.i;cases hb.i
 refine cD.ofS M.sub fun Q hq=>min_two_ints hA.1 fun h' tk hk=>hq _ _ ⟨_,_,rfl⟩ hk ?_
 split <;> exact .int _ _
 walk_at "z"
theorem Jv (a b:Int):fj C (.builtin "max") [.int a, .int b] (.t (.int (if b > a then b else a))):=by
 walk_at "a"
 refine Blt.two (.mk fun A Φ s ca cb hA M ha hb=>?_)
 cases ha.i;cases hb.i
 refine cD.ofS M.sub fun Q hq=>max_two_ints hA.1 fun h' tk hk=>hq _ _ ⟨_,_,rfl⟩ hk ?_
 split <;> exact .int _ _
 walk_at "z"
theorem II (a:Int):fj C (.builtin "abs") [.int a] (.t (.int (if a < 0 then -a else a))):=by
 refine Blt.one (.mk fun A Φ s ca hA M ha=>?_)
 cases ha.i
 exact cD.of M.sub fun Q hq=>call_abs_int fun u tk=>hq _ _ (.int _ _)
theorem Je (a:Int):fj C (.type "int") [.int a] (.t (.int a)):=by
 refine Blt.one (.mk fun A Φ s ca hA M ha=>?_)
 cases ha.i
 exact cD.of M.sub fun Q hq=>PySem.call_int_int (hq _ s.toks (.int _ _))
theorem Jd (b:Bool):fj C (.type "int") [.bool b] (.t (.int (if b then 1 else 0))):=by
 walk_at "a"
 refine Blt.one (.mk fun A Φ s ca hA M ha=>?_)
 cases (show ca=_ from ha)
 exact cD.of M.sub fun Q hq=>PySem.call_int_bool (hq _ _ (.int _ _))
 walk_at "z"
theorem sR (a:Int):fj C (.builtin "isinstance") [.int a, .raw (.type "bool")] (.t (.bool false)):=by
 refine Blt.two (.mk fun A Φ s ca cb hA M ha hb=>?_)
 cases ha.i;cases (show cb=_ from hb)
 exact cD.of M.sub fun Q hq=>IsiPair.int_bool (hq _ _ (.bool _))
theorem Es {ts:List T} (hz:ts.length≤sizeLine):fj C (.type "tuple") [.lst ts] (.t (.tup ts)):=by
 refine Blt.one (.mk fun A Φ s ca hA M ha=>?_)
 cases ha.l with | mk h hr=>
 intro P k
 refine call_tuple_list (cA h) (fun h' hk=>?_) (by rw [←hr.size];exact hz)
 refine qN.tup (s':={s with heap:=h'.push (gm _ 0)}) M.sub ⟨_,_,rfl⟩ (fun b o e=>am _ (hk _ _ e)) ?_ hr (aC _ rfl) fun Φ' G x=>k _ _ Φ' G x
 cases e:s.heap.get? h'.objs.size with
 | none=>rfl
 | some x=>exact absurd (d7 (hk _ _ e)) (i6 _)
theorem Ha {ts:List T} (hz:ts.length≤sizeLine):fj C (.type "list") [.lst ts] (.lst ts):=by
 refine Blt.one (.mk fun A Φ s ca hA M ha=>?_)
 cases ha.l with | mk h hr=>
 exact cD.ofL M.sub fun Q hq=>call_list_seq _ (.inl rfl) h rfl rfl (fun h' c' hk e=>hq _ c' _ hr ⟨h',s.toks,rfl⟩ hk e) (by rw [←hr.size];exact hz)
end
section
variable {C:Cx}
theorem iI {h:Heap} {a:Addr} {items:Array Value} {n:Nat} (x:h.get? a=some (listOf items n)) (f:Array Value→Array Value):(∀b,b≠a→(h.update a (Obj.mapSeq f)).get? b=h.get? b)∧∃n',(h.update a (Obj.mapSeq f)).get? a=some (listOf (f items) n'):=
 ⟨fun b hb=>(iK.update ..).2 b hb,_,PySem.IsL.update x f⟩
theorem y0 {ts:List T} {d:T} (hz:ts.length≤sizeLine):kn C "list.append" ts [d] (ts++[d]) .none:=by
 walk_at "a"
 refine .mk fun A Φ s a items n cvs P hA M ha hr hd k=>?_
 cases hd with | cons h1 h2=>cases h2 with | nil=>
 obtain⟨u1,n',u2⟩:=iI ha (·.push _)
 exact call_meets slot_list_append (cA ha).typeIs entry_list_append (args_list_append _ _) (list_append a items n _ (by rw [←hr.size];exact hz)) ⟨ha,k _ _ _ n' ⟨_,_,rfl⟩ u1 u2 (by rw [Array.toList_push];exact hr.append (.cons h1 .nil)) .none⟩
 walk_at "z"
theorem y4 {ts xs:List T} (hz:ts.length+xs.length≤sizeLine):kn C "list.extend" ts [.lst xs] (ts++xs) .none:=by
 walk_at "a"
 refine .mk fun A Φ s a items n cvs P hA M ha hr hd k=>?_
 cases hd with | cons h1 h2=>cases h2 with | nil=>
 cases h1.ls M.sub with | @mk b items2 n2 hb hr2=>
 have hz':items.size+items2.size≤sizeLine:=by rw [←hr.size,←hr2.size];exact hz
 obtain⟨u1,n',u2⟩:=iI ha (· ++items2)
 have hdoor: ¬(!items.isEmpty&&Builtin.List.listTooLong (items.size+items2.size))=true:=by
  unfold Builtin.List.listTooLong
  rw [decide_eq_false (bU.mpr hz'),iR];exact nofun
 exact call_meets F.slot_list_extend (cA ha).typeIs F.entry_list_extend (F.args_list_extend_2 _ _) (AutoSeq1.list_extend_list_list_0 a items n b items2 n2 hdoor (a8 (av _ _) hz') (by omega)) ⟨ha,hb,k _ _ _ n' ⟨_,_,rfl⟩ u1 u2 (by rw [dY];exact hr.append hr2) .none⟩
 walk_at "z"
theorem Hu {ts:List T} {d:T} (hd:ts[ts.length - 1]? =some d) (hz:ts.length≤sizeLine):kn C "list.pop" ts [] ts.dropLast d:=by
 walk_at "a"
 refine .mk fun A Φ s a items n cvs P hA M ha hr hd' k=>?_
 cases hd' with | nil=>
 refine hr.get hd fun y hy ht=>?_
 obtain⟨u1,n',u2⟩:=iI ha (fun xs=>xs.eraseIdxIfInBounds (items.size - 1))
 refine call_meets F.slot_list_pop (cA ha).typeIs F.entry_list_pop (F.args_list_pop_1 _) (MeetsSeq.list_pop_last a items n y (by rw [←hr.size,←aY];exact hy) (by rw [←hr.size];exact hz)) ⟨ha,k _ _ _ n' ⟨_,_,rfl⟩ u1 u2 ?_ ht⟩
 have e:(items.eraseIdxIfInBounds (items.size - 1)).toList=items.toList.dropLast:=by
  by_cases q:items.size=0
  · cases Array.size_eq_zero_iff.mp q;rfl
  · rw [Array.eraseIdxIfInBounds,dif_pos (by omega),Array.toList_eraseIdx,←cV,List.eraseIdx_length_sub_one]
 rw [e];exact hr.dropLast
 walk_at "z"
theorem y5 {ts:List T} {i:Int} {d:T} (h0:0≤i) (hi:i≤ts.length) (hz:ts.length≤sizeLine):kn C "list.insert" ts [.int i,d] (ts.take i.toNat++d::ts.drop i.toNat) .none:=by
 walk_at "a"
 refine .mk fun A Φ s a items n cvs P hA M ha hr hd' k=>?_
 cases hd' with | cons h1' h2=>cases h2 with | cons h3 h4=>cases h4 with | nil=>
 cases h1'.i with | mk u=>
 have h1:i < 2 ^ 62:=Int.lt_of_le_of_lt (eH hi (d8.mpr hz)) (by decide)
 obtain⟨u1,n',u2⟩:=iI ha (fun xs=>have k:=if i < 0 then(i+((xs.size:Nat):Int)).toNat else min i.toNat xs.size;(xs.extract 0 k).push _++xs.extract k)
 refine call_meets F.slot_list_insert (cA ha).typeIs F.entry_list_insert (F.args_list_insert_3 _ _ _) (AutoListH.list_insert_list_int_val_1 a items n i u _ (by rw [fitsIndex_of h0 (by omega)];decide) (by rw [←hr.size];exact hz)) ⟨ha,k _ _ _ n' ⟨_,_,rfl⟩ u1 u2 ?_ .none⟩
 rw [hr.size] at hi
 have e:min i.toNat items.size=i.toNat:=dr (Int.toNat_le.mpr hi)
 have e': ¬ i < 0:=dp.mpr h0
 simp only [e',if_false,e]
 have e2:(items.toList.drop i.toNat).take (items.size - i.toNat)=items.toList.drop i.toNat:=dz (by rw [aT,cV];exact aB _)
 simpa [Array.toList_extract,e2] using (hr.take i.toNat).append (.cons h3 (hr.drop i.toNat))
 walk_at "z"
noncomputable def Jc:Value→Int
 | .int i _=>i
 | _=>0
theorem GM {Φ:cj} {l:List Int} {vs:List Value} (h:eD C Φ (l.map .int) vs) {i:Nat} {x:Int} (hx:l[i]? =some x):∃t,vs[i]? =some (.int x t):=
 h.get (i:=i) (a:= .int x) (by rw [ax,hx];rfl) fun y h1 h2=>by cases h2.i with | mk t=>exact⟨t,h1⟩
theorem jG {Φ:cj} {l:List Int} {items:Array Value} (h:eD C Φ (l.map .int) items.toList) {i:Nat} {x:Int} (hx:l[i]? =some x):∃t,items[i]? =some (.int x t):=by
 obtain⟨t,e⟩:=GM h hx;exact⟨t,by rw [←aY];exact e⟩
theorem y6 {l:List Int} {x:Int} {j:Nat} (hj:l[j]? =some x) (hno:∀m,m < j→l[m]?≠some x) (hz:l.length≤sizeLine):kn C "list.remove" (l.map .int) [.int x] ((l.map T.int).eraseIdx j) .none:=by
 walk_at "a"
 refine .mk fun A Φ s a items n cvs P hA M ha hr hd' k=>?_
 cases hd' with | cons h1' h2=>cases h2 with | nil=>
 cases h1'.i with | mk u=>
 have el:l.length=items.size:=(a9 (f:=T.int)).symm.trans hr.size
 obtain⟨hl,hx⟩:=bM.mp hj
 obtain⟨u1,n',u2⟩:=iI ha (fun xs=>xs.eraseIdxIfInBounds j)
 have vals:∀k (hk:k < items.size),∃t x,l[k]? =some x∧items[k]= .int x t:=fun k hk=>by
  obtain⟨t,e⟩:=jG hr (i:=k) (ai (by omega))
  exact⟨t,_,ai (by omega),Option.some.inj ((fH hk).symm.trans e)⟩
 refine call_meets F.slot_list_remove (cA ha).typeIs F.entry_list_remove (F.args_list_remove_2 _ _) (MeetsSeq.list_remove a items n _ (fun y=>Jc y==x) (fun y hy=>?_) j (el▸hl) ?_ (fun m hm hmj=>?_) (by rw [←el];exact hz)) ⟨ha,k _ _ _ n' ⟨_,_,rfl⟩ u1 u2 ?_ .none⟩
 · obtain⟨k,hk,rfl⟩:=Array.mem_iff_getElem.mp hy
   obtain⟨t,x,_,e⟩:=vals k hk
   rw [e];exact MeetsSeq.EqGives.int _ _ _ _
 · obtain⟨t,x',e1,e⟩:=vals j (el▸hl)
   rw [e];exact beq_iff_eq.mpr (Option.some.inj (e1.symm.trans hj))
 · obtain⟨t,x',e1,e⟩:=vals m hm
   rw [e]
   exact beq_false_of_ne fun q:x'=x=>hno m hmj (q▸e1)
 · have e:(items.eraseIdxIfInBounds j).toList=items.toList.eraseIdx j:=by
    rw [Array.eraseIdxIfInBounds,dif_pos (el▸hl),Array.toList_eraseIdx]
   rw [e];exact hr.eraseIdx j
 walk_at "z"
theorem xr {α:Type} (x:α):∀(k:Nat) (acc:Array α),(List.foldl (fun x1 x2=>x1++x2) acc (br k #[x])).toList=acc.toList++br k x:=by
 intro k
 induction k with
 | zero=>intro acc;exact(aw _).symm
 | succ k ih=>intro acc;rw [List.replicate_succ,bE,ih,List.replicate_succ,dY,au];rfl
theorem eD.replicate {Φ:cj} {d:T} {v:Value} (h:TR C Φ d v) (k:Nat):eD C Φ (br k d) (br k v):=by
 induction k with
 | zero=>exact .nil
 | succ k ih=>exact .cons h ih
theorem rr {x:T} {k:Int} (h0: -(2 ^ 62)≤k) (h1:k≤16777216):eP C (binaryOp .Mult) (.lst [x]) (.int k) (.lst (br k.toNat x)):=by
 walk_at "a"
 refine .mk fun A Φ s ca cb hA M ha hb=>?_
 cases ha.l with | @mk a items m h hr=>
 cases hb.i with | mk u=>
 have e:∃v,items= #[v]∧TR C Φ x v:=by
  obtain⟨l⟩:=items
  cases hr with | cons q1 q2=>cases q2 with | nil=>exact⟨_,rfl,q1⟩
 obtain⟨v,rfl,hv⟩:=e
 refine cD.new M.sub (vs:=List.foldl (fun x1 x2=>x1++x2) #[] (br k.toNat #[v])) ?_ fun Q hq=>?_
 · rw [xr v];exact eD.replicate hv k.toNat
 · exact wpAny_binaryOp_repeat_ref (T:="list") (U:="int") (by decide) ⟨_,h,rfl⟩ (fun s'=>typeIs_int s' k u) noFill_list_mul F.fills_int_mul F.slot_int_rmul repeat_list F.slot_int_index.lookup
    (call_meets F.slot_int_rmul (typeIs_int s k u) F.entry_int_rmul (F.args_int_rmul_2 _ _) (int___rmul___int_list k u a #[v] m)
     ⟨h,rfl,⟨_,h,rfl⟩,call_meets F.slot_list_mul ⟨_,h,rfl⟩ F.entry_list_mul (F.args_list_mul_2 _ _)
      (AutoListH.list___mul___list_int_3 a #[v] m k u (by simp [Builtin.List.listFitsIndex];omega) (by rw [show(#[v]:Array Value).size*k.toNat=k.toNat from Nat.one_mul _];omega) (by simp [Builtin.List.listTooLong,sizeLine];omega))
      ⟨h,hq⟩⟩)
 walk_at "z"
theorem EJ {xs ys:List T} (hz:xs.length+ys.length≤sizeLine):eP C (binaryOp .Add) (.tup xs) (.tup ys) (.t (.tup (xs++ys))):=by
 walk_at "a"
 refine .mk fun A Φ s ca cb hA M ha hb=>?_
 cases ha.tp with | @mk t it1 n1 h hr=>
 cases hb.tp with | @mk b it2 n2 h2 hr2=>
 have ho:=M.sub _ _ h
 have ho2:=M.sub _ _ h2
 by_cases hv:it1.isEmpty=true
 · have e1:xs=[]:=List.eq_nil_of_length_eq_zero (hr.size.trans (Array.isEmpty_iff_size_eq_zero.mp hv))
   subst e1
   exact cD.tr M.sub (.tup h2 (.mk _ _ hr2)) fun Q hq=>concat_meets ⟨_,ho,rfl⟩ ⟨_,ho2,rfl⟩ noFill_tuple_add seq_tuple_add PySem.F.slot_tuple_add PySem.F.entry_tuple_add (PySem.F.args_tuple_add_2 _ _) (tuple_addW0 t b it1 it2 n1 n2 _ _ _ _ hv) ⟨ho,ho2,hq⟩
 · by_cases hw:it2.isEmpty=true
   · have e1:ys=[]:=List.eq_nil_of_length_eq_zero (hr2.size.trans (Array.isEmpty_iff_size_eq_zero.mp hw))
     subst e1
     exact cD.tr M.sub (by rw [aw];exact .tup h (.mk _ _ hr)) fun Q hq=>concat_meets ⟨_,ho,rfl⟩ ⟨_,ho2,rfl⟩ noFill_tuple_add seq_tuple_add PySem.F.slot_tuple_add PySem.F.entry_tuple_add (PySem.F.args_tuple_add_2 _ _) (tuple_addW1 t b it1 it2 n1 n2 _ _ _ _ hv hw) ⟨ho,ho2,hq⟩
   · exact cD.tup M.sub (vs:=it1++it2) (by rw [dY];exact hr.append hr2) fun Q hq=>concat_meets ⟨_,ho,rfl⟩ ⟨_,ho2,rfl⟩ noFill_tuple_add seq_tuple_add PySem.F.slot_tuple_add PySem.F.entry_tuple_add (PySem.F.args_tuple_add_2 _ _) (tuple_addW2 t b it1 it2 n1 n2 _ _ _ _ hv hw (by rw [←hr.size,←hr2.size];exact hz)) ⟨ho,ho2,hq⟩
 walk_at "z"
theorem tV {prog:Program} {w:World} {A:Around} {E:Value→Shared→Prop} {s:Shared} {sl:Addr} {vl vu vs:Value} {lo hi st:Option Int} {n:Nat} {a stp:Int} {k:Nat} {Q:Int×Int×Nat→Shared→Prop} (hs:s.heap.IsSliceOf sl vl vu vs) (h1:IsPart vl lo) (h2:IsPart vu hi) (h3:IsPart vs st)
 (e1:st.getD 1=stp) (e2:stp≠0) (e3:(Builtin.Slice.sliceAdjust lo hi stp (n:Int)).1=a) (e4:Builtin.Slice.slicePlaces a (Builtin.Slice.sliceAdjust lo hi stp (n:Int)).2 stp=k) (h:Q (a,stp,k) s):
 wpAny (model prog w) A (Builtin.Slice.sliceApplied (.ref sl) (pure (n:Int))) Q E s:=by
 walk_at "a"
 obtain⟨os,hos,hcs,hds⟩:=id hs
 have part:∀{v:Value} {p:Option Int} {P:Option Int→Shared→Prop},IsPart v p→P p s→wpAny (model prog w) A (Builtin.Slice.slicePartIndex v) P E s:=by
  intro v p P hp q
  cases hp with
  | none=>exact slicePart_none q
  | int i t=>exact slicePart_int q
 unfold Builtin.Slice.sliceApplied Builtin.Slice.sliceFields
 refine wpAny_bind (wpAny_bind (wpAny_field hos hds (x:=vl) rfl (wpAny_bind (wpAny_field hos hds (x:=vu) rfl (wpAny_bind (wpAny_field hos hds (x:=vs) rfl (wpAny_pure ?_)))))))
 refine wpAny_bind (part h3 ?_)
 rw [e1]
 show wpAny _ _ (if(stp==0)=true then _ else _) _ _ s
 rw [if_neg (fun q=>e2 (beq_iff_eq.mp q))]
 refine wpAny_bind (part h1 (wpAny_bind (part h2 (wpAny_bind (wpAny_pure ?_)))))
 show wpAny _ _ (match Builtin.Slice.sliceAdjust lo hi stp (n:Int) with | (lo,hi)=>pure (lo,stp,Builtin.Slice.slicePlaces lo hi stp)) _ _ s
 revert e3 e4
 cases Builtin.Slice.sliceAdjust lo hi stp (n:Int) with
 | mk x y=>
  intro e3 e4
  dsimp only at e3 e4 ⊢
  subst e3 e4
  exact wpAny_pure h
 walk_at "z"
noncomputable def mP (items:Array Value) (lo stp:Int) (n:Nat):Array Value:=((bH n).filterMap fun(k:Nat)=>items[(lo+(k:Int)*stp).toNat]?).toArray
theorem qG {ts ds:List T} {lo hi st:Option Int} {a stp:Int} {k:Nat} (e1:st.getD 1=stp) (e2:stp≠0) (e3:(Builtin.Slice.sliceAdjust lo hi stp (ts.length:Int)).1=a) (e4:Builtin.Slice.slicePlaces a (Builtin.Slice.sliceAdjust lo hi stp (ts.length:Int)).2 stp=k)
 (e5:(a==0&&stp==1&&k==ts.length)=false) (e6:(bH k).filterMap (fun(j:Nat)=>ts[(a+(j:Int)*stp).toNat]?)=ds) (hz:k≤sizeLine):gJ C (.tup ts) lo hi st (.t (.tup ds)):=by
 walk_at "a"
 refine .mk fun A Φ s ca vl vu vs sl value slice hA M ha hsl h1 h2 h3 hs=>?_
 cases ha.tp with | @mk t items n h hr=>
 have ht:=nh (M.sub _ _ h)
 have el:=hr.size
 have pk:eD C Φ ds (mP items a stp k).toList:=by
  subst e6
  unfold mP
  generalize bH k=l
  show bv _ _ (List.filterMap (fun(j:Nat)=>items[(a+(j:Int)*stp).toNat]?) l)
  induction l with
  | nil=>exact .nil
  | cons j r ih=>
   rw [cE,cE]
   cases q:ts[(a+(j:Int)*stp).toNat]? with
   | none=>rw [Array.getElem?_eq_none_iff.mpr (el▸dK.mp q)];exact ih
   | some d=>refine hr.get q fun y hy hd=>?_;rw [aY] at hy;rw [hy];exact .cons hd ih
 have hsz:(mP items a stp k).size≤sizeLine:=by
  unfold mP
  rw [dP]
  exact a8 (List.length_filterMap_le _ _) (by rw [cW];exact hz)
 refine cD.tup M.sub pk fun P hP=>gM (T:="tuple") ht.typeIs slot_tuple_getitem.lookup ?_ hs
 obtain⟨os,hos,hcs,hds⟩:=id hsl
 have hTs:s.TypeIs (.ref sl) "slice":=⟨os,hos,hcs⟩
 unfold getItem
 try with_reducible refine wpAny_holding ?_
 first | refine wpAny_bind (wpAny_pure ?_) | skip
 refine wpAny_bind (wpAny_sequenceKey ht.typeIs (by decide) ?_)
 refine wpAny_bind (wpAny_callSpecial?_slot (name:=ac "__getitem__") ht.typeIs slot_tuple_getitem (wpAny_call_entry slot_tuple_getitem ht.typeIs entry_tuple_getitem ?_ (args_tuple_getitem _ _)))
 show wpAny _ _ (Builtin.Tuple.tupleItemsOf (.ref t) >>=_) _ _ s
 refine wpAny_bind (tupleItemsOf_ ht ?_)
 refine wpAny_bind (wpAny_typeOf hTs ?_)
 rw [if_pos (by decide),←el]
 refine wpAny_bind (tV hsl h1 h2 h3 e1 e2 e3 e4 ?_)
 show wpAny _ _ (if(a==0&&stp==1&&k==ts.length)=true then _ else _) _ _ s
 rw [e5,if_neg (by decide)]
 show wpAny _ _ (Builtin.Tuple.tupleExact (mP items a stp k) >>=_) _ _ s
 exact wpAny_bind (m:=Builtin.Tuple.tupleExact _) (wpAny_newObj_type (wpAny_pure ⟨_,rfl,wpAny_pure hP⟩) hsz)
 walk_at "z"
noncomputable def Hl (l:List Int):Int:=l.getD (argBest (fun i j=>decide (l.getD i 0 < l.getD j 0)) (l.length - 1)) 0
noncomputable def Hk (l:List Int):Int:=l.getD (argBest (fun i j=>decide (l.getD i 0 > l.getD j 0)) (l.length - 1)) 0
theorem qt {Φ:cj}:∀{l:List Int} {vs:List Value},eD C Φ (l.map .int) vs→∃xs:List (Int×Tok),vs=xs.map (fun p=> .int p.1 p.2)∧l=xs.map (·.1):=by
 walk_at "a"
 intro l
 induction l with
 | nil=>intro vs h;cases h;exact⟨[],rfl,rfl⟩
 | cons i l ih=>
  intro vs h
  cases h with | cons a r=>
  cases a.i with | mk t=>
  obtain⟨xs,rfl,rfl⟩:=ih r
  exact⟨(i,t)::xs,rfl,rfl⟩
 walk_at "z"
theorem jp {xs:List (Int×Tok)} (i:Nat):numAt xs.toArray i=(xs.map (·.1)).getD i 0:=by simp [numAt,List.getD,ax]
theorem Jy {l:List Int} (h0:l≠[]):fj C (.builtin "min") [.lst (l.map .int)] (.t (.int (Hl l))):=by
 walk_at "a"
 refine Blt.one (.mk fun A Φ s ca hA M ha=>?_)
 cases ha.l with | @mk a items k h hr=>
 obtain⟨xs,e1,rfl⟩:=qt hr
 have ei:items=intItems xs.toArray:=by apply Array.ext';rw [e1];simp [intItems]
 refine cD.ofS M.sub fun Q hq=>min_intList hA.1 (ei▸cA h) (by cases xs;exact absurd rfl h0;exact d9 _) fun v h' tk hg hk=>?_
 obtain⟨t,rfl⟩:=intItems_at hg
 refine hq _ _ ⟨_,_,rfl⟩ hk ?_
 rw [show(fun i j=>decide (numAt xs.toArray i < numAt xs.toArray j))=fun i j=>decide ((xs.map (·.1)).getD i 0 < (xs.map (·.1)).getD j 0) from by funext i j;rw [jp,jp],jp,dP,←a9 (f:=fun p:Int×Tok=>p.1)]
 exact .int _ _
 walk_at "z"
theorem Jw {l:List Int} (h0:l≠[]):fj C (.builtin "max") [.lst (l.map .int)] (.t (.int (Hk l))):=by
 walk_at "a"
 refine Blt.one (.mk fun A Φ s ca hA M ha=>?_)
 cases ha.l with | @mk a items k h hr=>
 obtain⟨xs,e1,rfl⟩:=qt hr
 have ei:items=intItems xs.toArray:=by apply Array.ext';rw [e1];simp [intItems]
 refine cD.ofS M.sub fun Q hq=>max_intList hA.1 (ei▸cA h) (by cases xs;exact absurd rfl h0;exact d9 _) fun v h' tk hg hk=>?_
 obtain⟨t,rfl⟩:=intItems_at hg
 refine hq _ _ ⟨_,_,rfl⟩ hk ?_
 rw [show(fun i j=>decide (numAt xs.toArray i > numAt xs.toArray j))=fun i j=>decide ((xs.map (·.1)).getD i 0 > (xs.map (·.1)).getD j 0) from by funext i j;rw [jp,jp],jp,dP,←a9 (f:=fun p:Int×Tok=>p.1)]
 exact .int _ _
 walk_at "z"
end
noncomputable def eN (H:Hp):Nat:=List.rec (motive:=fun _=>Nat) 100 (fun e _ ih=>max (e.1+1) ih) H
theorem nt {H:Hp} {n:Nat} (h:(H.lookup n).isSome=true):n < eN H:=by
 walk_at "a"
 induction H with
 | nil=>cases h
 | cons e r ih=>
  show n < max (e.1+1) (eN r)
  by_cases q:n=e.1
  · subst q;exact aq (aI _) (Nat.le_max_left _ _)
  · exact aq (ih (by rw [show List.lookup n (e::r)=r.lookup n from aX q] at h;exact h)) (Nat.le_max_right _ _)
 walk_at "z"
theorem iC (H:Hp):H.lookup (eN H)=none:=by
 cases q:H.lookup (eN H) with
 | none=>rfl
 | some o=>exact absurd (nt (n:=eN H) (by rw [q];rfl)) (i6 _)
noncomputable def lB (r:PV) (H:Hp) (K:V→Hp→Prop):Prop:=PV.casesOn (motive:=fun _=>Prop) r (fun d=>K (.t d) H) fun ts=>K (.ref (eN H)) ((eN H, .list ts)::H)
noncomputable def dd {α:Type} (o:Option α) (K:α→Prop):Prop:=an (motive:=fun _=>Prop) o False K
noncomputable def pO {P:Type} (o:O) (a:List T→P) (b:List (T×V)→P) (c:T→P) (t:List (T×T)→P):P:=O.casesOn (motive:=fun _=>P) o a b c t
noncomputable def T.dctK {P:Type} (d:T) (z:P) (K:List (T×T)→P):P:=T.casesOn (motive_1:=fun _=>P) d z (fun _=>z) (fun _=>z) (fun _=>z) (fun _=>z) (fun _=>z) K (fun _ _=>z) fun _=>z
noncomputable def jQ (H:Hp) (v:V):Option T:=V.casesOn (motive:=fun _=>Option T) v some (fun n=>an (motive:=fun _=>Option T) (H.lookup n) none fun o=>pO o (fun ts=>some (.lst ts)) (fun _=>none) some fun es=>some (.dct es))
 fun Cl n=>an (motive:=fun _=>Option T) (H.lookup n) none fun o=>pO o (fun _=>none) (fun _=>none) (fun d=>d.dctK none fun es=>some (.inst Cl es)) fun _=>none
noncomputable def EZ (ih:V→Hp→(T→Hp→Prop)→Prop) (es:List (T×V)):Hp→(List (T×T)→Hp→Prop)→Prop:=
 List.rec (motive:=fun _=>Hp→(List (T×T)→Hp→Prop)→Prop) (fun H K=>K [] H) (fun e _ r H K=>ih e.2 H fun d H1=>r H1 fun es H2=>K ((e.1,d)::es) H2) es
noncomputable def vM (ih:V→Hp→(T→Hp→Prop)→Prop) (v:V) (H:Hp) (K:T→Hp→Prop):Prop:=V.casesOn (motive:=fun _=>Prop) v (fun d=>K d H)
 (fun n=>dd (H.lookup n) fun o=>pO o (fun ts=>K (.lst ts) (gY H n (.frz (.lst ts)))) (fun es=>EZ ih es H fun es' H'=>dd (H'.lookup n) fun o'=>pO o' (fun _=>False) (fun _=>K (.dct es') (gY H' n (.frz (.dct es')))) (fun d=>K d H') fun _=>False) (fun d=>K d H) fun es=>K (.dct es) (gY H n (.frz (.dct es))))
 fun Cl n=>ih (.ref n) H fun d H'=>d.dctK False fun es=>K (.inst Cl es) H'
noncomputable def J0 (k:Nat):V→Hp→(T→Hp→Prop)→Prop:=Nat.rec (motive:=fun _=>V→Hp→(T→Hp→Prop)→Prop) (fun _ _ _=>False) (fun _ ih=>vM ih) k
noncomputable def yS (v:V) (H:Hp) (K:T→Hp→Prop):Prop:=J0 12 v H K
noncomputable def nI (vs:List V):Hp→(List T→Hp→Prop)→Prop:=List.rec (motive:=fun _=>Hp→(List T→Hp→Prop)→Prop) (fun H K=>K [] H) (fun v _ r H K=>yS v H fun d H1=>r H1 fun ds H2=>K (d::ds) H2) vs
section
variable {C:Cx} {g:cj} {H H':Hp} {p p':Pt} {A:Around}
theorem dd.elim {α:Type} {o:Option α} {K:α→Prop} (h:dd o K) {P:Prop} (k:∀x,o=some x→K x→P):P:=by
 cases o with
 | none=>exact False.elim h
 | some x=>exact k x rfl h
theorem cD.up {t:Sem Value} {r:PV} {K:V→Hp→Prop} {P:Value→Shared→Prop} (R:bc C g H p) (h:cD C A p.Φ t p.s r) (q:lB r H K) (k:∀cv p' v H',f5 C g H p H' p'→eC C H' p' v cv→K v H'→P cv p'.s):Wp C A t P p.s:=by
 walk_at "a"
 refine h P fun cv s' Φ' G x=>?_
 have st:=R.grow G
 cases r with
 | t d=>exact k cv ⟨Φ',p.μ,s'⟩ _ _ st (TR.vri x) q
 | lst ts=>
  obtain⟨a,ob,rfl,h1,h2,h3,h4⟩:=x
  have st2:=st.rel.alloc (o:= .list ts) (iC H) h1 h2 h3 (by
   cases e:g a with
   | none=>rfl
   | some o=>rw [R.gsub _ _ e] at h4;cases h4) (fun n o e l q=>by
   refine R.alive e l fun ob z _ _ _ _=>?_
   rw [q,h4] at z;cases z) (fun _ hk=>nomatch hk)
  refine k _ _ _ _ (st.trans st2) ⟨?_,fun n hn=>?_⟩ q
  · exact congrArg Value.ref (if_pos rfl).symm
  · rw [af.mp hn,be];rfl
 walk_at "z"
theorem j7 {v:V} {d:T} {cv:Value} (R:bc C g H p) (hv:jQ H v=some d) (x:eC C H p v cv):AT C p.Φ p.s.heap d cv:=by
 walk_at "a"
 cases v with
 | t d'=>cases hv;exact AT.of R.sub x.1
 | ref n=>
  replace hv:(an (motive:=fun _=>Option T) (H.lookup n) none fun o=>pO o (fun ts=>some (.lst ts)) (fun _=>none) some fun es=>some (.dct es))=some d:=hv
  cases e:H.lookup n with
  | none=>rw [e] at hv;cases hv
  | some o=>
   rw [e] at hv
   cases (show cv= .ref (p.μ n) from x.1)
   cases o with
   | list ts=>cases hv;exact R.alive e rfl fun ob h1 h2 _ _ _=>by cases h2 with | mk items k r=>exact .mk h1 r
   | dict es=>cases hv
   | tdct es=>cases hv;exact R.alive e rfl fun ob h1 h2 h3 _ _=> .mk (beq_false_of_ne fun q=>gH R.base (q▸h3)) h1 h2
   | frz d'=>
    cases hv
    cases R.slots n _ e with
    | frz x=>exact AT.of R.sub x
    | live _ b=>exact b.elim
 | iref Cl n=>
  replace hv:(an (motive:=fun _=>Option T) (H.lookup n) none fun o=>pO o (fun _=>none) (fun _=>none) (fun d=>d.dctK none fun es=>some (.inst Cl es)) fun _=>none)=some d:=hv
  cases e:H.lookup n with
  | none=>rw [e] at hv;cases hv
  | some o=>
   rw [e] at hv
   cases o with
   | list ts=>cases hv
   | dict es=>cases hv
   | tdct es=>cases hv
   | frz d'=>
    cases d' <;> first | (cases hv;done) | skip
    cases hv
    obtain⟨a,rfl,ha⟩:=x.1
    cases R.slots n _ e with
    | frz y=>exact y.inv (fun v=>v= .ref (p.μ n)→TR C p.Φ _ _) (fun b o ne e s q=>by cases q;exact .inst ha e s) rfl
    | live _ b=>exact b.elim
 walk_at "z"
noncomputable def tN (H H':Hp):Prop:=∀m o,H.lookup m=some o→H'.lookup m=some o∨∃d,H'.lookup m=some (.frz d)
theorem tN.trans {H H' H2:Hp} (a:tN H H') (b:tN H' H2):tN H H2:=fun m o e=>by
 rcases a m o e with q | ⟨d,q⟩
 · exact b m o q
 · rcases b m _ q with q | q
   · exact .inr ⟨d,q⟩
   · exact .inr q
theorem tN.frz {m:Nat} {d:T} (h:(H.lookup m).isSome=true):tN H (gY H m (.frz d)):=fun n o e=>by
 by_cases q:n=m
 · subst q;exact .inr ⟨d,nG h⟩
 · exact .inl ((rI q).trans e)
structure Fz (C:Cx) (g:cj) (H:Hp) (p:Pt) (H':Hp) (p':Pt):Prop where
 st:f5 C g H p H' p'
 s:p'.s=p.s
 μ:p'.μ=p.μ
 pr:tN H H'
theorem Fz.trans {H2:Hp} {p2:Pt} (a:Fz C g H p H' p') (b:Fz C g H' p' H2 p2):Fz C g H p H2 p2:=⟨a.st.trans b.st,b.s.trans a.s,b.μ.trans a.μ,a.pr.trans b.pr⟩
noncomputable def BZ (C:Cx) (f:V→Hp→(T→Hp→Prop)→Prop):Prop:=∀{g:cj} {H:Hp} {p:Pt} {v:V} {K:T→Hp→Prop} {G:Prop},bc C g H p→(∀n∈v.ids,(H.lookup n).isSome=true)→f v H K→(∀d H' p',Fz C g H p H' p'→(∀cv,VR C p.Φ p.μ v cv→TR C p'.Φ d cv)→K d H'→G)→G
theorem zQ {ih:V→Hp→(T→Hp→Prop)→Prop} (ok:BZ C ih) (es:List (T×V)):∀{H:Hp} {p:Pt} {K:List (T×T)→Hp→Prop} {G:Prop},bc C g H p→(∀e∈es,∀n∈e.2.ids,(H.lookup n).isSome=true)→EZ ih es H K→
 (∀es' H' p',Fz C g H p H' p'→es'.map (·.1)=es.map (·.1)→(∀l,bv (E2 C (TR C p.Φ) (VR C p.Φ p.μ)) es l→bv (E2 C (TR C p'.Φ) (TR C p'.Φ)) es' l)→K es' H'→G)→G:=by
 walk_at "a"
 induction es with
 | nil=>exact fun R _ h k=>k [] _ _ ⟨.refl R,rfl,rfl,fun _ _ e=> .inl e⟩ rfl (fun l x=>by cases x;exact .nil) h
 | cons e r ihl=>
  intro H p K G R hi h k
  refine ok R (hi e (.head _)) h fun d H1 p1 f1 t1 h1=>?_
  refine ihl f1.st.rel (fun x hx n hn=>(f1.st.mu n (hi x (.tail _ hx) n hn)).2) h1 fun es' H2 p2 f2 q t2 h2=>?_
  refine k ((e.1,d)::es') _ _ (f1.trans f2) (congrArg (e.1:: ·) q) (fun l x=>?_) h2
  cases x with | cons a b=>
  cases a with | mk a1 a2 a3=>
  exact .cons (.mk (a1.mono (f1.trans f2).st.ext.1) a2 ((t1 _ a3).mono f2.st.ext.1)) (t2 _ (b.imp fun x hx _ y=>by cases y with | mk y1 y2 y3=>exact .mk (y1.mono f1.st.ext.1) y2 (y3.mono f1.st.ext.1 fun n _=>by rw [f1.μ])))
 walk_at "z"
theorem zS {m:Nat} {ts:List T} (R:bc C g H p) (hm:H.lookup m=some (.list ts)) {G:Prop} (k:∀p',Fz C g H p (gY H m (.frz (.lst ts))) p'→TR C p'.Φ (.lst ts) (.ref (p.μ m))→G):G:=
 R.still hm rfl (d:= .lst ts) (fun ob h1 h2 h3=> .lst dj (jk.imp h2 fun _ _ _ x=>x.mono (iz h3))) fun p' e1 e2 st x=>k p' ⟨st,e1,e2, .frz (by rw [hm];rfl)⟩ x
theorem zR {m:Nat} {es:List (T×T)} (R:bc C g H p) (hm:H.lookup m=some (.tdct es)) {G:Prop} (k:∀p',Fz C g H p (gY H m (.frz (.dct es))) p'→TR C p'.Φ (.dct es) (.ref (p.μ m))→G):G:=
 R.still hm rfl (d:= .dct es) (fun ob h1 h2 h3=> .dct (fun q=>gH R.base (q▸h3)) dj (cL.imp h2 (fun _ _ _ x=>x.mono (iz h3)) fun _ _ _ x=>x.mono (iz h3))) fun p' e1 e2 st x=>k p' ⟨st,e1,e2, .frz (by rw [hm];rfl)⟩ x
theorem uc {ih:V→Hp→(T→Hp→Prop)→Prop} (ok:BZ C ih):BZ C (vM ih):=by
 walk_at "a"
 intro g H p v K G R hi h k
 have same:∀{d},(∀cv,VR C p.Φ p.μ v cv→TR C p.Φ d cv)→K d H→G:=fun x q=>k _ _ _ ⟨.refl R,rfl,rfl,fun _ _ e=> .inl e⟩ x q
 have fz:∀{H1:Hp} {p1:Pt} {n:Nat} {d:T},bc C g H1 p1→H1.lookup n=some (.frz d)→TR C p1.Φ d (.ref (p1.μ n)):=fun {H1 p1 n d} R e=>by
  cases R.slots n _ e with
  | frz x=>exact x
  | live _ b=>exact b.elim
 cases v with
 | t d=>exact same (fun _ x=>x) h
 | ref n=>
  refine dd.elim (show dd (H.lookup n) _ from h) fun o e h=>?_
  cases o with
  | list ts=>exact zS R e fun p' f x=>k _ _ _ f (fun cv y=>(show cv= .ref (p.μ n) from y)▸x) h
  | tdct es=>exact zR R e fun p' f x=>k _ _ _ f (fun cv y=>(show cv= .ref (p.μ n) from y)▸x) h
  | frz d=>exact same (fun cv y=>(show cv= .ref (p.μ n) from y)▸fz R e) h
  | dict es=>
   refine zQ ok es R (fun x hx i hi=>R.ids n _ e i (aG.mpr ⟨x,hx,hi⟩)) h fun es' H1 p1 f1 q t h=>dd.elim h fun o' e' h=>?_
   have back:∀cv,VR C p.Φ p.μ (.ref n) cv→cv= .ref (p1.μ n):=fun cv y=>(show cv= .ref (p.μ n) from y).trans (by rw [f1.μ])
   rcases f1.pr n _ e with z | ⟨d,z⟩
   · rw [z] at e';cases e'
     refine f1.st.rel.still z rfl (d:= .dct es') (fun ob h1 h2 h3=>?_) fun p2 e1 e2 st x=>k _ _ _ (f1.trans ⟨st,e1,e2, .frz (by rw [z];rfl)⟩) (fun cv y=>back cv y▸x) h
     refine .dct (fun q=>gH f1.st.rel.base (q▸h3)) dj ?_
     have l:=iz (o:=ob) h3
     refine R.alive e rfl fun ob0 a1 a2 _ _ _=>?_
     rw [f1.μ,f1.s,a1] at h1
     cases h1
     cases a2 with | mk arr m b1 b2 b3 b4=>exact .mk arr m b1 b2 ((t _ b3).imp fun x hx _ y=>by cases y with | mk y1 y2 y3=>exact .mk (y1.mono l) y2 (y3.mono l)) (q▸b4)
   · rw [z] at e';cases e'
     exact k _ _ _ f1 (fun cv y=>back cv y▸fz f1.st.rel z) h
 | iref Cl n=>
  refine ok (v:= .ref n) R hi h fun d H1 p1 f1 t h=>?_
  cases d <;> first | exact h.elim | skip
  refine k _ _ _ f1 (fun cv y=>?_) h
  obtain⟨a,rfl,ha⟩:=y
  exact(t (.ref (p.μ n)) rfl).inv (fun v=>v= .ref (p.μ n)→TR C p1.Φ _ (.ref a)) (fun b o ne e s q=>by cases q;exact .inst (f1.st.ext.1 _ _ ha) e s) rfl
 walk_at "z"
theorem CX (k:Nat):BZ C (J0 k):=by
 induction k with
 | zero=>exact fun _ _ h _=>(show False from h).elim
 | succ k ih=>exact uc ih
theorem mi {v:V} {cv:Value} {K:T→Hp→Prop} {G:Prop} (R:bc C g H p) (x:eC C H p v cv) (h:yS v H K) (k:∀d H' p',f5 C g H p H' p'→p'.s=p.s→TR C p'.Φ d cv→K d H'→G):G:=
 CX 12 R x.2 h fun d H' p' f t q=>k d H' p' f.st f.s (t cv x.1) q
theorem jO {vs:List V}:∀{H:Hp} {p:Pt} {cvs:List Value} {K:List T→Hp→Prop} {G:Prop},bc C g H p→bv (eC C H p) vs cvs→nI vs H K→(∀ds H' p',f5 C g H p H' p'→p'.s=p.s→eD C p'.Φ ds cvs→K ds H'→G)→G:=by
 walk_at "a"
 induction vs with
 | nil=>intro H p cvs K G R x h k;cases x;exact k [] H p (.refl R) rfl .nil h
 | cons v r ih=>
  intro H p cvs K G R x h k
  cases x with | cons a b=>
  refine mi R a h fun d H1 p1 st e t h=>ih st.rel (b.imp fun _ _ _ y=>y.step st) h fun ds H2 p2 st2 e2 ts h=>k _ _ _ (st.trans st2) (e2.trans e) (.cons (t.mono st2.ext.1) ts) h
 walk_at "z"
end
noncomputable def WE (C:Cx) (sc:Scope) (n:Nat) (e:Expr) (ρ:aF) (H:Hp) (Q:V→Hp→Prop):Prop:=∀F p,FR C sc (n+2) ρ F H p→bc C F.g H p→∀P:Value→Shared→Prop,(∀cv p' v H',f5 C F.g H p H' p'→eC C H' p' v cv→Q v H'→P cv p'.s)→Wp C F.A (eval e F.env) P p.s
noncomputable def WB (C:Cx) (sc:Scope) (n:Nat) (e:Expr) (ρ:aF) (H:Hp) (Q:Bool→Hp→Prop):Prop:=∀F p,FR C sc (n+2) ρ F H p→bc C F.g H p→∀P:Bool→Shared→Prop,(∀b p' H',f5 C F.g H p H' p'→Q b H'→P b p'.s)→Wp C F.A (isTrue e F.env (eval e F.env)) P p.s
noncomputable def WA (C:Cx) (sc:Scope) (n:Nat) (op:BoolOp) (es:List Expr) (ρ:aF) (H:Hp) (Q:Bool→Hp→Prop):Prop:=∀F p,FR C sc (n+2) ρ F H p→bc C F.g H p→∀P:Bool→Shared→Prop,(∀b p' H',f5 C F.g H p H' p'→Q b H'→P b p'.s)→Wp C F.A (allTrue op es F.env) P p.s
noncomputable def WL (C:Cx) (sc:Scope) (n:Nat) (es:List Expr) (ρ:aF) (H:Hp) (Q:List V→Hp→Prop):Prop:=∀F p,FR C sc (n+2) ρ F H p→bc C F.g H p→∀(pos:Pos) (P:List Value→Shared→Prop),(∀cvs p' vs H',f5 C F.g H p H' p'→bv (eC C H' p') vs cvs→Q vs H'→P cvs p'.s)→Wp C F.A (spliced (backTo pos (starEach es F.env))) P p.s
noncomputable def Br (b:Bool) (P Q:Prop):Prop:=iJ (motive:=fun _=>Prop) b Q P
theorem Br.elim {b:Bool} {P Q:Prop} (h:Br b P Q) {G:Prop} (k1:b=true→P→G) (k2:b=false→Q→G):G:=by
 cases b with
 | true=>exact k1 rfl h
 | false=>exact k2 rfl h
theorem Br.yes {b:Bool} {P:Prop} (h:Br b P False):b=true∧P:=h.elim (fun e x=>⟨e,x⟩) fun _ x=>x.elim
noncomputable def T.ik {P:Type} (d:T) (z:P) (k:Int→P):P:=T.casesOn (motive_1:=fun _=>P) d z (fun _=>z) k (fun _=>z) (fun _=>z) (fun _=>z) (fun _=>z) (fun _ _=>z) fun _=>z
noncomputable def T.sk {P:Type} (d:T) (z:P) (k:Str→P):P:=T.casesOn (motive_1:=fun _=>P) d z (fun _=>z) (fun _=>z) k (fun _=>z) (fun _=>z) (fun _=>z) (fun _ _=>z) fun _=>z
noncomputable def T.bk {P:Type} (d:T) (z:P) (k:Bool→P):P:=T.casesOn (motive_1:=fun _=>P) d z k (fun _=>z) (fun _=>z) (fun _=>z) (fun _=>z) (fun _=>z) (fun _ _=>z) fun _=>z
noncomputable def T.lk {P:Type} (d:T) (z:P) (k:List T→P):P:=T.casesOn (motive_1:=fun _=>P) d z (fun _=>z) (fun _=>z) (fun _=>z) k k (fun _=>z) (fun _ _=>z) fun _=>z
noncomputable def T.nk {P:Type} (d:T) (z:P) (k:P):P:=T.casesOn (motive_1:=fun _=>P) d k (fun _=>z) (fun _=>z) (fun _=>z) (fun _=>z) (fun _=>z) (fun _=>z) (fun _ _=>z) fun _=>z
noncomputable def V.tk {P:Type} (v:V) (z:P) (k:T→P):P:=V.casesOn (motive:=fun _=>P) v k (fun _=>z) fun _ _=>z
noncomputable def fit (n:Nat):Bool:=dm n 16777216
theorem cI {n:Nat} (h:fit n=true):n≤sizeLine:=by rw [Bu];exact al h
theorem gE {n:Nat} (h:n≤16777216):fit n=true:=bu h
noncomputable def nY (i:Int):Bool:=decide (i.natAbs < 1073741824)
theorem pq {i:Int} (h:nY i=true):Builtin.Int.intBits i≤64:=by have:=of_decide_eq_true h;exact intBits_le_64 (by omega) (by omega)
noncomputable def oS (j:Int):Bool:=Int.rec (motive:=fun _=>Bool) (fun m=>dm m 16777216) (fun _=>false) j
noncomputable def Iq (j:Int) (n:Nat):Bool:=decide (-(n:Int)≤j)&&decide (j < 0)&&decide (-9223372036854775808≤j)
noncomputable def atK (es:List (T×T)) (k:T) (K:T→Prop):Prop:=∃ks,cR ks es=true∧dg ks k=true∧dd (eE es k) K
noncomputable def atD (es:List (T×V)) (k:T) (K:V→Prop):Prop:=∃ks,cR ks es=true∧dg ks k=true∧dd (eE es k) K
section
variable (C:Cx)
noncomputable def Gk (o:Operator) (a b:T) (K:PV→Prop):Prop:=
 a.ik (∃r,eP C (binaryOp o) a b r∧K r) fun i=>b.ik (∃r,eP C (binaryOp o) a b r∧K r) fun j=>Operator.casesOn (motive:=fun _=>Prop) o (K (.t (.int (i+j)))) (K (.t (.int (i - j)))) (Br (nY j || nY i) (K (.t (.int (i*j)))) False) False False
  (Br (!decide (j=0)) (K (.t (.int (i.fmod j)))) False) (Br (decide (0≤j)&&decide (j≤1000)&&nY i) (K (.t (.int (i ^ j.toNat)))) False) False (Br (decide (0≤j)) (K (.t (.int (i.fdiv (2 ^ j.toNat))))) False) (K (.t (.int (Builtin.bitOr i j)))) False (K (.t (.int (Builtin.bitAnd i j))))
  (Br (!decide (j=0)&&nY j) (K (.t (.int (i.fdiv j)))) False)
noncomputable def Gj (o:Operator) (a b:T) (K:PV→Prop):Prop:=a.ik False fun i=>b.ik False fun j=>Operator.casesOn (motive:=fun _=>Prop) o (K (.t (.int (i+j)))) (K (.t (.int (i - j)))) False False False False False False False False False False False
noncomputable def IV (o:CmpOp) (a b:T) (K:Bool→Prop):Prop:=
 CmpOp.casesOn (motive:=fun _=>Prop) o
  (a.ik (a.sk (∃q,eP C (compareOp o) a b (.t (.bool q))∧K q) fun i=>b.sk False fun j=>K (i==j)) fun i=>b.ik False fun j=>K (i==j))
  (a.ik (a.sk (∃q,eP C (compareOp o) a b (.t (.bool q))∧K q) fun i=>b.sk False fun j=>K (i != j)) fun i=>b.ik False fun j=>K (i != j))
  (a.ik (∃q,eP C (compareOp o) a b (.t (.bool q))∧K q) fun i=>b.ik False fun j=>K (decide (i < j)))
  (a.ik False fun i=>b.ik False fun j=>K (decide (i≤j))) (a.ik False fun i=>b.ik False fun j=>K (decide (i > j))) (a.ik False fun i=>b.ik False fun j=>K (decide (i≥j)))
  (b.nk False (Br a.isRaw False (K a.isNone))) (b.nk False (Br a.isRaw False (K (!a.isNone))))
  (b.dctK (∃q,eP C (compareOp o) a b (.t (.bool q))∧K q) fun es=>∃ks,cR ks es=true∧dg ks a=true∧K (eE es a).isSome) (b.dctK False fun es=>∃ks,cR ks es=true∧dg ks a=true∧K (!(eE es a).isSome))
noncomputable def inD (o:CmpOp) (es:List (T×V)) (a:T) (K:Bool→Prop):Prop:=∃ks,cR ks es=true∧dg ks a=true∧CmpOp.casesOn (motive:=fun _=>Prop) o False False False False False False False False (K (eE es a).isSome) (K (!(eE es a).isSome))
noncomputable def GH (a i:T) (K:PV→Prop):Prop:=
 T.casesOn (motive_1:=fun _=>Prop) a False (fun _=>False) (fun _=>False) (fun _=>False) (fun ts=>i.ik False fun j=>Br (oS j) (dd ts[j.toNat]? fun d=>K (.t d)) False)
  (fun ts=>i.ik False fun j=>Br (oS j) (dd ts[j.toNat]? fun d=>K (.t d)) (Br (Iq j ts.length) (dd ts[(j+ts.length).toNat]? fun d=>K (.t d)) False)) (fun es=>atK es i fun d=>K (.t d)) (fun _ _=>False) fun _=>False
noncomputable def E9 (a:T) (lo hi st:Option Int) (K:PV→Prop):Prop:=
 T.casesOn (motive_1:=fun _=>Prop) a False (fun _=>False) (fun _=>False) (fun _=>False) (fun _=>∃r,gJ C a lo hi st r∧K r) (fun ts=>an (motive:=fun _=>Prop) st (Br (fit ts.length) (K (.lst (cJ ts lo hi))) False) fun _=>∃r,gJ C a lo hi st r∧K r) (fun _=>False) (fun _ _=>False) fun _=>∃r,gJ C a lo hi st r∧K r
variable {C}
theorem wf {p:Prop} [Decidable p] (h:(!decide p)=true): ¬p:=by
 walk_at "a"
 exact fun q=>by rw [decide_eq_true q] at h;cases h
 walk_at "z"
theorem T.ikE {d:T} {z:Prop} {k:Int→Prop} (h:d.ik z k) {G:T→Prop} (f:∀i,k i→G (.int i)) (g:z→G d):G d:=by
 walk_at "a"
 cases d with
 | int i=>exact f i h
 | _=>exact g h
 walk_at "z"
theorem T.skE {d:T} {z:Prop} {k:Str→Prop} (h:d.sk z k) {G:T→Prop} (f:∀i,k i→G (.str i)) (g:z→G d):G d:=by
 walk_at "a"
 cases d with
 | str i=>exact f i h
 | _=>exact g h
 walk_at "z"
theorem T.nkE {d:T} {z k:Prop} (h:d.nk z k) {G:T→Prop} (f:k→G .none) (g:z→G d):G d:=by
 walk_at "a"
 cases d with
 | none=>exact f h
 | _=>exact g h
 walk_at "z"
theorem T.dctKE {d:T} {z:Prop} {k:List (T×T)→Prop} (h:d.dctK z k) {G:T→Prop} (f:∀i,k i→G (.dct i)) (g:z→G d):G d:=by
 walk_at "a"
 cases d with
 | dct i=>exact f i h
 | _=>exact g h
 walk_at "z"
theorem zY {d e:T} {z:Prop} {k:Int→Int→Prop} (h:d.ik z fun i=>e.ik z (k i)) {G:T→T→Prop} (f:∀i j,k i j→G (.int i) (.int j)) (g:z→G d e):G d e:=by
 walk_at "a"
 cases d with
 | int i=>exact T.ikE (d:=e) (z:=z) (k:=k i) (G:=fun e=>(z→G (.int i) e)→G (.int i) e) h (fun j x _=>f i j x) (fun x g=>g x) g
 | _=>exact g h
 walk_at "z"
theorem CB {o:Operator} {a b:T} {K:PV→Prop} (h:Gk C o a b K):∃r,eP C (binaryOp o) a b r∧K r:=by
 walk_at "a"
 refine zY (G:=fun a b=>∃r,eP C (binaryOp o) a b r∧K r) h (fun i j h=>?_) id
 cases o with
 | Add=>exact⟨_,IL i j,h⟩
 | Sub=>exact⟨_,K8 i j,h⟩
 | Mult=>exact⟨_,JE i j ((c9.mp (Br.yes h).1).elim (fun q=> .of_right (pq q)) fun q=> .of_left (pq q)),(Br.yes h).2⟩
 | Mod=>exact⟨_,JC i j (wf (Br.yes h).1),(Br.yes h).2⟩
 | Pow=>
  have a:=aa.mp (Br.yes h).1
  have b:=aa.mp a.1
  exact⟨_,JQ i j (of_decide_eq_true b.1) (eH (of_decide_eq_true b.2) (by decide)) (cN (of_decide_eq_true a.2) (by decide)),(Br.yes h).2⟩
 | RShift=>exact⟨_,K4 i j (of_decide_eq_true (Br.yes h).1),(Br.yes h).2⟩
 | BitOr=>exact⟨_,LC i j,h⟩
 | BitAnd=>exact⟨_,IN i j,h⟩
 | FloorDiv=>
  have a:=aa.mp (Br.yes h).1
  exact⟨_,IW i j (wf a.1) (of_decide_eq_true a.2),(Br.yes h).2⟩
 | _=>exact False.elim h
 walk_at "z"
theorem CA {o:Operator} {a b:T} {K:PV→Prop} (h:Gj o a b K):∃r,eP C (inplaceOp o) a b r∧K r:=by
 refine zY (G:=fun a b=>∃r,eP C (inplaceOp o) a b r∧K r) h (fun i j h=>?_) False.elim
 cases o with
 | Add=>exact⟨_,GG i j,h⟩
 | Sub=>exact⟨_,GR i j,h⟩
 | _=>exact False.elim h
theorem ul {Φ:cj} {h:Heap} {ks:KS} {k:T} {v:Value} (hk:dg ks k=true) (x:AT C Φ h k v):TR C Φ k v:=by
 cases ks with
 | int=>obtain⟨i,rfl⟩:=eF hk;exact x
 | str=>obtain⟨i,rfl⟩:=gS hk;exact x
 | tup=>obtain⟨i,rfl,_⟩:=gT hk;exact x
theorem GJ {es:List (T×T)} {k:T} (ks:KS) (hes:cR ks es=true) (hk:dg ks k=true):eP C (compareOp .In) k (.dct es) (.t (.bool (eE es k).isSome)):=
 .mk fun A Φ s ca cb hA M ha hb=>cD.of M.sub fun Q hq=>EP hb.d M.sub hA hes hk (ul hk ha) fun tk=>hq _ tk (.bool _)
theorem xY {es:List (T×T)} {k:T} (ks:KS) (hes:cR ks es=true) (hk:dg ks k=true):eP C (compareOp .NotIn) k (.dct es) (.t (.bool (!(eE es k).isSome))):=
 .mk fun A Φ s ca cb hA M ha hb=>cD.of M.sub fun Q hq=>sA hb.d M.sub hA hes hk (ul hk ha) fun tk=>hq _ tk (.bool _)
theorem D4 {es:List (T×T)} {k d:T} (ks:KS) (hes:cR ks es=true) (hk:dg ks k=true) (hd:eE es k=some d):si C (.dct es) k (.t d):=
 .mk fun A Φ s ca ci value slice hA M ha hi hs=>cD.of M.sub fun Q hq=>by
  have:=zx (E:=oj) ha.d M.sub hA hes hk hi hd (Q:=Q) fun v tk hv=>hq v tk hv
  exact gM this.1 slot_dict_getitem.lookup this.2 hs
theorem Lf (d:T) (h:d.isRaw=false):eP C (compareOp .Is) d .none (.t (.bool d.isNone)):=by
 walk_at "a"
 refine .mk fun A Φ s ca cb hA M ha hb=>?_
 cases (show cb= .none from hb)
 obtain⟨p,⟨e,rfl⟩ | ⟨e,ne⟩⟩:=ha.plain h
 · exact cD.of M.sub fun Q hq=>wpAny_is_plain p (hq _ s.toks (by rw [e];exact .bool _))
 · exact cD.of M.sub fun Q hq=>wpAny_is_plain p (hq _ s.toks (by rw [e,beq_false_of_ne ne];exact .bool _))
 walk_at "z"
theorem D9 (d:T) (h:d.isRaw=false):eP C (compareOp .IsNot) d .none (.t (.bool !d.isNone)):=by
 walk_at "a"
 refine .mk fun A Φ s ca cb hA M ha hb=>?_
 cases (show cb= .none from hb)
 obtain⟨p,⟨e,rfl⟩ | ⟨e,ne⟩⟩:=ha.plain h
 · exact cD.of M.sub fun Q hq=>wpAny_isNot_plain p (hq _ s.toks (by rw [e];exact .bool _))
 · exact cD.of M.sub fun Q hq=>wpAny_isNot_plain p (hq _ s.toks (by rw [e,beq_false_of_ne ne];exact .bool _))
 walk_at "z"
theorem zH {o:CmpOp} {a b:T} {K:Bool→Prop} {fi:Int→Int→Bool} {fs:Str→Str→Bool} (h:a.ik (a.sk (∃q,eP C (compareOp o) a b (.t (.bool q))∧K q) fun i=>b.sk False fun j=>K (fs i j)) fun i=>b.ik False fun j=>K (fi i j))
 (ki:∀i j,eP C (compareOp o) (.int i) (.int j) (.t (.bool (fi i j)))) (ks:∀i j,eP C (compareOp o) (.str i) (.str j) (.t (.bool (fs i j)))):∃q,eP C (compareOp o) a b (.t (.bool q))∧K q:=
 T.ikE (G:=fun a=>∃q,eP C (compareOp o) a b (.t (.bool q))∧K q) h (fun i h=>T.ikE (G:=fun b=>∃q,eP C (compareOp o) _ b (.t (.bool q))∧K q) h (fun j h=>⟨_,ki i j,h⟩) False.elim)
  fun h=>T.skE (G:=fun a=>(∃q,eP C (compareOp o) a b (.t (.bool q))∧K q)) h (fun i h=>T.skE (G:=fun b=>∃q,eP C (compareOp o) _ b (.t (.bool q))∧K q) h (fun j h=>⟨_,ks i j,h⟩) False.elim) id
theorem uf {o:CmpOp} {a b:T} {K:Bool→Prop} {fi:Int→Int→Bool} (h:a.ik False fun i=>b.ik False fun j=>K (fi i j)) (ki:∀i j,eP C (compareOp o) (.int i) (.int j) (.t (.bool (fi i j)))):∃q,eP C (compareOp o) a b (.t (.bool q))∧K q:=
 zY (G:=fun a b=>∃q,eP C (compareOp o) a b (.t (.bool q))∧K q) h (fun i j h=>⟨_,ki i j,h⟩) False.elim
theorem CL {o:CmpOp} {a b:T} {K:Bool→Prop} (h:IV C o a b K):∃q,eP C (compareOp o) a b (.t (.bool q))∧K q:=by
 walk_at "a"
 cases o with
 | Eq=>exact zH h L2 L4
 | NotEq=>exact zH h Lv Lw
 | Lt=>exact T.ikE (G:=fun a=>∃q,eP C (compareOp .Lt) a b (.t (.bool q))∧K q) h (fun i h=>T.ikE (G:=fun b=>∃q,eP C (compareOp .Lt) _ b (.t (.bool q))∧K q) h (fun j h=>⟨_,Lp i j,h⟩) False.elim) id
 | LtE=>exact uf h Ll
 | Gt=>exact uf h L6
 | GtE=>exact uf h L5
 | Is=>exact T.nkE (G:=fun b=>∃q,eP C (compareOp .Is) a b (.t (.bool q))∧K q) h (fun h=>Br.elim h (fun _ x=>x.elim) fun e x=>⟨_,Lf _ e,x⟩) False.elim
 | IsNot=>exact T.nkE (G:=fun b=>∃q,eP C (compareOp .IsNot) a b (.t (.bool q))∧K q) h (fun h=>Br.elim h (fun _ x=>x.elim) fun e x=>⟨_,D9 _ e,x⟩) False.elim
 | In=>exact T.dctKE (G:=fun b=>∃q,eP C (compareOp .In) a b (.t (.bool q))∧K q) h (fun es h=>by obtain⟨ks,h1,h2,h3⟩:=h;exact⟨_,GJ ks h1 h2,h3⟩) id
 | NotIn=>exact T.dctKE (G:=fun b=>∃q,eP C (compareOp .NotIn) a b (.t (.bool q))∧K q) h (fun es h=>by obtain⟨ks,h1,h2,h3⟩:=h;exact⟨_,xY ks h1 h2,h3⟩) False.elim
 walk_at "z"
theorem kA {j:Int} (h:oS j=true):0≤j∧j < 2 ^ 63:=by
 cases j with
 | ofNat m=>exact⟨bP m,bn.mpr (aR (al h) (by decide:16777216 < 2 ^ 63))⟩
 | negSucc m=>cases h
theorem D3 {a i:T} {K:PV→Prop} (h:GH a i K):∃r,si C a i r∧K r:=by
 walk_at "a"
 unfold GH at h
 cases a with
 | tup ts=>
  cases i <;> try exact False.elim h
  obtain⟨e,h⟩:=Br.yes h
  exact dd.elim h fun d hd x=>⟨_,D7 (kA e).1 (kA e).2 hd,x⟩
 | lst ts=>
  cases i <;> try exact False.elim h
  refine Br.elim h (fun e h=>dd.elim h fun d hd x=>⟨_,D5 (kA e).1 (kA e).2 hd,x⟩) fun _ h=>?_
  obtain⟨e,h⟩:=Br.yes h
  have a:=aa.mp e
  have b:=aa.mp a.1
  exact dd.elim h fun d hd x=>⟨_,D6 (of_decide_eq_true b.2) (of_decide_eq_true b.1) (of_decide_eq_true a.2) hd,x⟩
 | dct es=>obtain⟨ks,h1,h2,h3⟩:=h;exact dd.elim h3 fun d hd x=>⟨_,D4 ks h1 h2 hd,x⟩
 | _=>exact False.elim h
 walk_at "z"
theorem Ea {a:T} {lo hi st:Option Int} {K:PV→Prop} (h:E9 C a lo hi st K):∃r,gJ C a lo hi st r∧K r:=by
 walk_at "a"
 unfold E9 at h
 cases a with
 | tup ts=>exact h
 | raw ts=>exact h
 | lst ts=>
  cases st with
  | none=>obtain⟨e,h⟩:=Br.yes h;exact⟨_,yn (cI e),h⟩
  | some s=>exact h
 | _=>exact False.elim h
 walk_at "z"
end
noncomputable def nu (ρ:aF):Nat→Option V:=List.rec (motive:=fun _=>Nat→Option V) (fun _=>none) (fun v _ ih i=>fu (motive:=fun _=>Option V) i v ih) ρ
theorem lh {ρ:aF}:∀{i:Nat} {v:V},nu ρ i=some v→(ρ:List (Option V))[i]? =some (some v):=by
 induction ρ with
 | nil=>intro i v h;cases h
 | cons a r ih=>intro i v h;cases i with
  | zero=>exact congrArg some h
  | succ i=>exact ih h
noncomputable def E1 (H:Hp) (v:V) (kt:T→Prop) (kd:List (T×V)→Prop):Prop:=V.casesOn (motive:=fun _=>Prop) v kt (fun n=>dd (H.lookup n) fun o=>pO o (fun ts=>kt (.lst ts)) kd kt fun es=>kt (.dct es)) fun _ _=>False
noncomputable def js (v:V) (K:Int→Prop):Prop:=v.tk False fun d=>d.ik False K
noncomputable def cK (v:V) (K:Bool→Prop):Prop:=v.tk False fun d=>d.bk False K
section
variable {C:Cx} {sc:Scope} {n:Nat} {ρ:aF} {H:Hp}
theorem rG {g:cj} {p:Pt} {v:V} {cv:Value} {kt:T→Prop} {kd:List (T×V)→Prop} (R:bc C g H p) (x:eC C H p v cv) (h:E1 H v kt kd) {G:Prop} (k1:∀d,AT C p.Φ p.s.heap d cv→kt d→G) (k2:∀m es,v= .ref m→H.lookup m=some (.dict es)→vi C p.Φ (VR C p.Φ p.μ) p.s.heap es cv→kd es→G):G:=by
 walk_at "a"
 cases v with
 | t d=>exact k1 d (AT.of R.sub x.1) h
 | iref _ _=>exact False.elim h
 | ref m=>
  refine dd.elim (show dd (H.lookup m) _ from h) fun o e h=>?_
  have vw:∀d,jQ H (.ref m)=some d→AT C p.Φ p.s.heap d cv:=fun d e=>j7 R e x
  have ev:jQ H (.ref m)=an (motive:=fun _=>Option T) (H.lookup m) none fun o=>pO o (fun ts=>some (.lst ts)) (fun _=>none) some fun es=>some (.dct es):=rfl
  rw [e] at ev
  cases o with
  | list ts=>exact k1 _ (vw _ ev) h
  | frz d=>exact k1 _ (vw _ ev) h
  | tdct es=>exact k1 _ (vw _ ev) h
  | dict es=>
   refine k2 m es rfl e ?_ h
   cases (show cv= .ref (p.μ m) from x.1)
   exact R.alive e rfl fun ob h1 h2 h3 _ _=> .mk (beq_false_of_ne fun q=>gH R.base (q▸h3)) h1 h2
 walk_at "z"
theorem bc.tok {g:cj} {p:Pt} (R:bc C g H p) (k:Nat):f5 C g H p H ⟨p.Φ,p.μ,{p.s with toks:=k}⟩:=R.grow ⟨⟨_,_,rfl⟩,fun _ _ e=>e,Le.refl _,fun _ _=>rfl,R.sub⟩
theorem bc.more {g:cj} {p:Pt} (R:bc C g H p) {s':Shared} (sm:eQ p.s s') (k:∀b o,p.s.heap.get? b=some o→s'.heap.get? b=some o):f5 C g H p H ⟨p.Φ,p.μ,s'⟩:=R.grow ⟨sm,k,Le.refl _,fun _ _=>rfl,fun b o e=>k _ _ (R.sub _ _ e)⟩
theorem FR.ok2 {F:Fm} {p:Pt} (fr:FR C sc (n+2) ρ F H p):lH 2 F.A:=fr.ok.le (cM 2 n)
theorem G3 {x:Str} {pos:Pos} {i:Nat} {k:NameKind} {Q:V→Hp→Prop} (hf:iy sc.names x 0=some (i,k)) (hn:(k== .local || k== .cell || k== .free)=true) (hd:(x==("__debug__":Str))=false) (hd2:(x==("__classdict__":Str))=false) (h:dd (nu ρ i) fun v=>Q v H):WE C sc n (.Name x pos) ρ H Q:=
 fun F p fr R P k=>dd.elim h fun v e h=>wpAny_Name (fr.load R hf (lh e) hn hd2 fun cv x=>k cv p v H (.refl R) x h) hd
theorem G2 {i:Int} {k:Nat} {pos:Pos} {Q:V→Hp→Prop} (h:Q (.t (.int i)) H):WE C sc n (.Constant (.int i) k pos) ρ H Q:=fun F p fr R P k=>wpAny_Constant_int (k _ _ _ _ (R.tok _) (TR.vri (.int i _)) h)
theorem G7 {i:Str} {k:Nat} {pos:Pos} {Q:V→Hp→Prop} (h:Q (.t (.str i)) H):WE C sc n (.Constant (.str i) k pos) ρ H Q:=fun F p fr R P k=>wpAny_Constant_str (k _ _ _ _ (R.tok _) (TR.vri (.str i _)) h)
theorem Ca {k:Nat} {pos:Pos} {Q:V→Hp→Prop} (h:Q (.t .none) H):WE C sc n (.Constant .none k pos) ρ H Q:=fun F p fr R P k=>wpAny_Constant_none (k _ _ _ _ (.refl R) (TR.vri .none) h)
theorem C6 {b:Bool} {k:Nat} {pos:Pos} {Q:V→Hp→Prop} (h:Q (.t (.bool b)) H):WE C sc n (.Constant (.bool b) k pos) ρ H Q:=fun F p fr R P k=>wpAny_Constant_bool (k _ _ _ _ (.refl R) (TR.vri (.bool b)) h)
structure eu (C:Cx):Prop where
 g:C.h0.Ns mainGlobals C.mg
 b:C.h0.Ns builtinsNs C.mb
 nolimit:C.h0.NoLimit
 blt:∀x:Str,x≠"__name__"→C.mb x=bootBuiltins x
 p1:mainGlobals≠C.P
 p2:builtinsNs≠C.P
 p3:cStatics≠C.P
 kin:C.K.In C.h0
 kP:C.K.lookup C.P=none
theorem t7 {Φ:cj} {h:Heap} {a:Addr} {m:Str→Option Value} (B:lT C Φ) (sb:Sub Φ h) (x:C.h0.Ns a m) (ne:a≠C.P):h.Ns a m:=by
 obtain⟨o,es,ep,e,r⟩:=x
 exact⟨o,es,ep,sb _ _ (B.2 _ _ ne e),r⟩
theorem oV (F:eu C) {Φ:cj} {h:Heap} (B:lT C Φ) (sb:Sub Φ h):C.K.In h:=by
 walk_at "a"
 exact fun a o e=>by
  have ne:a≠C.P:=fun q=>by rw [q,F.kP] at e;cases e
  exact sb _ _ (B.2 _ _ ne (F.kin _ _ e))
 walk_at "z"
theorem l8 (K:eu C) {F:Fm} {p:Pt} (fr:FR C sc (n+2) ρ F H p) (R:bc C F.g H p) {x:Str} {pos:Pos} {v:Value} {P:Value→Shared→Prop} (hx:sc.names.lookup x=some .globalImplicit) (hv:C.mg x=some v) (hd:(x==("__debug__":Str))=false) (h:P v p.s):Wp C F.A (eval (.Name x pos) F.env) P p.s:=
 Name_function_global fr.fk (fr.kin hx) (loadGlobal_global (mg:=C.mg) (by rw [fr.env.globals];exact t7 R.base R.sub K.g K.p1) hv h) hd
theorem fK (K:eu C) {F:Fm} {p:Pt} (fr:FR C sc (n+2) ρ F H p) (R:bc C F.g H p) {x:Str} {pos:Pos} {v:Value} {P:Value→Shared→Prop} (hx:sc.names.lookup x=some .globalImplicit) (hg:C.mg x=none) (hv:bootBuiltins x=some v) (hd:(x==("__debug__":Str))=false) (hn:x≠"__name__") (h:P v p.s):Wp C F.A (eval (.Name x pos) F.env) P p.s:=
 Name_function_global fr.fk (fr.kin hx) (loadGlobal_builtin (mg:=C.mg) (mb:=C.mb) (by rw [fr.env.globals];exact t7 R.base R.sub K.g K.p1) hg (by rw [fr.env.builtins];exact t7 R.base R.sub K.b K.p2) ((K.blt x hn).trans hv) h) hd
theorem FX {l r:Expr} {op:Operator} {pos:Pos} {Q:V→Hp→Prop} (h:WE C sc n l ρ H fun a H1=>WE C sc n r ρ H1 fun b H2=>dd (jQ H2 a) fun da=>dd (jQ H2 b) fun db=>Gk C op da db fun q=>lB q H2 Q):WE C sc n (.BinOp l op r pos) ρ H Q:=
 fun F p fr R P k=>wpAny_BinOp (h F p fr R _ fun ca p1 a H1 st1 va h1=>h1 F p1 (fr.step st1) st1.rel _ fun cb p2 b H2 st2 vb h2=>dd.elim h2 fun da ea h2=>dd.elim h2 fun db eb h2=>by
  obtain⟨r,ok,h3⟩:=CB h2
  exact cD.up st2.rel (ok.go _ _ _ _ _ fr.ok2 st2.rel.amb (j7 st2.rel ea (va.step st2)) (j7 st2.rel eb vb)) h3 fun cv p' v H' st3=>k cv p' v H' ((st1.trans st2).trans st3))
noncomputable def qg (C:Cx) (o:CmpOp) (H:Hp) (a b:V) (K:Bool→Prop):Prop:=dd (jQ H a) fun da=>E1 H b (fun db=>IV C o da db K) fun es=>inD o es da K
theorem jm {F:Fm} {p:Pt} (fr:FR C sc (n+2) ρ F H p) (R:bc C F.g H p) {o:CmpOp} {a b:V} {ca cb:Value} {K:Bool→Prop} (h:qg C o H a b K) (va:eC C H p a ca) (vb:eC C H p b cb) {P:Value→Shared→Prop}
 (k:∀q p',f5 C F.g H p H p'→K q→P (.bool q) p'.s):Wp C F.A (compareOp o ca cb) P p.s:=by
 walk_at "a"
 refine dd.elim h fun da ea h=>rG R vb h (fun db ab h=>?_) fun m es _ _ ab h=>?_
 · obtain⟨q,ok,h3⟩:=CL h
   exact ok.go _ _ _ _ _ fr.ok2 R.amb (j7 R ea va) ab P fun cv s' Φ' G x=>by cases (show cv= .bool q from x);exact k q ⟨Φ',p.μ,s'⟩ (R.grow G) h3
 · obtain⟨ks,h1,h2,h3⟩:=h
   have hk:=ul h2 (j7 R ea va)
   cases o with
   | In=>exact EP ab R.sub fr.ok h1 h2 hk fun tk=>k _ ⟨p.Φ,p.μ,_⟩ (R.tok tk) h3
   | NotIn=>exact sA ab R.sub fr.ok h1 h2 hk fun tk=>k _ ⟨p.Φ,p.μ,_⟩ (R.tok tk) h3
   | _=>exact False.elim h3
 walk_at "z"
theorem nJ {p:Pt} {v:V} {cv:Value} {K:Bool→Prop} (x:eC C H p v cv) (h:cK v K):∃b,cv= .bool b∧K b:=by
 walk_at "a"
 cases v with
 | t d=>
  cases d with
  | bool b=>exact⟨b,x.1,h⟩
  | _=>exact False.elim h
 | _=>exact False.elim h
 walk_at "z"
theorem ph {p:Pt} {v:V} {cv:Value} {K:Int→Prop} (x:eC C H p v cv) (h:js v K):∃i,v= .t (.int i)∧C0 i cv∧K i:=by
 walk_at "a"
 cases v with
 | t d=>
  cases d with
  | int i=>exact⟨i,rfl,TR.i (C:=C) (Φ:=p.Φ) x.1,h⟩
  | _=>exact False.elim h
 | _=>exact False.elim h
 walk_at "z"
theorem FV {e:Expr} {Q:Bool→Hp→Prop} (he:∀env whole,isTrue e env whole=(do let v ←whole;standAt e.pos;holding [v] (truthy v))) (h:WE C sc n e ρ H fun v H1=>cK v fun b=>Q b H1):WB C sc n e ρ H Q:=
 fun F p fr R P k=>wpAny_isTrue_value (h F p fr R _ fun cv p1 v H1 st1 x q=>by obtain⟨b,rfl,q⟩:=nJ x q;exact wpAny_truthy_bool (k b p1 H1 st1 q)) (he _ _)
theorem FU {x:Expr} {pos:Pos} {Q:Bool→Hp→Prop} (h:WB C sc n x ρ H fun b H'=>Q (!b) H'):WB C sc n (.UnaryOp .Not x pos) ρ H Q:=fun F p fr R P k=>wpAny_isTrue_Not (h F p fr R _ fun b p1 H1 st q=>k _ p1 H1 st q)
theorem G5 {x:Expr} {pos:Pos} {Q:V→Hp→Prop} (h:WE C sc n x ρ H fun v H1=>js v fun i=>Q (.t (.int (-i))) H1):WE C sc n (.UnaryOp .USub x pos) ρ H Q:=
 fun F p fr R P k=>wpAny_UnaryOp (h F p fr R _ fun cv p1 v H1 st x q=>by
  obtain⟨i,rfl,y,q⟩:=ph x q
  exact(JG i).go _ _ _ _ fr.ok2 st.rel.amb x.1 P fun cv s' Φ' G x=>k cv ⟨Φ',p1.μ,s'⟩ _ H1 (st.trans (st.rel.grow G)) (TR.vri (d:= .int (-i)) x) q)
theorem C4 {op:BoolOp} {es:List Expr} {pos:Pos} {Q:Bool→Hp→Prop} (h:WA C sc n op es ρ H Q):WB C sc n (.BoolOp op es pos) ρ H Q:=fun F p fr R P k=>wpAny_isTrue_BoolOp (h F p fr R P k)
theorem tO {Q:Bool→Hp→Prop} (h:Q true H):WA C sc n .And [] ρ H Q:=fun F p fr R P k=>wpAny_allTrue_And_nil (k _ p H (.refl R) h)
theorem wR {Q:Bool→Hp→Prop} (h:Q false H):WA C sc n .Or [] ρ H Q:=fun F p fr R P k=>wpAny_allTrue_Or_nil (k _ p H (.refl R) h)
theorem FS {x:Expr} {r:List Expr} {Q:Bool→Hp→Prop} (h:WB C sc n x ρ H fun b H'=>Br b (WA C sc n .And r ρ H' Q) (Q false H')):WA C sc n .And (x::r) ρ H Q:=fun F p fr R P k=>wpAny_allTrue_And_cons (h F p fr R _ fun b p1 H1 st q=>by
 cases b with
 | true=>exact(show WA C sc n .And r ρ H1 Q from q) F p1 (fr.step st) st.rel P fun b p2 H2 st2 q=>k b p2 H2 (st.trans st2) q
 | false=>exact k false p1 H1 st q)
theorem IC {x:Expr} {r:List Expr} {Q:Bool→Hp→Prop} (h:WB C sc n x ρ H fun b H'=>Br b (Q true H') (WA C sc n .Or r ρ H' Q)):WA C sc n .Or (x::r) ρ H Q:=by
 walk_at "a"
 exact fun F p fr R P k=>wpAny_allTrue_Or_cons (h F p fr R _ fun b p1 H1 st q=>by
  cases b with
  | false=>exact(show WA C sc n .Or r ρ H1 Q from q) F p1 (fr.step st) st.rel P fun b p2 H2 st2 q=>k b p2 H2 (st.trans st2) q
  | true=>exact k true p1 H1 st q)
 walk_at "z"
theorem WE.back {e:Expr} {H0:Hp} {p0:Pt} {Q:V→Hp→Prop} {F:Fm} {p:Pt} (h:WE C sc n e ρ H Q) (fr:FR C sc (n+2) ρ F H p) (st:f5 C F.g H0 p0 H p) {P:Value→Shared→Prop} (k:∀cv p' v H',f5 C F.g H0 p0 H' p'→eC C H' p' v cv→Q v H'→P cv p'.s):Wp C F.A (eval e F.env) P p.s:=
 h F p fr st.rel P fun cv p' v H' st2=>k cv p' v H' (st.trans st2)
theorem FW {e1 e2:Expr} {pos:Pos} {Q:V→Hp→Prop} (h:WE C sc n e1 ρ H fun v H1=>cK v fun b=>Br b (WE C sc n e2 ρ H1 Q) (Q (.t (.bool false)) H1)):WE C sc n (.BoolOp .And [e1,e2] pos) ρ H Q:=by
 walk_at "a"
 exact fun F p fr R P k=>BoolOp_and (h F p fr R _ fun cv p1 v H1 st x q=>by
  obtain⟨b,rfl,q⟩:=nJ x q
  refine wpAny_truthy_bool ?_
  cases b with
  | true=>exact BoolOp_one (WE.back (show WE C sc n e2 ρ H1 Q from q) (fr.step st) st k)
  | false=>exact k _ p1 _ H1 st (TR.vri (.bool false)) q)
 walk_at "z"
theorem IE {e1 e2:Expr} {pos:Pos} {Q:V→Hp→Prop} (h:WE C sc n e1 ρ H fun v H1=>cK v fun b=>Br b (Q (.t (.bool true)) H1) (WE C sc n e2 ρ H1 Q)):WE C sc n (.BoolOp .Or [e1,e2] pos) ρ H Q:=by
 walk_at "a"
 exact fun F p fr R P k=>BoolOp_or (h F p fr R _ fun cv p1 v H1 st x q=>by
  obtain⟨b,rfl,q⟩:=nJ x q
  refine wpAny_truthy_bool ?_
  cases b with
  | false=>exact BoolOp_one (WE.back (show WE C sc n e2 ρ H1 Q from q) (fr.step st) st k)
  | true=>exact k _ p1 _ H1 st (TR.vri (.bool true)) q)
 walk_at "z"
theorem G1 {t b o:Expr} {pos:Pos} {Q:V→Hp→Prop} (h:WB C sc n t ρ H fun q H'=>Br q (WE C sc n b ρ H' Q) (WE C sc n o ρ H' Q)):WE C sc n (.IfExp t b o pos) ρ H Q:=by
 walk_at "a"
 exact fun F p fr R P k=>wpAny_IfExp (h F p fr R _ fun q p1 H1 st h=>by
  cases q with
  | true=>exact WE.back (show WE C sc n b ρ H1 Q from h) (fr.step st) st k
  | false=>exact WE.back (show WE C sc n o ρ H1 Q from h) (fr.step st) st k)
 walk_at "z"
noncomputable def K7 (H:Hp) (a i:V) (K:V→Hp→Prop):Prop:=i.tk False fun di=>E1 H a (fun d=>GH d di fun q=>lB q H K) fun es=>atD es di fun w=>K w H
theorem G8 {v i:Expr} {pos:Pos} {Q:V→Hp→Prop} (hs:∀o j,∃ops,subscripted i false o j=operate ops (getItem o j)) (h:WE C sc n v ρ H fun a H1=>WE C sc n i ρ H1 fun b H2=>K7 H2 a b Q):WE C sc n (.Subscript v i pos) ρ H Q:=by
 walk_at "a"
 exact fun F p fr R P k=>Subscript_ (h F p fr R _ fun ca p1 a H1 st1 va h1=>h1 F p1 (fr.step st1) st1.rel _ fun cb p2 b H2 st2 vb h2=>by
  have st:=st1.trans st2
  cases b with
  | ref _=>exact False.elim h2
  | iref _ _=>exact False.elim h2
  | t di=>
  refine rG st2.rel (va.step st2) h2 (fun d x h=>?_) fun m es ev em x h=>?_
  · obtain⟨r,ok,h3⟩:=D3 h
    exact cD.up st2.rel (ok.go _ _ _ _ _ _ _ fr.ok2 st2.rel.amb x vb.1 hs) h3 fun cv p' v H' st3=>k cv p' v H' (st.trans st3)
  · obtain⟨ks,h1,h2,h3⟩:=h
    refine dd.elim h3 fun w hw h3=>?_
    have y:=zx (E:=oj) x st2.rel.sub fr.ok h1 h2 vb.1 hw (Q:=P) fun v tk hv=>k v ⟨p2.Φ,p2.μ,_⟩ w H2 (st.trans (st2.rel.tok tk)) ⟨hv,fun j hj=>st2.rel.ids m _ em j (aG.mpr ?_)⟩ h3
    · exact gM y.1 slot_dict_getitem.lookup y.2 hs
    · obtain⟨e,e1,e2⟩:=aE.mp hw
      exact⟨e,jg e1,by rw [e2];exact hj⟩)
 walk_at "z"
noncomputable def WP (C:Cx) (sc:Scope) (n:Nat) (e:Option Expr) (ρ:aF) (H:Hp) (Q:Option Int→Hp→Prop):Prop:=an (motive:=fun _=>Prop) e (Q none H) fun e=>WE C sc n e ρ H fun v H1=>js v fun i=>Q (some i) H1
theorem WP.run {e:Option Expr} {Q:Option Int→Hp→Prop} (h:WP C sc n e ρ H Q) {F:Fm} {p:Pt} (fr:FR C sc (n+2) ρ F H p) (R:bc C F.g H p) {P:Value→Shared→Prop} (k:∀cv p' i H',f5 C F.g H p H' p'→IsPart cv i→Q i H'→P cv p'.s):Wp C F.A (evalPart e F.env) P p.s:=by
 cases e with
 | none=>rw [evalPart_none];exact wpAny_pure (k _ p none H (.refl R) .none h)
 | some e=>
  rw [evalPart_some]
  refine(show WE C sc n e ρ H _ from h) F p fr R P fun cv p1 v H1 st x q=>?_
  obtain⟨i,_,y,q⟩:=ph x q
  cases y
  exact k _ p1 _ H1 st (.int _ _) q
theorem G6 {v:Expr} {lo hi st:Option Expr} {p0 pos:Pos} {Q:V→Hp→Prop} (h:WE C sc n v ρ H fun a H1=>WP C sc n lo ρ H1 fun l H2=>WP C sc n hi ρ H2 fun u H3=>WP C sc n st ρ H3 fun t H4=>dd (jQ H4 a) fun da=>E9 C da l u t fun q=>lB q H4 Q):WE C sc n (.Subscript v (.Slice lo hi st p0) pos) ρ H Q:=by
 walk_at "a"
 exact fun F p fr R P k=>Subscript_ (h F p fr R _ fun ca p1 a H1 s1 va h1=>wpAny_Slice (h1.run (fr.step s1) s1.rel fun cl p2 l H2 s2 hl h2=>h2.run ((fr.step s1).step s2) s2.rel fun cu p3 u H3 s3 hu h3=>h3.run (((fr.step s1).step s2).step s3) s3.rel fun ct p4 t H4 s4 ht h4=>dd.elim h4 fun da e h4=>by
  obtain⟨r,ok,h5⟩:=Ea h4
  have s5:=s4.rel.more (s':={p4.s with heap:=p4.s.heap.push {cls:= .type "slice",data:= .fields #[cl,cu,ct]}}) ⟨_,_,rfl⟩ (fun b o e=>am _ e)
  exact cD.up s5.rel (ok.go _ _ _ _ _ _ _ _ v _ fr.ok2 s5.rel.amb (j7 s5.rel e ((((va.step s2).step s3).step s4).step s5)) (Heap.IsSliceOf.new ..) hl hu ht (fun o i=>by cases st <;> exact⟨_,rfl⟩)) h5 fun cv p' v H' s6=>k cv p' v H' ((((s1.trans s2).trans s3).trans (s4.trans s5)).trans s6)))
 walk_at "z"
theorem oH {Q:List V→Hp→Prop} (h:Q [] H):WL C sc n [] ρ H Q:=fun F p fr R pos P k=>wpAny_items_nil (k _ p _ H (.refl R) .nil h)
theorem jx {e:Expr} {r:List Expr} {Q:List V→Hp→Prop} (he:∀env,starEach (e::r) env=(false,eval e env)::starEach r env) (h:WE C sc n e ρ H fun v H1=>WL C sc n r ρ H1 fun vs H2=>Q (v::vs) H2):WL C sc n (e::r) ρ H Q:=
 fun F p fr R pos P k=>wpAny_items_cons (h F p fr R _ fun cv p1 v H1 st1 x h1=>h1 F p1 (fr.step st1) st1.rel pos _ fun cvs p2 vs H2 st2 xs q=>k _ p2 _ H2 (st1.trans st2) (.cons (x.step st2) xs) q) (he _)
theorem EA {g:cj} {p:Pt} (R:bc C g H p) {ts:List T} {vs:List Value} (x:eD C p.Φ ts vs) {P:Prop} (k:f5 C g H p ((eN H, .list ts)::H) ⟨p.Φ,fun m=>if m=eN H then p.s.heap.objs.size else p.μ m,{p.s with heap:=p.s.heap.push (listOf vs.toArray 0)}⟩→VR C p.Φ (fun m=>if m=eN H then p.s.heap.objs.size else p.μ m) (.ref (eN H)) (.ref p.s.heap.objs.size)→P):P:=by
 walk_at "a"
 have st:=R.more (s':={p.s with heap:=p.s.heap.push (listOf vs.toArray 0)}) ⟨_,_,rfl⟩ (fun b o e=>am _ e)
 refine k (st.trans (st.rel.alloc (o:= .list ts) (iC H) (aC _ rfl) (.mk _ 0 x) (eG R.sub (cS _)) (eG R.gsub (cS _)) (fun m o e l q=>R.alive e l fun ob z _ _ _ _=>?_) fun _ hk=>nomatch hk)) (congrArg Value.ref (if_pos rfl).symm)
 rw [q,cS] at z;cases z
 walk_at "z"
theorem G9 {es:List Expr} {k:Nat} {pos:Pos} {Q:V→Hp→Prop} (h:WL C sc n es ρ H fun vs H1=>nI vs H1 fun ds H2=>Br (fit ds.length) (Q (.t (.tup ds)) H2) False):WE C sc n (.Tuple es k pos) ρ H Q:=
 fun F p fr R P k=>wpAny_Tuple (h F p fr R pos _ fun cvs p1 vs H1 st1 xs q=>jO st1.rel xs q fun ds H2 p2 st2 e2 tr q=>by
  obtain⟨f,q⟩:=Br.yes q
  refine⟨by rw [←tr.length];exact cI f,?_⟩
  rw [←e2]
  exact qN.tup (s':={p2.s with heap:=p2.s.heap.push (gm cvs.toArray 0)}) st2.rel.sub ⟨_,_,rfl⟩ (fun b o e=>am _ e) (cS _) tr (aC _ rfl) fun Φ' G x=>k _ ⟨Φ',p2.μ,_⟩ _ H2 ((st1.trans st2).trans (st2.rel.grow G)) (TR.vri x) q)
theorem G4 {es:List Expr} {pos:Pos} {Q:V→Hp→Prop} (h:WL C sc n es ρ H fun vs H1=>nI vs H1 fun ds H2=>Br (fit ds.length) (Q (.ref (eN H2)) ((eN H2, .list ds)::H2)) False):WE C sc n (.List es pos) ρ H Q:=by
 walk_at "a"
 exact fun F p fr R P k=>wpAny_List (h F p fr R pos _ fun cvs p1 vs H1 st1 xs q=>jO st1.rel xs q fun ds H2 p2 st2 e2 tr q=>by
  obtain⟨f,q⟩:=Br.yes q
  refine⟨by rw [←tr.length];exact cI f,?_⟩
  rw [←e2]
  exact EA st2.rel tr fun st3 x=>k _ _ _ _ ((st1.trans st2).trans st3) ⟨x,fun m hm=>by rw [af.mp hm,be];rfl⟩ q)
 walk_at "z"
end
noncomputable def V.ren (r:Nat→Nat) (v:V):V:=V.casesOn (motive:=fun _=>V) v .t (fun n=> .ref (r n)) fun Cl n=> .iref Cl (r n)
noncomputable def O.ren (r:Nat→Nat) (o:O):O:=O.casesOn (motive:=fun _=>O) o .list (fun es=> .dict (es.map fun e=>(e.1,e.2.ren r))) .frz .tdct
theorem VR.ren {C:Cx} {Φ:cj} {μ:Mu} {r f:Nat→Nat} {v:V} {cv:Value} (x:VR C Φ μ v cv) (h:∀j∈v.ids,f (r j)=j):VR C Φ (fun k=>μ (f k)) (v.ren r) cv:=by
 cases v with
 | t d=>exact x
 | ref n=>exact(show cv= .ref (μ n) from x).trans (congrArg (fun z=>Value.ref (μ z)) (h n (.head _)).symm)
 | iref Cl n=>obtain⟨a,e,z⟩:=x;exact⟨a,e,by show Φ a=some (instObj Cl (μ (f (r n))));rw [h n (.head _)];exact z⟩
theorem OR.ren {C:Cx} {Φ:cj} {μ:Mu} {r f:Nat→Nat} {o:O} {ob:Obj} (x:OR C Φ μ o ob) (h:∀j∈o.ids,f (r j)=j):OR C Φ (fun k=>μ (f k)) (o.ren r) ob:=by
 walk_at "a"
 cases o with
 | list ts=>exact x
 | frz d=>exact x
 | tdct es=>exact x
 | dict es=>
  cases (show cL C (TR C Φ) (VR C Φ μ) es ob from x) with | mk arr n a b y d=>
  show cL C (TR C Φ) (VR C Φ fun k=>μ (f k)) (es.map fun e=>(e.1,e.2.ren r)) ob
  refine cL.mk arr n a b ?_ (by rw [aO];exact d)
  have h':∀e∈es,∀j∈e.2.ids,f (r j)=j:=fun e he j hj=>h j (aG.mpr ⟨e,he,hj⟩)
  clear h d b x
  generalize arr.toList=l at y
  induction y with
  | nil=>exact .nil
  | cons e _ ih=>cases e with | mk e1 e2 e3=>exact .cons (.mk e1 e2 (VR.ren e3 (h' _ (.head _)))) (ih fun e he=>h' e (.tail _ he))
 walk_at "z"
theorem O.ren_ids {r:Nat→Nat} {o:O} {j:Nat} (h:j∈(o.ren r).ids):∃i∈o.ids,j=r i:=by
 walk_at "a"
 cases o with
 | list ts=>cases h
 | frz d=>cases h
 | tdct es=>cases h
 | dict es=>
  obtain⟨e,he,hj⟩:=aG.mp h
  obtain⟨e',he',rfl⟩:=aP.mp he
  obtain⟨k,v⟩:=e'
  cases v with
  | t d=>cases hj
  | ref n=>exact⟨n,aG.mpr ⟨_,he', .head _⟩,af.mp hj⟩
  | iref Cl n=>exact⟨n,aG.mpr ⟨_,he', .head _⟩,af.mp hj⟩
 walk_at "z"
theorem V.ren_ids {r:Nat→Nat} {v:V} {j:Nat} (h:j∈(v.ren r).ids):∃i∈v.ids,j=r i:=by
 walk_at "a"
 cases v with
 | t d=>cases h
 | ref n=>exact⟨n, .head _,af.mp h⟩
 | iref Cl n=>exact⟨n, .head _,af.mp h⟩
 walk_at "z"
theorem O.ren_live {r:Nat→Nat} {o:O}:(o.ren r).live=o.live:=by cases o <;> rfl
structure Rn (H:Hp) (f r:Nat→Nat) (H':Hp):Prop where
 at_:∀k o',H'.lookup k=some o'→∃o,H.lookup (f k)=some o∧o'=o.ren r∧∀j∈o.ids,f (r j)=j∧(H'.lookup (r j)).isSome=true
 inj:∀k k',(H'.lookup k).isSome=true→(H'.lookup k').isSome=true→f k=f k'→k=k'
section
variable {C:Cx} {g:cj} {H H':Hp} {p:Pt} {f r:Nat→Nat}
theorem bc.ren (R:bc C g H p) (x:Rn H f r H'):bc C g H' ⟨p.Φ,fun k=>p.μ (f k),p.s⟩:=by
 walk_at "a"
 refine⟨R.base,R.sub,R.gsub,R.gP,R.tab,fun k o e=>?_,fun k k' o o' e e' l l' q=>?_,fun k o e j hj=>?_⟩
 · obtain⟨o0,h1,rfl,h2⟩:=x.at_ k o e
   cases R.slots _ _ h1 with
   | frz y=>exact .frz y
   | live a b c d=>exact .live a (b.ren fun j hj=>(h2 j hj).1) c d
 · obtain⟨o0,h1,rfl,_⟩:=x.at_ k o e
   obtain⟨o1,h1',rfl,_⟩:=x.at_ k' o' e'
   exact x.inj k k' (by rw [e];rfl) (by rw [e'];rfl) (R.inj _ _ o0 o1 h1 h1' (O.ren_live▸l) (O.ren_live▸l') q)
 · obtain⟨o0,_,rfl,h2⟩:=x.at_ k o e
   obtain⟨i,hi,rfl⟩:=O.ren_ids hj
   exact(h2 i hi).2
 walk_at "z"
theorem eC.ren {v:V} {cv:Value} (x:eC C H p v cv) (h:∀j∈v.ids,f (r j)=j∧(H'.lookup (r j)).isSome=true):eC C H' ⟨p.Φ,fun k=>p.μ (f k),p.s⟩ (v.ren r) cv:=
 ⟨x.1.ren fun j hj=>(h j hj).1,fun k hk=>by obtain⟨i,hi,rfl⟩:=V.ren_ids hk;exact(h i hi).2⟩
end
noncomputable def oQ (n:Nat) (K:Nat→Prop):Prop:=Nat.rec (motive:=fun _=>Prop) (K 0) (fun m _=>K (Nat.succ m)) n
theorem n7 {n:Nat} {K:Nat→Prop} (h:oQ n K):K n:=by
 cases n with
 | zero=>exact h
 | succ n=>exact h
theorem n8 {n:Nat} {K:Nat→Prop} (h:K n):oQ n K:=by
 cases n with
 | zero=>exact h
 | succ n=>exact h
noncomputable def fE (ρ:aF):(aF→Prop)→Prop:=List.rec (motive:=fun _=>(aF→Prop)→Prop) (fun K=>K []) (fun v _ ih K=>an (motive:=fun _=>Prop) v (ih fun r=>K (none::r)) fun v=>V.casesOn (motive:=fun _=>Prop) v (fun d=>ih fun r=>K (some (.t d)::r)) (fun n=>oQ n fun n=>ih fun r=>K (some (.ref n)::r)) fun Cl n=>oQ n fun n=>ih fun r=>K (some (.iref Cl n)::r)) ρ
theorem cq {ρ:aF}:∀{K:aF→Prop},fE ρ K→K ρ:=by
 induction ρ with
 | nil=>exact fun h=>h
 | cons v r ih=>
  intro K h
  cases v with
  | none=>exact ih (K:=fun r=>K (none::r)) h
  | some v=>cases v with
   | t d=>exact ih (K:=fun r=>K (some (.t d)::r)) h
   | ref n=>exact ih (K:=fun r=>K (some (.ref n)::r)) (n7 (K:=fun n=>fE r fun r=>K (some (.ref n)::r)) h)
   | iref Cl n=>exact ih (K:=fun r=>K (some (.iref Cl n)::r)) (n7 (K:=fun n=>fE r fun r=>K (some (.iref Cl n)::r)) h)
noncomputable def fA (H:Hp):(Hp→Prop)→Prop:=List.rec (motive:=fun _=>(Hp→Prop)→Prop) (fun K=>K []) (fun e _ ih K=>Prod.casesOn (motive:=fun _=>Prop) e fun n o=>oQ n fun n=>pO o (fun ts=>ih fun r=>K ((n, .list ts)::r)) (fun es=>ih fun r=>K ((n, .dict es)::r)) (fun d=>ih fun r=>K ((n, .frz d)::r)) fun es=>ih fun r=>K ((n, .tdct es)::r)) H
theorem jn {H:Hp}:∀{K:Hp→Prop},fA H K→K H:=by
 walk_at "a"
 induction H with
 | nil=>exact fun h=>h
 | cons e r ih=>
  intro K h
  obtain⟨n,o⟩:=e
  replace h:=n7 (K:=fun n=>pO o (fun ts=>fA r fun r=>K ((n, .list ts)::r)) (fun es=>fA r fun r=>K ((n, .dict es)::r)) (fun d=>fA r fun r=>K ((n, .frz d)::r)) fun es=>fA r fun r=>K ((n, .tdct es)::r)) h
  cases o with
  | list ts=>exact ih (K:=fun r=>K ((n, .list ts)::r)) h
  | dict ts=>exact ih (K:=fun r=>K ((n, .dict ts)::r)) h
  | frz ts=>exact ih (K:=fun r=>K ((n, .frz ts)::r)) h
  | tdct ts=>exact ih (K:=fun r=>K ((n, .tdct ts)::r)) h
 walk_at "z"
noncomputable def fZ (n:Nat) (L:List Nat):Bool:=List.rec (motive:=fun _=>Bool) false (fun m _ ih=>bif Nat.beq n m then true else ih) L
theorem mH {n:Nat} {L:List Nat} (h:fZ n L=true):n∈L:=by
 walk_at "a"
 induction L with
 | nil=>cases h
 | cons m r ih=>
  replace h:(bif Nat.beq n m then true else fZ n r)=true:=h
  cases q:Nat.beq n m with
  | true=>cases bJ q;exact .head _
  | false=>rw [q] at h;exact .tail _ (ih h)
 walk_at "z"
noncomputable def m9 (n:Nat) (L:List Nat):Nat:=List.rec (motive:=fun _=>Nat) 0 (fun m _ ih=>bif Nat.beq n m then 0 else ih+1) L
noncomputable def o9 (L:List Nat):Nat→Nat:=List.rec (motive:=fun _=>Nat→Nat) (fun _=>0) (fun m _ ih i=>fu (motive:=fun _=>Nat) i m ih) L
theorem jy {n:Nat} {L:List Nat} (h:n∈L):o9 L (m9 n L)=n∧m9 n L < L.length:=by
 walk_at "a"
 induction L with
 | nil=>cases h
 | cons m r ih=>
  have e:m9 n (m::r)=bif Nat.beq n m then 0 else m9 n r+1:=rfl
  cases q:Nat.beq n m with
  | true=>rw [e,q];exact⟨(bJ q).symm,d9 _⟩
  | false=>
   rw [e,q]
   have:=ih (by cases h with
    | head=>exact absurd rfl (cY q)
    | tail _ h=>exact h)
   exact⟨this.1,k8 this.2⟩
 walk_at "z"
noncomputable def IK (L:List Nat) (ns:List Nat):List Nat:=ns.foldl (fun L n=>bif bf n 100 || fZ n L then L else L++[n]) L
noncomputable def Ev (v:Option V):List Nat:=an (motive:=fun _=>List Nat) v [] V.ids
noncomputable def DA (L:List Nat):Bool:=List.rec (motive:=fun _=>Bool) true (fun n r ih=> !fZ n r&&ih) L
noncomputable def jI (H:Hp) (n:Nat):List Nat:=an (motive:=fun _=>List Nat) (H.lookup n) [] O.ids
noncomputable def JV (H:Hp) (k:Nat) (L:List Nat):List Nat:=Nat.rec (motive:=fun _=>List Nat→List Nat) id (fun _ ih L=>ih (IK L (L.flatMap (jI H)))) k L
noncomputable def B4 (L:List Nat) (n:Nat):Nat:=bif bf n 100 then n else 100+m9 n L
noncomputable def wZ (L:List Nat) (n:Nat):Nat:=bif bf n 100 then n else o9 L (n - 100)
noncomputable def nR (H:Hp) (L:List Nat) (n:Nat):Bool:=(bf n 100 || fZ n L)&&(H.lookup n).isSome
noncomputable def zV (H:Hp) (L:List Nat) (n:Nat):Bool:=nR H L n&&(jI H n).all (nR H L)
noncomputable def kL (H:Hp):List Nat:=(H.filter fun e=>bf e.1 100).map (·.1)
noncomputable def ly (H:Hp) (n:Nat):O:=(H.lookup n).getD (.list [])
noncomputable def E0 (H:Hp) (r:Nat→Nat) (L:List Nat):Nat→Hp:=List.rec (motive:=fun _=>Nat→Hp) (fun _=>[]) (fun n _ ih i=>(i,(ly H n).ren r)::ih (i+1)) L
noncomputable def y9 (H:Hp) (r:Nat→Nat) (L:List Nat):Hp:=L.map fun n=>(n,(ly H n).ren r)
theorem rF {H:Hp} {r:Nat→Nat} {L:List Nat}:∀{i k:Nat} {o:O},(E0 H r L i).lookup k=some o→i≤k∧k < i+L.length∧o=(ly H (o9 L (k - i))).ren r:=by
 walk_at "a"
 induction L with
 | nil=>intro i k o h;cases h
 | cons n l ih=>
  intro i k o h
  by_cases q:k=i
  · subst q
    cases (show some ((ly H n).ren r)=some o from be.symm.trans h)
    exact⟨aB _,Nat.lt_add_of_pos_right (d9 _),by rw [Nat.sub_self];rfl⟩
  · have:=ih (i:=i+1) ((aX q).symm.trans h)
    refine⟨bF this.1,by have:=this.2.1;rw [aM];omega,?_⟩
    rw [show k - i=(k - (i+1))+1 from by have:=this.1;omega]
    exact this.2.2
 walk_at "z"
theorem kM {H:Hp} {r:Nat→Nat} {L:List Nat}:∀{i k:Nat},i≤k→k < i+L.length→((E0 H r L i).lookup k).isSome=true:=by
 induction L with
 | nil=>intro i k h1 h2;exact absurd h2 (bU.mpr h1)
 | cons n l ih=>
  intro i k h1 h2
  by_cases q:k=i
  · subst q;exact congrArg bY be
  · refine(congrArg bY (aX q)).trans (ih (by omega) (by rw [aM] at h2;omega))
theorem DP {H:Hp} {r:Nat→Nat} {L:List Nat} {k:Nat} {o:O} (h:(y9 H r L).lookup k=some o):k∈L∧o=(ly H k).ren r:=by
 walk_at "a"
 induction L with
 | nil=>cases h
 | cons n l ih=>
  by_cases q:k=n
  · subst q;cases (show some ((ly H k).ren r)=some o from be.symm.trans h);exact⟨.head _,rfl⟩
  · have:=ih ((aX q).symm.trans h);exact⟨.tail _ this.1,this.2⟩
 walk_at "z"
theorem pi {H:Hp} {r:Nat→Nat} {L:List Nat} {k:Nat} (h:k∈L):((y9 H r L).lookup k).isSome=true:=by
 walk_at "a"
 induction L with
 | nil=>cases h
 | cons n l ih=>
  by_cases q:k=n
  · subst q;exact congrArg bY be
  · exact(congrArg bY (aX q)).trans (ih (by cases h with
     | head=>exact absurd rfl q
     | tail _ h=>exact h))
 walk_at "z"
theorem fO {H H':Hp} {k:Nat}:(H++H').lookup k=(H.lookup k).or (H'.lookup k):=by
 induction H with
 | nil=>rfl
 | cons e r ih=>
  by_cases q:k=e.1
  · subst q;exact(be (o:=e.2)).trans (congrArg (Option.or · (H'.lookup e.1)) (be (o:=e.2)).symm)
  · exact(aX q).trans (ih.trans (congrArg (Option.or · (H'.lookup k)) (aX q).symm))
theorem dJ {n m:Nat}:(bf n m=true↔n < m):=Iff.of_eq dq
theorem mI {L:List Nat} (h:DA L=true):∀{i j:Nat},i < L.length→j < L.length→o9 L i=o9 L j→i=j:=by
 walk_at "a"
 have mem:∀{L:List Nat} {i},i < L.length→o9 L i∈L:=fun {L}=>by
  induction L with
  | nil=>intro i h;cases h
  | cons n l ih=>intro i h;cases i with
   | zero=>exact .head _
   | succ i=>exact .tail _ (ih (bT h))
 have nm:∀{L:List Nat} {n},n∈L→fZ n L=true:=fun {L n} h=>by
  induction L with
  | nil=>cases h
  | cons m l ih=>
   show(bif Nat.beq n m then true else fZ n l)=true
   cases q:Nat.beq n m with
   | true=>rfl
   | false=>cases h with
    | head=>exact absurd rfl (cY q)
    | tail _ h=>exact ih h
 induction L with
 | nil=>intro i j h1;cases h1
 | cons n l ih=>
  have h:=aa.mp (show(!fZ n l&&DA l)=true from h)
  intro i j h1 h2 q
  cases i with
  | zero=>cases j with
   | zero=>rfl
   | succ j=>exact absurd (nm (mem (bT h2))) (by rw [←show n=o9 l j from q];intro z;rw [z] at h;cases h.1)
  | succ i=>cases j with
   | zero=>exact absurd (nm (mem (bT h1))) (by rw [show o9 l i=n from q];intro z;rw [z] at h;cases h.1)
   | succ j=>exact congrArg (· +1) (ih h.2 (bT h1) (bT h2) q)
 walk_at "z"
noncomputable def qS (H:Hp) (L:List Nat):Hp:=y9 H (B4 L) (kL H)++E0 H (B4 L) L 100
noncomputable def vq (H:Hp) (L:List Nat):Bool:=DA L&&L.all (fun n=> !Nat.blt n 100)&&L.all (zV H L)&&(kL H).all (zV H L)
theorem yb {H:Hp} {n:Nat} (h:n∈kL H):n < 100:=by
 obtain⟨e,he,rfl⟩:=aP.mp h
 exact dJ.mp (cp.mp he).2
theorem m3 {H:Hp} {n:Nat} (h:(H.lookup n).isSome=true) (l:n < 100):n∈kL H:=by
 induction H with
 | nil=>cases h
 | cons e r ih=>
  unfold kL
  by_cases q:n=e.1
  · exact aP.mpr ⟨e,cp.mpr ⟨.head _,dJ.mpr (q▸l)⟩,q.symm⟩
  · obtain⟨x,hx,hn⟩:=aP.mp (ih (by rw [show List.lookup n (e::r)=r.lookup n from aX q] at h;exact h))
    have:=cp.mp hx
    exact aP.mpr ⟨x,cp.mpr ⟨.tail _ this.1,this.2⟩,hn⟩
theorem qT {H:Hp} {L:List Nat} (h:vq H L=true) {n:Nat} (g:nR H L n=true):wZ L (B4 L n)=n∧((qS H L).lookup (B4 L n)).isSome=true:=by
 walk_at "a"
 have h0:=aa.mp h
 have h1:=aa.mp h0.1
 have h2:=aa.mp h1.1
 have g:=aa.mp g
 unfold wZ B4 qS
 rw [fO,jw]
 cases q:bf n 100 with
 | true=>
  simp only [cond_true,q]
  rw [pi (m3 g.2 (dJ.mp q))]
  exact⟨trivial,rfl⟩
 | false=>
  rw [q] at g
  have a:=jy (mH g.1)
  have b:bf (100+m9 n L) 100=false:=by rw [←jS,dJ];omega
  simp only [cond_false,b]
  rw [gq,kM (av _ _) (Nat.add_lt_add_left a.2 100),Bool.or_true]
  exact⟨a.1,rfl⟩
 walk_at "z"
theorem zi {H:Hp} {L:List Nat} (h:vq H L=true):Rn H (wZ L) (B4 L) (qS H L):=by
 walk_at "a"
 have h0:=aa.mp h
 have h1:=aa.mp h0.1
 have h2:=aa.mp h1.1
 have obj:∀{n},zV H L n=true→∃o,H.lookup n=some o∧ly H n=o∧∀j∈o.ids,nR H L j=true:=fun {n} g=>by
  have g:=aa.mp g
  have s:=(aa.mp g.1).2
  cases e:H.lookup n with
  | none=>rw [e] at s;cases s
  | some o=>refine⟨o,rfl,by unfold ly;rw [e];rfl,fun j hj=>aj.mp g.2 j (by unfold jI;rw [e];exact hj)⟩
 have cases_:∀{k o},(qS H L).lookup k=some o→(k < 100∧k∈kL H∧wZ L k=k∧o=(ly H k).ren (B4 L))∨(100≤k∧k < 100+L.length∧wZ L k=o9 L (k - 100)∧o=(ly H (o9 L (k - 100))).ren (B4 L)):=fun {k o} e=>by
  unfold qS at e
  rw [fO] at e
  cases q:(y9 H (B4 L) (kL H)).lookup k with
  | some x=>
   rw [q] at e
   cases e
   have:=DP q
   have l:=yb this.1
   exact .inl ⟨l,this.1,by unfold wZ;rw [dJ.mpr l];rfl,this.2⟩
  | none=>
   rw [q] at e
   have:=rF e
   exact .inr ⟨this.1,this.2.1,by unfold wZ;rw [show bf k 100=false from by rw [←jS,dJ];exact bU.mpr this.1];rfl,this.2.2⟩
 have memL:∀{i},i < L.length→o9 L i∈L:=fun {i} hi=>by
  clear h h0 h1 h2 obj cases_
  induction L generalizing i with
  | nil=>cases hi
  | cons n l ih=>cases i with
   | zero=>exact .head _
   | succ i=>exact .tail _ (ih (bT hi))
 have big:∀{i},i < L.length→100≤o9 L i:=fun {i} hi=>by
  have:=aj.mp h2.2 _ (memL hi)
  rcases eI (o9 L i) 100 with z | z
  · rw [dJ.mpr z] at this;cases this
  · exact z
 refine⟨fun k o' e=>?_,fun k k' e e' q=>?_⟩
 · rcases cases_ e with⟨l,m,b,rfl⟩ | ⟨l1,l2,b,rfl⟩
   · obtain⟨o,o1,o2,o3⟩:=obj (aj.mp h0.2 k m)
     exact⟨o,by rw [b];exact o1,by rw [o2],fun j hj=>qT h (o3 j hj)⟩
   · obtain⟨o,o1,o2,o3⟩:=obj (aj.mp h1.2 _ (memL (i:=k - 100) (by omega)))
     exact⟨o,by rw [b];exact o1,by rw [o2],fun j hj=>qT h (o3 j hj)⟩
 · obtain⟨o,e⟩:=aZ.mp e
   obtain⟨o',e'⟩:=aZ.mp e'
   rcases cases_ e with⟨l,m,b,_⟩ | ⟨l1,l2,b,_⟩ <;> rcases cases_ e' with⟨l',m',b',_⟩ | ⟨l1',l2',b',_⟩
   · rw [b,b'] at q;exact q
   · rw [b,b'] at q;exact absurd l (by rw [q];exact bU.mpr (big (by omega)))
   · rw [b,b'] at q;exact absurd l' (by rw [←q];exact bU.mpr (big (by omega)))
   · rw [b,b'] at q
     have:=mI h2.1 (by omega) (by omega) q
     omega
 walk_at "z"
inductive Fl where
 | next | brk | cont | ret (v:V)
noncomputable def FlR (C:Cx) (H:Hp) (p:Pt) (f:Fl) (fl:Flow):Prop:=Fl.casesOn (motive:=fun _=>Prop) f (fl= .next) (fl= .brk) (fl= .cont) fun v=>∃cv,fl= .ret cv∧eC C H p v cv
structure iO (C:Cx) (F:Fm) (H:Hp) (p:Pt) (g':cj) (H':Hp) (p':Pt):Prop where
 same:eQ p.s p'.s
 ext:qM F.g0 p.Φ p'.Φ
 mu:∀n,n < 100→(H.lookup n).isSome=true→p'.μ n=p.μ n∧(H'.lookup n).isSome=true
 rel:bc C g' H' p'
noncomputable def SK (C:Cx) (sc:Scope) (n:Nat) (F:Fm) (H:Hp) (p:Pt) (Q:Fl→aF→Hp→Prop) (P:Flow→Shared→Prop):Prop:=∀fl g' val' p' f ρ' H',iO C F H p g' H' p'→FR C sc (n+2) ρ' {F with g:=g',val:=val'} H' p'→FlR C H' p' f fl→Q f ρ' H'→P fl p'.s
noncomputable def SX (C:Cx) (sc:Scope) (n:Nat) (t:Env→Sem Flow) (ρ:aF) (H:Hp) (Q:Fl→aF→Hp→Prop):Prop:=∀F p,F.oc=true→FR C sc (n+2) ρ F H p→bc C F.g H p→∀P,SK C sc n F H p Q P→Wp C F.A (t F.env) P p.s
noncomputable abbrev WX (C:Cx) (sc:Scope) (n:Nat) (st:Stmt):=SX C sc n (exec st)
noncomputable abbrev WS (C:Cx) (sc:Scope) (n:Nat) (b:List Stmt):=SX C sc n (execs b)
noncomputable def yj (H:Hp) (v:V):V:=V.casesOn (motive:=fun _=>V) v .t (fun n=>an (motive:=fun _=>V) (H.lookup n) (.ref n) fun o=>pO o (fun _=> .ref n) (fun _=> .ref n) .t fun _=> .ref n)
 fun Cl n=>an (motive:=fun _=>V) (H.lookup n) (.iref Cl n) fun o=>pO o (fun _=> .iref Cl n) (fun _=> .iref Cl n) (fun d=>d.dctK (.iref Cl n) fun es=> .t (.inst Cl es)) fun _=> .iref Cl n
noncomputable def qy (H:Hp) (m:List Bool):aF→aF:=List.rec (motive:=fun _=>aF→aF) (fun _=>[]) (fun b _ ih ρ=>ay (motive:=fun _=>aF) ρ [] fun v r=>(bif b then v.map (yj H) else none)::ih r) m
noncomputable def E5 (ρ:aF):List Bool:=ρ.map bY
noncomputable def HY (ρ:aF) (H:Hp):List Nat:=JV H 5 (IK [] (ρ.flatMap Ev++(kL H).flatMap (jI H)))
noncomputable def qU (L:List Nat) (ρ:aF) (H:Hp) (K:aF→Hp→Prop):Prop:=Br (vq H L&&(ρ.flatMap Ev).all (nR H L)) (fE (ρ.map fun v=>v.map (V.ren (B4 L))) fun ρ'=>fA (qS H L) fun H'=>K ρ' H') False
noncomputable def cQ (m:List Bool) (ρ:aF) (H:Hp) (K:aF→Hp→Prop):Prop:=fE (qy H m ρ) fun ρ1=>qU (HY ρ1 H) ρ1 H K
noncomputable def o5 (Q:Fl→aF→Hp→Prop) (I:aF→Hp→Prop) (f:Fl) (ρ:aF) (H:Hp):Prop:=Fl.casesOn (motive:=fun _=>Prop) f (I ρ H) (Q .next ρ H) (I ρ H) fun v=>Q (.ret v) ρ H
noncomputable def Bo (Q:Fl→aF→Hp→Prop) (I:aF→Hp→Prop) (f:Fl) (ρ:aF) (H:Hp):Prop:=Fl.casesOn (motive:=fun _=>Prop) f (I ρ H) (Q .brk ρ H) (Q .cont ρ H) fun v=>Q (.ret v) ρ H
section
variable {C:Cx} {sc:Scope} {n:Nat} {ρ:aF} {H H' H2:Hp} {F:Fm} {p p' p2:Pt} {g' g2:cj}
theorem f5.s (x:f5 C F.g H p H' p') (l:Le F.g0 F.g):iO C F H p F.g H' p':=⟨x.same,x.ext.le l,fun n _ h=>x.mu n h,x.rel⟩
theorem iO.refl (R:bc C F.g H p):iO C F H p F.g H p:=⟨eQ.refl _,qM.refl _ _,fun n _ h=>⟨rfl,h⟩,R⟩
theorem iO.trans {val:Str→Option Value} (a:iO C F H p g' H' p') (b:iO C {F with g:=g',val:=val} H' p' g2 H2 p2):iO C F H p g2 H2 p2:=
 ⟨a.same.trans b.same,a.ext.trans b.ext,fun n hn h=>⟨(b.mu n hn (a.mu n hn h).2).1.trans (a.mu n hn h).1,(b.mu n hn (a.mu n hn h).2).2⟩,b.rel⟩
theorem SK.up {val:Str→Option Value} {Q:Fl→aF→Hp→Prop} {P:Flow→Shared→Prop} (a:iO C F H p g' H' p') (k:SK C sc n F H p Q P):SK C sc n {F with g:=g',val:=val} H' p' Q P:=
 fun fl g2 v2 p2 f ρ' H2 b fr fr2 q=>k fl g2 v2 p2 f ρ' H2 (a.trans (val:=val) b) fr fr2 q
theorem wn {v:V} {cv:Value} (R:bc C g' H p) (x:eC C H p v cv):eC C H p (yj H v) cv:=by
 walk_at "a"
 have tree:∀{d},jQ H v=some d→AT C p.Φ p.s.heap d cv:=fun e=>j7 R e x
 cases v with
 | t d=>exact x
 | ref n=>
  have e:yj H (.ref n)=an (motive:=fun _=>V) (H.lookup n) (.ref n) fun o=>pO o (fun _=> .ref n) (fun _=> .ref n) .t fun _=> .ref n:=rfl
  cases q:H.lookup n with
  | none=>rw [e,q];exact x
  | some o=>
   rw [e,q]
   cases o with
   | list ts=>exact x
   | dict ts=>exact x
   | tdct ts=>exact x
   | frz d=>
    cases (show cv= .ref (p.μ n) from x.1)
    cases R.slots n _ q with
    | frz y=>exact TR.vri y
    | live _ b=>exact b.elim
 | iref Cl n=>
  have e:yj H (.iref Cl n)=an (motive:=fun _=>V) (H.lookup n) (.iref Cl n) fun o=>pO o (fun _=> .iref Cl n) (fun _=> .iref Cl n) (fun d=>d.dctK (.iref Cl n) fun es=> .t (.inst Cl es)) fun _=> .iref Cl n:=rfl
  have w:jQ H (.iref Cl n)=an (motive:=fun _=>Option T) (H.lookup n) none fun o=>pO o (fun _=>none) (fun _=>none) (fun d=>d.dctK none fun es=>some (.inst Cl es)) fun _=>none:=rfl
  cases q:H.lookup n with
  | none=>rw [e,q];exact x
  | some o=>
   rw [q] at w
   rw [e,q]
   cases o with
   | list ts=>exact x
   | dict ts=>exact x
   | tdct ts=>exact x
   | frz d=>
    cases d with
    | dct es=>exact TR.vri (show TR C p.Φ (.inst Cl es) cv from tree w)
    | _=>exact x
 walk_at "z"
theorem Dw {m:List Bool}:∀{ρ:aF} {i:Nat} {v:V},(qy H m ρ:List (Option V))[i]? =some (some v)→∃w,(ρ:List (Option V))[i]? =some (some w)∧v=yj H w:=by
 walk_at "a"
 induction m with
 | nil=>intro ρ i v h;cases h
 | cons b m ih=>
  intro ρ i v h
  cases ρ with
  | nil=>cases h
  | cons w r=>
   cases i with
   | succ i=>exact ih (ρ:=r) h
   | zero=>
    have h:(bif b then w.map (yj H) else none)=some v:=Option.some.inj h
    cases b with
    | false=>cases h
    | true=>obtain⟨u,rfl,e⟩:=aE.mp h;exact⟨u,rfl,e.symm⟩
 walk_at "z"
theorem sK {L:List Nat} {ρ:aF} (h:(ρ.flatMap Ev).all (nR H L)=true) {i:Nat} {v:V} (e:(ρ:List (Option V))[i]? =some (some v)) {j:Nat} (hj:j∈v.ids):nR H L j=true:=
 aj.mp h j (aG.mpr ⟨some v,dM e,hj⟩)
theorem kq {m:List Bool} {K:aF→Hp→Prop} {G:Prop} (fr:FR C sc n ρ F H p) (R:bc C F.g H p) (h:cQ m ρ H K) (k:∀ρ' H' p',p'.s=p.s→iO C F H p F.g H' p'→FR C sc n ρ' F H' p'→(∀g b,f6 C g H p b→f6 C g H' p' b)→K ρ' H'→G):G:=by
 walk_at "a"
 obtain⟨e,h⟩:=Br.yes (cq h)
 have h:=jn (cq h)
 have e:=aa.mp e
 have x:=zi e.1
 generalize HY (qy H m ρ) H=L at e h x
 refine k _ _ ⟨p.Φ,fun k=>p.μ (wZ L k),p.s⟩ rfl ⟨eQ.refl _,qM.refl _ _,fun j hj hs=>?_,R.ren x⟩ {fr with vars:=fun i y kk v e1 e2=>?_} (fun g b f=>⟨f.has,f.phi,f.g,f.ne,fun k o e l=>by obtain⟨o0,h1,rfl,_⟩:=x.at_ k o e;exact f.sl _ o0 h1 (O.ren_live▸l)⟩) h
 · have q:wZ L j=j:=by unfold wZ;rw [dJ.mpr hj];rfl
   refine⟨congrArg p.μ q,?_⟩
   show((y9 _ _ _++_).lookup j).isSome=true
   rw [fO,jw,pi (m3 hs hj)];rfl
 · rw [ax] at e2
   obtain⟨w,w1,w2⟩:=aE.mp e2
   obtain⟨u,rfl,rfl⟩:=aE.mp w2
   obtain⟨z,z1,rfl⟩:=Dw w1
   obtain⟨cv,c1,c2⟩:=fr.vars i y kk z e1 z1
   exact⟨cv,c1,(wn R c2).ren fun j hj=>qT e.1 (sK e.2 w1 hj)⟩
 walk_at "z"
theorem Gd {Q:Fl→aF→Hp→Prop} (h:Q .next ρ H):WS C sc n [] ρ H Q:=fun F p oc fr R P k=>wpAny_execs_nil (k _ F.g F.val p .next ρ H (.refl R) fr rfl h)
theorem qP {st:Stmt} {r:List Stmt} {Q:Fl→aF→Hp→Prop} (h:WX C sc n st ρ H (Bo Q fun ρ' H'=>WS C sc n r ρ' H' Q)):WS C sc n (st::r) ρ H Q:=by
 walk_at "a"
 exact fun F p oc fr R P k=>wpAny_execs_cons (h F p oc fr R _ fun fl g1 v1 p1 f ρ1 H1 st1 fr1 ff q=>by
  cases f with
  | next=>cases (show fl=_ from ff);exact(show WS C sc n r ρ1 H1 Q from q) {F with g:=g1,val:=v1} p1 oc fr1 st1.rel P (SK.up st1 k)
  | brk=>cases (show fl=_ from ff);exact k _ g1 v1 p1 .brk ρ1 H1 st1 fr1 rfl q
  | cont=>cases (show fl=_ from ff);exact k _ g1 v1 p1 .cont ρ1 H1 st1 fr1 rfl q
  | ret v=>obtain⟨cv,rfl,y⟩:=ff;exact k _ g1 v1 p1 (.ret v) ρ1 H1 st1 fr1 ⟨cv,rfl,y⟩ q)
 walk_at "z"
theorem Co {pos:Pos} {Q:Fl→aF→Hp→Prop} (h:Q .next ρ H):WX C sc n (.Pass pos) ρ H Q:=fun F p oc fr R P k=>wpAny_Pass (k _ F.g F.val p .next ρ H (.refl R) fr rfl h)
theorem Gf {pos:Pos} {Q:Fl→aF→Hp→Prop} (h:Q .brk ρ H):WX C sc n (.Break pos) ρ H Q:=fun F p oc fr R P k=>wpAny_Break (k _ F.g F.val p .brk ρ H (.refl R) fr rfl h)
theorem Cm {pos:Pos} {Q:Fl→aF→Hp→Prop} (h:Q .cont ρ H):WX C sc n (.Continue pos) ρ H Q:=fun F p oc fr R P k=>wpAny_Continue (k _ F.g F.val p .cont ρ H (.refl R) fr rfl h)
theorem Gg {e:Expr} {pos:Pos} {Q:Fl→aF→Hp→Prop} (h:WE C sc n e ρ H fun v H'=>Q (.ret v) ρ H'):WX C sc n (.Return (some e) pos) ρ H Q:=
 fun F p oc fr R P k=>wpAny_Return_some (h F p fr R _ fun cv p1 v H1 st x q=>k _ F.g F.val p1 (.ret v) ρ H1 (st.s fr.le) (fr.step st) ⟨cv,rfl,x⟩ q)
theorem Cp {pos:Pos} {Q:Fl→aF→Hp→Prop} (h:Q (.ret (.t .none)) ρ H):WX C sc n (.Return none pos) ρ H Q:=fun F p oc fr R P k=>wpAny_Return_none (k _ F.g F.val p (.ret (.t .none)) ρ H (.refl R) fr ⟨_,rfl,TR.vri .none⟩ h)
noncomputable def AR (v:V) (K:Prop):Prop:=v.tk False fun d=>T.casesOn (motive_1:=fun _=>Prop) d K (fun _=>False) (fun _=>K) (fun _=>False) (fun _=>False) (fun _=>False) (fun _=>False) (fun _ _=>False) fun _=>False
theorem Cn {e:Expr} {pos:Pos} {Q:Fl→aF→Hp→Prop} (hs:∀env,swapsWith e none pos.line env=pure false) (h:WE C sc n e ρ H fun v H'=>AR v (Q .next ρ H')):WX C sc n (.Expr e pos) ρ H Q:=by
 walk_at "a"
 exact fun F p oc fr R P k=>wpAny_Expr (h F p fr R _ fun cv p1 v H1 st x q=>by
  have fin:=fun q=>k .next F.g F.val p1 .next ρ H1 (st.s fr.le) (fr.step st) rfl q
  cases v with
  | t d=>
   cases d with
   | none=>cases (show cv=_ from x.1);exact fin q
   | int i=>cases TR.i (C:=C) (Φ:=p1.Φ) x.1;exact fin q
   | _=>exact False.elim q
  | _=>exact False.elim q) (by unfold interactive;rw [fr.fk];rfl) (hs _)
 walk_at "z"
theorem IG {t:Expr} {b o:List Stmt} {pos:Pos} {Q:Fl→aF→Hp→Prop} (h:WB C sc n t ρ H fun q H'=>Br q (WS C sc n b ρ H' Q) (WS C sc n o ρ H' Q)):WX C sc n (.If t b o pos) ρ H Q:=by
 walk_at "a"
 exact fun F p oc fr R P k=>wpAny_If (h F p fr R _ fun q p1 H1 st h=>by
  cases q with
  | true=>exact(show WS C sc n b ρ H1 Q from h) F p1 oc (fr.step st) st.rel P (SK.up (val:=F.val) (st.s fr.le) k)
  | false=>exact(show WS C sc n o ρ H1 Q from h) F p1 oc (fr.step st) st.rel P (SK.up (val:=F.val) (st.s fr.le) k))
 walk_at "z"
theorem sp {t:Expr} {b:List Stmt} {pos:Pos} {Q:Fl→aF→Hp→Prop} {m:List Bool} {tb:aF→Hp→(Bool→Hp→Prop)→Prop} {bb:aF→Hp→(Fl→aF→Hp→Prop)→Prop} (ht:∀{ρ H Q},tb ρ H Q→WB C sc n t ρ H Q) (hb:∀{ρ H Q},bb ρ H Q→WS C sc n b ρ H Q)
 {σ:Type} {r:σ→aF} {hp:σ→Hp} {I:σ→Prop} {ms:σ→Nat} (turn:∀s,I s→tb (r s) (hp s) fun q H'=>Br q (bb (r s) H' (o5 Q fun ρ2 H2=>cQ m ρ2 H2 fun ρ3 H3=>∃s',ρ3=r s'∧H3=hp s'∧I s'∧ms s' < ms s)) (Q .next (r s) H'))
 (h:cQ m ρ H fun ρ3 H3=>∃s,ρ3=r s∧H3=hp s∧I s):WX C sc n (.While t b [] pos) ρ H Q:=by
 walk_at "a"
 refine fun F p oc fr R P k=>kq fr R h fun ρ1 H1 p1 e1 st1 fr1 _ hI=>?_
 obtain⟨s0,rfl,rfl,hI⟩:=hI
 rw [←e1]
 refine wpAny_While (codeAny_mono (R:=fun r s'=>∃f,r= .ok f∧P f s') (codeAny_whileLoop (fun k s'=>∃s g' val' p',ms s=k∧p'.s=s'∧iO C F H p g' (hp s) p'∧FR C sc (n+2) (r s) {F with g:=g',val:=val'} (hp s) p'∧I s) ?_ (ms s0) ⟨s0,F.g,F.val,p1,rfl,rfl,st1,fr1,hI⟩) ?_)
 · rintro k2 s2 ⟨s,g2,v2,p2,rfl,rfl,st2,fr2,hI⟩
   refine wpAny_mono (E:=oj) (ht (turn s hI) {F with g:=g2,val:=v2} p2 fr2 st2.rel _ fun q p3 H3 st3 h3=>?_) (fun _ _ x=>x) fun _ _ x=>x.elim
   have st23:=st2.trans (val:=v2) (st3.s fr2.le)
   have k3:=SK.up (val:=v2) st23 k
   cases q with
   | false=>exact wpAny_execs_nil ⟨.next,rfl,k3 _ g2 v2 p3 .next (r s) H3 (.refl st3.rel) (fr2.step st3) rfl h3⟩
   | true=>
    refine wpAny_mono (E:=oj) (hb h3 {F with g:=g2,val:=v2} p3 oc (fr2.step st3) st3.rel _ fun fl g4 v4 p4 f ρ4 H4 st4 fr4 ff q=>?_) (fun _ _ x=>x) fun _ _ x=>x.elim
    have again:∀h:cQ m ρ4 H4 fun ρ3 H3=>∃s',ρ3=r s'∧H3=hp s'∧I s'∧ms s' < ms s,∃j,j < ms s∧∃s g' val' p',ms s=j∧p'.s=p4.s∧iO C F H p g' (hp s) p'∧FR C sc (n+2) (r s) {F with g:=g',val:=val'} (hp s) p'∧I s:=fun h=>
     kq fr4 st4.rel h fun ρ5 H5 p5 e5 st5 fr5 _ hI=>by
      obtain⟨s',rfl,rfl,hI,hj⟩:=hI
      exact⟨ms s',hj,s',g4,v4,p5,rfl,e5,(st23.trans (val:=v2) st4).trans (val:=v4) st5,fr5,hI⟩
    cases f with
    | next=>cases (show fl=_ from ff);exact again q
    | cont=>cases (show fl=_ from ff);exact again q
    | brk=>cases (show fl=_ from ff);exact⟨_,rfl,k3 _ g4 v4 p4 .next ρ4 H4 st4 fr4 rfl q⟩
    | ret v=>obtain⟨cv,rfl,y⟩:=ff;exact⟨_,rfl,k3 _ g4 v4 p4 (.ret v) ρ4 H4 st4 fr4 ⟨cv,rfl,y⟩ q⟩
 · rintro r s' ⟨f,rfl,h⟩;exact h
 walk_at "z"
end
noncomputable def nw (sc:Scope) (oc:Bool) (x:Str):Option Nat:=an (motive:=fun _=>Option Nat) (iy sc.names x 0) none fun p=>bif p.2== .local || (p.2== .cell&&oc) then some p.1 else none
noncomputable def mL (sc:Scope) (oc:Bool) (xs:List Str):Option (List Nat):=List.rec (motive:=fun _=>Option (List Nat)) (some []) (fun x _ ih=>(nw sc oc x).bind fun i=>ih.map (i:: ·)) xs
noncomputable def wB:Expr→Option Str
 | .Name x _=>some x
 | _=>none
noncomputable def gZ (es:List Expr):Option (List Str):=List.rec (motive:=fun _=>Option (List Str)) (some []) (fun e _ ih=>(wB e).bind fun x=>ih.map (x:: ·)) es
noncomputable def fm (is:List Nat):List V→aF→(aF→Prop)→Prop:=List.rec (motive:=fun _=>List V→aF→(aF→Prop)→Prop) (fun vs ρ K=>ay (motive:=fun _=>Prop) vs (fE ρ K) fun _ _=>False) (fun i _ ih vs ρ K=>ay (motive:=fun _=>Prop) vs False fun v vs=>ih vs (ρ.set i (some v)) K) is
inductive ip (env:Env):List Str→List (Value→Sem Unit)→Prop
 | nil:ip env [] []
 | cons {x:Str} {xs:List Str} {f:Value→Sem Unit} {fs:List (Value→Sem Unit)}:(∀(M:Model) (A:Around) (E:Value→Shared→Prop) (s:Shared) (v:Value) (P:Unit→Shared→Prop),wpAny M A (storeName env x v) P E s→wpAny M A (f v) P E s)→ip env xs fs→ip env (x::xs) (f::fs)
theorem oe {env:Env} (xs:List Str):ip env xs (xs.map fun n=>bindName env n):=by
 induction xs with
 | nil=>exact .nil
 | cons x r ih=>exact .cons (fun _ _ _ _ _ _ h=>wpAny_bindName h) ih
theorem pR {e:Expr} {r:List Expr} {xs:List Str} (h:gZ (e::r)=some xs):∃x p ys,e= .Name x p∧gZ r=some ys∧xs=x::ys:=by
 walk_at "a"
 replace h:((wB e).bind fun x=>(gZ r).map (x:: ·))=some xs:=h
 cases e <;> first | (cases h;done) | skip
 obtain⟨ys,h1,rfl⟩:=aE.mp h
 exact⟨_,_,ys,rfl,h1,rfl⟩
 walk_at "z"
theorem j4 {env:Env} {elts:List Expr}:∀{xs:List Str},gZ elts=some xs→ip env xs ((assignEach elts env).map (·.2))∧(assignEach elts env).length=xs.length∧(assignEach elts env).findIdx? (·.1)=none:=by
 walk_at "a"
 induction elts with
 | nil=>intro xs h;cases h;exact⟨.nil,rfl,rfl⟩
 | cons e r ih=>
  intro xs h
  obtain⟨x,p,ys,rfl,h1,rfl⟩:=pR h
  obtain⟨a,b,c⟩:=ih h1
  refine⟨.cons (fun _ _ _ _ _ _ q=>wpAny_assign_Name q) a,congrArg (· +1) b,?_⟩
  show((false,assign (.Name x p) env)::assignEach r env).findIdx? (·.1)=none
  rw [List.findIdx?_cons,c];rfl
 walk_at "z"
theorem mz {env:Env} (h:env.scope.kind= .function):env.blockKind= .function:=by
 unfold Env.blockKind;rw [h];rfl
noncomputable def Ix (sc:Scope) (ts vs:List Expr):Option (Option (List Str)):=
 if !(ts.length==2 || ts.length==3) || vs.length != ts.length then some none else if vs.any fun | .Starred .. =>true | _=>false then some none else
  let names:=ts.filterMap fun
   | .Name id pos=>if sc.names.lookup id==some .local&&pos.line==(ts.head?.map (·.pos.line)).getD 0 then some id else none
   | _=>none
  if names.length != ts.length || names.eraseDups.length != names.length then some none else if vs.all (foldedForSure 8) then some none else if vs.all (constantsAlone 8) then none else some (some names)
theorem uS {sc:Scope} {ts vs:List Expr} {r:Option (List Str)} {k k2:Nat} {tp vp:Pos} (h:Ix sc ts vs=some r) (hk:sc.kind= .function) {env:Env} (he:env.scope=sc):swappedStores [.Tuple ts k tp] (.Tuple vs k2 vp) env=pure r:=by
 walk_at "a"
 have hb:env.blockKind= .function:=mz (he▸hk)
 have hl:∀x,env.kindOf x=sc.names.lookup x:=fun x=>by unfold Env.kindOf;rw [he]
 have hb':(env.blockKind != .function)=false:=by rw [hb];rfl
 unfold Ix at h
 unfold swappedStores
 simp only [hl,hb',Bool.or_false]
 dsimp only at h ⊢
 split at h
 · rename_i q;cases h;exact if_pos q
 · rename_i q
   refine(if_neg q).trans ?_
   split at h
   · rename_i q;cases h;exact if_pos q
   · rename_i q
     refine(if_neg q).trans ?_
     split at h
     · rename_i q;cases h;exact if_pos q
     · rename_i q
       refine(if_neg q).trans ?_
       split at h
       · rename_i q;cases h;exact if_pos q
       · rename_i q
         refine(if_neg q).trans ?_
         split at h
         · cases h
         · rename_i q;cases h;exact if_neg q
 walk_at "z"
section
variable {C:Cx} {sc:Scope} {n:Nat} {ρ:aF} {H H':Hp} {F:Fm} {p p':Pt}
theorem li {oc:Bool} {x:Str} {i:Nat} (h:nw sc oc x=some i):∃k,iy sc.names x 0=some (i,k)∧(k== .local || (k== .cell&&oc))=true:=by
 walk_at "a"
 unfold nw at h
 cases e:iy sc.names x 0 with
 | none=>rw [e] at h;cases h
 | some p=>
  rw [e] at h
  replace h:(bif p.2== .local || (p.2== .cell&&oc) then some p.1 else none)=some i:=h
  cases q:(p.2== .local || (p.2== .cell&&oc)) with
  | false=>rw [q] at h;cases h
  | true=>rw [q] at h;cases h;exact⟨p.2,rfl,q⟩
 walk_at "z"
theorem mf {xs:List Str} {fs:List (Value→Sem Unit)} (hs:ip F.env xs fs):∀{is:List Nat} {vs:List V} {cvs:List Value} {ρ:aF} {g:cj} {val:Str→Option Value} {s:Shared} {K:aF→Prop} {P:Unit→Shared→Prop},
 mL sc F.oc xs=some is→bv (eC C H p) vs cvs→FR C sc n ρ {F with g:=g,val:=val} H ⟨p.Φ,p.μ,s⟩→bc C g H ⟨p.Φ,p.μ,s⟩→fm is vs ρ K→
 (∀g' val' s' ρ',eQ s s'→FR C sc n ρ' {F with g:=g',val:=val'} H ⟨p.Φ,p.μ,s'⟩→bc C g' H ⟨p.Φ,p.μ,s'⟩→K ρ'→P () s')→Wp C F.A (assignInOrder fs cvs) P s:=by
 walk_at "a"
 induction hs with
 | nil=>
  intro is vs cvs ρ g val s K P h2 hv fr R hK h
  cases h2
  cases hv with
  | cons _ _=>exact False.elim hK
  | nil=>exact wpAny_pure (h g val s ρ (eQ.refl _) fr R (cq hK))
 | @cons x xs f fs hf hfs ih=>
  intro is vs cvs ρ g val s K P h2 hv fr R hK h
  obtain⟨i,e1,e2⟩:=bg.mp (show((nw sc F.oc x).bind fun i=>(mL sc F.oc xs).map (i:: ·))=some is from h2)
  obtain⟨is',e3,rfl⟩:=aE.mp e2
  obtain⟨k,e4,e5⟩:=li e1
  cases hv with
  | nil=>exact False.elim hK
  | cons hv hvs=>
   exact wpAny_assignInOrder_more (hf _ _ _ _ _ _ (FR.store (p:=⟨p.Φ,p.μ,s⟩) fr R e4 e5 hv fun g' s' sm fr' R'=>ih e3 hvs fr' R' hK fun g2 v2 s2 ρ2 sm2=>h g2 v2 s2 ρ2 (sm.trans sm2)))
 walk_at "z"
theorem stored {g':cj} {s':Shared} (sm:eQ p.s s') (R:bc C g' H ⟨p.Φ,p.μ,s'⟩):iO C F H p g' H ⟨p.Φ,p.μ,s'⟩:=⟨sm,qM.refl _ _,fun n _ h=>⟨rfl,h⟩,R⟩
theorem wU {x:Str} {e:Expr} {pt pos:Pos} {i:Nat} {Q:Fl→aF→Hp→Prop} (hi:nw sc true x=some i) (hs:∀env:Env,env.scope=sc→swapsWith e (some (.Name x pt)) pos.line env=pure false) (h:WE C sc n e ρ H fun v H1=>fm [i] [v] ρ fun ρ'=>Q .next ρ' H1):WX C sc n (.Assign [.Name x pt] e pos) ρ H Q:=
 fun F p oc fr R P k=>wpAny_Assign_Name (h F p fr R _ fun cv p1 v H1 st x q=>by
  obtain⟨kk,e4,e5⟩:=li hi
  exact(fr.step st).store st.rel e4 (oc▸e5) x fun g' s' sm fr' R'=>k _ g' _ ⟨p1.Φ,p1.μ,s'⟩ .next _ H1 ((st.s fr.le).trans (val:=F.val) (stored sm R')) fr' rfl (cq q)) (hs _ fr.env.scope)
theorem mB {h h':Heap} (he:Heap.ExtBut h.objs.size h h'):∀b o,h.get? b=some o→h'.get? b=some o:=fun b o e=>he b o (bD (d7 e)) e
theorem z7 {ts es:List Expr} {k1 k2:Nat} {tp vp pos:Pos} {xs:List Str} {is:List Nat} {Q:Fl→aF→Hp→Prop} (hx:gZ ts=some xs) (hi:mL sc true xs=some is) (hw:Ix sc ts es=some none)
 (h:WL C sc n es ρ H fun vs H1=>Br (fit vs.length&&Nat.beq vs.length xs.length) (fm is vs ρ fun ρ'=>Q .next ρ' H1) False):WX C sc n (.Assign [.Tuple ts k1 tp] (.Tuple es k2 vp) pos) ρ H Q:=
 fun F p oc fr R P k=>Assign_Tuple (wpAny_Tuple (h F p fr R vp _ fun cvs p1 vs H1 st xx q=>by
  obtain⟨f,q⟩:=Br.yes q
  have f:=aa.mp f
  refine⟨by rw [←xx.length];exact cI f.1,?_⟩
  obtain⟨a1,a2,a3⟩:=j4 (env:=F.env) hx
  refine wpAny_assign_Tuple (items:=cvs.toArray) fr.ok.1 ⟨_,aC _ rfl,rfl,_,rfl⟩ (by rw [a2,dP,←xx.length];exact(bJ f.2).symm) a3 fun h' he=>?_
  have st2:=st.rel.more (s':={p1.s with heap:=h'}) ⟨_,_,rfl⟩ fun b o e=>mB he b o (am _ e)
  exact mf (F:=F) (p:=p1) (is:=is) a1 (oc▸hi) xx ((fr.step st).step st2) st2.rel q fun g' v' s' ρ' sm fr' R' q=>k _ g' v' ⟨p1.Φ,p1.μ,s'⟩ .next ρ' H1 (((st.trans st2).s fr.le).trans (val:=F.val) (stored sm R')) fr' rfl q)) rfl (uS hw fr.kd fr.env.scope)
theorem wV {ts es:List Expr} {k1 k2:Nat} {tp vp pos:Pos} {xs:List Str} {is:List Nat} {Q:Fl→aF→Hp→Prop} (hi:mL sc true xs.reverse=some is) (hw:Ix sc ts es=some (some xs))
 (h:WL C sc n es ρ H fun vs H1=>Br (fit vs.length&&Nat.beq vs.length xs.length) (fm is vs.reverse ρ fun ρ'=>Q .next ρ' H1) False):WX C sc n (.Assign [.Tuple ts k1 tp] (.Tuple es k2 vp) pos) ρ H Q:=by
 walk_at "a"
 exact fun F p oc fr R P k=>Assign_Tuple_swapped (wpAny_Tuple (h F p fr R vp _ fun cvs p1 vs H1 st xx q=>by
  obtain⟨f,q⟩:=Br.yes q
  have f:=aa.mp f
  refine⟨by rw [←xx.length];exact cI f.1,?_⟩
  rw [←bJ f.2,xx.length,←dP]
  refine wpAny_unpackItems_tuple (items:=cvs.toArray) fr.ok.1 ⟨_,aC _ rfl,rfl,_,rfl⟩ fun h' he=>?_
  have st2:=st.rel.more (s':={p1.s with heap:=h'}) ⟨_,_,rfl⟩ fun b o e=>mB he b o (am _ e)
  exact mf (F:=F) (p:=p1) (is:=is) (oe xs.reverse) (oc▸hi) xx.reverse ((fr.step st).step st2) st2.rel q fun g' v' s' ρ' sm fr' R' q=>k _ g' v' ⟨p1.Φ,p1.μ,s'⟩ .next ρ' H1 (((st.trans st2).s fr.le).trans (val:=F.val) (stored sm R')) fr' rfl q)) rfl (uS hw fr.kd fr.env.scope)
 walk_at "z"
theorem Ge {x:Str} {op:Operator} {e:Expr} {pt pos:Pos} {i:Nat} {k:NameKind} {Q:Fl→aF→Hp→Prop} (hf:iy sc.names x 0=some (i,k)) (hn:(k== .local || (k== .cell&&true))=true) (hd2:(x==("__classdict__":Str))=false)
 (h:dd (nu ρ i) fun a=>WE C sc n e ρ H fun b H1=>a.tk False fun da=>b.tk False fun db=>Gj op da db fun r=>lB r H1 fun v H2=>fm [i] [v] ρ fun ρ'=>Q .next ρ' H2):WX C sc n (.AugAssign (.Name x pt) op e pos) ρ H Q:=by
 walk_at "a"
 exact fun F p oc fr R P kk=>dd.elim h fun a ea h=>wpAny_AugAssign_Name (fr.load R hf (lh ea) (by revert hn;cases k <;> first | exact fun _=>rfl | exact nofun) hd2 fun ca xa=>h F p fr R _ fun cb p1 b H1 st xb q=>by
  have xa:=xa.step st
  cases a with
  | ref _=>exact False.elim q
  | iref _ _=>exact False.elim q
  | t da=>
  cases b with
  | ref _=>exact False.elim q
  | iref _ _=>exact False.elim q
  | t db=>
  obtain⟨r,ok,q⟩:=CA (C:=C) q
  exact cD.up (K:=fun v H2=>fm [i] [v] ρ fun ρ'=>Q .next ρ' H2) st.rel (ok.go _ _ _ _ _ fr.ok2 st.rel.amb (AT.of st.rel.sub xa.1) (AT.of st.rel.sub xb.1)) q fun cv p2 v H2 st2 xv q=>((fr.step st).step st2).store st2.rel hf (oc▸hn) xv fun g' s' sm fr' R'=>kk _ g' _ ⟨p2.Φ,p2.μ,s'⟩ .next _ H2 (((st.trans st2).s fr.le).trans (val:=F.val) (stored sm R')) fr' rfl (cq q))
 walk_at "z"
end
inductive Tg where
 | one (i:Nat) | tup (is:List Nat)
noncomputable def cT (sc:Scope) (oc:Bool):Expr→Option Tg
 | .Name x _=>(nw sc oc x).map .one
 | .Tuple es _ _=>(gZ es).bind fun xs=>(mL sc oc xs).map .tup
 | _=>none
noncomputable def T.tpK {P:Type} (d:T) (z:P) (k:List T→P):P:=T.casesOn (motive_1:=fun _=>P) d z (fun _=>z) (fun _=>z) (fun _=>z) k (fun _=>z) (fun _=>z) (fun _ _=>z) fun _=>z
noncomputable def gv (tg:Tg) (d:T) (ρ:aF) (K:aF→Prop):Prop:=Tg.casesOn (motive:=fun _=>Prop) tg (fun i=>fm [i] [.t d] ρ K) fun is=>d.tpK False fun ds=>fm is (ds.map .t) ρ K
noncomputable def GQ:Expr→Bool
 | .Tuple _ _ _=>true
 | _=>false
noncomputable def UT (C:Cx) (Φ:cj) (h:Heap) (t:Expr) (d:T) (v:Value):Prop:=TR C Φ d v∨GQ t=true∧∃a items ds,d= .tup ds∧v= .ref a∧h.IsTuple a items∧eD C Φ ds items.toList
inductive FJ (C:Cx) (A:Around) (t:Expr) (g0 g:cj) (H:Hp) (p:Pt):Value→List T→Prop
 | mk {I:Addr} {own fp wr:List Addr} {Pv Md:Nat→Value→Heap→Prop} {St:Nat→Heap→Prop} {ts:List T} {nn:Nat}:ts.length=nn→KTurns C.prog C.w A t I fp wr nn Pv Md St→St 0 p.s.heap→(∀b∈own,f6 C g H p b)→(∀b∈wr,b∈own)→(∀b∈fp,b∈own∨p.Φ b≠none∨g0 b≠none)→
  (∀i h',St i h'→∀b∈own,h'.get? b≠none)→(∀i (s:Shared) (Q:Value→Shared→Prop) (E:Value→Shared→Prop),St i s.heap→Q (.ref I) s→wpAny (model C.prog C.w) A (pyIter (.ref I)) Q E s)→(∀i v h',Pv i v h'→i < nn→∃d,ts[i]? =some d∧∀Φ',Le p.Φ Φ'→UT C Φ' h' t d v)→FJ C A t g0 g H p (.ref I) ts
noncomputable def xw (body:aF→Hp→(Fl→aF→Hp→Prop)→Prop) (tg:Tg) (m:List Bool) (Q:Fl→aF→Hp→Prop) (ts:List T):aF→Hp→Prop:=
 List.rec (motive:=fun _=>aF→Hp→Prop) (fun ρ H=>Q .next ρ H) (fun d _ ih ρ H=>gv tg d ρ fun ρ1=>body ρ1 H (o5 Q fun ρ2 H2=>cQ m ρ2 H2 ih)) ts
structure kj (body:aF→Hp→(Fl→aF→Hp→Prop)→Prop) (tg:Tg) (m:List Bool) (Q:Fl→aF→Hp→Prop) (ts:List T) (ρ:aF) (H:Hp):Prop where
 go:xw body tg m Q ts ρ H
section
variable {C:Cx} {sc:Scope} {n:Nat} {ρ:aF} {H H':Hp} {F:Fm} {p p':Pt}
theorem pj {t:Expr} {tg:Tg} {d:T} {v:Value} {K:aF→Prop} {P:Unit→Shared→Prop} (ht:cT sc F.oc t=some tg) (fr:FR C sc n ρ F H p) (R:bc C F.g H p) (hv:UT C p.Φ p.s.heap t d v) (hK:gv tg d ρ K)
 (h:∀g' val' s' ρ',eQ p.s s'→FR C sc n ρ' {F with g:=g',val:=val'} H ⟨p.Φ,p.μ,s'⟩→bc C g' H ⟨p.Φ,p.μ,s'⟩→K ρ'→P () s'):Wp C F.A (assign t F.env v) P p.s:=by
 walk_at "a"
 unfold cT at ht
 split at ht
 · rename_i x pos
   obtain⟨i,e1,rfl⟩:=aE.mp ht
   obtain⟨k,e4,e5⟩:=li e1
   have hv:TR C p.Φ d v:=hv.elim id fun q=>nomatch q.1
   exact wpAny_assign_Name (fr.store R e4 e5 (v:= .t d) (TR.vri hv) fun g' s' sm fr' R'=>h g' _ s' _ sm fr' R' (cq hK))
 · rename_i es k pos
   obtain⟨xs,e1,e2⟩:=bg.mp ht
   obtain⟨is,e3,rfl⟩:=aE.mp e2
   replace hK:d.tpK False (fun ds=>fm is (ds.map .t) ρ K):=hK
   cases d with
   | tup ds=>
    have ht:∃a items,v= .ref a∧p.s.heap.IsTuple a items∧eD C p.Φ ds items.toList:=by
     rcases hv with hv | ⟨_,a,items,ds',e,e',x,y⟩
     · cases hv.tp with | @mk a items m q r=>exact⟨a,items,rfl,⟨_,R.sub _ _ q,rfl,_,rfl⟩,r⟩
     · cases e;exact⟨a,items,e',x,y⟩
    obtain⟨a,items,rfl,hT,hr⟩:=ht
    obtain⟨a1,a2,a3⟩:=j4 (env:=F.env) e1
    have vr:bv (eC C H p) (ds.map .t) items.toList:=by
     clear hK hv hT a1 a2 a3
     generalize items.toList=l at hr
     induction hr with
     | nil=>exact .nil
     | cons r _ ih=>exact .cons (TR.vri r) ih
    have hl:∀{is:List Nat} {vs:List V} {ρ:aF},fm is vs ρ K→is.length=vs.length:=fun {is}=>by
     induction is with
     | nil=>intro vs ρ h;cases vs with
      | nil=>rfl
      | cons _ _=>exact False.elim h
     | cons i is ih=>intro vs ρ h;cases vs with
      | nil=>exact False.elim h
      | cons v vs=>exact congrArg (· +1) (ih h)
    have hm:∀{xs:List Str} {is:List Nat},mL sc F.oc xs=some is→is.length=xs.length:=fun {xs}=>by
     induction xs with
     | nil=>intro is h;cases h;rfl
     | cons x xs ih=>
      intro is h
      obtain⟨i,_,e2⟩:=bg.mp (show((nw sc F.oc x).bind fun i=>(mL sc F.oc xs).map (i:: ·))=some is from h)
      obtain⟨is',e3,rfl⟩:=aE.mp e2
      exact congrArg (· +1) (ih e3)
    refine wpAny_assign_Tuple (items:=items) fr.ok.1 hT (by rw [a2,←hm e3,hl hK,a9,hr.size]) a3 fun h' he=>?_
    have st:=R.more (s':={p.s with heap:=h'}) ⟨_,_,rfl⟩ (mB he)
    exact mf (F:=F) (p:=p) a1 e3 vr (fr.step st) st.rel hK fun g' v' s' ρ' sm fr' R'=>h g' v' s' ρ' (eQ.trans ⟨_,_,rfl⟩ sm) fr' R'
   | _=>exact False.elim hK
 · cases ht
 walk_at "z"
theorem FR.lend (fr:FR C sc n ρ F H p) {own:List Addr} (f:∀b∈own,f6 C F.g H p b):FR C sc n ρ {F with g0:=gw own p.s.heap F.g0,g:=gw own p.s.heap F.g} H p:=by
 have no:∀b,Fa F.env b→b∉own:=fun b hb q=>fr.fa hb (f b q).g
 refine fr.reg (fun b o e=>?_) fun b hb=>⟨gh (no b hb),fun e=>(gh (no b hb)).trans e⟩
 by_cases q:b∈own
 · exact(lL q).trans ((lL q).symm.trans e)
 · exact(gh q).trans (fr.le _ _ ((gh q).symm.trans e))
noncomputable def BW (own:List Addr) (g:cj):cj:=fun b=>if b∈own then none else g b
theorem l5 {own:List Addr} {h:Heap} {ρ':aF} {g':cj} {val':Str→Option Value} (f:∀b∈own,f6 C F.g H p b) (e:h=p.s.heap) (fr0:FR C sc n ρ F H p) (st:iO C {F with g0:=gw own h F.g0,g:=gw own h F.g} H p g' H' p') (fr:FR C sc n ρ' {F with g0:=gw own h F.g0,g:=g',val:=val'} H' p'):
 iO C F H p (BW own g') H' p'∧FR C sc n ρ' {F with g:=BW own g',val:=val'} H' p'∧(∀b∈own,f6 C (BW own g') H' p' b∧p'.s.heap.get? b=p.s.heap.get? b):=by
 walk_at "a"
 subst e
 have g0n:∀b∈own,F.g0 b=none:=fun b hb=>fr0.le.none (f b hb).g
 have lg:Le F.g0 (gw own p.s.heap F.g0):=vQ g0n
 have has:∀b∈own,gw own p.s.heap F.g0 b≠none:=fun b hb=>by rw [lL hb];exact(f b hb).has
 have has':∀b∈own,g' b≠none:=fun b hb q=>has b hb (fr.le.none q)
 have out:∀{b},b∉own→BW own g' b=g' b:=fun hb=>if_neg hb
 have out':∀{b},b∈own→BW own g' b=none:=fun hb=>if_pos hb
 have lr:Le (BW own g') g':=fun b o e=>by
  by_cases q:b∈own
  · rw [out' q] at e;cases e
  · rw [out q] at e;exact e
 have lr0:Le F.g0 (BW own g'):=fun b o e=>by
  have q:b∉own:=fun q=>by rw [g0n b q] at e;cases e
  rw [out q];exact fr.le _ _ (lg _ _ e)
 have same:∀b∈own,p'.s.heap.get? b=p.s.heap.get? b:=fun b hb=>by
  cases q:p.s.heap.get? b with
  | none=>exact absurd q (f b hb).has
  | some o=>exact st.rel.gsub _ _ (fr.le _ _ ((lL hb).trans q))
 refine⟨⟨st.same,st.ext.le lg,st.mu,st.rel.le lr⟩,?_,fun b hb=>⟨⟨by rw [same b hb];exact(f b hb).has,(st.ext.2 b (has b hb)).trans (f b hb).phi,out' hb,(f b hb).ne,fun m o e l q=>st.rel.alive e l fun _ _ _ _ z _=>has' b hb (q▸z)⟩,same b hb⟩⟩
 exact fr.reg (g0:=F.g0) (g:=BW own g') lr0 fun b hb=>by
  have q:b∉own:=fun q=>fr0.fa hb (f b q).g
  exact⟨out q,fun e=>(gh q).symm.trans e⟩
 walk_at "z"
theorem qi {α:Type} {l:List α} {i:Nat} {d:α} (h:l[i]? =some d):l.drop i=d::l.drop (i+1):=by
 obtain⟨hi,rfl⟩:=bM.mp h
 exact bj hi
theorem sI {t:Expr} {tg:Tg} {b:List Stmt} {m:List Bool} {it:Value} {ts:List T} {Q:Fl→aF→Hp→Prop} {P:Flow→Shared→Prop} {body:aF→Hp→(Fl→aF→Hp→Prop)→Prop} (hbd:∀{ρ H Q},body ρ H Q→WS C sc n b ρ H Q) (ht:cT sc true t=some tg) (oc:F.oc=true) (fr:FR C sc (n+2) ρ F H p) (R:bc C F.g H p) (hI:FJ C F.A t F.g0 F.g H p it ts)
 (h:cQ m ρ H (kj body tg m Q ts)) (k:SK C sc n F H p Q P):codeAny (model C.prog C.w) F.A (.forLoop t it b [] F.env) (fun r s'=>∃f,r= .ok f∧P f s') p.s:=by
 walk_at "a"
 cases hI with | @mk I own fp wr Pv Md St _ nn hnn K hst free hwr hfp hSt hself hP=>
 refine kq fr R h fun ρ0 H0 p0 e0 st0 fr0 fz0 h0=>?_
 refine codeAny_forLoop_any (fun k s'=>∃i g' val' ρ' H' p',k=nn+1 - i∧i≤nn∧p'.s=s'∧St i s'.heap∧iO C F H p g' H' p'∧FR C sc (n+2) ρ' {F with g:=g',val:=val'} H' p'∧(∀b∈own,f6 C g' H' p' b)∧xw body tg m Q (ts.drop i) ρ' H') ?_ (nn+1)
  ⟨0,F.g,F.val,ρ0,H0,p0,rfl,bl _,e0,hst,st0,fr0,fun b hb=>fz0 _ b (free b hb),h0.go⟩
 rintro k3 s3 ⟨i,g3,v3,ρ3,H3,p3,rfl,hi,rfl,hst3,st3,fr3,free3,h3⟩
 by_cases hlt:i < nn
 · refine K.item i _ _ _ hlt hst3 fun v h1 tk1 hMd hk1=>?_
   refine K.go i v _ _ _ hMd fun h2 hP2 hst2 hk2=>?_
   have s2:=st3.rel.but (s':={p3.s with heap:=h2,toks:=tk1}) (· ∈wr) (fun b hb=>free3 b (hwr b hb)) ⟨_,_,rfl⟩ fun b o hb e=>hk2 b o hb (hk1 b o hb e)
   have fr2:=fr3.step s2
   obtain⟨d,hd,hu⟩:=hP i v h2 hP2 hlt
   rw [qi hd] at h3
   have free2:∀b∈own,f6 C g3 H3 ⟨p3.Φ,p3.μ,{p3.s with heap:=h2,toks:=tk1}⟩ b:=fun b hb=>⟨hSt _ _ hst2 b hb,(free3 b hb).phi,(free3 b hb).g,(free3 b hb).ne,(free3 b hb).sl⟩
   refine wpAny_mono (E:=oj) (pj (oc▸ht) (fr2.lend free2) (s2.rel.guardL free2) (hu _ st3.ext.1) h3 fun g5 v5 s5 ρ5 sm5 fr5 R5 hb=>?_) (fun _ _ x=>x) fun _ _ x=>x.elim
   refine wpAny_mono (E:=oj) (hbd hb {F with g0:=gw own h2 F.g0,g:=g5,val:=v5} _ oc fr5 R5 _ fun fl g6 v6 p6 f ρ6 H6 st6 fr6 ff q=>?_) (fun _ _ x=>x) fun _ _ x=>x.elim
   obtain⟨x1,x2,x3⟩:=l5 (val':=v6) free2 rfl fr2 ((stored sm5 R5).trans (val:=v5) st6) fr6
   have st6:=(st3.trans (val:=v3) (s2.s fr3.le)).trans (val:=v3) x1
   have hst6:St (i+1) p6.s.heap:=K.frame _ _ _ hst2 fun b hb o e=>by
    rcases hfp b hb with q | q | q
    · exact(x3 b q).2.trans e
    · cases q':p.Φ b with
      | none=>exact absurd q' q
      | some o'=>
       have y:=st3.ext.1 _ _ q'
       have z:=s2.rel.sub _ _ y
       rw [show h2.get? b=some o' from z] at e
       cases e
       exact st6.rel.sub _ _ (x1.ext.1 _ _ y)
    · cases q':F.g0 b with
      | none=>exact absurd q' q
      | some o'=>
       have z:=s2.rel.gsub _ _ (fr3.le _ _ q')
       rw [show h2.get? b=some o' from z] at e
       cases e
       exact st6.rel.gsub _ _ (x2.le _ _ q')
   have again:∀h:cQ m ρ6 H6 (xw body tg m Q (ts.drop (i+1))),∃j,j < nn+1 - i∧∃i g' val' ρ' H' p',j=nn+1 - i∧i≤nn∧p'.s=p6.s∧St i p6.s.heap∧iO C F H p g' H' p'∧FR C sc (n+2) ρ' {F with g:=g',val:=val'} H' p'∧(∀b∈own,f6 C g' H' p' b)∧xw body tg m Q (ts.drop i) ρ' H':=fun h=>
    kq x2 st6.rel h fun ρ7 H7 p7 e7 st7 fr7 fz7 h7=>⟨nn+1 - (i+1),by omega,i+1,_,v6,ρ7,H7,p7,rfl,hlt,e7,hst6,st6.trans (val:=v6) st7,fr7,fun b hb=>fz7 _ b (x3 b hb).1,h7⟩
   cases f with
   | next=>cases (show fl=_ from ff);exact again q
   | cont=>cases (show fl=_ from ff);exact again q
   | brk=>cases (show fl=_ from ff);exact⟨_,rfl,k _ _ v6 p6 .next ρ6 H6 st6 x2 rfl q⟩
   | ret v=>obtain⟨cv,rfl,y⟩:=ff;exact⟨_,rfl,k _ _ v6 p6 (.ret v) ρ6 H6 st6 x2 ⟨cv,rfl,y⟩ q⟩
 · have hin:i=nn:=kW hi (bU.mp hlt)
   subst hin
   refine K.done _ _ _ hst3 fun h1 tk1 hk1=>wpAny_execs_nil ⟨_,rfl,?_⟩
   have s2:=st3.rel.but (s':={p3.s with heap:=h1,toks:=tk1}) (· ∈wr) (fun b hb=>free3 b (hwr b hb)) ⟨_,_,rfl⟩ fun b o hb e=>hk1 b o hb e
   rw [←hnn,dD] at h3
   exact k _ g3 v3 ⟨p3.Φ,p3.μ,{p3.s with heap:=h1,toks:=tk1}⟩ .next ρ3 H3 (st3.trans (val:=v3) (s2.s fr3.le)) (fr3.step s2) rfl h3
 walk_at "z"
end
noncomputable def tK (H:Hp) (m:Nat):Hp:=H.filter fun e=> !Nat.beq e.1 m
theorem B1 {H:Hp} {m:Nat}:(tK H m).lookup m=none:=by
 walk_at "a"
 induction H with
 | nil=>rfl
 | cons e r ih=>
  unfold tK
  rw [bN]
  split
  · rename_i q
    exact(aX (o:=e.2) (H:=tK r m) fun z=>by rw [←z,Nat.beq_refl] at q;cases q).trans ih
  · exact ih
 walk_at "z"
theorem nF {H:Hp} {m n:Nat} (h:n≠m):(tK H m).lookup n=H.lookup n:=by
 walk_at "a"
 induction H with
 | nil=>rfl
 | cons e r ih=>
  unfold tK
  rw [bN]
  by_cases q:n=e.1
  · rw [if_pos (by rw [←q,show Nat.beq n m=false from by cases z:Nat.beq n m with
     | false=>rfl
     | true=>exact absurd (bJ z) h];rfl)]
    subst q
    exact(be (o:=e.2)).trans (be (o:=e.2)).symm
  · refine Eq.trans ?_ (aX (o:=e.2) q).symm
    split
    · exact(aX (o:=e.2) q).trans ih
    · exact ih
 walk_at "z"
theorem gX {H:Hp} {m n:Nat} {o:O} (h:(tK H m).lookup n=some o):n≠m∧H.lookup n=some o:=by
 walk_at "a"
 have q:n≠m:=fun q=>by rw [q,B1] at h;cases h
 exact⟨q,(nF q).symm.trans h⟩
 walk_at "z"
noncomputable def we (H:Hp) (m:Nat):Bool:=H.all fun e=> !fZ m e.2.ids
theorem Ax {n:Nat} {L:List Nat} (h:n∈L):fZ n L=true:=by
 induction L with
 | nil=>cases h
 | cons m l ih=>
  show(bif Nat.beq n m then true else fZ n l)=true
  cases q:Nat.beq n m with
  | true=>rfl
  | false=>cases h with
   | head=>exact absurd rfl (cY q)
   | tail _ h=>exact ih h
theorem oX {H:Hp} {n:Nat} {o:O} (h:H.lookup n=some o):(n,o)∈H:=by
 induction H with
 | nil=>cases h
 | cons e r ih=>
  by_cases q:n=e.1
  · subst q;cases (show some e.2=some o from(be (o:=e.2)).symm.trans h);exact .head _
  · exact .tail _ (ih ((aX (o:=e.2) q).symm.trans h))
inductive nO (C:Cx) (F:Fm) (t:Expr) (H:Hp) (p:Pt) (it:Value) (ts:List T):Option Nat→Prop
 | tree:FJ C F.A t F.g0 F.g H p it ts→nO C F t H p it ts none
 | slot {m:Nat}:H.lookup m=some (.list ts)→FJ C F.A t (gw [p.μ m] p.s.heap F.g0) (gw [p.μ m] p.s.heap F.g) (tK H m) p it ts→nO C F t H p it ts (some m)
noncomputable def WI (C:Cx) (sc:Scope) (n:Nat) (t e:Expr) (ρ:aF) (H:Hp) (Q:List T→Option Nat→Hp→Prop):Prop:=∀F p,FR C sc (n+2) ρ F H p→bc C F.g H p→∀P:Value→Shared→Prop,(∀it p' ts src H',f5 C F.g H p H' p'→nO C F t H' p' it ts src→Q ts src H'→P it p'.s)→
 Wp C F.A (eval e F.env) (fun x s1=>Wp C F.A (pyIter x) P s1) p.s
noncomputable def K2 (H:Hp) (v:V) (K:List T→Option Nat→Prop):Prop:=V.casesOn (motive:=fun _=>Prop) v (fun d=>d.lk False fun ts=>K ts none) (fun n=>dd (H.lookup n) fun o=>pO o (fun ts=>K ts (some n)) (fun _=>False) (fun d=>d.lk False fun ts=>K ts none) fun _=>False) fun _ _=>False
section
variable {C:Cx} {sc:Scope} {n:Nat} {ρ:aF} {H:Hp} {F:Fm} {p:Pt} {A:Around} {g g0:cj}
theorem bc.lend1 (R:bc C g H p) {m:Nat} {o:O} (hm:H.lookup m=some o) (lv:o.live=true) (nr:we H m=true):bc C g (tK H m) p∧f6 C g (tK H m) p (p.μ m):=by
 walk_at "a"
 refine R.alive hm lv fun ob h1 h2 h3 h4 h5=>⟨⟨R.base,R.sub,R.gsub,R.gP,R.tab,fun k o e=>R.slots k o (gX e).2,fun k k' o o' e e'=>R.inj k k' o o' (gX e).2 (gX e').2,fun k o e j hj=>?_⟩,⟨bt h1,h3,h4,h5,fun k o' e l q=>(gX e).1 (R.inj k m o' o (gX e).2 hm l lv q)⟩⟩
 have ne:j≠m:=fun q=>by
  have:=aj.mp nr _ (oX (gX e).2)
  rw [Ax (q▸hj)] at this;cases this
 rw [nF ne];exact R.ids k o (gX e).2 j hj
 walk_at "z"
theorem eW (R:bc C g H p) {b:Addr} {s':Shared} (hb:p.s.heap.get? b=none) (h:s'.heap.get? b≠none):f6 C g H ⟨p.Φ,p.μ,s'⟩ b:=by
 walk_at "a"
 refine⟨h,eG R.sub hb,eG R.gsub hb,fun q=>?_,fun k o e l q=>R.alive e l fun ob z _ _ _ _=>?_⟩
 · obtain⟨ps,e,_⟩:=R.tab;rw [←q,hb] at e;cases e
 · rw [q,hb] at z;cases z
 walk_at "z"
theorem ky {h:Heap} {b:Addr} (hb:h.objs.size≤b):h.get? b=none:=hY hb
theorem sS {t:Expr} {a:Addr} {items:Array Value} {k:Nat} {ts:List T} {s':Shared} (hh:A.handled=none) (ha:p.s.heap.get? a=some (listOf items k)) (hr:eD C p.Φ ts items.toList) (hfp:p.Φ a≠none∨g0 a≠none) (hs:s'={p.s with heap:=p.s.heap.push {cls:= .type "list_iterator",data:= .fields #[.ref a, .int 0 0]}})
 (fr:∀b,p.s.heap.get? b=none→s'.heap.get? b≠none→f6 C g H ⟨p.Φ,p.μ,s'⟩ b):FJ C A t g0 g H ⟨p.Φ,p.μ,s'⟩ (.ref p.s.heap.objs.size) ts:=by
 walk_at "a"
 subst hs
 have W:=Walks.list (prog:=C.prog) (w:=C.w) hh p.s.heap.objs.size a (bD (d7 ha)) items
 refine .mk (own:=[p.s.heap.objs.size]) hr.size (KTurns.ofWalks (target:=t) W fun i v s Q E st q=>letGo_listiter st.1 q) ⟨⟨_,aC _ rfl,rfl,rfl⟩,(cA ha).at fun o e=>am _ e⟩ (fun b hb=>?_) (fun b hb=>hb) (fun b hb=>?_) (fun i h' x b hb=>?_) W.self fun i v h' hP hi=>?_
 · rw [af.mp hb];exact fr _ (cS _) (bt (aC _ rfl))
 · rcases aS.mp hb with rfl | hb
   · exact .inl (.head _)
   · rw [af.mp hb];exact .inr hfp
 · rw [af.mp hb];obtain⟨o,q,_⟩:=x.1;exact bt q
 · exact hr.get' (i:=i) (b:=v) (by rw [aY];exact hP) fun d e1 e2=>⟨d,e1,fun Φ' l=> .inl (e2.mono l)⟩
 walk_at "z"
theorem Da {t:Expr} {a:Addr} {items:Array Value} {k:Nat} {ts:List T} (R:bc C g H p) (hh:A.handled=none) (ha:p.Φ a=some (gm items k)) (hr:eD C p.Φ ts items.toList):FJ C A t g0 g H ⟨p.Φ,p.μ,{p.s with heap:=p.s.heap.push {cls:= .type "tuple_iterator",data:= .fields #[.ref a, .int 0 0]}}⟩ (.ref p.s.heap.objs.size) ts:=by
 walk_at "a"
 have ha':=R.sub _ _ ha
 have W:=Walks.tuple (prog:=C.prog) (w:=C.w) hh p.s.heap.objs.size a (bD (d7 ha')) items
 refine .mk (own:=[p.s.heap.objs.size]) hr.size (KTurns.ofWalks (target:=t) W fun i v s Q E st q=>letGo_tupleiter st.1 q) ⟨⟨_,aC _ rfl,rfl,rfl⟩,⟨_,am _ ha',rfl,_,rfl⟩⟩ (fun b hb=>?_) (fun b hb=>hb) (fun b hb=>?_) (fun i h' x b hb=>?_) W.self fun i v h' hP hi=>?_
 · rw [af.mp hb];exact eW R (cS _) (bt (aC _ rfl))
 · rcases aS.mp hb with rfl | hb
   · exact .inl (.head _)
   · rw [af.mp hb];exact .inr (.inl (bt ha))
 · rw [af.mp hb];obtain⟨o,q,_⟩:=x.1;exact bt q
 · exact hr.get' (i:=i) (b:=v) (by rw [aY];exact hP) fun d e1 e2=>⟨d,e1,fun Φ' l=> .inl (e2.mono l)⟩
 walk_at "z"
theorem oq {t:Expr} {d:T} {cv:Value} {K:List T→Option Nat→Prop} {P:Value→Shared→Prop} (hh:F.A.handled=none) (R:bc C F.g H p) (x:TR C p.Φ d cv) (h:d.lk False fun ts=>K ts none)
 (k:∀it p' ts src,f5 C F.g H p H p'→nO C F t H p' it ts src→K ts src→P it p'.s):Wp C F.A (pyIter cv) P p.s:=by
 cases d with
 | lst ts=>
  obtain⟨a,items,j,rfl,e,r⟩:=x
  exact wpAny_pyIter_list (cA (R.sub _ _ e)) (k _ ⟨p.Φ,p.μ,_⟩ ts none (R.more ⟨_,_,rfl⟩ fun b o e=>am _ e) (.tree (sS hh (R.sub _ _ e) (fe r) (.inl (bt e)) rfl fun b hb hb'=>eW R hb hb')) h)
 | tup ts=>
  obtain⟨a,items,j,rfl,e,r⟩:=x
  exact wpAny_pyIter_tuple ⟨_,R.sub _ _ e,rfl,_,rfl⟩ (k _ ⟨p.Φ,p.μ,_⟩ ts none (R.more ⟨_,_,rfl⟩ fun b o e=>am _ e) (.tree (Da R hh e (fe r))) h)
 | _=>exact False.elim h
theorem Ga {t e:Expr} {Q:List T→Option Nat→Hp→Prop} (h:WE C sc n e ρ H fun v H1=>K2 H1 v fun ts src=>Q ts src H1):WI C sc n t e ρ H Q:=by
 walk_at "a"
 exact fun F p fr R P k=>h F p fr R _ fun cv p1 v H1 st x q=>by
  have kk:∀it p' ts src,f5 C F.g H1 p1 H1 p'→nO C F t H1 p' it ts src→Q ts src H1→P it p'.s:=fun it p' ts src s2 i q=>k it p' ts src H1 (st.trans s2) i q
  cases v with
  | t d=>exact oq (K:=fun ts src=>Q ts src H1) fr.ok.1 st.rel x.1 q kk
  | iref _ _=>exact False.elim q
  | ref m=>
   refine dd.elim (show dd (H1.lookup m) _ from q) fun o e q=>?_
   cases (show cv= .ref (p1.μ m) from x.1)
   cases o with
   | dict es=>exact False.elim q
   | tdct es=>exact False.elim q
   | frz d=>
    cases st.rel.slots m _ e with
    | frz y=>exact oq (K:=fun ts src=>Q ts src H1) fr.ok.1 st.rel y q kk
    | live _ b=>exact b.elim
   | list ts=>
    refine st.rel.alive e rfl fun ob h1 h2 h3 h4 h5=>?_
    cases h2 with | mk items j r=>
    have s2:=st.rel.more (s':={p1.s with heap:=p1.s.heap.push {cls:= .type "list_iterator",data:= .fields #[.ref (p1.μ m), .int 0 0]}}) ⟨_,_,rfl⟩ fun b o e=>am _ e
    refine wpAny_pyIter_list (cA h1) (kk _ ⟨p1.Φ,p1.μ,_⟩ ts (some m) s2 (.slot e (sS fr.ok.1 h1 r (.inr (by rw [lL (.head _)];exact bt (am _ h1))) rfl fun b hb hb'=>?_)) q)
    have f:=eW st.rel hb hb'
    have ne:b≠p1.μ m:=fun q=>by rw [q,h1] at hb;cases hb
    exact⟨hb',f.phi,(gh fun q=>ne (af.mp q)).trans f.g,f.ne,fun k o e=>f.sl k o (gX e).2⟩
 walk_at "z"
noncomputable def J3 (m:Nat) (a:Addr) (v:V):Option V:=V.casesOn (motive:=fun _=>Option V) v (fun d=>some (.t d)) (fun k=>bif Nat.beq k m then some (.t (.raw (.ref a))) else some (.ref k)) fun Cl k=>bif Nat.beq k m then none else some (.iref Cl k)
noncomputable def vR (m:Nat) (a:Addr) (ρ:aF):aF:=ρ.map fun v=>v.bind (J3 m a)
noncomputable def GO (m:Nat) (v:Option V):Bool:=an (motive:=fun _=>Bool) v false fun v=>V.casesOn (motive:=fun _=>Bool) v (fun _=>false) (fun k=>Nat.beq k m) fun _ _=>false
noncomputable def ws (m m':Nat) (a:Addr) (ρ0:aF):aF→(aF→Prop)→Prop:=List.rec (motive:=fun _=>aF→(aF→Prop)→Prop) (fun ρ K=>ay (motive:=fun _=>Prop) ρ (K []) fun _ _=>False)
 (fun v _ ih ρ K=>ay (motive:=fun _=>Prop) ρ False fun w r=>bif GO m v then w=some (.t (.raw (.ref a)))∧ih r (fun r'=>K (some (.ref m')::r')) else ih r fun r'=>K (w::r')) ρ0
noncomputable def IR (m:Nat) (a:Addr) (ts:List T) (ρ0:aF) (Q:Fl→aF→Hp→Prop) (f:Fl) (ρ:aF) (H:Hp):Prop:=Br (H.lookup (bif bf m 100 then m else eN H)).isNone (ws m (bif bf m 100 then m else eN H) a ρ0 ρ fun ρ'=>Q f ρ' ((bif bf m 100 then m else eN H, .list ts)::H)) False
noncomputable def CV (body:aF→Hp→(Fl→aF→Hp→Prop)→Prop) (tg:Tg) (Q:Fl→aF→Hp→Prop) (ts:List T) (src:Option Nat) (ρ:aF) (H:Hp):Prop:=
 an (motive:=fun _=>Prop) src (cQ (E5 ρ) ρ H (kj body tg (E5 ρ) Q ts)) fun m=>Br (we H m) (∀a,fE (vR m a ρ) fun ρ1=>cQ (E5 ρ1) ρ1 (tK H m) (kj body tg (E5 ρ1) (IR m a ts ρ Q) ts)) False
theorem E7 {m m':Nat} {a:Addr} {ρ0:aF}:∀{ρ:aF} {K:aF→Prop},ws m m' a ρ0 ρ K→∃ρ',K ρ'∧∀(i:Nat) (v:V),(ρ':List (Option V))[i]? =some (some v)→(v= .ref m'∧(ρ:List (Option V))[i]? =some (some (.t (.raw (.ref a)))))∨(ρ:List (Option V))[i]? =some (some v):=by
 walk_at "a"
 induction ρ0 with
 | nil=>intro ρ K h;cases ρ with
  | nil=>exact⟨[],h,fun i v e=>nomatch e⟩
  | cons _ _=>exact False.elim h
 | cons v r ih=>
  intro ρ K h
  cases ρ with
  | nil=>exact False.elim h
  | cons w ρ=>
   replace h:(bif GO m v then w=some (.t (.raw (.ref a)))∧ws m m' a r ρ (fun r'=>K (some (.ref m')::r')) else ws m m' a r ρ fun r'=>K (w::r')):=h
   cases q:GO m v with
   | true=>
    rw [q] at h
    obtain⟨ρ',k,x⟩:=ih h.2
    refine⟨_,k,fun i u e=>?_⟩
    cases i with
    | zero=>cases e;exact .inl ⟨rfl,congrArg some h.1⟩
    | succ i=>exact x i u e
   | false=>
    rw [q] at h
    obtain⟨ρ',k,x⟩:=ih h
    refine⟨_,k,fun i u e=>?_⟩
    cases i with
    | zero=>exact .inr e
    | succ i=>exact x i u e
 walk_at "z"
theorem FR.hide {m:Nat} (fr:FR C sc n ρ F H p):FR C sc n (vR m (p.μ m) ρ) F (tK H m) p:=by
 walk_at "a"
 refine {fr with vars:=fun i x k v e1 e2=>?_}
 unfold vR at e2
 rw [ax] at e2
 obtain⟨w,w1,w2⟩:=aE.mp e2
 obtain⟨u,rfl,w3⟩:=bg.mp w2
 obtain⟨cv,c1,c2⟩:=fr.vars i x k u e1 w1
 refine⟨cv,c1,?_⟩
 cases u with
 | t d=>cases w3;exact⟨c2.1,fun _ h=>nomatch h⟩
 | ref j=>
  replace w3:(bif Nat.beq j m then some (V.t (.raw (.ref (p.μ m)))) else some (.ref j))=some v:=w3
  cases q:Nat.beq j m with
  | true=>rw [q] at w3;cases w3;cases bJ q;exact TR.vri (show cv=_ from c2.1)
  | false=>rw [q] at w3;cases w3;exact⟨c2.1,fun i hi=>by rw [af.mp hi,nF (cY q)];exact c2.2 j (.head _)⟩
 | iref Cl j=>
  replace w3:(bif Nat.beq j m then none else some (V.iref Cl j))=some v:=w3
  cases q:Nat.beq j m with
  | true=>rw [q] at w3;cases w3
  | false=>rw [q] at w3;cases w3;exact⟨c2.1,fun i hi=>by rw [af.mp hi,nF (cY q)];exact c2.2 j (.head _)⟩
 walk_at "z"
noncomputable def IF (C:Cx) (sc:Scope) (n:Nat) (t e:Expr) (ρ:aF) (H:Hp) (Q:List T→Option Nat→Hp→Prop):Prop:=∀F p,FR C sc (n+2) ρ F H p→bc C F.g H p→∀P:Value→Shared→Prop,(∀it p' g' ts src H',iO C F H p g' H' p'→FR C sc (n+2) ρ {F with g:=g'} H' p'→nO C {F with g:=g'} t H' p' it ts src→Q ts src H'→P it p'.s)→
 Wp C F.A (eval e F.env) (fun x s1=>Wp C F.A (pyIter x) P s1) p.s
theorem WI.toG {t e:Expr} {Q:List T→Option Nat→Hp→Prop} (h:WI C sc n t e ρ H Q):IF C sc n t e ρ H Q:=fun F p fr R P k=>h F p fr R P fun it p' ts src H' st i q=>k it p' F.g ts src H' (st.s fr.le) (fr.step st) i q
theorem CW {t:Expr} {tg:Tg} {b:List Stmt} {Q:Fl→aF→Hp→Prop} {P:Flow→Shared→Prop} {H1:Hp} {p1:Pt} {it:Value} {ts:List T} {src:Option Nat} {body:aF→Hp→(Fl→aF→Hp→Prop)→Prop} (hbd:∀{ρ H Q},body ρ H Q→WS C sc n b ρ H Q) (ht:cT sc true t=some tg) (oc:F.oc=true) (fr1:FR C sc (n+2) ρ F H1 p1) (R:bc C F.g H1 p1)
 (i:nO C F t H1 p1 it ts src) (q:CV body tg Q ts src ρ H1) (k1:SK C sc n F H1 p1 Q P):codeAny (model C.prog C.w) F.A (.forLoop t it b [] F.env) (fun r s'=>∃f,r= .ok f∧P f s') p1.s:=by
 walk_at "a"
 cases i with
 | tree i=>exact sI hbd ht oc fr1 R i q k1
 | @slot m e i=>
  obtain⟨nr,q⟩:=Br.yes q
  have q:=cq (q (p1.μ m))
  obtain⟨R1,f1⟩:=R.lend1 e rfl nr
  have f1':∀b∈[p1.μ m],f6 C F.g (tK H1 m) p1 b:=fun b hb=>by rw [af.mp hb];exact f1
  refine sI (F:={F with g0:=gw [p1.μ m] p1.s.heap F.g0,g:=gw [p1.μ m] p1.s.heap F.g}) hbd ht oc (fr1.hide.lend f1') (R1.guardL f1') i q fun fl g' val' p' f ρ' H' st' fr' ff q=>?_
  obtain⟨x1,x2,x3⟩:=l5 (val':=val') f1' rfl fr1.hide st' fr'
  obtain⟨f2,e2⟩:=x3 _ (.head _)
  obtain⟨hn,q⟩:=Br.yes q
  obtain⟨ρ2,q,sh⟩:=E7 q
  refine R.alive e rfl fun ob h1 h2 h3 h4 h5=>?_
  have s3:=x1.rel.alloc (k:=bif bf m 100 then m else eN H') (o:= .list ts) (fw.mp hn) (e2.trans h1) (OR.mono (o:= .list ts) x1.ext.1 (fun _ h=>nomatch h) h2) f2.phi f2.g f2.sl fun _ h=>nomatch h
  have fr3:=x2.step (F:={F with g:=BW [p1.μ m] g',val:=val'}) s3
  refine k1 fl (BW [p1.μ m] g') val' ⟨p'.Φ,fun j=>if j=bif bf m 100 then m else eN H' then p1.μ m else p'.μ j,p'.s⟩ f ρ2 _ ⟨x1.same,x1.ext,fun j hj hs=>?_,s3.rel⟩ {fr3 with vars:=fun i x kk v e3 e4=>?_} ?_ q
  · by_cases z:j=m
    · subst z
      rw [dJ.mpr hj]
      exact⟨if_pos rfl,congrArg bY be⟩
    · have y:=x1.mu j hj (by rw [nF z];exact hs)
      have y2:=s3.mu j y.2
      exact⟨y2.1.trans y.1,y2.2⟩
  · rcases sh i v e4 with⟨rfl,e5⟩ | e5
    · obtain⟨cv,c1,c2⟩:=x2.vars i x kk _ e3 e5
      refine⟨cv,c1,(show cv= .ref (p1.μ m) from c2.1).trans (congrArg Value.ref (if_pos rfl).symm),fun j hj=>?_⟩
      rw [af.mp hj,be];rfl
    · exact fr3.vars i x kk v e3 e5
  · cases f with
    | ret v=>obtain⟨cv,e6,y⟩:=ff;exact⟨cv,e6,y.step s3⟩
    | _=>exact ff
 walk_at "z"
theorem z6 {t e:Expr} {tg:Tg} {b:List Stmt} {pos:Pos} {Q:Fl→aF→Hp→Prop} {body:aF→Hp→(Fl→aF→Hp→Prop)→Prop} (hbd:∀{ρ H Q},body ρ H Q→WS C sc n b ρ H Q) (ht:cT sc true t=some tg) (hs:∀env x,foldedSetIterable e env x=pure x) (h:IF C sc n t e ρ H fun ts src H1=>CV body tg Q ts src ρ H1):WX C sc n (.For t e b [] pos) ρ H Q:=by
 walk_at "a"
 exact fun F p oc fr R P k=>wpAny_For (wpAny_mono (E:=oj) (h F p fr R _ fun it p1 g1 ts src H1 st fr1 i q=>codeAny_mono (CW (F:={F with g:=g1}) hbd ht oc fr1 st.rel i q (SK.up (val:=F.val) st k)) (by rintro r s' ⟨f,rfl,h⟩;exact h)) (fun _ _ x=>wpAny_mono (E:=oj) x (fun _ _ x=>x) fun _ _ x=>x.elim) fun _ _ x=>x.elim) (hs F.env)
 walk_at "z"
end
theorem f7 {M:Model} {A:Around} {E:Value→Shared→Prop} {s:Shared} {f:Value} {args:List (Bool×Sem Value)} {Q:Args→Shared→Prop} (hplain:args.any (·.1)=false) (h:wpAny M A (spliced args) (fun vs s=>Q ⟨vs,[]⟩ s) E s):wpAny M A (evalArgs f true args []) Q E s:=by
 walk_at "a"
 cases args with
 | nil=>
  unfold evalArgs
  refine wpAny_bind (wpAny_mono h (fun vs s2 h2=>?_) fun _ _ x=>x)
  refine wpAny_holding ?_
  exact wpAny_bind (wpAny_pure (wpAny_bind (wpAny_pure (wpAny_pure h2))))
 | cons a r=>
  obtain⟨b,x⟩:=a
  cases b with
  | false=>exact evalArgs_plain h
  | true=>cases hplain
 walk_at "z"
theorem nB {es:List Expr} {env:Env} {pos:Pos} (h:∀e:Env,(starEach es e).any (·.1)=false):(backTo pos (starEach es env)).any (·.1)=false:=by
 have:=h env
 revert this
 generalize starEach es env=l
 intro this
 show(dL _ l).any _=false
 rw [List.any_map]
 exact this
noncomputable def hU (C:Cx) (f:Value):Prop:=∀(M:Model) (Φ:cj) (h:Heap),lT C Φ→Sub Φ h→∃k,(k=Keeper.frame∨k=Keeper.machine∨k=Keeper.boundFrame)∧Looks M h (keeperOf f) k
noncomputable def uY (H:Hp) (vs:List V):(List T→Prop)→Prop:=List.rec (motive:=fun _=>(List T→Prop)→Prop) (fun K=>K []) (fun v _ ih K=>dd (jQ H v) fun d=>ih fun ds=>K (d::ds)) vs
noncomputable def one {α P:Type} (es:List α) (z:P) (k:α→P):P:=ay (motive:=fun _=>P) es z fun a r=>ay (motive:=fun _=>P) r (k a) fun _ _=>z
noncomputable def two {α P:Type} (es:List α) (z:P) (k:α→α→P):P:=ay (motive:=fun _=>P) es z fun a r=>one r z (k a)
theorem gI {α:Type} {es:List α} {k:α→Prop} (h:one es False k):∃a,es=[a]∧k a:=by
 cases es with
 | nil=>exact h.elim
 | cons a r=>cases r with
  | nil=>exact⟨a,rfl,h⟩
  | cons _ _=>exact False.elim h
theorem rT {α:Type} {es:List α} {k:α→α→Prop} (h:two es False k):∃a b,es=[a,b]∧k a b:=by
 cases es with
 | nil=>exact h.elim
 | cons a r=>obtain⟨b,rfl,h⟩:=gI (es:=r) h;exact⟨a,b,rfl,h⟩
inductive Bn where
 | len | min | max | tuple | list | int | abs | isinst
noncomputable def Bn.val:Bn→Value
 | .len=> .builtin "len" | .min=> .builtin "min" | .max=> .builtin "max" | .tuple=> .type "tuple" | .list=> .type "list" | .int=> .type "int" | .abs=> .builtin "abs" | .isinst=> .builtin "isinstance"
noncomputable def T.llK {P:Type} (d:T) (z:P) (k:List T→P):P:=T.casesOn (motive_1:=fun _=>P) d z (fun _=>z) (fun _=>z) (fun _=>z) (fun _=>z) k (fun _=>z) (fun _ _=>z) fun _=>z
theorem Et {C:Cx} {ts:List T}:fj C (.type "tuple") [.tup ts] (.t (.tup ts)):=by
 walk_at "a"
 refine Blt.one (.mk fun A Φ s ca hA M ha=>?_)
 cases ha.tp with | @mk a items n h hr=>
 exact cD.of M.sub fun Q hq=>call_tuple_same ⟨_,M.sub _ _ h,rfl,_,rfl⟩ (hq _ s.toks ha)
 walk_at "z"
noncomputable def Gl (C:Cx) (b:Bn) (ds:List T) (K:PV→Prop):Prop:=
 Bn.casesOn (motive:=fun _=>Prop) b (one ds False fun d=>d.lk False fun ts=>Br (fit ts.length) (K (.t (.int ts.length))) False) (∃r,fj C (.builtin "min") ds r∧K r) (∃r,fj C (.builtin "max") ds r∧K r) (one ds False fun d=>T.casesOn (motive_1:=fun _=>Prop) d False (fun _=>False) (fun _=>False) (fun _=>False) (fun ts=>K (.t (.tup ts))) (fun ts=>Br (fit ts.length) (K (.t (.tup ts))) False) (fun _=>False) (fun _ _=>False) fun _=>False)
  (one ds False fun d=>d.llK False fun ts=>Br (fit ts.length) (K (.lst ts)) False) (one ds False fun d=>d.ik (d.bk False fun b=>K (.t (.int (if b then 1 else 0)))) fun i=>K (.t (.int i))) (∃r,fj C (.builtin "abs") ds r∧K r) (∃r,fj C (.builtin "isinstance") ds r∧K r)
section
variable {C:Cx} {sc:Scope} {n:Nat} {ρ:aF} {H:Hp} {F:Fm} {p:Pt}
theorem gj {x:String}:hU C (.builtin x):=fun _ _ _ _ _=>⟨.machine, .inr (.inl rfl), .now⟩
theorem gU {x:String}:hU C (.type x):=fun _ _ _ _ _=>⟨.machine, .inr (.inl rfl), .now⟩
theorem CD {b:Bn} {ds:List T} {K:PV→Prop} (h:Gl C b ds K):∃r,fj C b.val ds r∧K r:=by
 walk_at "a"
 cases b with
 | len=>
  obtain⟨d,rfl,h⟩:=gI h
  cases d with
  | tup ts=>exact⟨_,Jq (cI (Br.yes h).1),(Br.yes h).2⟩
  | lst ts=>exact⟨_,Jp (cI (Br.yes h).1),(Br.yes h).2⟩
  | _=>exact False.elim h
 | tuple=>
  obtain⟨d,rfl,h⟩:=gI h
  cases d with
  | tup ts=>exact⟨_,Et,h⟩
  | lst ts=>exact⟨_,Es (cI (Br.yes h).1),(Br.yes h).2⟩
  | _=>exact False.elim h
 | list=>
  obtain⟨d,rfl,h⟩:=gI h
  cases d with
  | lst ts=>exact⟨_,Ha (cI (Br.yes h).1),(Br.yes h).2⟩
  | _=>exact False.elim h
 | int=>
  obtain⟨d,rfl,h⟩:=gI h
  cases d with
  | int i=>exact⟨_,Je i,h⟩
  | bool i=>exact⟨_,Jd i,h⟩
  | _=>exact False.elim h
 | _=>exact h
 walk_at "z"
theorem yA {g:cj} {vs:List V} (R:bc C g H p):∀{cvs:List Value} {K:List T→Prop},bv (eC C H p) vs cvs→uY H vs K→∃ds,ATs C p.Φ p.s.heap ds cvs∧K ds:=by
 walk_at "a"
 induction vs with
 | nil=>intro cvs K x h;cases x;exact⟨[], .nil,h⟩
 | cons v r ih=>
  intro cvs K x h
  cases x with | cons a b=>
  refine dd.elim (show dd (jQ H v) _ from h) fun d e h=>?_
  obtain⟨ds,y,q⟩:=ih b h
  exact⟨_, .cons (j7 R e a) y,q⟩
 walk_at "z"
theorem gB {f:Value} {args:List Expr} {pos:Pos} {Q:List V→Hp→Prop} {P:Value→Shared→Prop} (hp:∀e:Env,(starEach args e).any (·.1)=false) (kp:hU C f) (fr:FR C sc (n+2) ρ F H p) (R:bc C F.g H p) (h:WL C sc n args ρ H Q)
 (k:∀cvs p' vs H',f5 C F.g H p H' p'→bv (eC C H' p') vs cvs→Q vs H'→Wp C F.A (call f cvs []) P p'.s):Wp C F.A (callWith pos f [] (backTo pos (starEach args F.env)) []) P p.s:=by
 have hplain:=nB (pos:=pos) (env:=F.env) hp
 exact callWith_of (P:=fun h=>∃Φ,lT C Φ∧Sub Φ h) (by rw [hplain];rfl) (fun h' x=>by obtain⟨Φ',B,sb⟩:=x;exact kp _ Φ' h' B sb) (f7 hplain (h F p fr R pos _ fun cvs p' vs H' st x q=>⟨⟨p'.Φ,st.rel.base,st.rel.sub⟩,k cvs p' vs H' st x q⟩))
theorem FY (K:eu C) {x:Str} {args:List Expr} {p0 pos:Pos} {b:Bn} {Q:V→Hp→Prop} (hx:sc.names.lookup x=some .globalImplicit) (hg:C.mg x=none) (hv:bootBuiltins x=some b.val) (hd:(x==("__debug__":Str))=false) (hn:x≠"__name__") (hp:∀e:Env,(starEach args e).any (·.1)=false)
 (h:WL C sc n args ρ H fun vs H1=>uY H1 vs fun ds=>Gl C b ds fun r=>lB r H1 Q):WE C sc n (.Call (.Name x p0) args [] pos) ρ H Q:=
 fun F p fr R P k=>Call_ (fK K fr R hx hg hv hd hn (gB hp (by cases b <;> first | exact gj | exact gU) fr R h fun cvs p1 vs H1 st x q=>by
  obtain⟨ds,y,q⟩:=yA st.rel x q
  obtain⟨r,ok,q⟩:=CD q
  exact cD.up (K:=Q) st.rel (ok.go _ _ _ _ fr.ok2 st.rel.amb y) q fun cv p2 v H2 st2=>k cv p2 v H2 (st.trans st2)))
noncomputable def tJ (b:Int):Bool:=Int.rec (motive:=fun _=>Bool) (fun m=>dm m 1000000000000) (fun m=>dm m 1000000000000) b
theorem sP {b:Int} (h:tJ b=true): -(2 ^ 62)≤b∧b < 2 ^ 62:=by
 cases b with
 | ofNat m=>exact⟨eH (by decide) (bP m),bn.mpr (aR (al h) (by decide:1000000000000 < 2 ^ 62))⟩
 | negSucc m=>
  have h:=al (show dm m 1000000000000=true from h)
  rw [Int.negSucc_eq]
  exact⟨by omega,by omega⟩
noncomputable def eO (a:Int) (n:Nat):List T:=(bH n).map fun(i:Nat)=> .int (a+(i:Int))
theorem te {t:Expr} {a b:Int} {ta tb tc:Tok} {r:Addr} {P:Value→Shared→Prop} (hh:F.A.handled=none) (R:bc C F.g H p) (hr:IsRange p.s.heap r a b 1 ta tb tc) (ha:tJ a=true) (hb:tJ b=true) (hgo:∀it v,letOwnedTupleGo t it v=pure ())
 (k:∀it p',f5 C F.g H p H p'→nO C F t H p' it (eO a (b - a).toNat) none→P it p'.s):Wp C F.A (pyIter (.ref r)) P p.s:=by
 walk_at "a"
 have ha:=sP ha
 have hb:=sP hb
 refine wpAny_pyIter_range hr (small_one ha.1 ha.2 hb.1 hb.2) ?_
 have en:Builtin.Range.rangeSize a b 1=((b - a).toNat:Int):=by unfold Builtin.Range.rangeSize;simp;split <;> omega
 have W:=Walks.range (prog:=C.prog) (w:=C.w) hh p.s.heap.objs.size a 1 (b - a).toNat
 refine k _ ⟨p.Φ,p.μ,_⟩ (R.more ⟨_,_,rfl⟩ fun b o e=>am _ e) (.tree (.mk (own:=[p.s.heap.objs.size]) (by unfold eO;rw [a9,cW]) (KTurns.ofWalks (target:=t) W fun i v s Q E st q=>wpAny_of_eq (hgo (.ref _) v) q) ?_ (fun b hb=>?_) (fun b hb=>hb) (fun b hb=> .inl hb) (fun i h' x b hb=>?_) W.self fun i v h' hP hi=>?_))
 · show IsRangeIter _ _ _ _ _
   rw [en]
   simpa using aC _ rfl
 · rw [af.mp hb];exact eW R (cS _) (bt (aC _ rfl))
 · rw [af.mp hb]
   exact bt (show h'.get? p.s.heap.objs.size=_ from x)
 · obtain⟨tk,e⟩:=hP
   subst e
   refine⟨.int (a+i),by unfold eO;rw [ax,List.getElem?_range hi];rfl,fun Φ' l=> .inl ?_⟩
   rw [lS];exact .int _ _
 walk_at "z"
theorem Ch (K:eu C) {t e:Expr} {p0 pos:Pos} {Q:List T→Option Nat→Hp→Prop} (hx:sc.names.lookup ("range":Str)=some .globalImplicit) (hg:C.mg ("range":Str)=none) (hgo:∀it v,letOwnedTupleGo t it v=pure ()) (hp:∀env:Env,starEach [e] env=[(false,eval e env)])
 (h:WE C sc n e ρ H fun v H1=>js v fun b=>Br (tJ b) (Q (eO 0 b.toNat) none H1) False):WI C sc n t (.Call (.Name "range" p0) [e] [] pos) ρ H Q:=by
 walk_at "a"
 exact fun F p fr R P k=>Call_ (fK K fr R hx hg (v:= .type "range") rfl (by decide) (by decide) (gB (fun e=>by rw [hp];rfl) gU fr R (jx (Q:=fun vs H1=>∃v,vs=[v]∧js v fun b=>Br (tJ b) (Q (eO 0 b.toNat) none H1) False) hp (fun F p fr R P k=>h F p fr R P fun cv p1 v H1 st x q=>k cv p1 v H1 st x (oH ⟨v,rfl,q⟩))) fun cvs p1 vs H1 st x q=>by
  obtain⟨v,rfl,q⟩:=q
  cases x with | cons x y=>cases y with | nil=>
  obtain⟨b,rfl,y,q⟩:=ph x q
  cases y with | mk tb=>
  obtain⟨w,q⟩:=Br.yes q
  refine call_range_1 ?_
  have s2:=st.rel.more (s':={p1.s with heap:=p1.s.heap.push {cls:= .type "range",data:= .fields #[.int 0 p1.s.toks, .int b tb, .int 1 (p1.s.toks+1)]},toks:=p1.s.toks+1+1}) ⟨_,_,rfl⟩ fun b o e=>am _ e
  exact te fr.ok.1 s2.rel (IsRange.new ..) (by decide) w hgo fun it p3 s3 i=>k it p3 _ none H1 ((st.trans s2).trans s3) i (by rw [Int.sub_zero];exact q)))
 walk_at "z"
theorem Ci (K:eu C) {t e e':Expr} {p0 pos:Pos} {Q:List T→Option Nat→Hp→Prop} (hx:sc.names.lookup ("range":Str)=some .globalImplicit) (hg:C.mg ("range":Str)=none) (hgo:∀it v,letOwnedTupleGo t it v=pure ()) (hp:∀env:Env,starEach [e,e'] env=(false,eval e env)::starEach [e'] env) (hp':∀env:Env,starEach [e'] env=[(false,eval e' env)])
 (h:WL C sc n [e,e'] ρ H fun vs H1=>∃a b,vs=[.t (.int a), .t (.int b)]∧Br (tJ a&&tJ b) (Q (eO a (b - a).toNat) none H1) False):WI C sc n t (.Call (.Name "range" p0) [e,e'] [] pos) ρ H Q:=by
 walk_at "a"
 exact fun F p fr R P k=>Call_ (fK K fr R hx hg (v:= .type "range") rfl (by decide) (by decide) (gB (fun e=>by rw [hp,hp'];rfl) gU fr R h fun cvs p1 vs H1 st x q=>by
  obtain⟨a,b,rfl,q⟩:=q
  cases x with | cons x y=>cases y with | cons y z=>cases z with | nil=>
  cases TR.i (C:=C) (Φ:=p1.Φ) x.1 with | mk ta=>
  cases TR.i (C:=C) (Φ:=p1.Φ) y.1 with | mk tb=>
  obtain⟨w,q⟩:=Br.yes q
  have w:=aa.mp w
  refine call_range_2 ?_
  have s2:=st.rel.more (s':={p1.s with heap:=p1.s.heap.push {cls:= .type "range",data:= .fields #[.int a ta, .int b tb, .int 1 p1.s.toks]},toks:=p1.s.toks+1}) ⟨_,_,rfl⟩ fun b o e=>am _ e
  exact te fr.ok.1 s2.rel (IsRange.new ..) w.1 w.2 hgo fun it p3 s3 i=>k it p3 _ none H1 ((st.trans s2).trans s3) i q))
 walk_at "z"
end
noncomputable def oN (ts:List T):Nat→List T:=List.rec (motive:=fun _=>Nat→List T) (fun _=>[]) (fun d _ ih a=> .tup [.int a,d]::ih (a+1)) ts
theorem qZ (ts:List T):∀a,(oN ts a).length=ts.length:=by
 induction ts with
 | nil=>exact fun _=>rfl
 | cons d r ih=>exact fun a=>congrArg (· +1) (ih (a+1))
theorem xg {ts:List T}:∀{a i:Nat} {d:T},ts[i]? =some d→(oN ts a)[i]? =some (.tup [.int ((a+i:Nat):Int),d]):=by
 walk_at "a"
 induction ts with
 | nil=>intro a i d h;cases h
 | cons x r ih=>
  intro a i d h
  cases i with
  | zero=>cases h;rfl
  | succ i=>rw [show a+(i+1)=(a+1)+i from by omega];exact ih h
 walk_at "z"
noncomputable def yJ (xs:List T):List T→List T:=List.rec (motive:=fun _=>List T→List T) (fun _=>[]) (fun a _ ih ys=>ay (motive:=fun _=>List T) ys [] fun b r=> .tup [a,b]::ih r) xs
theorem tH {xs:List T}:∀{ys:List T},(yJ xs ys).length=min xs.length ys.length:=by
 induction xs with
 | nil=>intro ys;exact(Nat.zero_min _).symm
 | cons a r ih=>intro ys;cases ys with
  | nil=>rfl
  | cons b q=>exact(congrArg (· +1) ih).trans (Nat.succ_min_succ _ _).symm
theorem BR {xs:List T}:∀{ys:List T} {i:Nat} {a b:T},xs[i]? =some a→ys[i]? =some b→(yJ xs ys)[i]? =some (.tup [a,b]):=by
 walk_at "a"
 induction xs with
 | nil=>intro ys i a b h;cases h
 | cons x r ih=>
  intro ys i a b h h'
  cases ys with
  | nil=>cases h'
  | cons y q=>cases i with
   | zero=>cases h;cases h';rfl
   | succ i=>exact ih h h'
 walk_at "z"
theorem Ap {d:T} {k:List T→Prop} (h:d.llK False k):∃xs,d= .lst xs∧k xs:=by
 walk_at "a"
 cases d with
 | lst xs=>exact⟨xs,rfl,h⟩
 | _=>exact False.elim h
 walk_at "z"
section
variable {C:Cx} {sc:Scope} {n:Nat} {ρ:aF} {H:Hp} {F:Fm} {p:Pt}
theorem Cg (K:eu C) {elts:List Expr} {k:Nat} {tp:Pos} {e:Expr} {p0 pos:Pos} {Q:List T→Option Nat→Hp→Prop} (hx:sc.names.lookup ("enumerate":Str)=some .globalImplicit) (hg:C.mg ("enumerate":Str)=none) (hp:∀env:Env,starEach [e] env=[(false,eval e env)])
 (h:WE C sc n e ρ H fun v H1=>yS v H1 fun d H2=>d.llK False fun ts=>Q (oN ts 0) none H2):WI C sc n (.Tuple elts k tp) (.Call (.Name "enumerate" p0) [e] [] pos) ρ H Q:=by
 walk_at "a"
 exact fun F p fr R P kk=>Call_ (fK K fr R hx hg (v:= .type "enumerate") rfl (by decide) (by decide) (gB (fun e=>by rw [hp];rfl) gU fr R (jx (Q:=fun vs H1=>∃v,vs=[v]∧yS v H1 fun d H2=>d.llK False fun ts=>Q (oN ts 0) none H2) hp (fun F p fr R P k=>h F p fr R P fun cv p1 v H1 st x q=>k cv p1 v H1 st x (oH ⟨v,rfl,q⟩))) fun cvs p1 vs H1 st x q=>by
  obtain⟨v,rfl,q⟩:=q
  cases x with | cons x y=>cases y with | nil=>
  refine mi st.rel x q fun d H2 p2 s2 e2 x q=>?_
  cases d <;> first | exact False.elim q | skip
  rename_i ts
  rw [←e2]
  obtain⟨l,items,kk',rfl,ha,r⟩:=x
  have hr:=fe r
  have ha':=s2.rel.sub _ _ ha
  have hlt:l < p2.s.heap.objs.size:=d7 ha'
  refine call_enumerate_list (cA ha') fun h' hE' hI hsz hkk=>?_
  refine wpAny_pyIter_enum hE' ?_
  have W:=WalksT.enumerate (prog:=C.prog) (w:=C.w) fr.ok.1 (p2.s.heap.objs.size+1) p2.s.heap.objs.size l (Nat.succ_ne_self _) (ktu_ne 1 hlt) (bD hlt) items
  refine kk _ ⟨p2.Φ,p2.μ,{p2.s with heap:=h'}⟩ _ none H2 ((st.trans s2).trans (s2.rel.more ⟨_,_,rfl⟩ hkk)) (.tree (.mk (own:=[p2.s.heap.objs.size+1,p2.s.heap.objs.size]) ((qZ _ _).trans (eD.size hr)) (KTurns.ofWalksU (elts:=elts) (k:=k) (pos:=tp) W.toU) ⟨⟨.none,hE'⟩,hI,(cA ha').at fun o e=>hkk l o e⟩ (fun b hb=>?_) (fun b hb=>hb) (fun b hb=>?_) (fun i h' x b hb=>?_) W.self fun i v h' hP hi=>?_)) q
  · cases hb with
    | head=>exact eW s2.rel (ky (d5 _)) (bt (show h'.get? (p2.s.heap.objs.size+1)=_ from hE'))
    | tail _ hb=>rw [af.mp hb];obtain⟨o,q,_⟩:=hI;exact eW s2.rel (cS _) (bt q)
  · cases hb with
    | head=>exact .inl (.head _)
    | tail _ hb=>cases hb with
     | head=>exact .inl (.tail _ (.head _))
     | tail _ hb=>rw [af.mp hb];exact .inr (.inl (bt ha))
  · obtain⟨⟨old,x1⟩,⟨o2,x2,_⟩,_⟩:=x
    cases hb with
    | head=>exact bt (show h'.get? (p2.s.heap.objs.size+1)=_ from x1)
    | tail _ hb=>rw [af.mp hb];exact bt x2
  · obtain⟨TT,vals,rfl,⟨tk,x,hx,rfl⟩,hT⟩:=hP
    refine hr.get' (i:=i) (b:=x) (by rw [aY];exact hx) fun d e1 e2=>⟨_,xg e1,fun Φ' l=> .inr ⟨rfl,TT,_,_,rfl,rfl,hT,?_⟩⟩
    rw [bo]
    exact .cons (.int _ _) (.cons (e2.mono l) .nil)))
 walk_at "z"
theorem Gb (K:eu C) {elts:List Expr} {k:Nat} {tp:Pos} {e e':Expr} {p0 pos:Pos} {Q:List T→Option Nat→Hp→Prop} (hx:sc.names.lookup ("zip":Str)=some .globalImplicit) (hg:C.mg ("zip":Str)=none) (hp:∀env:Env,starEach [e,e'] env=(false,eval e env)::starEach [e'] env) (hp':∀env:Env,starEach [e'] env=[(false,eval e' env)])
 (h:WL C sc n [e,e'] ρ H fun vs H1=>nI vs H1 fun ds H2=>two ds False fun d d2=>d.llK False fun xs=>d2.llK False fun ys=>Q (yJ xs ys) none H2):WI C sc n (.Tuple elts k tp) (.Call (.Name "zip" p0) [e,e'] [] pos) ρ H Q:=by
 walk_at "a"
 exact fun F p fr R P kk=>Call_ (fK K fr R hx hg (v:= .type "zip") rfl (by decide) (by decide) (gB (fun e=>by rw [hp,hp'];rfl) gU fr R h fun cvs p1 vs H1 st xx q=>by
  refine jO st.rel xx q fun ds H3 p3 s3 e3 x q=>?_
  clear xx
  obtain⟨d1,d2,rfl,q⟩:=rT q
  obtain⟨xs,rfl,q⟩:=Ap q
  obtain⟨ys,rfl,q⟩:=Ap q
  rw [←e3]
  cases x with | cons x y=>cases y with | cons y z=>cases z with | nil=>
  obtain⟨l1,items1,k1,rfl,ha1,r1⟩:=x
  obtain⟨l2,items2,k2,rfl,ha2,r2⟩:=y
  have hr1:=fe r1
  have hr2:=fe r2
  have ha1':=s3.rel.sub _ _ ha1
  have ha2':=s3.rel.sub _ _ ha2
  have D:ZipApart (p3.s.heap.objs.size+4) (p3.s.heap.objs.size+2) (p3.s.heap.objs.size+3) p3.s.heap.objs.size (p3.s.heap.objs.size+1) l1 l2:=ktu_apart _ _ _ (d7 ha1') (d7 ha2')
  refine call_zip_2 (cA ha1') (cA ha2') fun h' hz hTI hTO hi1 hi2 hsz hkk=>?_
  refine wpAny_pyIter_zip hz ?_
  have W:=WalksT.zip2 (prog:=C.prog) (w:=C.w) fr.ok.1 _ _ _ _ _ _ _ D items1 items2
  have new:∀b∈[p3.s.heap.objs.size+4,p3.s.heap.objs.size+2,p3.s.heap.objs.size+3,p3.s.heap.objs.size,p3.s.heap.objs.size+1],p3.s.heap.objs.size≤b:=fun b hb=>by
   simp only [aS,cC,or_false] at hb
   omega
  have has:∀{i:Nat} {h':Heap},(∃x1 x2 x3,h'.get? (p3.s.heap.objs.size+4)=some x1∧h'.get? (p3.s.heap.objs.size+2)=some x2∧h'.get? (p3.s.heap.objs.size+3)=some x3)→(∃x,h'.get? p3.s.heap.objs.size=some x)→(∃x,h'.get? (p3.s.heap.objs.size+1)=some x)→∀b∈[p3.s.heap.objs.size+4,p3.s.heap.objs.size+2,p3.s.heap.objs.size+3,p3.s.heap.objs.size,p3.s.heap.objs.size+1],h'.get? b≠none:=fun {i h'} x y z b hb=>by
   obtain⟨_,_,_,x1,x2,x3⟩:=x
   obtain⟨_,y⟩:=y
   obtain⟨_,z⟩:=z
   simp only [aS,cC,or_false] at hb
   rcases hb with rfl | rfl | rfl | rfl | rfl
   · exact bt x1
   · exact bt x2
   · exact bt x3
   · exact bt y
   · exact bt z
  refine kk _ ⟨p3.Φ,p3.μ,{p3.s with heap:=h'}⟩ _ none H3 ((st.trans s3).trans (s3.rel.more ⟨_,_,rfl⟩ hkk)) (.tree (.mk (own:=[p3.s.heap.objs.size+4,p3.s.heap.objs.size+2,p3.s.heap.objs.size+3,p3.s.heap.objs.size,p3.s.heap.objs.size+1]) (tH.trans (by rw [eD.size hr1,eD.size hr2])) (KTurns.ofWalksU (elts:=elts) (k:=k) (pos:=tp) W.toU) ⟨hz,hTI,⟨_,_,hTO⟩,hi1,hi2,(cA ha1').at fun o e=>hkk l1 o e,(cA ha2').at fun o e=>hkk l2 o e⟩ (fun b hb=>?_) (fun b hb=>?_) (fun b hb=>?_) (fun i h' x b hb=>?_) W.self fun i v h' hP hi=>?_)) q
  · refine eW s3.rel (ky (new b hb)) (has (i:=0) ⟨_,_,_,hz,hTI,hTO⟩ ?_ ?_ b hb)
    · obtain⟨o1,x1,_⟩:=hi1;exact⟨_,x1⟩
    · obtain⟨o2,x2,_⟩:=hi2;exact⟨_,x2⟩
  · simp only [aS,cC,or_false] at hb ⊢
    rcases hb with rfl | rfl | rfl | rfl
    all_goals first | exact .inl rfl | exact .inr (.inl rfl) | exact .inr (.inr (.inl rfl)) | exact .inr (.inr (.inr (.inl rfl))) | exact .inr (.inr (.inr (.inr rfl)))
  · simp only [aS,cC,or_false] at hb ⊢
    rcases hb with rfl | rfl | rfl | rfl | rfl | rfl | rfl
    all_goals first | exact .inr (.inl (bt ha1)) | exact .inr (.inl (bt ha2)) | exact .inl (.inl rfl) | exact .inl (.inr (.inl rfl)) | exact .inl (.inr (.inr (.inl rfl))) | exact .inl (.inr (.inr (.inr (.inl rfl)))) | exact .inl (.inr (.inr (.inr (.inr rfl))))
  · obtain⟨x1,x2,⟨_,_,x3⟩,⟨o1,x4,_⟩,⟨o2,x5,_⟩,_⟩:=x
    exact has (i:=i) ⟨_,_,_,x1,x2,x3⟩ ⟨_,x4⟩ ⟨_,x5⟩ b hb
  · obtain⟨TT,vals,rfl,⟨x,y,hx,hy,rfl⟩,hT⟩:=hP
    exact hr1.get' (i:=i) (b:=x) (by rw [aY];exact hx) fun d e1 e2=>hr2.get' (i:=i) (b:=y) (by rw [aY];exact hy) fun d' e1' e2'=>⟨_,BR e1 e1',fun Φ' l=> .inr ⟨rfl,TT,_,_,rfl,rfl,hT, .cons (e2.mono l) (.cons (e2'.mono l) .nil)⟩⟩))
 walk_at "z"
end
noncomputable def lP (H H3:Hp) (K:Hp→Prop):Prop:=Br (H.all fun e=>(jI H3 e.1).all fun j=>(H.lookup j).isSome) (fA (H.map fun e=>(e.1,ly H3 e.1)) K) False
noncomputable def Tg.is (tg:Tg):List Nat:=Tg.casesOn (motive:=fun _=>List Nat) tg (fun i=>[i]) fun is=>is
noncomputable def Fg (tg:Tg) (cond:aF→Hp→(Bool→Hp→Prop)→Prop) (elt:aF→Hp→(V→Hp→Prop)→Prop) (ρ:aF) (ts:List T):Hp→(List T→Hp→Prop)→Prop:=
 List.rec (motive:=fun _=>Hp→(List T→Hp→Prop)→Prop) (fun H K=>K [] H) (fun d _ ih H K=>gv tg d ρ fun ρ1=>cond ρ1 H fun b H1=>Br b (elt ρ1 H1 fun v H2=>yS v H2 fun y H3=>lP H H3 fun H4=>ih H4 fun ys H5=>K (y::ys) H5) (lP H H1 fun H4=>ih H4 K)) ts
structure EG (tg:Tg) (cond:aF→Hp→(Bool→Hp→Prop)→Prop) (elt:aF→Hp→(V→Hp→Prop)→Prop) (ρ:aF) (ts:List T) (H:Hp) (K:List T→Hp→Prop):Prop where
 go:Fg tg cond elt ρ ts H K
noncomputable def AF (tg:Tg) (ρ:aF):Bool:=tg.is.all fun i=>(nu ρ i).isNone
theorem O.ren_id {o:O}:o.ren (fun k=>k)=o:=by
 walk_at "a"
 cases o with
 | list ts=>rfl
 | frz d=>rfl
 | tdct d=>rfl
 | dict es=>exact congrArg O.dict ((iu fun e _=>by obtain⟨k,v⟩:=e;cases v <;> rfl).trans (List.map_id _))
 walk_at "z"
theorem DD {ρ:aF}:∀{i:Nat} {v:V},(ρ:List (Option V))[i]? =some (some v)→nu ρ i=some v:=by
 induction ρ with
 | nil=>intro i v h;cases h
 | cons a r ih=>intro i v h;cases i with
  | zero=>exact Option.some.inj h
  | succ i=>exact ih h
section
variable {C:Cx} {sc:Scope} {n:Nat} {ρ:aF} {H H' H3:Hp} {F:Fm} {p p' p3:Pt}
theorem uv {f:Nat→O} {k:Nat} {o:O}:∀{H:Hp},(H.map fun e=>(e.1,f e.1)).lookup k=some o→(H.lookup k).isSome=true∧o=f k:=by
 walk_at "a"
 intro H
 induction H with
 | nil=>intro h;cases h
 | cons e r ih=>
  intro h
  by_cases q:k=e.1
  · subst q
    cases (show some (f e.1)=some o from(be (k:=e.1) (o:=f e.1)).symm.trans h)
    exact⟨congrArg bY (be (o:=e.2)),rfl⟩
  · have:=ih ((aX q).symm.trans h)
    exact⟨(congrArg bY (aX (o:=e.2) q)).trans this.1,this.2⟩
 walk_at "z"
theorem kE {f:Nat→O} {k:Nat}:∀{H:Hp},(H.lookup k).isSome=true→((H.map fun e=>(e.1,f e.1)).lookup k).isSome=true:=by
 intro H
 induction H with
 | nil=>intro h;cases h
 | cons e r ih=>
  intro h
  by_cases q:k=e.1
  · subst q;exact congrArg bY (be (k:=e.1) (o:=f e.1))
  · exact(congrArg bY (aX q)).trans (ih ((congrArg bY (aX (o:=e.2) q)).symm.trans h))
theorem wo {g:cj} {K:Hp→Prop} (st:f5 C g H p H3 p3) (h:lP H H3 K):∃H4,f5 C g H p H4 p3∧K H4∧∀b,f6 C g H3 p3 b→f6 C g H4 p3 b:=by
 walk_at "a"
 obtain⟨ok,h⟩:=Br.yes h
 have at_:∀{k o},((H.map fun e=>(e.1,ly H3 e.1)).lookup k=some o)→(H.lookup k).isSome=true∧H3.lookup k=some o:=fun {k o} e=>by
  obtain⟨a,b⟩:=uv (f:=ly H3) e
  refine⟨a,?_⟩
  have:=(st.mu k a).2
  cases q:H3.lookup k with
  | none=>rw [q] at this;cases this
  | some x=>rw [b];unfold ly;rw [q];rfl
 refine⟨_,⟨st.same,st.ext,fun k hk=>⟨(st.mu k hk).1,kE hk⟩,st.rel.ren (f:=fun k=>k) (r:=fun k=>k) ⟨fun k o e=>?_,fun _ _ _ _ q=>q⟩⟩,jn h,fun b f=>⟨f.has,f.phi,f.g,f.ne,fun k o e=>f.sl k o (at_ e).2⟩⟩
 obtain⟨a,b⟩:=at_ e
 refine⟨o,b,O.ren_id.symm,fun j hj=>⟨rfl,kE ?_⟩⟩
 obtain⟨x,hx⟩:=aZ.mp a
 have:=aj.mp (aj.mp ok _ (oX hx)) j (by unfold jI;rw [b];exact hj)
 exact this
 walk_at "z"
theorem kZ {ρ:aF}:∀{K:aF→Prop},K ρ→fE ρ K:=by
 induction ρ with
 | nil=>exact fun h=>h
 | cons v r ih=>
  intro K h
  cases v with
  | none=>exact ih (K:=fun r=>K (none::r)) h
  | some v=>cases v with
   | t d=>exact ih (K:=fun r=>K (some (.t d)::r)) h
   | ref n=>exact n8 (K:=fun n=>fE r fun r=>K (some (.ref n)::r)) (ih (K:=fun r=>K (some (.ref n)::r)) h)
   | iref Cl n=>exact n8 (K:=fun n=>fE r fun r=>K (some (.iref Cl n)::r)) (ih (K:=fun r=>K (some (.iref Cl n)::r)) h)
noncomputable def C1 (is:List Nat) (ρ ρ':aF):Prop:=∀(j:Nat) (v:V),j∉is→(ρ:List (Option V))[j]? =some (some v)→(ρ':List (Option V))[j]? =some (some v)
theorem qD {is:List Nat}:∀{vs:List V} {ρ:aF} {K:aF→Prop},fm is vs ρ K→∃ρ',K ρ'∧C1 is ρ ρ'∧∀{K':aF→Prop},K' ρ'→fm is vs ρ K':=by
 walk_at "a"
 induction is with
 | nil=>intro vs ρ K h;cases vs with
  | nil=>exact⟨ρ,cq h,fun _ _ _ x=>x,fun h=>kZ h⟩
  | cons _ _=>exact False.elim h
 | cons i is ih=>
  intro vs ρ K h
  cases vs with
  | nil=>exact False.elim h
  | cons v vs=>
   obtain⟨ρ',a,b,c⟩:=ih (vs:=vs) (ρ:=ρ.set i (some v)) h
   refine⟨ρ',a,fun j w hj x=>b j w (fun q=>hj (.tail _ q)) ?_,c⟩
   rw [hZ (fun q:i=j=>hj (by rw [q];exact .head _))];exact x
 walk_at "z"
theorem wY {tg:Tg} {d:T} {K:aF→Prop} (h:gv tg d ρ K) (ok:AF tg ρ=true):∃ρ',K ρ'∧C1 [] ρ ρ'∧gv tg d ρ (· =ρ'):=by
 walk_at "a"
 have no:∀{j v},(ρ:List (Option V))[j]? =some (some v)→j∉tg.is:=fun {j v} e q=>by
  have:=aj.mp ok j q
  rw [DD e] at this;cases this
 cases tg with
 | one i=>obtain⟨ρ',a,b,c⟩:=qD (show fm [i] [.t d] ρ K from h);exact⟨ρ',a,fun j v _ x=>b j v (no x) x,c (K':=(· =ρ')) rfl⟩
 | tup is=>
  cases d with
  | tup ds=>obtain⟨ρ',a,b,c⟩:=qD (show fm is (ds.map .t) ρ K from h);exact⟨ρ',a,fun j v _ x=>b j v (no x) x,c (K':=(· =ρ')) rfl⟩
  | _=>exact False.elim h
 walk_at "z"
end
section
variable {prog:Program} {w:World} {A:Around} {R:Result→Shared→Prop} {s:Shared}
theorem sx {elt target iter:Expr} {ifs:List Expr} {scope:Scope} {pos:Pos} {it acc:Value} {env:Env} (I:Nat→Shared→Prop)
 (turn:∀n s,I n s→wpAny (model prog w) A (pyNext it) (fun r s₁=>an (motive:=fun _=>Prop) r (R (.ok .next) s₁) fun v=>wpAny (model prog w) A (letOwnedTupleGo target it v) (fun _ s₁'=>wpAny (model prog w) A (assign target env v) (fun _ s₂=>
  wpAny (model prog w) A (forIn ifs true fun c r=>if r=true then do let ok ←isTrue c env (eval c env);pure (ForInStep.yield ok) else pure (ForInStep.yield r)) (fun ok s₃=>
   iJ (motive:=fun _=>Prop) ok (∃m,m < n∧I m s₃) (wpAny (model prog w) A (eval elt env) (fun x s₄=>wpAny (model prog w) A (call (.builtin "list.append") [acc,x]) (fun _ s₅=>∃m,m < n∧I m s₅) oj s₄) oj s₃)) oj s₂) oj s₁') oj s₁) oj s)
 (n:Nat) (h:I n s):codeAny (model prog w) A (.compLoop (.ListComp elt [⟨target,iter,ifs,0⟩] scope pos) 0 it acc env) R s:=by
 walk_at "a"
 refine codeAny_loop rfl I (fun n s hI=>?_) n h
 show wpAny _ A ((compTurn (.ListComp elt [⟨target,iter,ifs,0⟩] scope pos) 0 it acc env).onRaise (fun x=>do noteFrame x env;theTreesLotGoes x)) _ _ s
 refine wpAny_noted ?_
 rw [compTurn_list]
 refine wpAny_bind (wpAny_standAt (wpAny_bind (wpAny_mono (turn n s hI) (fun r s₁ h₁=>?_) fun _ _ h'=>h'.elim)))
 cases r with
 | none=>exact wpAny_pure h₁
 | some v=>
  refine wpAny_bind (wpAny_mono h₁ (fun _ s₁' h₁'=>?_) fun _ _ h'=>h'.elim)
  refine wpAny_bind (wpAny_mono h₁' (fun _ s₂ h₂=>wpAny_bind (wpAny_mono h₂ (fun ok s₃ h₃=>?_) fun _ _ h'=>h'.elim)) fun _ _ h'=>h'.elim)
  cases ok with
  | false=>exact wpAny_pure ⟨rfl,h₃⟩
  | true=>exact wpAny_bind (wpAny_bind (wpAny_mono h₃ (fun x s₄ h₄=>wpAny_bind (wpAny_mono h₄ (fun _ s₅ h₅=>wpAny_pure (wpAny_pure ⟨rfl,h₅⟩)) fun _ _ h'=>h'.elim)) fun _ _ h'=>h'.elim))
 walk_at "z"
end
noncomputable def WC (C:Cx) (sc:Scope) (n:Nat) (ifs:List Expr) (ρ:aF) (H:Hp) (Q:Bool→Hp→Prop):Prop:=ay (motive:=fun _=>Prop) ifs (Q true H) fun c r=>ay (motive:=fun _=>Prop) r (WB C sc n c ρ H Q) fun _ _=>False
section
variable {C:Cx} {sc:Scope} {n:Nat} {ρ:aF} {H H':Hp} {F:Fm} {p p':Pt}
theorem WC.run {ifs:List Expr} {Q:Bool→Hp→Prop} (h:WC C sc n ifs ρ H Q) (fr:FR C sc (n+2) ρ F H p) (R:bc C F.g H p) {P:Bool→Shared→Prop} (k:∀b p' H',f5 C F.g H p H' p'→Q b H'→P b p'.s):
 Wp C F.A (forIn ifs true fun c r=>if r=true then do let ok ←isTrue c F.env (eval c F.env);pure (ForInStep.yield ok) else pure (ForInStep.yield r)) P p.s:=by
 walk_at "a"
 cases ifs with
 | nil=>exact wpAny_tests_nil (k _ p H (.refl R) h)
 | cons c r=>cases r with
  | nil=>exact wpAny_tests_one ((show WB C sc n c ρ H Q from h) F p fr R P k)
  | cons _ _=>exact False.elim h
 walk_at "z"
theorem C1.fr {ρ':aF} (fr:FR C sc n ρ' F H p) (k:C1 [] ρ ρ'):FR C sc n ρ F H p:=fr.unset fun i v e=>k i v (fun h=>nomatch h) e
inductive LcI (C:Cx) (sc:Scope) (n:Nat) (F:Fm) (H:Hp) (p:Pt) (own:List Addr) (D:Addr) (ρ:aF) (Q:Nat→List T→Hp→Prop) (St:Nat→Heap→Prop) (nn:Nat) (k:Nat) (s:Shared):Prop
 | mk {i:Nat} {g':cj} {val':Str→Option Value} {p':Pt} {H':Hp} {acc:List T} {items:Array Value} {kk:Nat}:k=nn+1 - i→i≤nn→p'.s=s→St i p'.s.heap→f5 C F.g0 H p H' p'→bc C g' H' p'→FR C sc (n+2) ρ {F with g:=g',val:=val'} H' p'→(∀b∈D::own,f6 C g' H' p' b)→
  p'.s.heap.get? D=some (listOf items kk)→eD C p'.Φ acc items.toList→acc.length≤i→Q i acc H'→LcI C sc n F H p own D ρ Q St nn k s
theorem x9 {t iter elt:Expr} {ifs:List Expr} {scope:Scope} {pos:Pos} {tg:Tg} {ts:List T} {D:Addr} {Q:List T→Hp→Prop} {cond:aF→Hp→(Bool→Hp→Prop)→Prop} {el:aF→Hp→(V→Hp→Prop)→Prop} (hc:∀{ρ H Q},cond ρ H Q→WC C sc n ifs ρ H Q) (he:∀{ρ H Q},el ρ H Q→WE C sc n elt ρ H Q) (ht:cT sc F.oc t=some tg) (ok:AF tg ρ=true) (fr:FR C sc (n+2) ρ F H p) (R:bc C F.g H p)
 {I:Addr} {own fp wr:List Addr} {Pv Md:Nat→Value→Heap→Prop} {St:Nat→Heap→Prop} {nn:Nat} (hnn:ts.length=nn) (K:KTurns C.prog C.w F.A t I fp wr nn Pv Md St) (hst:St 0 p.s.heap) (free:∀b∈D::own,f6 C F.g H p b) (hwr:∀b∈wr,b∈own) (hfp:∀b∈fp,b∈own∨p.Φ b≠none∨F.g0 b≠none)
 (hSt:∀i h',St i h'→∀b∈own,h'.get? b≠none) (hP:∀i v h',Pv i v h'→i < nn→∃d,ts[i]? =some d∧∀Φ',Le p.Φ Φ'→UT C Φ' h' t d v) (hDo:D∉own) (zW:D∉fp) (hD0:p.s.heap.get? D=some (listOf #[] 0)) (hz:nn≤sizeLine)
 (h:Fg tg cond el ρ ts H Q) {RR:Result→Shared→Prop}
 (k:∀g' val' p' H' ys items kk,f5 C F.g0 H p H' p'→bc C g' H' p'→FR C sc (n+2) ρ {F with g:=g',val:=val'} H' p'→f6 C g' H' p' D→p'.s.heap.get? D=some (listOf items kk)→eD C p'.Φ ys items.toList→Q ys H'→RR (.ok .next) p'.s):
 codeAny (model C.prog C.w) F.A (.compLoop (.ListComp elt [⟨t,iter,ifs,0⟩] scope pos) 0 (.ref I) (.ref D) F.env) RR p.s:=by
 walk_at "a"
 refine sx (LcI C sc n F H p own D ρ (fun i acc H'=>Fg tg cond el ρ (ts.drop i) H' fun ys H''=>Q (acc++ys) H'') St nn) ?_ (nn+1) (.mk (acc:=[]) rfl (bl _) rfl hst (.refl (R.le fr.le)) R fr free hD0 .nil (aB _) h)
 intro kz s3 hI
 cases hI with | @mk i g3 v3 p3 H3 acc items kk e hi e3 hst3 st3 R3 fr3 free3 hD3 hr3 hal hq3=>
 subst e e3
 have hDw:D∉wr:=fun q=>hDo (hwr D q)
 by_cases hlt:i < nn
 · refine K.item i _ _ _ hlt hst3 fun v h1 tk1 hMd hk1=>?_
   refine K.go i v _ _ _ hMd fun h2 hP2 hst2 hk2=>?_
   have kb:∀b o,b∉wr→p3.s.heap.get? b=some o→h2.get? b=some o:=fun b o hb e=>hk2 b o hb (hk1 b o hb e)
   have s2:=R3.but (s':={p3.s with heap:=h2,toks:=tk1}) (· ∈wr) (fun b hb=>free3 b (.tail _ (hwr b hb))) ⟨_,_,rfl⟩ kb
   have fr2:=fr3.step s2
   have hD2:h2.get? D=some (listOf items kk):=kb _ _ hDw hD3
   obtain⟨d,hd,hu⟩:=hP i v h2 hP2 hlt
   rw [qi hd] at hq3
   obtain⟨ρ1,hbody,kp,hb⟩:=wY (show gv tg d ρ _ from hq3) ok
   have free2:∀b∈D::own,f6 C g3 H3 ⟨p3.Φ,p3.μ,{p3.s with heap:=h2,toks:=tk1}⟩ b:=fun b hb=>⟨by
    cases hb with
    | head=>exact bt hD2
    | tail _ hb=>exact hSt _ _ hst2 b hb,(free3 b hb).phi,(free3 b hb).g,(free3 b hb).ne,(free3 b hb).sl⟩
   refine pj (F:={F with g0:=gw (D::own) h2 F.g0,g:=gw (D::own) h2 g3,val:=v3}) (p:=⟨p3.Φ,p3.μ,{p3.s with heap:=h2,toks:=tk1}⟩) ht (fr2.lend free2) (s2.rel.guardL free2) (hu _ st3.ext.1) hb fun g5 v5 s5 ρ5 sm5 fr5 R5 e5=>?_
   subst e5
   have out:∀{H9:Hp} {p9:Pt},f5 C g5 H3 ⟨p3.Φ,p3.μ,s5⟩ H9 p9→∃g9,f5 C F.g0 H p H9 p9∧bc C g9 H9 p9∧FR C sc (n+2) ρ {F with g:=g9,val:=v5} H9 p9∧(∀b∈D::own,f6 C g9 H9 p9 b)∧St (i+1) p9.s.heap∧p9.s.heap.get? D=some (listOf items kk)∧eD C p9.Φ acc items.toList:=fun {H9 p9} st9=>by
    obtain⟨x1,x2,x3⟩:=l5 (F:={F with g:=g3,val:=v3}) (val':=v5) free2 rfl fr2 ((stored sm5 R5).trans (val:=v5) (f5.s (F:={F with g0:=_,g:=g5,val:=v5}) st9 fr5.le)) (fr5.step (F:={F with g0:=_,g:=g5,val:=v5}) st9)
    have le:=x1.ext.1
    refine⟨_,⟨st3.same.trans x1.same,st3.ext.trans x1.ext,fun j hj=>⟨(st9.mu j (st3.mu j hj).2).1.trans (st3.mu j hj).1,(st9.mu j (st3.mu j hj).2).2⟩,x1.rel.le x2.le⟩,x1.rel,kp.fr x2,fun b hb=>(x3 b hb).1,K.frame _ _ _ hst2 fun b hb o e=>?_,(x3 D (.head _)).2.trans hD2,hr3.imp fun _ _ _ y=>y.mono le⟩
    rcases hfp b hb with q | q | q
    · exact(x3 b (.tail _ q)).2.trans e
    · cases q':p.Φ b with
      | none=>exact absurd q' q
      | some o'=>
       have y:=st3.ext.1 _ _ q'
       rw [show h2.get? b=some o' from s2.rel.sub _ _ y] at e
       cases e
       exact x1.rel.sub _ _ (le _ _ y)
    · cases q':F.g0 b with
      | none=>exact absurd q' q
      | some o'=>
       rw [show h2.get? b=some o' from s2.rel.gsub _ _ (fr3.le _ _ q')] at e
       cases e
       exact x1.rel.gsub _ _ (x2.le _ _ q')
   refine WC.run (F:={F with g0:=_,g:=g5,val:=v5}) (hc hbody) fr5 R5 fun b p6 H6 st6 hq6=>?_
   cases b with
   | false=>
    obtain⟨H9,st9,hq9,_⟩:=wo st6 (show lP H3 H6 _ from hq6)
    obtain⟨g9,a1,a2,a3,a4,a5,a6,a7⟩:=out st9
    exact⟨nn+1 - (i+1),by omega, .mk rfl hlt rfl a5 a1 a2 a3 a4 a6 a7 (bG hal) hq9⟩
   | true=>
    refine(he (show el ρ5 H6 _ from hq6)) {F with g0:=_,g:=g5,val:=v5} p6 (fr5.step (F:={F with g0:=_,g:=g5,val:=v5}) st6) st6.rel _ fun x p7 v H7 st7 xv hq7=>?_
    refine mi st7.rel xv hq7 fun y H8 p8 st8 e8 xt hq8=>?_
    obtain⟨H9,st9,hq9,_⟩:=wo ((st6.trans st7).trans st8) hq8
    obtain⟨g9,a1,a2,a3,a4,a5,a6,a7⟩:=out st9
    rw [←e8]
    have fD:=a4 D (.head _)
    obtain⟨u1,n',u2⟩:=iI a6 (·.push x)
    refine call_meets slot_list_append (cA a6).typeIs entry_list_append (args_list_append _ _) (list_append D items kk x (by rw [←eD.size a7];omega)) ⟨a6,?_⟩
    have sD:=a2.but (s':={p8.s with heap:=p8.s.heap.update D (Obj.mapSeq (·.push x))}) (· =D) (fun b hb=>by rw [hb];exact fD) ⟨_,_,rfl⟩ fun b o hb e=>(u1 b hb).trans e
    refine⟨nn+1 - (i+1),by omega, .mk (p':=⟨p8.Φ,p8.μ,_⟩) (acc:=acc++[y]) (items:=items.push x) rfl hlt rfl (K.frame _ _ _ a5 fun b hb o e=>(u1 b fun q=>zW (q▸hb)).trans e) (a1.trans (sD.le a3.le)) sD.rel (a3.step (F:={F with g:=g9,val:=v5}) sD) (fun b hb=>⟨?_,(a4 b hb).phi,(a4 b hb).g,(a4 b hb).ne,(a4 b hb).sl⟩) u2 (by rw [Array.toList_push];exact a7.append (.cons xt .nil)) (by rw [ak];exact aH hal) ?_⟩
    · by_cases q:b=D
      · rw [q];exact bt u2
      · rw [u1 b q];exact(a4 b hb).has
    · show Fg tg cond el ρ (ts.drop (i+1)) H9 fun ys H''=>Q ((acc++[y])++ys) H''
      rw [show(fun ys (H'':Hp)=>Q ((acc++[y])++ys) H'')=fun ys H''=>Q (acc++(y::ys)) H'' from funext fun ys=>by rw [au];rfl]
      exact hq9
 · have hin:i=nn:=kW hi (bU.mp hlt)
   subst hin
   refine K.done _ _ _ hst3 fun h1 tk1 hk1=>?_
   have s2:=R3.but (s':={p3.s with heap:=h1,toks:=tk1}) (· ∈wr) (fun b hb=>free3 b (.tail _ (hwr b hb))) ⟨_,_,rfl⟩ fun b o hb e=>hk1 b o hb e
   rw [←hnn,dD] at hq3
   have fD:=free3 D (.head _)
   have gD:h1.get? D=some (listOf items kk):=hk1 _ _ hDw hD3
   exact k g3 v3 ⟨p3.Φ,p3.μ,_⟩ H3 acc items kk (st3.trans (s2.le fr3.le)) s2.rel (fr3.step s2) ⟨bt gD,fD.phi,fD.g,fD.ne,fD.sl⟩ gD hr3 (by simpa [Fg] using hq3)
 walk_at "z"
end
noncomputable def HA (sc:Scope) (p:Str×NameKind):NameKind:=bif p.2== .free&&sc.kind== .function&&sc.names.lookup p.1==some .cell then .cell else p.2
noncomputable def bC (sc scope:Scope):Scope:={scope with names:=scope.names.map fun p=>(p.1,HA sc p)}
theorem uN {sc scope:Scope} {env:Env} (h:env.scope=sc):relabel scope env=bC sc scope:=by
 walk_at "a"
 subst h
 show({scope with names:=_}:Scope)={scope with names:=_}
 congr 1
 refine iu fun p _=>?_
 obtain⟨n,k⟩:=p
 show(if(k== .free&&env.scope.kind== .function&&env.kindOf n==some .cell)=true then(n,NameKind.cell) else(n,k))=(n,bif k== .free&&env.scope.kind== .function&&env.scope.names.lookup n==some .cell then .cell else k)
 unfold Env.kindOf
 cases (k==NameKind.free&&env.scope.kind== .function&&env.scope.names.lookup n==some .cell) <;> rfl
 walk_at "z"
theorem jL {sc scope:Scope}:(bC sc scope).names.map (·.1)=scope.names.map (·.1):=by
 unfold bC;rw [aO];rfl
theorem jY {sc scope:Scope} {x:Str} {k:NameKind} (h:(bC sc scope).names.lookup x=some k):∃k0,(x,k0)∈scope.names∧scope.names.lookup x=some k0∧k=HA sc (x,k0):=by
 walk_at "a"
 unfold bC at h
 dsimp only at h
 revert h
 generalize scope.names=l
 intro h
 induction l with
 | nil=>cases h
 | cons e r ih=>
  obtain⟨y,k1⟩:=e
  rw [bp,aD] at h
  rw [aD]
  cases q:x==y with
  | true=>
   rw [q] at h
   cases beq_iff_eq.mp q
   exact⟨k1, .head _,rfl,(Option.some.inj h).symm⟩
  | false=>
   rw [q] at h
   obtain⟨k0,a,b,c⟩:=ih h
   exact⟨k0, .tail _ a,b,c⟩
 walk_at "z"
noncomputable def lK (sc:Scope) (names:List (Str×NameKind)):List (Option Nat):=names.map fun p=>bif p.2== .free then(iy sc.names p.1 0).map (·.1) else none
noncomputable def qf (m:List (Option Nat)) (ρ:aF):aF:=m.map fun o=>o.bind (nu ρ)
noncomputable def jz (sc scope:Scope):Bool:=scope.names.all (fun p=>p.2 != .cell&&(p.2 != .free || (sc.names.lookup p.1==some .cell || sc.names.lookup p.1==some .free)))&& !(scope.names.map (·.1)==dU)&&scope.kind== .function
section
variable {C:Cx} {sc scope:Scope} {n:Nat} {ρ:aF} {H H':Hp} {F:Fm} {p p':Pt}
theorem Gp {env:Env} {f:Str×NameKind→List (Str×Addr)→Sem (ForInStep (List (Str×Addr)))} (hf:∀n k cs,f (n,k) cs=if k== .free then(cellOf env n >>=fun c=>pure (.yield ((n,c)::cs))) else pure (.yield cs)) (names:List (Str×NameKind)):
 ∀(acc:List (Str×Addr)),(∀x,(x,NameKind.free)∈names→∃c,env.cells.lookup x=some c)→
 ∃cl,(forIn names acc f:Sem (List (Str×Addr)))=pure cl∧(∀x c,cl.lookup x=some c→acc.lookup x=some c∨(env.cells.lookup x=some c∧(x,NameKind.free)∈names))∧(∀x,(x,NameKind.free)∈names∨(acc.lookup x).isSome=true→(cl.lookup x).isSome=true):=by
 walk_at "a"
 induction names with
 | nil=>exact fun acc _=>⟨acc,rfl,fun _ _ h=> .inl h,fun x h=>h.elim (fun h=>nomatch h) id⟩
 | cons e r ih=>
  obtain⟨y,k⟩:=e
  intro acc h
  rw [List.forIn_cons,hf]
  by_cases hk:(k==NameKind.free)=true
  · rw [if_pos hk]
    have hk':k= .free:=beq_iff_eq.mp hk
    subst hk'
    obtain⟨c,hc⟩:=h y (.head _)
    obtain⟨cl,e,h1,h2⟩:=ih ((y,c)::acc) fun x hx=>h x (.tail _ hx)
    refine⟨cl,by rw [show cellOf env y=pure c from by unfold cellOf;rw [hc]];exact e,fun x c' hx=>?_,fun x hx=>h2 x ?_⟩
    · rcases h1 x c' hx with q | ⟨q1,q2⟩
      · rw [aD] at q
        cases e:x==y with
        | true=>rw [e] at q;cases q;cases beq_iff_eq.mp e;exact .inr ⟨hc, .head _⟩
        | false=>rw [e] at q;exact .inl q
      · exact .inr ⟨q1, .tail _ q2⟩
    · rw [aD]
      cases e:x==y with
      | true=>exact .inr rfl
      | false=>
       rcases hx with hx | hx
       · cases hx with
         | head=>rw [beq_self_eq_true] at e;cases e
         | tail _ hx=>exact .inl hx
       · exact .inr hx
  · rw [if_neg hk]
    obtain⟨cl,e,h1,h2⟩:=ih acc fun x hx=>h x (.tail _ hx)
    refine⟨cl,e,fun x c' hx=>(h1 x c' hx).imp id fun q=>⟨q.1, .tail _ q.2⟩,fun x hx=>h2 x (hx.imp (fun hx=>?_) id)⟩
    cases hx with
    | head=>exact absurd (beq_self_eq_true _) hk
    | tail _ hx=>exact hx
 walk_at "z"
theorem oL {env:Env} (h:∀x,(x,NameKind.free)∈scope.names→∃c,env.cells.lookup x=some c):
 ∃cl,closureFor scope env=pure cl∧(∀x c,cl.lookup x=some c→env.cells.lookup x=some c∧(x,NameKind.free)∈scope.names)∧∀x,(x,NameKind.free)∈scope.names→(cl.lookup x).isSome=true:=by
 walk_at "a"
 obtain⟨cl,e,h1,h2⟩:=Gp (env:=env) (f:=fun(n,k) cs=>if k== .free then(cellOf env n >>=fun c=>pure (.yield ((n,c)::cs))) else pure (.yield cs)) (fun n k cs=>rfl) scope.names [] h
 refine⟨cl,?_,fun x c hx=>(h1 x c hx).elim (fun q=>nomatch q) id,fun x hx=>h2 x (.inl hx)⟩
 have e2:closureFor scope env=(forIn scope.names ([]:List (Str×Addr)) (fun(n,k) cs=>if k== .free then(cellOf env n >>=fun c=>pure (.yield ((n,c)::cs))) else pure (.yield cs)) >>=fun r=>pure r):=rfl
 rw [e2,e];rfl
 walk_at "z"
theorem m6 {l:List (Str×NameKind)} (nd:(l.map (·.1)).Nodup) {x:Str} {k:NameKind} (h:(x,k)∈l):l.lookup x=some k:=by
 walk_at "a"
 induction l with
 | nil=>cases h
 | cons e r ih=>
  rw [bp,bX] at nd
  rw [aD]
  cases h with
  | head=>rw [beq_self_eq_true]
  | tail _ h=>
   rw [beq_false_of_ne fun q:x=e.1=>nd.1 (aP.mpr ⟨_,h,q⟩)]
   exact ih nd.2 h
 walk_at "z"
theorem iX (h:jz sc scope=true) (hE:yU sc F.env):(∀y∈scope.names,y.2≠ .cell)∧(∀x,(x,NameKind.free)∈scope.names→∃c,F.env.cells.lookup x=some c)∧scope.names.map (·.1)≠dU∧scope.kind= .function:=by
 walk_at "a"
 have h:=aa.mp h
 have h1:=aa.mp h.1
 refine⟨fun y hy q=>?_,fun x hx=>?_,fun q=>?_,?_⟩
 · have:=(aa.mp (aj.mp h1.1 y hy)).1
   rw [q] at this;cases this
 · have:=(aa.mp (aj.mp h1.1 _ hx)).2
   rcases c9.mp this with q | q
   · cases q
   · rcases c9.mp q with q | q
     · exact hE.cells x (.inl (beq_iff_eq.mp q))
     · exact hE.cells x (.inr (beq_iff_eq.mp q))
 · rw [beq_iff_eq.mpr q] at h1;cases h1.2
 · have:=h.2
   revert this
   cases scope.kind <;> first | exact fun _=>rfl | exact nofun
 walk_at "z"
theorem u4 {cl:List (Str×Addr)} {Cc:Addr} {h:Heap} (fr:FR C sc n ρ F H p) (nd:(scope.names.map (·.1)).Nodup) (ok:jz sc scope=true) (hcl1:∀x c,cl.lookup x=some c→F.env.cells.lookup x=some c∧(x,NameKind.free)∈scope.names) (hcl2:∀x,(x,NameKind.free)∈scope.names→(cl.lookup x).isSome=true)
 (hC:h.Ns Cc fun _=>none) (fC:p.Φ Cc=none) (gC:F.g Cc=none):FR C (bC sc scope) n (qf (lK sc scope.names) ρ) ⟨F.A,compEnvC scope cl Cc F.env,F.g,gw [Cc] h F.g,fun x=>bif (cl.lookup x).isSome then F.val x else none,false⟩ H p:=by
 walk_at "a"
 obtain⟨hcell,hfree,hlam,hkind⟩:=iX ok fr.env
 have neC:∀{x c},cl.lookup x=some c→c≠Cc:=fun {x c} e q=>fr.fa (.inr ⟨x,(hcl1 x c e).1⟩) (q▸gC)
 have kfree:∀{x},((bC sc scope).names.lookup x=some .cell∨(bC sc scope).names.lookup x=some .free)→(x,NameKind.free)∈scope.names:=fun {x} q=>by
  have key:∀{k},(bC sc scope).names.lookup x=some k→k= .cell∨k= .free→(x,NameKind.free)∈scope.names:=fun {k} q hk=>by
   obtain⟨k0,a,_,e⟩:=jY q
   cases k0 with
   | free=>exact a
   | cell=>exact absurd rfl (hcell _ a)
   | «local» =>rcases hk with hk | hk <;> (rw [hk] at e;cases e)
   | globalExplicit=>rcases hk with hk | hk <;> (rw [hk] at e;cases e)
   | globalImplicit=>rcases hk with hk | hk <;> (rw [hk] at e;cases e)
  exact q.elim (fun q=>key q (.inl rfl)) fun q=>key q (.inr rfl)
 have klocal:∀{x},(bC sc scope).names.lookup x=some .local→cl.lookup x=none:=fun {x} q=>by
  obtain⟨k0,a,b,e⟩:=jY q
  cases e2:cl.lookup x with
  | none=>rfl
  | some c=>
   have:=m6 nd (hcl1 x c e2).2
   rw [b] at this
   cases this
   unfold HA at e
   cases z:(NameKind.free== .free&&sc.kind== .function&&sc.names.lookup x==some .cell) <;> (dsimp only at e;rw [z] at e;cases e)
 refine⟨fr.ok,⟨uN fr.env.scope,fr.env.globals,fr.env.builtins,fun x hx=>aZ.mp (hcl2 x (kfree hx)),fun x c hx hc=>?_,fun q=>absurd (jL.symm.trans q) hlam⟩,vQ fun b hb=>by rw [af.mp hb];exact gC,(by rw [jL];exact nd),hkind,gC,fun b hb=>?_,?_,fun x c hc=>?_,fun x y c hx hy=>fr.apart x y c (hcl1 x c hx).1 (hcl1 y c hy).1,fun i x k v e1 e2=>?_⟩
 · have hc:cl.lookup x=some c:=hc
   rw [klocal hx] at hc;cases hc
 · rcases hb with hb | ⟨x,hb⟩
   · rw [show b=Cc from hb];exact fC
   · exact fr.phi b (.inr ⟨x,(hcl1 x b hb).1⟩)
 · obtain⟨o,es,ep,e,r⟩:=hC
   refine⟨o,_,(lL (.head _)).trans e,⟨es,ep,r⟩,fun x hx=>?_⟩
   show _=bif _ then _ else _
   rw [klocal hx];rfl
 · have hc:cl.lookup x=some c:=hc
   obtain⟨_,_,o,c3,c4⟩:=fr.cells x c (hcl1 x c hc).1
   refine⟨neC hc,fun q=>(nomatch q),o,(gh fun q=>neC hc (af.mp q)).trans c3,c4.trans (congrArg Data.cell ?_)⟩
   show _=bif _ then _ else _
   rw [hc];rfl
 · have e3:((bC sc scope).names.map (·.1))[i]? =some x:=by rw [ax,e1];rfl
   rw [jL,ax] at e3
   obtain⟨⟨x',k'⟩,e4,e5⟩:=aE.mp e3
   have e5:x'=x:=e5
   subst e5
   unfold qf lK at e2
   rw [ax,ax,e4] at e2
   replace e2:(bif k'==NameKind.free then(iy sc.names x' 0).map (·.1) else none).bind (nu ρ)=some v:=Option.some.inj e2
   cases hk:k'==NameKind.free with
   | false=>rw [hk] at e2;cases e2
   | true=>
    rw [hk] at e2
    cases beq_iff_eq.mp hk
    obtain⟨j,j1,j2⟩:=bg.mp e2
    obtain⟨⟨j',kk⟩,j3,rfl⟩:=aE.mp j1
    obtain⟨_,hf1,_⟩:=jD j3
    obtain⟨cv,a1,a2⟩:=fr.vars j' x' kk v hf1 (lh j2)
    refine⟨cv,?_,a2⟩
    show(bif _ then _ else _)=_
    rw [hcl2 x' (dM e4)];exact a1
 walk_at "z"
end
section
variable {C:Cx} {sc scope:Scope} {n:Nat} {ρ:aF} {H H':Hp} {F:Fm} {p p':Pt}
theorem JJ {h:Heap} {a:Addr} {m:Str→Option Value} (x:h.Ns a m):h.get? a≠none:=by
 obtain⟨o,_,_,e,_⟩:=x;exact bt e
noncomputable def CK (C:Cx) (F:Fm) (H:Hp) (p:Pt) (Q:List T→Hp→Prop) (P:Addr→Addr→Shared→Prop):Prop:=∀D Cc p' H' ys items kk,f5 C F.g H p H' p'→f6 C F.g H' p' D→f6 C F.g H' p' Cc→D≠Cc→(∃m,p'.s.heap.Ns Cc m)→p'.s.heap.get? D=some (listOf items kk)→eD C p'.Φ ys items.toList→Q ys H'→P D Cc p'.s
theorem n6 {t iter elt:Expr} {ifs:List Expr} {pos:Pos} {tg:Tg} {it:Value} {ts:List T} {cl:List (Str×Addr)} {Q:List T→Hp→Prop} {cond:aF→Hp→(Bool→Hp→Prop)→Prop} {el:aF→Hp→(V→Hp→Prop)→Prop} (hc:∀{ρ H Q},cond ρ H Q→WC C (bC sc scope) n ifs ρ H Q) (he:∀{ρ H Q},el ρ H Q→WE C (bC sc scope) n elt ρ H Q) (fr:FR C sc (n+2) ρ F H p) (R:bc C F.g H p) (hI:FJ C F.A t F.g0 F.g H p it ts) (ht:cT (bC sc scope) false t=some tg) (okt:AF tg (qf (lK sc scope.names) ρ)=true) (hz:fit ts.length=true)
 (nd:(scope.names.map (·.1)).Nodup) (ok:jz sc scope=true) (hcl1:∀x c,cl.lookup x=some c→F.env.cells.lookup x=some c∧(x,NameKind.free)∈scope.names) (hcl2:∀x,(x,NameKind.free)∈scope.names→(cl.lookup x).isSome=true)
 (h:Fg tg cond el (qf (lK sc scope.names) ρ) ts H Q) {RR:Value→Addr→Result→Shared→Prop} (k:CK C F H p Q fun D Cc s=>RR (.ref D) Cc (.ok .next) s):
 Wp C F.A (newList []) (fun acc s₃=>Wp C F.A (newFunctionEnv scope F.env.globals cl [] F.env.qual none .none (some F.env)) (fun cenv s₄=>codeAny (model C.prog C.w) F.A (.compStart (.ListComp elt [⟨t,iter,ifs,0⟩] scope pos) 0 it acc {cenv with scope:=relabel scope F.env}) (RR acc cenv.locals) s₄) s₃) p.s:=by
 walk_at "a"
 cases hI with | @mk I own fp wr Pv Md St _ nn hnn K hst free hwr hfp hSt hself hP=>
 obtain⟨hcell,_,_,hkind⟩:=iX ok fr.env
 refine wpAny_newObj_type (wpAny_newFunctionEnv hcell (fun y hy=>nomatch hy) (fun h₁ hns₁ hsb₁=>?_) hkind)
 dsimp only at hns₁ hsb₁ ⊢
 have s1:=R.more (s':={p.s with heap:=p.s.heap.push (listOf #[] 0)}) ⟨_,_,rfl⟩ fun b o e=>am _ e
 have hD1:(p.s.heap.push (listOf #[] 0)).get? p.s.heap.objs.size=some (listOf #[] 0):=aC _ rfl
 generalize hH2:p.s.heap.push {cls:= .type "list",dict:=none,data:= .seq ([]:List Value).toArray}=H2 at hns₁ hsb₁ ⊢
 replace hH2:p.s.heap.push (listOf #[] 0)=H2:=hH2
 rw [hH2] at s1 hD1
 have hC:H2.objs.size=p.s.heap.objs.size+1:=by rw [←hH2,Heap.size_push]
 have hDC:p.s.heap.objs.size≠H2.objs.size:=by rw [hC];exact bD (aI _)
 have kp:∀b o,H2.get? b=some o→h₁.get? b=some o:=fun b o e=>hsb₁.extBut b o (bD (d7 e)) (am _ e)
 have s2:=s1.rel.more (s':={p.s with heap:=h₁,toks:=p.s.toks+([]:List (Str×Value)).length}) ⟨_,_,rfl⟩ kp
 have st:=s1.trans s2
 have nC:p.s.heap.get? H2.objs.size=none:=ky (by rw [hC];exact d5 _)
 have gCC:H2.get? H2.objs.size=none:=cS _
 have fC:=eW (s':={p.s with heap:=h₁,toks:=p.s.toks+([]:List (Str×Value)).length}) R nC (JJ hns₁)
 have gD:=kp _ _ hD1
 have fD:=eW (s':={p.s with heap:=h₁,toks:=p.s.toks+([]:List (Str×Value)).length}) R (cS _) (bt gD)
 have inner:=u4 (h:=h₁) (fr.step st) nd ok hcl1 hcl2 (by exact hns₁) fC.phi fC.g
 have RI:bc C (gw [H2.objs.size] h₁ F.g) H ⟨p.Φ,p.μ,{p.s with heap:=h₁,toks:=p.s.toks+([]:List (Str×Value)).length}⟩:=st.rel.guardL fun b hb=>by rw [af.mp hb];exact fC
 have old:∀{b},b∈own→p.s.heap.get? b≠none:=fun hb=>(free _ hb).has
 have notC:∀{b},p.s.heap.get? b≠none→b∉[H2.objs.size]:=fun hb q=>by rw [af.mp q] at hb;exact hb nC
 have loop:codeAny (model C.prog C.w) F.A (.compLoop (.ListComp elt [⟨t,iter,ifs,0⟩] scope pos) 0 (.ref I) (.ref p.s.heap.objs.size) (compEnvC scope cl H2.objs.size F.env)) (RR (.ref p.s.heap.objs.size) H2.objs.size) {p.s with heap:=h₁,toks:=p.s.toks+([]:List (Str×Value)).length}:=by
  refine x9 (F:=⟨F.A,compEnvC scope cl H2.objs.size F.env,F.g,gw [H2.objs.size] h₁ F.g,fun x=>bif (cl.lookup x).isSome then F.val x else none,false⟩) (p:=⟨p.Φ,p.μ,{p.s with heap:=h₁,toks:=p.s.toks+([]:List (Str×Value)).length}⟩) (Q:=Q) hc he ht okt inner RI hnn K (K.frame _ _ _ hst fun b _ o e=>kp b o ?_) (fun b hb=>?_) hwr (fun b hb=>?_) hSt hP (fun q=>old q (cS _)) (fun q=>?_) gD (hnn▸cI hz) h ?_
  · rw [←hH2];exact am _ e
  · cases hb with
    | head=>exact⟨fD.has,fD.phi,(gh fun q=>hDC (af.mp q)).trans fD.g,fD.ne,fD.sl⟩
    | tail _ hb=>
     have f:=free b hb
     refine⟨?_,f.phi,(gh (notC f.has)).trans f.g,f.ne,f.sl⟩
     cases e:p.s.heap.get? b with
     | none=>exact absurd e f.has
     | some o=>exact bt (kp _ _ (hH2▸am _ e))
  · refine(hfp b hb).imp id (Or.imp id fun q=>?_)
    cases e:F.g0 b with
    | none=>exact absurd e q
    | some o=>exact bt (fr.le _ _ e)
  · rcases hfp _ q with q | q | q
    · exact old q (cS _)
    · exact q (eG R.sub (cS _))
    · exact q (fr.le.none (eG R.gsub (cS _)))
  · intro g' val' p2 H2' ys items kk st3 R3 fr3 fD3 gD3 r3 q3
    obtain⟨o,m,e1,e2,_⟩:=fr3.ns
    have gC3:g' H2.objs.size=some o:=e1
    exact k _ _ p2 H2' ys items kk (st.trans st3) ⟨fD3.has,fD3.phi,fr3.le.none fD3.g,fD3.ne,fD3.sl⟩ ⟨bt (R3.gsub _ _ gC3),fr3.phi _ (.inl rfl),fC.g,fC.ne,fun j x e l q=>R3.alive e l fun _ _ _ _ z _=>by rw [q,gC3] at z;cases z⟩ hDC ⟨m,e2.ns (R3.gsub _ _ gC3)⟩ gD3 r3 q3
 exact codeAny_compStart_list loop (hself 0 _ _ _ (K.frame _ _ _ hst fun b _ o e=>kp b o (hH2▸am _ e)) loop)
 walk_at "z"
end
noncomputable def xc (tg:Tg) (m:List (Option Nat)) (cond:aF→Hp→(Bool→Hp→Prop)→Prop) (elt:aF→Hp→(V→Hp→Prop)→Prop) (ρ:aF) (ts:List T) (src:Option Nat) (H:Hp) (K:List T→Hp→Prop):Prop:=
 Br (fit ts.length) (an (motive:=fun _=>Prop) src (fE (qf m ρ) fun ρ1=>Br (AF tg ρ1) (EG tg cond elt ρ1 ts H K) False) fun j=>Br (we H j) (∀a,fE (qf m (vR j a ρ)) fun ρ1=>Br (AF tg ρ1) (EG tg cond elt ρ1 ts (tK H j) fun ys H2=>Br (H2.lookup j).isNone (K ys ((j, .list ts)::H2)) False) False) False) False
section
variable {C:Cx} {sc scope:Scope} {n:Nat} {ρ:aF} {H H':Hp} {F:Fm} {p p':Pt}
theorem xK {g:cj} {m:Nat} {ts:List T} (R:bc C g H p) (e:H.lookup m=some (.list ts)) (nr:we H m=true) (st:f5 C (gw [p.μ m] p.s.heap g) (tK H m) p H' p') (hn:(H'.lookup m).isNone=true):
 ∃p2,p2.s=p'.s∧p2.Φ=p'.Φ∧f5 C g H p ((m, .list ts)::H') p2∧∀b,f6 C (gw [p.μ m] p.s.heap g) H' p' b→f6 C g ((m, .list ts)::H') p2 b:=by
 walk_at "a"
 obtain⟨R1,f1⟩:=R.lend1 e rfl nr
 have f1':∀b∈[p.μ m],f6 C g (tK H m) p b:=fun b hb=>by rw [af.mp hb];exact f1
 have hl:=st.held (R1.guardL f1').gsub (b:=p.μ m) (by rw [lL (.head _)];exact f1.has)
 have lg:Le g (gw [p.μ m] p.s.heap g):=vQ fun b hb=>(f1' b hb).g
 have s1:=st.le lg
 refine R.alive e rfl fun ob h1 h2 h3 h4 h5=>?_
 have s2:=s1.rel.alloc (k:=m) (o:= .list ts) (fw.mp hn) (hl.1.trans h1) (OR.mono (o:= .list ts) st.ext.1 (fun _ h=>nomatch h) h2) (hl.2.1.trans h3) h4 hl.2.2 fun _ h=>nomatch h
 refine⟨⟨p'.Φ,fun j=>if j=m then p.μ m else p'.μ j,p'.s⟩,rfl,rfl,⟨s1.same,s1.ext,fun j hj=>?_,s2.rel⟩,fun b f=>?_⟩
 · by_cases q:j=m
   · subst q;exact⟨if_pos rfl,congrArg bY be⟩
   · have x:=s1.mu j (by rw [nF q];exact hj)
     exact⟨(if_neg q).trans x.1,(congrArg bY (aX q)).trans x.2⟩
 · have nb:b≠p.μ m:=fun q=>by
    have:=f.g
    rw [q,lL (.head _)] at this
    exact f1.has this
   refine⟨f.has,f.phi,(gh fun q=>nb (af.mp q)).symm.trans f.g,f.ne,fun j o e' l q=>?_⟩
   replace q:(if j=m then p.μ m else p'.μ j)=b:=q
   by_cases z:j=m
   · rw [if_pos z] at q;exact nb q.symm
   · rw [if_neg z] at q;exact f.sl j o ((aX z).symm.trans e') l q
 walk_at "z"
theorem mF (nd:(scope.names.map (·.1)).Nodup):∀x∈scope.names,x.2= .local→scope.names.lookup x.1=some .local:=fun x hx hl=>by
 obtain⟨a,b⟩:=x
 have hl:b= .local:=hl
 subst hl
 exact m6 nd hx
theorem my {i D:Nat} {o:O} {Φ:cj} {μ:Nat→Addr} {s:Shared}:eC C ((i,o)::H) ⟨Φ,fun j=>if j=i then D else μ j,s⟩ (.ref i) (.ref D):=⟨congrArg Value.ref (if_pos rfl).symm,fun j hj=>by rw [af.mp hj,be];rfl⟩
theorem sy {t iter elt:Expr} {ifs:List Expr} {pos pos2:Pos} {tg:Tg} {Q:List T→Hp→Prop} {use:Option (Value→Sem Unit)} {P:Value→Shared→Prop} {cond:aF→Hp→(Bool→Hp→Prop)→Prop} {el:aF→Hp→(V→Hp→Prop)→Prop} (hc:∀{ρ H Q},cond ρ H Q→WC C (bC sc scope) n ifs ρ H Q) (he:∀{ρ H Q},el ρ H Q→WE C (bC sc scope) n elt ρ H Q) (ht:cT (bC sc scope) false t=some tg) (hs:∀env x,foldedSetIterable iter env x=pure x) (nd:(scope.names.map (·.1)).Nodup) (ok:jz sc scope=true)
 (fr:FR C sc (n+2) ρ F H p) (R:bc C F.g H p) (h:WI C sc n t iter ρ H fun ts src H1=>xc tg (lK sc scope.names) cond el ρ ts src H1 Q)
 (k:CK C F H p Q fun D Cc s=>compPost (model C.prog C.w) F.A oj use P (.ref D) Cc (.ok .next) s):
 Wp C F.A (comprehension (.ListComp elt [⟨t,iter,ifs,0⟩] scope pos) scope F.env pos2 (newList []) false (eval iter F.env) use) P p.s:=by
 walk_at "a"
 obtain⟨hcell,hfree,_,hkind⟩:=iX ok fr.env
 obtain⟨cl,hclos,hcl1,hcl2⟩:=oL hfree
 refine wpAny_comprehension_free rfl (hs F.env) hclos hkind (mF nd) (wpAny_mono (E:=oj) (h F p fr R _ fun it p1 ts src H1 st i q=>?_) (fun _ _ x=>x) fun _ _ x=>x)
 obtain⟨hz,q⟩:=Br.yes q
 cases i with
 | tree i=>
  obtain⟨okt,q⟩:=Br.yes (cq q)
  exact n6 hc he (fr.step st) st.rel i ht okt hz nd ok hcl1 hcl2 q.go fun D Cc p2 H2 ys items kk s2 fD fC ne ns gD r q=>k D Cc p2 H2 ys items kk (st.trans s2) fD fC ne ns gD r q
 | @slot m e i=>
  obtain⟨nr,q⟩:=Br.yes q
  obtain⟨okt,q⟩:=Br.yes (cq (q (p1.μ m)))
  obtain⟨R1,f1⟩:=st.rel.lend1 e rfl nr
  have f1':∀b∈[p1.μ m],f6 C F.g (tK H1 m) p1 b:=fun b hb=>by rw [af.mp hb];exact f1
  refine n6 (F:={F with g0:=gw [p1.μ m] p1.s.heap F.g0,g:=gw [p1.μ m] p1.s.heap F.g}) hc he ((fr.step st).hide.lend f1') (R1.guardL f1') i ht okt hz nd ok hcl1 hcl2 q.go fun D Cc p2 H2 ys items kk s2 fD fC ne ns gD r q=>?_
  obtain⟨hn,q⟩:=Br.yes q
  obtain⟨p3,e3,e4,s3,fz⟩:=xK st.rel e nr s2 hn
  rw [←e3] at ns gD ⊢
  exact k D Cc p3 _ ys items kk (st.trans s3) (fz _ fD) (fz _ fC) ne ns gD (e4▸r) q
 walk_at "z"
theorem C7 {t iter elt:Expr} {ifs:List Expr} {pos:Pos} {tg:Tg} {Q:V→Hp→Prop} {cond:aF→Hp→(Bool→Hp→Prop)→Prop} {el:aF→Hp→(V→Hp→Prop)→Prop} (hc:∀{ρ H Q},cond ρ H Q→WC C (bC sc scope) n ifs ρ H Q) (he:∀{ρ H Q},el ρ H Q→WE C (bC sc scope) n elt ρ H Q) (ht:cT (bC sc scope) false t=some tg) (hs:∀env x,foldedSetIterable iter env x=pure x) (nd:(scope.names.map (·.1)).Nodup) (ok:jz sc scope=true)
 (h:WI C sc n t iter ρ H fun ts src H1=>xc tg (lK sc scope.names) cond el ρ ts src H1 fun ys H2=>Q (.ref (eN H2)) ((eN H2, .list ys)::H2)):WE C sc n (.ListComp elt [⟨t,iter,ifs,0⟩] scope pos) ρ H Q:=by
 intro F p fr R P k
 rw [eval_ListComp]
 show wpAny _ F.A (comprehension _ scope F.env (firstIterPos [⟨t,iter,ifs,0⟩] pos) (newList []) false (eval iter F.env) none) _ _ p.s
 refine sy (use:=none) hc he ht hs nd ok fr R h fun D Cc p2 H2 ys items kk st fD fC ne ns gD r q=>?_
 obtain⟨m,ns⟩:=ns
 refine⟨m,ns,fun h' hb=>?_⟩
 have s2:=st.rel.but (s':={p2.s with heap:=h'}) (· =Cc) (fun b e=>by rw [e];exact fC) ⟨_,_,rfl⟩ fun b o hb' e=>hb.extBut b o hb' e
 have gD':h'.get? D=some (listOf items kk):=hb.extBut _ _ ne gD
 have s3:=s2.rel.alloc (o:= .list ys) (iC H2) gD' (.mk items kk r) fD.phi fD.g fD.sl fun _ h=>nomatch h
 exact k _ _ _ _ ((st.trans s2).trans s3) my q
theorem Cr {t iter elt:Expr} {ifs:List Expr} {x:Str} {pt cpos pos:Pos} {i:Nat} {tg:Tg} {Q:Fl→aF→Hp→Prop} {cond:aF→Hp→(Bool→Hp→Prop)→Prop} {el:aF→Hp→(V→Hp→Prop)→Prop} (hc:∀{ρ H Q},cond ρ H Q→WC C (bC sc scope) n ifs ρ H Q) (he:∀{ρ H Q},el ρ H Q→WE C (bC sc scope) n elt ρ H Q) (hi:nw sc true x=some i) (hsw:∀env:Env,env.scope=sc→swapsWith (.ListComp elt [⟨t,iter,ifs,0⟩] scope cpos) (some (.Name x pt)) pos.line env=pure true) (ht:cT (bC sc scope) false t=some tg) (hs:∀env x,foldedSetIterable iter env x=pure x) (nd:(scope.names.map (·.1)).Nodup) (ok:jz sc scope=true)
 (h:WI C sc n t iter ρ H fun ts src H1=>xc tg (lK sc scope.names) cond el ρ ts src H1 fun ys H2=>fm [i] [.ref (eN H2)] ρ fun ρ'=>Q .next ρ' ((eN H2, .list ys)::H2)):WX C sc n (.Assign [.Name x pt] (.ListComp elt [⟨t,iter,ifs,0⟩] scope cpos) pos) ρ H Q:=by
 walk_at "a"
 intro F p oc fr R P k
 obtain⟨kd,e3,e4⟩:=li hi
 show Wp C F.A (exec (.Assign [.Name x pt] (.ListComp elt [⟨t,iter,ifs,0⟩] scope cpos) pos) F.env) P p.s
 rw [exec_Assign_Name_used _ _ _ _ (hsw _ fr.env.scope)]
 refine wpAny_bind (wpAny_standAt (wpAny_bind ?_))
 show wpAny _ F.A (do let _ ←comprehension (.ListComp elt [⟨t,iter,ifs,0⟩] scope cpos) scope F.env (firstIterPos [⟨t,iter,ifs,0⟩] cpos) (newList []) false (eval iter F.env) (some (assign (.Name x pt) F.env))) _ _ p.s
 refine wpAny_bind (wpAny_mono (E:=oj) (sy (use:=some (assign (.Name x pt) F.env)) (P:=fun _ s'=>P .next s') hc he ht hs nd ok fr R h fun D Cc p2 H2 ys items kk st fD fC ne ns gD r q=>?_) (fun _ s' hq=>wpAny_pure (wpAny_pure hq)) fun _ _ x=>x)
 obtain⟨m,ns⟩:=ns
 have s3:=st.rel.alloc (o:= .list ys) (iC H2) gD (.mk items kk r) fD.phi fD.g fD.sl fun _ h=>nomatch h
 have fC3:∀b∈[Cc],f6 C F.g ((eN H2, .list ys)::H2) ⟨p2.Φ,fun j=>if j=eN H2 then D else p2.μ j,p2.s⟩ b:=fun b hb=>by
  rw [af.mp hb]
  refine⟨fC.has,fC.phi,fC.g,fC.ne,fun j o e l z=>?_⟩
  replace z:(if j=eN H2 then D else p2.μ j)=Cc:=z
  by_cases w:j=eN H2
  · rw [if_pos w] at z;exact ne z
  · rw [if_neg w] at z;exact fC.sl j o ((aX w).symm.trans e) l z
 have fr3:=(fr.step st).step s3
 have xv:eC C ((eN H2, .list ys)::H2) ⟨p2.Φ,fun j=>if j=eN H2 then D else p2.μ j,p2.s⟩ (.ref (eN H2)) (.ref D):=my
 show wpAny _ F.A (assign (.Name x pt) F.env (.ref D)) _ _ p2.s
 refine wpAny_assign_Name ((fr3.lend fC3).store (s3.rel.guardL fC3) e3 (oc▸e4) xv fun g' s' sm fr' R'=>?_)
 obtain⟨x1,x2,x3⟩:=l5 (val':=upd F.val x (.ref D)) fC3 rfl fr3 (stored sm R') fr'
 obtain⟨f4,e5⟩:=x3 Cc (.head _)
 have ns':s'.heap.Ns Cc m:=by obtain⟨o,es,ep,e,y⟩:=ns;exact⟨o,es,ep,e5.trans e,y⟩
 refine⟨m,ns',fun h' hb=>?_⟩
 have s6:=x1.rel.but (s':={s' with heap:=h'}) (· =Cc) (fun b e=>by rw [e];exact f4) ⟨_,_,rfl⟩ fun b o hb' e=>hb.extBut b o hb' e
 exact k _ _ _ ⟨p2.Φ,fun j=>if j=eN H2 then D else p2.μ j,{s' with heap:=h'}⟩ .next _ _ ((((st.trans s3).s fr.le).trans (val:=F.val) x1).trans (val:=upd F.val x (.ref D)) (s6.s x2.le)) (x2.step s6) rfl (cq q)
 walk_at "z"
end
noncomputable def rM (H:Hp) (L:List Nat):Hp:=E0 H (fun n=>m9 n L) L 0
noncomputable def wy (H:Hp) (L:List Nat):Bool:=DA L&&L.all fun n=>(H.lookup n).isSome&&(jI H n).all fun m=>fZ m L
noncomputable def ij (H:Hp) (L:List Nat) (n:Nat):Nat:=bif bf n L.length then o9 L n else eN H+n
noncomputable def B2 (H:Hp) (L:List Nat):Hp:=H.filter fun e=> !fZ e.1 L
noncomputable def t8 (H:Hp) (L:List Nat) (H':Hp):Hp:=H'.map (fun e=>(ij H L e.1,e.2.ren (ij H L)))++B2 H L
theorem Dx {n:Nat} {L:List Nat} (h:n∈L):fZ n L=true:=by
 walk_at "a"
 induction L with
 | nil=>cases h
 | cons m l ih=>
  show(bif Nat.beq n m then true else fZ n l)=true
  cases q:Nat.beq n m with
  | true=>rfl
  | false=>cases h with
   | head=>exact absurd rfl (cY q)
   | tail _ h=>exact ih h
 walk_at "z"
theorem oo {L:List Nat}:∀{i},i < L.length→o9 L i∈L:=by
 induction L with
 | nil=>intro i h;cases h
 | cons n l ih=>intro i h;cases i with
  | zero=>exact .head _
  | succ i=>exact .tail _ (ih (bT h))
theorem B3 {H:Hp} {L:List Nat} {n:Nat} (h:fZ n L=false):(B2 H L).lookup n=H.lookup n:=by
 induction H with
 | nil=>rfl
 | cons e r ih=>
  unfold B2
  rw [bN]
  by_cases q:n=e.1
  · subst q
    rw [h]
    exact(be (o:=e.2)).trans (be (o:=e.2)).symm
  · rw [show List.lookup n (e::r)=r.lookup n from aX q]
    cases z:fZ e.1 L with
    | true=>exact ih
    | false=>exact(aX q).trans ih
theorem HB {H:Hp} {L:List Nat} {n:Nat} (h:fZ n L=true):(B2 H L).lookup n=none:=by
 walk_at "a"
 induction H with
 | nil=>rfl
 | cons e r ih=>
  unfold B2
  rw [bN]
  cases z:fZ e.1 L with
  | true=>exact ih
  | false=>exact(aX fun q=>by rw [q,z] at h;cases h).trans ih
 walk_at "z"
section
variable {C:Cx} {g:cj} {H H':Hp} {p p':Pt} {L:List Nat}
theorem HQ (h:wy H L=true):Rn H (o9 L) (fun n=>m9 n L) (rM H L):=by
 walk_at "a"
 have h1:=aa.mp h
 have key:∀{k o},(rM H L).lookup k=some o→k < L.length∧o=(ly H (o9 L k)).ren fun n=>m9 n L:=fun {k o} e=>by
  have:=rF e
  rw [bo,Nat.sub_zero] at this
  exact this.2
 refine⟨fun k o' e=>?_,fun k k' e e' q=>?_⟩
 · obtain⟨l,rfl⟩:=key e
   have:=aa.mp (aj.mp h1.2 _ (oo l))
   obtain⟨o,e1⟩:=aZ.mp this.1
   refine⟨o,e1,by unfold ly;rw [e1];rfl,fun j hj=>?_⟩
   have m:=mH (aj.mp this.2 j (by unfold jI;rw [e1];exact hj))
   exact⟨(jy m).1,kM (bl _) (by rw [bo];exact(jy m).2)⟩
 · obtain⟨o,e⟩:=aZ.mp e
   obtain⟨o',e'⟩:=aZ.mp e'
   exact mI h1.1 (key e).1 (key e').1 q
 walk_at "z"
open Classical in
noncomputable def ud (g:cj) (H:Hp) (p:Pt) (L:List Nat):cj:=fun b=>if∃n o,H.lookup n=some o∧o.live=true∧fZ n L=false∧p.μ n=b then p.s.heap.get? b else g b
theorem r9 (R:bc C g H p):Le g (ud g H p L):=fun b o e=>by
 unfold ud
 by_cases q:∃n o,H.lookup n=some o∧o.live=true∧fZ n L=false∧p.μ n=b
 · rw [if_pos q];exact R.gsub _ _ e
 · rw [if_neg q];exact e
theorem rN (R:bc C g H p) (h:wy H L=true):bc C (ud g H p L) (rM H L) ⟨p.Φ,fun k=>p.μ (o9 L k),p.s⟩:=by
 walk_at "a"
 have x:=HQ h
 refine(R.ren x).guard (fun b o e=>?_) ?_ fun k o e l q=>?_
 · unfold ud at e
   by_cases q:∃n o,H.lookup n=some o∧o.live=true∧fZ n L=false∧p.μ n=b
   · rw [if_pos q] at e;exact e
   · rw [if_neg q] at e;exact R.gsub _ _ e
 · refine(if_neg ?_).trans R.gP
   rintro⟨n,o,e,l,_,q⟩
   exact R.alive e l fun _ _ _ _ _ ne=>ne q
 · refine(if_neg ?_).trans q
   rintro⟨n,o',e',l',m,q'⟩
   obtain⟨o0,h1,rfl,_⟩:=x.at_ k o e
   have:=R.inj _ _ _ _ e' h1 l' (O.ren_live▸l) q'
   have r:=rF e
   rw [this,Dx (oo (by have:=r.2.1;rwa [bo] at this))] at m
   cases m
 walk_at "z"
theorem Ed {v:V} {cv:Value} (x:eC C H p v cv) (h:v.ids.all (fun m=>fZ m L)=true):eC C (rM H L) ⟨p.Φ,fun k=>p.μ (o9 L k),p.s⟩ (v.ren fun n=>m9 n L) cv:=
 x.ren fun j hj=>by
  have m:=mH (aj.mp h j hj)
  exact⟨(jy m).1,kM (bl _) (by rw [bo];exact(jy m).2)⟩
end
section
variable {C:Cx} {g:cj} {H H':Hp} {p p':Pt} {L:List Nat}
noncomputable def M0 (H:Hp) (L:List Nat) (k:Nat):Nat:=if k < eN H then m9 k L else k - eN H
noncomputable def xU (f:Nat→Nat) (H:Hp):Hp:=H.map fun e=>(f e.1,e.2.ren f)
theorem Au {f:Nat→Nat} (inj:∀n m,f n=f m→n=m) {n:Nat} {o:O} (h:H.lookup n=some o):(xU f H).lookup (f n)=some (o.ren f):=by
 walk_at "a"
 induction H with
 | nil=>cases h
 | cons e r ih=>
  by_cases q:n=e.1
  · subst q
    cases (show some e.2=some o from(be (o:=e.2)).symm.trans h)
    exact be
  · exact(aX fun z=>q (inj _ _ z)).trans (ih ((aX q).symm.trans h))
 walk_at "z"
theorem Dv {f:Nat→Nat} (inj:∀n m,f n=f m→n=m) {k:Nat} {o:O} (h:(xU f H).lookup k=some o):∃n o0,k=f n∧H.lookup n=some o0∧o=o0.ren f:=by
 walk_at "a"
 induction H with
 | nil=>cases h
 | cons e r ih=>
  by_cases q:k=f e.1
  · subst q
    exact⟨e.1,e.2,rfl,be,(Option.some.inj ((be (o:=e.2.ren f)).symm.trans h)).symm⟩
  · obtain⟨n,o0,a,b,c⟩:=ih ((aX q).symm.trans h)
    exact⟨n,o0,a,(aX fun z=>q (a.trans (congrArg f z))).trans b,c⟩
 walk_at "z"
theorem pw (R:bc C g H p) (h:wy H L=true) (st:f5 C (ud g H p L) (rM H L) ⟨p.Φ,fun k=>p.μ (o9 L k),p.s⟩ H' p'):
 f5 C g H p (t8 H L H') ⟨p'.Φ,fun k=>if k < eN H then p.μ k else p'.μ (k - eN H),p'.s⟩∧∀v cv,eC C H' p' v cv→eC C (t8 H L H') ⟨p'.Φ,fun k=>if k < eN H then p.μ k else p'.μ (k - eN H),p'.s⟩ (v.ren (ij H L)) cv:=by
 walk_at "a"
 have h1:=aa.mp h
 have inH:∀{i},i < L.length→(H.lookup (o9 L i)).isSome=true:=fun {i} hi=>(aa.mp (aj.mp h1.2 _ (oo hi))).1
 have lo:∀{n},n < L.length→ij H L n=o9 L n:=fun {n} l=>by unfold ij;rw [dJ.mpr l];rfl
 have hi:∀{n}, ¬ n < L.length→ij H L n=eN H+n:=fun {n} l=>by
  unfold ij;rw [show bf n L.length=false from by rw [←jS,dJ];exact l];rfl
 have inj:∀n m,ij H L n=ij H L m→n=m:=fun n m q=>by
  by_cases a:n < L.length <;> by_cases b:m < L.length
  · rw [lo a,lo b] at q;exact mI h1.1 a b q
  · rw [lo a,hi b] at q;have:=nt (inH a);omega
  · rw [hi a,lo b] at q;have:=nt (inH b);omega
  · rw [hi a,hi b] at q;omega
 have muO:∀{n},(if ij H L n < eN H then p.μ (ij H L n) else p'.μ (ij H L n - eN H))=p'.μ n:=fun {n}=>by
  by_cases a:n < L.length
  · rw [lo a,if_pos (nt (inH a))]
    exact(st.mu n (kM (bl _) (by rw [bo];exact a))).1.symm
  · rw [hi a,if_neg (by omega),gq]
 have at_:∀{k o},(t8 H L H').lookup k=some o→(∃n o0,k=ij H L n∧H'.lookup n=some o0∧o=o0.ren (ij H L))∨(fZ k L=false∧H.lookup k=some o):=fun {k o} e=>by
  replace e:(xU (ij H L) H'++B2 H L).lookup k=some o:=e
  rw [fO] at e
  cases q:(xU (ij H L) H').lookup k with
  | some x=>rw [q] at e;cases e;exact .inl (Dv inj q)
  | none=>
   rw [q] at e
   cases z:fZ k L with
   | true=>rw [show(none:Option O).or ((B2 H L).lookup k)=(B2 H L).lookup k from rfl,HB z] at e;cases e
   | false=>exact .inr ⟨rfl,(B3 z).symm.trans e⟩
 have hasO:∀{n},(H'.lookup n).isSome=true→((t8 H L H').lookup (ij H L n)).isSome=true:=fun {n} e=>by
  obtain⟨o,e⟩:=aZ.mp e
  show((xU (ij H L) H'++B2 H L).lookup _).isSome=true
  rw [fO,Au inj e];rfl
 have hasH:∀{n},(H.lookup n).isSome=true→((t8 H L H').lookup n).isSome=true:=fun {n} e=>by
  cases z:fZ n L with
  | true=>
   have m:=jy (mH z)
   have:=hasO (st.mu (m9 n L) (kM (bl _) (by rw [bo];exact m.2))).2
   rw [lo m.2,m.1] at this;exact this
  | false=>
   show((xU (ij H L) H'++B2 H L).lookup _).isSome=true
   rw [fO,jw,B3 z,e,Bool.or_true]
 have held:∀{k o},fZ k L=false→H.lookup k=some o→o.live=true→p'.s.heap.get? (p.μ k)=p.s.heap.get? (p.μ k)∧p'.Φ (p.μ k)=p.Φ (p.μ k)∧∀n o,H'.lookup n=some o→o.live=true→p'.μ n≠p.μ k:=fun {k o} z e l=>
  st.held (rN R h).gsub (by
   rw [show ud g H p L (p.μ k)=p.s.heap.get? (p.μ k) from if_pos ⟨k,o,e,l,z,rfl⟩]
   exact R.alive e l fun ob a _ _ _ _=>by rw [a];exact nofun)
 have f_:∀{n},M0 H L (ij H L n)=n:=fun {n}=>by
  show(if ij H L n < eN H then m9 (ij H L n) L else ij H L n - eN H)=n
  by_cases a:n < L.length
  · rw [lo a,if_pos (nt (inH a))]
    have m:=jy (oo a)
    exact mI h1.1 m.2 a m.1
  · rw [hi a,if_neg (by omega),gq]
 have up:∀{k},(H.lookup k).isSome=true→(if k < eN H then p.μ k else p'.μ (k - eN H))=p.μ k:=fun e=>if_pos (nt e)
 refine⟨⟨st.same,st.ext.le (r9 R),fun n e=>⟨up e,hasH e⟩,⟨st.rel.base,st.rel.sub,fun b o e=>st.rel.gsub _ _ (r9 R _ _ e),R.gP,st.rel.tab,fun k o e=>?_,fun k k' o o' e e' l l' q=>?_,fun k o e j hj=>?_⟩⟩,fun v cv x=>⟨?_,fun k hk=>?_⟩⟩
 · rcases at_ e with⟨n,o0,rfl,e0,rfl⟩ | ⟨z,e0⟩
   · show BU C g _ _ (if _ then _ else _)
     rw [muO]
     cases st.rel.slots n o0 e0 with
     | frz y=>exact .frz y
     | live a b c d=>exact .live a ((b.ren (f:=M0 H L) fun j _=>f_).mono (Le.refl _) fun j hj=>by
      obtain⟨i,_,rfl⟩:=O.ren_ids hj
      exact muO.trans (congrArg p'.μ f_).symm) c ((r9 R).none d)
   · show BU C g _ _ (if _ then _ else _)
     have e1:(H.lookup k).isSome=true:=by rw [e0];rfl
     rw [up e1]
     exact(R.slots k o e0).mono st.ext.1 (fun j hj=>up (R.ids k o e0 j hj)) fun ob a b c l _=>⟨(held z e0 l).1.trans a,(held z e0 l).2.1.trans b,c⟩
 · have q:(if k < eN H then p.μ k else p'.μ (k - eN H))=(if k' < eN H then p.μ k' else p'.μ (k' - eN H)):=q
   rcases at_ e with⟨n,o0,rfl,e0,rfl⟩ | ⟨z,e0⟩
   · rw [muO] at q
     rcases at_ e' with⟨n',o1,rfl,e1,rfl⟩ | ⟨z',e1⟩
     · rw [muO] at q
       exact congrArg _ (st.rel.inj n n' o0 o1 e0 e1 (O.ren_live▸l) (O.ren_live▸l') q)
     · rw [up (by rw [e1];rfl)] at q
       exact absurd q ((held z' e1 l').2.2 n o0 e0 (O.ren_live▸l))
   · rw [up (by rw [e0];rfl)] at q
     rcases at_ e' with⟨n',o1,rfl,e1,rfl⟩ | ⟨z',e1⟩
     · rw [muO] at q
       exact absurd q.symm ((held z e0 l).2.2 n' o1 e1 (O.ren_live▸l'))
     · rw [up (by rw [e1];rfl)] at q
       exact R.inj k k' o o' e0 e1 l l' q
 · rcases at_ e with⟨n,o0,rfl,e0,rfl⟩ | ⟨z,e0⟩
   · obtain⟨i,hi,rfl⟩:=O.ren_ids hj
     exact hasO (st.rel.ids n o0 e0 i hi)
   · exact hasH (R.ids k o e0 j hj)
 · exact(x.1.ren (f:=M0 H L) fun j _=>f_).mono (Le.refl _) fun j hj=>by
    obtain⟨i,_,rfl⟩:=V.ren_ids hj
    exact muO.trans (congrArg p'.μ f_).symm
 · obtain⟨i,hi,rfl⟩:=V.ren_ids hk
   exact hasO (x.2 i hi)
 walk_at "z"
end
structure tL (C:Cx) (f:Addr) (fd:FuncData):Prop where
 np:f≠C.P
 at_:∃o,C.h0.get? f=some o∧o.data= .func fd
 glob:fd.globals=mainGlobals
 blt:fd.builtins=builtinsNs
 clo:fd.closure=[]
 code:∃c oc vs t,fd.code= .ref c∧c≠C.P∧C.h0.get? c=some oc∧oc.data= .fields vs∧vs[1]? =some (.str fd.qualname t)
noncomputable def dZ (C:Cx) (n:Nat) (f:Value) (mk:List Value→Args) (vs:List V) (H:Hp) (Q:V→Hp→Prop):Prop:=
 ∀(A:Around) (g:cj) (p:Pt) (cvs:List Value),lH (n+2) A→bc C g H p→bv (eC C H p) vs cvs→∀P:Value→Shared→Prop,(∀cv p' v H',f5 C g H p H' p'→eC C H' p' v cv→Q v H'→P cv p'.s)→
  codeAny (model C.prog C.w) A (.call f (mk cvs)) (fun r s'=>∃v,r= .ok (.ret v)∧P v s') p.s
noncomputable def f8 (cvs:List Value):Args:=⟨cvs,[]⟩
noncomputable def EE (xs:List Str):List V→Str→Option V:=List.rec (motive:=fun _=>List V→Str→Option V) (fun _ _=>none) (fun x _ ih vs y=>ay (motive:=fun _=>Option V) vs none fun v r=>bif strEq y x then some v else ih r y) xs
where strEq (a b:Str):Bool:=a==b
noncomputable def mD (names:List (Str×NameKind)) (xs:List Str) (vs:List V):aF:=names.map fun p=>EE xs vs p.1
noncomputable def pP (Q:V→Hp→Prop) (f:Fl) (_:aF) (H:Hp):Prop:=Fl.casesOn (motive:=fun _=>Prop) f (Q (.t .none) H) False False fun v=>Q v H
theorem z9 {H:Hp} {m:Nat} (h:H.all (fun e=>bf e.1 100)=true) (e:(H.lookup m).isSome=true):m < 100:=by
 induction H with
 | nil=>cases e
 | cons x r ih=>
  have h:=aa.mp (show(bf x.1 100&&r.all fun e=>bf e.1 100)=true from h)
  by_cases q:m=x.1
  · rw [q];exact dJ.mp h.1
  · exact ih h.2 (by rw [show List.lookup m (x::r)=r.lookup m from aX q] at e;exact e)
section
variable {C:Cx} {n:Nat} {H:Hp}
theorem Ie {R:V→Value→Prop} {xs:List Str}:∀{vs:List V} {cvs:List Value} {x:Str} {v:V},bv R vs cvs→EE xs vs x=some v→∃cv,(xs.zip cvs).lookup x=some cv∧R v cv:=by
 walk_at "a"
 induction xs with
 | nil=>intro vs cvs x v _ h;cases h
 | cons y ys ih=>
  intro vs cvs x v r h
  cases r with
  | nil=>cases h
  | @cons w c vr cr a b=>
   replace h:(bif x==y then some w else EE ys vr x)=some v:=h
   rw [List.zip_cons_cons,aD]
   cases e:x==y with
   | true=>rw [e] at h;cases h;exact⟨_,rfl,a⟩
   | false=>rw [e] at h;exact ih b h
 walk_at "z"
theorem CC {kindOf:Str→Option NameKind} {x:Str}:∀(r:List (Str×Value)) (m cm:Str→Option Value),x∉r.map (·.1)→(if kindOf x=some .local then bindL kindOf r m x else bindC kindOf r cm x)=if kindOf x=some .local then m x else cm x:=by
 intro r
 induction r with
 | nil=>intro m cm _;rfl
 | cons e r ih=>
  intro m cm h
  obtain⟨y,w⟩:=e
  have hn:x≠y:=fun q=>h (q▸ .head _)
  unfold bindL bindC
  rw [ih _ _ fun q=>h (.tail _ q)]
  by_cases z:kindOf y=some .local
  · rw [if_pos z,if_pos z];by_cases z':kindOf x=some .local <;> simp [z',hn]
  · rw [if_neg z,if_neg z];by_cases z':kindOf x=some .local <;> simp [z',hn]
theorem zg {kindOf:Str→Option NameKind} {binds:List (Str×Value)}:∀{m cm:Str→Option Value} {x:Str} {v:Value},(binds.map (·.1)).Nodup→binds.lookup x=some v→
 (if kindOf x=some .local then bindL kindOf binds m x else bindC kindOf binds cm x)=some v:=by
 walk_at "a"
 induction binds with
 | nil=>intro m cm x v _ h;cases h
 | cons e r ih=>
  intro m cm x v nd h
  obtain⟨y,w⟩:=e
  unfold bindL bindC
  have nd':=bX.mp nd
  rw [aD] at h
  cases e:x==y with
  | true=>
   rw [e] at h
   cases h
   have q:=beq_iff_eq.mp e
   subst q
   have no:∀{m cm:Str→Option Value},(if kindOf x=some .local then bindL kindOf r m x else bindC kindOf r cm x)=if kindOf x=some .local then m x else cm x:=fun {m cm}=>CC r m cm nd'.1
   rw [no]
   by_cases z:kindOf x=some .local
   · rw [if_pos z,if_pos z];exact if_pos rfl
   · rw [if_neg z,if_neg z];exact if_pos rfl
  | false=>rw [e] at h;exact ih nd'.2 h
 walk_at "z"
theorem pM {ns:List (Str×NameKind)}:∀{k:Nat} {acc:List (Str×Addr)} {x:Str} {c:Addr},(cellsFrom k ns acc).lookup x=some c→(x,NameKind.cell)∈ns∨∃c',acc.lookup x=some c':=by
 walk_at "a"
 induction ns with
 | nil=>intro k acc x c h;exact .inr ⟨_,h⟩
 | cons e r ih=>
  intro k acc x c h
  obtain⟨y,kd⟩:=e
  unfold cellsFrom at h
  by_cases q:(kd==NameKind.cell)=true
  · rw [if_pos q] at h
    rcases ih h with a | ⟨c',a⟩
    · exact .inl (.tail _ a)
    · rw [aD] at a
      cases e:x==y with
      | true=>rw [beq_iff_eq.mp e,←beq_iff_eq.mp q];exact .inl (.head _)
      | false=>rw [e] at a;exact .inr ⟨c',a⟩
  · rw [if_neg q] at h;exact(ih h).imp (.tail _) id
 walk_at "z"
theorem pL {ns:List (Str×NameKind)}:∀{k:Nat} {acc:List (Str×Addr)} {x:Str} {c:Addr},acc.lookup x=some c→∃c',(cellsFrom k ns acc).lookup x=some c':=by
 induction ns with
 | nil=>intro k acc x c h;exact⟨c,h⟩
 | cons e r ih=>
  intro k acc x c h
  obtain⟨y,kd⟩:=e
  unfold cellsFrom
  by_cases q:(kd==NameKind.cell)=true
  · rw [if_pos q]
    cases e:x==y with
    | true=>exact ih (c:=k) (by rw [aD,e])
    | false=>exact ih (c:=c) (by rw [aD,e];exact h)
  · rw [if_neg q];exact ih h
theorem lJ {ns:List (Str×NameKind)}:∀{k:Nat} {acc:List (Str×Addr)} {x:Str},ns.lookup x=some .cell→∃c,(cellsFrom k ns acc).lookup x=some c:=by
 walk_at "a"
 induction ns with
 | nil=>intro k acc x h;cases h
 | cons e r ih=>
  intro k acc x h
  obtain⟨y,kd⟩:=e
  rw [aD] at h
  unfold cellsFrom
  cases e:x==y with
  | true=>
   rw [e] at h
   cases h
   rw [if_pos (show(NameKind.cell==NameKind.cell)=true from rfl)]
   exact pL (c:=k) (by rw [aD,e])
  | false=>
   rw [e] at h
   by_cases q:(kd==NameKind.cell)=true
   · rw [if_pos q];exact ih h
   · rw [if_neg q];exact ih h
 walk_at "z"
theorem pb (F:eu C) {Φ:cj} {h:Heap} (B:lT C Φ) (sb:Sub Φ h):h.NoLimit:=by
 obtain⟨mc,x,q⟩:=F.nolimit
 exact⟨mc,t7 B sb x F.p3,q⟩
theorem tL.runC {f:Addr} {fd:FuncData} {body:List Stmt} {xs:List Str} {vs vb:List V} {mk:List Value→Args} {Q:V→Hp→Prop} (K:eu C) (X:tL C f fd) (hb:fd.body= .stmts body)
 (hbind:∀(s:Shared) (Φ:cj) (cvs:List Value),lT C Φ→Sub Φ s.heap→cvs.length=vs.length→∃cvs',BindsTo s fd (mk cvs) (xs.zip cvs')∧∀p,p.Φ=Φ→bv (eC C H p) vs cvs→bv (eC C H p) vb cvs')
 (hx:xs.length=vb.length) (hn:xs.Nodup) (hxs:∀x∈xs,fd.scope.names.lookup x=some .local∨fd.scope.names.lookup x=some .cell) (nd:(fd.scope.names.map (·.1)).Nodup) (hfree:fd.scope.names.all (fun p=>p.2 != .free)=true) (hH:H.all (fun e=>bf e.1 100)=true)
 (h:WS C fd.scope n body (mD fd.scope.names xs vb) H (pP Q)) (hco:fd.scope.isCoroutine=false) (hgen:fd.scope.isGenerator=false) (hk:fd.scope.kind= .function)
 (hlam:fd.scope.names.map (·.1)=dU→fd.code= .ref l6∧fd.qualname++".<locals>."=jo):dZ C (n+1) (.ref f) mk vs H Q:=by
 walk_at "a"
 intro A g p cvs hA R hv P k
 obtain⟨o,ho,hd⟩:=X.at_
 obtain⟨c,oc,vs',t,e1,e2,e3,e4,e5⟩:=X.code
 obtain⟨cvs',hbd,hv2⟩:=hbind p.s p.Φ cvs R.base R.sub hv.length.symm
 have hv':=hv2 p rfl hv
 have h0:∀{b o},b≠C.P→C.h0.get? b=some o→p.s.heap.get? b=some o:=fun hb e=>R.sub _ _ (R.base.2 _ _ hb e)
 have hlen:xs.length=cvs'.length:=by rw [hx,hv'.length]
 have hm1:(xs.zip cvs').map (·.1)=xs:=by rw [List.map_fst_zip (ae hlen)]
 refine codeAny_call_function (by have:=hA.2.1;show A.depth < 1000;omega) (h0 X.np ho) hd hco hgen hb ⟨c,oc,vs',t,e1,h0 e2 e3,e4,e5⟩ (hbd _ _ _ _ ?_)
 rw [X.clo]
 refine wpAny_newFunctionEnv_cells hk (fun x hx=>?_) fun env he s1 I=>?_
 · have hx':x.1∈xs:=by rw [←hm1];exact aP.mpr ⟨x,hx,rfl⟩
   rcases hxs _ hx' with q | q
   · exact .inl q
   · obtain⟨c,hc⟩:=lJ (k:=p.s.heap.objs.size+1) (acc:=[]) q
     exact .inr ⟨q,by rw [hc];rfl⟩
 · have hloc:env.locals=p.s.heap.objs.size:=by rw [he];rfl
   have hsc:env.scope=fd.scope:=by rw [he];rfl
   have hce:env.cells=cellsFrom (p.s.heap.objs.size+1) fd.scope.names []:=by rw [he];rfl
   have hE:yU fd.scope env:=by
    refine⟨hsc,by rw [he];exact X.glob,by rw [he];exact X.blt,fun x hx=>?_,fun x c hx hc=>?_,fun hl=>by rw [he];exact hlam hl⟩
    · rcases hx with q | q
      · rw [hce];exact lJ q
      · have:=aj.mp hfree _ (mem_of_lookup q)
        simp at this
    · rw [hce] at hc
      rcases pM hc with q | ⟨c',q⟩
      · have:=m6 nd q
        rw [hx] at this;cases this
      · simp at q
   have keep:=I.toInCall.keep
   have sm:eQ p.s s1:=by obtain⟨h',tk,e⟩:=I.toInCall.same;exact⟨h',tk,e⟩
   have st:=R.more sm keep
   have lt:∀{b o},p.s.heap.get? b=some o→b < p.s.heap.objs.size:=fun e=>d7 e
   have above:∀{x c},env.cells.lookup x=some c→env.locals < c:=fun e=>I.above _ _ (mem_of_lookup e)
   let val:Str→Option Value:=fun x=>if env.kindOf x=some .local then bindL env.kindOf (xs.zip cvs') (fun _=>none) x else bindC env.kindOf (xs.zip cvs') (fun _=>none) x
   let g1:cj:=fun b=>if p.s.heap.objs.size≤b then s1.heap.get? b else g b
   have own:∀{b},p.s.heap.objs.size≤b→g1 b=s1.heap.get? b:=fun q=>if_pos q
   have old:∀{b}, ¬ p.s.heap.objs.size≤b→g1 b=g b:=fun q=>if_neg q
   have le:Le g g1:=fun b o e=>(old (Nat.not_le.mpr (lt (R.gsub _ _ e)))).trans e
   have R1:bc C g1 H ⟨p.Φ,p.μ,s1⟩:=by
    refine st.rel.guard (fun b o e=>?_) ?_ fun n o e l q=>?_
    · by_cases q:p.s.heap.objs.size≤b
      · exact(own q).symm.trans e
      · exact st.rel.gsub _ _ ((old q).symm.trans e)
    · obtain⟨ps,hp,_⟩:=R.tab
      exact(old (Nat.not_le.mpr (lt hp))).trans R.gP
    · exact(old (R.alive e l fun _ z _ _ _ _=>Nat.not_le.mpr (lt z))).trans q
   have nz:∀{S:cj} {b:Addr},Sub S p.s.heap→p.s.heap.objs.size≤b→S b=none:=fun {S b} sb hb=>by
    cases e:S b with
    | none=>rfl
    | some x=>exact absurd (lt (sb _ _ e)) (bU.mpr hb)
   have fge:∀{b},Fa env b→p.s.heap.objs.size≤b:=fun q=>by
    rcases q with q | ⟨x,q⟩
    · rw [q,hloc];exact aB _
    · exact hloc▸ck (above q)
   have fr:FR C fd.scope (n+2) (mD fd.scope.names xs vb) ⟨A.deeper env,env,g,g1,val,true⟩ H ⟨p.Φ,p.μ,s1⟩:=by
    refine⟨hA.deeper,hE,le,nd,hk,nz R.gsub (fge (.inl rfl)),fun b q=>nz R.sub (fge q),?_,fun x c hc=>⟨Nat.ne_of_gt (above hc),fun _=>nz R.gsub (fge (.inr ⟨x,hc⟩)),?_⟩,fun x y c hx hy=>name_of_addr I.apart (mem_of_lookup hx) (mem_of_lookup hy),fun i x kk v e1 e2=>?_⟩
    · obtain⟨o,es,ep,e,y⟩:=I.toInCall.ns
      exact⟨o,_,(own (fge (.inl rfl))).trans e,⟨es,ep,y⟩,fun x hx=>(if_pos (show env.kindOf x=some .local by unfold Env.kindOf;rw [hsc];exact hx)).symm⟩
    · obtain⟨o,e,y⟩:=I.cell x c hc
      have nl:env.kindOf x≠some .local:=fun q=>hE.noLocal x c (by rw [←hsc];exact q) hc
      exact⟨o,(own (fge (.inr ⟨x,hc⟩))).trans e,y.trans (congrArg Data.cell (show _=if _ then _ else _ from(if_neg nl).symm))⟩
    · unfold mD at e2
      rw [ax,e1] at e2
      obtain⟨cv,a,b⟩:=Ie hv' (show EE xs vb x=some v from Option.some.inj e2)
      exact⟨cv,zg (by rw [hm1];exact hn) a,b⟩
   refine⟨(pb K R.base R.sub).keeps keep,codeAny_func (wpAny_mono (E:=oj) (h ⟨A.deeper env,env,g,g1,val,true⟩ ⟨p.Φ,p.μ,s1⟩ rfl fr R1 _ fun fl g' v' p' f ρ' H' s2 fr2 ff q=>?_) (fun _ _ x=>x) fun _ _ x=>x.elim)⟩
   have s3:f5 C g H p H' p':=⟨sm.trans s2.same,s2.ext,fun m hm=>s2.mu m (z9 hH hm) hm,s2.rel.le fr2.le⟩
   cases f with
   | next=>cases (show fl=_ from ff);exact⟨_,rfl,k _ _ _ _ s3 (TR.vri TR.none) q⟩
   | brk=>exact q.elim
   | cont=>exact q.elim
   | ret v=>obtain⟨cv,e,x⟩:=(show∃cv,fl= .ret cv∧eC C H' p' v cv from ff);cases e;exact⟨_,rfl,k _ _ _ _ s3 x q⟩
 walk_at "z"
end
noncomputable def B0 (r:PV) (v:V) (H:Hp):Prop:=PV.casesOn (motive:=fun _=>Prop) r (fun d=>yS v H fun d' _=>d'=d) fun ts=>∃k,v= .ref k∧H.lookup k=some (.list ts)
noncomputable def dE (C:Cx) (n:Nat) (f:Value) (ds:List T) (r:PV):Prop:=dZ C n f f8 (ds.map .t) [] (B0 r)
noncomputable def LQ (Q:V→Hp→Prop) (v:V) (H:Hp):Prop:=cQ [true] [some v] H fun ρ H'=>ay (motive:=fun _=>Prop) ρ False fun v _=>an (motive:=fun _=>Prop) v False fun v=>Q v H'
noncomputable def Hz (H:Hp) (k:Nat) (L:List Nat):List Nat:=Nat.rec (motive:=fun _=>List Nat→List Nat) id (fun _ ih L=>ih ((L.flatMap (jI H)).foldl (fun L n=>bif fZ n L then L else L++[n]) L)) k L
noncomputable def za (H:Hp) (vs:List V):List Nat:=Hz H 5 ((vs.flatMap V.ids).foldl (fun L n=>bif fZ n L then L else L++[n]) [])
structure FnW (C:Cx) (n:Nat) (f:Value) (mk:List Value→Args) (vs:List V) (H:Hp) (Q:V→Hp→Prop):Prop where
 go:dZ C n f mk vs H Q
noncomputable def q6 (C:Cx) (n:Nat) (f:Value) (mk:List Value→Args) (L:List Nat) (vs:List V) (H:Hp) (Q:V→Hp→Prop):Prop:=
 Br (wy H L&&vs.all fun v=>v.ids.all fun m=>fZ m L) (FnW C n f mk (vs.map (V.ren fun n=>m9 n L)) (rM H L) fun v H'=>Q (v.ren (ij H L)) (t8 H L H')) False
section
variable {C:Cx} {sc:Scope} {n:Nat} {ρ:aF} {H:Hp} {p:Pt} {f:Value} {mk:List Value→Args}
theorem CG {m:List Bool} {K:aF→Hp→Prop} (h:cQ m ρ H K):∃L,vq H L=true∧((qy H m ρ).flatMap Ev).all (nR H L)=true∧K ((qy H m ρ).map fun v=>v.map (V.ren (B4 L))) (qS H L):=by
 walk_at "a"
 obtain⟨e,h⟩:=Br.yes (cq h)
 have e:=aa.mp e
 exact⟨_,e.1,e.2,jn (cq h)⟩
 walk_at "z"
theorem dZ.le {m:Nat} {vs:List V} {Q:V→Hp→Prop} (h:dZ C n f mk vs H Q) (l:n≤m):dZ C m f mk vs H Q:=fun A g p cvs hA=>h A g p cvs (hA.le (aQ l 2))
theorem dZ.imp {vs:List V} {Q Q':V→Hp→Prop} (h:dZ C n f mk vs H Q) (l:∀v H',Q v H'→Q' v H'):dZ C n f mk vs H Q':=fun A g p cvs hA R x P k=>h A g p cvs hA R x P fun cv p' v H' st y q=>k cv p' v H' st y (l v H' q)
theorem dZ.canon {vs:List V} {Q:V→Hp→Prop} (hH:H.all (fun e=>bf e.1 100)=true) (h:dZ C n f mk vs H (LQ Q)):dZ C n f mk vs H Q:=by
 walk_at "a"
 exact fun A g p cvs hA R x P k=>h A g p cvs hA R x P fun cv p' v H' st y q=>by
  obtain⟨L,e1,e2,q⟩:=CG q
  have z:=zi e1
  refine k cv ⟨p'.Φ,fun k=>p'.μ (wZ L k),p'.s⟩ _ _ ⟨st.same,st.ext,fun j hj=>?_,st.rel.ren z⟩ ((wn st.rel y).ren fun j hj=>qT e1 (sK (i:=0) e2 rfl hj)) q
  have l:=z9 hH hj
  have m:=st.mu j hj
  refine⟨(congrArg p'.μ (show wZ L j=j by unfold wZ;rw [dJ.mpr l];rfl)).trans m.1,?_⟩
  show((y9 _ _ _++_).lookup j).isSome=true
  rw [fO,jw,pi (m3 m.2 l)];rfl
 walk_at "z"
theorem wp:B2 H []=H:=List.filter_eq_self.mpr fun _ _=>rfl
theorem dE.le {m:Nat} {ds:List T} {r:PV} (h:dE C n f ds r) (l:n≤m):dE C m f ds r:=dZ.le h l
theorem dE.run {g:cj} {A:Around} {ds:List T} {cvs:List Value} {r:PV} {K:V→Hp→Prop} {P:Value→Shared→Prop} (h:dE C n f ds r) (hA:lH (n+2) A) (R:bc C g H p) (x:eD C p.Φ ds cvs) (q:lB r H K) (k:∀cv p' v H',f5 C g H p H' p'→eC C H' p' v cv→K v H'→P cv p'.s):Wp C A (call f cvs []) P p.s:=by
 walk_at "a"
 have R0:=rN (L:=[]) R rfl
 have x0:bv (eC C (rM H []) ⟨p.Φ,fun k=>p.μ (o9 [] k),p.s⟩) (ds.map .t) cvs:=by
  clear q h k
  induction x with
  | nil=>exact .nil
  | cons a _ ih=>exact .cons (TR.vri a) ih
 refine wpAny_call (codeAny_mono (h A _ _ cvs hA R0 x0 _ fun cv p' v H' st y q'=>?_) (by rintro r s' ⟨v,rfl,q⟩;exact q))
 cases r with
 | t d=>
  refine mi st.rel y q' fun d' H2 p2 st2 e t hd=>?_
  subst hd
  have st3:=st.trans st2
  have:=(pw (L:=[]) R rfl (H':=[]) (p':=⟨p2.Φ,fun k=>p2.μ k,p2.s⟩) ⟨st3.same,st3.ext,fun n h=>(nomatch h),st3.rel.ren (H':=[]) (f:=id) (r:=id) ⟨fun k o e=>(nomatch e),fun k k' e=>(nomatch e)⟩⟩).1
  rw [show t8 H [] []=H from wp] at this
  rw [←e]
  exact k cv ⟨p2.Φ,fun i=>if i < eN H then p.μ i else p2.μ (i - eN H),p2.s⟩ _ _ this (TR.vri t) q
 | lst ts=>
  obtain⟨j,rfl,hj⟩:=q'
  have st3:f5 C (ud g H p []) (rM H []) ⟨p.Φ,fun k=>p.μ (o9 [] k),p.s⟩ [(0, .list ts)] ⟨p'.Φ,fun _=>p'.μ j,p'.s⟩:=⟨st.same,st.ext,fun n h=>(nomatch h),st.rel.ren (H':=[(0, .list ts)]) (f:=fun _=>j) (r:=fun _=>0) ⟨fun k o e=>(by
   by_cases z:k=0
   · subst z;cases (show some (O.list ts)=some o from e);exact⟨_,hj,rfl,fun i hi=>nomatch hi⟩
   · rw [aX z] at e;cases e),fun k k' e e' _=>(by
   by_cases z:k=0
   · by_cases z':k'=0
     · rw [z,z']
     · rw [aX z'] at e';cases e'
   · rw [aX z] at e;cases e)⟩⟩
  obtain⟨s4,f4⟩:=pw (L:=[]) R rfl st3
  rw [show t8 H [] [(0, .list ts)]=(eN H, .list ts)::H from congrArg _ wp] at s4 f4
  exact k cv ⟨p'.Φ,fun i=>if i < eN H then p.μ i else p'.μ j,p'.s⟩ _ _ s4 (f4 (.ref 0) cv ⟨y.1,fun i hi=>by rw [af.mp hi];rfl⟩) q
 walk_at "z"
theorem n5 {g:cj} {A:Around} {vs:List V} {cvs:List Value} {L:List Nat} {K:V→Hp→Prop} {P:Value→Shared→Prop} (h:q6 C n f mk L vs H K) (hA:lH (n+2) A) (R:bc C g H p) (x:bv (eC C H p) vs cvs) (k:∀cv p' v H',f5 C g H p H' p'→eC C H' p' v cv→K v H'→P cv p'.s):Wp C A (call f (mk cvs).pos (mk cvs).kw) P p.s:=by
 walk_at "a"
 obtain⟨e0,h2⟩:=Br.yes h
 have e:=aa.mp e0
 clear e0
 have x0:bv (eC C (rM H L) ⟨p.Φ,fun k=>p.μ (o9 L k),p.s⟩) (vs.map (V.ren fun n=>m9 n L)) cvs:=by
  have e2:=aj.mp e.2
  clear h k h2
  clear e
  induction x with
  | nil=>exact .nil
  | cons a _ ih=>exact .cons (Ed a (e2 _ (.head _))) (ih fun v hv=>e2 v (.tail _ hv))
 refine wpAny_call (codeAny_mono (h2.go A _ _ cvs hA (rN R e.1) x0 _ fun cv p' v H' st y q'=>?_) (by rintro r s' ⟨v,rfl,q⟩;exact q))
 obtain⟨s4,f4⟩:=pw R e.1 st
 exact k cv ⟨p'.Φ,fun k=>if k < eN H then p.μ k else p'.μ (k - eN H),p'.s⟩ _ _ s4 (f4 v cv y) q'
 walk_at "z"
theorem tL.keeps {a:Addr} {fd:FuncData} (X:tL C a fd):hU C (.ref a):=by
 walk_at "a"
 exact fun _ Φ h B sb=>⟨.frame, .inl rfl,by
  obtain⟨o,ho,hd⟩:=X.at_
  obtain⟨oc,od,dt,sl⟩:=o
  have hd':dt= .func fd:=hd
  subst hd'
  exact(Looks.ld (part:=none) (sb _ _ (B.2 _ _ X.np ho))).andThen .now⟩
 walk_at "z"
theorem ID (K:eu C) {x:Str} {args:List Expr} {p0 pos:Pos} {a:Addr} {Q:V→Hp→Prop} (hx:sc.names.lookup x=some .globalImplicit) (hv:C.mg x=some (.ref a)) (X:hU C (.ref a)) (hd:(x==("__debug__":Str))=false) (hp:∀e:Env,(starEach args e).any (·.1)=false)
 (h:WL C sc n args ρ H fun vs H1=>nI vs H1 fun ds H2=>∃r,dE C n (.ref a) ds r∧lB r H2 Q):WE C sc n (.Call (.Name x p0) args [] pos) ρ H Q:=
 fun F p fr R P k=>Call_ (l8 K fr R hx hv hd (gB hp X fr R h fun cvs p1 vs H1 st y q=>jO st.rel y q fun ds H2 p2 st2 e y2 q=>by
  obtain⟨r,hf,q⟩:=q
  rw [←e]
  exact hf.run fr.ok st2.rel y2 q fun cv p3 v H3 st3=>k cv p3 v H3 ((st.trans st2).trans st3)))
theorem G0 (K:eu C) {x:Str} {args:List Expr} {p0 pos:Pos} {a:Addr} {Q:V→Hp→Prop} (hx:sc.names.lookup x=some .globalImplicit) (hv:C.mg x=some (.ref a)) (X:hU C (.ref a)) (hd:(x==("__debug__":Str))=false) (hp:∀e:Env,(starEach args e).any (·.1)=false)
 (h:WL C sc n args ρ H fun vs H1=>q6 C n (.ref a) f8 (za H1 vs) vs H1 Q):WE C sc n (.Call (.Name x p0) args [] pos) ρ H Q:=
 fun F p fr R P k=>Call_ (l8 K fr R hx hv hd (gB hp X fr R h fun cvs p1 vs H1 st y q=>n5 q fr.ok st.rel y fun cv p2 v H2 st2=>k cv p2 v H2 (st.trans st2)))
end
inductive Mt where
 | append | extend | pop | insert | remove
noncomputable def Mt.name (m:Mt):Str:=Mt.casesOn (motive:=fun _=>Str) m "append" "extend" "pop" "insert" "remove"
noncomputable def Mt.id (m:Mt):String:=Mt.casesOn (motive:=fun _=>String) m "list.append" "list.extend" "list.pop" "list.insert" "list.remove"
theorem Mt.slot (m:Mt):Slot "list" m.name m.id:=by
 cases m with
 | append=>exact F.slot_list_append
 | extend=>exact F.slot_list_extend
 | pop=>exact F.slot_list_pop
 | insert=>exact F.slot_list_insert
 | remove=>exact F.slot_list_remove
theorem Mt.ty (m:Mt):typeOf (.builtin m.id)=pure (.type "method_descriptor"):=by
 cases m with
 | append=>exact F.type_list_append
 | extend=>exact F.type_list_extend
 | pop=>exact F.type_list_pop
 | insert=>exact F.type_list_insert
 | remove=>exact F.type_list_remove
noncomputable def Fk (C:Cx) (m:Mt) (ts ds:List T) (K:List T→T→Prop):Prop:=
 Mt.casesOn (motive:=fun _=>Prop) m (one ds False fun d=>Br (fit ts.length) (K (ts++[d]) .none) False) (one ds False fun d=>d.llK False fun xs=>Br (fit (ts.length+xs.length)) (K (ts++xs) .none) False)
  (ay (motive:=fun _=>Prop) ds (Br (fit ts.length) (dd ts[ts.length - 1]? fun d=>K ts.dropLast d) False) fun _ _=>False)
  (two ds False fun a d=>a.ik False fun i=>Br (oS i&&dm i.toNat ts.length&&fit ts.length) (K (ts.take i.toNat++d::ts.drop i.toNat) .none) False) (∃ts' r,kn C "list.remove" ts ds ts' r∧K ts' r)
theorem Az {C:Cx} {m:Mt} {ts ds:List T} {K:List T→T→Prop} (h:Fk C m ts ds K):∃ts' r,kn C m.id ts ds ts' r∧K ts' r:=by
 walk_at "a"
 cases m with
 | append=>obtain⟨d,rfl,h⟩:=gI h;exact⟨_,_,y0 (cI (Br.yes h).1),(Br.yes h).2⟩
 | extend=>
  obtain⟨d,rfl,h⟩:=gI h
  cases d with
  | lst xs=>exact⟨_,_,y4 (cI (Br.yes h).1),(Br.yes h).2⟩
  | _=>exact False.elim h
 | pop=>
  cases ds with
  | nil=>exact dd.elim (Br.yes h).2 fun d e q=>⟨_,_,Hu e (cI (Br.yes h).1),q⟩
  | cons _ _=>exact False.elim h
 | insert=>
  obtain⟨a,d,rfl,h⟩:=rT h
  cases a with
  | int i=>
   obtain⟨e,q⟩:=Br.yes h
   have e:=aa.mp e
   have e1:=aa.mp e.1
   have r:=kA e1.1
   have z:=al e1.2
   exact⟨_,_,y5 r.1 (by rw [←Int.toNat_of_nonneg r.1];exact d8.mpr z) (cI e.2),q⟩
  | _=>exact False.elim h
 | remove=>exact h
 walk_at "z"
noncomputable def V.rk (v:V) (z:Prop) (k:Nat→Prop):Prop:=V.casesOn (motive:=fun _=>Prop) v (fun _=>z) k fun _ _=>z
noncomputable def IO (H:Hp) (m:Nat) (k:List T→Prop):Prop:=dd (H.lookup m) fun o=>O.casesOn (motive:=fun _=>Prop) o k (fun _=>False) (fun _=>False) fun _=>False
theorem tW {H:Hp} {m:Nat} {k:List T→Prop} (h:IO H m k):∃ts,H.lookup m=some (.list ts)∧k ts:=by
 walk_at "a"
 obtain⟨o,e,h⟩:=dd.elim h fun x e q=>(⟨x,e,q⟩:∃x,H.lookup m=some x∧_)
 cases o with
 | list ts=>exact⟨ts,e,h⟩
 | _=>exact False.elim h
 walk_at "z"
noncomputable def kB (k:T) (x:Str):Bool:=T.casesOn (motive_1:=fun _=>Bool) k false (fun _=>false) (fun _=>false) (fun s=>s==x) (fun _=>false) (fun _=>false) (fun _=>false) (fun _ _=>false) fun _=>false
noncomputable def rh (k:T):Bool:=T.casesOn (motive_1:=fun _=>Bool) k false (fun _=>false) (fun _=>false) (fun _=>true) (fun _=>false) (fun _=>false) (fun _=>false) (fun _ _=>false) fun _=>false
noncomputable def rc {α:Type} (es:List (T×α)) (x:Str):Option α:=List.rec (motive:=fun _=>Option α) none (fun e _ ih=>bif kB e.1 x then some e.2 else ih) es
noncomputable def po {α:Type} (es:List (T×α)) (x:Str) (v:α):List (T×α):=List.rec (motive:=fun _=>List (T×α)) [(.str x,v)] (fun e r ih=>bif kB e.1 x then(e.1,v)::r else e::ih) es
noncomputable def j5 {α:Type} (es:List (T×α)):Bool:=es.all fun e=>rh e.1
section
variable {C:Cx} {Φ:cj} {α:Type} {R2:α→Value→Prop}
theorem wx {k:T} {v:Value} (h:rh k=true) (r:TR C Φ k v):∃s t,k= .str s∧v= .str s t:=by
 walk_at "a"
 cases k with
 | str s=>obtain⟨t,e⟩:=r;exact⟨s,t,rfl,e⟩
 | _=>cases h
 walk_at "z"
theorem qY {x:Str} {es:List (T×α)} {l:List DictEntry} (r:bv (E2 C (TR C Φ) R2) es l):j5 es=true→(∀w,rc es x=some w→∃v,getL x l=some (some v)∧R2 w v)∧(rc es x=none→getL x l=some none):=by
 walk_at "a"
 induction r with
 | nil=>exact fun _=>⟨fun w h=>(nomatch h),fun _=>rfl⟩
 | @cons a b es l r0 _ ih=>
  intro hs
  have hs:=aa.mp (show(rh a.1&&j5 es)=true from hs)
  have ih:=ih hs.2
  obtain⟨k,d⟩:=a
  obtain⟨eh,ek,ev⟩:=b
  cases r0 with | mk hk hh hd=>
  obtain⟨s,t,e1,e2⟩:=wx hs.1 hk
  cases e1
  cases e2
  have hi:Value.isStr (Value.str s t) x=(s==x):=rfl
  show(∀w,(bif s==x then some d else rc es x)=some w→_)∧((bif s==x then some d else rc es x)=none→_)
  cases q:s==x with
  | true=>
   refine⟨fun w h=>⟨ev,?_,?_⟩,fun h=>(nomatch h)⟩
   · unfold getL;rw [fX];dsimp only;rw [hi,q]
   · cases h;exact hd
  | false=>
   have:getL x (⟨eh, .str s t,ev⟩::l)=getL x l:=by
    have r0:({hash:=eh,key:= .str s t,val:=ev}:DictEntry).refKey=false:=rfl
    unfold getL;rw [fX,hO];dsimp only;rw [hi,q,r0,Bool.false_or]
   rw [this];exact ih
 walk_at "z"
theorem Gw {x:Str} {w:α} {v:Value} {tk:Tok} {es:List (T×α)} {l:List DictEntry} (r:bv (E2 C (TR C Φ) R2) es l) (hv:R2 w v):j5 es=true→bv (E2 C (TR C Φ) R2) (po es x w) (putL x (hashStr C.w x) (.str x tk) v l):=by
 walk_at "a"
 induction r with
 | nil=>exact fun _=> .cons (.mk (.str _ _) rfl hv) .nil
 | @cons a b es l r0 r1 ih=>
  intro hs
  have hs:=aa.mp (show(rh a.1&&j5 es)=true from hs)
  have ih:=ih hs.2
  obtain⟨k,d⟩:=a
  obtain⟨eh,ek,ev⟩:=b
  cases r0 with | mk hk hh hd=>
  obtain⟨s,t,e1,e2⟩:=wx hs.1 hk
  cases e1
  cases e2
  show bv _ (bif s==x then(.str s,w)::es else(.str s,d)::po es x w) (if(s==x)=true then⟨eh, .str s t,v⟩::l else⟨eh, .str s t,ev⟩::putL x (hashStr C.w x) (.str x tk) v l)
  cases q:s==x with
  | true=>exact .cons (.mk hk hh hv) r1
  | false=>exact .cons (.mk hk hh hd) ih
 walk_at "z"
theorem td {x:Str} {h:Int} {k v:Value} {l:List DictEntry}:(putL x h k v l).length≤l.length+1:=by
 induction l with
 | nil=>exact aB _
 | cons e r ih=>
  unfold putL
  by_cases q:e.key.isStr x=true
  · rw [if_pos q];exact d5 _
  · rw [if_neg q];exact aH ih
theorem uj {x:Str}:kB (.str x) x=true:=show(x==x)=true from beq_self_eq_true _
theorem Ba {x:Str} {w:α} {es:List (T×α)} {k:T}:k∈(po es x w).map (·.1)→k= .str x∨k∈es.map (·.1):=by
 induction es with
 | nil=>intro h;exact .inl (af.mp h)
 | cons e r ih=>
  show k∈(bif kB e.1 x then(e.1,w)::r else e::po r x w).map (·.1)→_
  cases kB e.1 x with
  | true=>exact .inr
  | false=>
   intro h
   rcases aS.mp h with q | q
   · exact .inr (aS.mpr (.inl q))
   · exact(ih q).imp id (.tail _)
theorem uO {x:Str} {w:α} {es:List (T×α)} (h:(es.map (·.1)).Nodup):((po es x w).map (·.1)).Nodup:=by
 walk_at "a"
 induction es with
 | nil=>exact bX.mpr ⟨cC,eg⟩
 | cons e r ih=>
  have h':=bX.mp h
  show((bif kB e.1 x then(e.1,w)::r else e::po r x w).map (·.1)).Nodup
  cases q:kB e.1 x with
  | true=>exact h
  | false=>
   refine bX.mpr ⟨fun z=>?_,ih h'.2⟩
   rcases Ba z with y | y
   · rw [show e.1=T.str x from y,uj] at q;cases q
   · exact h'.1 y
 walk_at "z"
end
structure KM (C:Cx) (Cl:Addr) (name:Str):Prop where
 ga:findIn C.K (.ref Cl) "__getattribute__"=some (some (.builtin "object.__getattribute__"))
 dict:hasDictIn C.K Cl=true
 find:∃attr,findIn C.K (.ref Cl) name=some attr∧noGet C.K attr=true
structure FN (C:Cx) (Cl:Addr) (name:Str) (f:Addr):Prop where
 ga:findIn C.K (.ref Cl) "__getattribute__"=some (some (.builtin "object.__getattribute__"))
 gt:findIn C.K (.ref Cl) "__getattr__"=some none
 find:findIn C.K (.ref Cl) name=some (some (.ref f))
 fn:typeIn C.K (.ref f)=some (.type "function")
structure FP (C:Cx) (Cl:Addr) (name:Str):Prop where
 sa:findIn C.K (.ref Cl) "__setattr__"=some (some (.builtin "object.__setattr__"))
 plain:plainOver C.K Cl=true
 taker:takerIn C.K Cl name=some none
 dict:hasDictIn C.K Cl=true
noncomputable def ct (e:Expr):Nat:=e.ctorIdx
noncomputable def jq (e:Expr):Bool:= !(Nat.beq (ct e) 7 || Nat.beq (ct e) 22 || Nat.beq (ct e) 26)
noncomputable def oI (o:Expr):Bool:=Expr.casesOn (motive_1:=fun _=>Bool) o (fun _ _ _=>true) (fun _ _ _=>true) (fun _ _ _ _=>true) (fun _ _ _=>true) (fun _ _ _ _=>true) (fun _ _ _ _=>true) (fun _ _ _=>true) (fun _ _ _=>true) (fun _ _ _ _=>true) (fun _ _ _ _=>true) (fun _ _ _ _ _=>true) (fun _ _ _ _=>true) (fun _ _=>true) (fun _ _=>true) (fun _ _=>true) (fun _ _ _ _=>true)
 (fun f _ _ _=> !(Nat.beq (ct f) 23)) (fun _ _ _ _=>true) (fun _ _=>true) (fun _ _ _=>true) (fun _ _ _=>true) (fun _ _ _=>true) (fun _ _=>true) (fun _ _=>true) (fun _ _=>true) (fun _ _ _=>true) (fun _ _ _ _=>true)
theorem gk {e:Expr} (h:jq e=true) (r:List Expr) (env:Env):starEach (e::r) env=(false,eval e env)::starEach r env:=by
 walk_at "a"
 cases e <;> first | rfl | cases h
 walk_at "z"
theorem rC {e:Expr} (h:jq e=true) (env:Env) (x:Value):foldedSetIterable e env x=pure x:=by
 walk_at "a"
 cases e <;> first | rfl | cases h
 walk_at "z"
theorem JM {e:Expr} (h:jq e=true) (op:CmpOp):behindInMarks op e=false:=by
 walk_at "a"
 cases e <;> first | rfl | cases h
 walk_at "z"
theorem Hv {e:Expr} (h:jq e=true) (o j:Value):∃ops,subscripted e false o j=operate ops (getItem o j):=by
 walk_at "a"
 cases e <;> first | exact⟨_,rfl⟩ | cases h
 walk_at "z"
theorem rA {o:Expr} (h:oI o=true) (a:Str) (env:Env) (w:Sem Value):attributeBase o a env w=w:=by
 walk_at "a"
 cases o with
 | Call f _ _ _=>cases f <;> first | rfl | cases h
 | _=>rfl
 walk_at "z"
theorem DF {e:Expr} (h:(Nat.beq (ct e) 0 || Nat.beq (ct e) 3 || Nat.beq (ct e) 5 || Nat.beq (ct e) 15)=false) (env:Env) (w:Sem Value):isTrue e env w=(do let v ←w;standAt e.pos;holding [v] (truthy v)):=by
 walk_at "a"
 cases e <;> first | rfl | cases h
 walk_at "z"
theorem oy {e:Expr} (h:(Nat.beq (ct e) 8 || Nat.beq (ct e) 9 || Nat.beq (ct e) 10)=false) (t:Expr) (l:Nat) (env:Env):swapsWith e (some t) l env=pure false:=by
 walk_at "a"
 cases e <;> first | rfl | cases h
 walk_at "z"
theorem Ft {t:Expr} (h:(Nat.beq (ct t) 24 || Nat.beq (ct t) 25)=false) (it v:Value):letOwnedTupleGo t it v=pure ():=by
 walk_at "a"
 cases t <;> first | rfl | cases h
 walk_at "z"
theorem kJ {es:List Expr} (h:es.all jq=true) (env:Env):(starEach es env).any (·.1)=false:=by
 induction es with
 | nil=>rfl
 | cons e r ih=>
  have h:=aa.mp (show(jq e&&r.all jq)=true from h)
  rw [gk h.1,hO,ih h.2];rfl
noncomputable def CU {α:Type} (f:α→V) (es:List (T×α)) (x:Str) (K:V→Prop):Prop:=Br (j5 es) (dd (rc es x) fun w=>K (f w)) False
noncomputable def ze (H:Hp) (v:V) (x:Str) (K:Addr→V→Prop):Prop:=
 V.casesOn (motive:=fun _=>Prop) v (fun d=>T.casesOn (motive_1:=fun _=>Prop) d False (fun _=>False) (fun _=>False) (fun _=>False) (fun _=>False) (fun _=>False) (fun _=>False) (fun Cl es=>CU .t es x (K Cl)) fun _=>False) (fun _=>False)
  fun Cl m=>dd (H.lookup m) fun o=>pO o (fun _=>False) (fun es=>CU id es x (K Cl)) (fun d=>d.dctK False fun es=>CU .t es x (K Cl)) fun _=>False
noncomputable def HR (v:V):Bool:=V.casesOn (motive:=fun _=>Bool) v (fun d=>T.casesOn (motive_1:=fun _=>Bool) d true (fun _=>true) (fun _=>true) (fun _=>true) (fun _=>true) (fun _=>true) (fun _=>true) (fun _ _=>true) fun _=>false) (fun _=>true) fun _ _=>true
section
variable {C:Cx} {sc:Scope} {n:Nat} {ρ:aF} {H:Hp} {p:Pt} {g:cj}
theorem tq {w:V} {v:Value} (h:eC C H p w v) (ht:HR w=true):handedIn v=true:=by
 walk_at "a"
 cases w with
 | ref n=>cases (show v= .ref (p.μ n) from h.1);rfl
 | iref Cl n=>obtain⟨⟨a,rfl,_⟩,_⟩:=h;rfl
 | t d=>
  have h:TR C p.Φ d v:=h.1
  cases d with
  | none=>cases (show v= .none from h);rfl
  | bool b=>cases (show v= .bool b from h);rfl
  | int i=>obtain⟨t,rfl⟩:=h;rfl
  | str i=>obtain⟨t,rfl⟩:=h;rfl
  | raw v=>cases ht
  | _=>obtain⟨a,h⟩:=h;first | (obtain⟨_,_,rfl,_⟩:=h;rfl) | (obtain⟨_,_,_,rfl,_⟩:=h;rfl) | (obtain⟨_,_,_,_,rfl,_⟩:=h;rfl)
 walk_at "z"
theorem lW {o:Obj} {arr:Array DictEntry} {k:Nat} (h1:o.ExactDict) (h2:o.data= .dict arr k):o=PySem.W.dictOf arr.toList k:=by
 obtain⟨c,d,dt,sl⟩:=o
 obtain⟨e1,e2,e3⟩:=h1
 dsimp only at e1 e2 e3 h2
 subst e1 e2 e3 h2
 rfl
theorem zU {α:Type} {es:List (T×α)} {x:Str} {w:α} (h:rc es x=some w):∃e∈es,e.2=w:=by
 walk_at "a"
 induction es with
 | nil=>cases h
 | cons e r ih=>
  replace h:(bif kB e.1 x then some e.2 else rc r x)=some w:=h
  cases q:kB e.1 x with
  | true=>rw [q] at h;exact⟨e, .head _,Option.some.inj h⟩
  | false=>rw [q] at h;obtain⟨e',a,b⟩:=ih h;exact⟨e', .tail _ a,b⟩
 walk_at "z"
theorem u9 {α:Type} {f:α→V} {R2:α→Value→Prop} {es:List (T×α)} {x:Str} {K:V→Prop} {ob:Obj} (y:cL C (TR C p.Φ) R2 es ob) (hR:∀w v,R2 w v→(∃e∈es,e.2=w)→eC C H p (f w) v) (h:CU f es x K) {G:Prop} (q:∀l k v w,ob=PySem.W.dictOf l k→getL x l=some (some v)→eC C H p w v→K w→G):G:=by
 cases y with | mk arr k h1 h2 r nd=>
 obtain⟨hs,h⟩:=Br.yes h
 refine dd.elim h fun w e h=>?_
 obtain⟨v,a,b⟩:=(qY r hs).1 w e
 exact q arr.toList k v (f w) (lW h1 h2) a (hR w v b (zU e)) h
theorem qs {Cl:Addr} {es:List (T×T)} {cv:Value} (R:bc C g H p) (x:TR C p.Φ (.inst Cl es) cv) {G:Prop} (q:∀a dx ob,cv= .ref a→p.s.heap.get? a=some (instObj Cl dx)→p.s.heap.get? dx=some ob→cL C (TR C p.Φ) (TR C p.Φ) es ob→G):G:=by
 walk_at "a"
 obtain⟨a,dx,o,arr,k,rfl,h1,h2,h3,h4,h5,h6⟩:=x
 exact q a dx o rfl (R.sub _ _ h1) (R.sub _ _ h2) (.mk arr k h3 h4 (iq h5) h6)
 walk_at "z"
theorem Cz {v:V} {x:Str} {K:Addr→V→Prop} {cv:Value} (R:bc C g H p) (y:eC C H p v cv) (h:ze H v x K) {G:Prop} (q:∀Cl a dx l k v' w,cv= .ref a→p.s.heap.get? a=some (instObj Cl dx)→p.s.heap.get? dx=some (PySem.W.dictOf l k)→getL x l=some (some v')→eC C H p w v'→K Cl w→G):G:=by
 walk_at "a"
 cases v with
 | ref n=>exact False.elim h
 | t d=>
  cases d with
  | inst Cl es=>
   exact qs R (Cl:=Cl) (es:=es) y.1 fun a dx ob e h1 h2 h3=>u9 (f:=V.t) h3 (fun w v b _=>TR.vri b) h fun l k v w eo a1 a2 a3=>q Cl a dx l k v w e h1 (eo▸h2) a1 a2 a3
  | _=>exact False.elim h
 | iref Cl m=>
  obtain⟨⟨a,rfl,ha⟩,_⟩:=y
  refine dd.elim (show dd (H.lookup m) _ from h) fun o e h=>?_
  cases o with
  | list ts=>exact False.elim h
  | tdct ts=>exact False.elim h
  | dict es=>
   refine R.alive e rfl fun ob h2 h3 _ _ _=>?_
   exact u9 (f:=id) (R2:=VR C p.Φ p.μ) h3 (fun w v b hw=>⟨b,fun j hj=>by
    obtain⟨e',m1,m2⟩:=hw
    exact R.ids m _ e j (aG.mpr ⟨e',m1,m2▸hj⟩)⟩) h fun l k v w eo a1 a2 a3=>q Cl a _ l k v w rfl (R.sub _ _ ha) (eo▸h2) a1 a2 a3
  | frz d=>
   cases d with
   | dct es=>
    cases R.slots m _ e with
    | live _ b _ _=>exact False.elim b
    | frz t=>
     obtain⟨b,o,arr,k,e1,_,h2,h3,h4,h5,h6⟩:=t
     cases e1
     exact u9 (f:=V.t) (.mk arr k h3 h4 (iq h5) h6) (fun w v b _=>TR.vri b) h fun l k v w eo a1 a2 a3=>q Cl a _ l k v w rfl (R.sub _ _ ha) (eo▸R.sub _ _ h2) a1 a2 a3
   | _=>exact False.elim h
 walk_at "z"
theorem rf {h:Heap} {a dx Cl:Addr} {o:Obj} (h1:h.get? a=some (instObj Cl dx)) (h2:h.get? dx=some o):PySem.W.InstAt h a (instObj Cl dx) Cl (some o):=⟨h1,rfl,rfl,h2⟩
theorem C5 (K:eu C) {o:Expr} {name:Str} {pos:Pos} {Q:V→Hp→Prop} {fl:Addr→Bool} (hfl:∀Cl,fl Cl=true→KM C Cl name) (hb:oI o=true) (h:WE C sc n o ρ H fun v H1=>ze H1 v name fun Cl w=>Br (fl Cl&&HR w) (Q w H1) False):WE C sc n (.Attribute o name pos) ρ H Q:=by
 walk_at "a"
 intro F p fr R P k
 refine Attribute_any_ (h F p fr R _ fun cv p1 v H1 st x q=>?_) (by rw [arm_eval_Attribute,rA hb])
 refine Cz st.rel x q fun Cl a dx l kk v' w e h1 h2 g1 g2 Xq=>?_
 subst e
 obtain⟨ht,q⟩:=Br.yes Xq
 have ht:=aa.mp ht
 have X:=hfl _ ht.1
 obtain⟨attr,a1,a2⟩:=X.find
 refine get_value (oV K st.rel.base st.rel.sub) (rf h1 h2) X.ga (findObj_own X.dict a1 a2 (by rw [lookIn_dict];exact g1)) (tq g2 ht.2) ?_
 have s2:=st.rel.more (s':={p1.s with toks:=p1.s.toks+1}) ⟨_,_,rfl⟩ fun _ _ e=>e
 exact k v' ⟨p1.Φ,p1.μ,_⟩ w H1 (st.trans s2) (g2.step s2) q
 walk_at "z"
end
noncomputable def Hr {α:Type} (es:List (T×α)) (x:Str) (K:Prop):Prop:=Br (j5 es&&(rc es x).isNone) K False
noncomputable def Jb (H:Hp) (v:V) (x:Str) (K:Addr→Prop):Prop:=
 V.casesOn (motive:=fun _=>Prop) v (fun d=>T.casesOn (motive_1:=fun _=>Prop) d False (fun _=>False) (fun _=>False) (fun _=>False) (fun _=>False) (fun _=>False) (fun _=>False) (fun Cl es=>Hr es x (K Cl)) fun _=>False) (fun _=>False)
  fun Cl m=>dd (H.lookup m) fun o=>pO o (fun _=>False) (fun es=>Hr es x (K Cl)) (fun d=>d.dctK False fun es=>Hr es x (K Cl)) fun _=>False
section
variable {C:Cx} {sc:Scope} {n:Nat} {ρ:aF} {H:Hp} {p:Pt} {g:cj}
theorem AC {α:Type} {R2:α→Value→Prop} {es:List (T×α)} {x:Str} {K:Prop} {ob:Obj} (y:cL C (TR C p.Φ) R2 es ob) (h:Hr es x K) {G:Prop} (q:∀l k,ob=PySem.W.dictOf l k→getL x l=some none→K→G):G:=by
 walk_at "a"
 cases y with | mk arr k h1 h2 r nd=>
 obtain⟨hs,h⟩:=Br.yes h
 have hs:=aa.mp hs
 exact q arr.toList k (lW h1 h2) ((qY r hs.1).2 (fw.mp hs.2)) h
 walk_at "z"
theorem vV {v:V} {x:Str} {K:Addr→Prop} {cv:Value} (R:bc C g H p) (y:eC C H p v cv) (h:Jb H v x K) {G:Prop} (q:∀Cl a dx l k,cv= .ref a→p.s.heap.get? a=some (instObj Cl dx)→p.s.heap.get? dx=some (PySem.W.dictOf l k)→getL x l=some none→K Cl→G):G:=by
 walk_at "a"
 cases v with
 | ref n=>exact False.elim h
 | t d=>
  cases d with
  | inst Cl es=>exact qs R (Cl:=Cl) (es:=es) y.1 fun a dx ob e h1 h2 h3=>AC h3 h fun l k eo a1 a2=>q Cl a dx l k e h1 (eo▸h2) a1 a2
  | _=>exact False.elim h
 | iref Cl m=>
  obtain⟨⟨a,rfl,ha⟩,_⟩:=y
  refine dd.elim (show dd (H.lookup m) _ from h) fun o e h=>?_
  cases o with
  | list ts=>exact False.elim h
  | tdct ts=>exact False.elim h
  | dict es=>exact R.alive e rfl fun ob h2 h3 _ _ _=>AC (R2:=VR C p.Φ p.μ) h3 h fun l k eo a1 a2=>q Cl a _ l k rfl (R.sub _ _ ha) (eo▸h2) a1 a2
  | frz d=>
   cases d with
   | dct es=>
    cases R.slots m _ e with
    | live _ b _ _=>exact False.elim b
    | frz t=>
     obtain⟨b,o,arr,k,e1,_,h2,h3,h4,h5,h6⟩:=t
     cases e1
     exact AC (.mk arr k h3 h4 (iq h5) h6) h fun l k eo a1 a2=>q Cl a _ l k rfl (R.sub _ _ ha) (eo▸R.sub _ _ h2) a1 a2
   | _=>exact False.elim h
 walk_at "z"
end
theorem E6 {prog:Program} {w:World} {A:Around} {E:Value→Shared→Prop} {K:Frag} {s:Shared} {x Cl dx:Addr} {name:Str} {v:Value} {l:List DictEntry} {k:Nat} {Q:Unit→Shared→Prop} (X:K.In s.heap) (h1:s.heap.get? x=some (instObj Cl dx)) (h2:s.heap.get? dx=some (PySem.W.dictOf l k))
 (hs:findIn K (.ref Cl) "__setattr__"=some (some (.builtin "object.__setattr__"))) (hp:plainOver K Cl=true) (ht:takerIn K Cl name=some none) (hh:hasDictIn K Cl=true) (hl:(getL name l).isSome=true) (hz:l.length≤999)
 (h:Q () {s with heap:=s.heap.update dx (Obj.putName name (PyData.keyHash w.params name) (.str name (s.toks+1)) v),toks:=s.toks+2}):wpAny (model prog w) A (setAttr (.ref x) name v) Q E s:=by
 walk_at "a"
 obtain⟨hp0,gg,d,tt,os⟩:=s
 dsimp only at X h1 h2 h
 have I:=rf h1 h2
 refine set_plain X I hs (osa_open (s:=⟨hp0,gg,d,tt+1,os⟩) X I hp ht fun b=>?_)
 obtain⟨cd,hc,hd'⟩:=any_some hh
 refine wpAny_bind (wpAny_pure (wpAny_bind (wpAny_bind (wpAny_loadPart h1 (wpAny_bind ((looks_clsIn X hc).here ?_))))))
 rw [hd']
 refine wpAny_pure (a:=some dx) (wpAny_bind (wpAny_pure (wpAny_bind ?_)))
 unfold nsSet
 refine wpAny_bind (wpAny_bind (wpAny_askSetting (wpAny_pure (wpAny_bind (wpAny_mkText (wpAny_bind (wpAny_loadPart h2 ?_)))))))
 dsimp only
 have c:(!l.toArray.any (·.key.isStr name)&&l.toArray.any (·.refKey))=false:=by
  rw [←Array.any_toList,←Array.any_toList]
  unfold getL at hl
  split at hl
  · rename_i en he
    have:l.any (·.key.isStr name)=true:=jT.mpr ⟨en,jg he,List.find?_some (p:=fun x:DictEntry=>x.key.isStr name) he⟩
    rw [this];rfl
  · split at hl
    · cases hl
    · rename_i z;rw [jS] at z;rw [z,iR]
 rw [aRefKeyMayBeTheName_at,c]
 refine wpAny_updatePart h2 ?_
 have D':=kR (h:=hp0) (Obj.putName name (PyData.keyHash w.params name) (.str name (tt+1)) v) h2 (by rw [putName_dict];rfl)
 rw [putName_dict] at D'
 refine wpAny_bind (wpAny_lookBehind D' (pastItsLine_dict ?_) ?_)
 · have:=td (x:=name) (h:=PyData.keyHash w.params name) (k:= .str name (tt+1)) (v:=v) (l:=l)
   rw [dP,sizeLine_eq];omega
 · exact wpAny_pure h
 walk_at "z"
theorem B9 {H:Hp} {x:Str} {v:V} {es:List (T×V)} (h:∀j∈(O.dict es).ids,(H.lookup j).isSome=true) (hv:∀j∈v.ids,(H.lookup j).isSome=true):∀j∈(O.dict (po es x v)).ids,(H.lookup j).isSome=true:=by
 walk_at "a"
 induction es with
 | nil=>intro j hj;exact hv j (by obtain⟨e,he,q⟩:=aG.mp hj;rw [af.mp he] at q;exact q)
 | cons e r ih=>
  have h1:∀j∈e.2.ids,(H.lookup j).isSome=true:=fun j hj=>h j (aG.mpr ⟨e, .head _,hj⟩)
  have h2:∀j∈(O.dict r).ids,(H.lookup j).isSome=true:=fun j hj=>by obtain⟨e',a,b⟩:=aG.mp hj;exact h j (aG.mpr ⟨e', .tail _ a,b⟩)
  intro j hj
  replace hj:j∈(O.dict (bif kB e.1 x then(e.1,v)::r else e::po r x v)).ids:=hj
  obtain⟨e',a,b⟩:=aG.mp hj
  cases q:kB e.1 x with
  | true=>rw [q] at a;cases a with
   | head=>exact hv j b
   | tail _ a=>exact h2 j (aG.mpr ⟨e',a,b⟩)
  | false=>rw [q] at a;cases a with
   | head=>exact h1 j b
   | tail _ a=>exact ih h2 j (aG.mpr ⟨e',a,b⟩)
 walk_at "z"
noncomputable def Fd (H:Hp) (v:V) (K:Addr→Nat→List (T×V)→Prop):Prop:=V.casesOn (motive:=fun _=>Prop) v (fun _=>False) (fun _=>False) fun Cl m=>dd (H.lookup m) fun o=>O.casesOn (motive:=fun _=>Prop) o (fun _=>False) (K Cl m) (fun _=>False) fun _=>False
section
variable {C:Cx} {sc:Scope} {n:Nat} {ρ:aF} {H:Hp}
theorem tQ (K:eu C) {o:Expr} {name:Str} {ap pos:Pos} {e:Expr} {fl:Addr→Bool} (hfl:∀Cl,fl Cl=true→FP C Cl name) {Q:Fl→aF→Hp→Prop}
 (h:WE C sc n e ρ H fun v H1=>WE C sc n o ρ H1 fun u H2=>Fd H2 u fun Cl m es=>Br (fl Cl&&j5 es&&dm es.length 500) (Q .next ρ (gY H2 m (.dict (po es name v)))) False)
 (hs:∀env,swapsWith e (some (.Attribute o name ap)) pos.line env=pure false):WX C sc n (.Assign [.Attribute o name ap] e pos) ρ H Q:=by
 walk_at "a"
 intro F p oc fr R P k
 refine plainObj_wpAny_Assign_Attribute (h F p fr R _ fun cv p1 v H1 st x q=>?_) (hs F.env)
 refine q F p1 (fr.step st) st.rel _ fun ov p2 u H2 st2 y q=>?_
 cases u with
 | t d=>exact False.elim q
 | ref m=>exact False.elim q
 | iref Cl m=>
 refine dd.elim (show dd (H2.lookup m) _ from q) fun ob e2 q=>?_
 cases ob with
 | list ts=>exact False.elim q
 | frz ts=>exact False.elim q
 | tdct ts=>exact False.elim q
 | dict es=>
 obtain⟨hk,q⟩:=Br.yes q
 have hk:=aa.mp hk
 have X:=hfl _ (aa.mp hk.1).1
 have hk:=And.intro (aa.mp hk.1).2 hk.2
 obtain⟨⟨a,rfl,ha⟩,_⟩:=y
 refine st2.rel.alive e2 rfl fun ob h2 h3 _ _ _=>?_
 cases h3 with | mk arr kk x1 x2 r nd=>
 cases lW x1 x2
 have gl:(getL name arr.toList).isSome=true:=by
  have z:=qY (x:=name) r hk.1
  cases q:rc es name with
  | none=>rw [z.2 q];rfl
  | some w=>obtain⟨v',y,_⟩:=z.1 w q;rw [y];rfl
 refine E6 (oV K st2.rel.base st2.rel.sub) (st2.rel.sub _ _ ha) h2 X.sa X.plain X.taker X.dict gl (by rw [←r.length];have:=al hk.2;omega) ?_
 have D':=kR (h:=p2.s.heap) (Obj.putName name (PyData.keyHash C.w.params name) (.str name (p2.s.toks+1)) cv) h2 (by rw [putName_dict];rfl)
 rw [putName_dict] at D'
 have x3:=x.step st2
 have st3:=st2.rel.turn (o':= .dict (po es name v)) (s':={p2.s with heap:=p2.s.heap.update (p2.μ m) (Obj.putName name (PyData.keyHash C.w.params name) (.str name (p2.s.toks+1)) cv),toks:=p2.s.toks+2}) e2 rfl ⟨_,_,rfl⟩ (fun b hb=>(iK.update ..).2 b hb) D' (.mk _ _ ⟨rfl,rfl,rfl⟩ rfl (Gw r x3.1 hk.1) (uO nd)) fun j hj=>B9 (fun j hj=>st2.rel.ids m _ e2 j hj) x3.2 j hj
 have S:=(st.trans st2).trans st3
 exact k .next _ _ ⟨p2.Φ,p2.μ,_⟩ .next ρ _ (S.s fr.le) (fr.step S) rfl q
 walk_at "z"
end
theorem lH.make {n:Nat} {A:Around} {Cl:Addr} {vals:List Value} {kw:List (Str×Value)} (h:lH (n+1) A):lH n (A.under (.builtin "type.__call__" ⟨.ref Cl::vals,kw⟩)):=by
 walk_at "a"
 have e1:(A.under (.builtin "type.__call__" ⟨.ref Cl::vals,kw⟩)).depth=A.depth+1:=rfl
 have e2:(A.under (.builtin "type.__call__" ⟨.ref Cl::vals,kw⟩)).units=A.units+1:=rfl
 obtain⟨a,b,c⟩:=h
 exact⟨a,by rw [e1];omega,by rw [e2];omega⟩
 walk_at "z"
structure Mk (C:Cx) (Cl fI:Addr):Prop where
 makes:makesIn C.K Cl=true
 init:findIn C.K (.ref Cl) "__init__"=some (some (.ref fI))
 fn:typeIn C.K (.ref fI)=some (.type "function")
noncomputable def JZ (mk:List Value→Args) (xs:List Value):Args:=ay (motive:=fun _=>Args) xs ⟨[],[]⟩ fun x r=>⟨x::(mk r).pos,(mk r).kw⟩
section
variable {C:Cx} {n:Nat} {H:Hp}
theorem dZ.make (K:eu C) {Cl fI:Addr} (X:Mk C Cl fI) (m:Nat) {mk:List Value→Args} {vs:List V} {Q:V→Hp→Prop} (h:dZ C n (.ref fI) (JZ mk) (.iref Cl m::vs) ((m, .dict [])::H) fun v H'=>v= .t .none∧Q (.iref Cl m) H')
 (hm:H.lookup m=none):dZ C (n+1) (.ref Cl) mk vs H Q:=by
 walk_at "a"
 intro A g p cvs hA R hv P k
 have Kn:=oV K R.base R.sub
 obtain⟨Φ,μ,hh,gg,d,t,os⟩:=p
 refine make_core (makes_of Kn X.makes) (looks_findIn Kn X.init) (fun self=>bind_fn Kn self X.fn) (.inl rfl) ?_
 have keep:∀b o,hh.get? b=some o→((hh.push emptyDict).push (instObj Cl hh.objs.size)).get? b=some o:=fun b o e=>am _ (am _ e)
 have hx:((hh.push emptyDict).push (instObj Cl hh.objs.size)).get? (hh.objs.size+1)=some (instObj Cl hh.objs.size):=by
  have:=aC (o:=instObj Cl hh.objs.size) (hh.push emptyDict) rfl
  rwa [Heap.size_push] at this
 have hd:((hh.push emptyDict).push (instObj Cl hh.objs.size)).get? hh.objs.size=some emptyDict:=am _ (aC _ rfl)
 have gt:∀{b:Addr},hh.objs.size≤b→hh.get? b=none:=fun q=>hY q
 have nn:∀{S:cj} {b:Addr},Sub S hh→hh.objs.size≤b→S b=none:=fun sb hb=>eG sb (gt hb)
 have ne:∀{b c:Addr},hh.get? c≠none→hh.objs.size≤b→c≠b:=fun hc hb q=>hc (q▸gt hb)
 have s1:=R.grow (Φ':=Φ.put (hh.objs.size+1) (instObj Cl hh.objs.size)) (s':=⟨(hh.push emptyDict).push (instObj Cl hh.objs.size),gg,d,t,os⟩) ⟨⟨_,_,rfl⟩,keep,iz (nn R.sub (d5 _)),fun b hb=>dX (ne hb (d5 _)),fun b o e=>by
  by_cases q:b=hh.objs.size+1
  · rw [q] at e ⊢;exact hx.trans ((show Φ.put _ _ _=some _ from dj).symm.trans e)
  · exact keep _ _ (R.sub _ _ ((dX q).symm.trans e))⟩
 have s2:=s1.rel.alloc (k:=m) (o:= .dict []) hm hd (.mk #[] 0 ⟨rfl,rfl,rfl⟩ rfl .nil eg) ((dX (bD (aI _))).trans (nn R.sub (aB _))) (nn R.gsub (aB _)) (fun j o e l q=>R.alive e l fun ob z _ _ _ _=>by
  exact absurd (show hh.get? (μ j)=some ob from z) (by rw [show μ j=hh.objs.size from q,gt (aB _)];exact nofun)) (fun j hj=>nomatch hj)
 have st:=s1.trans s2
 have hv2:bv (eC C ((m, .dict [])::H) ⟨Φ.put (hh.objs.size+1) (instObj Cl hh.objs.size),fun j=>if j=m then hh.objs.size else μ j,⟨(hh.push emptyDict).push (instObj Cl hh.objs.size),gg,d,t,os⟩⟩) vs cvs:=hv.imp fun _ _ _ y=>y.step st
 have self:eC C ((m, .dict [])::H) ⟨Φ.put (hh.objs.size+1) (instObj Cl hh.objs.size),fun j=>if j=m then hh.objs.size else μ j,⟨(hh.push emptyDict).push (instObj Cl hh.objs.size),gg,d,t,os⟩⟩ (.iref Cl m) (.ref (hh.objs.size+1)):=
  ⟨⟨_,rfl,by show Φ.put _ _ _=some (instObj Cl (if m=m then _ else _));rw [if_pos rfl];exact dj⟩,fun j hj=>by rw [af.mp hj,be];rfl⟩
 refine codeAny_mono (h (A.under (.builtin "type.__call__" ⟨.ref Cl::(mk cvs).pos,(mk cvs).kw⟩)) g _ (.ref (hh.objs.size+1)::cvs) (lH.make (n:=n+2) hA) s2.rel (.cons self hv2) (fun v s'=>v= .none∧P (.ref (hh.objs.size+1)) s') fun cv p' v H' s3 y q=>?_) fun r s' x=>?_
 · obtain⟨rfl,q⟩:=q
   exact⟨y.1,k _ p' (.iref Cl m) H' (st.trans s3) (self.step s3) q⟩
 · obtain⟨v,rfl,rfl,q⟩:=x
   exact⟨rfl,_,rfl,q⟩
 walk_at "z"
end
noncomputable def zF {β:Type} (f:β→V) (es:List (T×β)) (vs:List V) (H:Hp) (Q:V→Hp→Prop):Prop:=
 ay (motive:=fun _=>Prop) vs False fun a r=>a.tk False fun k=>∃ks,cR ks es=true∧dg ks k=true∧ay (motive:=fun _=>Prop) r (Q (an (motive:=fun _=>V) (eE es k) (.t .none) f) H) fun d r=>ay (motive:=fun _=>Prop) r (Q (an (motive:=fun _=>V) (eE es k) d f) H) fun _ _=>False
noncomputable def JD (x:Str):Option Mt:=List.lookup x [("append",Mt.append),("extend", .extend),("pop", .pop),("insert", .insert),("remove", .remove)]
theorem xX {x:Str} {m:Mt} (h:JD x=some m):x=m.name:=by
 walk_at "a"
 have:∀{l:List (Str×Mt)},l.all (fun e=>e.1==e.2.name)=true→l.lookup x=some m→x=m.name:=fun {l}=>by
  induction l with
  | nil=>exact fun _ h=>nomatch h
  | cons e r ih=>
   intro ha h
   have ha:=aa.mp ha
   rw [aD] at h
   cases q:x==e.1 with
   | true=>rw [q] at h;cases h;exact(beq_iff_eq.mp q).trans (beq_iff_eq.mp ha.1)
   | false=>rw [q] at h;exact ih ha.2 h
 exact this (by decide) h
 walk_at "z"
noncomputable def Fv (H:Hp) (v:V) (name:Str) (kl:Nat→Prop) (kd:Prop) (ki:Addr→Prop):Prop:=
 V.casesOn (motive:=fun _=>Prop) v (fun d=>T.casesOn (motive_1:=fun _=>Prop) d False (fun _=>False) (fun _=>False) (fun _=>False) (fun _=>False) (fun _=>False) (fun _=>kd) (fun Cl es=>Hr es name (ki Cl)) fun _=>False)
  (fun j=>dd (H.lookup j) fun o=>pO o (fun _=>kl j) (fun _=>kd) (fun d=>d.dctK False fun _=>kd) fun _=>kd)
  fun Cl m=>dd (H.lookup m) fun o=>pO o (fun _=>False) (fun es=>Hr es name (ki Cl)) (fun d=>d.dctK False fun es=>Hr es name (ki Cl)) fun _=>False
section
variable {C:Cx} {sc:Scope} {n:Nat} {ρ:aF} {H:Hp} {F:Fm} {p:Pt}
theorem zJ {args:List Expr} {pos:Pos} {env:Env} (h:args.all jq=true) (hl:bf args.length 30=true):methodCallForm (args.length+([]:List Keyword).length) (backTo pos (starEach args env)) (backToKw pos (keywordEach [] env))=true:=by
 walk_at "a"
 have a:=nB (pos:=pos) (env:=env) fun e=>kJ h e
 have:(backTo pos (starEach args env)).all (fun x=> !x.1)=true:=by
  revert a
  generalize backTo pos (starEach args env)=l
  intro a
  induction l with
  | nil=>rfl
  | cons x r ih=>
   rw [hO] at a
   have a:=Bool.or_eq_false_iff.mp a
   rw [hJ,a.1,ih a.2];rfl
 show(_&&_&&decide (args.length+0+0 < 30))=true
 rw [this,decide_eq_true (show args.length+0+0 < 30 from dJ.mp hl)];rfl
 walk_at "z"
theorem kG {f cv:Value} {args:List Expr} {pos:Pos} {Q:List V→Hp→Prop} {P:Value→Shared→Prop} (ho:args.all jq=true) (kp:hU C f) (fr:FR C sc (n+2) ρ F H p) (R:bc C F.g H p) (h:WL C sc n args ρ H Q)
 (k:∀cvs p' vs H',f5 C F.g H p H' p'→bv (eC C H' p') vs cvs→Q vs H'→Wp C F.A (call f (cv::cvs) []) P p'.s):Wp C F.A (callWith pos f [cv] (backTo pos (starEach args F.env)) (backToKw pos (keywordEach [] F.env))) P p.s:=by
 have hplain:=nB (pos:=pos) (env:=F.env) fun e=>kJ ho e
 refine callWith_of (P:=fun h=>∃Φ,lT C Φ∧Sub Φ h) (by rw [hplain];rfl) (fun h' x=>by obtain⟨Φ',B,sb⟩:=x;exact kp _ Φ' h' B sb) ?_
 exact f7 hplain (h F p fr R pos _ fun cvs p2 vs H2 st2 y q=>⟨⟨p2.Φ,st2.rel.base,st2.rel.sub⟩,k cvs p2 vs H2 st2 y q⟩)
theorem DW {g:cj} {v:V} {cv:Value} {name:Str} {kl:Nat→Prop} {kd:Prop} {ki:Addr→Prop} (R:bc C g H p) (x:eC C H p v cv) (h:Fv H v name kl kd ki) {G:Prop} (k1:∀j a items m ts,v= .ref j→cv= .ref a→p.s.heap.get? a=some (listOf items m)→H.lookup j=some (.list ts)→kl j→G)
 (k2:∀a ob,cv= .ref a→p.s.heap.get? a=some ob→ob.ExactDict→kd→G) (k3:∀Cl a dx l kk,cv= .ref a→p.s.heap.get? a=some (instObj Cl dx)→p.s.heap.get? dx=some (PySem.W.dictOf l kk)→getL name l=some none→ki Cl→G):G:=by
 walk_at "a"
 have dt:∀{es},TR C p.Φ (.dct es) cv→kd→G:=fun y h=>by
  cases y.dc R.sub with | @mk a o ne e di=>
  cases di with | mk arr kk e1=>exact k2 a o rfl e e1 h
 cases v with
 | t d=>
  cases d with
  | dct es=>exact dt x.1 h
  | inst Cl es=>exact vV R x (K:=ki) (x:=name) h k3
  | _=>exact False.elim h
 | iref Cl m=>exact vV R x (K:=ki) (x:=name) h k3
 | ref j=>
  cases (show cv= .ref (p.μ j) from x.1)
  refine dd.elim (show dd (H.lookup j) _ from h) fun o e h=>?_
  cases o with
  | list ts=>exact R.alive e rfl fun ob o1 o2 _ _ _=>by cases o2 with | mk items m o2=>exact k1 j _ items m ts rfl rfl o1 e h
  | dict es=>exact R.alive e rfl fun ob o1 o2 _ _ _=>by cases (show cL C (TR C p.Φ) (VR C p.Φ p.μ) es ob from o2) with | mk arr kk e1=>exact k2 _ ob rfl o1 e1 h
  | tdct es=>exact R.alive e rfl fun ob o1 o2 _ _ _=>by cases (show cL C (TR C p.Φ) (TR C p.Φ) es ob from o2) with | mk arr kk e1=>exact k2 _ ob rfl o1 e1 h
  | frz d=>
   cases d with
   | dct es=>
    cases R.slots j _ e with
    | frz y=>exact dt y h
    | live _ b=>exact b.elim
   | _=>exact False.elim h
 walk_at "z"
noncomputable def mK (C:Cx) (n:Nat) (mt:Addr→Str→Option (Addr×Bool)) (sc:Scope) (name:Str) (lst:Hp→(List V→Hp→Prop)→Prop) (v:V) (H:Hp) (Q:V→Hp→Prop):Prop:=
 Fv H v name (fun j=>dd (JD name) fun m=>lst H fun vs H2=>nI vs H2 fun ds H3=>IO H3 j fun ts=>Fk C m ts ds fun ts' r=>Q (.t r) (gY H3 j (.list ts')))
  (Br (name==("get":Str)) (lst H fun vs H2=>E1 H2 v (fun d=>d.dctK False fun es=>zF .t es vs H2 Q) fun es=>zF id es vs H2 Q) False)
  fun Cl=>dd (mt Cl name) fun f=>lst H fun vs H2=>iJ (motive:=fun _=>Prop) f.2 (nI (v::vs) H2 fun ds H3=>∃r,dE C n (.ref f.1) ds r∧lB r H3 Q) (q6 C n (.ref f.1) f8 (za H2 (v::vs)) (v::vs) H2 Q)
theorem sB {β:Type} {f:β→V} {R2:β→Value→Prop} {es:List (T×β)} {cv:Value} {cvs:List Value} {vs:List V} {Q:V→Hp→Prop} {P:Value→Shared→Prop} (fr:FR C sc (n+2) ρ F H p) (R:bc C F.g H p) (x:vi C p.Φ R2 p.s.heap es cv) (y:bv (eC C H p) vs cvs) (hf:∀w v,R2 w v→(∃e∈es,e.2=w)→eC C H p (f w) v)
 (h:zF f es vs H Q) (k:∀cv p' v H',f5 C F.g H p H' p'→eC C H' p' v cv→Q v H'→P cv p'.s):Wp C F.A (call (.builtin "dict.get") (cv::cvs) []) P p.s:=by
 walk_at "a"
 cases y with
 | nil=>exact False.elim h
 | @cons a ca r cr ya yr=>
 cases a with
 | ref _=>exact False.elim h
 | iref _ _=>exact False.elim h
 | t dk=>
 obtain⟨ks,h1,h2,h⟩:=h
 have fin:∀(d:V) cd cv tk,eC C H p d cd→uG R2 (eE es dk) cd cv→eC C H ⟨p.Φ,p.μ,{p.s with toks:=tk}⟩ (an (motive:=fun _=>V) (eE es dk) d f) cv:=fun d cd cv tk yd o=>by
  cases e:eE es dk with
  | none=>rw [e] at o;cases (show cv=cd from o);exact yd
  | some w=>rw [e] at o;obtain⟨z,e1,e2⟩:=aE.mp e;exact hf w cv o ⟨z,jg e1,e2⟩
 cases yr with
 | nil=>exact CO (E:=oj) x R.sub fr.ok h1 h2 ya.1 fun v tk o=>k v ⟨p.Φ,p.μ,_⟩ _ H (R.tok tk) (fin (.t .none) .none v tk (TR.vri .none) o) h
 | @cons d cd r cr yd yr=>
 cases yr with
 | cons _ _=>exact False.elim h
 | nil=>exact zw (E:=oj) x R.sub fr.ok h1 h2 ya.1 fun v tk o=>k v ⟨p.Φ,p.μ,_⟩ _ H (R.tok tk) (fin d cd v tk yd o) h
 walk_at "z"
theorem KR (K:eu C) {mt:Addr→Str→Option (Addr×Bool)} (hmt:∀Cl name f,mt Cl name=some f→FN C Cl name f.1∧hU C (.ref f.1)) {o:Expr} {name:Str} {ap pos:Pos} {args:List Expr} {Q:V→Hp→Prop} {lst:Hp→(List V→Hp→Prop)→Prop} (hls:∀{H2 K},lst H2 K→WL C sc n args ρ H2 K) (hb:oI o=true) (ho:args.all jq=true) (hl:bf args.length 30=true) (hline:(ap.endLine==pos.line)=true)
 (h:WE C sc n o ρ H fun v H1=>mK C n mt sc name lst v H1 Q):WE C sc n (.Call (.Attribute o name ap) args [] pos) ρ H Q:=by
 walk_at "a"
 intro X p fr R P k
 rw [arm_eval_Call,rA hb]
 refine wpAny_bind (h X p fr R _ fun cv p1 v H1 st x qq=>wpAny_bind (wpAny_standAt ?_))
 have hpos:methodCallPos true o X.env ap pos=pure pos:=by unfold methodCallPos;simp [hline]
 unfold methodCall
 rw [zJ ho hl]
 refine wpAny_bind (wpAny_holding ?_)
 unfold mK at qq
 refine DW st.rel x qq (fun j a items m ts0 ev e o1 e2 q0=>?_) (fun a ob e o1 o2 q=>?_) fun Cl a dx l kk e h1 h2 g1 q=>?_
 · subst e ev
   clear qq
   refine dd.elim q0 fun m em q=>?_
   cases xX em
   refine getMethod_builtin (cA o1).typeIs F.plainAttrs_list m.slot m.ty (fun a' ha=>by injection ha with ha;subst ha;exact⟨_,o1,rfl⟩) (wpAny_bind (wpAny_of_eq hpos ?_))
   refine kG ho gj (fr.step st) st.rel (hls q) fun cvs p2 vs H2 st2 y q=>jO st2.rel y q fun ds H3 p3 st3 e3 hr q=>?_
   obtain⟨ts,q1,q⟩:=tW q
   obtain⟨ts',r,ok,hq⟩:=Az q
   have em:p3.μ j=p1.μ j:=((st2.trans st3).mu j (by rw [e2];rfl)).1
   refine st3.rel.alive q1 rfl fun ob o3 o4 _ _ _=>?_
   cases o4 with | mk items n' o4=>
   cases (show Value.ref a=Value.ref (p1.μ j) from x.1)
   rw [←e3,←em]
   refine ok.go X.A p3.Φ p3.s (p3.μ j) items n' cvs P (fr.ok.le (cM 2 n)) st3.rel.amb o3 o4 hr fun cv s3 items' n3 sm sb k1 k2 k3=>?_
   exact k cv ⟨p3.Φ,p3.μ,s3⟩ _ _ (((st.trans st2).trans st3).trans (st3.rel.turn (o':= .list ts') (s':=s3) q1 rfl sm sb k1 (.mk items' n3 k2) fun _ h=>nomatch h)) (TR.vri k3) hq
 · subst e
   clear qq
   obtain⟨q0,q⟩:=Br.yes q
   cases beq_iff_eq.mp q0
   refine getMethod_builtin (T:="dict") ⟨ob,o1,o2.1⟩ F.plainAttrs_dict F.slot_dict_get F.type_dict_get (fun a' ha=>by injection ha with ha;subst ha;exact⟨_,o1,o2.2.1⟩) (wpAny_bind (wpAny_of_eq hpos ?_))
   refine kG ho gj (fr.step st) st.rel (hls q) fun cvs p2 vs H2 st2 y q=>?_
   have fr2:=(fr.step st).step st2
   refine rG st2.rel (x.step st2) q (fun d x q=>?_) fun m es ev em x q=>?_
   · cases d with
     | dct es=>exact sB fr2 st2.rel x.d y (fun w v r _=>TR.vri r) q fun cv p3 v H3 st3=>k cv p3 v H3 ((st.trans st2).trans st3)
     | _=>exact False.elim q
   · exact sB fr2 st2.rel x y (fun w v r e=>⟨r,fun j hj=>st2.rel.ids m _ em j (by obtain⟨e,e1,e2⟩:=e;exact aG.mpr ⟨e,e1,e2▸hj⟩)⟩) q fun cv p3 v H3 st3=>k cv p3 v H3 ((st.trans st2).trans st3)
 · subst e
   clear qq
   refine dd.elim q fun f ef q=>?_
   obtain⟨me,kp⟩:=hmt _ _ _ ef
   refine PySem.W.method_fn (oV K st.rel.base st.rel.sub) (rf h1 h2) me.ga me.gt me.find me.fn (by show(lookIn name (PySem.W.dictOf l kk)).map _=_;rw [lookIn_dict,g1];rfl) (wpAny_bind (wpAny_of_eq hpos ?_))
   refine kG ho kp (fr.step st) st.rel (hls q) fun cvs p2 vs H2 st2 y q=>?_
   have y2:bv (eC C H2 p2) (v::vs) (.ref a::cvs):= .cons (x.step st2) y
   obtain⟨f1,f2⟩:=f
   cases f2 with
   | true=>exact n5 q fr.ok st2.rel y2 fun cv p3 v H3 st3=>k cv p3 v H3 ((st.trans st2).trans st3)
   | false=>
    refine jO st2.rel y2 q fun ds H3 p3 st3 e y3 q=>?_
    obtain⟨r,hf,q⟩:=q
    rw [←e]
    exact hf.run fr.ok st3.rel y3 q fun cv p4 v H4 st4=>k cv p4 v H4 (((st.trans st2).trans st3).trans st4)
 walk_at "z"
end
section
variable {C:Cx} {n:Nat} {sc:Scope} {ρ:aF} {H:Hp}
theorem WE.mono {e:Expr} {Q Q':V→Hp→Prop} (h:WE C sc n e ρ H Q) (m:∀v H',Q v H'→Q' v H'):WE C sc n e ρ H Q':=fun F p fr R P k=>h F p fr R P fun cv p' v H' st x q=>k cv p' v H' st x (m v H' q)
theorem WB.mono {e:Expr} {Q Q':Bool→Hp→Prop} (h:WB C sc n e ρ H Q) (m:∀v H',Q v H'→Q' v H'):WB C sc n e ρ H Q':=fun F p fr R P k=>h F p fr R P fun b p' H' st q=>k b p' H' st (m b H' q)
theorem WX.mono {st:Stmt} {Q Q':Fl→aF→Hp→Prop} (h:WX C sc n st ρ H Q) (m:∀f ρ' H',Q f ρ' H'→Q' f ρ' H'):WX C sc n st ρ H Q':=fun F p oc fr R P k=>h F p oc fr R P fun fl g v p' f ρ' H' st fr' ff q=>k fl g v p' f ρ' H' st fr' ff (m f ρ' H' q)
theorem Br.imp {b:Bool} {P Q P' Q':Prop} (h:Br b P Q) (k1:P→P') (k2:Q→Q'):Br b P' Q':=by
 cases b with
 | true=>exact k1 h
 | false=>exact k2 h
theorem qJ {v:V} {K K':Bool→Prop} (h:cK v K) (m:∀b,K b→K' b):cK v K':=by
 cases v with
 | t d=>cases d with
  | bool b=>exact m b h
  | _=>exact h
 | _=>exact h
theorem ko {a b c:Bool} (h:(a&&b&&c)=true):a=true∧b=true∧c=true:=by have x:=aa.mp h;have y:=aa.mp x.1;exact⟨y.1,y.2,x.2⟩
theorem mO {v:V} {K:Int→Prop} (h:js v K):∃i,v= .t (.int i)∧K i:=by
 walk_at "a"
 cases v with
 | t d=>cases d with
  | int i=>exact⟨i,rfl,h⟩
  | _=>exact False.elim h
 | _=>exact False.elim h
 walk_at "z"
theorem BQ {e:Option Expr} {Q Q':Option Int→Hp→Prop} (h:WP C sc n e ρ H Q) (m:∀i H',Q i H'→Q' i H'):WP C sc n e ρ H Q':=by
 walk_at "a"
 cases e with
 | none=>exact m _ _ h
 | some e=>
  refine WE.mono (show WE C sc n e ρ H _ from h) fun v H1 h=>?_
  obtain⟨i,q,h⟩:=mO h
  rw [q]
  exact m _ _ h
 walk_at "z"
theorem A4 {t:Expr} (h:Nat.beq (ct t) 25=true):∃es k pos,t= .Tuple es k pos:=by
 walk_at "a"
 cases t <;> first | exact⟨_,_,_,rfl⟩ | cases h
 walk_at "z"
theorem kI {b:Bool} (h:(!b)=true):b=false:=by cases b with
 | false=>rfl
 | true=>cases h
theorem yq {e:Expr} (h:(Nat.beq (ct e) 8 || Nat.beq (ct e) 9 || Nat.beq (ct e) 10)=false) (l:Nat) (env:Env):swapsWith e none l env=pure false:=by
 walk_at "a"
 cases e <;> first | rfl | cases h
 walk_at "z"
theorem WS.mono {b:List Stmt} {Q Q':Fl→aF→Hp→Prop} (h:WS C sc n b ρ H Q) (m:∀f ρ' H',Q f ρ' H'→Q' f ρ' H'):WS C sc n b ρ H Q':=fun F p oc fr R P k=>h F p oc fr R P fun fl g v p' f ρ' H' st fr' ff q=>k fl g v p' f ρ' H' st fr' ff (m f ρ' H' q)
theorem xy {H:Hp}:∀{K:Hp→Prop},K H→fA H K:=by
 induction H with
 | nil=>exact fun h=>h
 | cons e r ih=>
  intro K h
  obtain⟨n,o⟩:=e
  refine n8 (K:=fun n=>pO o (fun ts=>fA r fun r=>K ((n, .list ts)::r)) (fun es=>fA r fun r=>K ((n, .dict es)::r)) (fun d=>fA r fun r=>K ((n, .frz d)::r)) fun es=>fA r fun r=>K ((n, .tdct es)::r)) ?_
  cases o with
  | list ts=>exact ih (K:=fun r=>K ((n, .list ts)::r)) h
  | dict es=>exact ih (K:=fun r=>K ((n, .dict es)::r)) h
  | frz d=>exact ih (K:=fun r=>K ((n, .frz d)::r)) h
  | tdct d=>exact ih (K:=fun r=>K ((n, .tdct d)::r)) h
theorem zj {L:List Nat} {K K':aF→Hp→Prop} (k:∀ρ H,K ρ H→K' ρ H):∀ρ,qU L ρ H K→qU L ρ H K':=
 fun ρ h=>Br.imp (show Br _ _ False from h) (fun x=>kZ (K:=fun ρ'=>fA (qS H L) fun H'=>K' ρ' H') (xy (K:=K' _) (k _ _ (jn (K:=K _) (cq (K:=fun ρ'=>fA (qS H L) fun H'=>K ρ' H') x))))) fun x=>x
theorem ub {ρ:aF} {K K':aF→Prop} (h:fE ρ K) (k:∀r,K r→K' r):fE ρ K':=kZ (k _ (cq h))
theorem x8 {m:List Bool} {K:aF→Hp→Prop} (h:cQ m ρ H K):fE (qy H m ρ) fun ρ1=>qU (HY ρ1 H) ρ1 H K:=h
theorem fL {m:List Bool} {K K':aF→Hp→Prop} (h:cQ m ρ H K) (k:∀ρ H,K ρ H→K' ρ H):cQ m ρ H K':=ub (x8 h) fun r=>zj k r
theorem Bv {Q:Fl→aF→Hp→Prop} {I I':aF→Hp→Prop} {f:Fl} (h:o5 Q I f ρ H) (k:I ρ H→I' ρ H):o5 Q I' f ρ H:=by
 cases f with
 | next=>exact k h
 | brk=>exact h
 | cont=>exact k h
 | ret v=>exact h
theorem WL.mono {es:List Expr} {Q Q':List V→Hp→Prop} (h:WL C sc n es ρ H Q) (m:∀v H',Q v H'→Q' v H'):WL C sc n es ρ H Q':=fun F p fr R pos P k=>h F p fr R pos P fun cv p' v H' st x q=>k cv p' v H' st x (m v H' q)
end
noncomputable def WK (C:Cx) (sc:Scope) (n:Nat) (kws:List Keyword) (ρ:aF) (H:Hp) (Q:List V→Hp→Prop):Prop:=∀F p,FR C sc (n+2) ρ F H p→bc C F.g H p→∀(pos:Pos) (P:List Value→Shared→Prop),(∀cvs p' vs H',f5 C F.g H p H' p'→bv (eC C H' p') vs cvs→Q vs H'→P cvs p'.s)→Wp C F.A (evalAll ((backToKw pos (keywordEach kws F.env)).map (·.2))) P p.s
noncomputable def Lj (k:Keyword):Option Str:=k.arg
noncomputable def xG (kws:List Keyword):Option (List Str):=List.rec (motive:=fun _=>Option (List Str)) (some []) (fun k _ ih=>k.arg.bind fun x=>ih.map (x:: ·)) kws
noncomputable def Li (xs:List Str) (cvs:List Value):Args:=⟨[],xs.zip cvs⟩
theorem Df {kws:List Keyword} {env:Env} {pos:Pos}:∀{xs:List Str},xG kws=some xs→(backToKw pos (keywordEach kws env)).filterMap (·.1)=xs∧(backToKw pos (keywordEach kws env)).all (·.1.isSome)=true∧(backToKw pos (keywordEach kws env)).any (·.1.isNone)=false:=by
 walk_at "a"
 induction kws with
 | nil=>intro xs h;cases h;exact⟨rfl,rfl,rfl⟩
 | cons k r ih=>
  intro xs h
  obtain⟨x,h1,h2⟩:=bg.mp (show(k.arg.bind fun x=>(xG r).map (x:: ·))=some xs from h)
  obtain⟨ys,h3,rfl⟩:=aE.mp h2
  obtain⟨a,b,c⟩:=ih h3
  obtain⟨nm,e,p⟩:=k
  have h1:nm=some x:=h1
  subst h1
  have e1:backToKw pos (keywordEach (⟨some x,e,p⟩::r) env)=(some x,do let v ←eval e env;standAt pos;pure v)::backToKw pos (keywordEach r env):=rfl
  rw [e1]
  exact⟨by rw [cE];exact congrArg (x:: ·) a,by rw [hJ,b];rfl,by rw [hO,c];rfl⟩
 walk_at "z"
section
variable {C:Cx} {sc:Scope} {n:Nat} {ρ:aF} {H:Hp}
theorem Gc {Q:List V→Hp→Prop} (h:Q [] H):WK C sc n [] ρ H Q:=fun F p fr R pos P k=>kwAll_nil (k _ p _ H (.refl R) .nil h)
theorem Cj {k:Keyword} {r:List Keyword} {Q:List V→Hp→Prop} (hk:k.arg.isSome=true) (h:WE C sc n k.value ρ H fun v H1=>WK C sc n r ρ H1 fun vs H2=>Q (v::vs) H2):WK C sc n (k::r) ρ H Q:=by
 walk_at "a"
 obtain⟨nm,e,p0⟩:=k
 cases nm with
 | none=>cases hk
 | some x=>exact fun F p fr R pos P k=>kwAll_cons (h F p fr R _ fun cv p1 v H1 st1 x1 h1=>h1 F p1 (fr.step st1) st1.rel pos _ fun cvs p2 vs H2 st2 xs q=>k _ p2 _ H2 (st1.trans st2) (.cons (x1.step st2) xs) q)
 walk_at "z"
theorem FZ (K:eu C) {x:Str} {kws:List Keyword} {xs:List Str} {p0 pos:Pos} {a:Addr} {Q:V→Hp→Prop} (hx:sc.names.lookup x=some .globalImplicit) (hv:C.mg x=some (.ref a)) (kp:hU C (.ref a)) (hd:(x==("__debug__":Str))=false) (hn:xG kws=some xs)
 (h:WK C sc n kws ρ H fun vs H1=>q6 C n (.ref a) (Li xs) (za H1 vs) vs H1 Q):WE C sc n (.Call (.Name x p0) [] kws pos) ρ H Q:=
 fun F p fr R P k=>by
  show Wp C F.A (do callWith pos (←eval (.Name x p0) F.env) [] (backTo pos (starEach [] F.env)) (backToKw pos (keywordEach kws F.env))) P p.s
  refine wpAny_bind (l8 K fr R hx hv hd ?_)
  obtain⟨n1,n2,n3⟩:=Df (env:=F.env) (pos:=pos) hn
  refine callWith_of (P:=fun h=>∃Φ,lT C Φ∧Sub Φ h) (by rw [n3];rfl) (fun h' x=>by obtain⟨Φ',B,sb⟩:=x;exact kp _ Φ' h' B sb) (evalArgs_kw2_nil n2 ?_)
  rw [n1]
  exact h F p fr R pos _ fun cvs p1 vs H1 st y q=>⟨⟨p1.Φ,st.rel.base,st.rel.sub⟩,n5 q fr.ok st.rel y fun cv p2 v H2 st2=>k cv p2 v H2 (st.trans st2)⟩
theorem C9 (K:eu C) {e:Expr} {p0 p1 p2 pos:Pos} {Q:V→Hp→Prop} (hx:sc.names.lookup ("range":Str)=some .globalImplicit) (hx0:sc.names.lookup ("list":Str)=some .globalImplicit) (hg:C.mg ("range":Str)=none) (hg0:C.mg ("list":Str)=none) (ho:jq e=true)
 (h:WE C sc n e ρ H fun v H1=>js v fun b=>Br (decide (0≤b)&&decide (b≤1000)) (Q (.ref (eN H1)) ((eN H1, .list (eO 0 b.toNat))::H1)) False):WE C sc n (.Call (.Name "list" p0) [.Call (.Name "range" p1) [e] [] p2] [] pos) ρ H Q:=by
 walk_at "a"
 have st1:∀env:Env,starEach [e] env=[(false,eval e env)]:=fun env=>gk ho [] env
 have st0:∀env:Env,starEach [.Call (.Name "range" p1) [e] [] p2] env=[(false,eval (.Call (.Name "range" p1) [e] [] p2) env)]:=fun env=>rfl
 intro F p fr R P k
 refine Call_ (fK K fr R hx0 hg0 (v:= .type "list") rfl (by decide) (by decide) ?_)
 refine callWith_of (P:=fun h=>True) (by rw [st0];rfl) (fun h' _=>⟨.machine, .inr (.inl rfl), .now⟩) ?_
 refine f7 (by rw [st0];rfl) (wpAny_items_cons (rest:=[]) ?_ (st0 F.env))
 refine Call_ (fK K fr R hx hg (v:= .type "range") rfl (by decide) (by decide) ?_)
 refine callWith_of (P:=fun h=>True) (by rw [st1];rfl) (fun h' _=>⟨.machine, .inr (.inl rfl), .now⟩) ?_
 refine f7 (by rw [st1];rfl) (wpAny_items_cons (rest:=[]) (h F p fr R _ fun cv p1 v H1 st x q=>wpAny_items_nil ⟨trivial,?_⟩) (st1 F.env))
 obtain⟨b,e1,q⟩:=mO q
 subst e1
 obtain⟨qb,q⟩:=Br.yes q
 have qb:=aa.mp qb
 have b0:0≤b:=of_decide_eq_true qb.1
 have b1:b≤1000:=of_decide_eq_true qb.2
 obtain⟨tb,rfl⟩:=(show TR C p1.Φ (.int b) cv from x.1)
 refine call_range_1 ?_
 have s3:=st.rel.more (s':={p1.s with heap:=p1.s.heap.push {cls:= .type "range",data:= .fields #[.int 0 p1.s.toks, .int b tb, .int 1 (p1.s.toks+1)]},toks:=p1.s.toks+1+1}) ⟨_,_,rfl⟩ (fun b o e=>am _ e)
 refine wpAny_items_nil ⟨trivial,?_⟩
 have hr:=IsRange.new p1.s.heap 0 b 1 p1.s.toks tb (p1.s.toks+1)
 refine cD.up (A:=F.A) (r:= .lst (eO 0 b.toNat)) s3.rel ?_ q fun cv p' v H' s4=>k cv p' v H' ((st.trans s3).trans s4)
 refine cD.ofL s3.rel.sub fun Q' hq'=>call_list_range fr.ok.1 hr ?_ (n:=b.toNat) ?_ (by omega) fun h' tk acc' c' hk e ia=>hq' _ c' acc' ?_ ⟨h',tk,rfl⟩ hk e
 · exact small_one (by decide) (by decide) (eH (by decide) b0) (Int.lt_of_le_of_lt b1 (by decide))
 · unfold Builtin.Range.rangeSize;rw [if_pos (by decide)];by_cases q:(0:Int) < b
   · rw [if_pos q];omega
   · rw [if_neg q];omega
 · unfold eO
   have:∀(l:List Nat) (vs:List Value),l.length=vs.length→(∀(i k:Nat) (v:Value),l[i]? =some k→vs[i]? =some v→∃t,v=Value.int (0+(k:Int)) t)→eD C p1.Φ (l.map fun(i:Nat)=>T.int (0+(i:Int))) vs:=fun l=>by
    induction l with
    | nil=>intro vs e _;cases vs with
     | nil=>exact .nil
     | cons _ _=>cases e
    | cons a r ih=>intro vs e f;cases vs with
     | nil=>cases e
     | cons v vs=>
      obtain⟨t,e1⟩:=f 0 a v rfl rfl
      exact .cons (by rw [e1];exact TR.int _ t) (ih vs (Nat.succ.inj e) fun i k v a b=>f (i+1) k v a b)
   refine this _ _ ?_ fun i k v e1 e2=>?_
   · rw [cW,cV];exact ia.1.symm
   · obtain⟨h1,h2⟩:=bM.mp e1
     rw [List.getElem_range] at h2
     subst h2
     obtain⟨t,e3⟩:=ia.2 i v (by rw [←aY];exact e2)
     exact⟨t,by rw [e3,lS]⟩
 walk_at "z"
end
noncomputable def mM (env:Env) (pos:Pos) (p:Expr×Expr):Sem Value×Sem Value:=(eval p.1 env,do let x ←eval p.2 env;standAt pos;pure x)
noncomputable def Ik (C:Cx) (sc:Scope) (n:Nat) (prs:List (Expr×Expr)) (ρ:aF) (H:Hp) (Q:List (V×V)→Hp→Prop):Prop:=∀F p,FR C sc (n+2) ρ F H p→bc C F.g H p→∀(pos:Pos) (P:List (Value×Value)→Shared→Prop),(∀cs p' es H',f5 C F.g H p H' p'→bv (fun e c=>eC C H' p' e.1 c.1∧eC C H' p' e.2 c.2) es cs→Q es H'→P cs p'.s)→Wp C F.A (evalPairs (prs.map (mM F.env pos))) P p.s
noncomputable def tu (vs:List V):(List T→Prop)→Prop:=List.rec (motive:=fun _=>(List T→Prop)→Prop) (fun K=>K []) (fun v _ ih K=>v.tk False fun d=>ih fun ds=>K (d::ds)) vs
noncomputable def uD (ks ds:List T):List (T×T):=(ks.zip ds).foldl (fun a e=>gu a e.1 e.2) []
noncomputable def EQ (str:Bool) (es:List (V×V)) (H:Hp) (K:V→Hp→Prop):Prop:=nI (es.map (·.2)) H fun ds H1=>tu (es.map (·.1)) fun ks=>Br (ks.all (dg (bif str then .str else .int))) (K (.ref (eN H1)) ((eN H1, .tdct (uD ks ds))::H1)) False
section
variable {C:Cx} {sc:Scope} {n:Nat} {ρ:aF} {H:Hp}
theorem Ck {Q:List (V×V)→Hp→Prop} (h:Q [] H):Ik C sc n [] ρ H Q:=fun F p fr R pos P k=>evalPairs_nil (k _ p _ H (.refl R) .nil h)
theorem z4 {a b:Expr} {r:List (Expr×Expr)} {Q:List (V×V)→Hp→Prop} (h:WE C sc n a ρ H fun v H1=>WE C sc n b ρ H1 fun u H2=>Ik C sc n r ρ H2 fun es H3=>Q ((v,u)::es) H3):Ik C sc n ((a,b)::r) ρ H Q:=by
 walk_at "a"
 exact fun F p fr R pos P k=>evalPairs_cons (h F p fr R _ fun cv p1 v H1 st1 x1 h1=>wpAny_bind (h1 F p1 (fr.step st1) st1.rel _ fun cu p2 u H2 st2 x2 h2=>wpAny_bind (wpAny_standAt (wpAny_pure (h2 F p2 ((fr.step st1).step st2) st2.rel pos _ fun cs p3 es H3 st3 xs q=>k _ p3 _ H3 ((st1.trans st2).trans st3) (.cons ⟨(x1.step st2).step st3,x2.step st3⟩ xs) q)))))
 walk_at "z"
theorem wC {p:Pt} {vs:List V}:∀{cvs:List Value} {K:List T→Prop},bv (eC C H p) vs cvs→tu vs K→∃ds,eD C p.Φ ds cvs∧vs=ds.map .t∧K ds:=by
 walk_at "a"
 induction vs with
 | nil=>intro cvs K x h;cases x;exact⟨[], .nil,rfl,h⟩
 | cons v r ih=>
  intro cvs K x h
  cases x with | cons a b=>
  cases v with
  | t d=>obtain⟨ds,y,e,h⟩:=ih b (show tu r _ from h);exact⟨d::ds, .cons a.1 y,by rw [e];rfl,h⟩
  | _=>exact False.elim h
 walk_at "z"
theorem Eh {vs:List V}:∀{K K':List T→Prop},tu vs K→(∀ds,K ds→K' ds)→tu vs K':=by
 induction vs with
 | nil=>exact fun h m=>m _ h
 | cons v r ih=>
  intro K K' h m
  cases v with
  | t d=>exact ih (K:=fun ds=>K (d::ds)) h fun ds=>m _
  | _=>exact h
theorem u3 {K:Type} [DecidableEq K] (vk:VK C K) {Φ:cj} {ks:List T}:∀{cs:List (Value×Value)},eD C Φ ks (cs.map (·.1))→ks.all vk.ok=true→∃kvs,Carries vk.knd cs kvs:=by
 walk_at "a"
 induction ks with
 | nil=>intro cs x _;cases cs with
  | nil=>exact⟨[],trivial⟩
  | cons _ _=>cases x
 | cons k r ih=>intro cs x ha;cases cs with
  | nil=>cases x
  | cons c cs=>
   cases x with | cons a b=>
   have ha:=aa.mp (show(vk.ok k&&r.all vk.ok)=true from ha)
   obtain⟨kvs,y⟩:=ih b ha.2
   exact⟨(vk.toK k,c.2)::kvs,vk.is ha.1 a,rfl,y⟩
 walk_at "z"
theorem xW {K:Type} [DecidableEq K] (vk:VK C K) {Φ:cj}  {ks:List T}:∀{ds:List T} {cs:List (Value×Value)} {kvs:List (K×Value)} {acc:List (T×T)} {acc':List (K×Value)},eD C Φ ks (cs.map (·.1))→eD C Φ ds (cs.map (·.2))→ks.all vk.ok=true→Carries vk.knd cs kvs→
 bv (vj vk (TR C Φ)) acc acc'→bv (vj vk (TR C Φ)) ((ks.zip ds).foldl (fun a e=>gu a e.1 e.2) acc) (kvs.foldl (fun a kv=>PySem.stored a kv.1 kv.2) acc'):=by
 walk_at "a"
 induction ks with
 | nil=>intro ds cs kvs acc acc' x y _ c z;cases cs with
  | cons _ _=>cases x
  | nil=>cases kvs with
   | nil=>exact z
   | cons _ _=>exact c.elim
 | cons k r ih=>intro ds cs kvs acc acc' x y ha c z;cases cs with
  | nil=>cases x
  | cons cc cs=>
   cases x with | cons a b=>
   cases ds with
   | nil=>cases y
   | cons d ds=>
   cases y with | cons a2 b2=>
   cases kvs with
   | nil=>exact c.elim
   | cons kv kvs=>
   have ha:=aa.mp (show(vk.ok k&&r.all vk.ok)=true from ha)
   obtain⟨c1,c2,c3⟩:=c
   have e1:kv.1=vk.toK k:=vk.knd.inj _ _ _ c1 (vk.is ha.1 a)
   have:=ih (ds:=ds) (acc:=gu acc k d) (acc':=PySem.stored acc' (vk.toK k) kv.2) b b2 ha.2 c3 (wq z ha.1 (by rw [←c2];exact a2))
   rw [←e1] at this
   exact this
 walk_at "z"
theorem tm {P:Nat→Prop} {es:List (T×V)} {x:T} {v:V} (h:∀j∈(O.dict es).ids,P j) (hv:∀j∈v.ids,P j):∀j∈(O.dict (gu es x v)).ids,P j:=by
 walk_at "a"
 exact fun j hj=>by
  obtain⟨e,he,hj⟩:=aG.mp hj
  unfold gu at he
  by_cases q:(es.any fun e=>gy e.1 x)=true
  · rw [if_pos q] at he
    obtain⟨y,hy,rfl⟩:=aP.mp he
    by_cases q:gy y.1 x=true
    · rw [if_pos q] at hj;exact hv j hj
    · rw [if_neg q] at hj;exact h j (aG.mpr ⟨y,hy,hj⟩)
  · rw [if_neg q] at he
    rcases aN.mp he with he | he
    · exact h j (aG.mpr ⟨e,he,hj⟩)
    · rw [af.mp he] at hj;exact hv j hj
 walk_at "z"
theorem qh {K:Type} [DecidableEq K] (vk:VK C K) {keys:List (Option Expr)} {values:List Expr} {pos:Pos} {prs:List (Expr×Expr)} {Q:V→Hp→Prop} {F:Fm} {p:Pt} {P:Value→Shared→Prop}
 (hshape:∀env:Env,(evalEachOpt keys env).zip ((evalEach values env).map fun v=>do let x ←v;standAt pos;pure x)=(prs.map (mM env pos)).map fun p=>(some p.1,p.2)) (h0:prs≠[]) (hlen:prs.length≤15) (fr:FR C sc (n+2) ρ F H p) (R:bc C F.g H p)
 (h:Ik C sc n prs ρ H fun es H1=>nI (es.map (·.2)) H1 fun ds H2=>tu (es.map (·.1)) fun ks=>Br (ks.all vk.ok) (Q (.ref (eN H2)) ((eN H2, .tdct (uD ks ds))::H2)) False)
 (k:∀cv p' v H',f5 C F.g H p H' p'→eC C H' p' v cv→Q v H'→P cv p'.s):Wp C F.A (eval (.Dict keys values pos) F.env) P p.s:=by
 walk_at "a"
 have hD:(p.s.heap.push {cls:= .type "dict",data:= .dict #[]}).get? p.s.heap.objs.size=some {cls:= .type "dict",data:= .dict #[]}:=aC _ rfl
 have st:=R.more (s':={p.s with heap:=p.s.heap.push {cls:= .type "dict",data:= .dict #[]}}) ⟨_,_,rfl⟩ (fun b o e=>am _ e)
 have f:∀b∈[p.s.heap.objs.size],f6 C F.g H ⟨p.Φ,p.μ,{p.s with heap:=p.s.heap.push {cls:= .type "dict",data:= .dict #[]}}⟩ b:=fun b hb=>by
  rw [af.mp hb];exact eW R (cS _) (bt hD)
 refine wpAny_Dict_pairs (knd:=vk.knd) (pairs:=prs.map (mM F.env pos)) (hshape F.env) (fun q=>h0 (mr.mp q)) (by rw [a9];exact hlen) (h {F with g0:=_,g:=_} _ ((fr.step st).lend f) (st.rel.guardL f) pos _ fun cs p2 es H2 st2 xs q=>?_)
 have xv:bv (eC C H2 p2) (es.map (·.2)) (cs.map (·.2)):=xs.mapp fun _ _ x=>x.2
 have xk:bv (eC C H2 p2) (es.map (·.1)) (cs.map (·.1)):=xs.mapp fun _ _ x=>x.1
 refine jO st2.rel xv q fun ds H3 p3 st3 e3 tr q=>?_
 obtain⟨ks,tk,ek,q⟩:=wC xk q
 obtain⟨hk,q⟩:=Br.yes q
 have tk3:eD C p3.Φ ks (cs.map (·.1)):=tk.imp fun _ _ _ x=>x.mono st3.ext.1
 have s23:=st2.trans st3
 have fD:=f6.step s23 st.rel f _ (.head _)
 have lg:=vQ (h:=p.s.heap.push {cls:= .type "dict",data:= .dict #[]}) fun b hb=>(f b hb).g
 obtain⟨kvs,hc⟩:=u3 vk tk3 hk
 rw [←e3]
 obtain⟨kv0,d0,l0⟩:=dictOf vk (Φ:=p3.Φ) (R2:=TR C p3.Φ) (es:=[]) (fD.2.trans hD) (.mk #[] 0 ⟨rfl,rfl,rfl⟩ rfl .nil eg) rfl
 cases l0
 refine⟨kvs,hc,d0,fun h' d1 sb=>?_⟩
 obtain⟨ob,o1,o2⟩:=nP vk d1 (xW vk (Φ:=p3.Φ) (acc:=[]) (acc':=[]) tk3 tr hk hc .nil)
 have s4:=(s23.le lg).rel.but (s':={p3.s with heap:=h',toks:=p3.s.toks+cs.length}) (· =p.s.heap.objs.size) (fun b e=>by rw [e];exact fD.1) ⟨_,_,rfl⟩ fun b o hb e=>(sb.2 b hb).trans e
 have s5:=s4.rel.alloc (o:= .tdct (uD ks ds)) (iC H3) o1 o2 fD.1.phi fD.1.g fD.1.sl fun _ h=>nomatch h
 exact k _ _ _ _ (((st.trans (s23.le lg)).trans s4).trans s5) my q
 walk_at "z"
theorem C8 {str:Bool} {keys:List (Option Expr)} {values:List Expr} {pos:Pos} {prs:List (Expr×Expr)} {Q:V→Hp→Prop}
 (hshape:∀env:Env,(evalEachOpt keys env).zip ((evalEach values env).map fun v=>do let x ←v;standAt pos;pure x)=(prs.map (mM env pos)).map fun p=>(some p.1,p.2)) (h0:prs≠[]) (hlen:prs.length≤15) (h:Ik C sc n prs ρ H fun es H1=>EQ str es H1 Q):WE C sc n (.Dict keys values pos) ρ H Q:=by
 intro F p fr R P k
 cases str with
 | false=>exact qh (BC C) hshape h0 hlen fr R h k
 | true=>exact qh (Ew C) hshape h0 hlen fr R h k
noncomputable def Bp (es:List (T×T)):List (T×V):=es.map fun e=>(e.1, .t e.2)
theorem Ei {Φ:cj} {μ:Mu} {es:List (T×T)} {ob:Obj} (x:cL C (TR C Φ) (TR C Φ) es ob):cL C (TR C Φ) (VR C Φ μ) (Bp es) ob:=by
 walk_at "a"
 cases x with | mk arr n a b r d=>
 refine .mk arr n a b ?_ (by unfold Bp;rw [aO];exact d)
 generalize arr.toList=l at r
 clear d b a
 induction r with
 | nil=>exact .nil
 | cons q _ ih=>cases q with | mk q1 q2 q3=>exact .cons (.mk q1 q2 q3) ih
 walk_at "z"
noncomputable def uP (H:Hp) (u i v:V) (K:Hp→Prop):Prop:=u.rk False fun m=>i.tk False fun di=>dd (H.lookup m) fun ob=>O.casesOn (motive:=fun _=>Prop) ob
 (fun _=>di.ik False fun j=>yS v H fun d H1=>IO H1 m fun ts=>Br (decide (0≤j)&&decide (j < ts.length)&&fit ts.length) (K (gY H1 m (.list (ts.set j.toNat d)))) False)
 (fun es=>∃ks,cR ks es=true∧dg ks di=true∧Br (fit es.length) (K (gY H m (.dict (gu es di v)))) False) (fun _=>False) fun es=>∃ks,cR ks es=true∧dg ks di=true∧Br (fit es.length) (V.casesOn (motive:=fun _=>Prop) v (fun d=>K (gY H m (.tdct (gu es di d)))) (fun _=>False) fun _ _=>K (gY H m (.dict (gu (Bp es) di v)))) False
theorem tj {F:Fm} {p:Pt} {u i v:V} {cu ci cv:Value} {K:Hp→Prop} {P:Unit→Shared→Prop} (fr:FR C sc (n+2) ρ F H p) (R:bc C F.g H p) (xu:eC C H p u cu) (xi:eC C H p i ci) (xv:eC C H p v cv) (h:uP H u i v K) (k:∀p' H',f5 C F.g H p H' p'→K H'→P () p'.s):Wp C F.A (setItem cu ci cv) P p.s:=by
 walk_at "a"
 cases u with
 | t d=>exact False.elim h
 | iref _ _=>exact False.elim h
 | ref m=>
 cases i with
 | ref _=>exact False.elim h
 | iref _ _=>exact False.elim h
 | t di=>
 cases (show cu= .ref (p.μ m) from xu.1)
 refine dd.elim (show dd (H.lookup m) _ from h) fun ob e h=>?_
 cases ob with
 | frz d=>exact False.elim h
 | list ts0=>
  cases di with
  | int j=>
   obtain⟨t,rfl⟩:=(show TR C p.Φ (.int j) ci from xi.1)
   refine mi R xv h fun d H1 p1 st e1 tr h=>?_
   obtain⟨ts,e2,h⟩:=tW h
   obtain⟨q,h⟩:=Br.yes h
   have q:=ko q
   have q0:0≤j:=of_decide_eq_true q.1
   have q1:j < ts.length:=of_decide_eq_true q.2.1
   have em:p1.μ m=p.μ m:=(st.mu m (by rw [e];rfl)).1
   refine st.rel.alive e2 rfl fun ob o1 o2 _ _ _=>?_
   cases o2 with | mk items n' o2=>
   rw [←em,←e1]
   obtain⟨u1,n3,u2⟩:=iI o1 (·.setIfInBounds j.toNat cv)
   have hz:=cI q.2.2
   have hs:=eD.size o2
   refine ki_setAt o1 q0 (Int.lt_trans q1 (zL hz)) (by rw [←hs];exact q1) ?_
   exact k ⟨p1.Φ,p1.μ,_⟩ _ (st.trans (st.rel.turn (o':= .list (ts.set j.toNat d)) (s':={p1.s with heap:=p1.s.heap.update (p1.μ m) (Obj.mapSeq (·.setIfInBounds j.toNat cv))}) e2 rfl ⟨_,_,rfl⟩ u1 u2 (.mk _ n3 (by rw [Array.toList_setIfInBounds];exact o2.set tr _)) fun _ h=>nomatch h)) h
  | _=>exact False.elim h
 | tdct es=>
  cases v with
  | t dv=>
   obtain⟨ks,h1,h2,h3⟩:=h
   obtain⟨q,h⟩:=Br.yes h3
   refine R.alive e rfl fun ob o1 o2 o3 _ _=>?_
   refine u5 (.mk (beq_false_of_ne fun q=>gH R.base (q▸o3)) o1 o2) R.sub fr.ok h1 h2 xi.1 xv.1 (cI q) fun h' tk o a1 a2 sb=>?_
   exact k ⟨p.Φ,p.μ,_⟩ _ (R.turn (o':= .tdct (gu es di dv)) (s':={p.s with heap:=h',toks:=tk}) e rfl ⟨_,_,rfl⟩ (fun b hb=>sb.2 b hb) a1 a2 fun _ h=>nomatch h) h
  | ref _=>obtain⟨ks,h1,h2,h3⟩:=h;exact(Br.yes h3).2.elim
  | iref Cl j=>
   obtain⟨ks,h1,h2,h3⟩:=h
   obtain⟨q,h⟩:=Br.yes h3
   refine R.alive e rfl fun ob o1 o2 o3 _ _=>?_
   refine u5 (.mk (beq_false_of_ne fun q=>gH R.base (q▸o3)) o1 (Ei (μ:=p.μ) o2)) R.sub fr.ok ((kc ..).trans h1) h2 xi.1 xv.1 (cI (by unfold Bp;rw [a9];exact q)) fun h' tk o a1 a2 sb=>?_
   exact k ⟨p.Φ,p.μ,_⟩ _ (R.turn (o':= .dict (gu (Bp es) di (.iref Cl j))) (s':={p.s with heap:=h',toks:=tk}) e rfl ⟨_,_,rfl⟩ (fun b hb=>sb.2 b hb) a1 a2 (tm (fun j hj=>by
    obtain⟨e',m1,m2⟩:=aG.mp hj
    obtain⟨e0,_,rfl⟩:=aP.mp m1
    cases m2) xv.2)) h
 | dict es=>
  obtain⟨ks,h1,h2,h3⟩:=h
  obtain⟨q,h⟩:=Br.yes h3
  refine R.alive e rfl fun ob o1 o2 o3 _ _=>?_
  refine u5 (.mk (beq_false_of_ne fun q=>gH R.base (q▸o3)) o1 o2) R.sub fr.ok h1 h2 xi.1 xv.1 (cI q) fun h' tk o a1 a2 sb=>?_
  exact k ⟨p.Φ,p.μ,_⟩ _ (R.turn (o':= .dict (gu es di v)) (s':={p.s with heap:=h',toks:=tk}) e rfl ⟨_,_,rfl⟩ (fun b hb=>sb.2 b hb) a1 a2 (tm (fun j hj=>R.ids m _ e j hj) xv.2)) h
 walk_at "z"
theorem yZ {pos:Pos} {Q:V→Hp→Prop} (h:Q (.ref (eN H)) ((eN H, .tdct [])::H)):WE C sc n (.Dict [] [] pos) ρ H Q:=fun F p fr R P k=>wpAny_Dict_empty (by
 have st:=R.more (s':={p.s with heap:=p.s.heap.push {cls:= .type "dict",data:= .dict #[]}}) ⟨_,_,rfl⟩ (fun b o e=>am _ e)
 have f:=eW R (s':={p.s with heap:=p.s.heap.push {cls:= .type "dict",data:= .dict #[]}}) (cS _) (bt (aC _ rfl))
 exact k _ _ _ _ (st.trans (st.rel.alloc (o:= .tdct []) (iC H) (aC _ rfl) (.mk #[] 0 ⟨rfl,rfl,rfl⟩ rfl .nil eg) f.phi f.g f.sl fun _ h=>nomatch h)) my h)
end
theorem DE {e:Expr} (h:Nat.beq (ct e) 25=false) (ts:List Expr) (k:Nat) (p:Pos) (env:Env):swappedStores [.Tuple ts k p] e env=pure none:=by
 walk_at "a"
 cases e <;> first | rfl | cases h
 walk_at "z"
section
variable {C:Cx} {sc:Scope} {n:Nat} {ρ:aF} {H:Hp}
theorem wW {ts:List Expr} {k:Nat} {tp pos:Pos} {e:Expr} {tg:Tg} {Q:Fl→aF→Hp→Prop} (ht:cT sc true (.Tuple ts k tp)=some tg) (h1:Nat.beq (ct e) 25=false) (h2:(Nat.beq (ct e) 8 || Nat.beq (ct e) 9 || Nat.beq (ct e) 10)=false)
 (h:WE C sc n e ρ H fun v H1=>v.tk False fun d=>gv tg d ρ fun ρ'=>Q .next ρ' H1):WX C sc n (.Assign [.Tuple ts k tp] e pos) ρ H Q:=
 fun F p oc fr R P kk=>Assign_Tuple (h F p fr R _ fun cv p1 v H1 st x q=>by
  cases v with
  | t d=>exact pj (p:=p1) (by rw [oc];exact ht) (fr.step st) st.rel (.inl x.1) q fun g' val' s' ρ' sm fr' R' q=>kk _ g' val' ⟨p1.Φ,p1.μ,s'⟩ .next ρ' H1 ((st.s fr.le).trans (val:=F.val) (stored sm R')) fr' rfl q
  | _=>exact False.elim q) (show swapsWith e (some (.Tuple ts k tp)) pos.line F.env=pure false from oy h2 _ _ _) (DE h1 _ _ _ _)
noncomputable def Cb (C:Cx) (sc:Scope) (n:Nat) (ts:List Expr) (ds:List T) (ρ:aF) (H:Hp) (Q:aF→Hp→Prop):Prop:=∀F p,F.oc=true→FR C sc (n+2) ρ F H p→bc C F.g H p→∀cvs,eD C p.Φ ds cvs→∀P:Unit→Shared→Prop,
 (∀g' val' p' ρ' H',iO C F H p g' H' p'→FR C sc (n+2) ρ' {F with g:=g',val:=val'} H' p'→Q ρ' H'→P () p'.s)→Wp C F.A (assignInOrder ((assignEach ts F.env).map (·.2)) cvs) P p.s
theorem Ce {Q:aF→Hp→Prop} (h:Q ρ H):Cb C sc n [] [] ρ H Q:=fun F p oc fr R cvs x P k=>by
 cases x
 exact wpAny_pure (k F.g F.val p ρ H (.refl R) fr h)
theorem z3 {x:Str} {pt:Pos} {r:List Expr} {d:T} {ds:List T} {i:Nat} {Q:aF→Hp→Prop} (hi:nw sc true x=some i) (h:fm [i] [.t d] ρ fun ρ'=>Cb C sc n r ds ρ' H Q):Cb C sc n (.Name x pt::r) (d::ds) ρ H Q:=by
 walk_at "a"
 exact fun F p oc fr R cvs x P k=>by
  obtain⟨kk,e4,e5⟩:=li hi
  cases x with | cons x xs=>
  refine wpAny_assignInOrder_more (wpAny_assign_Name (fr.store R e4 (oc▸e5) (v:= .t d) (TR.vri x) fun g' s' sm fr' R'=>?_))
  exact(show Cb C sc n r ds _ H Q from cq h) {F with g:=g',val:=_} ⟨p.Φ,p.μ,s'⟩ oc fr' R' _ xs P fun g2 v2 p2 ρ2 H2 st fr2 q=>k g2 v2 p2 ρ2 H2 ((stored (F:=F) sm R').trans (val:=_) st) fr2 q
 walk_at "z"
theorem Cf {o ix:Expr} {pt:Pos} {r:List Expr} {d:T} {ds:List T} {Q:aF→Hp→Prop} (h:WE C sc n o ρ H fun u H1=>WE C sc n ix ρ H1 fun i H2=>uP H2 u i (.t d) fun H3=>Cb C sc n r ds ρ H3 Q):Cb C sc n (.Subscript o ix pt::r) (d::ds) ρ H Q:=by
 walk_at "a"
 exact fun F p oc fr R cvs x P k=>by
  cases x with | cons x xs=>
  refine wpAny_assignInOrder_more (t:=assign (.Subscript o ix pt) F.env) (kas_sub (h F p fr R _ fun cu p1 u H1 s1 xu h=>h F p1 (fr.step s1) s1.rel _ fun ci p2 i H2 s2 xi h=>?_))
  refine tj ((fr.step s1).step s2) s2.rel (xu.step s2) xi (TR.vri (x.mono (s1.ext.1.trans s2.ext.1))) h fun p3 H3 s3 h=>?_
  have S:=(s1.trans s2).trans s3
  exact h F p3 oc (fr.step S) s3.rel _ (xs.imp fun _ _ _ y=>y.mono S.ext.1) P fun g2 v2 p4 ρ2 H4 st fr2 q=>k g2 v2 p4 ρ2 H4 ((S.s fr.le).trans (val:=F.val) st) fr2 q
 walk_at "z"
noncomputable def Bm (t:Expr):Bool:=Nat.beq (ct t) 21 || Nat.beq (ct t) 23
theorem HS {env:Env} {ts:List Expr} (h:ts.all Bm=true):(assignEach ts env).length=ts.length∧(assignEach ts env).findIdx? (·.1)=none:=by
 walk_at "a"
 induction ts with
 | nil=>exact⟨rfl,rfl⟩
 | cons t r ih=>
  have h:=aa.mp (show(Bm t&&r.all Bm)=true from h)
  obtain⟨a,b⟩:=ih h.2
  have e:assignEach (t::r) env=(false,assign t env)::assignEach r env:=by
   have h1:=h.1
   cases t <;> first | rfl | cases h1
  rw [e]
  exact⟨congrArg (· +1) a,by rw [List.findIdx?_cons,b];rfl⟩
 walk_at "z"
theorem Gh {ts es:List Expr} {k1 k2:Nat} {tp vp pos:Pos} {Q:Fl→aF→Hp→Prop} (ho:ts.all Bm=true) (hw:Ix sc ts es=some none)
 (h:WL C sc n es ρ H fun vs H1=>tu vs fun ds=>Br (fit vs.length&&Nat.beq vs.length ts.length) (Cb C sc n ts ds ρ H1 (Q .next)) False):WX C sc n (.Assign [.Tuple ts k1 tp] (.Tuple es k2 vp) pos) ρ H Q:=by
 walk_at "a"
 exact fun F p oc fr R P k=>Assign_Tuple (wpAny_Tuple (h F p fr R vp _ fun cvs p1 vs H1 st xx q=>by
  obtain⟨ds,y,_,q⟩:=wC xx q
  obtain⟨f,q⟩:=Br.yes q
  have f:=aa.mp f
  refine⟨by rw [←xx.length];exact cI f.1,?_⟩
  obtain⟨a2,a3⟩:=HS (env:=F.env) ho
  refine wpAny_assign_Tuple (items:=cvs.toArray) fr.ok.1 ⟨_,aC _ rfl,rfl,_,rfl⟩ (by rw [a2,dP,←xx.length];exact(bJ f.2).symm) a3 fun h' he=>?_
  have st2:=st.rel.more (s':={p1.s with heap:=h'}) ⟨_,_,rfl⟩ fun b o e=>mB he b o (am _ e)
  exact q F ⟨p1.Φ,p1.μ,{p1.s with heap:=h'}⟩ oc ((fr.step st).step st2) st2.rel _ y _ fun g' v' p' ρ' H' st3 fr' q=>k _ g' v' p' .next ρ' H' (((st.trans st2).s fr.le).trans (val:=F.val) st3) fr' rfl q)) rfl (uS hw fr.kd fr.env.scope)
 walk_at "z"
theorem Bc {u i:V} {d:T} {K K':Hp→Prop} (h:uP H u i (.t d) K) (m:∀H',K H'→K' H'):uP H u i (.t d) K':=by
 walk_at "a"
 cases u with
 | t d=>exact h
 | iref _ _=>exact h
 | ref j=>
 cases i with
 | ref _=>exact h
 | iref _ _=>exact h
 | t di=>
 refine dd.elim (show dd (H.lookup j) _ from h) fun ob e h=>?_
 show dd (H.lookup j) _
 rw [e]
 cases ob with
 | frz d=>exact h
 | list ts0=>
  cases di with
  | int z=>
   obtain⟨ts,e2,h⟩:=tW (H:=H) (m:=j) h
   show IO H j _
   unfold IO
   rw [e2]
   exact Br.imp h (m _) id
  | _=>exact h
 | tdct es=>obtain⟨ks,h1,h2,h3⟩:=h;exact⟨ks,h1,h2,Br.imp h3 (m _) id⟩
 | dict es=>obtain⟨ks,h1,h2,h3⟩:=h;exact⟨ks,h1,h2,Br.imp h3 (m _) id⟩
 walk_at "z"
end
open AutoSeq1 (wpAny_loadPart')
open MeetsSeq MeetsSeq2 MeetsSeq3
noncomputable def i9 (xs:List Int):List Int→Bool:=List.rec (motive:=fun _=>List Int→Bool) (fun ys=>ay (motive:=fun _=>Bool) ys false fun _ _=>true) (fun a _ ih ys=>ay (motive:=fun _=>Bool) ys false fun b q=>if a=b then ih q else decide (a < b)) xs
theorem mG (xs:List Int):i9 xs []=false:=by cases xs <;> rfl
theorem Ds (xs ys:List Int) (l b:Addr) (items items2:Array Value) (n n2:Nat) (h1:∀(i:Nat) (x:Int),xs[i]? =some x→∃t,items[i]? =some (.int x t)) (h2:∀(i:Nat) (x:Int),ys[i]? =some x→∃t,items2[i]? =some (.int x t))
 (z1:items.size=xs.length) (z2:items2.size=ys.length) (k:Nat):
 ∀i:Nat,xs.length - i=k→i≤xs.length→i≤ys.length→Meets (Builtin.«list.__eq__.loop» ⟨[.ref l, .ref b,rawInt i,rawInt 0],[]⟩)
  (fun A R s=>s.heap.get? l=some (listOf items n)∧s.heap.get? b=some (listOf items2 n2)∧R (.ok (.ret (.bool (i9 (xs.drop i) (ys.drop i))))) s):=by
 walk_at "a"
 induction k with
 | zero=>
  intro i hk i1 i2 prog w A R s h
  obtain⟨hp,g,d,tk,os⟩:=s;obtain⟨hl,hb,h⟩:=h
  wp_walk using wpAny_loadPart' hl,wpAny_loadPart' hb
  have hi1:items[((i:Nat):Int).toNat]? =none:=by simp;omega
  have hd:xs.drop i=[]:=by simp;omega
  rw [hd] at h
  rw [hi1]
  wp_walk using wpAny_loadPart' hl,wpAny_loadPart' hb
  show R (.ok (.ret (.bool (decide (items.size < items2.size))))) _
  rw [z1,z2]
  have e:xs.length=i:=by omega
  rcases eI i ys.length with q | q
  · rw [bj q] at h
    have:decide (xs.length < ys.length)=true:=by simp;omega
    rw [this];exact h
  · have hd2:ys.drop i=[]:=by simp;omega
    rw [hd2] at h
    have:decide (xs.length < ys.length)=false:=by simp;omega
    rw [this];exact h
 | succ k ih=>
  intro i hk i1 i2 prog w A R s h
  obtain⟨hp,g,d,tk,os⟩:=s;obtain⟨hl,hb,h⟩:=h
  have hlt:i < xs.length:=by omega
  obtain⟨t,e1⟩:=h1 i xs[i] (ai hlt)
  rcases eI i ys.length with q | q
  · obtain⟨u,e2⟩:=h2 i ys[i] (ai q)
    have hi1:items[((i:Nat):Int).toNat]? =some (.int xs[i] t):=by simpa using e1
    have hi2:items2[((i:Nat):Int).toNat]? =some (.int ys[i] u):=by simpa using e2
    wp_walk using wpAny_loadPart' hl,wpAny_loadPart' hb
    have hc:((i:Int)+1)=((i+1:Nat):Int):=by push_cast;rfl
    rw [bj hlt,bj q] at h
    rw [hi1,hi2]
    refine wpAny_bind ((intKind prog w).eqBool (a:=xs[i]) (b:=ys[i]) (by simp [intKind,Value.isInt]) (by simp [intKind,Value.isInt]) ?_)
    by_cases qq:xs[i]=ys[i]
    · simp only [qq,decide_true]
      rw [show i9 (xs[i]::xs.drop (i+1)) (ys[i]::ys.drop (i+1))=_ from if_pos qq] at h
      wp_walk
      rw [hc]
      exact⟨plainId_quiet plain_eq_loop _,codeAny_builtin entry_eq_loop (by
       rw [Around.under_plainId plain_eq_loop _]
       exact ih (i+1) (by omega) (by omega) (by omega) prog w A R _ ⟨hl,hb,h⟩)⟩
    · simp only [qq,decide_false]
      rw [show i9 (xs[i]::xs.drop (i+1)) (ys[i]::ys.drop (i+1))=_ from if_neg qq] at h
      rw [if_neg (by simp)]
      refine wpAny_bind (listItems_at hl rfl ?_)
      refine wpAny_bind (listItems_at hb rfl ?_)
      rw [hi1,hi2]
      refine wpAny_bind (richCompare_gives (op:= .Lt) (typeIs_int _ _ t) (typeIs_int _ _ u) PySem.F.slot_int_lt PySem.F.entry_int_lt (PySem.F.args_int_lt_2 _ _) (gives_int_lt _ _ t u) (fun x=>nomatch x) ?_)
      exact wpAny_pure h
  · have hi1:items[((i:Nat):Int).toNat]? =some (.int xs[i] t):=by simpa using e1
    have hi2:items2[((i:Nat):Int).toNat]? =none:=by simp;omega
    wp_walk using wpAny_loadPart' hl,wpAny_loadPart' hb
    have hd2:ys.drop i=[]:=by simp;omega
    rw [hd2] at h
    rw [hi1,hi2]
    wp_walk using wpAny_loadPart' hl,wpAny_loadPart' hb
    show R (.ok (.ret (.bool (decide (items.size < items2.size))))) _
    have:decide (items.size < items2.size)=false:=by simp;omega
    rw [this]
    rw [mG] at h
    exact h
 walk_at "z"
theorem w6 (xs ys:List Int) (l b:Addr) (items items2:Array Value) (n n2:Nat) (h1:∀(i:Nat) (x:Int),xs[i]? =some x→∃t,items[i]? =some (.int x t)) (h2:∀(i:Nat) (x:Int),ys[i]? =some x→∃t,items2[i]? =some (.int x t))
 (z1:items.size=xs.length) (z2:items2.size=ys.length):Meets (Builtin.«list.__lt__» ⟨[.ref l, .ref b],[]⟩)
  (fun A R s=>s.heap.get? l=some (listOf items n)∧s.heap.get? b=some (listOf items2 n2)∧R (.ok (.ret (.bool (i9 xs ys)))) s):=by
 walk_at "a"
 intro prog w A R s h
 obtain⟨hp,g,d,tk,os⟩:=s;obtain⟨hl,hb,h⟩:=h
 have f3:=AutoSeq1.sub_list_list
 wp_walk using wpAny_loadPart' hl,wpAny_loadPart' hb
 exact⟨plainId_quiet plain_eq_loop _,codeAny_builtin entry_eq_loop (by
  rw [Around.under_plainId plain_eq_loop _]
  exact Ds xs ys l b items items2 n n2 h1 h2 z1 z2 _ 0 rfl (bl _) (bl _) prog w A R _ ⟨hl,hb,by simpa using h⟩)⟩
 walk_at "z"
section
variable {C:Cx}
theorem Js (xs ys:List Int):eP C (compareOp .Lt) (.lst (xs.map .int)) (.lst (ys.map .int)) (.t (.bool (i9 xs ys))):=by
 walk_at "a"
 refine .mk fun A Φ s ca cb hA M ha hb=>?_
 cases ha.l with | @mk a items n h hr=>
 cases hb.l with | @mk b items2 n2 h2 hr2=>
 have z1:items.size=xs.length:=hr.size.symm.trans (a9 _)
 have z2:items2.size=ys.length:=hr2.size.symm.trans (a9 _)
 refine cD.of M.sub fun Q hq=>?_
 show wpAny _ _ (richCompare .Lt _ _) _ _ _
 exact richCompare_meets_room (op:= .Lt) ⟨_,h,rfl⟩ ⟨_,h2,rfl⟩ PySem.F.slot_list_lt PySem.F.entry_list_lt (PySem.F.args_list_lt_2 _ _) (w6 xs ys a b items items2 n n2 (fun i x=>jG hr) (fun i x=>jG hr2) z1 z2)
  ⟨h,h2,show Value.bool (i9 xs ys)≠Value.notImplemented∧Q (.bool (i9 xs ys)) s from⟨nofun,hq _ s.toks (.bool _)⟩⟩ hA.u1
 walk_at "z"
end
section
variable {prog:Program} {w:World} {A:Around} {E:Value→Shared→Prop} {s:Shared}
theorem uF {xs ys:List Int} {l b:Addr} {items items2:Array Value} {n n2:Nat} {Q:Bool→Shared→Prop} (h1:∀(i:Nat) (x:Int),xs[i]? =some x→∃t,items[i]? =some (.int x t)) (h2:∀(i:Nat) (x:Int),ys[i]? =some x→∃t,items2[i]? =some (.int x t))
 (z1:items.size=xs.length) (z2:items2.size=ys.length) (hl:s.heap.get? l=some (listOf items n)) (hb:s.heap.get? b=some (listOf items2 n2)) (hu:A.units < cLine) (h:Q (i9 xs ys) s):wpAny (model prog w) A (oneLt' true (.ref l) (.ref b)) Q E s:=by
 rw [oneLt'_eq]
 simp only [if_true]
 refine wpAny_bind (wpAny_cRoomFor hu ?_)
 refine wpAny_bind (wpAny_callSpecialIfBound?_slot ⟨_,hl,rfl⟩ PySem.F.slot_list_lt (call_meets PySem.F.slot_list_lt ⟨_,hl,rfl⟩ PySem.F.entry_list_lt (PySem.F.args_list_lt_2 _ _) (w6 xs ys l b items items2 n n2 h1 h2 z1 z2) ⟨hl,hb,?_⟩))
 exact wpAny_truthy_bool h
end
section
variable {prog:Program} {w:World} {A:Around} {E:Value→Shared→Prop} {s:Shared} {d it:Addr} {es:Array DictEntry} {ep i:Nat}
noncomputable def jj (h:Heap) (d:Addr) (es:Array DictEntry) (ep:Nat):Prop:=∃o,h.get? d=some o∧o.ExactDict∧o.data= .dict es ep
theorem jj.at' {h h':Heap} (x:jj h d es ep) (e:∀o,h.get? d=some o→h'.get? d=some o):jj h' d es ep:=let⟨o,a,b⟩:=x;⟨o,e _ a,b⟩
theorem jj.typeIs (x:jj s.heap d es ep):s.TypeIs (.ref d) "dict":=let⟨o,a,b,_⟩:=x;⟨o,a,b.1⟩
theorem jj.lt {h:Heap} (x:jj h d es ep):d < h.objs.size:=let⟨_,a,_⟩:=x;d7 a
theorem AY {Q:Value→Shared→Prop} (hd:(d==sysModules)=false) (x:jj s.heap d es ep)
 (hQ:Q (.ref s.heap.objs.size) {s with heap:=s.heap.push {cls:= .type "dict_keyiterator",data:= .fields #[.ref d, .int 0 0, .int es.size 0, .int ep 0]}}):wpAny (model prog w) A (pyIter (.ref d)) Q E s:=by
 walk_at "a"
 have hT:=x.typeIs
 obtain⟨o,ho,hc,hdat⟩:=x
 refine wpAny_pyIter_slot hT PySem.F.slot_dict_iter (wpAny_call_entry PySem.F.slot_dict_iter hT PySem.F.entry_dict_iter ?_ (PySem.F.args_dict_iter_1 _))
 unfold Builtin.«dict.__iter__»
 refine wpAny_bind ?_
 unfold Builtin.Dict.dictSlotNone
 refine wpAny_bind (wpAny_notOrdered_dict hT ?_)
 show wpAny _ _ (pure (Value.ref d)) _ _ s
 refine wpAny_pure ?_
 show wpAny _ _ (Builtin.Dict.showsAll d >>=_) _ _ s
 unfold Builtin.Dict.showsAll
 rw [if_neg (by rw [hd];exact cO)]
 refine wpAny_bind (wpAny_pure (wpAny_bind (wpAny_dictEntries ho hdat (wpAny_bind (wpAny_dictEpoch ho hdat ?_)))))
 refine wpAny_bind (wpAny_newObj_type (wpAny_pure ⟨_,rfl,"dict_keyiterator",_,⟨_,aC _ rfl,rfl⟩,PySem.F.slot_dict_keyiterator_next.lookup,?_⟩))
 simpa [rawInt] using hQ
 walk_at "z"
theorem AX {Q:Option Value→Shared→Prop} (hit:s.heap.IsKeyIter it d i es.size ep) (x:jj s.heap d es ep) (hi:i < es.size)
 (hQ:∀h',h'.IsKeyIter it d (i+1) es.size ep→iK it s.heap h'→Q (some es[i].key) {s with heap:=h'}):wpAny (model prog w) A (pyNext (.ref it)) Q E s:=by
 walk_at "a"
 obtain⟨o,ho,hc,hd⟩:=id hit
 obtain⟨od,hod,hcd,hdd⟩:=x
 unfold pyNext
 refine wpAny_bind (wpAny_attempt (wpAny_callSpecial?_slot (name:=ac "__next__") hit.typeIs PySem.F.slot_dict_keyiterator_next
  (wpAny_call_entry PySem.F.slot_dict_keyiterator_next hit.typeIs PySem.F.entry_dict_keyiterator_next ?_ (PySem.F.args_dict_keyiterator_next_1 _))))
 refine wpAny_bind (wpAny_pure (wpAny_bind (wpAny_bind ?_)))
 first | refine wpAny_bind (wpAny_typeNameOfWhole_keyiter hit.typeIs (wpAny_pure ?_)) | refine wpAny_bind (wpAny_typeNameOf_keyiter hit.typeIs (wpAny_pure ?_))
 refine wpAny_bind (wpAny_fieldsOf ho hd ?_)
 have hown:Builtin.Dict_items.ownsTuple "dict_keyiterator"=false:=by decide
 simp only [hown,Bool.false_eq_true,if_false]
 show wpAny _ _ (if(Value.ref d==Value.none)=true then _ else _) _ _ s
 rw [if_neg (show ¬ ((Value.ref d==Value.none)=true) from cO)]
 refine wpAny_bind (wpAny_pure (wpAny_bind (wpAny_dictEntries hod hdd ?_)))
 rw [if_neg (by simp)]
 refine wpAny_bind (wpAny_pure (wpAny_bind (wpAny_dictEpoch hod hdd ?_)))
 rw [if_neg (by simp)]
 refine wpAny_pure ?_
 simp only [show ¬ ((i:Int) < 0) from by omega,if_false,aW,fH hi]
 refine wpAny_bind ?_
 first | refine wpAny_bind (wpAny_typeNameOfWhole_keyiter hit.typeIs (wpAny_pure ?_)) | refine wpAny_bind (wpAny_typeNameOf_keyiter hit.typeIs (wpAny_pure ?_))
 refine wpAny_bind (wpAny_isOneOf_keyiter hit.typeIs ?_)
 show wpAny _ _ (setField (.ref it) 1 (rawInt ((i:Int)+1)) >>=_) _ _ s
 refine wpAny_bind (wpAny_setField ho hd (by simp) ?_)
 have hit':(s.heap.update it (Obj.mapFields (·.setIfInBounds 1 (rawInt ((i:Int)+1))))).IsKeyIter it d (i+1) es.size ep:=
  ⟨_,kR _ ho (Obj.isFreed_of_fields (Obj.data_mapFields hd _)),(Obj.cls_mapFields ..).trans hc,by rw [Obj.data_mapFields hd];simp [rawInt]⟩
 refine wpAny_bind (wpAny_holding ?_)
 refine wpAny_bind (wpAny_isOneOf_keyiter (s:={s with heap:=s.heap.update it (Obj.mapFields (·.setIfInBounds 1 (rawInt ((i:Int)+1))))}) hit'.typeIs ?_)
 show wpAny _ _ (pure es[i].key) _ _ _
 exact wpAny_pure (wpAny_pure ⟨_,rfl,wpAny_pure (hQ _ hit' (iK.update ..))⟩)
 walk_at "z"
theorem DT {Q:Option Value→Shared→Prop} (hh:A.handled=none) (hit:s.heap.IsKeyIter it d es.size es.size ep) (x:jj s.heap d es ep)
 (hQ:∀h',Heap.ExtBut it s.heap h'→Q none {s with heap:=h'}):wpAny (model prog w) A (pyNext (.ref it)) Q E s:=by
 walk_at "a"
 obtain⟨o,ho,hc,hd⟩:=id hit
 obtain⟨od,hod,hcd,hdd⟩:=x
 unfold pyNext
 refine wpAny_bind (wpAny_attempt (wpAny_callSpecial?_slot (name:=ac "__next__") hit.typeIs PySem.F.slot_dict_keyiterator_next
  (wpAny_call_entry PySem.F.slot_dict_keyiterator_next hit.typeIs PySem.F.entry_dict_keyiterator_next ?_ (PySem.F.args_dict_keyiterator_next_1 _))))
 refine wpAny_bind (wpAny_pure (wpAny_bind (wpAny_bind ?_)))
 first | refine wpAny_bind (wpAny_typeNameOfWhole_keyiter hit.typeIs (wpAny_pure ?_)) | refine wpAny_bind (wpAny_typeNameOf_keyiter hit.typeIs (wpAny_pure ?_))
 refine wpAny_bind (wpAny_fieldsOf ho hd ?_)
 have hown:Builtin.Dict_items.ownsTuple "dict_keyiterator"=false:=by decide
 simp only [hown,Bool.false_eq_true,if_false]
 show wpAny _ _ (if(Value.ref d==Value.none)=true then _ else _) _ _ s
 rw [if_neg (show ¬ ((Value.ref d==Value.none)=true) from cO)]
 refine wpAny_bind (wpAny_pure (wpAny_bind (wpAny_dictEntries hod hdd ?_)))
 rw [if_neg (by simp)]
 refine wpAny_bind (wpAny_pure (wpAny_bind (wpAny_dictEpoch hod hdd ?_)))
 rw [if_neg (by simp)]
 refine wpAny_pure ?_
 have en:es[((es.size:Nat):Int).toNat]? =none:=by simp
 simp only [show ¬ ((es.size:Int) < 0) from by omega,if_false,en]
 refine wpAny_bind ?_
 first | refine wpAny_bind (wpAny_typeNameOfWhole_keyiter hit.typeIs (wpAny_pure ?_)) | refine wpAny_bind (wpAny_typeNameOf_keyiter hit.typeIs (wpAny_pure ?_))
 show wpAny _ _ (setField (.ref it) 0 .none >>=_) _ _ s
 refine wpAny_bind (wpAny_setField ho hd (by simp) ?_)
 show wpAny _ _ (newExc (.type "StopIteration") [] >>=_) _ _ _
 refine wpAny_bind ?_
 simp only [newExc,newTuple]
 refine wpAny_bind (wpAny_newObj_type ?_ (by size_fits))
 refine wpAny_bind (m:=firstArgMember _ _) (wpAny_of_eq (a:=Value.none) (by first | rfl | (simp only [firstArgMember];rfl)) ?_)
 refine wpAny_newObj_type ?_ (by size_fits)
 simp only [raiseNew]
 refine wpAny_bind (wpAny_handled ?_)
 rw [show A.in1.handled=none from hh]
 refine wpAny_bind (wpAny_pure (wpAny_throw ?_))
 refine wpAny_bind (wpAny_isInstance (T:="StopIteration") (b:=true) ⟨_,aC _ rfl,rfl⟩ isSubtype_stop ?_)
 exact wpAny_pure (hQ _ (((iK.update ..).extBut.push _).push _))
 walk_at "z"
theorem yi (hh:A.handled=none) (I d:Addr) (hne:d≠I) (es:Array DictEntry) (ep:Nat):
 Walks prog w A I [I,d] [I] es.size (fun i v=>∃e,es[i]? =some e∧v=e.key) (fun i h=>h.IsKeyIter I d i es.size ep∧jj h d es ep) where
 sub:=fun b hb=>by simp at hb;simp [hb]
 frame:=fun _ _ _ st hk=>⟨st.1.at fun o e=>hk I (by simp) o e,st.2.at' fun o e=>hk d (by simp) o e⟩
 item:=fun i s Q E hi st hQ=>AX st.1 st.2 hi fun h' hit' hs'=>hQ _ h' s.toks ⟨es[i],by simp [hi],rfl⟩ ⟨hit',st.2.at' fun o e=>(hs'.2 d hne).trans e⟩ fun b o hb e=>hs'.extBut b o (fun h=>hb (by simp [h])) e
 done:=fun s Q E st hQ=>DT hh st.1 st.2 fun h' he'=>hQ h' s.toks fun b o hb e=>he' b o (fun h=>hb (by simp [h])) e
 self:=fun _ _ _ _ st hQ=>wpAny_pyIter_keyiter st.1 hQ
theorem DU (lo:(d==sysModules)=false):KdlSrc prog w "dict" d d es.size (fun i v=>∃e,es[i]? =some e∧v=e.key) (fun h=>jj h d es ep) where
 type:=fun _ hm=>hm.typeIs
 there:=fun _ hm=>⟨hm.lt,hm.lt⟩
 keep:=fun _ _ hm hk=>hm.at' fun o e=>hk d (.inl rfl) o e
 notList:=by decide
 notTuple:=by decide
 hint:=fun _ _ _ _ hm hq=>kdl_hint_dict hm.typeIs hq
 iter:=fun _ _ hh hm=>⟨_,_,(fun _ _ hq=>AY lo hm hq),yi hh _ d (bD hm.lt) es ep,⟨⟨_,aC _ rfl,rfl,rfl⟩,hm.at' fun o e=>am _ e⟩⟩
end
open PySem.SeqAt
noncomputable def iP {α:Type} (lt:Nat→Nat→Bool) (n:Nat) (t:KasT α):Option α:=KasT.rec (motive:=fun _=>Option α) some (fun i j _ ih=>bif bf i n&&bf j n then ih (lt i j) else none) t
noncomputable def dI:Heap:={objs:= #[]}
theorem jb (b:Addr):dI.get? b=none:=hY (bl _)
theorem r7 {h:Heap} {L:Addr} {m:Str→Option Value} (ns:h.Ns L m):Fr dI L h m:=⟨ns,fun b o e=>(by rw [jb] at e;cases e),bl _⟩
noncomputable def eU (h:Heap) (ex:List Addr):List (Addr×Obj):=(bH h.objs.size).filterMap fun b=>if b∈ex then none else(h.get? b).map fun o=>(b,o)
theorem eZ {h:Heap} {ex:List Addr} {b:Addr} {o:Obj}:(b,o)∈eU h ex↔b∉ex∧h.get? b=some o:=by
 walk_at "a"
 unfold eU
 rw [List.mem_filterMap]
 constructor
 · rintro⟨c,_,e⟩
   by_cases q:c∈ex
   · rw [if_pos q] at e;cases e
   · rw [if_neg q] at e
     obtain⟨x,e1,e2⟩:=aE.mp e
     cases e2
     exact⟨q,e1⟩
 · rintro⟨q,e⟩
   exact⟨b,dF.mpr (d7 e),by rw [if_neg q,e];rfl⟩
 walk_at "z"
theorem pa {h:Heap} {L:Addr} {ex:List Addr} (hL:L∈ex):News dI L h (eU h ex):=fun p hp=>⟨(eZ.mp hp).2,fun q=>(eZ.mp hp).1 (by rw [q];exact hL),jb _⟩
section
variable {prog:Program} {w:World} {A:Around} {E:Value→Shared→Prop}
noncomputable def oi (L D:Addr) (h h':Heap):Prop:=∀b o,b≠L→b≠D→h.get? b=some o→h'.get? b=some o
noncomputable def sf (prog:Program) (w:World) (A:Around) (κ:SortKind) (vs:List Value) (lt:Nat→Nat→Bool) (h0:Heap) (L D:Addr):Prop:=
 ∀(i j:Nat) (s:Shared) (C:Bool→Shared→Prop),i < vs.length→j < vs.length→oi L D h0 s.heap→(∀tk,C (lt i j) {s with toks:=tk})→kas_ask prog w A κ vs i j C s
theorem ot {α:Type} {κ:SortKind} {vs:List Value} {lt:Nat→Nat→Bool} {h0:Heap} {L D:Addr} (ok:sf prog w A κ vs lt h0 L D) (t:KasT α):∀{a:α} {s:Shared} {Q:α→Shared→Prop},iP lt vs.length t=some a→oi L D h0 s.heap→(∀tk,Q a {s with toks:=tk})→t.kasWp (kas_ask prog w A κ vs) Q s:=by
 walk_at "a"
 induction t with
 | ret b=>intro a s Q h _ hq;cases h;exact hq s.toks
 | ask i j k ih=>
  intro a s Q h hk hq
  replace h:(bif bf i vs.length&&bf j vs.length then iP lt vs.length (k (lt i j)) else none)=some a:=h
  cases q:bf i vs.length&&bf j vs.length with
  | false=>rw [q] at h;cases h
  | true=>
   rw [q] at h
   have q:=aa.mp q
   exact ok i j s _ (dJ.mp q.1) (dJ.mp q.2) hk fun tk=>ih _ h hk fun tk=>hq tk
 walk_at "z"
end
section
variable {C:Cx} {Φ:cj} {A:Around} {s:Shared}
theorem A2 {l:List Int}:∀{vs:List Value} {l':List Int},eD C Φ (l.map .int) vs→eD C Φ (l'.map .int) vs→l=l':=by
 walk_at "a"
 induction l with
 | nil=>intro vs l' a b;cases a;cases l' with
  | nil=>rfl
  | cons _ _=>cases b
 | cons x r ih=>
  intro vs l' a b
  cases a with | cons a1 a2=>
  cases l' with
  | nil=>cases b
  | cons y q=>
   cases b with | cons b1 b2=>
   obtain⟨t,e1⟩:=a1
   obtain⟨u,e2⟩:=b1
   rw [ih a2 b2]
   rw [e1] at e2
   injection e2 with e2 _
   rw [e2]
 walk_at "z"
theorem xh {xs ys:List Int} {l b:Addr} {it1 it2:Array Value} {n1 n2:Nat} (hl:s.heap.get? l=some (listOf it1 n1)) (hb:s.heap.get? b=some (listOf it2 n2)) (h1:eD C Φ (xs.map .int) it1.toList) (h2:eD C Φ (ys.map .int) it2.toList) (hu:A.units < cLine):
 EqAt A s (.ref l) (.ref b) (decide (xs=ys)):=by
 walk_at "a"
 have z1:it1.size=xs.length:=(eD.size h1).symm.trans (a9 _)
 have z2:it2.size=ys.length:=(eD.size h2).symm.trans (a9 _)
 by_cases q:l=b
 · subst q
   rw [hl] at hb
   cases hb
   rw [decide_eq_true (A2 h1 h2)]
   exact EqAt.same _
 · refine EqAt.of_refs q ?_
   by_cases hz:it1.size=it2.size
   · have e:=RcAt.lists (s:=s) (A:=A) (e:=fun j=>xs.getD j 0==ys.getD j 0) (cA hl) (cA hb) hz hu fun j a1 a2=>by
      have k1:xs[j]? =some (xs.getD j 0):=by rw [ah,ai (z1▸a1)];rfl
      have k2:ys[j]? =some (ys.getD j 0):=by rw [ah,ai (z2▸a2)];rfl
      obtain⟨t,e1⟩:=jG h1 k1
      obtain⟨u,e2⟩:=jG h2 k2
      rw [fH a1] at e1
      rw [fH a2] at e2
      rw [Option.some.inj e1,Option.some.inj e2]
      exact EqAt.int_int _ _ _ _
     have:((bH it1.size).all fun j=>xs.getD j 0==ys.getD j 0)=decide (xs=ys):=by
      rw [Bool.eq_iff_iff,aj,decide_eq_true_eq]
      constructor
      · intro h
        apply List.ext_getElem (z1.symm.trans (hz.trans z2))
        intro j j1 j2
        have:=beq_iff_eq.mp (h j (dF.mpr (z1▸j1)))
        rwa [ah,ah,ai j1,ai j2] at this
      · intro e j _;rw [e];exact beq_self_eq_true _
     rw [←this]
     exact e
   · rw [decide_eq_false fun e=>hz (z1.trans ((congrArg i3 e).trans z2.symm))]
     exact RcAt.lists_lengths (cA hl) (cA hb) (bne_iff_ne.mpr hz) hu
 walk_at "z"
noncomputable def xL (fin:Bool) (xs:List Int):List Int→Bool:=List.rec (motive:=fun _=>List Int→Bool) (fun _=>fin) (fun a _ ih ys=>ay (motive:=fun _=>Bool) ys fin fun b q=>if a=b then ih q else decide (a < b)) xs
theorem Ak (xs:List Int):∀ys:List Int,xL (decide (xs.length < ys.length)) xs ys=i9 xs ys:=by
 walk_at "a"
 have key:∀(xs ys:List Int) (k:Nat),xL (decide (xs.length+k < ys.length+k)) xs ys=i9 xs ys:=fun xs=>by
  induction xs with
  | nil=>intro ys k;cases ys with
   | nil=>exact decide_eq_false (i6 _)
   | cons b q=>exact decide_eq_true (Nat.add_lt_add_right (d9 _) k)
  | cons a r ih=>intro ys k;cases ys with
   | nil=>exact decide_eq_false (bU.mpr (aQ (bl _) k))
   | cons b q=>
    show(if a=b then xL _ r q else _)=if a=b then i9 r q else _
    by_cases e:a=b
    · rw [if_pos e,if_pos e,←ih q (k+1)]
      show xL (decide (r.length+1+k < q.length+1+k)) r q=_
      rw [bq,bq,bI 1 k]
    · rw [if_neg e,if_neg e]
 exact fun ys=>key xs ys 0
 walk_at "z"
theorem Al {b fin:Bool} {Q:Bool→Shared→Prop} {xs:List Int}:∀{ys:List Int} {vs us:List Value} {i:Nat} {s:Shared},(b=true∨i≠0)→eD C Φ (xs.map .int) vs→eD C Φ (ys.map .int) us→Q (xL fin xs ys) s→KatLex C.prog C.w A b fin Q (vs.zip us) i s:=by
 walk_at "a"
 induction xs with
 | nil=>intro ys vs us i s hb h1 _ h;cases h1;rw [List.zip_nil_left];exact kat_nil h
 | cons x xs ih=>intro ys vs us i s hb h1 h2 h;cases ys with
  | nil=>cases h2;rw [List.zip_nil_right];exact kat_nil h
  | cons y ys=>
   cases h1 with | cons a r=>
   cases h2 with | cons c q=>
   obtain⟨t,rfl⟩:=(show TR C Φ (.int x) _ from a)
   obtain⟨u,rfl⟩:=(show TR C Φ (.int y) _ from c)
   rw [List.zip_cons_cons]
   refine kat_cons (EqAt.int_int x t y u C.prog C.w _ _ ?_)
   replace h:Q (if x=y then xL fin xs ys else decide (x < y)) s:=h
   by_cases e:x=y
   · rw [if_pos e] at h
     rw [beq_iff_eq.mpr e]
     exact kat_yes (ih (.inr (Nat.succ_ne_zero _)) r q h)
   · rw [if_neg e] at h
     rw [beq_false_of_ne e]
     refine kat_no ?_
     cases hb':(b&&i==0) with
     | true=>exact oneLt_int h
     | false=>exact kat_one _ _ (P.lt_int h)
 walk_at "z"
noncomputable def GS (d d':T):Bool:=d.cs false (fun a=>d'.cs false (fun b=>decide (a < b)) (fun _=>false) fun _=>false) (fun _=>false) fun a=>d'.cs false (fun _=>false) (fun _=>false) fun b=>i9 (a.map T.toInt) (b.map T.toInt)
noncomputable def nV (ds:List T) (i j:Nat):Bool:=GS (ds.getD i .none) (ds.getD j .none)
theorem kO {ds:List T} {vs:List Value} (h:eD C Φ ds vs) {i:Nat} (hi:i < vs.length):TR C Φ (ds.getD i .none) (vs.getD i Value.none):=by
 rw [ah,ah]
 exact h.get (i:=i) (ai (h.length▸hi)) fun y e1 e2=>by rw [e1,ai (h.length▸hi)];exact e2
theorem sq {ds:List T} {p:T→Bool} (h:ds.all p=true) {i:Nat} (hi:i < ds.length):p (ds.getD i .none)=true:=by
 rw [ah,ai hi]
 exact aj.mp h _ (List.getElem_mem _)
theorem Cw {h0:Heap} {L D:Addr} {ds:List T} {vs:List Value} (hr:eD C Φ ds vs) (hk:ds.all (dg .int)=true):sf C.prog C.w A oneType' vs (nV ds) h0 L D:=by
 walk_at "a"
 intro i j s C' hi hj hkeep hc
 have g:∀k,k < vs.length→∃z t,ds.getD k .none= .int z∧vs.getD k Value.none= .int z t:=fun k hk'=>by
  obtain⟨z,e⟩:=eF (sq hk (hr.length▸hk'))
  have t:=kO hr hk'
  rw [e] at t
  obtain⟨t,e2⟩:=t
  exact⟨z,t,e,e2⟩
 obtain⟨a,t,e1,e2⟩:=g i hi
 obtain⟨b,u,e3,e4⟩:=g j hj
 unfold kas_ask
 rw [e2,e4,keyLt'_oneType]
 refine oneLt_int ?_
 have:=hc s.toks
 unfold nV at this
 rw [e1,e3] at this
 exact this
 walk_at "z"
theorem Cy {h0:Heap} {L D:Addr} {ds:List T} {vs:List Value} (hr:eD C Φ ds vs) (hk:ds.all (dg .tup)=true) (hs:∀b o,Φ b=some o→b≠L∧b≠D∧h0.get? b=some o):sf C.prog C.w A (tuples' true) vs (nV ds) h0 L D:=by
 walk_at "a"
 intro i j s C' hi hj hkeep hc
 have g:∀k,k < vs.length→∃ts a it n,ds.getD k .none= .tup ts∧vs.getD k Value.none= .ref a∧s.heap.get? a=some (gm it n)∧eD C Φ ((ts.map T.toInt).map .int) it.toList:=fun k hk'=>by
  obtain⟨ts,e,ha⟩:=gT (sq hk (hr.length▸hk'))
  have t:=kO hr hk'
  rw [e] at t
  generalize ev:vs.getD k Value.none=v at t
  cases t.tp with | @mk a it n x y=>
  obtain⟨q1,q2,q3⟩:=hs _ _ x
  exact⟨ts,a,it,n,e,rfl,hkeep _ _ q1 q2 q3,by rw [←rg ha];exact y⟩
 obtain⟨ts,a,it,n,e1,e2,e3,e4⟩:=g i hi
 obtain⟨us,b,it2,n2,f1,f2,f3,f4⟩:=g j hj
 unfold kas_ask
 rw [e2,f2]
 refine kat_lt e3 rfl f3 rfl (Al (.inl rfl) e4 f4 ?_)
 rw [show it.size=(ts.map T.toInt).length from(eD.size e4).symm.trans (a9 _),show it2.size=(us.map T.toInt).length from(eD.size f4).symm.trans (a9 _),Ak]
 have:=hc s.toks
 unfold nV at this
 rw [e1,f1] at this
 exact this
 walk_at "z"
theorem A1 {ds:List T} {vs:List Value} (h:eD C Φ ds vs):ds.all (dg .int)=true→∀v∈vs,∃z t,v= .int z t:=by
 walk_at "a"
 induction h with
 | nil=>exact fun _ v hv=>nomatch hv
 | cons a r ih=>
  intro hk v hv
  have hk:=aa.mp hk
  cases hv with
  | head=>obtain⟨z,e⟩:=eF hk.1;subst e;obtain⟨t,e⟩:=a;exact⟨z,t,e⟩
  | tail _ hv=>exact ih hk.2 v hv
 walk_at "z"
theorem A8 {M:Model} {E:Value→Shared→Prop} {ds:List T} {vs:List Value} {Q:SortKind→Shared→Prop} (hr:eD C Φ ds vs) (hk:ds.all (dg .int)=true) (h2:2≤vs.length) (h:Q oneType' s):wpAny M A (keyKind' vs.toArray) Q E s:=by
 refine kas_kind (T:= .type "int") h2 (fun v hv=>?_) (by decide) (by decide) h
 obtain⟨z,t,rfl⟩:=A1 hr hk v hv
 exact Looks.of_pure rfl
noncomputable def jE (d:T):Bool:=d.cs false (fun _=>false) (fun _=>false) fun ts=>ay (motive:=fun _=>Bool) ts false fun x _=>lY x
theorem yv {h:Heap} (sb:∀b o,Φ b=some o→h.get? b=some o) {ds:List T} {vs:List Value} (x:eD C Φ ds vs):ds.all jE=true→∃fs,KatTups h vs fs∧fs.length=vs.length∧∀v∈fs,∃z t,v=Value.int z t:=by
 walk_at "a"
 induction x with
 | nil=>exact fun _=>⟨[], .nil,rfl,fun v hv=>nomatch hv⟩
 | @cons d v ds vs a r ih=>
  intro hk
  have hk:=aa.mp (show(jE d&&ds.all jE)=true from hk)
  obtain⟨fs,k,e,i⟩:=ih hk.2
  cases d with
  | tup ts=>
   cases ts with
   | nil=>cases hk.1
   | cons d ts=>
    obtain⟨z,ez⟩:=eF (d:=d) hk.1
    cases a.tp with | @mk ad it n x y=>
    have hx:=sb _ _ x
    generalize ei:it.toList=l at y
    cases y with | cons y1 y2=>
    subst ez
    obtain⟨t,rfl⟩:=y1
    refine⟨.int z t::fs, .cons hx rfl rfl (by rw [←aY,ei];rfl) k,congrArg (· +1) e,fun v hv=>?_⟩
    cases hv with
    | head=>exact⟨z,t,rfl⟩
    | tail _ hv=>exact i v hv
  | _=>cases hk.1
 walk_at "z"
theorem A9 {M:Model} {E:Value→Shared→Prop} {ds:List T} {vs:List Value} {Q:SortKind→Shared→Prop} (sb:∀b o,Φ b=some o→s.heap.get? b=some o) (hr:eD C Φ ds vs) (hk:ds.all jE=true) (h2:2≤vs.length) (h:Q (tuples' true) s):wpAny M A (keyKind' vs.toArray) Q E s:=by
 obtain⟨fs,k,e,i⟩:=yv sb hr hk
 refine kat_kind (T:= .type "int") k (by rw [e];exact aq (d9 _) h2) (fun v hv=>?_) (by decide) h
 obtain⟨z,t,rfl⟩:=i v hv
 exact Looks.of_pure rfl
end
section
variable {C:Cx} {sc:Scope} {n:Nat} {ρ:aF} {H:Hp} {F:Fm} {p:Pt}
theorem LD (fr:FR C sc n ρ F H p) (R:bc C F.g H p) {m:Str→Option Value} {s':Shared} {Φ':cj} (sm:eQ p.s s') (ns:s'.heap.Ns F.env.locals m) (hm:∀x,sc.names.lookup x=some .local→m x=F.val x)
 (kp:∀b x,b≠F.env.locals→p.s.heap.get? b=some x→s'.heap.get? b=some x) (le:Le p.Φ Φ') (ag:∀b,p.s.heap.get? b≠none→Φ' b=p.Φ b) (sb:Sub Φ' s'.heap):
 iO C F H p (F.g.upd F.env.locals s'.heap) H ⟨Φ',p.μ,s'⟩∧FR C sc n ρ {F with g:=F.g.upd F.env.locals s'.heap} H ⟨Φ',p.μ,s'⟩:=by
 walk_at "a"
 obtain⟨o,m0,a,b,c⟩:=fr.ns
 have hg:=R.gsub _ _ a
 have hP:F.env.locals≠C.P:=R.neP hg (rz b)
 have pn:p.Φ F.env.locals=none:=fr.phi _ (.inl rfl)
 have gn:∀{b},b≠F.env.locals→(F.g.upd F.env.locals s'.heap) b=F.g b:=fun h=>if_neg h
 have R':bc C (F.g.upd F.env.locals s'.heap) H ⟨Φ',p.μ,s'⟩:=by
  refine⟨⟨?_,fun b o hb e=>le _ _ (R.base.2 b o hb e)⟩,sb,fun b x e=>?_,(gn (Ne.symm hP)).trans R.gP,?_,fun j x e=>(R.slots j x e).mono le (fun _ _=>rfl) fun ob z y w _ _=>?_,R.inj,R.ids⟩
  · obtain⟨ps,hp,_⟩:=R.tab;exact(ag _ (bt hp)).trans R.base.1
  · by_cases q:b=F.env.locals
    · exact(if_pos q).symm.trans e
    · exact kp _ _ q (R.gsub _ _ ((gn q).symm.trans e))
  · obtain⟨ps,hp,_⟩:=R.tab;exact R.tab.mono le ((kp _ _ (Ne.symm hP) hp).trans hp.symm)
  · have q:p.μ j≠F.env.locals:=fun q=>by rw [q,a] at w;cases w
    exact⟨kp _ _ q z,(ag _ (bt z)).trans y,(gn q).trans w⟩
 have hx:∀b,F.g b≠none→p.s.heap.get? b≠none:=fun b hb=>by
  cases e:F.g b with
  | none=>exact absurd e hb
  | some o=>exact bt (R.gsub _ _ e)
 refine⟨⟨sm,⟨le,fun b hb=>ag b (hx b fun q=>hb (fr.le.none q))⟩,fun _ _ h=>⟨rfl,h⟩,R'⟩,?_⟩
 obtain⟨o',es,ep,e1,e2⟩:=ns
 refine {fr with le:=fun b o e=>(gn (c5 fr.out e)).trans (fr.le _ _ e),phi:=fun b hb=>(ag b (hx b (fr.fa hb))).trans (fr.phi b hb),ns:=⟨o',m,(if_pos rfl).trans e1,⟨es,ep,e2⟩,hm⟩,cells:=fun x c hc=>?_,vars:=fun i x k v e1 e2=>?_}
 · obtain⟨c1,c2,o,c3,c4⟩:=fr.cells x c hc
   exact⟨c1,c2,o,(gn c1).trans c3,c4⟩
 · obtain⟨cv,a,b⟩:=fr.vars i x k v e1 e2
   exact⟨cv,a,b.1.mono le fun _ _=>rfl,b.2⟩
 walk_at "z"
theorem pv (fr:FR C sc n ρ F H p) (R:bc C F.g H p) {m:Str→Option Value} {s':Shared} {D:Addr} {out:Array Value} {c:Nat} {ds:List T} (sm:eQ p.s s') (hm:∀x,sc.names.lookup x=some .local→m x=F.val x) (F3:Fr dI F.env.locals s'.heap m)
 (N3:News dI F.env.locals s'.heap ((D,listOf out c)::eU p.s.heap [F.env.locals])) (lD:∀q∈eU p.s.heap [F.env.locals],q.1 < D) (hr:eD C p.Φ ds out.toList):
 iO C F H p (F.g.upd F.env.locals s'.heap) H ⟨p.Φ.put D (listOf out c),p.μ,s'⟩∧FR C sc n ρ {F with g:=F.g.upd F.env.locals s'.heap} H ⟨p.Φ.put D (listOf out c),p.μ,s'⟩∧TR C (p.Φ.put D (listOf out c)) (.lst ds) (.ref D):=by
 walk_at "a"
 have hL:D≠F.env.locals:=(N3 _ (.head _)).2.1
 have gD:=(N3 _ (.head _)).1
 have kp:∀b o,b≠F.env.locals→p.s.heap.get? b=some o→s'.heap.get? b=some o∧b≠D:=fun b o hb e=>by
  have mem:(b,o)∈eU p.s.heap [F.env.locals]:=eZ.mpr ⟨fun q=>hb (af.mp q),e⟩
  exact⟨(N3 _ (.tail _ mem)).1,bD (lD _ mem)⟩
 have nD:∀b,p.s.heap.get? b≠none→b≠D:=fun b hb q=>by
  cases e:p.s.heap.get? b with
  | none=>exact hb e
  | some o=>exact(kp b o (fun z=>hL (q.symm.trans z)) e).2 q
 have pD:p.Φ D=none:=by
  cases e:p.Φ D with
  | none=>rfl
  | some o=>exact absurd rfl (nD D (bt (R.sub _ _ e)))
 have l:=iz (o:=listOf out c) pD
 obtain⟨a,b⟩:=LD fr R sm F3.ns hm (fun b o hb e=>(kp b o hb e).1) l (fun b hb=>dX (nD b hb)) fun b o e=>by
  by_cases q:b=D
  · rw [q] at e ⊢;exact gD.trans (dj.symm.trans e)
  · have e:=(dX q).symm.trans e
    exact(kp b o (fun z=>by rw [z,fr.phi _ (.inl rfl)] at e;cases e) (R.sub _ _ e)).1
 exact⟨a,b, .lst dj (.mk out c (hr.imp fun _ _ _ x=>x.mono l))⟩
 walk_at "z"
theorem wj {Φ:cj} {ds:List T} {vs:List Value} (h:eD C Φ ds vs) (l:List Nat):eD C Φ (l.map fun i=>ds.getD i .none) (l.map fun i=>vs.getD i Value.none):=by
 walk_at "a"
 induction l with
 | nil=>exact .nil
 | cons i r ih=>
  refine .cons ?_ ih
  rcases eI i vs.length with x | x
  · exact kO h x
  · show TR C Φ (ds.getD i .none) (vs.getD i Value.none)
    rw [ah,ah,gN x,gN (h.length▸x)];exact .none
 walk_at "z"
noncomputable def Bf (ks:List T) (K:List T→Prop):Prop:=Br (dm 2 ks.length&&bf ks.length 64&&(ks.all (dg .int) || (ks.all (dg .tup)&&ks.all jE))) (dd (iP (nV ks) ks.length (kas_sort ks.length)) fun q=>K (q.toList.map fun i=>ks.getD i .none)) False
theorem wS (K:eu C) {t e:Expr} {p0 pos:Pos} {Q:List T→Option Nat→Hp→Prop} (hx:sc.names.lookup ("sorted":Str)=some .globalImplicit) (hg:C.mg ("sorted":Str)=none) (ho:jq e=true)
 (h:WE C sc n e ρ H fun v H1=>v.tk False fun d=>d.dctK False fun es=>Bf (es.map (·.1)) fun ts=>Q ts none H1):IF C sc n t (.Call (.Name "sorted" p0) [e] [] pos) ρ H Q:=by
 walk_at "a"
 intro F p fr R P k
 refine Call_ (fK K fr R hx hg (v:= .builtin "sorted") rfl (by decide) (by decide) ?_)
 have hp:∀env:Env,starEach [e] env=[(false,eval e env)]:=fun env=>gk ho [] env
 refine callWith_of (P:=fun h=>∃Φ,lT C Φ∧Sub Φ h) (by rw [hp];rfl) (fun h' x=>by obtain⟨Φ',B,sb⟩:=x;exact gj _ Φ' h' B sb) ?_
 refine f7 (by rw [hp];rfl) (wpAny_items_cons (rest:=[]) (h F p fr R _ fun cv p2 v H2 st2 x q=>?_) (hp F.env))
 refine wpAny_items_nil ⟨⟨p2.Φ,st2.rel.base,st2.rel.sub⟩,?_⟩
 cases v with
 | ref _=>exact False.elim q
 | iref _ _=>exact False.elim q
 | t d=>
 cases d with
 | dct es=>
  obtain⟨a,o,arr,kk,rfl,na,ea,xa,da,ra,nd⟩:=x.1
  replace q:Bf (es.map (·.1)) fun ts=>Q ts none H2:=q
  obtain⟨c1,q⟩:=Br.yes q
  have c1:=ko c1
  have c2:=al c1.1
  have c3:=dJ.mp c1.2.1
  refine dd.elim q fun q hrun hq=>?_
  have ra:=iq ra
  have fr2:=fr.step st2
  have R2:=st2.rel
  obtain⟨o1,m,l1,l2,hm⟩:=fr2.ns
  have ns:=l2.ns (R2.gsub _ _ l1)
  have hraw:jj p2.s.heap a arr kk:=⟨o,R2.sub _ _ ea,xa,da⟩
  have hsz:arr.size=(es.map (·.1)).length:=by rw [a9,ra.length,cV]
  show Wp C F.A (call (.builtin "sorted") [.ref a] []) _ p2.s
  refine kdu_sorted (DU (beq_false_of_ne na)) fr.ok.1 (r7 ns) (pa (ex:=[F.env.locals]) (.head _)) hraw (by rw [sizeLine_eq,hsz];exact a8 (ck c3) (by decide)) fun D h' tk vs F' N' lD hl hv=>?_
  have trs:eD C p2.Φ (es.map (·.1)) vs:=by
   have:vs=arr.toList.map (·.key):=by
    apply List.ext_getElem?
    intro j
    rcases eI j vs.length with q | q
    · obtain⟨e,e1,e2⟩:=hv j vs[j] (ai q)
      rw [ai q,ax,aY,e1,e2];rfl
    · rw [gN q,gN (by rw [a9,cV,←hl];exact q)]
   rw [this]
   exact ra.mapp fun _ _ x=>by cases x with | mk x _ _=>exact x
  have hvl:vs.length=(es.map (·.1)).length:=trs.length.symm
  have kb:∀{h2:Heap} {e1:Nat},News dI F.env.locals h2 ((D,seqObj "list" #[] e1)::eU p2.s.heap [F.env.locals])→oi F.env.locals D p2.s.heap h2:=fun {h2 e1} N2 b o hb hd e=>(N2 _ (.tail _ (eZ.mpr ⟨fun q=>hb (af.mp q),e⟩))).1
  have hs:∀b o,p2.Φ b=some o→b≠F.env.locals∧b≠D∧p2.s.heap.get? b=some o:=fun b o e=>by
   have hb:b≠F.env.locals:=fun q=>by rw [q,fr2.phi _ (.inl rfl)] at e;cases e
   have e:=R2.sub _ _ e
   exact⟨hb,bD (lD _ (eZ.mpr ⟨fun q=>hb (af.mp q),e⟩)),e⟩
  refine kat_lsort (vs:=vs) F' N' (UpdF.head fun p hp=>bD (lD p hp)) (by rfl) (by rw [hvl];exact c2) (by rw [hvl];exact c3) fun e1 h2 F2 N2=>?_
  have fin:∀tk',KasFin dI F.env.locals m D e1 (q.toList.map fun i=>vs.getD i Value.none) (fun s3=>Wp C F.A (pyIter (.ref D)) P s3) ⟨h2,p2.s.gens,p2.s.drawn,tk',p2.s.os⟩:=fun tk'=>by
   refine KasFin.intro F2 N2 (UpdF.head fun p hp=>bD (lD p hp)) fun h3 c F3 N3=>?_
   obtain⟨s3,fr3,tr⟩:=pv (s':=⟨h3,p2.s.gens,p2.s.drawn,tk',p2.s.os⟩) fr2 R2 ⟨_,_,rfl⟩ hm F3 N3 lD (wj trs q.toList)
   have S:=(st2.s fr.le).trans (val:=F.val) s3
   exact oq (F:={F with g:=F.g.upd F.env.locals h3}) (K:=fun ts src=>Q ts src H2) fr.ok.1 s3.rel tr hq fun it p' ts src s4 i q=>k it p' _ ts src H2 (S.trans (val:=F.val) (s4.s fr3.le)) (fr3.step s4) i q
  rw [←hvl] at hrun
  rcases c9.mp c1.2.2 with hk | hk
  · refine A8 trs hk (by rw [hvl];exact c2) ?_
    exact ot (h0:=p2.s.heap) (L:=F.env.locals) (D:=D) (Cw trs hk) _ hrun (kb N2) fun tk'=>fin tk'
  · have hk:=aa.mp hk
    refine A9 (fun b o e=>kb N2 b o (hs b o e).1 (hs b o e).2.1 (hs b o e).2.2) trs hk.2 (by rw [hvl];exact c2) ?_
    exact ot (h0:=p2.s.heap) (L:=F.env.locals) (D:=D) (Cy trs hk.1 hs) _ hrun (kb N2) fun tk'=>fin tk'
 | _=>exact False.elim q
 walk_at "z"
end
open PySem.SeqAt
noncomputable def jX (p:List Int×Int):T:= .tup [.lst (p.1.map .int), .int p.2]
noncomputable def kF (a b:List Int×Int):Bool:=if a.1=b.1 then decide (a.2 < b.2) else i9 a.1 b.1
noncomputable def iQ (ps:List (List Int×Int)) (i:Nat):List Int×Int:=ps.getD i ([],0)
section
variable {C:Cx} {Φ:cj} {A:Around}
theorem t9 {d:List Int×Int} {v:Value} (t:TR C Φ (jX d) v):∃a n l it m t,v= .ref a∧Φ a=some (gm #[.ref l, .int d.2 t] n)∧Φ l=some (listOf it m)∧eD C Φ (d.1.map .int) it.toList:=by
 walk_at "a"
 cases (show TR C Φ (.tup [.lst (d.1.map .int), .int d.2]) v from t).tp with | @mk a it n x y=>
 generalize ez:it.toList=l at y
 cases y with | cons y1 y2=>
 cases y2 with | cons y2 y3=>
 cases y3
 obtain⟨tk,rfl⟩:=y2
 obtain⟨b,it2,m,rfl,x2,r2⟩:=y1
 have:it= #[.ref b, .int d.2 tk]:=Array.ext' ez
 rw [this] at x
 exact⟨a,n,b,it2,m,tk,rfl,x,x2,fe r2⟩
 walk_at "z"
theorem zc {h0:Heap} {L D:Addr} {ps:List (List Int×Int)} {vs:List Value} (hu:A.units+2 < cLine) (hr:eD C Φ (ps.map jX) vs) (hs:∀b o,Φ b=some o→b≠L∧b≠D∧h0.get? b=some o):
 sf C.prog C.w A (tuples' true) vs (fun i j=>kF (iQ ps i) (iQ ps j)) h0 L D:=by
 walk_at "a"
 intro i j s C' hi hj hkeep hc
 have hl:ps.length=vs.length:=(a9 jX).symm.trans hr.length
 have up:∀{b o},Φ b=some o→s.heap.get? b=some o:=fun {b o} e=>by obtain⟨a1,a2,a3⟩:=hs b o e;exact hkeep _ _ a1 a2 a3
 have g:∀k,k < vs.length→∃a n l it m t,vs.getD k Value.none= .ref a∧s.heap.get? a=some (gm #[.ref l, .int (iQ ps k).2 t] n)∧s.heap.get? l=some (listOf it m)∧eD C Φ ((iQ ps k).1.map .int) it.toList:=fun k hk'=>by
  have t:=kO hr hk'
  rw [show(ps.map jX).getD k .none=jX (iQ ps k) from by unfold iQ;rw [ah,ah,ax,ai (hl▸hk')];rfl] at t
  obtain⟨a,n,l,it,m,t,e1,e2,e3,e4⟩:=t9 t
  exact⟨a,n,l,it,m,t,e1,up e2,up e3,e4⟩
 obtain⟨a,n1,l,it,m1,t,e1,e2,e3,e4⟩:=g i hi
 obtain⟨b,n2,l',it',m2,t',f1,f2,f3,f4⟩:=g j hj
 unfold kas_ask
 rw [e1,f1]
 have hc:C' (kF (iQ ps i) (iQ ps j)) s:=hc s.toks
 unfold kF at hc
 refine kat_lt e2 rfl f2 rfl (kat_cons (xh e3 f3 e4 f4 (aR (av _ 2) hu) C.prog C.w _ _ ?_))
 by_cases q:(iQ ps i).1=(iQ ps j).1
 · rw [if_pos q] at hc
   rw [decide_eq_true q]
   refine kat_yes (kat_cons (EqAt.int_int _ t _ t' C.prog C.w _ _ ?_))
   by_cases q2:(iQ ps i).2=(iQ ps j).2
   · rw [beq_iff_eq.mpr q2]
     refine kat_yes (kat_nil ?_)
     rw [q2,decide_eq_false (Int.lt_irrefl _)] at hc
     exact hc
   · rw [beq_false_of_ne q2]
     exact kat_no (kat_one _ _ (P.lt_int hc))
 · rw [if_neg q] at hc
   rw [decide_eq_false q]
   exact kat_no (uF (fun i x=>jG e4) (fun i x=>jG f4) ((eD.size e4).symm.trans (a9 _)) ((eD.size f4).symm.trans (a9 _)) e3 f3 (aR (av _ 2) hu) hc)
 walk_at "z"
theorem uI {h:Heap} {M:Model} (sb:∀b o,Φ b=some o→h.get? b=some o) {ps:List (List Int×Int)}:∀{vs:List Value},eD C Φ (ps.map jX) vs→∃fs,KatTups h vs fs∧fs.length=vs.length∧∀v∈fs,Looks M h (typeOf v) (.type "list"):=by
 walk_at "a"
 induction ps with
 | nil=>intro vs x;cases x;exact⟨[], .nil,rfl,fun v hv=>nomatch hv⟩
 | cons p ps ih=>
  intro vs x
  cases x with | cons a r=>
  obtain⟨fs,k,e,i⟩:=ih r
  obtain⟨a,n,l,it,m,t,rfl,e2,e3,_⟩:=t9 a
  refine⟨.ref l::fs, .cons (sb _ _ e2) rfl rfl rfl k,congrArg (· +1) e,fun v hv=>?_⟩
  cases hv with
  | head=>exact(Looks.ld (sb _ _ e3)).andThen .now
  | tail _ hv=>exact i v hv
 walk_at "z"
end
section
variable {C:Cx} {sc:Scope} {n:Nat} {ρ:aF} {H:Hp}
theorem LE {F:Fm} {p:Pt} (fr:FR C sc n ρ F H p) (R:bc C F.g H p) {m:Str→Option Value} {s':Shared} {j:Nat} {ts0 ts:List T} {items:Array Value} {c:Nat} (hj:H.lookup j=some (.list ts0)) (sm:eQ p.s s') (ns:s'.heap.Ns F.env.locals m) (hm:∀x,sc.names.lookup x=some .local→m x=F.val x)
 (kp:∀b x,b≠F.env.locals→b≠p.μ j→p.s.heap.get? b=some x→s'.heap.get? b=some x) (hD:s'.heap.get? (p.μ j)=some (listOf items c)) (hr:eD C p.Φ ts items.toList):
 iO C F H p (F.g.upd F.env.locals s'.heap) (gY H j (.list ts)) ⟨p.Φ,p.μ,s'⟩∧FR C sc n ρ {F with g:=F.g.upd F.env.locals s'.heap} (gY H j (.list ts)) ⟨p.Φ,p.μ,s'⟩:=by
 walk_at "a"
 obtain⟨o,m0,a,b,c0⟩:=fr.ns
 have hg:=R.gsub _ _ a
 have hP:F.env.locals≠C.P:=R.neP hg (rz b)
 have pn:p.Φ F.env.locals=none:=fr.phi _ (.inl rfl)
 have hs:(H.lookup j).isSome=true:=by rw [hj];rfl
 refine R.alive hj rfl fun ob h1 h2 h3 h4 h5=>?_
 have gn:∀{b},b≠F.env.locals→(F.g.upd F.env.locals s'.heap) b=F.g b:=fun h=>if_neg h
 have nl:∀{b},F.g b=none→b≠F.env.locals:=fun w q=>by rw [q,a] at w;cases w
 have hP':s'.heap.get? C.P=p.s.heap.get? C.P:=by obtain⟨ps,hp,_⟩:=R.tab;exact(kp _ _ (Ne.symm hP) (Ne.symm h5) hp).trans hp.symm
 have R':bc C (F.g.upd F.env.locals s'.heap) (gY H j (.list ts)) ⟨p.Φ,p.μ,s'⟩:=by
  refine⟨R.base,fun b o e=>kp b o (c5 pn e) (c5 h3 e) (R.sub _ _ e),fun b x e=>?_,(gn (Ne.symm hP)).trans R.gP,R.tab.mono (Le.refl _) hP',fun i x e=>df hs e ?_ ?_,fun i i' x x' e e' l l' q=>df hs e ?_ ?_,fun i x e k hk=>iE ?_⟩
  · by_cases q:b=F.env.locals
    · exact(if_pos q).symm.trans e
    · have e:=(gn q).symm.trans e
      exact kp _ _ q (c5 h4 e) (R.gsub _ _ e)
  · rintro rfl rfl;exact .live hD (.mk items c hr) h3 ((gn (nl h4)).trans h4)
  · intro ne e
    exact(R.slots i x e).mono (Le.refl _) (fun _ _=>rfl) fun ob a b c l _=>⟨kp _ _ (nl c) (fun q=>ne (R.inj i j x _ e hj l rfl q)) a,b,(gn (nl c)).trans c⟩
  · exact fun qn _=>df hs e' (fun qm _=>qn.trans qm.symm) fun ne e'=>qn.trans (R.inj j i' _ x' hj e' rfl l' (by rw [←qn];exact q))
  · exact fun ne e=>df hs e' (fun qm _=>(R.inj i j x _ e hj l rfl (by rw [←qm];exact q)).trans qm.symm) fun ne e'=>R.inj _ _ x x' e e' l l' q
  · refine df hs e ?_ fun _ e=>R.ids i x e k hk
    rintro _ rfl;cases hk
 refine⟨⟨sm,qM.refl _ _,fun _ _ h=>⟨rfl,iE h⟩,R'⟩,?_⟩
 obtain⟨o',es,ep,e1,e2⟩:=ns
 refine {fr with le:=fun b o e=>(gn (c5 fr.out e)).trans (fr.le _ _ e),ns:=⟨o',m,(if_pos rfl).trans e1,⟨es,ep,e2⟩,hm⟩,cells:=fun x c hc=>?_,vars:=fun i x k v e1 e2=>?_}
 · obtain⟨c1,c2,o,c3,c4⟩:=fr.cells x c hc
   exact⟨c1,c2,o,(gn c1).trans c3,c4⟩
 · obtain⟨cv,a,b⟩:=fr.vars i x k v e1 e2
   exact⟨cv,a,b.1,fun k hk=>iE (b.2 k hk)⟩
 walk_at "z"
inductive ww (Q:Fl→aF→Hp→Prop) (ρ:aF) (H:Hp) (m:Nat):Prop
 | mk (ps:List (List Int×Int)) (q:Array Nat):H.lookup m=some (.list (ps.map jX))→2≤ps.length→ps.length < 64→iP (fun i j=>kF (iQ ps i) (iQ ps j)) ps.length (kas_sort ps.length)=some q→Q .next ρ (gY H m (.list (q.toList.map fun i=>(ps.map jX).getD i .none)))→ww Q ρ H m
theorem Cs {x:Str} {p0 ap p1 pos:Pos} {i:Nat} {k:NameKind} {Q:Fl→aF→Hp→Prop} (hf:iy sc.names x 0=some (i,k)) (hn:(k== .local || k== .cell || k== .free)=true) (hd:(x==("__debug__":Str))=false) (hd2:(x==("__classdict__":Str))=false) (hline:(ap.endLine==p1.line)=true)
 (h:dd (nu ρ i) fun v=>v.rk False fun m=>ww Q ρ H m):WX C sc n (.Expr (.Call (.Attribute (.Name x p0) "sort" ap) [] [] p1) pos) ρ H Q:=by
 walk_at "a"
 intro X p oc fr R P kk
 refine dd.elim h fun v ev h=>?_
 cases v with
 | t _=>exact False.elim h
 | iref _ _=>exact False.elim h
 | ref m=>
 cases (show ww Q ρ H m from h) with | mk ps q hm h2 h64 hrun hq=>
 refine wpAny_Expr ?_ (by unfold interactive;rw [fr.fk];rfl) rfl
 rw [arm_eval_Call]
 show Wp C X.A (attributeBase _ _ _ _ >>=_) _ _
 rw [rA (o:= .Name x p0) rfl]
 refine wpAny_bind (wpAny_Name (fr.load R hf (lh ev) hn hd2 fun cv xv=>wpAny_bind (wpAny_standAt ?_)) hd)
 cases (show cv= .ref (p.μ m) from xv.1)
 have hpos:methodCallPos true (.Name x p0) X.env ap p1=pure p1:=by unfold methodCallPos;simp [hline]
 unfold methodCall
 rw [zJ (args:=[]) rfl rfl]
 refine R.alive hm rfl fun ob o1 o2 hΦ hg hP=>?_
 cases o2 with | mk items n0 o2=>
 refine wpAny_bind (wpAny_holding (getMethod_builtin (cA o1).typeIs F.plainAttrs_list slot_list_sort F.type_list_sort (fun a' ha=>by injection ha with ha;subst ha;exact⟨_,o1,rfl⟩) (wpAny_bind (wpAny_of_eq hpos ?_))))
 refine callWith_builtin rfl (f7 rfl (wpAny_items_nil ?_))
 show Wp C X.A (call (.builtin "list.sort") [.ref (p.μ m)] []) _ p.s
 obtain⟨ol,mm,l1,l2,hmm⟩:=fr.ns
 have ns:=l2.ns (R.gsub _ _ l1)
 have hL:p.μ m≠X.env.locals:=fun q=>by rw [q,l1] at hg;cases hg
 have hvl:items.toList.length=ps.length:=o2.length.symm.trans (a9 _)
 have nD:∀q∈eU p.s.heap [X.env.locals,p.μ m],q.1≠p.μ m:=fun q hq e=>(eZ.mp hq).1 (by rw [e];exact .tail _ (.head _))
 have N:News dI X.env.locals p.s.heap ((p.μ m,listOf items n0)::eU p.s.heap [X.env.locals,p.μ m]):=fun q hq=>by
  rcases aS.mp hq with rfl | hq
  · exact⟨o1,hL,jb _⟩
  · exact pa (.head _) q hq
 have kb:∀{h2:Heap} {o:Obj},News dI X.env.locals h2 ((p.μ m,o)::eU p.s.heap [X.env.locals,p.μ m])→oi X.env.locals (p.μ m) p.s.heap h2:=fun {h2 o} N2 b o hb hd e=>(N2 _ (.tail _ (eZ.mpr ⟨fun q=>by
  rcases aS.mp q with q | q
  · exact hb q
  · exact hd (af.mp q),e⟩))).1
 have hs:∀b o,p.Φ b=some o→b≠X.env.locals∧b≠p.μ m∧p.s.heap.get? b=some o:=fun b o e=>⟨c5 (fr.phi _ (.inl rfl)) e,c5 hΦ e,R.sub _ _ e⟩
 refine kat_lsort (vs:=items.toList) (r7 ns) N (.head nD) rfl (by rw [hvl];exact h2) (by rw [hvl];exact h64) fun e1 h' F2 N2=>?_
 have fin:∀tk',KasFin dI X.env.locals mm (p.μ m) e1 (q.toList.map fun i=>items.toList.getD i Value.none) (fun s3=>P .next s3) ⟨h',p.s.gens,p.s.drawn,tk',p.s.os⟩:=fun tk'=>by
  refine KasFin.intro F2 N2 (.head nD) fun h3 c F3 N3=>?_
  obtain⟨s3,fr3⟩:=LE (s':=⟨h3,p.s.gens,p.s.drawn,tk',p.s.os⟩) fr R hm ⟨_,_,rfl⟩ F3.ns hmm (fun b x hb hd e=>kb N3 b x hb hd e) (N3 _ (.head _)).1 (wj o2 q.toList)
  exact kk .next _ X.val ⟨p.Φ,p.μ,⟨h3,p.s.gens,p.s.drawn,tk',p.s.os⟩⟩ .next ρ _ s3 fr3 rfl hq
 rw [←hvl] at hrun
 obtain⟨fs,kt,ek,lk⟩:=uI (M:=model C.prog C.w) (h:=h') (fun b o e=>kb N2 b o (hs b o e).1 (hs b o e).2.1 (hs b o e).2.2) o2
 refine kat_kind (T:= .type "list") kt (by rw [ek,hvl];exact aq (d9 _) h2) (fun v hv=>lk v hv) (by decide) ?_
 refine ot (h0:=p.s.heap) (L:=X.env.locals) (D:=p.μ m) (zc ?_ o2 hs) _ hrun (kb N2) fun tk'=>fin tk'
 have:=fr.ok.2.2
 show X.A.units+1+2 < cLine
 omega
 walk_at "z"
end
structure LamTop (C:Cx):Prop where
 code:CodeHd C.h0 l6 C.P
 bmod:C.h0.BuiltinsAt C.mg C.P
 qual:jo++"<lambda>"=C.lqual
section
variable {C:Cx} {sc:Scope} {n:Nat} {ρ:aF} {H:Hp}
theorem bc.tabGrow {g:cj} {p:Pt} (R:bc C g H p) {s':Shared} {Φ':cj} (sm:eQ p.s s') (k:∀b o,b≠C.P→p.s.heap.get? b=some o→s'.heap.get? b=some o) (l:Le p.Φ Φ') (ag:∀b,p.s.heap.get? b≠none→Φ' b=p.Φ b) (sb:Sub Φ' s'.heap) (tab:pY C Φ' s'.heap):f5 C g H p H ⟨Φ',p.μ,s'⟩:=by
 walk_at "a"
 obtain⟨ps,hP,_⟩:=R.tab
 have gx:∀b,g b≠none→p.s.heap.get? b≠none:=fun b hb=>by
  cases e:g b with
  | none=>exact absurd e hb
  | some o=>exact bt (R.gsub _ _ e)
 exact⟨sm,⟨l,fun b hb=>ag b (gx b hb)⟩,fun _ h=>⟨rfl,h⟩,⟨⟨(ag _ (bt hP)).trans R.base.1,fun b o hb e=>l _ _ (R.base.2 b o hb e)⟩,sb,fun b o e=>k _ _ (c5 R.gP e) (R.gsub _ _ e),R.gP,tab,fun n o e=>(R.slots n o e).mono l (fun _ _=>rfl) fun ob a b c l ht=>⟨k _ _ (R.neP a ht) a,(ag _ (bt a)).trans b,c⟩,R.inj,R.ids⟩⟩
 walk_at "z"
theorem Ae (K:eu C) (LT:LamTop C) {params:Arguments} {body:Expr} {scope:Scope} {F:Fm} {p:Pt} {P:Value→Shared→Prop} (fr:FR C sc n ρ F H p) (R:bc C F.g H p) (hn:sc.names.map (·.1)=dU) (hdef:defaultsOf params F.env=([],[])) (hcl:closureFor scope F.env=pure [])
 (h:∀f c' pm ctv p1,f5 C F.g H p H p1→p1.Φ f=some (kla_obj "<lambda>" C.lqual params body scope [] pm c' ctv)→(∃o vs t,p1.Φ c'=some o∧o.data= .fields vs∧vs[1]? =some (.str C.lqual t))→P (.ref f) p1.s):Wp C F.A (eval (.Lambda params body scope C.lpos) F.env) P p.s:=by
 walk_at "a"
 obtain⟨hcode,hqual⟩:=fr.env.lam hn
 obtain⟨ps,hP,ht,hhit⟩:=R.tab
 have up:∀{b o},b≠C.P→C.h0.get? b=some o→p.s.heap.get? b=some o:=fun hb e=>R.sub _ _ (R.base.2 _ _ hb e)
 have hg:=t7 R.base R.sub K.g K.p1
 obtain⟨bm,ob,b1,b2,b3,b4,b5,b6⟩:=LT.bmod
 have hb:p.s.heap.BuiltinsAt C.mg C.P:=⟨bm,ob,b1,b2,b3,b4,up b4 b5,b6⟩
 have hcd:CodeHd p.s.heap l6 C.P:=by
  obtain⟨o,vs,file,tf,flags,tg,inF,text,tt,e1,e2,e3,e4,e5,e6,e7,e8,e9,e10⟩:=LT.code
  exact⟨o,vs,file,tf,flags,tg,inF,text,tt,up e10 e1,e2,e3,e4,e5,e6,e7,e8,e9,e10⟩
 refine PySem.W.kla_eval hdef ?_
 rw [show F.env.qual++"<lambda>"=C.lqual by rw [hqual];exact LT.qual]
 rcases hhit with hnf | ⟨c',o,vs,t,hf,hc1,hc2,hc3⟩
 · refine kla_makeFunction (mg:=C.mg) hcl fr.env.globals hg hcode hcd hP ht hnf K.p1 hb fun c' ctv h' tk hx hge hlt hrec htb=>?_
   obtain⟨c2,oc,vs,t,e2,hoc,hd,hv⟩:=hrec
   cases e2
   have szle:p.s.heap.objs.size≤h'.objs.size:=ck (aR hge hlt)
   have nc:p.Φ c'=none:=eG R.sub (ky hge)
   have cf:c'≠h'.objs.size:=bD hlt
   have nf:(p.Φ.put c' oc) h'.objs.size=none:=(dX (Ne.symm cf)).trans (eG R.sub (ky szle))
   have l1:=iz (o:=oc) nc
   have l2:=iz (o:=kla_obj "<lambda>" C.lqual params body scope [] ((C.mg "__name__").getD .none) c' ctv) nf
   have ne:∀{b c:Addr},p.s.heap.get? b≠none→p.s.heap.objs.size≤c→b≠c:=fun hb hc q=>hb (ky (q▸hc))
   have hc':((p.Φ.put c' oc).put h'.objs.size (kla_obj "<lambda>" C.lqual params body scope [] ((C.mg "__name__").getD .none) c' ctv)) c'=some oc:=(dX cf).trans dj
   have st:=R.tabGrow (s':={p.s with heap:=h'.push (kla_obj "<lambda>" C.lqual params body scope [] ((C.mg "__name__").getD .none) c' ctv),toks:=tk}) (Φ':=(p.Φ.put c' oc).put h'.objs.size (kla_obj "<lambda>" C.lqual params body scope [] ((C.mg "__name__").getD .none) c' ctv)) ⟨_,_,rfl⟩ (fun b o hb e=>am _ (hx b o hb e)) (l1.trans l2) (fun b hb=>(dX (ne hb szle)).trans (dX (ne hb hge))) (fun b o e=>?_)
    ⟨ps++ #[rawInt C.lpos.line,rawInt C.lpos.col, .ref c'],am _ htb,by rw [dY];exact TriplesOk_snoc _ _ _ _ ht, .inr ⟨c',oc,vs,t,by rw [dY];exact codeAmong_snoc _ ht hnf,hc',hd,hv⟩⟩
   · exact h h'.objs.size c' _ ctv _ st dj ⟨oc,vs,t,hc',hd,hv⟩
   · by_cases q:b=h'.objs.size
     · rw [q] at e ⊢;exact(aC _ rfl).trans (dj.symm.trans e)
     · have e:=(dX q).symm.trans e
       by_cases q2:b=c'
       · rw [q2] at e ⊢;exact am _ (hoc.trans (dj.symm.trans e))
       · have e:=(dX q2).symm.trans e
         exact am _ (hx b o (c5 R.base.1 e) (R.sub _ _ e))
 · refine kla_makeFunctionHit (mg:=C.mg) hcl fr.env.globals hg hcode hcd hP ht hf hb fun ctv h' tk hk hsz=>?_
   have nf:p.Φ h'.objs.size=none:=eG R.sub (ky hsz)
   have l1:=iz (o:=kla_obj "<lambda>" C.lqual params body scope [] ((C.mg "__name__").getD .none) c' ctv) nf
   have k1:∀b o,p.s.heap.get? b=some o→(h'.push (kla_obj "<lambda>" C.lqual params body scope [] ((C.mg "__name__").getD .none) c' ctv)).get? b=some o:=fun b o e=>am _ (hk b o e)
   have st:=R.grow (s':={p.s with heap:=h'.push (kla_obj "<lambda>" C.lqual params body scope [] ((C.mg "__name__").getD .none) c' ctv),toks:=tk}) ⟨⟨_,_,rfl⟩,k1,l1,fun b hb=>dX fun q=>hb (ky (q▸hsz)),fun b o e=>?_⟩
   · exact h h'.objs.size c' _ ctv _ st dj ⟨o,vs,t,l1 _ _ hc1,hc2,hc3⟩
   · by_cases q:b=h'.objs.size
     · rw [q] at e ⊢;exact(aC _ rfl).trans (dj.symm.trans e)
     · exact k1 _ _ (R.sub _ _ ((dX q).symm.trans e))
 walk_at "z"
noncomputable def nW (p:Int×Int):T:= .tup [.int p.1, .int p.2]
noncomputable def Ac (x:Str) (p1 p2 p3:Pos) (kk:Nat):Expr:= .Subscript (.Name x p1) (.Constant (.int 0) kk p2) p3
theorem Ad (K:eu C) {params:Arguments} {scope:Scope} {x:Str} {p1 p2 p3:Pos} {kk:Nat} {A:Around} {Φ:cj} {s:Shared} {f c':Addr} {pm ctv:Value} {a b:Int} {v:Value} (B:lT C Φ) (sb:Sub Φ s.heap) (hA:A.depth+5≤990)
 (hf:Φ f=some (kla_obj "<lambda>" C.lqual params (Ac x p1 p2 p3 kk) scope [] pm c' ctv)) (hc:∃o vs t,Φ c'=some o∧o.data= .fields vs∧vs[1]? =some (.str C.lqual t)) (hv:TR C Φ (nW (a,b)) v)
 (hbind:∀(q:Str) (pm cv ctv v:Value),bindArgs (kla_fn "<lambda>" q params (Ac x p1 p2 p3 kk) scope [] pm cv ctv) ⟨[v],[]⟩=pure [(x,v)])
 (hnames:scope.names=[(x, .local)]) (hk:scope.kind= .function) (hco:scope.isCoroutine=false) (hgen:scope.isGenerator=false) (hd:(x==("__debug__":Str))=false):
 Wp C A (call (.ref f) [v] []) (fun r s'=>∃h' tk' t,s'={s with heap:=h',toks:=tk'}∧r= .int a t∧∀b o,s.heap.get? b=some o→h'.get? b=some o) s:=by
 walk_at "a"
 obtain⟨oc,vs,t,e1,e2,e3⟩:=hc
 refine wpAny_call (kla_callFunE (by show A.depth < 1000;omega) (sb _ _ hf) rfl hco hgen rfl ⟨c',oc,vs,t,rfl,sb _ _ e1,e2,e3⟩ ?_)
 rw [hbind]
 have lk:scope.names.lookup x=some .local:=by rw [hnames,aD,beq_self_eq_true]
 refine wpAny_pure (wpAny_newFunctionEnv (fun y hy=>?_) (fun y hy=>?_) (fun h' hns hsb=>⟨(pb K B sb).fresh _ hsb,?_⟩) hk)
 · rw [hnames] at hy;rw [af.mp hy];exact nofun
 · rw [af.mp hy];exact lk
 have keep:∀b o,s.heap.get? b=some o→h'.get? b=some o:=fun b o e=>hsb.extBut b o (bD (d7 e)) (am _ e)
 refine kla_codeExpr ?_
 refine wpAny_mono (E:=oj) (Subscript_ (wpAny_Name (wpAny_loadName_local hk lk hns (v:=v) (by simp) (wpAny_Constant_int ?_)) hd)) (fun r s' x=>x) fun _ _ x=>x.elim
 cases (show TR C Φ (.tup [.int a, .int b]) v from hv).tp with
 | @mk ad items m hi hr=>
  generalize ez:items.toList=l at hr
  cases hr with | cons y1 y2=>
  obtain⟨tk,rfl⟩:=y1
  have hi':h'.get? ad=some (gm items m):=keep _ _ (sb _ _ hi)
  have h0:items[0]? =some (.int a tk):=by rw [←aY,ez];rfl
  have hlt:0 < items.size:=(Array.getElem?_eq_some_iff.mp h0).1
  exact gM (C:=C) (nh hi').typeIs slot_tuple_getitem.lookup (PyProof.Rows.getItem_tuple (nh hi') (by omega) (by omega) (seqIndex_of (by decide) (bn.mpr hlt)) h0 ⟨_,_,tk,rfl,rfl,keep⟩) fun _ _=>⟨_,rfl⟩
 walk_at "z"
end
open PySem.SeqAt
noncomputable def lC (ps:List (Int×Int)) (i:Nat):Int×Int:=ps.getD i (0,0)
noncomputable def vm (lt:Nat→Nat→Bool) (n:Nat) (q:List Nat):Prop:=if n < 2 then q=bH n else∃qa,iP lt n (kas_sort n)=some qa∧qa.toList=q∧∀i∈q,i < n
section
variable {C:Cx}
theorem Dd {A:Around} {f:Value} {Φ:cj} {h₀:Heap} {L D kS:Addr} {m:Str→Option Value} {e1:Nat} {base:List (Addr×Obj)} {Fin:List Value→Nat→Shared→Prop} {s0:Shared}
 (hΦ:∀b o,Φ b=some o→(b,o)∈base) (hD:D≠kS) (hnb:∀p∈base,p.1≠kS)
 (turn:∀(a b:Int) (v:Value) (s:Shared),TR C Φ (nW (a,b)) v→Sub Φ s.heap→Wp C A (call f [v] []) (fun r s'=>∃h' tk' t,s'={s with heap:=h',toks:=tk'}∧r= .int a t∧∀b o,s.heap.get? b=some o→h'.get? b=some o) s) (ps:List (Int×Int)):
 ∀(r:List Value) (dn:List Int) (ks:List Value) (e:Nat) (s:Shared),eD C Φ (ps.map nW) r→IntsAre ks dn→Fr h₀ L s.heap m→News h₀ L s.heap ((kS,seqObj "list" (List.toArray ks) e)::(D,seqObj "list" #[] e1)::base)→eQ s0 s→
  (∀ks' e' s',IntsAre ks' (dn++ps.map (·.1))→Fr h₀ L s'.heap m→News h₀ L s'.heap ((kS,seqObj "list" (List.toArray ks') e')::(D,seqObj "list" #[] e1)::base)→eQ s0 s'→Fin ks' e' s')→
  KatKeys C.prog C.w A h₀ L m kS f Fin r ks e s:=by
 walk_at "a"
 induction ps with
 | nil=>intro r dn ks e s hr hk F N sm hfin;cases hr;exact KatKeys.nil (hfin ks e s (by rw [List.map_nil,aw];exact hk) F N sm)
 | cons p ps ih=>
  intro r dn ks e s hr hk F N sm hfin
  cases hr with | cons hv hr=>
  have sb:Sub Φ s.heap:=fun b o e=>(N _ (.tail _ (.tail _ (hΦ b o e)))).1
  refine KatKeys.cons (wpAny_mono (turn p.1 p.2 _ s hv sb) (fun r' s' x=>?_) fun _ _ x=>x.elim)
  obtain⟨h',tk',t,rfl,rfl,k⟩:=x
  have F':Fr h₀ L h' m:=F.kept k
  have N':News h₀ L h' ((kS,seqObj "list" (List.toArray ks) e)::(D,seqObj "list" #[] e1)::base):=fun q hq=>⟨k _ _ (N q hq).1,(N q hq).2⟩
  have hne:∀q∈(D,seqObj "list" #[] e1)::base,q.1≠kS:=fun q hq=>by
   rcases aS.mp hq with rfl | hq
   · exact hD
   · exact hnb q hq
  refine KatBack.intro F' N' (UpdF.head hne) fun h2 c F2 N2=>ih _ (dn++[p.1]) (ks++[.int p.1 t]) c _ hr (ksk_snoc hk) F2 N2 (sm.trans ⟨_,_,rfl⟩) fun ks' e' s' a1 a2 a3 a4=>hfin ks' e' s' (by rw [bp];rw [au] at a1;exact a1) a2 a3 a4
 walk_at "z"
theorem vX {l:List Int} {ks:List Value} (h:IntsAre ks l):∀{i:Nat},i < ks.length→∃t,ks.getD i Value.none= .int (l.getD i 0) t:=by
 induction h with
 | nil=>intro i hi;cases hi
 | cons n t h ih=>
  intro i hi
  cases i with
  | zero=>exact⟨t,rfl⟩
  | succ i=>exact ih (bT hi)
theorem zb {A:Around} {l:List Int} {ks:List Value} {h0:Heap} {L D:Addr} (hk:IntsAre ks l):sf C.prog C.w A oneType' ks (fun i j=>decide (l.getD i 0 < l.getD j 0)) h0 L D:=by
 intro i j s C' hi hj hkeep hc
 obtain⟨t,e1⟩:=vX hk hi
 obtain⟨u,e2⟩:=vX hk hj
 unfold kas_ask
 rw [e1,e2,keyLt'_oneType]
 exact oneLt_int (hc s.toks)
end
inductive wv (d:T) (K:List T→Prop):Prop
 | mk (ps:List (Int×Int)) (q:List Nat):d= .lst (ps.map nW)→ps.length < 64→vm (fun i j=>decide ((ps.map (·.1)).getD i 0 < (ps.map (·.1)).getD j 0)) ps.length q→K (q.map fun i=>nW (lC ps i))→wv d K
section
variable {C:Cx} {sc:Scope} {n:Nat} {ρ:aF} {H:Hp}
theorem tP (K:eu C) (LT:LamTop C) {t e:Expr} {p0 kp pos:Pos} {params:Arguments} {scope:Scope} {x:Str} {p1 p2 p3:Pos} {kk:Nat} {Q:List T→Option Nat→Hp→Prop} (hx:sc.names.lookup ("sorted":Str)=some .globalImplicit) (hg:C.mg ("sorted":Str)=none) (ho:jq e=true) (hn:sc.names.map (·.1)=dU)
 (h:WE C sc n e ρ H fun v H1=>v.tk False fun d=>wv d fun ts=>Q ts none H1)
 (hdef:∀env:Env,defaultsOf params env=([],[])) (hcl:∀env:Env,closureFor scope env=pure []) (hbind:∀(q:Str) (pm cv ctv v:Value),bindArgs (kla_fn "<lambda>" q params (Ac x p1 p2 p3 kk) scope [] pm cv ctv) ⟨[v],[]⟩=pure [(x,v)])
 (hnames:scope.names=[(x, .local)]) (hks:scope.kind= .function) (hco:scope.isCoroutine=false) (hgen:scope.isGenerator=false) (hd:(x==("__debug__":Str))=false):IF C sc n t (.Call (.Name "sorted" p0) [e] [⟨some "key", .Lambda params (Ac x p1 p2 p3 kk) scope C.lpos,kp⟩] pos) ρ H Q:=by
 walk_at "a"
 intro F p fr R P kr
 have hp:∀env:Env,starEach [e] env=[(false,eval e env)]:=fun env=>gk ho [] env
 show Wp C F.A (do callWith pos (←eval (.Name "sorted" p0) F.env) [] (backTo pos (starEach [e] F.env)) (backToKw pos (keywordEach [⟨some "key", .Lambda params (Ac x p1 p2 p3 kk) scope C.lpos,kp⟩] F.env))) _ p.s
 refine wpAny_bind (fK K fr R hx hg (v:= .builtin "sorted") rfl (by decide) (by decide) ?_)
 refine callWith_kw (rest:=[]) ?_ (by rw [hp];rfl) (by rw [hp];rfl)
 refine wpAny_items_cons (rest:=[]) (h F p fr R _ fun c1 p2' v H2 st2 xv q=>?_) (hp F.env)
 refine wpAny_items_nil ?_
 cases v with
 | ref _=>exact False.elim q
 | iref _ _=>exact False.elim q
 | t d=>
 cases (show wv d _ from q) with | mk ps qq ed l64 hrun hq=>
 clear q
 subst ed
 have fr2:=fr.step st2
 refine kwAll_cons (Ae K LT fr2 st2.rel hn (hdef F.env) (hcl F.env) fun f c' pm ctv p4 st3 hf hc=>kwAll_nil ?_)
 show Wp C F.A (call (.builtin "sorted") [c1] [(ac "key", .ref f)]) _ p4.s
 have S:=st2.trans st3
 have R2:=st3.rel
 have fr3:=fr2.step st3
 obtain⟨a,items,k0,rfl,ha,hr⟩:=(show TR C p4.Φ (.lst (ps.map nW)) c1 from TR.mono st3.ext.1 xv.1)
 have hr:=fe hr
 obtain⟨ol,m,l1,l2,hm⟩:=fr3.ns
 have ns:=l2.ns (R2.gsub _ _ l1)
 have hl:p4.s.heap.IsList a items.toList.toArray:=by rw [Array.toArray_toList];exact cA (R2.sub _ _ ha)
 have hvl:items.toList.length=ps.length:=hr.length.symm.trans (a9 _)
 have hΦ:∀b o,p4.Φ b=some o→(b,o)∈eU p4.s.heap [F.env.locals]:=fun b o e=>eZ.mpr ⟨fun q=>c5 (fr3.phi _ (.inl rfl)) e (af.mp q),R2.sub _ _ e⟩
 have hN:=pa (h:=p4.s.heap) (L:=F.env.locals) (ex:=[F.env.locals]) (.head _)
 have turn:∀(A':Around),A'.depth=F.A.depth→∀(a b:Int) (v:Value) (s:Shared),TR C p4.Φ (nW (a,b)) v→Sub p4.Φ s.heap→Wp C A' (call (.ref f) [v] []) (fun r s'=>∃h' tk' t,s'={s with heap:=h',toks:=tk'}∧r= .int a t∧∀b o,s.heap.get? b=some o→h'.get? b=some o) s:=
  fun A' hd1 a b v s hv sb=>Ad K R2.base sb (by rw [hd1];have:=fr.ok.2.1;omega) hf hc hv hbind hnames hks hco hgen hd
 have fin:∀(D:Addr) (out:Array Value) (c:Nat) (s4:Shared),eQ p4.s s4→Fr dI F.env.locals s4.heap m→News dI F.env.locals s4.heap ((D,seqObj "list" out c)::eU p4.s.heap [F.env.locals])→(∀q∈eU p4.s.heap [F.env.locals],q.1 < D)→eD C p4.Φ (qq.map fun i=>nW (lC ps i)) out.toList→Wp C F.A (pyIter (.ref D)) P s4:=by
  intro D out c s4 sm F3 N3 lD out_ok
  obtain⟨s3,fr4,tr⟩:=pv fr3 R2 sm hm F3 N3 lD out_ok
  exact oq (F:={F with g:=F.g.upd F.env.locals s4.heap}) (K:=fun ts src=>Q ts src H2) fr.ok.1 s3.rel tr hq fun it p' ts src s5 i q=>kr it p' _ ts src H2 (((S.s fr.le).trans (val:=F.val) s3).trans (val:=F.val) (s5.s fr4.le)) (fr4.step s5) i q
 have hpick:∀i,i < ps.length→TR C p4.Φ (nW (lC ps i)) (items.toList.getD i Value.none):=fun i hi=>by
  have:=kO hr (i:=i) (by rw [hvl];exact hi)
  rw [ah (l:=ps.map nW),ax,ai hi] at this
  unfold lC
  rw [ah (l:=ps),ai hi]
  exact this
 unfold vm at hrun
 by_cases h2:ps.length < 2
 · rw [if_pos h2] at hrun
   subst hrun
   refine ksk_sorted (kz:=ps.map (·.1)) (f:= .ref f) (b:=false) (r7 ns) hN hl (by rw [a9,hvl]) (by rw [hvl];exact l64) (ksk_s1 _ _) (fun x=>ksk_l1 _ _) (fun x=>ksk_t1 _ _) (fun i v kz hv hz h4 tk own F4 N4=>?_) fun D h4 tk out c F4 N4 lD hout=>?_
   · have hi:i < ps.length:=hvl▸(bM.mp hv).1
     have tv:TR C p4.Φ (nW ps[i]) v:=by
      have:=hpick i hi
      unfold lC at this
      rw [ah,ah,hv,ai hi] at this
      exact this
     rw [ax,ai hi] at hz
     cases hz
     refine wpAny_mono (turn F.A.in1.in1 rfl ps[i].1 ps[i].2 v {p4.s with heap:=h4,toks:=tk} tv fun b o e=>(N4 _ (List.mem_append_left _ (hΦ b o e))).1) (fun r s' x=>?_) fun _ _ x=>x.elim
     obtain⟨h5,tk5,t5,e5,e6,k5⟩:=x
     subst e5 e6
     exact KskEnd.intro (s₁:={p4.s with heap:=h4,toks:=tk}) (F4.kept k5) (News.grown N4 k5) fun p hp=>hp
   · refine fin D out c ⟨h4,p4.s.gens,p4.s.drawn,tk,p4.s.os⟩ ⟨_,_,rfl⟩ F4 N4 lD ?_
     obtain⟨pp,q1,q2,q3⟩:=hout
     have hl1:((ps.map (·.1)).zip items.toList).length < 2:=by rw [List.length_zip,a9];exact aR (Nat.min_le_left _ _) h2
     have:pp=(ps.map (·.1)).zip items.toList:=by
      generalize (ps.map (·.1)).zip items.toList=z at q1 hl1
      cases z with
      | nil=>exact List.perm_nil.mp q1
      | cons y r=>cases r with
       | nil=>exact List.perm_singleton.mp q1
       | cons _ _=>exact absurd hl1 (bU.mpr (cM 2 _))
     rw [q2,this,List.map_snd_zip (by rw [a9,hvl];exact aB _)]
     rw [show(bH ps.length).map (fun i=>nW (lC ps i))=ps.map nW from ?_]
     · exact hr
     · apply List.ext_getElem
       · rw [a9,a9,cW]
       · intro i h1 h2
         rw [a9,cW] at h1
         have e:lC ps i=ps[i]:=by unfold lC;rw [ah,ai h1];rfl
         rw [List.getElem_map,List.getElem_range,List.getElem_map,e]
 · rw [if_neg h2] at hrun
   obtain⟨qa,hrun,rfl,hin⟩:=hrun
   have h2':2≤items.toList.length:=by rw [hvl];exact bU.mp h2
   refine kat_sortedK (f:= .ref f) (b:=false) (r7 ns) hN hl h2' (by rw [hvl];exact l64) (ksk_s1 _ _) (fun x=>ksk_l1 _ _) (fun x=>ksk_t1 _ _) fun D kS e1 h4 F4 N4 lD lb=>?_
   have nD:∀p∈eU p4.s.heap [F.env.locals],p.1≠D:=fun p hp=>bD (lb p hp)
   have nK:∀p∈eU p4.s.heap [F.env.locals],p.1≠kS:=fun p hp=>bD (cN (lb p hp) lD)
   refine Dd (A:=F.A.in1.in1) (Φ:=p4.Φ) (base:=eU p4.s.heap [F.env.locals]) (s0:=p4.s) hΦ (bD lD) nK (turn F.A.in1.in1 rfl) ps _ [] [] 0 _ hr .nil F4 N4 ⟨_,_,rfl⟩ fun ks' e' s' hk' F5 N5 sm5=>?_
   have hk':IntsAre ks' (ps.map (·.1)):=hk'
   have hkl:ks'.length=ps.length:=hk'.length.trans (a9 _)
   have hkind:keyKind' (List.toArray ks')=pure oneType':=by
    cases ks' with
    | nil=>exact absurd h2' (by rw [hvl,←hkl];decide)
    | cons v₁ r=>cases r with
     | nil=>exact absurd h2' (by rw [hvl,←hkl];exact Nat.not_le.mpr (aI 1))
     | cons v₂ rest=>exact keyKind_ints hk'
   rw [hkind]
   refine wpAny_pure ?_
   show(kas_sort items.toList.length).kasWp (kas_ask C.prog C.w F.A.in1.in1 oneType' ks') _ _
   rw [hvl,←hkl]
   rw [←hkl] at hrun
   refine ot (h0:=s'.heap) (L:=F.env.locals) (D:=D) (zb hk') _ hrun (fun b o _ _ e=>e) fun tk'=>?_
   have hne:∀q∈(D,seqObj "list" #[] e1)::eU p4.s.heap [F.env.locals],q.1≠kS:=fun q hq=>by
    rcases aS.mp hq with rfl | hq
    · exact bD lD
    · exact nK q hq
   refine KatFin.intro F5 N5 (UpdF.head hne) fun h6 c6 F6 N6=>KasFin.intro F6 N6 (UpdF.tail (Nat.ne_of_gt lD) (UpdF.head nD)) fun h7 c7 F7 N7=>?_
   obtain⟨hh,tkk,es5⟩:=sm5
   refine fin D _ c7 _ ⟨_,_,by rw [es5]⟩ F7 (fun p hp=>N7 p (.tail _ hp)) lb ?_
   show eD C p4.Φ _ (qa.toList.map fun i=>items.toList.getD i Value.none)
   generalize qa.toList=l at hin
   induction l with
   | nil=>exact .nil
   | cons i r ih=>exact .cons (hpick i (hin i (.head _))) (ih fun j hj=>hin j (.tail _ hj))
 walk_at "z"
theorem Cq {t iter elt:Expr} {ifs:List Expr} {scope:Scope} {pos pos2:Pos} {tg:Tg} {Q:Fl→aF→Hp→Prop} {cond:aF→Hp→(Bool→Hp→Prop)→Prop} {el:aF→Hp→(V→Hp→Prop)→Prop} (hc:∀{ρ H Q},cond ρ H Q→WC C (bC sc scope) n ifs ρ H Q) (he:∀{ρ H Q},el ρ H Q→WE C (bC sc scope) n elt ρ H Q) (ht:cT (bC sc scope) false t=some tg) (hs:∀env x,foldedSetIterable iter env x=pure x) (nd:(scope.names.map (·.1)).Nodup) (ok:jz sc scope=true)
 (h:IF C sc n t iter ρ H fun ts src H1=>src=none∧xc tg (lK sc scope.names) cond el ρ ts none H1 fun ys H2=>Q (.ret (.ref (eN H2))) ρ ((eN H2, .list ys)::H2)):WX C sc n (.Return (some (.ListComp elt [⟨t,iter,ifs,0⟩] scope pos)) pos2) ρ H Q:=by
 walk_at "a"
 intro F p oc fr R P k
 refine wpAny_Return_some ?_
 rw [eval_ListComp]
 show wpAny _ F.A (comprehension _ scope F.env (firstIterPos [⟨t,iter,ifs,0⟩] pos) (newList []) false (eval iter F.env) none) _ _ p.s
 obtain⟨hcell,hfree,_,hkind⟩:=iX ok fr.env
 obtain⟨cl,hclos,hcl1,hcl2⟩:=oL hfree
 refine wpAny_comprehension_free rfl (hs F.env) hclos hkind (mF nd) (wpAny_mono (E:=oj) (h F p fr R _ fun it p1 g1 ts src H1 st fr1 i q=>?_) (fun _ _ x=>x) fun _ _ x=>x)
 obtain⟨e,q⟩:=q
 subst e
 obtain⟨hz,q⟩:=Br.yes q
 cases i with
 | tree i=>
  obtain⟨okt,q⟩:=Br.yes (cq q)
  refine n6 (F:={F with g:=g1}) hc he fr1 st.rel i ht okt hz nd ok hcl1 hcl2 q.go fun D Cc p2 H2 ys items kk s2 fD fC ne ns gD r q=>?_
  obtain⟨m,ns⟩:=ns
  refine⟨m,ns,fun h' hb=>?_⟩
  have s3:=s2.rel.but (s':={p2.s with heap:=h'}) (· =Cc) (fun b e=>by rw [e];exact fC) ⟨_,_,rfl⟩ fun b o hb' e=>hb.extBut b o hb' e
  have gD':h'.get? D=some (listOf items kk):=hb.extBut _ _ ne gD
  have s4:=s3.rel.alloc (o:= .list ys) (iC H2) gD' (.mk items kk r) fD.phi fD.g fD.sl fun _ h=>nomatch h
  exact k _ g1 F.val _ (.ret (.ref (eN H2))) ρ _ (st.trans (val:=F.val) (((s2.trans s3).trans s4).s fr1.le)) (((fr1.step s2).step s3).step s4) ⟨_,rfl,my⟩ q
 walk_at "z"
end
structure Vc where
 e:Scope→Expr→aF→Hp→(V→Hp→Prop)→Prop
 b:Scope→Expr→aF→Hp→(Bool→Hp→Prop)→Prop
 s:Scope→Stmt→aF→Hp→(Fl→aF→Hp→Prop)→Prop
inductive GK where
 | int (i:Int) | raw (v:Value) | blt (b:Bn) | fn (a:Addr) (s:Bool) | rng | enm | zip | srt | lst | no
structure Tb where
 g:Str→GK
 mt:Addr→Str→Option (Addr×Bool)
 fl:Addr→Str→Bool
noncomputable def AD (l:List Str):Bool:=List.rec (motive:=fun _=>Bool) true (fun x r ih=> !(r.any fun y=>x==y)&&ih) l
theorem ox {l:List Str} (h:AD l=true):l.Nodup:=by
 walk_at "a"
 induction l with
 | nil=>exact eg
 | cons x r ih=>
  have h:=aa.mp (show(!(r.any fun y=>x==y)&&AD r)=true from h)
  refine bX.mpr ⟨fun q=>?_,ih h.2⟩
  rw [jT.mpr ⟨x,q,beq_self_eq_true x⟩] at h
  cases h.1
 walk_at "z"
noncomputable def s9 {P:Type} (e:Expr) (z:P) (call:Expr→List Expr→List Keyword→Pos→P) (attr:Expr→Str→Pos→P) (name:Str→Pos→P) (tup:List Expr→P) (slice:Option Expr→Option Expr→Option Expr→P) (comp:Expr→List Comprehension→Scope→Pos→P):P:=
 Expr.casesOn (motive_1:=fun _=>P) e (fun _ _ _=>z) (fun _ _ _=>z) (fun _ _ _ _=>z) (fun _ _ _=>z) (fun _ _ _ _=>z) (fun _ _ _ _=>z) (fun _ _ _=>z) (fun _ _ _=>z)
  (comp) (fun _ _ _ _=>z) (fun _ _ _ _ _=>z) (fun _ _ _ _=>z) (fun _ _=>z) (fun _ _=>z) (fun _ _=>z) (fun _ _ _ _=>z)
  (call) (fun _ _ _ _=>z) (fun _ _=>z) (fun _ _ _=>z)
  (attr) (fun _ _ _=>z) (fun _ _=>z)
  (name) (fun _ _=>z)
  (fun es _ _=>tup es)
  (fun a b c _=>slice a b c)
theorem eV {e:Expr} {z:Prop} {call:Expr→List Expr→List Keyword→Pos→Prop} {attr:Expr→Str→Pos→Prop} {name:Str→Pos→Prop} {tup:List Expr→Prop} {slice:Option Expr→Option Expr→Option Expr→Prop} {comp:Expr→List Comprehension→Scope→Pos→Prop} (h:s9 e z call attr name tup slice comp) {G:Expr→Prop} (kz:z→G e)
 (k1:∀f a kw pos,call f a kw pos→G (.Call f a kw pos)) (k2:∀o a pos,attr o a pos→G (.Attribute o a pos)) (k3:∀x pos,name x pos→G (.Name x pos)) (k4:∀es k pos,tup es→G (.Tuple es k pos)) (k5:∀a b c pos,slice a b c→G (.Slice a b c pos)) (k6:∀a b c pos,comp a b c pos→G (.ListComp a b c pos)):G e:=by
 walk_at "a"
 cases e with
 | Call f a kw pos=>exact k1 f a kw pos h
 | Attribute o a pos=>exact k2 o a pos h
 | Name x pos=>exact k3 x pos h
 | Tuple es k pos=>exact k4 es k pos h
 | Slice a b c pos=>exact k5 a b c pos h
 | ListComp a b c pos=>exact k6 a b c pos h
 | _=>exact kz h
 walk_at "z"
structure IfW (c:(Bool→Hp→Prop)→Prop) (K:Bool→Hp→Prop):Prop where
 go:c K
inductive StW (c:(Fl→aF→Hp→Prop)→Prop) (Q:Fl→aF→Hp→Prop) (I:aF→Hp→Prop):Prop
 | mk:c (Bo Q I)→StW c Q I
 | can (m:List Bool):c (Bo Q fun ρ H=>cQ m ρ H I)→StW c Q I
section
variable (C:Cx) (B:Tb) (n:Nat) (w:Vc) (sc:Scope)
noncomputable def vL1 (ρ:aF) (e:Expr) (_:List Expr) (ih:Hp→(List V→Hp→Prop)→Prop) (H:Hp) (K:List V→Hp→Prop):Prop:=w.e sc e ρ H fun v H1=>ih H1 fun vs H2=>K (v::vs) H2
noncomputable def vL (es:List Expr) (ρ:aF):Hp→(List V→Hp→Prop)→Prop:=List.rec (motive:=fun _=>Hp→(List V→Hp→Prop)→Prop) (fun H K=>K [] H) (vL1 w sc ρ) es
noncomputable def vA0 (op:BoolOp) (Q:Bool→Hp→Prop) (H:Hp):Prop:=BoolOp.casesOn (motive:=fun _=>Prop) op (Q true H) (Q false H)
noncomputable def vA1 (op:BoolOp) (ρ:aF) (Q:Bool→Hp→Prop) (e:Expr) (_:List Expr) (ih:Hp→Prop) (H:Hp):Prop:=w.b sc e ρ H fun b H1=>BoolOp.casesOn (motive:=fun _=>Prop) op (Br b (ih H1) (Q false H1)) (Br b (Q true H1) (ih H1))
noncomputable def vA (op:BoolOp) (es:List Expr) (ρ:aF) (Q:Bool→Hp→Prop):Hp→Prop:=List.rec (motive:=fun _=>Hp→Prop) (vA0 op Q) (vA1 w sc op ρ Q) es
structure AnW (op:BoolOp) (es:List Expr) (ρ:aF) (Q:Bool→Hp→Prop) (H:Hp):Prop where
 go:vA w sc op es ρ Q H
noncomputable def vP (e:Option Expr) (ρ:aF) (H:Hp) (K:Option Int→Hp→Prop):Prop:=an (motive:=fun _=>Prop) e (K none H) fun e=>w.e sc e ρ H fun v H1=>js v fun i=>K (some i) H1
noncomputable def vC (ifs:List Expr) (ρ:aF) (H:Hp) (Q:Bool→Hp→Prop):Prop:=ay (motive:=fun _=>Prop) ifs (Q true H) fun c r=>ay (motive:=fun _=>Prop) r (w.b sc c ρ H Q) fun _ _=>False
noncomputable def M4 (Q:Fl→aF→Hp→Prop) (st:Stmt) (_:List Stmt) (ih:aF→Hp→Prop) (ρ:aF) (H:Hp):Prop:=fE ρ fun ρ=>fA H fun H=>StW (w.s sc st ρ H) Q ih
noncomputable def tx (b:List Stmt) (Q:Fl→aF→Hp→Prop):aF→Hp→Prop:=List.rec (motive:=fun _=>aF→Hp→Prop) (Q .next) (M4 w sc Q) b
noncomputable def wH (e:Expr) (ρ:aF) (H:Hp) (Q:List T→Option Nat→Hp→Prop):Prop:=w.e sc e ρ H fun v H1=>K2 H1 v fun ts src=>Q ts src H1
noncomputable def M2 (t:Expr) (x:Str) (args:List Expr) (kws:List Keyword) (dft:Prop) (ρ:aF) (H:Hp) (Q:List T→Option Nat→Hp→Prop):Prop:=
 GK.casesOn (motive:=fun _=>Prop) (B.g x) (fun _=>False) (fun _=>False) (fun _=>dft) (fun _ _=>dft)
  (Br (kws.isEmpty&& !(Nat.beq (ct t) 24 || Nat.beq (ct t) 25)&&args.all jq&&sc.names.lookup x==some .globalImplicit) (ay (motive:=fun _=>Prop) args False fun a r=>ay (motive:=fun _=>Prop) r (w.e sc a ρ H fun v H1=>js v fun b=>Br (tJ b) (Q (eO 0 b.toNat) none H1) False)
   fun b r=>ay (motive:=fun _=>Prop) r (w.e sc a ρ H fun v H1=>w.e sc b ρ H1 fun u H2=>js v fun i=>js u fun j=>Br (tJ i&&tJ j) (Q (eO i (j - i).toNat) none H2) False) fun _ _=>False) False)
  (Br (kws.isEmpty&&Nat.beq (ct t) 25&&args.all jq&&sc.names.lookup x==some .globalImplicit) (one args False fun a=>w.e sc a ρ H fun v H1=>yS v H1 fun d H2=>d.llK False fun ts=>Q (oN ts 0) none H2) False)
  (Br (kws.isEmpty&&Nat.beq (ct t) 25&&args.all jq&&sc.names.lookup x==some .globalImplicit) (two args False fun a b=>w.e sc a ρ H fun v H1=>w.e sc b ρ H1 fun u H2=>nI [v,u] H2 fun ds H3=>two ds False fun d d'=>d.llK False fun xs=>d'.llK False fun ys=>Q (yJ xs ys) none H3) False) False dft False
noncomputable def vI (t e:Expr) (ρ:aF) (H:Hp) (Q:List T→Option Nat→Hp→Prop):Prop:=
 s9 e (wH w sc e ρ H Q) (fun f args kws _=>s9 f (wH w sc e ρ H Q) (fun _ _ _ _=>wH w sc e ρ H Q) (fun _ _ _=>wH w sc e ρ H Q) (fun x _=>M2 B w sc t x args kws (wH w sc e ρ H Q) ρ H Q) (fun _=>wH w sc e ρ H Q) (fun _ _ _=>wH w sc e ρ H Q) fun _ _ _ _=>wH w sc e ρ H Q)
  (fun _ _ _=>wH w sc e ρ H Q) (fun _ _=>wH w sc e ρ H Q) (fun _=>wH w sc e ρ H Q) (fun _ _ _=>wH w sc e ρ H Q) fun _ _ _ _=>wH w sc e ρ H Q
noncomputable def By (elt:Expr) (gs:List Comprehension) (scope:Scope) (ρ:aF) (H:Hp) (K:List T→Hp→Prop):Prop:=
 one gs False fun g=>dd (cT (bC sc scope) false g.target) fun tg=>Br (jq g.iter&&AD (scope.names.map (·.1))&&jz sc scope&&g.is_async==0) (vI B w sc g.target g.iter ρ H fun ts src H1=>xc tg (lK sc scope.names) (vC w (bC sc scope) g.ifs) (w.e (bC sc scope) elt) ρ ts src H1 K) False
noncomputable def FG (x:Str) (ρ:aF) (H:Hp) (Q:V→Hp→Prop):Prop:=
 Br (!(x==("__debug__":Str))&& !(x==("__classdict__":Str))) (an (motive:=fun _=>Prop) (iy sc.names x 0) False fun p=>NameKind.casesOn (motive:=fun _=>Prop) p.2 (dd (nu ρ p.1) fun v=>Q v H) (dd (nu ρ p.1) fun v=>Q v H) (dd (nu ρ p.1) fun v=>Q v H) False (GK.casesOn (motive:=fun _=>Prop) (B.g x) (fun i=>Q (.t (.int i)) H) (fun v=>Q (.t (.raw v)) H) (fun _=>False) (fun _ _=>False) False False False False False False)) False
noncomputable def lE (b:Bn) (args:List Expr) (ρ:aF) (H:Hp) (Q:V→Hp→Prop):Prop:=vL w sc args ρ H fun vs H1=>uY H1 vs fun ds=>Gl C b ds fun q=>lB q H1 Q
noncomputable def BD (y:Str) (args:List Expr) (kws:List Keyword) (dft:Prop) (ρ:aF) (H:Hp) (Q:V→Hp→Prop):Prop:=GK.casesOn (motive:=fun _=>Prop) (B.g y) (fun _=>dft) (fun _=>dft) (fun _=>dft) (fun _ _=>dft)
 (Br (kws.isEmpty&&sc.names.lookup y==some .globalImplicit) (one args False fun e=>Br (jq e) (w.e sc e ρ H fun v H1=>js v fun b=>Br (decide (0≤b)&&decide (b≤1000)) (Q (.ref (eN H1)) ((eN H1, .list (eO 0 b.toNat))::H1)) False) False) False) dft dft dft dft dft
noncomputable def FD (x:Str) (args:List Expr) (ρ:aF) (H:Hp) (Q:V→Hp→Prop):Prop:=
 Br (args.all jq&&sc.names.lookup x==some .globalImplicit&& !(x==("__debug__":Str))) (GK.casesOn (motive:=fun _=>Prop) (B.g x) (fun _=>False) (fun _=>False) (fun b=>lE C w sc b args ρ H Q)
  (fun a s=>iJ (motive:=fun _=>Prop) s (vL w sc args ρ H fun vs H1=>nI vs H1 fun ds H2=>∃r,dE C n (.ref a) ds r∧lB r H2 Q) (vL w sc args ρ H fun vs H1=>q6 C n (.ref a) f8 (za H1 vs) vs H1 Q)) False False False False
  (one args False fun a=>s9 a (lE C w sc .list args ρ H Q) (fun f args2 kws2 _=>s9 f (lE C w sc .list args ρ H Q) (fun _ _ _ _=>lE C w sc .list args ρ H Q) (fun _ _ _=>lE C w sc .list args ρ H Q) (fun y _=>BD B w sc y args2 kws2 (lE C w sc .list args ρ H Q) ρ H Q) (fun _=>lE C w sc .list args ρ H Q) (fun _ _ _=>lE C w sc .list args ρ H Q) fun _ _ _ _=>lE C w sc .list args ρ H Q) (fun _ _ _=>lE C w sc .list args ρ H Q) (fun _ _=>lE C w sc .list args ρ H Q) (fun _=>lE C w sc .list args ρ H Q) (fun _ _ _=>lE C w sc .list args ρ H Q) fun _ _ _ _=>lE C w sc .list args ρ H Q) False) False
noncomputable def vK1 (ρ:aF) (k:Keyword) (_:List Keyword) (ih:Hp→(List V→Hp→Prop)→Prop) (H:Hp) (K:List V→Hp→Prop):Prop:=w.e sc k.value ρ H fun v H1=>ih H1 fun vs H2=>K (v::vs) H2
noncomputable def vK (kws:List Keyword) (ρ:aF):Hp→(List V→Hp→Prop)→Prop:=List.rec (motive:=fun _=>Hp→(List V→Hp→Prop)→Prop) (fun H K=>K [] H) (vK1 w sc ρ) kws
noncomputable def Bw (x:Str) (args:List Expr) (kws:List Keyword) (ρ:aF) (H:Hp) (Q:V→Hp→Prop):Prop:=
 Br (args.isEmpty&&sc.names.lookup x==some .globalImplicit&& !(x==("__debug__":Str))) (dd (xG kws) fun xs=>GK.casesOn (motive:=fun _=>Prop) (B.g x) (fun _=>False) (fun _=>False) (fun _=>False) (fun a _=>vK w sc kws ρ H fun vs H1=>q6 C n (.ref a) (Li xs) (za H1 vs) vs H1 Q) False False False False False False) False
noncomputable def M3 (ρ:aF) (e:Expr×Expr) (_:List (Expr×Expr)) (ih:Hp→(List (V×V)→Hp→Prop)→Prop) (H:Hp) (K:List (V×V)→Hp→Prop):Prop:=w.e sc e.1 ρ H fun v H1=>w.e sc e.2 ρ H1 fun u H2=>ih H2 fun es H3=>K ((v,u)::es) H3
noncomputable def vPs (prs:List (Expr×Expr)) (ρ:aF):Hp→(List (V×V)→Hp→Prop)→Prop:=List.rec (motive:=fun _=>Hp→(List (V×V)→Hp→Prop)→Prop) (fun H K=>K [] H) (M3 w sc ρ) prs
noncomputable def wk (ks:List (Option Expr)):List Expr→Option (List (Expr×Expr)):=List.rec (motive:=fun _=>List Expr→Option (List (Expr×Expr))) (fun vs=>ay (motive:=fun _=>Option (List (Expr×Expr))) vs (some []) fun _ _=>none) (fun k _ ih vs=>ay (motive:=fun _=>Option (List (Expr×Expr))) vs none fun v vs=>k.bind fun k=>(ih vs).map ((k,v):: ·)) ks
noncomputable def GP (e:Expr):Bool:=Expr.casesOn (motive_1:=fun _=>Bool) e (fun _ _ _=>false) (fun _ _ _=>false) (fun _ _ _ _=>false) (fun _ _ _=>false) (fun _ _ _ _=>false) (fun _ _ _ _=>false) (fun _ _ _=>false) (fun _ _ _=>false) (fun _ _ _ _=>false) (fun _ _ _ _=>false) (fun _ _ _ _ _=>false) (fun _ _ _ _=>false) (fun _ _=>false) (fun _ _=>false) (fun _ _=>false) (fun _ _ _ _=>false) (fun _ _ _ _=>false) (fun _ _ _ _=>false) (fun _ _=>false)
 (fun c _ _=>Const.casesOn (motive:=fun _=>Bool) c false (fun _=>false) (fun _=>false) (fun _=>false) (fun _ _=>false) (fun _=>true) (fun _=>false) false) (fun _ _ _=>false) (fun _ _ _=>false) (fun _ _=>false) (fun _ _=>false) (fun _ _=>false) (fun _ _ _=>false) (fun _ _ _ _=>false)
noncomputable def FE (keys:List (Option Expr)) (vals:List Expr) (ρ:aF) (H:Hp) (Q:V→Hp→Prop):Prop:=dd (wk keys vals) fun prs=>ay (motive:=fun _=>Prop) prs (Q (.ref (eN H)) ((eN H, .tdct [])::H)) fun e _=>Br (dm prs.length 15) (vPs w sc prs ρ H fun es H1=>EQ (GP e.1) es H1 Q) False
noncomputable def KY (ρ:aF) (Q:Bool→Hp→Prop) (o:CmpOp) (os:List CmpOp) (ih:List Expr→V→Hp→Prop) (rs:List Expr) (a:V) (H:Hp):Prop:=
 ay (motive:=fun _=>Prop) rs False fun r rs=>ay (motive:=fun _=>Prop) os (ay (motive:=fun _=>Prop) rs (w.e sc r ρ H fun b H2=>qg C o H2 a b fun q=>Q q H2) fun _ _=>False)
  fun _ _=>ay (motive:=fun _=>Prop) rs False fun _ _=>w.e sc r ρ H fun b H2=>qg C o H2 a b fun q=>Br q (ih rs b H2) (Q false H2)
noncomputable def Go (ρ:aF) (Q:Bool→Hp→Prop) (ops:List CmpOp):List Expr→V→Hp→Prop:=List.rec (motive:=fun _=>List Expr→V→Hp→Prop) (fun _ _ _=>False) (KY C w sc ρ Q) ops
noncomputable def HZ (l:Expr) (ops:List CmpOp) (rs:List Expr) (ρ:aF) (H:Hp) (Q:Bool→Hp→Prop):Prop:=Br (rs.all jq&&(Nat.beq ops.length rs.length&&bf 0 ops.length)) (w.e sc l ρ H fun a H1=>Go C w sc ρ Q ops rs a H1) False
noncomputable def uW (v i:Expr) (ρ:aF) (H:Hp) (Q:V→Hp→Prop):Prop:=Br (jq i) (w.e sc v ρ H fun a H1=>w.e sc i ρ H1 fun b H2=>K7 H2 a b Q) False
noncomputable def vE (e:Expr) (ρ:aF) (H:Hp) (Q:V→Hp→Prop):Prop:=
 Expr.casesOn (motive_1:=fun _=>Prop) e
  (fun op es _=>two es False fun a b=>BoolOp.casesOn (motive:=fun _=>Prop) op (w.e sc a ρ H fun v H1=>cK v fun q=>Br q (w.e sc b ρ H1 Q) (Q (.t (.bool false)) H1)) (w.e sc a ρ H fun v H1=>cK v fun q=>Br q (Q (.t (.bool true)) H1) (w.e sc b ρ H1 Q))) (fun _ _ _=>False)
  (fun l op r _=>w.e sc l ρ H fun a H1=>w.e sc r ρ H1 fun b H2=>dd (jQ H2 a) fun da=>dd (jQ H2 b) fun db=>Gk C op da db fun q=>lB q H2 Q)
  (fun op x _=>UnaryOp.casesOn (motive:=fun _=>Prop) op False False False (w.e sc x ρ H fun v H1=>js v fun i=>Q (.t (.int (-i))) H1)) (fun _ _ _ _=>False)
  (fun t b o _=>w.b sc t ρ H fun q H1=>Br q (w.e sc b ρ H1 Q) (w.e sc o ρ H1 Q)) (fun ks vs _=>FE w sc ks vs ρ H Q) (fun _ _ _=>False)
  (fun elt gs scope _=>By B w sc elt gs scope ρ H fun ys H2=>Q (.ref (eN H2)) ((eN H2, .list ys)::H2)) (fun _ _ _ _=>False) (fun _ _ _ _ _=>False) (fun _ _ _ _=>False) (fun _ _=>False) (fun _ _=>False) (fun _ _=>False)
  (fun l ops rs _=>HZ C w sc l ops rs ρ H fun q H1=>Q (.t (.bool q)) H1)
  (fun f args kws pos=>ay (motive:=fun _=>Prop) kws (s9 f False (fun _ _ _ _=>False) (fun o name ap=>Br (oI o&&args.all jq&&bf args.length 30&&ap.endLine==pos.line) (w.e sc o ρ H fun v H1=>mK C n B.mt sc name (fun H2 K=>vL w sc args ρ H2 K) v H1 Q) False) (fun x _=>FD C B n w sc x args ρ H Q) (fun _=>False) (fun _ _ _=>False) fun _ _ _ _=>False) fun _ _=>s9 f False (fun _ _ _ _=>False) (fun _ _ _=>False) (fun x _=>Bw C B n w sc x args kws ρ H Q) (fun _=>False) (fun _ _ _=>False) fun _ _ _ _=>False) (fun _ _ _ _=>False) (fun _ _=>False)
  (fun c _ _=>Const.casesOn (motive:=fun _=>Prop) c (Q (.t .none) H) (fun b=>Q (.t (.bool b)) H) (fun i=>Q (.t (.int i)) H) (fun _=>False) (fun _ _=>False) (fun s=>Q (.t (.str s)) H) (fun _=>False) False)
  (fun o name _=>Br (oI o) (w.e sc o ρ H fun v H1=>ze H1 v name fun Cl u=>Br (B.fl Cl name&&HR u) (Q u H1) False) False)
  (fun v i _=>s9 i (uW w sc v i ρ H Q) (fun _ _ _ _=>uW w sc v i ρ H Q) (fun _ _ _=>uW w sc v i ρ H Q) (fun _ _=>uW w sc v i ρ H Q) (fun _=>uW w sc v i ρ H Q) (fun lo hi st=>w.e sc v ρ H fun a H1=>vP w sc lo ρ H1 fun l H2=>vP w sc hi ρ H2 fun u H3=>vP w sc st ρ H3 fun t H4=>dd (jQ H4 a) fun da=>E9 C da l u t fun q=>lB q H4 Q) fun _ _ _ _=>uW w sc v i ρ H Q) (fun _ _=>False)
  (fun x _=>FG B sc x ρ H Q)
  (fun es _=>Br (es.all jq) (vL w sc es ρ H fun vs H1=>nI vs H1 fun ds H2=>Br (fit ds.length) (Q (.ref (eN H2)) ((eN H2, .list ds)::H2)) False) False)
  (fun es _ _=>Br (es.all jq) (vL w sc es ρ H fun vs H1=>nI vs H1 fun ds H2=>Br (fit ds.length) (Q (.t (.tup ds)) H2) False) False) (fun _ _ _ _=>False)
noncomputable def vB (e:Expr) (ρ:aF) (H:Hp) (Q:Bool→Hp→Prop):Prop:=
 Expr.casesOn (motive_1:=fun _=>Prop) e
  (fun op es _=>AnW w sc op es ρ Q H) (fun _ _ _=>w.e sc e ρ H fun v H1=>cK v fun b=>Q b H1) (fun _ _ _ _=>w.e sc e ρ H fun v H1=>cK v fun b=>Q b H1)
  (fun op x _=>UnaryOp.casesOn (motive:=fun _=>Prop) op False (w.b sc x ρ H fun b H1=>Q (!b) H1) False False) (fun _ _ _ _=>w.e sc e ρ H fun v H1=>cK v fun b=>Q b H1)
  (fun _ _ _ _=>False) (fun _ _ _=>w.e sc e ρ H fun v H1=>cK v fun b=>Q b H1) (fun _ _ _=>w.e sc e ρ H fun v H1=>cK v fun b=>Q b H1) (fun _ _ _ _=>w.e sc e ρ H fun v H1=>cK v fun b=>Q b H1) (fun _ _ _ _=>w.e sc e ρ H fun v H1=>cK v fun b=>Q b H1) (fun _ _ _ _ _=>w.e sc e ρ H fun v H1=>cK v fun b=>Q b H1) (fun _ _ _ _=>w.e sc e ρ H fun v H1=>cK v fun b=>Q b H1) (fun _ _=>w.e sc e ρ H fun v H1=>cK v fun b=>Q b H1) (fun _ _=>w.e sc e ρ H fun v H1=>cK v fun b=>Q b H1) (fun _ _=>w.e sc e ρ H fun v H1=>cK v fun b=>Q b H1)
  (fun l ops rs _=>HZ C w sc l ops rs ρ H Q) (fun _ _ _ _=>w.e sc e ρ H fun v H1=>cK v fun b=>Q b H1) (fun _ _ _ _=>w.e sc e ρ H fun v H1=>cK v fun b=>Q b H1) (fun _ _=>w.e sc e ρ H fun v H1=>cK v fun b=>Q b H1) (fun _ _ _=>w.e sc e ρ H fun v H1=>cK v fun b=>Q b H1) (fun _ _ _=>w.e sc e ρ H fun v H1=>cK v fun b=>Q b H1) (fun _ _ _=>w.e sc e ρ H fun v H1=>cK v fun b=>Q b H1) (fun _ _=>w.e sc e ρ H fun v H1=>cK v fun b=>Q b H1) (fun _ _=>w.e sc e ρ H fun v H1=>cK v fun b=>Q b H1) (fun _ _=>w.e sc e ρ H fun v H1=>cK v fun b=>Q b H1) (fun _ _ _=>w.e sc e ρ H fun v H1=>cK v fun b=>Q b H1) (fun _ _ _ _=>w.e sc e ρ H fun v H1=>cK v fun b=>Q b H1)
noncomputable def LX (scope:Scope) (x:Str) (l1 l2:Nat):Bool:=(sc.names.lookup x==some .local)&&(l1==l2)&& !(scope.names.any fun p=>p.1==x&&(p.2== .local || p.2== .cell))
noncomputable def ng (e:Expr):Bool:=Nat.beq (ct e) 8 || Nat.beq (ct e) 9 || Nat.beq (ct e) 10
noncomputable def pS (i:Nat) (e:Expr) (ρ:aF) (H:Hp) (Q:Fl→aF→Hp→Prop):Prop:=w.e sc e ρ H fun v H1=>fm [i] [v] ρ fun ρ'=>Q .next ρ' H1
noncomputable def LW {P:Type} (e:Expr) (z:P) (k:Expr→Expr→P):P:=Expr.casesOn (motive_1:=fun _=>P) e (fun _ _ _=>z) (fun _ _ _=>z) (fun _ _ _ _=>z) (fun _ _ _=>z) (fun _ _ _ _=>z) (fun _ _ _ _=>z) (fun _ _ _=>z) (fun _ _ _=>z) (fun _ _ _ _=>z) (fun _ _ _ _=>z) (fun _ _ _ _ _=>z) (fun _ _ _ _=>z) (fun _ _=>z) (fun _ _=>z) (fun _ _=>z) (fun _ _ _ _=>z) (fun _ _ _ _=>z) (fun _ _ _ _=>z) (fun _ _=>z) (fun _ _ _=>z) (fun _ _ _=>z)
 (fun o i _=>k o i) (fun _ _=>z) (fun _ _=>z) (fun _ _=>z) (fun _ _ _=>z) (fun _ _ _ _=>z)
theorem Bk {e:Expr} {k:Expr→Expr→Prop} (h:LW e False k):∃o i pos,e= .Subscript o i pos∧k o i:=by
 walk_at "a"
 cases e with
 | Subscript o i pos=>exact⟨o,i,pos,rfl,h⟩
 | _=>exact False.elim h
 walk_at "z"
noncomputable def Kj (ts:List Expr):List T→aF→Hp→(aF→Hp→Prop)→Prop:=List.rec (motive:=fun _=>List T→aF→Hp→(aF→Hp→Prop)→Prop) (fun ds ρ H K=>ay (motive:=fun _=>Prop) ds (K ρ H) fun _ _=>False)
 (fun t _ ih ds ρ H K=>ay (motive:=fun _=>Prop) ds False fun d ds=>s9 t (LW t False fun o ix=>w.e sc o ρ H fun u H1=>w.e sc ix ρ H1 fun i H2=>uP H2 u i (.t d) fun H3=>ih ds ρ H3 K) (fun _ _ _ _=>False) (fun _ _ _=>False) (fun x _=>dd (nw sc true x) fun i=>fm [i] [.t d] ρ fun ρ'=>ih ds ρ' H K) (fun _=>False) (fun _ _ _=>False) fun _ _ _ _=>False) ts
noncomputable def uX (t e:Expr) (ρ:aF) (H:Hp) (Q:Fl→aF→Hp→Prop):Prop:=Br (!ng e&& !(Nat.beq (ct e) 25)) (dd (cT sc true t) fun tg=>w.e sc e ρ H fun v H1=>v.tk False fun d=>gv tg d ρ fun ρ'=>Q .next ρ' H1) False
noncomputable def Kk (ts es:List Expr) (ρ:aF) (H:Hp) (Q:Fl→aF→Hp→Prop):Prop:=Br (es.all jq) (dd (Ix sc ts es) fun sw=>an (motive:=fun _=>Prop) sw
 (an (motive:=fun _=>Prop) (gZ ts) (Br (ts.all Bm) (vL w sc es ρ H fun vs H1=>tu vs fun ds=>Br (fit vs.length&&Nat.beq vs.length ts.length) (Kj w sc ts ds ρ H1 (Q .next)) False) False) fun xs=>dd (mL sc true xs) fun is=>vL w sc es ρ H fun vs H1=>Br (fit vs.length&&Nat.beq vs.length xs.length) (fm is vs ρ fun ρ'=>Q .next ρ' H1) False)
 fun xs=>dd (mL sc true xs.reverse) fun is=>vL w sc es ρ H fun vs H1=>Br (fit vs.length&&Nat.beq vs.length xs.length) (fm is vs.reverse ρ fun ρ'=>Q .next ρ' H1) False) False
noncomputable def LV (v:V) (H:Hp) (K:V→Hp→Prop):Prop:=V.casesOn (motive:=fun _=>Prop) v (fun d=>K (.t d) H) (fun n=>yS (.ref n) H fun d H1=>K (.t d) H1) fun Cl n=>K (.iref Cl n) H
noncomputable def wE (t e:Expr) (ρ:aF) (H:Hp) (Q:Fl→aF→Hp→Prop):Prop:=
 s9 t (LW t False fun o ix=>Br (!ng e) (w.e sc e ρ H fun v H1=>w.e sc o ρ H1 fun u H2=>w.e sc ix ρ H2 fun i H3=>LV v H3 fun v H4=>uP H4 u i v (Q .next ρ)) False) (fun _ _ _ _=>False) (fun o name _=>Br (!ng e) (w.e sc e ρ H fun v H1=>w.e sc o ρ H1 fun u H2=>Fd H2 u fun Cl m es=>Br (B.fl Cl name&&j5 es&&dm es.length 500) (Q .next ρ (gY H2 m (.dict (po es name v)))) False) False)
  (fun x pt=>dd (nw sc true x) fun i=>s9 e (Br (!ng e) (pS w sc i e ρ H Q) False) (fun _ _ _ _=>pS w sc i e ρ H Q) (fun _ _ _=>pS w sc i e ρ H Q) (fun _ _=>pS w sc i e ρ H Q) (fun _=>pS w sc i e ρ H Q) (fun _ _ _=>pS w sc i e ρ H Q)
   fun elt gs scope cpos=>Br (sc.kind== .function) (iJ (motive:=fun _=>Prop) (LX sc scope x pt.line cpos.line) (pS w sc i e ρ H Q) (By B w sc elt gs scope ρ H fun ys H2=>fm [i] [.ref (eN H2)] ρ fun ρ'=>Q .next ρ' ((eN H2, .list ys)::H2))) False)
  (fun ts=>s9 e (uX w sc t e ρ H Q) (fun _ _ _ _=>uX w sc t e ρ H Q) (fun _ _ _=>uX w sc t e ρ H Q) (fun _ _=>uX w sc t e ρ H Q) (fun es=>Kk w sc ts es ρ H Q) (fun _ _ _=>uX w sc t e ρ H Q) fun _ _ _ _=>False)
  (fun _ _ _=>False) fun _ _ _ _=>False
noncomputable def vU1 (t:Expr) (b:List Stmt) (m:List Bool) (Q:Fl→aF→Hp→Prop) (_:Nat) (ih:aF→Hp→Prop) (ρ:aF) (H:Hp):Prop:=IfW (w.b sc t ρ H) fun q H1=>Br q (tx w sc b (o5 Q fun ρ2 H2=>cQ m ρ2 H2 ih) ρ H1) (Q .next ρ H1)
noncomputable def vU (t:Expr) (b:List Stmt) (m:List Bool) (Q:Fl→aF→Hp→Prop) (k:Nat):aF→Hp→Prop:=Nat.rec (motive:=fun _=>aF→Hp→Prop) (fun _ _=>False) (vU1 w sc t b m Q) k
inductive kQ (t:Expr) (b:List Stmt) (ρ:aF) (H:Hp) (Q:Fl→aF→Hp→Prop):Prop
 | mk {σ:Type} (r:σ→aF) (h:σ→Hp) (I:σ→Prop) (μ:σ→Nat) (m:List Bool):(∀s,I s→IfW (w.b sc t (r s) (h s)) fun q H1=>Br q (tx w sc b (o5 Q fun ρ2 H2=>cQ m ρ2 H2 fun ρ3 H3=>∃s',ρ3=r s'∧H3=h s'∧I s'∧μ s' < μ s) (r s) H1) (Q .next (r s) H1))→cQ m ρ H (fun ρ3 H3=>∃s,ρ3=r s∧H3=h s∧I s)→kQ t b ρ H Q
 | un (m:List Bool) (k:Nat):cQ m ρ H (vU w sc t b m Q k)→kQ t b ρ H Q
noncomputable def M1 (t:Expr) (op:Operator) (e:Expr) (ρ:aF) (H:Hp) (Q:Fl→aF→Hp→Prop):Prop:=
 s9 t False (fun _ _ _ _=>False) (fun _ _ _=>False) (fun x _=>Br (!(x==("__classdict__":Str))) (dd (nw sc true x) fun i=>dd (nu ρ i) fun a=>w.e sc e ρ H fun b H1=>a.tk False fun da=>b.tk False fun db=>Gj op da db fun r=>lB r H1 fun v H2=>fm [i] [v] ρ fun ρ'=>Q .next ρ' H2) False) (fun _=>False) (fun _ _ _=>False) fun _ _ _ _=>False
noncomputable def j6 (t e:Expr) (b:List Stmt) (tg:Tg) (ρ:aF) (H:Hp) (Q:Fl→aF→Hp→Prop):Prop:=vI B w sc t e ρ H fun ts src H1=>CV (fun ρ H Q=>tx w sc b Q ρ H) tg Q ts src ρ H1
noncomputable def BA (x:Str) (args:List Expr) (kws:List Keyword) (b:List Stmt) (tg:Tg) (dft:Prop) (ρ:aF) (H:Hp) (Q:Fl→aF→Hp→Prop):Prop:=GK.casesOn (motive:=fun _=>Prop) (B.g x) (fun _=>dft) (fun _=>dft) (fun _=>dft) (fun _ _=>dft) dft dft dft
 (Br (kws.isEmpty&&args.all jq&&sc.names.lookup x==some .globalImplicit) (one args False fun a=>w.e sc a ρ H fun v H1=>v.tk False fun d=>d.dctK False fun es=>Bf (es.map (·.1)) fun ts=>CV (fun ρ H Q=>tx w sc b Q ρ H) tg Q ts none ρ H1) False) dft dft
noncomputable def Kf (t e:Expr) (b:List Stmt) (tg:Tg) (ρ:aF) (H:Hp) (Q:Fl→aF→Hp→Prop):Prop:=
 s9 e (j6 B w sc t e b tg ρ H Q) (fun f args kws _=>s9 f (j6 B w sc t e b tg ρ H Q) (fun _ _ _ _=>j6 B w sc t e b tg ρ H Q) (fun _ _ _=>j6 B w sc t e b tg ρ H Q) (fun x _=>BA B w sc x args kws b tg (j6 B w sc t e b tg ρ H Q) ρ H Q) (fun _=>j6 B w sc t e b tg ρ H Q) (fun _ _ _=>j6 B w sc t e b tg ρ H Q) fun _ _ _ _=>j6 B w sc t e b tg ρ H Q)
  (fun _ _ _=>j6 B w sc t e b tg ρ H Q) (fun _ _=>j6 B w sc t e b tg ρ H Q) (fun _=>j6 B w sc t e b tg ρ H Q) (fun _ _ _=>j6 B w sc t e b tg ρ H Q) fun _ _ _ _=>j6 B w sc t e b tg ρ H Q
noncomputable def ml (e:Expr) (ρ:aF) (H:Hp) (Q:Fl→aF→Hp→Prop):Prop:=Br (!ng e) (w.e sc e ρ H fun v H1=>AR v (Q .next ρ H1)) False
noncomputable def Ki (o:Expr) (b:Bool) (dft:Prop) (ρ:aF) (H:Hp) (Q:Fl→aF→Hp→Prop):Prop:=s9 o False (fun _ _ _ _=>False) (fun _ _ _=>False) (fun x _=>Br (b&& !(x==("__debug__":Str))&& !(x==("__classdict__":Str))) (dd (iy sc.names x 0) fun p=>Br (p.2== .local || p.2== .cell || p.2== .free) (dd (nu ρ p.1) fun v=>v.rk False fun m=>ww Q ρ H m) False) False) (fun _=>False) (fun _ _ _=>False) fun _ _ _ _=>False
noncomputable def vEx (e:Expr) (ρ:aF) (H:Hp) (Q:Fl→aF→Hp→Prop):Prop:=
 s9 e (ml w sc e ρ H Q) (fun f args kws pos=>s9 f (ml w sc e ρ H Q) (fun _ _ _ _=>ml w sc e ρ H Q) (fun o name ap=>iJ (motive:=fun _=>Prop) (name==("sort":Str)) (ml w sc e ρ H Q) (Ki sc o (args.isEmpty&&kws.isEmpty&&ap.endLine==pos.line) (ml w sc e ρ H Q) ρ H Q)) (fun _ _=>ml w sc e ρ H Q) (fun _=>ml w sc e ρ H Q) (fun _ _ _=>ml w sc e ρ H Q) fun _ _ _ _=>ml w sc e ρ H Q)
  (fun _ _ _=>ml w sc e ρ H Q) (fun _ _=>ml w sc e ρ H Q) (fun _=>ml w sc e ρ H Q) (fun _ _ _=>ml w sc e ρ H Q) fun _ _ _ _=>ml w sc e ρ H Q
noncomputable def vS (st:Stmt) (ρ:aF) (H:Hp) (Q:Fl→aF→Hp→Prop):Prop:=
 Stmt.casesOn (motive_2:=fun _=>Prop) st (fun _ _ _ _ _ _ _ _ _ _=>False) (fun _ _ _ _ _ _ _ _ _ _=>False) (fun _ _ _ _ _ _ _ _ _ _ _=>False)
  (fun e _=>an (motive:=fun _=>Prop) e (Q (.ret (.t .none)) ρ H) fun e=>w.e sc e ρ H fun v H1=>Q (.ret v) ρ H1) (fun _ _=>False)
  (fun ts e _=>one ts False fun t=>wE B w sc t e ρ H Q) (fun _ _ _ _ _ _ _=>False)
  (fun t op e _=>M1 w sc t op e ρ H Q) (fun _ _ _ _ _=>False)
  (fun t e b o _=>ay (motive:=fun _=>Prop) o (dd (cT sc true t) fun tg=>Br (jq e) (Kf B w sc t e b tg ρ H Q) False) fun _ _=>False) (fun _ _ _ _ _=>False)
  (fun t b o _=>ay (motive:=fun _=>Prop) o (kQ w sc t b ρ H Q) fun _ _=>False)
  (fun t b o _=>IfW (w.b sc t ρ H) fun q H1=>Br q (tx w sc b Q ρ H1) (tx w sc o Q ρ H1)) (fun _ _ _=>False) (fun _ _ _=>False) (fun _ _ _=>False) (fun _ _ _=>False) (fun _ _ _ _ _=>False) (fun _ _ _ _ _=>False) (fun _ _ _=>False) (fun _ _=>False) (fun _ _ _ _=>False) (fun _ _=>False) (fun _ _=>False)
  (fun e _=>vEx w sc e ρ H Q)
  (fun _=>Q .next ρ H)
  (fun _=>Q .brk ρ H)
  (fun _=>Q .cont ρ H)
noncomputable def vc0:Vc:=⟨fun _ _ _ _ _=>False,fun _ _ _ _ _=>False,fun _ _ _ _ _=>False⟩
noncomputable def vc1 (_:Nat) (w:Vc):Vc:=⟨vE C B n w,vB C w,vS B w⟩
noncomputable def vc (k:Nat):Vc:=Nat.rec (motive:=fun _=>Vc) vc0 (vc1 C B n) k
end
noncomputable def yV (C:Cx) (x:Str) (k:GK):Prop:=GK.casesOn (motive:=fun _=>Prop) k (fun i=>∃t,C.mg x=some (.int i t)) (fun v=>C.mg x=none∧bootBuiltins x=some v∧x≠"__name__"∧∃s,v= .type s) (fun b=>C.mg x=none∧bootBuiltins x=some b.val∧x≠"__name__") (fun a _=>C.mg x=some (.ref a)∧hU C (.ref a))
 (x="range"∧C.mg x=none) (x="enumerate"∧C.mg x=none) (x="zip"∧C.mg x=none) (x="sorted"∧C.mg x=none) (x="list"∧C.mg x=none) True
structure lU (C:Cx) (B:Tb):Prop where
 f:eu C
 g:∀x,yV C x (B.g x)
 mt:∀Cl name p,B.mt Cl name=some p→FN C Cl name p.1∧hU C (.ref p.1)
 fl:∀Cl name,B.fl Cl name=true→KM C Cl name∧FP C Cl name
structure mv (C:Cx) (n:Nat) (w:Vc):Prop where
 e:∀{sc e ρ H Q},w.e sc e ρ H Q→WE C sc n e ρ H Q
 b:∀{sc e ρ H Q},w.b sc e ρ H Q→WB C sc n e ρ H Q
 s:∀{sc st ρ H Q},w.s sc st ρ H Q→WX C sc n st ρ H Q
section
variable {C:Cx} {B:Tb} {n:Nat} {w:Vc} {sc:Scope} {ρ:aF} {H:Hp}
theorem mV (O:mv C n w) {es:List Expr} (ho:es.all jq=true):∀{H:Hp} {K:List V→Hp→Prop},vL w sc es ρ H K→WL C sc n es ρ H K:=by
 induction es with
 | nil=>exact fun {H K} h=>oH h
 | cons e r ih=>
  have ho:=aa.mp (show(jq e&&r.all jq)=true from ho)
  exact fun {H K} h=>jx (fun env=>gk ho.1 r env) (WE.mono (O.e h) fun v H1 h=>ih ho.2 h)
theorem Kc (O:mv C n w) {op:BoolOp} {es:List Expr} {Q:Bool→Hp→Prop}:∀{H:Hp},vA w sc op es ρ Q H→WA C sc n op es ρ H Q:=by
 walk_at "a"
 induction es with
 | nil=>
  intro H h
  cases op with
  | And=>exact tO h
  | Or=>exact wR h
 | cons e r ih=>
  intro H h
  cases op with
  | And=>exact FS (WB.mono (O.b h) fun b H1 q=>Br.imp q ih id)
  | Or=>exact IC (WB.mono (O.b h) fun b H1 q=>Br.imp q id ih)
 walk_at "z"
theorem BG (O:mv C n w) {e:Option Expr} {K:Option Int→Hp→Prop} (h:vP w sc e ρ H K):WP C sc n e ρ H K:=by
 cases e with
 | none=>exact h
 | some e=>exact O.e (e:=e) h
theorem FC (O:mv C n w) {ifs:List Expr} {ρ:aF} {H:Hp} {Q:Bool→Hp→Prop} (h:vC w sc ifs ρ H Q):WC C sc n ifs ρ H Q:=by
 walk_at "a"
 cases ifs with
 | nil=>exact h
 | cons c r=>cases r with
  | nil=>exact O.b (e:=c) h
  | cons _ _=>exact h
 walk_at "z"
theorem z5 {m:List Bool} {b:List Stmt} {Q:Fl→aF→Hp→Prop} (h:cQ m ρ H fun ρ' H'=>WS C sc n b ρ' H' Q):WS C sc n b ρ H Q:=fun F p oc fr R P k=>kq fr R h fun ρ' H' p' es st fr' _ h=>by
 rw [←es]
 exact h F p' oc fr' st.rel P (SK.up (val:=F.val) st k)
theorem jP (O:mv C n w) {b:List Stmt} {Q:Fl→aF→Hp→Prop}:∀{ρ:aF} {H:Hp},tx w sc b Q ρ H→WS C sc n b ρ H Q:=by
 walk_at "a"
 induction b with
 | nil=>exact fun {ρ H} h=>Gd h
 | cons st r ih=>
  intro ρ H h
  cases (jn (K:=fun H=>StW (w.s sc st ρ H) Q (tx w sc r Q)) (cq (K:=fun ρ=>fA H fun H=>StW (w.s sc st ρ H) Q (tx w sc r Q)) h)) with
  | mk h=>
   refine qP (WX.mono (O.s h) fun f ρ' H' q=>?_)
   cases f with
   | next=>exact ih q
   | _=>exact q
  | can m h=>
   refine qP (WX.mono (O.s h) fun f ρ' H' q=>?_)
   cases f with
   | next=>exact z5 (fL q fun _ _=>ih)
   | _=>exact q
 walk_at "z"
theorem I1 (TB:lU C B) (O:mv C n w) {t:Expr} {x:Str} {p0 pos:Pos} {args:List Expr} {kws:List Keyword} {dft:Prop} {Q:List T→Option Nat→Hp→Prop} (h:M2 B w sc t x args kws dft ρ H Q) (kd:dft→WI C sc n t (.Call (.Name x p0) args kws pos) ρ H Q):WI C sc n t (.Call (.Name x p0) args kws pos) ρ H Q:=by
 walk_at "a"
 have g:=TB.g x
 have low:∀{b:Bool} {P:Prop},Br (kws.isEmpty&&b&&args.all jq&&sc.names.lookup x==some .globalImplicit) P False→kws=[]∧b=true∧args.all jq=true∧sc.names.lookup x=some .globalImplicit∧P:=fun h=>by
  obtain⟨q,h⟩:=Br.yes h
  have q:=aa.mp q
  have r:=ko q.1
  exact⟨ec.mp r.1,r.2.1,r.2.2,beq_iff_eq.mp q.2,h⟩
 have st1:∀{a:Expr},[a].all jq=true→∀env:Env,starEach [a] env=[(false,eval a env)]:=fun h env=>gk (aa.mp h).1 [] env
 have st2:∀{a b:Expr},[a,b].all jq=true→jq b=true∧∀env:Env,starEach [a,b] env=(false,eval a env)::starEach [b] env:=fun h=>⟨(aa.mp (aa.mp h).2).1,fun env=>gk (aa.mp h).1 _ env⟩
 unfold M2 at h
 cases k:B.g x with
 | int i=>rw [k] at h;exact False.elim h
 | raw i=>rw [k] at h;exact False.elim h
 | no=>rw [k] at h;exact False.elim h
 | srt=>rw [k] at h;exact False.elim h
 | lst=>rw [k] at h;exact kd h
 | blt i=>rw [k] at h;exact kd h
 | fn i j=>rw [k] at h;exact kd h
 | rng=>
  rw [k] at h g
  obtain⟨e1,h1,h2,h3,h4⟩:=low h
  obtain⟨e2,g⟩:=g
  clear h low kd k
  subst e1 e2
  have h1:(Nat.beq (ct t) 24 || Nat.beq (ct t) 25)=false:=by revert h1;cases (Nat.beq (ct t) 24 || Nat.beq (ct t) 25) <;> first | exact fun _=>rfl | exact nofun
  cases args with
  | nil=>exact False.elim h4
  | cons a r=>cases r with
   | nil=>exact Ch TB.f h3 g (Ft h1) (st1 h2) (O.e h4)
   | cons b r=>cases r with
    | cons _ _=>exact False.elim h4
    | nil=>exact Ci TB.f h3 g (Ft h1) (st2 h2).2 (fun env=>gk (st2 h2).1 [] env) (jx (st2 h2).2 (WE.mono (O.e h4) fun v H1 h=>jx (fun env=>gk (st2 h2).1 [] env) (WE.mono (O.e h) fun u H2 h=>oH (by
     obtain⟨i,ei,hi⟩:=mO h
     obtain⟨j,ej,hj⟩:=mO hi
     exact⟨i,j,by rw [ei,ej],hj⟩))))
 | enm=>
  rw [k] at h g
  obtain⟨e1,h1,h2,h3,h4⟩:=low h
  obtain⟨e2,g⟩:=g
  clear h low kd k
  obtain⟨a,e3,h4⟩:=gI h4
  obtain⟨_,_,_,e4⟩:=A4 h1
  subst e1 e2 e3 e4
  exact Cg TB.f h3 g (st1 h2) (O.e h4)
 | zip=>
  rw [k] at h g
  obtain⟨e1,h1,h2,h3,h4⟩:=low h
  obtain⟨e2,g⟩:=g
  clear h low kd k
  obtain⟨a,b,e3,h4⟩:=rT h4
  obtain⟨_,_,_,e4⟩:=A4 h1
  subst e1 e2 e3 e4
  exact Gb TB.f h3 g (st2 h2).2 (fun env=>gk (st2 h2).1 [] env) (jx (st2 h2).2 (WE.mono (O.e h4) fun v H1 h=>jx (fun env=>gk (st2 h2).1 [] env) (WE.mono (O.e h) fun u H2 h=>oH h)))
 walk_at "z"
theorem FF (TB:lU C B) (O:mv C n w) {t e:Expr} {Q:List T→Option Nat→Hp→Prop} (h:vI B w sc t e ρ H Q):WI C sc n t e ρ H Q:=by
 walk_at "a"
 have dft:wH w sc e ρ H Q→WI C sc n t e ρ H Q:=fun h=>Ga (O.e h)
 refine eV (G:=fun e'=>e'=e→WI C sc n t e' ρ H Q) h (fun h _=>dft h) (fun f args kws pos h eq=>?_) (fun _ _ _ h q=>by rw [q];exact dft h) (fun _ _ h q=>by rw [q];exact dft h) (fun _ _ _ h q=>by rw [q];exact dft h) (fun _ _ _ _ h q=>by rw [q];exact dft h) (fun _ _ _ _ h q=>by rw [q];exact dft h) rfl
 exact eV (G:=fun f'=>f'=f→WI C sc n t (.Call f' args kws pos) ρ H Q) h (fun h _=>by rw [eq];exact dft h) (fun _ _ _ _ h q=>by rw [q,eq];exact dft h) (fun _ _ _ h q=>by rw [q,eq];exact dft h) (fun x p0 h q=>I1 TB O h fun h=>by rw [q,eq];exact dft h) (fun _ _ _ h q=>by rw [q,eq];exact dft h) (fun _ _ _ _ h q=>by rw [q,eq];exact dft h) (fun _ _ _ _ h q=>by rw [q,eq];exact dft h) rfl
 walk_at "z"
theorem tw (TB:lU C B) (O:mv C n w) {elt:Expr} {gs:List Comprehension} {scope:Scope} {K:List T→Hp→Prop} (h:By B w sc elt gs scope ρ H K):∃t iter ifs tg,gs=[⟨t,iter,ifs,0⟩]∧cT (bC sc scope) false t=some tg∧jq iter=true∧(scope.names.map (·.1)).Nodup∧jz sc scope=true∧
 WI C sc n t iter ρ H fun ts src H1=>xc tg (lK sc scope.names) (vC w (bC sc scope) ifs) (w.e (bC sc scope) elt) ρ ts src H1 K:=by
 walk_at "a"
 obtain⟨g,rfl,h⟩:=gI h
 obtain⟨t,iter,ifs,as⟩:=g
 refine dd.elim h fun tg e h=>?_
 obtain⟨q,h⟩:=Br.yes h
 have q:=aa.mp q
 have r:=ko q.1
 cases beq_iff_eq.mp q.2
 exact⟨t,iter,ifs,tg,rfl,e,r.1,ox r.2.1,r.2.2,FF TB O h⟩
 walk_at "z"
end
section
variable {C:Cx} {B:Tb} {n:Nat} {w:Vc} {sc:Scope} {ρ:aF} {H:Hp}
theorem BF (TB:lU C B) {x:Str} {pos:Pos} {Q:V→Hp→Prop} (h:FG B sc x ρ H Q):WE C sc n (.Name x pos) ρ H Q:=by
 walk_at "a"
 obtain⟨q,h⟩:=Br.yes h
 have q:=aa.mp q
 have d1:=kI q.1
 have d2:=kI q.2
 cases e:iy sc.names x 0 with
 | none=>rw [e] at h;exact False.elim h
 | some p=>
  rw [e] at h
  obtain⟨i,k⟩:=p
  cases k with
  | globalExplicit=>exact False.elim h
  | globalImplicit=>
   have g:=TB.g x
   have hx:=(jD e).2.2
   cases k:B.g x with
   | int j=>rw [k] at h g;obtain⟨t,g⟩:=g;exact fun F p fr R P kk=>l8 TB.f fr R hx g d1 (kk _ p _ H (.refl R) (TR.vri (.int j t)) h)
   | raw v=>rw [k] at h g;exact fun F p fr R P kk=>fK TB.f fr R hx g.1 g.2.1 d1 g.2.2.1 (kk _ p _ H (.refl R) (TR.vri (.raw v)) h)
   | _=>rw [k] at h;exact False.elim h
  | _=>exact G3 e rfl d1 d2 h
 walk_at "z"
theorem wF (TB:lU C B) (O:mv C n w) {x:Str} {p0 pos:Pos} {args:List Expr} {b:Bn} {Q:V→Hp→Prop} (hx:sc.names.lookup x=some .globalImplicit) (ho:args.all jq=true) (d:(x==("__debug__":Str))=false) (g:C.mg x=none∧bootBuiltins x=some b.val∧x≠"__name__") (h:lE C w sc b args ρ H Q):WE C sc n (.Call (.Name x p0) args [] pos) ρ H Q:=
 FY TB.f hx g.1 g.2.1 d g.2.2 (kJ ho) (mV O ho h)
theorem BE (TB:lU C B) (O:mv C n w) {y:Str} {p0 p1 p2 pos:Pos} {args:List Expr} {kws:List Keyword} {dft:Prop} {Q:V→Hp→Prop} (hx:sc.names.lookup ("list":Str)=some .globalImplicit) (hg:C.mg ("list":Str)=none) (kd:dft→WE C sc n (.Call (.Name "list" p0) [.Call (.Name y p1) args kws p2] [] pos) ρ H Q) (h0:BD B w sc y args kws dft ρ H Q):WE C sc n (.Call (.Name "list" p0) [.Call (.Name y p1) args kws p2] [] pos) ρ H Q:=by
 walk_at "a"
 have g:=TB.g y
 unfold BD at h0
 cases k:B.g y with
 | rng=>
  rw [k] at h0 g
  obtain⟨e1,g⟩:=g
  obtain⟨q,h1⟩:=Br.yes h0
  have q:=aa.mp q
  obtain⟨e,e2,h2⟩:=gI h1
  obtain⟨q2,h3⟩:=Br.yes h2
  have e3:=ec.mp q.1
  have q3:=beq_iff_eq.mp q.2
  clear kd k q h0 h1 h2
  subst e1 e2 e3
  exact C9 TB.f q3 hx g hg q2 (O.e h3)
 | _=>rw [k] at h0;exact kd h0
 walk_at "z"
theorem Bx (TB:lU C B) (O:mv C n w) {x:Str} {p0 pos:Pos} {args:List Expr} {Q:V→Hp→Prop} (h0:FD C B n w sc x args ρ H Q):WE C sc n (.Call (.Name x p0) args [] pos) ρ H Q:=by
 walk_at "a"
 obtain⟨q,h⟩:=Br.yes h0
 clear h0
 have q:=ko q
 have g:=TB.g x
 have hx:=beq_iff_eq.mp q.2.1
 have d:=kI q.2.2
 cases k:B.g x with
 | blt b=>rw [k] at h g;exact wF TB O hx q.1 d g h
 | fn a s=>
  rw [k] at h g
  cases s with
  | false=>exact ID TB.f hx g.1 g.2 d (kJ q.1) (mV O q.1 h)
  | true=>exact G0 TB.f hx g.1 g.2 d (kJ q.1) (mV O q.1 h)
 | lst=>
  rw [k] at h g
  obtain⟨e1,g⟩:=g
  obtain⟨a,e2,h2⟩:=gI h
  clear h
  have q1:=q.1
  clear q k
  subst e1 e2
  have dft:lE C w sc .list [a] ρ H Q→WE C sc n (.Call (.Name "list" p0) [a] [] pos) ρ H Q:=fun h=>wF TB O hx q1 d ⟨g,rfl,by decide⟩ h
  refine eV (G:=fun a'=>a'=a→WE C sc n (.Call (.Name "list" p0) [a'] [] pos) ρ H Q) h2 (fun h _=>dft h) (fun f args kws pos h eq=>?_) (fun _ _ _ h q=>by rw [q];exact dft h) (fun _ _ h q=>by rw [q];exact dft h) (fun _ _ _ h q=>by rw [q];exact dft h) (fun _ _ _ _ h q=>by rw [q];exact dft h) (fun _ _ _ _ h q=>by rw [q];exact dft h) rfl
  exact eV (G:=fun f'=>f'=f→WE C sc n (.Call (.Name "list" p0) [.Call f' args kws pos] [] _) ρ H Q) h (fun h _=>by rw [eq];exact dft h) (fun _ _ _ _ h q=>by rw [q,eq];exact dft h) (fun _ _ _ h q=>by rw [q,eq];exact dft h) (fun x p0 h q=>BE TB O hx g (fun h=>by rw [q,eq];exact dft h) h) (fun _ _ _ h q=>by rw [q,eq];exact dft h) (fun _ _ _ _ h q=>by rw [q,eq];exact dft h) (fun _ _ _ _ h q=>by rw [q,eq];exact dft h) rfl
 | _=>rw [k] at h;exact False.elim h
 walk_at "z"
theorem Kg (O:mv C n w) {kws:List Keyword}:∀{H:Hp} {xs:List Str} {K:List V→Hp→Prop},xG kws=some xs→vK w sc kws ρ H K→WK C sc n kws ρ H K:=by
 walk_at "a"
 induction kws with
 | nil=>exact fun {H xs K} _ h=>Gc h
 | cons k r ih=>
  intro H xs K e h
  obtain⟨x,h1,h2⟩:=bg.mp (show(k.arg.bind fun x=>(xG r).map (x:: ·))=some xs from e)
  obtain⟨ys,h3,_⟩:=aE.mp h2
  exact Cj (by rw [h1];rfl) (WE.mono (O.e h) fun v H1 h=>ih h3 h)
 walk_at "z"
theorem yz (TB:lU C B) (O:mv C n w) {x:Str} {p0 pos:Pos} {args:List Expr} {kws:List Keyword} {Q:V→Hp→Prop} (h0:Bw C B n w sc x args kws ρ H Q):WE C sc n (.Call (.Name x p0) args kws pos) ρ H Q:=by
 walk_at "a"
 obtain⟨q,h⟩:=Br.yes h0
 clear h0
 have q:=ko q
 have e:=ec.mp q.1
 have q2:=beq_iff_eq.mp q.2.1
 have q3:=kI q.2.2
 subst e
 refine dd.elim h fun xs hn h=>?_
 have g:=TB.g x
 cases k:B.g x with
 | fn a s=>rw [k] at h g;exact FZ TB.f q2 g.1 g.2 q3 hn (Kg O hn h)
 | _=>rw [k] at h;exact False.elim h
 walk_at "z"
theorem I2 (O:mv C n w) {prs:List (Expr×Expr)}:∀{H:Hp} {K:List (V×V)→Hp→Prop},vPs w sc prs ρ H K→Ik C sc n prs ρ H K:=by
 induction prs with
 | nil=>exact fun {H K} h=>Ck h
 | cons e r ih=>
  obtain⟨a,b⟩:=e
  exact fun {H K} h=>z4 (WE.mono (O.e h) fun v H1 h=>WE.mono (O.e h) fun u H2 h=>ih h)
theorem yg {pos:Pos} {env:Env} {ks:List (Option Expr)}:∀{vs:List Expr} {prs:List (Expr×Expr)},wk ks vs=some prs→(evalEachOpt ks env).zip ((evalEach vs env).map fun v=>do let x ←v;standAt pos;pure x)=(prs.map (mM env pos)).map fun p=>(some p.1,p.2):=by
 walk_at "a"
 induction ks with
 | nil=>intro vs prs h;cases vs with
  | nil=>cases h;rfl
  | cons _ _=>cases h
 | cons k r ih=>intro vs prs h;cases vs with
  | nil=>cases h
  | cons v vs=>
   obtain⟨k',rfl,h2⟩:=bg.mp (show(k.bind fun k=>(wk r vs).map ((k,v):: ·))=some prs from h)
   obtain⟨ps,h3,rfl⟩:=aE.mp h2
   exact congrArg (((some (eval k' env),do let x ←eval v env;standAt pos;pure x):Option (Sem Value)×Sem Value):: ·) (ih h3)
 walk_at "z"
theorem Bz (O:mv C n w) {keys:List (Option Expr)} {vals:List Expr} {pos:Pos} {Q:V→Hp→Prop} (h:FE w sc keys vals ρ H Q):WE C sc n (.Dict keys vals pos) ρ H Q:=by
 walk_at "a"
 refine dd.elim h fun prs hp h=>?_
 cases prs with
 | nil=>
  cases keys with
  | nil=>cases vals with
   | nil=>exact yZ h
   | cons _ _=>cases hp
  | cons k r=>cases vals with
   | nil=>cases hp
   | cons v vs=>
    obtain⟨k',rfl,h2⟩:=bg.mp (show(k.bind fun k=>(wk r vs).map ((k,v):: ·))=some [] from hp)
    obtain⟨ps,h3,h4⟩:=aE.mp h2
    cases h4
 | cons e r=>
  obtain⟨q,h⟩:=Br.yes h
  exact C8 (fun env=>yg hp) nofun (al q) (I2 O h)
 walk_at "z"
theorem Dj {ops:List CmpOp}:∀{rs:List Expr},rs.all jq=true→lastMarks ops rs=false:=by
 induction ops with
 | nil=>intro rs _;cases rs <;> rfl
 | cons o ops ih=>
  intro rs h
  cases rs with
  | nil=>cases ops <;> rfl
  | cons r rs=>
   have h:=aa.mp (show(jq r&&rs.all jq)=true from h)
   cases ops with
   | nil=>cases rs with
    | nil=>exact JM h.1 o
    | cons _ _=>rfl
   | cons o' ops=>exact ih h.2
theorem EO (O:mv C n w) {Q:Bool→Hp→Prop} {F:Fm} {pos:Pos} {ops:List CmpOp}:∀{rs:List Expr} {a:V} {ca:Value} {H:Hp} {p:Pt},Go C w sc ρ Q ops rs a H→FR C sc (n+2) ρ F H p→bc C F.g H p→eC C H p a ca→
 (∀P:Bool→Shared→Prop,(∀b p' H',f5 C F.g H p H' p'→Q b H'→P b p'.s)→Wp C F.A (testChain pos ca ops (evalEach rs F.env)) P p.s)∧(∀P:Value→Shared→Prop,(∀b p' H',f5 C F.g H p H' p'→Q b H'→P (.bool b) p'.s)→Wp C F.A (compareChain pos ca ops (evalEach rs F.env)) P p.s):=by
 walk_at "a"
 induction ops with
 | nil=>exact fun h=>False.elim h
 | cons o os ih=>
  intro rs a ca H p h fr R va
  cases rs with
  | nil=>exact False.elim h
  | cons r rs=>
  cases os with
  | nil=>cases rs with
   | cons _ _=>exact False.elim h
   | nil=>
    have h:WE C sc n r ρ H fun b H2=>qg C o H2 a b fun q=>Q q H2:=O.e h
    refine⟨fun P k=>?_,fun P k=>chain_last (h F p fr R _ fun cb p2 b H2 st2 vb h2=>jm (fr.step st2) st2.rel h2 (va.step st2) vb fun q p3 st3 h3=>k q p3 H2 (st2.trans st3) h3)⟩
    show Wp C F.A (do
     let rv ←holding [ca] (eval r F.env)
     standAt pos
     let c ←operate [ca,rv] (compareOp o ca rv)
     holding [c] (truthy c)) P _
    exact wpAny_bind (wpAny_holding (h F p fr R _ fun cb p2 b H2 st2 vb h2=>wpAny_bind (wpAny_standAt (wpAny_bind (wpAny_operate' (jm (fr.step st2) st2.rel h2 (va.step st2) vb fun q p3 st3 h3=>wpAny_holding (wpAny_truthy_bool (k q p3 H2 (st2.trans st3) h3))))))))
  | cons o' os=>cases rs with
   | nil=>exact False.elim h
   | cons r' rs=>
    have h:WE C sc n r ρ H fun b H2=>qg C o H2 a b fun q=>Br q (Go C w sc ρ Q (o'::os) (r'::rs) b H2) (Q false H2):=O.e h
    refine⟨fun P k=>test_link (h F p fr R _ fun cb p2 b H2 st2 vb h2=>jm (fr.step st2) st2.rel h2 (va.step st2) vb fun q p3 st3 h3=>wpAny_truthy_bool ?_),fun P k=>chain_link (h F p fr R _ fun cb p2 b H2 st2 vb h2=>jm (fr.step st2) st2.rel h2 (va.step st2) vb fun q p3 st3 h3=>wpAny_truthy_bool ?_)⟩
    · cases q with
      | false=>exact k false p3 H2 (st2.trans st3) h3
      | true=>exact(ih (show Go C w sc ρ Q (o'::os) (r'::rs) b H2 from h3) ((fr.step st2).step st3) st3.rel (vb.step st3)).1 P fun b p' H' st q=>k b p' H' ((st2.trans st3).trans st) q
    · cases q with
      | false=>exact k false p3 H2 (st2.trans st3) h3
      | true=>exact(ih (show Go C w sc ρ Q (o'::os) (r'::rs) b H2 from h3) ((fr.step st2).step st3) st3.rel (vb.step st3)).2 P fun b p' H' st q=>k b p' H' ((st2.trans st3).trans st) q
 walk_at "z"
theorem wG (O:mv C n w) {l:Expr} {ops:List CmpOp} {rs:List Expr} {pos:Pos} {Q:Bool→Hp→Prop} (h:HZ C w sc l ops rs ρ H Q):WB C sc n (.Compare l ops rs pos) ρ H Q∧∀{Q':V→Hp→Prop},(∀b H',Q b H'→Q' (.t (.bool b)) H')→WE C sc n (.Compare l ops rs pos) ρ H Q':=by
 walk_at "a"
 obtain⟨q,h⟩:=Br.yes h
 have q:=aa.mp q
 have s:=aa.mp q.2
 have h:WE C sc n l ρ H fun a H1=>Go C w sc ρ Q ops rs a H1:=O.e h
 have m:=Dj (ops:=ops) q.1
 cases ops with
 | nil=>exact absurd s.2 cO
 | cons o os=>
 cases rs with
 | nil=>exact absurd s.1 cO
 | cons r rs=>
 cases os with
 | nil=>
  cases rs with
  | cons _ _=>exact absurd s.1 cO
  | nil=>
   have h (a:V) (H1:Hp) (h:Go C w sc ρ Q [o] [r] a H1):WE C sc n r ρ H1 fun b H2=>qg C o H2 a b fun q=>Q q H2:=O.e (show w.e sc r ρ H1 _ from h)
   rename_i h0
   exact⟨fun F p fr R P k=>wpAny_isTrue_Compare1 (h0 F p fr R _ fun ca p1 a H1 st1 va h1=>h a H1 h1 F p1 (fr.step st1) st1.rel _ fun cb p2 b H2 st2 vb h2=>jm ((fr.step st1).step st2) st2.rel h2 (va.step st2) vb fun q p3 st3 h3=>wpAny_truthy_bool (k q p3 H2 ((st1.trans st2).trans st3) h3)) m,
    fun l F p fr R P k=>wpAny_Compare1 (h0 F p fr R _ fun ca p1 a H1 st1 va h1=>h a H1 h1 F p1 (fr.step st1) st1.rel _ fun cb p2 b H2 st2 vb h2=>jm ((fr.step st1).step st2) st2.rel h2 (va.step st2) vb fun q p3 st3 h3=>k _ p3 _ H2 ((st1.trans st2).trans st3) (TR.vri (.bool q)) (l _ _ h3)) m⟩
 | cons o' os=>
 cases rs with
 | nil=>exact absurd s.1 cO
 | cons r' rs=>
  exact⟨fun F p fr R P k=>isTrue_chain (h F p fr R _ fun ca p1 a H1 st1 va h1=>(EO O h1 (fr.step st1) st1.rel va).1 P fun b p' H' st q=>k b p' H' (st1.trans st) q) m,
   fun l F p fr R P k=>Compare_chain (h F p fr R _ fun ca p1 a H1 st1 va h1=>(EO O h1 (fr.step st1) st1.rel va).2 P fun b p' H' st q=>k _ p' _ H' (st1.trans st) (TR.vri (.bool b)) (l _ _ q)) m⟩
 walk_at "z"
theorem lu (O:mv C n w) {v i:Expr} {pos:Pos} {Q:V→Hp→Prop} (h:uW w sc v i ρ H Q):WE C sc n (.Subscript v i pos) ρ H Q:=by
 obtain⟨q,h⟩:=Br.yes h
 exact G8 (Hv q) (WE.mono (O.e h) fun a H1 h=>O.e h)
theorem Ke (TB:lU C B) (O:mv C n w) {e:Expr} {Q:V→Hp→Prop} (h:vE C B n w sc e ρ H Q):WE C sc n e ρ H Q:=by
 walk_at "a"
 cases e with
 | Name x pos=>exact BF TB h
 | Constant c k pos=>
  cases c with
  | none=>exact Ca h
  | bool b=>exact C6 h
  | int i=>exact G2 h
  | str s=>exact G7 h
  | _=>exact False.elim h
 | BinOp l op r pos=>exact FX (WE.mono (O.e (e:=l) h) fun a H1 h=>O.e h)
 | UnaryOp op x pos=>
  cases op with
  | USub=>exact G5 (O.e (e:=x) h)
  | _=>exact False.elim h
 | BoolOp op es pos=>
  obtain⟨a,b,rfl,h⟩:=rT h
  cases op with
  | And=>exact FW (WE.mono (O.e (e:=a) h) fun v H1 h=>qJ h fun q h=>Br.imp h O.e id)
  | Or=>exact IE (WE.mono (O.e (e:=a) h) fun v H1 h=>qJ h fun q h=>Br.imp h id O.e)
 | IfExp t b o pos=>exact G1 (WB.mono (O.b (e:=t) h) fun q H1 h=>Br.imp h O.e O.e)
 | Compare l ops rs pos=>exact(wG O (Q:=fun q H1=>Q (.t (.bool q)) H1) h).2 fun _ _ x=>x
 | Call f args kws pos=>
  cases kws with
  | cons k r=>exact eV (G:=fun f=>WE C sc n (.Call f args (k::r) pos) ρ H Q) h False.elim (fun _ _ _ _ h=>False.elim h) (fun _ _ _ h=>False.elim h) (fun x p0 h=>yz TB O h) (fun _ _ _ h=>False.elim h) (fun _ _ _ _ h=>False.elim h) (fun _ _ _ _ h=>False.elim h)
  | nil=>
  refine eV (G:=fun f=>WE C sc n (.Call f args [] pos) ρ H Q) h False.elim (fun _ _ _ _ h=>False.elim h) (fun o name ap h=>?_) (fun x p0 h=>Bx TB O h) (fun _ _ _ h=>False.elim h) (fun _ _ _ _ h=>False.elim h) (fun _ _ _ _ h=>False.elim h)
  obtain⟨q,h⟩:=Br.yes h
  have q:=aa.mp q
  have r:=ko q.1
  exact KR TB.f TB.mt (mV O r.2.1) r.1 r.2.1 r.2.2 q.2 (O.e h)
 | Attribute o name pos=>
  obtain⟨q,h⟩:=Br.yes h
  exact C5 TB.f (fun Cl h=>(TB.fl Cl name h).1) q (O.e h)
 | Subscript v i pos=>
  exact eV (G:=fun i'=>i'=i→WE C sc n (.Subscript v i' pos) ρ H Q) h (fun h q=>lu O (q▸h)) (fun _ _ _ _ h q=>lu O (q▸h)) (fun _ _ _ h q=>lu O (q▸h)) (fun _ _ h q=>lu O (q▸h)) (fun _ _ _ h q=>lu O (q▸h))
   (fun lo hi st p0 h _=>G6 (WE.mono (O.e h) fun a H1 h=>BQ (BG O h) fun l H2 h=>BQ (BG O h) fun u H3 h=>BG O h)) (fun _ _ _ _ h q=>lu O (q▸h)) rfl
 | List es pos=>obtain⟨q,h⟩:=Br.yes h;exact G4 (mV O q h)
 | Tuple es k pos=>obtain⟨q,h⟩:=Br.yes h;exact G9 (mV O q h)
 | ListComp elt gs scope pos=>
  obtain⟨t,iter,ifs,tg,rfl,h1,h2,h3,h4,h5⟩:=tw TB O h
  exact C7 (FC O) O.e h1 (rC h2) h3 h4 h5
 | Dict ks vs pos=>exact Bz O h
 | _=>exact False.elim h
 walk_at "z"
theorem Kd (O:mv C n w) {e:Expr} {Q:Bool→Hp→Prop} (h:vB C w sc e ρ H Q):WB C sc n e ρ H Q:=by
 walk_at "a"
 have other:(Nat.beq (ct e) 0 || Nat.beq (ct e) 3 || Nat.beq (ct e) 5 || Nat.beq (ct e) 15)=false→(w.e sc e ρ H fun v H1=>cK v fun b=>Q b H1)→WB C sc n e ρ H Q:=fun q h=>FV (DF q) (O.e h)
 cases e with
 | UnaryOp op x pos=>
  cases op with
  | Not=>exact FU (O.b (e:=x) h)
  | _=>exact False.elim h
 | BoolOp op es pos=>exact C4 (Kc O (show AnW w sc op es ρ Q H from h).go)
 | IfExp _ _ _ _=>exact False.elim h
 | Compare l ops rs pos=>exact(wG O h).1
 | _=>exact other rfl h
 walk_at "z"
end
section
variable {C:Cx} {B:Tb} {n:Nat} {w:Vc} {sc:Scope} {ρ:aF} {H:Hp}
theorem qI {env:Env} {elt:Expr} {gs:List Comprehension} {scope:Scope} {cpos pt:Pos} {x:Str} {l:Nat} {b:Bool} (hk:sc.kind= .function) (h:LX sc scope x pt.line cpos.line=b) (he:env.scope=sc):swapsWith (.ListComp elt gs scope cpos) (some (.Name x pt)) l env=pure b:=by
 have e:swapsWith (.ListComp elt gs scope cpos) (some (.Name x pt)) l env=pure (env.blockKind== .function&&env.scope.names.lookup x==some .local&&pt.line==cpos.line&& !(scope.names.any fun p=>p.1==x&&(p.2== .local || p.2== .cell))):=rfl
 rw [e,mz (he▸hk),he]
 exact congrArg pure h
theorem wI (O:mv C n w) {x:Str} {pt pos:Pos} {e:Expr} {i:Nat} {Q:Fl→aF→Hp→Prop} (hi:nw sc true x=some i) (hs:∀env:Env,env.scope=sc→swapsWith e (some (.Name x pt)) pos.line env=pure false) (h:pS w sc i e ρ H Q):WX C sc n (.Assign [.Name x pt] e pos) ρ H Q:=wU hi hs (O.e h)
theorem kH {e:Expr} (h:(!ng e)=true):(Nat.beq (ct e) 8 || Nat.beq (ct e) 9 || Nat.beq (ct e) 10)=false:=kI h
theorem Ex (O:mv C n w) {ts:List Expr}:∀{ds:List T} {ρ:aF} {H:Hp} {K:aF→Hp→Prop},Kj w sc ts ds ρ H K→Cb C sc n ts ds ρ H K:=by
 walk_at "a"
 induction ts with
 | nil=>intro ds ρ H K h;cases ds with
  | nil=>exact Ce h
  | cons _ _=>exact False.elim h
 | cons t r ih=>
  intro ds ρ H K h
  cases ds with
  | nil=>exact False.elim h
  | cons d ds=>
   refine eV (G:=fun t'=>t'=t→Cb C sc n (t'::r) (d::ds) ρ H K) h (fun h _=>?_) (fun _ _ _ _ h=>False.elim h) (fun _ _ _ h=>False.elim h) (fun x p0 h _=>?_) (fun _ _ _ h=>False.elim h) (fun _ _ _ _ h=>False.elim h) (fun _ _ _ _ h=>False.elim h) rfl
   · obtain⟨o,ix,pos,e,h⟩:=Bk h
     rw [e]
     exact Cf (WE.mono (O.e h) fun u H1 h=>WE.mono (O.e h) fun i H2 h=>Bc h fun H3 h=>ih h)
   · exact dd.elim h fun i hi h=>z3 hi (kZ (ih (cq h)))
 walk_at "z"
theorem Ez (O:mv C n w) {ts:List Expr} {k:Nat} {p1 pos:Pos} {e:Expr} {Q:Fl→aF→Hp→Prop} (h:uX w sc (.Tuple ts k p1) e ρ H Q):WX C sc n (.Assign [.Tuple ts k p1] e pos) ρ H Q:=by
 walk_at "a"
 obtain⟨q,h⟩:=Br.yes h
 have q:=aa.mp q
 exact dd.elim h fun tg ht h=>wW ht (kI q.2) (kH q.1) (O.e h)
 walk_at "z"
theorem Ey (O:mv C n w) {ts es:List Expr} {k k2:Nat} {p1 p2 pos:Pos} {Q:Fl→aF→Hp→Prop} (h:Kk w sc ts es ρ H Q):WX C sc n (.Assign [.Tuple ts k p1] (.Tuple es k2 p2) pos) ρ H Q:=by
 walk_at "a"
 obtain⟨q,h⟩:=Br.yes h
 refine dd.elim h fun sw hw h=>?_
 cases sw with
 | none=>
  cases hx:gZ ts with
  | none=>
   rw [hx] at h
   obtain⟨q2,h⟩:=Br.yes h
   exact Gh q2 hw (WL.mono (mV O q h) fun vs H1 h=>Eh h fun ds h=>Br.imp h (Ex O) id)
  | some xs=>rw [hx] at h;exact dd.elim h fun is hi h=>z7 hx hi hw (mV O q h)
 | some xs=>exact dd.elim h fun is hi h=>wV hi hw (mV O q h)
 walk_at "z"
theorem HP {g:cj} {p:Pt} {v:V} {cv:Value} {K:V→Hp→Prop} {G:Prop} (R:bc C g H p) (x:eC C H p v cv) (h:LV v H K) (k:∀v' H' p',f5 C g H p H' p'→p'.s=p.s→eC C H' p' v' cv→K v' H'→G):G:=by
 cases v with
 | t d=>exact k _ H p (.refl R) rfl x h
 | ref m=>exact mi R x h fun d H' p' st e t q=>k (.t d) H' p' st e (TR.vri t) q
 | iref Cl m=>exact k _ H p (.refl R) rfl x h
theorem so {o ix e:Expr} {p1 pos:Pos} {Q:Fl→aF→Hp→Prop} (hs:∀env,swapsWith e (some (.Subscript o ix p1)) pos.line env=pure false)
 (h:WE C sc n e ρ H fun v H1=>WE C sc n o ρ H1 fun u H2=>WE C sc n ix ρ H2 fun i H3=>LV v H3 fun v H4=>uP H4 u i v (Q .next ρ)):WX C sc n (.Assign [.Subscript o ix p1] e pos) ρ H Q:=
 fun F p oc fr R P k=>wpAny_Assign_Subscript (h F p fr R _ fun cv q1 v H1 s1 xv h=>h F q1 (fr.step s1) s1.rel _ fun cu q2 u H2 s2 xu h=>h F q2 ((fr.step s1).step s2) s2.rel _ fun ci q3 i H3 s3 xi h=>HP s3.rel ((xv.step s2).step s3) h fun v4 H4 p4 s4 e4 xv h=>by
  rw [←e4]
  exact tj ((((fr.step s1).step s2).step s3).step s4) s4.rel ((xu.step s3).step s4) (xi.step s4) xv h fun p5 H5 s5 q=>by
   have S:=(((s1.trans s2).trans s3).trans s4).trans s5
   exact k .next F.g F.val p5 .next ρ H5 (S.s fr.le) (fr.step S) rfl q) (hs F.env)
theorem uV (TB:lU C B) (O:mv C n w) {t e:Expr} {pos:Pos} {Q:Fl→aF→Hp→Prop} (h:wE B w sc t e ρ H Q):WX C sc n (.Assign [t] e pos) ρ H Q:=by
 walk_at "a"
 refine eV (G:=fun t'=>t'=t→WX C sc n (.Assign [t'] e pos) ρ H Q) h (fun h _=>?_) (fun _ _ _ _ h=>False.elim h) (fun o name ap h _=>?_) (fun x pt h _=>?_) (fun ts k p1 h et=>?_) (fun _ _ _ _ h=>False.elim h) (fun _ _ _ _ h=>False.elim h) rfl
 · obtain⟨o,ix,p1,et,h⟩:=Bk h
   obtain⟨q,h⟩:=Br.yes h
   rw [et]
   exact so (fun env=>oy (kH q) _ _ env) (WE.mono (O.e h) fun v H1 h=>WE.mono (O.e h) fun u H2 h=>O.e h)
 · obtain⟨q,h⟩:=Br.yes h
   exact tQ TB.f (fun Cl h=>(TB.fl Cl name h).2) (WE.mono (O.e h) fun v H1 h=>O.e h) fun env=>oy (kH q) _ _ env
 · refine dd.elim h fun i hi h=>?_
   have no:∀{e':Expr},e'=e→pS w sc i e ρ H Q→(Nat.beq (ct e') 8 || Nat.beq (ct e') 9 || Nat.beq (ct e') 10)=false→WX C sc n (.Assign [.Name x pt] e' pos) ρ H Q:=fun q h z=>by
    subst q;exact wI O hi (fun env _=>oy z _ _ env) h
   refine eV (G:=fun e'=>e'=e→WX C sc n (.Assign [.Name x pt] e' pos) ρ H Q) h (fun h q=>no q (Br.yes h).2 (kH (Br.yes h).1)) (fun _ _ _ _ h q=>no q h rfl) (fun _ _ _ h q=>no q h rfl) (fun _ _ h q=>no q h rfl) (fun _ _ _ h q=>no q h rfl) (fun _ _ _ _ h q=>no q h rfl) (fun elt gs scope cpos h q=>?_) rfl
   obtain⟨hk,h⟩:=Br.yes h
   have hk:=beq_iff_eq.mp hk
   cases z:LX sc scope x pt.line cpos.line with
   | false=>rw [z] at h;exact wI O hi (fun env he=>qI hk z he) (show pS w sc i _ ρ H Q from q▸h)
   | true=>
    rw [z] at h
    obtain⟨t,iter,ifs,tg,e1,h1,h2,h3,h4,h5⟩:=tw TB O h
    subst e1
    exact Cr (FC O) O.e hi (fun env he=>qI hk z he) h1 (rC h2) h3 h4 h5
 · rw [←et] at h
   have un:∀{e':Expr},e'=e→uX w sc (.Tuple ts k p1) e ρ H Q→WX C sc n (.Assign [.Tuple ts k p1] e' pos) ρ H Q:=fun q h=>by rw [q];exact Ez O h
   exact eV (G:=fun e'=>e'=e→WX C sc n (.Assign [.Tuple ts k p1] e' pos) ρ H Q) h (fun h q=>un q h) (fun _ _ _ _ h q=>un q h) (fun _ _ _ h q=>un q h) (fun _ _ h q=>un q h) (fun es k2 p2 h _=>Ey O h) (fun _ _ _ _ h q=>un q h) (fun _ _ _ _ h=>False.elim h) rfl
 walk_at "z"
theorem BB (TB:lU C B) (O:mv C n w) {t:Expr} {x:Str} {p0 p1 pos:Pos} {args:List Expr} {kws:List Keyword} {b:List Stmt} {tg:Tg} {dft:Prop} {Q:Fl→aF→Hp→Prop} (ht:cT sc true t=some tg) (hs:∀env x',foldedSetIterable (.Call (.Name x p0) args kws p1) env x'=pure x') (kd:dft→WX C sc n (.For t (.Call (.Name x p0) args kws p1) b [] pos) ρ H Q) (h0:BA B w sc x args kws b tg dft ρ H Q):WX C sc n (.For t (.Call (.Name x p0) args kws p1) b [] pos) ρ H Q:=by
 walk_at "a"
 have g:=TB.g x
 unfold BA at h0
 cases k:B.g x with
 | srt=>
  rw [k] at h0 g
  obtain⟨e1,g⟩:=g
  obtain⟨q,h1⟩:=Br.yes h0
  have q:=ko q
  obtain⟨a,e2,h2⟩:=gI h1
  have e3:=ec.mp q.1
  have q3:=beq_iff_eq.mp q.2.2
  have q2:=q.2.1
  clear kd k q hs h0 h1
  subst e1 e2 e3
  exact z6 (fun h=>jP O h) ht (fun _ _=>rfl) (wS TB.f q3 g (aa.mp q2).1 (O.e h2))
 | _=>rw [k] at h0;exact kd h0
 walk_at "z"
theorem Eu (TB:lU C B) (O:mv C n w) {t e:Expr} {pos:Pos} {b:List Stmt} {tg:Tg} {Q:Fl→aF→Hp→Prop} (ht:cT sc true t=some tg) (hs:jq e=true) (h:Kf B w sc t e b tg ρ H Q):WX C sc n (.For t e b [] pos) ρ H Q:=by
 walk_at "a"
 have dft:j6 B w sc t e b tg ρ H Q→WX C sc n (.For t e b [] pos) ρ H Q:=fun h=>z6 (fun h=>jP O h) ht (rC hs) (FF TB O h).toG
 refine eV (G:=fun e'=>e'=e→WX C sc n (.For t e' b [] pos) ρ H Q) h (fun h _=>dft h) (fun f args kws p1 h eq=>?_) (fun _ _ _ h q=>by rw [q];exact dft h) (fun _ _ h q=>by rw [q];exact dft h) (fun _ _ _ h q=>by rw [q];exact dft h) (fun _ _ _ _ h q=>by rw [q];exact dft h) (fun _ _ _ _ h q=>by rw [q];exact dft h) rfl
 exact eV (G:=fun f'=>f'=f→WX C sc n (.For t (.Call f' args kws p1) b [] pos) ρ H Q) h (fun h _=>by rw [eq];exact dft h) (fun _ _ _ _ h q=>by rw [q,eq];exact dft h) (fun _ _ _ h q=>by rw [q,eq];exact dft h) (fun x p0 h q=>BB TB O ht (fun _ _=>rfl) (fun h=>by rw [q,eq];exact dft h) h) (fun _ _ _ h q=>by rw [q,eq];exact dft h) (fun _ _ _ _ h q=>by rw [q,eq];exact dft h) (fun _ _ _ _ h q=>by rw [q,eq];exact dft h) rfl
 walk_at "z"
theorem I0 (O:mv C n w) {e:Expr} {pos:Pos} {Q:Fl→aF→Hp→Prop} (h0:vEx w sc e ρ H Q):WX C sc n (.Expr e pos) ρ H Q:=by
 walk_at "a"
 have dft:ml w sc e ρ H Q→WX C sc n (.Expr e pos) ρ H Q:=fun h=>by obtain⟨q,h⟩:=Br.yes h;exact Cn (fun env=>yq (kH q) _ env) (O.e h)
 refine eV (G:=fun e'=>e'=e→WX C sc n (.Expr e' pos) ρ H Q) h0 (fun h _=>dft h) (fun f args kws p1 h1 eq=>?_) (fun _ _ _ h q=>by rw [q];exact dft h) (fun _ _ h q=>by rw [q];exact dft h) (fun _ _ _ h q=>by rw [q];exact dft h) (fun _ _ _ _ h q=>by rw [q];exact dft h) (fun _ _ _ _ h q=>by rw [q];exact dft h) rfl
 refine eV (G:=fun f'=>f'=f→WX C sc n (.Expr (.Call f' args kws p1) pos) ρ H Q) h1 (fun h _=>by rw [eq];exact dft h) (fun _ _ _ _ h q=>by rw [q,eq];exact dft h) (fun o name ap h2 q=>?_) (fun _ _ h q=>by rw [q,eq];exact dft h) (fun _ _ _ h q=>by rw [q,eq];exact dft h) (fun _ _ _ _ h q=>by rw [q,eq];exact dft h) (fun _ _ _ _ h q=>by rw [q,eq];exact dft h) rfl
 cases z:name==("sort":Str) with
 | false=>rw [z] at h2;rw [q,eq];exact dft h2
 | true=>
  rw [z] at h2
  have z:=beq_iff_eq.mp z
  clear dft eq q h0 h1
  refine eV (G:=fun o=>WX C sc n (.Expr (.Call (.Attribute o name ap) args kws p1) pos) ρ H Q) h2 False.elim (fun _ _ _ _ h=>False.elim h) (fun _ _ _ h=>False.elim h) (fun x p0 h3=>?_) (fun _ _ _ h=>False.elim h) (fun _ _ _ _ h=>False.elim h) (fun _ _ _ _ h=>False.elim h)
  clear h2
  obtain⟨q,h4⟩:=Br.yes h3
  clear h3
  have q:=ko q
  have q1:=ko q.1
  have e1:=ec.mp q1.1
  have e2:=ec.mp q1.2.1
  subst z e1 e2
  refine dd.elim h4 fun p hp h5=>?_
  obtain⟨q4,h⟩:=Br.yes h5
  exact Cs hp q4 (kI q.2.1) (kI q.2.2) q1.2.2 h
 walk_at "z"
theorem Kh (TB:lU C B) (O:mv C n w) {st:Stmt} {Q:Fl→aF→Hp→Prop} (h:vS B w sc st ρ H Q):WX C sc n st ρ H Q:=by
 walk_at "a"
 cases st with
 | Assign ts e pos=>obtain⟨t,q,h⟩:=gI h;subst q;exact uV TB O h
 | AugAssign t op e pos=>
  refine eV (G:=fun t=>WX C sc n (.AugAssign t op e pos) ρ H Q) h False.elim (fun _ _ _ _ h=>False.elim h) (fun _ _ _ h=>False.elim h) (fun x pt h=>?_) (fun _ _ _ h=>False.elim h) (fun _ _ _ _ h=>False.elim h) (fun _ _ _ _ h=>False.elim h)
  obtain⟨q,h⟩:=Br.yes h
  refine dd.elim h fun i hi h=>?_
  obtain⟨k,h1,h2⟩:=li hi
  exact dd.elim h fun a ha h=>Ge h1 h2 (kI q) (by rw [ha];exact O.e h)
 | Return e pos=>cases e with
  | none=>exact Cp h
  | some e=>exact Gg (O.e (e:=e) h)
 | If t b o pos=>exact IG (WB.mono (O.b (e:=t) (show IfW _ _ from h).go) fun q H1 h=>Br.imp h (jP O) (jP O))
 | For t e b o pos=>cases o with
  | cons _ _=>exact False.elim h
  | nil=>
   refine dd.elim h fun tg ht h=>?_
   obtain⟨q,h⟩:=Br.yes h
   exact Eu TB O ht q h
 | While t b o pos=>cases o with
  | cons _ _=>exact False.elim h
  | nil=>
   cases (show kQ w sc t b ρ H Q from h) with
   | mk r hp I μ m h1 h2=>exact sp (tb:=w.b sc t) O.b (fun h=>jP O h) (fun s hs=>(h1 s hs).go) h2
   | un m k h=>
    refine sp (tb:=WB C sc n t) (bb:=WS C sc n b) (fun h=>h) (fun h=>h) (σ:=Nat×aF×Hp) (r:=fun s=>s.2.1) (hp:=fun s=>s.2.2) (I:=fun s=>vU w sc t b m Q s.1 s.2.1 s.2.2) (ms:=fun s=>s.1) (fun s hs=>?_) (fL h fun ρ' H' h=>⟨(k,ρ',H'),rfl,rfl,h⟩)
    obtain⟨k,ρ',H'⟩:=s
    cases k with
    | zero=>exact False.elim hs
    | succ k=>exact WB.mono (O.b (e:=t) (show IfW _ _ from hs).go) fun q H1 h=>Br.imp h (fun h=>WS.mono (jP O h) fun f ρ2 H2 h=>Bv h fun h=>fL h fun ρ3 H3 h=>⟨(k,ρ3,H3),rfl,rfl,h,aI k⟩) fun h=>h
 | Expr e pos=>exact I0 O h
 | Pass pos=>exact Co h
 | Break pos=>exact Gf h
 | Continue pos=>exact Cm h
 | _=>exact False.elim h
 walk_at "z"
theorem tz (TB:lU C B) (k:Nat):mv C n (vc C B n k):=by
 induction k with
 | zero=>exact⟨False.elim,False.elim,False.elim⟩
 | succ k ih=>exact⟨fun h=>Ke TB ih h,fun h=>Kd ih h,fun h=>Kh TB ih h⟩
end
noncomputable def hG (i:Nat):Stmt:=PySem.Challenge.pw_nt0073_01.main.body.getD i (.Pass ⟨0,0,0,0⟩)
noncomputable def KC {P:Type} (st:Stmt) (z:P) (k:Str→Arguments→List Stmt→Scope→P):P:=Stmt.casesOn (motive_2:=fun _=>P) st (fun nm ar bd _ _ _ sc _ _ _=>k nm ar bd sc) (fun _ _ _ _ _ _ _ _ _ _=>z) (fun _ _ _ _ _ _ _ _ _ _ _=>z) (fun _ _=>z) (fun _ _=>z) (fun _ _ _=>z) (fun _ _ _ _ _ _ _=>z) (fun _ _ _ _=>z) (fun _ _ _ _ _=>z) (fun _ _ _ _ _=>z) (fun _ _ _ _ _=>z) (fun _ _ _ _=>z) (fun _ _ _ _=>z) (fun _ _ _=>z) (fun _ _ _=>z) (fun _ _ _=>z) (fun _ _ _=>z) (fun _ _ _ _ _=>z) (fun _ _ _ _ _=>z) (fun _ _ _=>z) (fun _ _=>z) (fun _ _ _ _=>z) (fun _ _=>z) (fun _ _=>z) (fun _ _=>z) (fun _=>z) (fun _=>z) (fun _=>z)
noncomputable def KZ (st:Stmt):List Stmt:=Stmt.casesOn (motive_2:=fun _=>List Stmt) st (fun _ _ _ _ _ _ _ _ _ _=>[]) (fun _ _ _ _ _ _ _ _ _ _=>[]) (fun _ _ _ bd _ _ _ _ _ _ _=>bd) (fun _ _=>[]) (fun _ _=>[]) (fun _ _ _=>[]) (fun _ _ _ _ _ _ _=>[]) (fun _ _ _ _=>[]) (fun _ _ _ _ _=>[]) (fun _ _ _ _ _=>[]) (fun _ _ _ _ _=>[]) (fun _ _ _ _=>[]) (fun _ _ _ _=>[]) (fun _ _ _=>[]) (fun _ _ _=>[]) (fun _ _ _=>[]) (fun _ _ _=>[]) (fun _ _ _ _ _=>[]) (fun _ _ _ _ _=>[]) (fun _ _ _=>[]) (fun _ _=>[]) (fun _ _ _ _=>[]) (fun _ _=>[]) (fun _ _=>[]) (fun _ _=>[]) (fun _=>[]) (fun _=>[]) (fun _=>[])
noncomputable def jH (i j:Nat):Stmt:=(KZ (hG i)).getD j (.Pass ⟨0,0,0,0⟩)
noncomputable def lI (st:Stmt):List Stmt:=KC st [] fun _ _ b _=>b
noncomputable def cU (st:Stmt):Scope:=KC st default fun _ _ _ s=>s
noncomputable def DI (st:Stmt):Arguments:=KC st default fun _ a _ _=>a
noncomputable def JF (st:Stmt):Str:=KC st default fun n _ _ _=>n
noncomputable def bV (s:Stmt) (qual:Str) (dV:Value) (pm:Str) (t:Tok) (code:Addr):FuncData:=
 {name:=JF s,qualname:=qual,params:=DI s,body:= .stmts (lI s),scope:=cU s,globals:=3,closure:=[],defaults:=dV,kwdefaults:= .none,pyModule:= .str pm t,code:= .ref code}
noncomputable def i7:List (Addr×FuncData):=[(61,bV (hG 5) "place_by_half" .none "unicore.base" 194 60),(68,bV (hG 15) "is_hangul_syllable" .none "unicore.hangul" 254 67),(82,bV (hG 17) "hangul_parts" .none "unicore.hangul" 254 81),(96,bV (hG 20) "form_mapping" .none "unicore.forms" 308 95),(103,bV (hG 21) "form_expanded" .none "unicore.forms" 308 102),(110,bV (hG 22) "ordered" .none "unicore.forms" 308 109),(115,bV (hG 23) "form_sorted" .none "unicore.forms" 308 114),(123,bV (hG 24) "decomposed" (.ref 116) "unicore.forms" 308 122),(188,bV (hG 29) "form_of" (.ref 181) "unicore.forms" 308 187),(195,bV (hG 30) "nfd" .none "unicore.forms" 308 194),(211,bV (jH 36 0) "CollOptions.__init__" (.ref 204) "unicore.collkeys" 470 210),(225,bV (hG 37) "collkey_blanked" .none "unicore.collkeys" 470 224),(232,bV (hG 38) "collkey_shifted" .none "unicore.collkeys" 470 231),(240,bV (hG 39) "weighted" (.ref 233) "unicore.collkeys" 470 239),(253,bV (hG 41) "collkey_first" .none "unicore.collkeys" 470 252),(258,bV (hG 42) "collkey_second" .none "unicore.collkeys" 470 257),(268,bV (hG 44) "collkey_third" .none "unicore.collkeys" 470 267),(273,bV (hG 45) "collkey_fourth" .none "unicore.collkeys" 470 272),(280,bV (hG 46) "collkey_levels" .none "unicore.collkeys" 470 279),(287,bV (hG 47) "collkey_level" .none "unicore.collkeys" 470 286),(293,bV (hG 48) "weights_key" (.ref 288) "unicore.collkeys" 470 292),(300,bV (hG 49) "elements_for" .none "unicore.collkeys" 470 299),(307,bV (hG 50) "sort_key" .none "unicore.collkeys" 470 306),(314,bV (hG 51) "compare_lists" .none "unicore.collkeys" 470 313),(321,bV (hG 52) "compare_weights" .none "unicore.collkeys" 470 320),(328,bV (hG 53) "compare" .none "unicore.collkeys" 470 327),(333,bV (hG 54) "collated" .none "unicore.collkeys" 470 332),(357,bV (hG 67) "coll_ideographs" .none "unicore.collate" 722 356),(372,bV (jH 68 0) "CollBase.__init__" (.ref 365) "unicore.collate" 722 371),(379,bV (jH 68 1) "CollBase.elements_of" .none "unicore.collate" 722 378),(391,bV (hG 69) "coll_scaled" .none "unicore.collate" 722 390),(405,bV (jH 70 0) "CollMatch.__init__" .none "unicore.collate" 722 404),(427,bV (jH 71 0) "Elements.__init__" (.ref 420) "unicore.collate" 722 426),(434,bV (jH 71 1) "Elements.put" .none "unicore.collate" 722 433),(475,bV (jH 71 7) "Elements.put_implicit" (.ref 468) "unicore.collate" 722 474),(482,bV (jH 71 8) "Elements.implicit_of" .none "unicore.collate" 722 481),(494,bV (jH 71 10) "Elements.match" .none "unicore.collate" 722 493),(499,bV (jH 71 11) "Elements.with_marks" .none "unicore.collate" 722 498),(504,bV (jH 71 12) "Elements.located" .none "unicore.collate" 722 503),(511,bV (jH 71 13) "Elements.elements_of" .none "unicore.collate" 722 510),(525,bV (hG 72) "coll_live" .none "unicore.collate" 722 524),(530,bV (hG 73) "coll_decomposed" .none "unicore.collate" 722 529),(537,bV (hG 75) "range_are_like" .none "unicore.ranges" 995 536),(551,bV (jH 76 0) "RangeMap.__init__" .none "unicore.ranges" 995 550),(558,bV (jH 76 1) "RangeMap.get" .none "unicore.ranges" 995 557),(565,bV (jH 76 2) "RangeMap.put" .none "unicore.ranges" 995 564),(598,bV (hG 79) "data_defaults" .none "unicore.data" 1085 597),(612,bV (jH 80 0) "Data.__init__" .none "unicore.data" 1085 611),(619,bV (jH 80 1) "Data.put" .none "unicore.data" 1085 618),(626,bV (jH 80 2) "Data.get" .none "unicore.data" 1085 625),(633,bV (jH 80 3) "Data.map_of" .none "unicore.data" 1085 632),(647,bV (hG 82) "_law_ranks" .none "law_nt0073_01" 1154 646),(654,bV (hG 83) "_law_data" .none "law_nt0073_01" 1154 653),(661,bV (hG 84) "_law_plain" .none "law_nt0073_01" 1154 660),(668,bV (hG 85) "_law_reckoned" .none "law_nt0073_01" 1154 667),(673,bV (hG 86) "_law_elements" .none "law_nt0073_01" 1154 672),(680,bV (hG 87) "_law_weighed" .none "law_nt0073_01" 1154 679),(685,bV (hG 88) "_law_levels" .none "law_nt0073_01" 1154 684),(692,bV (hG 89) "_law_key" .none "law_nt0073_01" 1154 691),(699,bV (hG 90) "_law_table" .none "law_nt0073_01" 1154 698),(706,bV (hG 91) "_law_own_key" .none "law_nt0073_01" 1154 705),(713,bV (hG 92) "_law_sign" .none "law_nt0073_01" 1154 712),(720,bV (hG 93) "_law_turned" .none "law_nt0073_01" 1154 719),(725,bV (hG 94) "law" .none "law_nt0073_01" 1154 724)]
noncomputable def qp:List (Str×Value):=[(ac "_wall",Value.ref 21),(ac "MAX_CODE",Value.int 1114111 196),(ac "UniError",Value.ref 39),(ac "BadTable",Value.ref 52),(ac "place_by_half",Value.ref 61),(ac "SYLLABLE_FIRST",Value.int 44032 256),(ac "LEAD_FIRST",Value.int 4352 258),(ac "VOWEL_FIRST",Value.int 4449 260),(ac "TAIL_NONE",Value.int 4519 262),(ac "LEADS",Value.int 19 264),(ac "VOWELS",Value.int 21 266),(ac "TAILS",Value.int 28 268),(ac "SYLLABLES",Value.int 11172 271),(ac "is_hangul_syllable",Value.ref 68),(ac "hangul_numbers",Value.ref 75),(ac "hangul_parts",Value.ref 82),(ac "hangul_pair",Value.ref 89),(ac "form_mapping",Value.ref 96),(ac "form_expanded",Value.ref 103),(ac "ordered",Value.ref 110),(ac "form_sorted",Value.ref 115),(ac "decomposed",Value.ref 123),(ac "primary_composites",Value.ref 130),(ac "form_is_primary",Value.ref 137),(ac "Composer",Value.ref 168),(ac "composed",Value.ref 180),(ac "form_of",Value.ref 188),(ac "nfd",Value.ref 195),(ac "COLLKEY_TOP",Value.int 65535 472),(ac "COLLKEY_SECOND",Value.int 32 474),(ac "COLLKEY_THIRD",Value.int 2 476),(ac "COLLKEY_FIGURES",Value.int 254 478),(ac "CollOptions",Value.ref 214),(ac "collkey_blanked",Value.ref 225),(ac "collkey_shifted",Value.ref 232),(ac "weighted",Value.ref 240),(ac "is_upper_third",Value.ref 248),(ac "collkey_first",Value.ref 253),(ac "collkey_second",Value.ref 258),(ac "collkey_case",Value.ref 263),(ac "collkey_third",Value.ref 268),(ac "collkey_fourth",Value.ref 273),(ac "collkey_levels",Value.ref 280),(ac "collkey_level",Value.ref 287),(ac "weights_key",Value.ref 293),(ac "elements_for",Value.ref 300),(ac "sort_key",Value.ref 307),(ac "compare_lists",Value.ref 314),(ac "compare_weights",Value.ref 321),(ac "compare",Value.ref 328),(ac "collated",Value.ref 333),(ac "collkey_digit",Value.ref 340),(ac "collkey_figures",Value.ref 345),(ac "numbered_elements",Value.ref 350),(ac "COLL_SECONDARY",Value.int 32 724),(ac "COLL_TERTIARY",Value.int 2 726),(ac "COLL_OTHERS",Value.int 64448 728),(ac "COLL_CORE",Value.int 64320 730),(ac "COLL_EXTENSIONS",Value.int 64384 732),(ac "COLL_REST_BIT",Value.int 32768 734),(ac "COLL_REST_MASK",Value.int 32767 736),(ac "COLL_REST_SHIFT",Value.int 15 738),(ac "coll_ideographs",Value.ref 357),(ac "CollBase",Value.ref 382),(ac "coll_scaled",Value.ref 391),(ac "CollMatch",Value.ref 408),(ac "Elements",Value.ref 514),(ac "coll_live",Value.ref 525),(ac "coll_decomposed",Value.ref 530),(ac "range_are_like",Value.ref 537),(ac "RangeMap",Value.ref 580),(ac "range_rows",Value.ref 591),(ac "data_defaults",Value.ref 598),(ac "Data",Value.ref 636),(ac "_law_ranks",Value.ref 647),(ac "_law_data",Value.ref 654),(ac "_law_plain",Value.ref 661),(ac "_law_reckoned",Value.ref 668),(ac "_law_elements",Value.ref 673),(ac "_law_weighed",Value.ref 680),(ac "_law_levels",Value.ref 685),(ac "_law_key",Value.ref 692),(ac "_law_table",Value.ref 699),(ac "_law_own_key",Value.ref 706),(ac "_law_sign",Value.ref 713),(ac "_law_turned",Value.ref 720),(ac "law",Value.ref 725)]
noncomputable def ku:List (Addr×Addr):=[(214,211),(382,372),(408,405),(514,427),(580,551),(636,612)]
noncomputable def qz:List ((Addr×Str)×Addr):=[((382,ac "elements_of"),379),((514,ac "put"),434),((514,ac "put_implicit"),475),((514,ac "implicit_of"),482),((514,ac "match"),494),((514,ac "with_marks"),499),((514,ac "located"),504),((514,ac "elements_of"),511),((580,ac "get"),558),((580,ac "put"),565),((636,ac "put"),619),((636,ac "get"),626),((636,ac "map_of"),633)]
noncomputable def sH:List (Addr×Str):=[(214,ac "factors"),(214,ac "how"),(214,ac "strength"),(214,ac "is_backwards"),(214,ac "case_first"),(214,ac "has_case_level"),(214,ac "is_numeric"),(214,ac "reorder"),(382,ac "first"),(382,ac "last"),(382,ac "base"),(382,ac "origin"),(408,ac "elements"),(408,ac "places"),(408,ac "onward"),(514,ac "table"),(514,ac "longest"),(514,ac "factors"),(514,ac "bases"),(580,ac "default"),(580,ac "starts"),(580,ac "values"),(636,ac "defaults"),(636,ac "maps"),(636,ac "properties"),(636,ac "words")]
noncomputable def vD:List (Addr×Array Value):=[(116, #[.bool false]),(181, #[.none]),(204, #[.str "shifted" 492, .int 3 493, .bool false, .str "" 494, .bool false, .bool false, .none, .ref 203]),(233, #[.int 1 557]),(288, #[.none]),(365, #[.none]),(420, #[.bool true]),(468, #[.none]),(203, #[.int 1 495, .int 1 496, .int 1 497])]
noncomputable def pI:List (Str×GK):=[("len", .blt .len),("min", .blt .min),("max", .blt .max),("tuple", .blt .tuple),("int", .blt .int),("abs", .blt .abs),("isinstance", .blt .isinst),("bool", .raw (.type "bool")),("range", .rng),("enumerate", .enm),("zip", .zip),("sorted", .srt),("list", .lst)]
noncomputable def rJ:List Addr:=[494,499,525,434,475,565,619,633,214,514,580,636]
structure de (C:Cx):Prop where
 f:eu C
 nb:∀p∈pI,C.mg p.1=none
 fns:∀p∈i7,tL C p.1 p.2
 gls:∀p∈qp,C.mg p.1=some p.2
 cls:∀p∈ku,Mk C p.1 p.2
 kcl:∀p∈ku,keepIn C.K (.ref p.1)=true
 mts:∀p∈qz,FN C p.1.1 p.1.2 p.2
 fls:∀p∈sH,KM C p.1 p.2∧FP C p.1 p.2
 dfs:∀p∈vD,p.1≠C.P∧C.h0.get? p.1=some (gm p.2 0)
noncomputable def kept (a:Addr):Bool:=(i7.lookup a).isSome || (ku.lookup a).isSome
noncomputable def gkV (x:Str) (v:Value):GK:=Value.casesOn (motive:=fun _=>GK) v .no .no .no (fun _=> .no) (fun i _=> .int i) (fun _ _=> .no) (fun _ _=> .no) (fun _ _=> .no) (fun _=> .no) (fun _=> .no) fun a=>bif kept a then .fn a (rJ.contains a) else .no
noncomputable def tb:Tb:=⟨fun x=>an (motive:=fun _=>GK) (qp.lookup x) ((pI.lookup x).getD .no) (gkV x),fun Cl x=>(qz.lookup (Cl,x)).bind fun f=>bif (i7.lookup f).isSome then some (f,rJ.contains f) else none,fun Cl x=>sH.contains (Cl,x)⟩
section
variable {C:Cx}
theorem dy {α β:Type} [BEq α] [LawfulBEq α] {a:α} {b:β} {l:List (α×β)} (h:l.lookup a=some b):(a,b)∈l:=by
 walk_at "a"
 induction l with
 | nil=>cases h
 | cons e r ih=>
  rw [aD] at h
  cases q:a==e.1 with
  | true=>rw [q] at h;cases h;rw [beq_iff_eq.mp q];exact .head _
  | false=>rw [q] at h;exact .tail _ (ih h)
 walk_at "z"
theorem de.fn (F:de C) {a:Addr} {fd:FuncData} (h:i7.lookup a=some fd):tL C a fd:=F.fns _ (dy h)
theorem de.keeps (F:de C) {a:Addr} (h:kept a=true):hU C (.ref a):=by
 walk_at "a"
 rcases c9.mp h with h | h
 · obtain⟨fd,h⟩:=aZ.mp h;exact(F.fn h).keeps
 · obtain⟨f,h⟩:=aZ.mp h
   exact fun M Φ h' B sb=>by
    obtain⟨k,a,b⟩:=looks_keep (M:=M) (F.kcl _ (dy h)) (oV F.f B sb)
    exact⟨k,a.imp id .inl,b⟩
 walk_at "z"
theorem de.tbok (F:de C):lU C tb:=by
 walk_at "a"
 refine⟨F.f,fun x=>?_,fun Cl x p h=>?_,fun Cl x h=>F.fls (Cl,x) (kU.mp h)⟩
 · show yV C x (an (motive:=fun _=>GK) (qp.lookup x) ((pI.lookup x).getD .no) (gkV x))
   cases e:qp.lookup x with
   | some v=>
    have g:=F.gls _ (dy e)
    cases v with
    | int i t=>exact⟨t,g⟩
    | ref a=>
     show yV C x (bif kept a then .fn a (rJ.contains a) else .no)
     cases k:kept a with
     | true=>exact⟨g,F.keeps k⟩
     | false=>trivial
    | _=>trivial
   | none=>
    show yV C x ((pI.lookup x).getD .no)
    cases e:pI.lookup x with
    | none=>trivial
    | some k=>
     have m:=dy e
     have g:=F.nb _ m
     have:∀p∈pI,C.mg p.1=none→yV C p.1 p.2:=by
      intro p hp g
      unfold pI at hp
      repeat first
       | (cases hp;done)
       | (cases hp with
        | head=>first | exact⟨g,rfl,by decide⟩ | exact⟨g,rfl,by decide,_,rfl⟩ | exact⟨rfl,g⟩
        | tail _ hp=>?_)
     exact this _ m g
 · obtain⟨f,h1,h2⟩:=bg.mp (show(qz.lookup (Cl,x)).bind _=some p from h)
   cases k:(i7.lookup f).isSome with
   | false=>rw [k] at h2;cases h2
   | true=>rw [k] at h2;cases h2;exact⟨F.mts _ (dy h1),F.keeps (c9.mpr (.inl k))⟩
 walk_at "z"
noncomputable def wX (k:Nat):(List Value→Prop)→Prop:=Nat.rec (motive:=fun _=>(List Value→Prop)→Prop) (fun P=>P []) (fun _ ih P=>∀c,ih fun r=>P (c::r)) k
theorem qQ {k:Nat}:∀{P:List Value→Prop},wX k P→∀{cvs:List Value},cvs.length=k→P cvs:=by
 induction k with
 | zero=>intro P h cvs e;cases cvs with
  | nil=>exact h
  | cons _ _=>cases e
 | succ k ih=>intro P h cvs e;cases cvs with
  | nil=>cases e
  | cons c r=>exact ih (h c) (Nat.succ.inj e)
noncomputable def xn (sc:Scope) (xs:List Str) (H:Hp):Bool:=AD xs&&AD (sc.names.map (·.1))&&xs.all (fun x=>sc.names.lookup x==some .local || sc.names.lookup x==some .cell)&&sc.names.all (fun p=>p.2 != .free)&&H.all (fun e=>bf e.1 100)&& !sc.isCoroutine&& !sc.isGenerator&&sc.kind== .function
theorem r5 (F:de C) {n:Nat} {H:Hp} {f:Addr} {st:Stmt} {q:Str} {dV:Value} {pm:Str} {t:Tok} {cd:Addr} {vs vb:List V} {mk:List Value→Args} {Q:V→Hp→Prop} (hf:i7.lookup f=some (bV st q dV pm t cd)) (xs:List Str) (ok:xn (cU st) xs H=true) (hx:xs.length=vb.length)
 (hbind:∀(s:Shared) (Φ:cj) (cvs:List Value),lT C Φ→Sub Φ s.heap→cvs.length=vs.length→∃cvs',BindsTo s (bV st q dV pm t cd) (mk cvs) (xs.zip cvs')∧∀p,p.Φ=Φ→bv (eC C H p) vs cvs→bv (eC C H p) vb cvs')
 (hlam:((cU st).names.map (·.1)==dU)=false∨cd=l6∧q++".<locals>."=jo) (h:WS C (cU st) n (lI st) (mD (cU st).names xs vb) H (pP Q)):dZ C (n+1) (.ref f) mk vs H Q:=by
 walk_at "a"
 have o1:=aa.mp ok
 have o2:=ko o1.1
 have o3:=ko o2.1
 have o4:=ko o3.1
 refine tL.runC F.f (F.fn hf) rfl hbind hx (ox o4.1) (fun x hx'=>?_) (ox o4.2.1) o3.2.1 o3.2.2 h (kI o2.2.1) (kI o2.2.2) (beq_iff_eq.mp o1.2) fun z=>?_
 · exact(c9.mp (aj.mp o4.2.2 x hx')).imp (beq_iff_eq.mp ·) (beq_iff_eq.mp ·)
 · rcases hlam with w | w
   · have z:(cU st).names.map (·.1)=dU:=z
     rw [z] at w;cases w
   · exact⟨congrArg Value.ref w.1,w.2⟩
 walk_at "z"
theorem zN (F:de C) {n:Nat} {H:Hp} {f:Addr} {st:Stmt} {q:Str} {dV:Value} {pm:Str} {t:Tok} {cd:Addr} {vs:List V} {Q:V→Hp→Prop} (xs:List Str) (hf:i7.lookup f=some (bV st q dV pm t cd)) (ok:xn (cU st) xs H=true) (hx:xs.length=vs.length)
 (hb:wX vs.length fun cvs=>bindArgs (bV st q dV pm t cd) ⟨cvs,[]⟩=pure (xs.zip cvs)) (hlam:((cU st).names.map (·.1)==dU)=false∨cd=l6∧q++".<locals>."=jo) (h:WS C (cU st) n (lI st) (mD (cU st).names xs vs) H (pP Q)):dZ C (n+1) (.ref f) f8 vs H Q:=
 r5 F hf xs ok hx (fun s Φ cvs _ _ hl=>⟨cvs, .of_eq (qQ hb hl),fun _ _ x=>x⟩) hlam h
theorem gf (F:de C) {n:Nat} {H:Hp} {f:Addr} {st:Stmt} {q:Str} {dV:Value} {pm:Str} {t:Tok} {cd:Addr} {vs:List V} {Q:V→Hp→Prop} (xs:List Str) (hf:i7.lookup f=some (bV st q dV pm t cd)) (ok:xn (cU st) xs H=true) (hx:xs.length=vs.length)
 (hb:wX vs.length fun cvs=>bindArgs (bV st q dV pm t cd) ⟨cvs,[]⟩=pure (xs.zip cvs)) (hlam:((cU st).names.map (·.1)==dU)=false) (h:tx (vc C tb n 40) (cU st) (lI st) (pP Q) (mD (cU st).names xs vs) H):dZ C (n+1) (.ref f) f8 vs H Q:=
 zN F xs hf ok hx hb (.inl hlam) (jP (tz F.tbok 40) h)
noncomputable def CS {α:Type} (a:Addr) (o:Obj) (x:Sem α):Sem α:=Sem.casesOn (motive:=fun _=>Sem α) x (fun _=> .unsupported "") (fun _=> .unsupported "") (fun _=> .unsupported "") (fun _=> .unsupported "") (fun _ _=> .unsupported "") (fun _ _=> .unsupported "") (fun b p k=>bif Nat.beq b a&&p.isNone then k o else .unsupported "") (fun _ _ _ _=> .unsupported "") (fun _ _=> .unsupported "") (fun _ _=> .unsupported "") (fun _ _=> .unsupported "") (fun _ _=> .unsupported "") (fun _=> .unsupported "") (fun _=> .unsupported "") (fun _ _ _=> .unsupported "") (fun _ _ _=> .unsupported "") (fun _ _ _ _ _=> .unsupported "") (fun _ _=> .unsupported "") (fun _ _=> .unsupported "") (fun _ _=> .unsupported "") (fun _ _ _ _=> .unsupported "") (fun _ _ _ _=> .unsupported "") (fun _=> .unsupported "") (fun _ _=> .unsupported "") (fun _=> .unsupported "") (fun _ _ _ _ _=> .unsupported "")
noncomputable def isP {α:Type} (x:Sem α):Bool:=Sem.casesOn (motive:=fun _=>Bool) x (fun _=>true) (fun _=>false) (fun _=>false) (fun _=>false) (fun _ _=>false) (fun _ _=>false) (fun _ _ _=>false) (fun _ _ _ _=>false) (fun _ _=>false) (fun _ _=>false) (fun _ _=>false) (fun _ _=>false) (fun _=>false) (fun _=>false) (fun _ _ _=>false) (fun _ _ _=>false) (fun _ _ _ _ _=>false) (fun _ _=>false) (fun _ _=>false) (fun _ _=>false) (fun _ _ _ _=>false) (fun _ _ _ _=>false) (fun _=>false) (fun _ _=>false) (fun _=>false) (fun _ _ _ _ _=>false)
theorem CT {α:Type} {M:Model} {A:Around} {E:Value→Shared→Prop} {Q:α→Shared→Prop} {s:Shared} {a:Addr} {o:Obj} {x:Sem α} {b:α} (h:CS a o x=pure b) (ho:s.heap.get? a=some o) (hq:Q b s):wpAny M A x Q E s:=by
 walk_at "a"
 cases x with
 | load a' p k=>
  cases e:Nat.beq a' a&&p.isNone with
  | false=>rw [show CS a o (Sem.load a' p k)=bif Nat.beq a' a&&p.isNone then k o else .unsupported "" from rfl,e] at h;cases h
  | true=>
   rw [show CS a o (Sem.load a' p k)=bif Nat.beq a' a&&p.isNone then k o else .unsupported "" from rfl,e] at h
   have e:=aa.mp e
   have e1:=bJ e.1
   have e2:=fw.mp e.2
   subst e1;subst e2
   exact wpAny_bind (wpAny_load ho ((show k o=pure b from h)▸wpAny_pure hq))
 | _=>exact absurd (congrArg isP h) cO
 walk_at "z"
theorem ig (F:de C) {n:Nat} {H:Hp} {f:Addr} {st:Stmt} {q:Str} {dA:Addr} {dv:Array Value} {pm:Str} {t:Tok} {cd:Addr} {vs:List V} {mk:List Value→Args} {Q:V→Hp→Prop} (restd:List T) (restv:List Value) (xs:List Str) (hf:i7.lookup f=some (bV st q (.ref dA) pm t cd)) (hdf:vD.lookup dA=some dv) (ok:xn (cU st) xs H=true)
 (hr:∀p:Pt,lT C p.Φ→bv (eC C H p) (restd.map V.t) restv) (hx:xs.length=(vs++restd.map V.t).length) (hb:wX vs.length fun cvs=>CS dA (gm dv 0) (bindArgs (bV st q (.ref dA) pm t cd) (mk cvs))=pure (xs.zip (cvs++restv)))
 (hlam:((cU st).names.map (·.1)==dU)=false) (h:tx (vc C tb n 40) (cU st) (lI st) (pP Q) (mD (cU st).names xs (vs++restd.map V.t)) H):dZ C (n+1) (.ref f) mk vs H Q:=
 r5 F hf xs ok hx (fun s Φ cvs B sb hl=>by
  obtain⟨d1,d2⟩:=F.dfs _ (dy hdf)
  exact⟨cvs++restv,fun _ _ _ _ hq=>CT (qQ hb hl) (sb _ _ (B.2 _ _ d1 d2)) hq,fun p e x=>bv.append x (hr p (e▸B))⟩) (.inl hlam) (jP (tz F.tbok 40) h)
theorem r4 (F:de C) {n:Nat} {H:Hp} {f:Addr} {st:Stmt} {q:Str} {dV:Value} {pm:Str} {t:Tok} {cd:Addr} {vs:List V} {mk:List Value→Args} {Q:V→Hp→Prop} (xs:List Str) (hf:i7.lookup f=some (bV st q dV pm t cd)) (ok:xn (cU st) xs H=true) (hx:xs.length=vs.length)
 (hb:wX vs.length fun cvs=>bindArgs (bV st q dV pm t cd) (mk cvs)=pure (xs.zip cvs)) (hlam:((cU st).names.map (·.1)==dU)=false) (h:tx (vc C tb n 40) (cU st) (lI st) (pP Q) (mD (cU st).names xs vs) H):dZ C (n+1) (.ref f) mk vs H Q:=
 r5 F hf xs ok hx (fun s Φ cvs _ _ hl=>⟨cvs, .of_eq (qQ hb hl),fun _ _ x=>x⟩) (.inl hlam) (jP (tz F.tbok 40) h)
theorem bA (F:de C) {n:Nat} {f:Addr} {st:Stmt} {q:Str} {dV:Value} {pm:Str} {t:Tok} {cd:Addr} {ds:List T} {r:PV} (xs:List Str) (hf:i7.lookup f=some (bV st q dV pm t cd)) (ok:xn (cU st) xs []=true) (hx:xs.length=ds.length)
 (hb:wX (ds.map V.t).length fun cvs=>bindArgs (bV st q dV pm t cd) ⟨cvs,[]⟩=pure (xs.zip cvs)) (hlam:((cU st).names.map (·.1)==dU)=false) (h:tx (vc C tb n 40) (cU st) (lI st) (pP (B0 r)) (mD (cU st).names xs (ds.map .t)) []):dE C (n+1) (.ref f) ds r:=
 gf F xs hf ok (hx.trans (a9 _).symm) hb hlam h
end
def kk (n:Nat):Lean.Elab.Tactic.TacticM Unit:=do
 let mut g ←Lean.Elab.Tactic.getMainGoal
 if n==3 then
  g.withContext do
   let t ←Lean.instantiateMVars (←g.getType)
   let t ←if t.isAppOf ``Eq then pure t else PySem.W.XRun.kw t
   if t.hasExprMVar then let _ ←Lean.Meta.isDefEq t.appFn!.appArg! t.appArg!
   g.assign (←Lean.Meta.mkEqRefl t.appFn!.appArg!)
  return
 let past:List Lean.Name:=if n==0 then [``StW, ``IfW, ``AnW] else if n==1 then [``StW] else if n==4 then [``StW, ``IfW] else []
 let mut more:=true
 while more do
  let(h,b) ←g.withContext do
   let t ←PySem.W.XRun.kw (←g.getType)
   let t:=if t.isAppOf ``Option.rec&&t.getAppNumArgs==5 then Lean.mkAppN t.getAppFn (t.getAppArgs.modify 3 Lean.Expr.eta) else t
   let m ←Lean.Meta.mkFreshExprSyntheticOpaqueMVar t
   g.assign m
   let c:=t.getAppFn.constName
   if !past.contains c then pure (m.mvarId!,false) else
    let f:=Lean.mkAppN (.const (c++ `mk) []) t.getAppArgs
    let n ←Lean.Meta.mkFreshExprSyntheticOpaqueMVar (←Lean.Meta.inferType f).bindingDomain!
    m.mvarId!.assign (.app f n)
    pure (n.mvarId!,true)
  g:=h
  more:=b
 Lean.Elab.Tactic.replaceMainGoal [g]
theorem cn {b:Bool} {P Q:Prop} (h:b=true→P) (k:b=false→Q):Bool.rec (motive:=fun _=>Prop) Q P b:=by
 cases b with
 | true=>exact h rfl
 | false=>exact k rfl
theorem aA {b:Bool} {P Q:Prop} (e:b=true) (h:P):Bool.rec (motive:=fun _=>Prop) Q P b:=by subst e;exact h
theorem pJ {b:Bool} {P Q:Prop} (e:b=false) (h:Q):Bool.rec (motive:=fun _=>Prop) Q P b:=by subst e;exact h
theorem CE {p P Q:Prop} [d:Decidable p] (h:p→P) (k: ¬p→Q):Bool.rec (motive:=fun _=>Prop) Q P (@decide p d):=cn (fun e=>h (of_decide_eq_true e)) fun e=>k (of_decide_eq_false e)
theorem bw {α:Type} {o:Option α} {x:α} {P:α→Prop} (e:o=some x) (h:P x):Option.rec (motive:=fun _=>Prop) False P o:=by subst e;exact h
theorem IS {b b':Bool} {P Q:Prop} (e:b'=true) (q:b'=b) (h:P):Bool.rec (motive:=fun _=>Prop) Q P b:=by subst q;subst e;exact h
theorem jr {α:Type} {o o':Option α} {x:α} {P:α→Prop} (e:o'=some x) (q:o'=o) (h:P x):Option.rec (motive:=fun _=>Prop) False P o:=by subst q;subst e;exact h
theorem bK {C:Cx} {n n':Nat} {f:Value} {ds ds':List T} {r:PV} {H:Hp} {Q:V→Hp→Prop} (h:dE C n' f ds' r) (e:ds'=ds) (k:lB r H Q) (hn:n'≤n:=by exact al rfl):∃r,dE C n f ds r∧lB r H Q:=⟨r,by subst e;exact h.le hn,k⟩
theorem jJ {C:Cx} {f:Value→Value→Sem Value} {a b a' b':T} {q:Bool} {G:Bool→Prop} (h:eP C f a b (.t (.bool q))) (e:a=a') (e2:b=b') (k:G q):∃q,eP C f a' b' (.t (.bool q))∧G q:=⟨q,by subst e;subst e2;exact h,k⟩
theorem cy {j:Nat} (h:j < 16777216):oS (j:Int)=true:=bu (ck h)
theorem GI {j:Int} (h:0≤j) (h':j < 16777216):oS j=true:=by
 obtain⟨m,rfl⟩:=Int.eq_ofNat_of_zero_le h
 exact cy (bn.mp h')
theorem gK {α:Type} {f:α→T} {l:List α} (h:l.length≤16777216):fit (l.map f).length=true:=gE (by rw [a9];exact h)
theorem EW {α σ:Type} {f:α→T} {body:aF→Hp→(Fl→aF→Hp→Prop)→Prop} {tg:Tg} {m:List Bool} {Q:Fl→aF→Hp→Prop} (r:σ→aF) (h:σ→Hp) (I:List α→σ→Prop) (l:List α) (s0:σ) (i0:I l s0)
 (step:∀x l s,I (x::l) s→∀K:aF→Hp→Prop,(∀s',I l s'→K (r s') (h s'))→gv tg (f x) (r s) fun ρ1=>body ρ1 (h s) (o5 Q fun ρ2 H2=>cQ m ρ2 H2 K)) (fin:∀s,I [] s→Q .next (r s) (h s)):kj body tg m Q (l.map f) (r s0) (h s0):=by
 refine⟨?_⟩
 induction l generalizing s0 with
 | nil=>exact fin s0 i0
 | cons x l ih=>exact step x l s0 i0 _ fun s' i'=>ih s' i'
theorem sY {α:Type} {f:α→T} {g:α→Option T} {tg:Tg} {cond:aF→Hp→(Bool→Hp→Prop)→Prop} {elt:aF→Hp→(V→Hp→Prop)→Prop} {ρ:aF} {H:Hp} {l:List α} {K:List T→Hp→Prop} (h:K (l.filterMap g) H)
 (step:∀x∈l,∀(K1:T→Hp→Prop) (K0:Hp→Prop),(∀y,g x=some y→K1 y H)→(g x=none→K0 H)→gv tg (f x) ρ fun ρ1=>cond ρ1 H fun b H1=>Br b (elt ρ1 H1 fun v H2=>yS v H2 fun y H3=>lP H H3 fun H4=>K1 y H4) (lP H H1 fun H4=>K0 H4)):EG tg cond elt ρ (l.map f) H K:=by
 walk_at "a"
 refine⟨?_⟩
 induction l generalizing K with
 | nil=>exact h
 | cons x l ih=>
  refine step x (.head _) _ _ (fun y e=>ih (K:=fun ys H=>K (y::ys) H) ?_ fun z hz=>step z (.tail _ hz)) fun e=>ih ?_ fun z hz=>step z (.tail _ hz)
  · rw [cE,e] at h;exact h
  · rw [cE,e] at h;exact h
 walk_at "z"
theorem lA {α:Type} {f:α→T} {g:α→T} {tg:Tg} {cond:aF→Hp→(Bool→Hp→Prop)→Prop} {elt:aF→Hp→(V→Hp→Prop)→Prop} {ρ:aF} {H:Hp} {l:List α} {K:List T→Hp→Prop} (h:K (l.map g) H)
 (step:∀x∈l,∀(K1:T→Hp→Prop) (K0:Hp→Prop),K1 (g x) H→gv tg (f x) ρ fun ρ1=>cond ρ1 H fun b H1=>Br b (elt ρ1 H1 fun v H2=>yS v H2 fun y H3=>lP H H3 fun H4=>K1 y H4) (lP H H1 fun H4=>K0 H4)):EG tg cond elt ρ (l.map f) H K:=
 sY (g:=fun x=>some (g x)) (by rw [List.filterMap_eq_map'];exact h) fun x hx K1 K0 h1 _=>step x hx K1 K0 (h1 _ rfl)
theorem IfW.cut {c:(Bool→Hp→Prop)→Prop} {K:Bool→Hp→Prop} (g:Bool) (H:Hp) (h:∀K':Bool→Hp→Prop,K' g H→c K') (k:K g H):IfW c K:=⟨h K k⟩
theorem StW.cut {c:(Fl→aF→Hp→Prop)→Prop} {Q I} (ρ:aF) (H:Hp) (h:∀Q':Fl→aF→Hp→Prop,Q' .next ρ H→c Q') (k:I ρ H):StW c Q I:= .mk (h _ k)
theorem StW.cutC {c:(Fl→aF→Hp→Prop)→Prop} {Q I} (m:List Bool) (ρ:aF) (H:Hp) (h:∀Q':Fl→aF→Hp→Prop,(∀ρ' H',(cQ m ρ' H' fun ρ2 H2=>ρ=ρ2∧H=H2)→Q' .next ρ' H')→c Q') (k:I ρ H):StW c Q I:=
 .can m (h _ fun ρ' H' q=>fL q fun ρ2 H2 z=>by obtain⟨z1,z2⟩:=z;subst z1;subst z2;exact k)
theorem Fu {w:Vc} {sc:Scope} {ρ:aF} {H:Hp}:∀K:Bool→Hp→Prop,K false H→vA w sc .Or [] ρ K H:=fun K h=>h
theorem AJ {w:Vc} {sc:Scope} {ρ:aF} {H:Hp}:∀K:Bool→Hp→Prop,K true H→vA w sc .And [] ρ K H:=fun K h=>h
theorem AK {w:Vc} {sc:Scope} {ρ:aF} {H:Hp} {e:Expr} {es:List Expr} {b g:Bool} (h1:∀K:Bool→Hp→Prop,K b H→w.b sc e ρ H K) (h2:∀K:Bool→Hp→Prop,K g H→vA w sc .Or es ρ K H):∀K:Bool→Hp→Prop,K (b || g) H→vA w sc .Or (e::es) ρ K H:=fun K h=>h1 _ (by
 cases b with
 | true=>exact h
 | false=>exact h2 K h)
theorem pc {w:Vc} {sc:Scope} {ρ:aF} {H:Hp} {e:Expr} {es:List Expr} {b g:Bool} (h1:∀K:Bool→Hp→Prop,K b H→w.b sc e ρ H K) (h2:∀K:Bool→Hp→Prop,K g H→vA w sc .And es ρ K H):∀K:Bool→Hp→Prop,K (b&&g) H→vA w sc .And (e::es) ρ K H:=fun K h=>h1 _ (by
 cases b with
 | true=>exact h2 K h
 | false=>exact h)
theorem Cv {w:Vc} {sc:Scope} {op:BoolOp} {es:List Expr} {ρ:aF} {H:Hp} {K:Bool→Hp→Prop} {g:Bool} (h2:∀K:Bool→Hp→Prop,K g H→vA w sc op es ρ K H) (h:K g H):AnW w sc op es ρ K H:=⟨h2 K h⟩
theorem fU {α σ:Type} {f:α→T} {body:aF→Hp→(Fl→aF→Hp→Prop)→Prop} {tg:Tg} {m:List Bool} {Q:Fl→aF→Hp→Prop} (r:σ→aF) (h:σ→Hp) (I:List α→σ→Prop) (l:List α) (s0:σ) (i0:I l s0)
 (step:∀x l s,I (x::l) s→∀Qt:Fl→aF→Hp→Prop,(∀s',I l s'→∀ρ H,(cQ m ρ H fun ρ' H'=>r s'=ρ'∧h s'=H')→Qt .next ρ H)→gv tg (f x) (r s) fun ρ1=>body ρ1 (h s) Qt) (fin:∀s,I [] s→Q .next (r s) (h s)):kj body tg m Q (l.map f) (r s0) (h s0):=by
 refine⟨?_⟩
 induction l generalizing s0 with
 | nil=>exact fin s0 i0
 | cons x l ih=>exact step x l s0 i0 _ fun s' i' ρ H q=>fL (K':=xw body tg m Q (l.map f)) q fun ρ' H' z=>by obtain⟨z1,z2⟩:=z;subst z1;subst z2;exact ih s' i'
structure Ij {σ:Type} (r:σ→aF) (h:σ→Hp) (m:List Bool) (ok:σ→Prop) (Q Qt:Fl→aF→Hp→Prop):Prop where
 nx:∀s,ok s→∀ρ H,(cQ m ρ H fun ρ' H'=>r s=ρ'∧h s=H')→Qt .next ρ H
 ct:∀s,ok s→∀ρ H,(cQ m ρ H fun ρ' H'=>r s=ρ'∧h s=H')→Qt .cont ρ H
 bk:∀ρ H,Q .next ρ H→Qt .brk ρ H
 rt:∀v ρ H,Q (.ret v) ρ H→Qt (.ret v) ρ H
theorem Ij.of {σ:Type} {r:σ→aF} {h:σ→Hp} {m:List Bool} {ok:σ→Prop} {Q:Fl→aF→Hp→Prop} {K:aF→Hp→Prop} (k:∀s,ok s→K (r s) (h s)):Ij r h m ok Q (o5 Q fun ρ2 H2=>cQ m ρ2 H2 K):=by
 have a:∀s,ok s→∀ρ H,(cQ m ρ H fun ρ' H'=>r s=ρ'∧h s=H')→cQ m ρ H K:=fun s hs ρ H q=>fL q fun ρ' H' z=>by obtain⟨z1,z2⟩:=z;subst z1;subst z2;exact k s hs
 exact⟨a,a,fun _ _ q=>q,fun _ _ _ q=>q⟩
theorem EY {α σ:Type} {f:α→T} {body:aF→Hp→(Fl→aF→Hp→Prop)→Prop} {tg:Tg} {m:List Bool} {Q:Fl→aF→Hp→Prop} (r:σ→aF) (h:σ→Hp) (I:List α→σ→Prop) (l:List α) (s0:σ) (i0:I l s0)
 (step:∀x l s,I (x::l) s→∀Qt:Fl→aF→Hp→Prop,Ij r h m (I l) Q Qt→gv tg (f x) (r s) fun ρ1=>body ρ1 (h s) Qt) (fin:∀s,I [] s→Q .next (r s) (h s)):kj body tg m Q (l.map f) (r s0) (h s0):=by
 refine⟨?_⟩
 induction l generalizing s0 with
 | nil=>exact fin s0 i0
 | cons x l ih=>exact step x l s0 i0 _ (.of (K:=xw body tg m Q (l.map f)) fun s' i'=>ih s' i')
theorem fh {w:Vc} {sc:Scope} {t:Expr} {b:List Stmt} {ρ:aF} {H:Hp} {Q:Fl→aF→Hp→Prop} {σ:Type} (r:σ→aF) (h h2:σ→Hp) (m:List Bool) (I:σ→Prop) (μ:σ→Nat) (g:σ→Bool) (s0:σ) (i0:I s0) (start:cQ m ρ H fun ρ' H'=>r s0=ρ'∧h s0=H')
 (test:∀s,I s→∀K:Bool→Hp→Prop,K (g s) (h2 s)→w.b sc t (r s) (h s) K) (turn:∀s,I s→g s=true→∀Qt:Fl→aF→Hp→Prop,Ij r h m (fun s'=>I s'∧μ s' < μ s) Q Qt→tx w sc b Qt (r s) (h2 s)) (fin:∀s,I s→g s=false→Q .next (r s) (h2 s)):kQ w sc t b ρ H Q:=
 .mk r h I μ m (fun s hs=>⟨test s hs _ (by
  cases e:g s with
  | true=>exact turn s hs e _ (.of fun s' q=>⟨s',rfl,rfl,q.1,q.2⟩)
  | false=>exact fin s hs e)⟩) (fL start fun ρ' H' z=>by obtain⟨z1,z2⟩:=z;subst z1;subst z2;exact⟨s0,rfl,rfl,i0⟩)
theorem uh {K:aF→Hp→Prop} {ρ ρ':aF} {H H':Hp} (h:K ρ H) (e:ρ=ρ') (e2:H=H'):K ρ' H':=by subst e;subst e2;exact h
local macro_rules | `(tactic| walk_at "k")=> `(tactic| run_tac kk 0)
local macro_rules | `(tactic| walk_at "i")=> `(tactic| run_tac kk 1)
local macro_rules | `(tactic| walk_at "s")=> `(tactic| run_tac kk 2)
local macro_rules | `(tactic| walk_at "r")=> `(tactic| run_tac kk 3)
local macro_rules | `(tactic| walk_at "p")=> `(tactic| repeat' first | exact Fu | exact AJ | refine pc ?_ ?_ | refine AK ?_ ?_ | (intro K h;(run_tac kk 4);first | exact h | refine Cv ?_ h))
local macro_rules | `(tactic| walk_at "b")=> `(tactic| run_tac kk 4)
noncomputable def iL (l:List Int):T:= .lst (l.map .int)
theorem D2 {lo hi n:Nat} (h1:(lo:Int) < hi) (h2:hi≤n) (hz:n < 1000):0≤((lo:Int)+hi).fdiv 2∧((lo:Int)+hi).fdiv 2 < 16777216∧((lo:Int)+hi).fdiv 2=(((lo+hi) / 2:Nat):Int)∧lo≤(lo+hi) / 2∧(lo+hi) / 2 < hi:=by
 have h1:=bn.mp h1
 have e:((lo:Int)+hi).fdiv 2=(((lo+hi) / 2:Nat):Int):=fq _ (by decide)
 have d:(lo+hi) / 2 < hi:=Nat.div_lt_of_lt_mul (by omega)
 exact⟨by rw [e];exact bP _,by rw [e];omega,e,by omega,d⟩
theorem yc {l:List Int} {x:Int} {lo:Nat} (h:lo≤l.length) (h3:∀j (h:j < l.length),j < lo→l[j]≤x) (h4:∀j (h:j < l.length),lo≤j→x < l[j]):l.countP (· ≤x)=lo:=by
 walk_at "a"
 have q:l=l.take lo++l.drop lo:=(eT lo l).symm
 rw [q,List.countP_append,List.countP_eq_length.mpr,List.countP_eq_zero.mpr,c8,dr h]
 · rfl
 · intro a ha
   obtain⟨j,hj,rfl⟩:=List.mem_iff_getElem.mp ha
   rw [aT] at hj
   rw [List.getElem_drop]
   exact fun z=>absurd (of_decide_eq_true z) (Int.not_le.mpr (h4 (lo+j) (Nat.add_lt_of_lt_sub' hj) (av _ _)))
 · intro a ha
   obtain⟨j,hj,rfl⟩:=List.mem_iff_getElem.mp ha
   rw [c8] at hj
   rw [List.getElem_take]
   exact decide_eq_true (h3 j (aq hj (bx _ _)) (aq hj (Nat.min_le_left _ _)))
 walk_at "z"
theorem wN {C:Cx} (F:de C) (l:List Int) (x:Int) (hl:l.Pairwise (· < ·)) (hz:l.length < 1000):dE C 4 (.ref 61) [iL l, .int x] (.t (.int ((l.countP (· ≤x):Int) - 1))):=by
 walk_at "a"
 refine bA F ["firsts","number"] rfl rfl rfl (fun _ _=>rfl) rfl ?_
 walk_at "k"
 refine aA (gK (a8 (ck hz) (by decide))) ?_
 walk_at "k"
 refine kQ.mk (σ:=Nat×Nat) (fun s=>[some (.t (iL l)),some (.t (.int x)),some (.t (.int s.1)),some (.t (.int s.2)),none,none]) (fun _=>[])
  (fun s=>s.1≤s.2∧s.2≤l.length∧(∀j (h:j < l.length),j < s.1→l[j]≤x)∧(∀j (h:j < l.length),s.2≤j→x < l[j])) (fun s=>s.2 - s.1) [true,true,true,true,false,false] ?_ ?_
 · rintro⟨lo,hi⟩ ⟨h1,h2,h3,h4⟩
   walk_at "k"
   refine CE (fun hc=>?_) fun hc=>?_
   · have hm:=D2 hc h2 hz
     have hml:(lo+hi) / 2 < l.length:=aq hm.2.2.2.2 h2
     walk_at "k"
     refine aA (GI hm.1 hm.2.1) ?_
     walk_at "k"
     refine bw (x:= .int l[(lo+hi) / 2]) (by show(l.map T.int)[(((lo:Int)+hi).fdiv 2).toNat]? =_;rw [hm.2.2.1,aW,ax,ai hml];rfl) ?_
     walk_at "k"
     refine CE (fun hd=>?_) fun hd=>?_
     · walk_at "k"
       refine⟨((lo+hi) / 2+1,hi),by rw [show((lo:Int)+hi).fdiv 2=_ from hm.2.2.1];rfl,rfl,⟨hm.2.2.2.2,h2,fun j hj hj2=>?_,h4⟩,cZ (aR hm.2.2.2.1 hm.2.2.2.2) (f0 hm.2.2.2.1)⟩
       rcases cP (cX hj2) with q | q
       · exact eH (kg (List.pairwise_iff_getElem.mp hl j ((lo+hi) / 2) hj hml q)) hd
       · subst q;exact hd
     · walk_at "k"
       refine⟨(lo,(lo+hi) / 2),by rw [show((lo:Int)+hi).fdiv 2=_ from hm.2.2.1],rfl,⟨hm.2.2.2.1,ck hml,h3,fun j hj hj2=>?_⟩,Nat.sub_lt_sub_right hm.2.2.2.1 hm.2.2.2.2⟩
       rcases cP hj2 with q | q
       · exact Int.lt_trans (Int.not_le.mp hd) (List.pairwise_iff_getElem.mp hl ((lo+hi) / 2) j hml hj q)
       · subst q;exact Int.not_le.mp hd
   · have e:lo=hi:=kW h1 (bU.mp fun q=>hc (bn.mpr q))
     subst e
     walk_at "k"
     rw [yc h2 h3 h4]
 · walk_at "k"
   exact⟨(0,l.length),by rw [a9];rfl,rfl,bl _,aB _,fun j _ h=>absurd h (iv _),fun j h h'=>absurd h (bU.mpr h')⟩
 walk_at "z"
theorem vd {C:Cx} (F:de C) (x:Int) (hx:x < 44032):dE C 3 (.ref 68) [.int x] (.t (.bool false)):=by
 walk_at "a"
 refine bA F ["code"] rfl rfl rfl (fun _=>rfl) rfl ?_
 walk_at "k"
 exact CE (fun h=>absurd (Int.le_of_sub_nonneg h) (Int.not_le.mpr hx)) fun _=>rfl
 walk_at "z"
theorem lR {C:Cx} (F:de C) (x:Int) (hx:x < 44032):dE C 4 (.ref 82) [.int x] (.t .none):=by
 refine bA F ["code"] rfl rfl rfl (fun _=>rfl) rfl ?_
 walk_at "k"
 refine bK (vd F x hx) (by walk_at "r") ?_
 walk_at "k"
 rfl
theorem wO {C:Cx} (F:de C) (dflt v:T) (vals:List T) (starts:List Int) (x:Int) (i:Nat) (hl:starts.Pairwise (· < ·)) (hz:starts.length < 1000) (hi:starts.countP (· ≤x)=i+1) (hv:vals[i]? =some v):
 dE C 5 (.ref 558) [.inst 580 [(.str "default",dflt),(.str "starts",iL starts),(.str "values", .lst vals)], .int x] (.t v):=by
 have h:=wN F starts x hl hz
 rw [hi,show((i+1:Nat):Int) - 1=(i:Int) from g8 (i:Int) 1] at h
 refine bA F ["self","code"] rfl rfl rfl (fun _ _=>rfl) rfl ?_
 walk_at "k"
 refine bK h (by walk_at "r") ?_
 walk_at "k"
 refine aA (cy ?_) ?_
 · exact cN (aq (Nat.lt_of_succ_le (ae hi.symm)) List.countP_le_length) (cN hz (by decide))
 walk_at "k"
 refine jr hv (by walk_at "r") ?_
 walk_at "k"
 rfl
noncomputable def EN:List Int:=[97,98,768,769,803,45,65,224,225,120,19970]
def Cd (c:Int):Prop:=c∈EN
noncomputable def IM (l:List Int) (P:Int→Prop):Prop:=List.rec (motive:=fun _=>Prop) True (fun c _ ih=>P c∧ih) l
theorem Ct {l:List Int} {P:Int→Prop} (h:IM l P):∀c∈l,P c:=by
 induction l with
 | nil=>exact fun c q=>nomatch q
 | cons c r ih=>exact List.forall_mem_cons.mpr ⟨h.1,ih h.2⟩
theorem fy {P:Int→Prop} (h:IM EN P) {c:Int} (q:Cd c):P c:=Ct h c q
noncomputable def aK (x:Int):Int:=bif x==768 then 230 else bif x==769 then 230 else bif x==803 then 220 else 0
noncomputable def yN:T:= .tup [.str "", .tup [.int 97, .int 768]]
noncomputable def Il:T:= .tup [.str "", .tup [.int 97, .int 769]]
noncomputable def KW:T:= .inst 580 [(.str "default", .int 0),(.str "starts",iL [0,768,770,803,804,807,808]),(.str "values",iL [0,230,0,220,0,202,0])]
noncomputable def dmM:T:= .inst 580 [(.str "default", .none),(.str "starts",iL [0,224,225,226]),(.str "values", .lst [.none,yN,Il, .none])]
noncomputable def vy:List (T×T):=[(.str "gc", .str "Cn"),(.str "ccc", .int 0),(.str "bc", .str "L"),(.str "lb", .str "XX"),(.str "ea", .str "N"),(.str "sc", .str "Zzzz"),(.str "jt", .str "U"),(.str "incb", .str "None")]++(["gcb","wb","sb"].map fun x=>(.str (ac x), .str "Other"))++
 (["ex","sd","cased","ci","ep","di","ids","idc","xids","xidc","pat_syn","pat_ws","idst"].map fun x=>(.str (ac x), .bool false))++(["dm","uc","lc","tc","cf","bm","bpb","scx","nt","nv","name","conf","nfkc_cf"].map fun x=>(.str (ac x), .none))++
 (["suc","slc","stc","alias"].map fun x=>(.str (ac x), .tup []))++[(.str "idna", .tup [.str "disallowed", .tup []])]
noncomputable def co:T:= .inst 636 [(.str "defaults", .dct vy),(.str "maps", .dct [(.str "ccc",KW),(.str "dm",dmM)]),(.str "properties", .dct []),(.str "words", .dct [])]
noncomputable def xd (x:Int):T:=bif x==224 then yN else bif x==225 then Il else .none
theorem BJ {C:Cx} (F:de C) {x:Int} (hx:Cd x):dE C 6 (.ref 626) [co, .str "ccc", .int x] (.t (.int (aK x))):=by
 walk_at "a"
 obtain⟨i,h1,h2⟩:=fy (P:=fun x=>∃i,[0,768,770,803,804,807,808].countP (· ≤x)=i+1∧([0,230,0,220,0,202,0].map T.int)[i]? =some (.int (aK x))) ⟨⟨_,rfl,rfl⟩,⟨_,rfl,rfl⟩,⟨_,rfl,rfl⟩,⟨_,rfl,rfl⟩,⟨_,rfl,rfl⟩,⟨_,rfl,rfl⟩,⟨_,rfl,rfl⟩,⟨_,rfl,rfl⟩,⟨_,rfl,rfl⟩,⟨_,rfl,rfl⟩,⟨_,rfl,rfl⟩,trivial⟩ hx
 refine bA F ["self","name","code"] rfl rfl rfl (fun _ _ _=>rfl) rfl ?_
 walk_at "k"
 refine⟨.str,(by walk_at "r"),(by walk_at "r"),?_⟩
 walk_at "k"
 refine⟨.str,(by walk_at "r"),(by walk_at "r"),?_⟩
 walk_at "k"
 refine bK (wO F (.int 0) _ _ _ x i (by decide) (by decide) h1 h2) (by walk_at "r") ?_
 walk_at "k"
 rfl
 walk_at "z"
theorem Ko {C:Cx} (F:de C) {x:Int} (hx:Cd x):dE C 6 (.ref 626) [co, .str "dm", .int x] (.t (xd x)):=by
 walk_at "a"
 obtain⟨i,h1,h2⟩:=fy (P:=fun x=>∃i,[0,224,225,226].countP (· ≤x)=i+1∧[.none,yN,Il, .none][i]? =some (xd x)) ⟨⟨_,rfl,rfl⟩,⟨_,rfl,rfl⟩,⟨_,rfl,rfl⟩,⟨_,rfl,rfl⟩,⟨_,rfl,rfl⟩,⟨_,rfl,rfl⟩,⟨_,rfl,rfl⟩,⟨_,rfl,rfl⟩,⟨_,rfl,rfl⟩,⟨_,rfl,rfl⟩,⟨_,rfl,rfl⟩,trivial⟩ hx
 refine bA F ["self","name","code"] rfl rfl rfl (fun _ _ _=>rfl) rfl ?_
 walk_at "k"
 refine⟨.str,(by walk_at "r"),(by walk_at "r"),?_⟩
 walk_at "k"
 refine⟨.str,(by walk_at "r"),(by walk_at "r"),?_⟩
 walk_at "k"
 refine bK (wO F .none _ _ _ x i (by decide) (by decide) h1 h2) (by walk_at "r") ?_
 walk_at "k"
 rfl
 walk_at "z"
noncomputable def KI (x:Int):T:=bif x==224 then .tup [.int 97, .int 768] else bif x==225 then .tup [.int 97, .int 769] else .none
theorem su {x:Int} (h:Cd x):x < 44032:=of_decide_eq_true (aj.mp (rfl:EN.all (fun x=>decide (x < 44032))=true) x h)
theorem vf {C:Cx} (F:de C) {x:Int} (hx:Cd x) (e:xd x= .none):dE C 7 (.ref 96) [.int x,co, .bool false] (.t .none):=by
 have h:=Ko F hx
 rw [e] at h
 refine bA F ["code","data","is_compat"] rfl rfl rfl (fun _ _ _=>rfl) rfl ?_
 walk_at "k"
 refine bK (lR F x (su hx)) (by walk_at "r") ?_
 walk_at "k"
 refine bK h (by walk_at "r") ?_
 walk_at "k"
 rfl
theorem pF {C:Cx} (F:de C) {x:Int} {r:T} (hx:Cd x) (e:xd x= .tup [.str "",r]):dE C 7 (.ref 96) [.int x,co, .bool false] (.t r):=by
 walk_at "a"
 have h:=Ko F hx
 rw [e] at h
 refine bA F ["code","data","is_compat"] rfl rfl rfl (fun _ _ _=>rfl) rfl ?_
 walk_at "k"
 refine bK (lR F x (su hx)) (by walk_at "r") ?_
 walk_at "k"
 refine bK h (by walk_at "r") ?_
 walk_at "k"
 rfl
 walk_at "z"
theorem tC {C:Cx} (F:de C) {x:Int} (hm:dE C 7 (.ref 96) [.int x,co, .bool false] (.t .none)):dE C 8 (.ref 103) [.int x,co, .bool false] (.t (iL [x])):=by
 walk_at "a"
 refine bA F ["code","data","is_compat"] rfl rfl rfl (fun _ _ _=>rfl) rfl ?_
 walk_at "k"
 refine kQ.un [true,true,true,true,true,true,false,false,false,false,false] 2 ?_
 walk_at "k"
 refine⟨_,rx (by walk_at "r") (by walk_at "r"),?_⟩
 walk_at "k"
 refine bK hm (by walk_at "r") ?_
 walk_at "k"
 refine⟨_,rx (by walk_at "r") (by walk_at "r"),?_⟩
 walk_at "k"
 rfl
 walk_at "z"
theorem o7 {C:Cx} (F:de C) {x a b:Int} (hm:dE C 7 (.ref 96) [.int x,co, .bool false] (.t (.tup [.int a, .int b]))) (ha:dE C 7 (.ref 96) [.int a,co, .bool false] (.t .none)) (hb:dE C 7 (.ref 96) [.int b,co, .bool false] (.t .none)):dE C 8 (.ref 103) [.int x,co, .bool false] (.t (iL [a,b])):=by
 walk_at "a"
 refine bA F ["code","data","is_compat"] rfl rfl rfl (fun _ _ _=>rfl) rfl ?_
 walk_at "k"
 refine kQ.un [true,true,true,true,true,true,false,false,false,false,false] 5 ?_
 walk_at "k"
 refine⟨_,rx (by walk_at "r") (by walk_at "r"),?_⟩
 walk_at "k"
 refine bK hm (by walk_at "r") ?_
 walk_at "k"
 refine⟨_,GL (by walk_at "r") (by walk_at "r") (fun d h=>nomatch h),?_⟩
 walk_at "k"
 refine⟨_,qG (k:=2) (a:=1) rfl (by decide) rfl rfl rfl rfl (by decide),?_⟩
 walk_at "k"
 refine kj.mk ?_
 walk_at "k"
 refine⟨_,rx (by walk_at "r") (by walk_at "r"),?_⟩
 walk_at "k"
 refine bK ha (by walk_at "r") ?_
 walk_at "k"
 refine⟨_,rx (by walk_at "r") (by walk_at "r"),?_⟩
 walk_at "k"
 refine bK hb (by walk_at "r") ?_
 walk_at "k"
 refine⟨_,rx (by walk_at "r") (by walk_at "r"),?_⟩
 walk_at "k"
 refine⟨_,rx (by walk_at "r") (by walk_at "r"),?_⟩
 walk_at "k"
 rfl
 walk_at "z"
noncomputable def bB (x:Int):List Int:=bif x==224 then [97,768] else bif x==225 then [97,769] else [x]
theorem v8 {C:Cx} (F:de C) {x:Int} (hx:Cd x):dE C 8 (.ref 103) [.int x,co, .bool false] (.t (iL (bB x))):=by
 have m (y:Int) (h:EN.elem y=true) (e:xd y= .none):dE C 7 (.ref 96) [.int y,co, .bool false] (.t .none):=vf F (List.elem_iff.mp h) e
 have one (y:Int) (h:EN.elem y=true) (e:xd y= .none) (q:bB y=[y]):dE C 8 (.ref 103) [.int y,co, .bool false] (.t (iL (bB y))):=q▸tC F (m y h e)
 exact fy (P:=fun x=>dE C 8 (.ref 103) [.int x,co, .bool false] (.t (iL (bB x)))) ⟨one _ rfl rfl rfl,one _ rfl rfl rfl,one _ rfl rfl rfl,one _ rfl rfl rfl,one _ rfl rfl rfl,one _ rfl rfl rfl,one _ rfl rfl rfl,
  o7 F (pF F (List.elem_iff.mp rfl) rfl) (m _ rfl rfl) (m _ rfl rfl),o7 F (pF F (List.elem_iff.mp rfl) rfl) (m _ rfl rfl) (m _ rfl rfl),one _ rfl rfl rfl,one _ rfl rfl rfl,trivial⟩ hx
noncomputable def EM (n:Nat):List (List Bool):=Nat.rec (motive:=fun _=>List (List Bool)) [[]] (fun _ ih=>ih.flatMap fun b=>[false::b,true::b]) n
theorem xV (b:List Bool):b∈EM b.length:=by
 induction b with
 | nil=>exact .head _
 | cons x r ih=>
  refine aG.mpr ⟨r,ih,?_⟩
  cases x with
  | false=>exact .head _
  | true=>exact .tail _ (.head _)
noncomputable def Bh (bs:List Bool) (n:Nat):List Nat:=(bH n).filter (fun i=> !bs.getD i false)++(bH n).filter (fun i=>bs.getD i false)
noncomputable def JL (n:Nat) (bs:List Bool):Bool:=(iP (fun i j=> !bs.getD i false&&bs.getD j false) n (kas_sort n)).map Array.toList==some (Bh bs n)
theorem B7:([2,3,4,5,6,7,8].all fun n=>(EM n).all (JL n))=true:=(by walk_at "r")
theorem LU {bs:List Bool} {n:Nat} (e:bs.length=n) (h:n∈[2,3,4,5,6,7,8]):(iP (fun i j=> !bs.getD i false&&bs.getD j false) n (kas_sort n)).map Array.toList=some (Bh bs n):=
 beq_iff_eq.mp (aj.mp (aj.mp B7 n h) bs (e▸xV bs))
theorem oT {α:Type} {lt lt':Nat→Nat→Bool} {n:Nat} (h:∀i j,i < n→j < n→lt i j=lt' i j) (t:KasT α):iP lt n t=iP lt' n t:=by
 induction t with
 | ret a=>rfl
 | ask i j k ih=>
  show(bif bf i n&&bf j n then iP lt n (k (lt i j)) else none)=bif bf i n&&bf j n then iP lt' n (k (lt' i j)) else none
  cases e:bf i n&&bf j n with
  | false=>rfl
  | true=>
   have e:=aa.mp e
   rw [h i j (dq.mp e.1) (dq.mp e.2),ih]
noncomputable def dT (p:Int×Int):Bool:=p.1==230
noncomputable def srt (r:List (Int×Int)):List Int:=(r.filter (fun p=> !dT p)).map (·.2)++(r.filter dT).map (·.2)
def yX (r:List (Int×Int)):Prop:=r.length≤8∧∀p∈r,p.1=220∨p.1=230
theorem ql {α:Type} (d:α) (f:α→Bool) (l:List α):((bH l.length).filter (fun i=>f (l.getD i d))).map (fun i=>l.getD i d)=l.filter f:=by
 have key:(bH l.length).map (fun i=>l.getD i d)=l:=by
  apply List.ext_getElem
  · rw [a9,cW]
  · intro i h1 h2
    rw [List.getElem_map,List.getElem_range,ah,ai h2]
    rfl
 have e:=congrArg (lF f) key
 rw [List.filter_map] at e
 exact e
theorem mU (r:List (Int×Int)):(srt r).length≤r.length+r.length:=by
 unfold srt
 rw [ak,a9,a9]
 exact aU (gO _ _) (gO _ _)
theorem sJ {α β:Type} (f:α→β) (l:List α) (d:α) (i:Nat):(l.map f).getD i (f d)=f (l.getD i d):=by
 rw [ah,ax,ah]
 cases l[i]? <;> rfl
theorem Ec {r:List (Int×Int)} (h:yX r):∃q,vm (fun i j=>decide ((r.map (·.1)).getD i 0 < (r.map (·.1)).getD j 0)) r.length q∧q.map (fun i=>(lC r i).2)=srt r:=by
 walk_at "a"
 have hb (i:Nat):(r.map dT).getD i false=dT (lC r i):=sJ dT r (0,0) i
 have hk (i:Nat):(r.map (·.1)).getD i 0=(lC r i).1:=sJ (·.1) r (0,0) i
 have hst:(Bh (r.map dT) r.length).map (fun i=>(lC r i).2)=srt r:=by
  unfold Bh srt
  simp only [hb]
  rw [ao,←ql (0,0) (fun p:Int×Int=> !dT p) r,←ql (0,0) dT r,aO,aO]
  rfl
 refine⟨_,?_,hst⟩
 unfold vm
 cases e:decide (r.length < 2) with
 | true=>
  rw [if_pos (of_decide_eq_true e)]
  have l2:=of_decide_eq_true e
  cases r with
  | nil=>rfl
  | cons a r=>cases r with
   | nil=>show(Bh [dT a] 1)=[0];cases dT a <;> rfl
   | cons b r=>exact absurd l2 (bU.mpr (cM 2 r.length))
 | false=>
  have l2:=bU.mp (of_decide_eq_false e)
  rw [if_neg (of_decide_eq_false e)]
  have hm:r.length∈[2,3,4,5,6,7,8]:=by
   have:r.length∈List.range' 2 7:=List.mem_range'_1.mpr ⟨l2,f0 h.1⟩
   exact this
  obtain⟨qa,e1,e2⟩:=aE.mp (LU (a9 dT) hm)
  refine⟨qa,?_,e2,fun i hi=>?_⟩
  · rw [←e1]
    refine oT (fun i j hi hj=>?_) _
    rw [hb,hb,hk,hk]
    have key (i:Nat) (hi:i < r.length):(lC r i).1=220∨(lC r i).1=230:=by
     unfold lC
     rw [ah,ai hi]
     exact h.2 _ (List.getElem_mem hi)
    unfold dT
    rcases key i hi with a | a <;> rcases key j hj with b | b <;> rw [a,b] <;> rfl
  · rcases aN.mp hi with a | a
    · exact dF.mp (cp.mp a).1
    · exact dF.mp (cp.mp a).1
 walk_at "z"
structure qO (C:Cx):Prop extends LamTop C where
 pos:C.lpos=⟨92,53,92,73⟩
theorem mX {C:Cx} (F:de C) (LT:qO C) {r:List (Int×Int)} (h:yX r):dE C 4 (.ref 115) [.lst (r.map nW)] (.t (iL (srt r))):=by
 walk_at "a"
 obtain⟨q,hq,e⟩:=Ec h
 have lp:=LT.pos
 refine zN F (vs:=[.t (.lst (r.map nW))]) ["run"] rfl rfl rfl (fun _=>rfl) (.inr ⟨rfl,rfl⟩) ?_
 refine qP (Cq (cond:=fun ρ H Q=>Q true H) (el:=(vc C tb 3 5).e _ _) (fun h=>h) (tz F.tbok 5).e (tg:= .tup [1,2]) rfl (fun _ _=>rfl) (ox rfl) rfl ?_)
 refine lp▸tP F.f LT.toLamTop rfl (F.nb _ (dy (rfl:pI.lookup (ac "sorted")=some GK.srt))) rfl rfl ((tz F.tbok 5).e ?_) (fun _=>rfl) (fun _=>rfl) (fun _ _ _ _ _=>rfl) rfl rfl rfl rfl rfl
 walk_at "k"
 refine wv.mk r q rfl (aR h.1 (by decide)) hq ⟨rfl,?_⟩
 have lq:q.length≤16:=by
  have a:=congrArg i3 e
  rw [a9] at a
  rw [a]
  exact a8 (mU r) (aU h.1 h.1)
 walk_at "k"
 refine aA (gK (a8 lq (by decide))) ?_
 walk_at "k"
 refine lA (g:=fun i=> .int (lC r i).2) ?_ fun i hi K1 K0 h1=>?_
 · walk_at "k"
   exact congrArg T.lst (by rw [←e,aO];rfl)
 · walk_at "k"
   exact h1
 walk_at "z"
noncomputable def lO (l:List Int):List Int→List (Int×Int)→List Int:=List.rec (motive:=fun _=>List Int→List (Int×Int)→List Int) (fun f r=>f++srt r) (fun c _ ih f r=>bif decide (0 < aK c) then ih f (r++[(aK c,c)]) else ih (f++srt r++[c]) []) l
noncomputable def lN (l:List Int):Nat:=l.countP fun c=>decide (0 < aK c)
structure km (l0 l:List Int) (s:List Int×List (Int×Int)):Prop where
 cd:∀c∈l,Cd c
 rk:∀p∈s.2,p.1=220∨p.1=230
 m8:s.2.length+lN l≤8
 lf:s.1.length+20*l.length≤30000
 eq:lO l s.1 s.2=lO l0 [] []
section
variable {l0 l f:List Int} {c:Int} {r:List (Int×Int)}
theorem km.ok (h:km l0 l (f,r)):yX r:=⟨a8 (av _ _) h.m8,h.rk⟩
theorem km.fl (h:km l0 l (f,r)):f.length≤30000:=a8 (av _ _) h.lf
theorem km.fit1 (h:km l0 l (f,r)):fit (r.map nW).length=true:=gK (a8 h.ok.1 (by decide))
theorem km.fit2 (h:km l0 l (f,r)):fit ((f.map T.int).length+((srt r).map T.int).length)=true:=gE (by rw [a9,a9];exact a8 (aU h.fl (a8 (mU r) (aU h.ok.1 h.ok.1))) (by decide))
theorem km.fit3 (h:km l0 l (f,r)):fit (f.map T.int++(srt r).map T.int).length=true:=by rw [ak];exact h.fit2
theorem km.run (h:km l0 (c::l) (f,r)) (q:0 < aK c):km l0 l (f,r++[(aK c,c)]):=by
 walk_at "a"
 have m8:=h.m8
 have lf:=h.lf
 unfold lN at m8
 rw [List.countP_cons_of_pos (p:=fun c=>decide (0 < aK c)) (decide_eq_true q)] at m8
 refine⟨fun d hd=>h.cd d (.tail _ hd),fun p hp=>?_,by rw [ak];exact bz _ _ _▸m8,a8 (aL (aJ 20 (d5 _)) _) lf,?_⟩
 · rcases aN.mp hp with hp | hp
   · exact h.rk p hp
   · rw [af.mp hp]
     have z:=fy (P:=fun c=>(!decide (0 < aK c) || (aK c==220) || (aK c==230))=true) ⟨rfl,rfl,rfl,rfl,rfl,rfl,rfl,rfl,rfl,rfl,rfl,trivial⟩ (h.cd c (.head _))
     rw [decide_eq_true q] at z
     exact(c9.mp z).imp (fun z=>beq_iff_eq.mp z) fun z=>beq_iff_eq.mp z
 · rw [←h.eq]
   show _=bif decide (0 < aK c) then _ else _
   rw [decide_eq_true q]
   rfl
 walk_at "z"
theorem km.put (h:km l0 (c::l) (f,r)) (q: ¬0 < aK c):km l0 l (f++srt r++[c],[]):=by
 have m8:=h.m8
 have lf:=h.lf
 have s1:=a8 (mU r) (aU h.ok.1 h.ok.1)
 unfold lN at m8
 rw [List.countP_cons_of_neg (p:=fun c=>decide (0 < aK c)) (fun z=>q (of_decide_eq_true z))] at m8
 refine⟨fun d hd=>h.cd d (.tail _ hd),fun p hp=>(nomatch hp),a8 (aQ (bl _) _) m8,?_,?_⟩
 · show(f++srt r++[c]).length+20*l.length≤30000
   rw [ak,ak]
   simp only [aM,bW] at lf ⊢
   omega
 · rw [←h.eq]
   show _=bif decide (0 < aK c) then _ else _
   rw [decide_eq_false q]
   rfl
end
theorem yG {C:Cx} (F:de C) (LT:qO C) {l:List Int} (h0:∀c∈l,Cd c) (hm:lN l≤8) (hz:l.length≤1000):dE C 8 (.ref 110) [iL l,co] (.t (iL (lO l [] []))):=by
 walk_at "a"
 refine bA F ["text","data"] rfl rfl rfl (fun _ _=>rfl) rfl ?_
 walk_at "k"
 refine EW (σ:=List Int×List (Int×Int)) (fun s=>[some (.t (iL l)),some (.t co),some (.ref 100),some (.ref 101),none,none,none]) (fun s=>[(100, .list (s.1.map .int)),(101, .list (s.2.map nW))]) (km l) l ([],[]) ⟨h0,fun _ h=>(nomatch h),a8 (ae (bo _)) hm,by show 0+20*l.length≤30000;omega,rfl⟩ ?_ ?_
 · rintro c l' ⟨f,r⟩ hi K hK
   walk_at "k"
   refine bK (BJ F (hi.cd c (.head _))) (by walk_at "r") ?_
   walk_at "k"
   refine CE (fun hr=>?_) fun hr=>?_
   · walk_at "k"
     refine aA hi.fit1 ?_
     walk_at "k"
     refine uh (hK (f,r++[(aK c,c)]) (hi.run hr)) (by walk_at "r") ?_
     show [_,(101,O.list ((r++[(aK c,c)]).map nW))]=_
     rw [ao]
     rfl
   · walk_at "k"
     refine bK (mX F LT hi.ok) (by walk_at "r") ?_
     walk_at "k"
     refine aA hi.fit2 ?_
     walk_at "k"
     refine aA hi.fit3 ?_
     walk_at "k"
     refine uh (hK (f++srt r++[c],[]) (hi.put hr)) (by walk_at "r") ?_
     show [(100,O.list ((f++srt r++[c]).map T.int)),_]=_
     rw [ao,ao]
     rfl
 · rintro⟨f,r⟩ hi
   walk_at "k"
   refine bK (mX F LT hi.ok) (by walk_at "r") ?_
   walk_at "k"
   refine aA hi.fit2 ?_
   walk_at "k"
   rw [←hi.eq]
   exact congrArg T.lst ao.symm
 walk_at "z"
noncomputable def dS (l:List Int):List Int:=lO (l.flatMap bB) [] []
theorem fT {c:Int} (h:Cd c):∀d∈bB c,Cd d:=fun d hd=>List.elem_iff.mp (aj.mp (fy (P:=fun c=>(bB c).all (fun d=>EN.elem d)=true) ⟨rfl,rfl,rfl,rfl,rfl,rfl,rfl,rfl,rfl,rfl,rfl,trivial⟩ h) d hd)
theorem fM {c:Int} (h:Cd c):(bB c).length≤2∧lN (bB c)≤1:=fy (P:=fun c=>(bB c).length≤2∧lN (bB c)≤1) (by
 have z {a b:Nat} (h:dm a b=true):a≤b:=al h
 exact⟨⟨z rfl,z rfl⟩,⟨z rfl,z rfl⟩,⟨z rfl,z rfl⟩,⟨z rfl,z rfl⟩,⟨z rfl,z rfl⟩,⟨z rfl,z rfl⟩,⟨z rfl,z rfl⟩,⟨z rfl,z rfl⟩,⟨z rfl,z rfl⟩,⟨z rfl,z rfl⟩,⟨z rfl,z rfl⟩,trivial⟩) h
theorem ge {l:List Int} (h:∀c∈l,Cd c):lN (l.flatMap bB)≤l.length∧(l.flatMap bB).length≤2*l.length:=by
 induction l with
 | nil=>exact⟨aB 0,aB 0⟩
 | cons c l ih=>
  have a:=ih fun d hd=>h d (.tail _ hd)
  have b:=fM (h c (.head _))
  have e:lN ((c::l).flatMap bB)=lN (bB c)+lN (l.flatMap bB):=List.countP_append
  rw [e,List.flatMap_cons,ak,aM]
  exact⟨bI l.length 1▸aU b.2 a.1,by rw [dR,bI (2*l.length)];exact aU b.1 a.2⟩
structure wQ (l0 l f:List Int):Prop where
 cd:∀c∈l,Cd c
 lf:f.length+2*l.length≤100
 eq:f++l.flatMap bB=l0.flatMap bB
theorem wQ.step {l0 l f:List Int} {c:Int} (h:wQ l0 (c::l) f):wQ l0 l (f++bB c):=by
 refine⟨fun d hd=>h.cd d (.tail _ hd),?_,by rw [au];exact h.eq⟩
 rw [ak]
 have b:=(fM (h.cd c (.head _))).1
 have lf:=h.lf
 rw [aM,dR,bI (2*l.length),←bq] at lf
 exact a8 (aQ (aL b _) _) lf
theorem wQ.fit {l0 l f:List Int} {c:Int} (h:wQ l0 (c::l) f):fit ((f.map T.int).length+((bB c).map T.int).length)=true:=gE (by
 rw [a9,a9]
 exact a8 (aU (a8 (av _ _) h.lf) (fM (h.cd c (.head _))).1) (by decide))
theorem rX {C:Cx} (F:de C) (LT:qO C) {l:List Int} (h:∀c∈l,Cd c) (h8:l.length≤8):dE C 10 (.ref 123) [iL l,co, .bool false] (.t (iL (dS l))):=by
 walk_at "a"
 have ho:=yG F LT (l:=l.flatMap bB) (fun c hc=>by
  obtain⟨d,hd,hc⟩:=aG.mp hc
  exact fT (h d hd) c hc) (a8 (ge h).1 h8) (a8 (ge h).2 (a8 (aJ 2 h8) (by decide)))
 refine ig F [] [] ["text","data","is_compat"] rfl rfl rfl (fun _ _=> .nil) rfl (fun _ _ _=>(by walk_at "r")) rfl ?_
 walk_at "k"
 refine EW (σ:=List Int) (fun f=>[some (.t (iL l)),some (.t co),some (.t (.bool false)),some (.ref 100),none,none,none]) (fun f=>[(100, .list (f.map .int))]) (wQ l) l [] ⟨h,by rw [bW,bo];exact a8 (aJ 2 h8) (by decide),rfl⟩ ?_ ?_
 · rintro c l' f hi K hK
   walk_at "k"
   refine bK (v8 F (hi.cd c (.head _))) (by walk_at "r") ?_
   walk_at "k"
   refine aA hi.fit ?_
   walk_at "k"
   exact uh (hK (f++bB c) hi.step) (by walk_at "r") (by rw [ao])
 · rintro f hi
   have e:=hi.eq
   rw [hF,aw] at e
   subst e
   walk_at "k"
   refine bK ho (by walk_at "r") ?_
   walk_at "k"
   rfl
 walk_at "z"
theorem BK {C:Cx} (F:de C) (LT:qO C) {l:List Int} (h:∀c∈l,Cd c) (h8:l.length≤8):dE C 11 (.ref 188) [iL l,co, .str "nfd"] (.t (iL (dS l))):=by
 walk_at "a"
 refine ig F [.none] [.none] ["text","data","word","composer"] rfl rfl rfl (fun _ _=> .cons (TR.vri .none) .nil) rfl (fun _ _ _=>(by walk_at "r")) rfl ?_
 walk_at "k"
 refine⟨_,A0 (by walk_at "r") (by walk_at "r") (aj.mp (by walk_at "r")),?_⟩
 walk_at "k"
 refine bK (rX F LT h h8) (by walk_at "r") ?_
 walk_at "k"
 refine⟨_,A0 (by walk_at "r") (by walk_at "r") (aj.mp (by walk_at "r")),?_⟩
 walk_at "k"
 rfl
 walk_at "z"
theorem wM {C:Cx} (F:de C) (LT:qO C) {l:List Int} (h:∀c∈l,Cd c) (h8:l.length≤8):dE C 12 (.ref 195) [iL l,co] (.t (iL (dS l))):=by
 refine bA F ["text","data"] rfl rfl rfl (fun _ _=>rfl) rfl ?_
 walk_at "k"
 refine bK (BK F LT h h8) (by walk_at "r") ?_
 walk_at "k"
 rfl
abbrev E4:=Int×Int×Int×Bool
abbrev W4:=Int×Int×Int×Int
noncomputable def s8 (e:E4):T:= .tup [.int e.1, .int e.2.1, .int e.2.2.1, .bool e.2.2.2]
noncomputable def wT (w:W4):T:= .tup [.int w.1, .int w.2.1, .int w.2.2.1, .int w.2.2.2]
noncomputable def iN (l:List E4):T:= .lst (l.map s8)
noncomputable def wL (l:List W4):T:= .lst (l.map wT)
noncomputable def qR (b:Bool) (e:E4):Bool:=bif e.1 != 0 then e.2.2.2 else b
noncomputable def u0 (b:Bool) (e:E4):Bool:=(e.1 != 0&&(e.2.2.2&&true)) || ((e.1==0&&(qR b e&&true)) || ((e.2.1==0&&(e.2.2.1==0&&(e.1==0&&true))) || false))
noncomputable def lV (top:Int) (b:Bool) (e:E4):W4:=bif u0 b e then(0,0,0,0) else(e.1,e.2.1,e.2.2.1,top)
noncomputable def yO (step:Bool→E4→W4) (l:List E4):Bool→List W4:=List.rec (motive:=fun _=>Bool→List W4) (fun _=>[]) (fun e _ ih b=>step b e::ih (qR b e)) l
structure yL (step:Bool→E4→W4) (l l':List E4) (s:List W4×Bool):Prop where
 len:s.1.length+l'.length≤10000
 eq:s.1++yO step l' s.2=yO step l false
theorem yL.put {step:Bool→E4→W4} {l l':List E4} {e:E4} {f:List W4} {b:Bool} {y:W4} (h:yL step l (e::l') (f,b)) (q:step b e=y):yL step l l' (f++[y],qR b e):=⟨by
 rw [ak]
 exact a8 (ae (bz _ _ _)) h.len,by subst q;rw [←h.eq,au];rfl⟩
theorem gz {α:Type} {g:α→T} {f:List α} {y:α} {n:Nat} {H:Hp}:(n,O.list ((f++[y]).map g))::H=(n,O.list (f.map g++[g y]))::H:=by rw [ao];rfl
theorem cH {α:Type} {b:Bool} {x y:α} (h:b=true):(bif b then x else y)=x:=by subst h;rfl
theorem bS {α:Type} {b:Bool} {x y:α} (h:b=false):(bif b then x else y)=y:=by subst h;rfl
theorem yL.fit {step:Bool→E4→W4} {l l':List E4} {s:List W4×Bool} (h:yL step l l' s):fit (s.1.map wT).length=true:=gK (a8 (av _ _) (a8 h.len (by decide)))
theorem yL.fin {step:Bool→E4→W4} {l:List E4} {s:List W4×Bool} (h:yL step l [] s):T.lst (s.1.map wT)=wL (yO step l false):=by
 rw [←h.eq]
 exact congrArg (fun x=>T.lst (dL wT x)) (aw s.1).symm
theorem yL.start {step:Bool→E4→W4} {l:List E4} (h:l.length≤10000):yL step l l ([],false):=⟨by rw [bW,bo];exact h,rfl⟩
theorem EK {b:Bool} {x y:Bool} {P:Bool→Prop} (h:P (bif b then x else y)):(b=true→P x)∧(b=false→P y):=by
 cases b with
 | true=>exact⟨fun _=>h,fun z=>nomatch z⟩
 | false=>exact⟨(fun z=>nomatch z),fun _=>h⟩
theorem yD {C:Cx} (F:de C) {l:List E4} {top:Int} (hz:l.length≤10000):dE C 4 (.ref 225) [iN l, .int top] (.t (wL (yO (lV top) l false))):=by
 walk_at "a"
 refine bA F ["elements","top"] rfl rfl rfl (fun _ _=>rfl) rfl ?_
 walk_at "k"
 refine fU (σ:=List W4×Bool) (fun s=>[some (.t (iN l)),some (.t (.int top)),some (.ref 100),some (.t (.bool s.2)),none,none,none,none]) (fun s=>[(100, .list (s.1.map wT))]) (yL (lV top) l) l ([],false) (.start hz) ?_ ?_
 · rintro e l' ⟨f,b⟩ hi Qt hQ
   walk_at "s"
   refine StW.cut [some (.t (iN l)),some (.t (.int top)),some (.ref 100),some (.t (.bool (qR b e))),some (.t (.int e.1)),some (.t (.int e.2.1)),some (.t (.int e.2.2.1)),some (.t (.bool e.2.2.2))] [(100, .list (f.map wT))] (fun Q' h=>?_) ?_
   · have h:=EK (P:=fun x=>Q' .next [some (.t (iN l)),some (.t (.int top)),some (.ref 100),some (.t (.bool x)),some (.t (.int e.1)),some (.t (.int e.2.1)),some (.t (.int e.2.2.1)),some (.t (.bool e.2.2.2))] [(100, .list (f.map wT))]) h
     walk_at "k"
     refine cn (fun q=>?_) fun q=>?_
     · walk_at "k"
       exact h.1 q
     · walk_at "k"
       exact h.2 q
   walk_at "i"
   refine IfW.cut (u0 b e) _ (by walk_at "p") ?_
   walk_at "k"
   refine cn (fun q=>?_) fun q=>?_
   · walk_at "k"
     refine aA hi.fit ?_
     walk_at "k"
     refine hQ _ (hi.put (cH q)) _ _ ?_
     walk_at "k"
     exact⟨rfl,gz⟩
   · walk_at "k"
     refine aA hi.fit ?_
     walk_at "k"
     refine hQ _ (hi.put (bS q)) _ _ ?_
     walk_at "k"
     exact⟨rfl,gz⟩
 · rintro s hi
   walk_at "k"
   exact hi.fin
 walk_at "z"
noncomputable def HG (e:E4):Bool:=e.1 != 0&&(e.2.2.2&&true)
noncomputable def HH (b:Bool) (e:E4):Bool:=e.1==0&&((qR b e || ((e.2.1==0&&(e.2.2.1==0&&true)) || false))&&true)
noncomputable def mh (top:Int) (b:Bool) (e:E4):W4:=bif HG e then(0,0,0,e.1) else bif HH b e then(0,0,0,0) else(e.1,e.2.1,e.2.2.1,top)
theorem yH {C:Cx} (F:de C) {l:List E4} {top:Int} (hz:l.length≤10000):dE C 4 (.ref 232) [iN l, .int top] (.t (wL (yO (mh top) l false))):=by
 walk_at "a"
 refine bA F ["elements","top"] rfl rfl rfl (fun _ _=>rfl) rfl ?_
 walk_at "k"
 refine fU (σ:=List W4×Bool) (fun s=>[some (.t (iN l)),some (.t (.int top)),some (.ref 100),some (.t (.bool s.2)),none,none,none,none]) (fun s=>[(100, .list (s.1.map wT))]) (yL (mh top) l) l ([],false) (.start hz) ?_ ?_
 · rintro e l' ⟨f,b⟩ hi Qt hQ
   walk_at "s"
   refine StW.cut [some (.t (iN l)),some (.t (.int top)),some (.ref 100),some (.t (.bool (qR b e))),some (.t (.int e.1)),some (.t (.int e.2.1)),some (.t (.int e.2.2.1)),some (.t (.bool e.2.2.2))] [(100, .list (f.map wT))] (fun Q' h=>?_) ?_
   · have h:=EK (P:=fun x=>Q' .next [some (.t (iN l)),some (.t (.int top)),some (.ref 100),some (.t (.bool x)),some (.t (.int e.1)),some (.t (.int e.2.1)),some (.t (.int e.2.2.1)),some (.t (.bool e.2.2.2))] [(100, .list (f.map wT))]) h
     walk_at "k"
     refine cn (fun q=>?_) fun q=>?_
     · walk_at "k"
       exact h.1 q
     · walk_at "k"
       exact h.2 q
   walk_at "i"
   refine IfW.cut (HG e) _ (by walk_at "p") ?_
   walk_at "k"
   refine cn (fun q=>?_) fun q=>?_
   · walk_at "k"
     refine aA hi.fit ?_
     walk_at "k"
     refine hQ _ (hi.put (cH q)) _ _ ?_
     walk_at "k"
     exact⟨rfl,gz⟩
   walk_at "i"
   refine IfW.cut (HH b e) _ (by walk_at "p") ?_
   walk_at "k"
   refine cn (fun q2=>?_) fun q2=>?_
   · walk_at "k"
     refine aA hi.fit ?_
     walk_at "k"
     refine hQ _ (hi.put ((bS q).trans (cH q2))) _ _ ?_
     walk_at "k"
     exact⟨rfl,gz⟩
   · walk_at "k"
     refine aA hi.fit ?_
     walk_at "k"
     refine hQ _ (hi.put ((bS q).trans (bS q2))) _ _ ?_
     walk_at "k"
     exact⟨rfl,gz⟩
 · rintro s hi
   walk_at "k"
   exact hi.fin
 walk_at "z"
noncomputable def DB (top:Int) (_:Bool) (e:E4):W4:=(e.1,e.2.1,e.2.2.1,bif decide (e.1+e.2.1+e.2.2.1 > 0) then top else 0)
noncomputable def gp (how:Str) (l:List E4):List W4:=bif how=="blanked" then yO (lV 65535) l false else bif how != "non-ignorable" then yO (mh 65535) l false else yO (DB 65535) l false
theorem mn {C:Cx} (F:de C) {l:List E4} {how:Str} (hz:l.length≤10000):dE C 5 (.ref 240) [iN l, .str how, .int 1] (.t (wL (gp how l))):=by
 walk_at "a"
 refine ig F [] [] ["elements","how","spread"] rfl rfl rfl (fun _ _=> .nil) rfl (fun _ _ _=>(by walk_at "r")) rfl ?_
 walk_at "k"
 refine cn (fun q=>?_) fun q=>?_
 · walk_at "k"
   refine bK (yD F (top:=65535) hz) (by walk_at "r") ?_
   walk_at "k"
   exact congrArg wL (cH q).symm
 walk_at "k"
 refine cn (fun q2=>?_) fun q2=>?_
 · walk_at "k"
   refine bK (yH F (top:=65535) hz) (by walk_at "r") ?_
   walk_at "k"
   exact congrArg wL ((bS q).trans (cH q2)).symm
 walk_at "k"
 refine fU (σ:=List W4×Bool) (fun s=>[some (.t (iN l)),some (.t (.str how)),some (.t (.int 1)),some (.t (.int 65535)),some (.ref 100),none,none,none,none,none,none,none]) (fun s=>[(100, .list (s.1.map wT))]) (yL (DB 65535) l) l ([],false) (.start hz) ?_ ?_
 · rintro e l' ⟨f,b⟩ hi Qt hQ
   walk_at "k"
   refine cn (fun q=>?_) fun q=>?_
   · walk_at "k"
     refine aA hi.fit ?_
     walk_at "k"
     refine hQ _ (hi.put (congrArg (fun z=>(e.1,e.2.1,e.2.2.1,z)) (cH q))) _ _ ?_
     walk_at "k"
     exact⟨rfl,gz⟩
   · walk_at "k"
     refine aA hi.fit ?_
     walk_at "k"
     refine hQ _ (hi.put (congrArg (fun z=>(e.1,e.2.1,e.2.2.1,z)) (bS q))) _ _ ?_
     walk_at "k"
     exact⟨rfl,gz⟩
 · rintro s hi
   walk_at "k"
   exact hi.fin.trans (congrArg wL ((bS q).trans (bS q2)).symm)
 walk_at "z"
theorem oO {α:Type} {f:α→T} {n:Nat} (h:∀a,iD (f a)=true∧oh (f a)≤n) (l:List α):iD (.lst (l.map f))=true∧oh (.lst (l.map f))≤n+1:=by
 rw [(jt _).1,(kN _).1]
 induction l with
 | nil=>exact⟨rfl,aH (bl _)⟩
 | cons a l ih=>exact⟨aa.mpr ⟨(h a).1,ih.1⟩,aH (Nat.max_le.mpr ⟨(h a).2,gA ih.2⟩)⟩
theorem wh (l:List Int):iD (iL l)=true∧oh (iL l)≤1:=oO (fun a=>⟨rfl,aB 0⟩) l
noncomputable def qw (l:List (List Int)):T:= .lst (l.map iL)
theorem mA (l:List Int):jC (iL l)=true:=aa.mpr ⟨(wh l).1,decide_eq_true (a8 (wh l).2 (by decide))⟩
theorem sF (l:List (List Int)):jC (qw l)=true:=aa.mpr ⟨(oO wh l).1,decide_eq_true (a8 (oO wh l).2 (by decide))⟩
theorem wA {α:Type} [DecidableEq α] {f:α→T} (h:∀a b,BX (f a) (f b)=decide (a=b)) (l m:List α):BX (.lst (l.map f)) (.lst (m.map f))=decide (l=m):=by
 have key:PyData.eqvAll ((l.map f).map f9) ((m.map f).map f9)=decide (l=m):=by
  induction l generalizing m with
  | nil=>cases m with
   | nil=>rfl
   | cons b m=>rfl
  | cons a l ih=>cases m with
   | nil=>rfl
   | cons b m=>
    rw [bp,bp,bp,bp,PyData.eqvAll,ih m,show PyData.eqv (f9 (f a)) (f9 (f b))=decide (a=b) from h a b,←Bool.decide_and]
    exact decide_eq_decide.mpr jh.symm
 rw [←key]
 unfold BX
 rw [(dC _).1,(dC _).1,PyData.eqv]
theorem rQ (a b:List Int):BX (iL a) (iL b)=decide (a=b):=wA (fun _ _=>rfl) a b
theorem Eg (a b:List (List Int)):BX (qw a) (qw b)=decide (a=b):=wA rQ a b
theorem vG {C:Cx} (a b:List Int):eP C (compareOp .Eq) (iL a) (iL b) (.t (.bool (decide (a=b)))):=rQ a b▸xj (mA a) (mA b)
theorem t4 {C:Cx} (a b:List Int):eP C (compareOp .NotEq) (iL a) (iL b) (.t (.bool (!decide (a=b)))):=rQ a b▸rx (mA a) (mA b)
theorem Gy {C:Cx} (a b:List (List Int)):eP C (compareOp .Eq) (qw a) (qw b) (.t (.bool (decide (a=b)))):=Eg a b▸xj (sF a) (sF b)
noncomputable def fF (how:Str) (st:Int) (bk:Bool):T:= .inst 214 [(.str "factors", .tup [.int 1, .int 1, .int 1]),(.str "how", .str how),(.str "strength", .int st),(.str "is_backwards", .bool bk),(.str "case_first", .str ""),(.str "has_case_level", .bool false),(.str "is_numeric", .bool false),(.str "reorder", .none)]
noncomputable def xS (sel:W4→Int) (l:List W4):List Int:=(l.filter fun w=>sel w != 0).map sel
noncomputable def Fi (sel:W4→Int) (w:W4):Option T:=bif sel w != 0 then some (.int (sel w)) else none
theorem ow (sel:W4→Int) (l:List W4):l.filterMap (Fi sel)=(xS sel l).map .int:=by
 walk_at "a"
 induction l with
 | nil=>rfl
 | cons w l ih=>
  unfold xS Fi at*
  rw [cE,bN,ih]
  cases sel w != 0 with
  | true=>rfl
  | false=>rfl
 walk_at "z"
theorem iZ (sel:W4→Int) (l:List W4):(xS sel l).length≤l.length:=a8 (ae (show((l.filter _).map sel).length=_ from a9 sel)) (gO _ _)
theorem wa {sel:W4→Int} {w:W4} (q:(sel w != 0)=true):Fi sel w=some (.int (sel w)):=cH q
theorem w9 {sel:W4→Int} {w:W4} (q:(sel w != 0)=false):Fi sel w=none:=bS q
noncomputable def Hd (l:List W4):List Int:=xS (·.1) l
noncomputable def Fh (bk:Bool) (l:List W4):List Int:=bif bk then(xS (·.2.1) l).reverse else xS (·.2.1) l
noncomputable def Jt (l:List W4):List Int:=xS (·.2.2.1) l
noncomputable def mj (l:List Int):List Int:=(l.reverse.dropWhile (fun x=>x==65535)).reverse
noncomputable def He (how:Str) (l:List W4):List Int:=bif how=="shift-trimmed" then mj (xS (·.2.2.2) l) else xS (·.2.2.2) l
theorem oP {α:Type} {f:α→T} {l:List α} (h:l.length≤10000):fit (l.map f).length=true:=gK (a8 h (by decide))
theorem ln (l:List Int) (x:Int):mj (l++[x])=bif x==65535 then mj l else l++[x]:=by
 unfold mj
 rw [cF,List.reverse_singleton,List.singleton_append,List.dropWhile_cons]
 cases x==65535 with
 | true=>rfl
 | false=>show(x::l.reverse).reverse=_;rw [dN,dO];rfl
theorem rp (g:List Int) (x:Int):Iq (-1) ((g++[x]).map T.int).length=true:=by
 unfold Iq
 rw [a9,ak]
 exact aa.mpr ⟨aa.mpr ⟨decide_eq_true (Int.neg_le_neg (d8.mpr (cM 1 _))),rfl⟩,rfl⟩
theorem ro (g:List Int) (x:Int):((g++[x]).map T.int)[(-1+(((g++[x]).map T.int).length:Int)).toNat]? =some (.int x):=by
 rw [a9,ak,ax,show(-1+((g.length+[x].length:Nat):Int))=(g.length:Nat) by show -1+((g.length:Int)+1)=_;rw [Int.add_comm,Int.add_neg_cancel_right],aW,iM]
 rfl
theorem um (g:List Int) (x:Int):((g++[x]).getLast? ==some 65535)=(x==65535):=by rw [List.getLast?_concat];rfl
theorem ry (g:List Int):g=[]∨∃g' x,g=g'++[x]:=by
 rcases List.eq_nil_or_concat g with e | ⟨g',x,e⟩
 · exact .inl e
 · exact .inr ⟨g',x,e.trans (List.concat_eq_append ..)⟩
theorem Dz (g:List Int) (x:Int):(!decide (g++[x]=[]))=true:=by
 rw [decide_eq_false];rfl
 exact fun e=>by cases g <;> cases e
theorem cg {α:Type} (g:List α) (x:α):(g++[x]).length=g.length+1:=ak
theorem GV (g:List Int) (x:Int):((g++[x]).map T.int)[((g++[x]).map T.int).length - 1]? =some (.int x):=by
 rw [a9,ak,ax,show g.length+[x].length - 1=g.length from rfl,iM]
 rfl
theorem xe (g:List Int) (x:Int):((g++[x]).map T.int).dropLast=g.map T.int:=by rw [ao];exact List.dropLast_concat
theorem sd {K:Bool→Hp→Prop} {b b':Bool} {H:Hp} (h:K b H) (e:b=b'):K b' H:=e▸h
theorem Ep {g:List Int} (h:(g.getLast? ==some 65535)=false):mj g=g:=by
 rcases ry g with e | ⟨g',x,e⟩
 · subst e;rfl
 · subst e
   rw [um] at h
   exact(ln g' x).trans (bS h)
section
variable {C:Cx} (F:de C) {l:List W4} (how:Str) (st:Int) (bk:Bool) (hz:l.length≤10000)
include F hz
theorem wJ:dE C 5 (.ref 253) [wL l,fF how st bk] (.t (iL (Hd l))):=by
 refine bA F ["weights","options"] rfl rfl rfl (fun _ _=>rfl) rfl ?_
 walk_at "k"
 refine aA (oP hz) ?_
 walk_at "k"
 refine sY (g:=Fi (·.1)) ?_ fun w _ K1 K0 h1 h0=>?_
 · rw [ow]
   walk_at "k"
   rfl
 · walk_at "k"
   refine cn (fun q=>?_) fun q=>?_
   · walk_at "k"
     exact h1 _ (wa q)
   · walk_at "k"
     exact h0 (w9 q)
theorem wP:dE C 5 (.ref 268) [wL l,fF how st bk] (.t (iL (Jt l))):=by
 walk_at "a"
 refine bA F ["weights","options"] rfl rfl rfl (fun _ _=>rfl) rfl ?_
 walk_at "k"
 refine aA (oP hz) ?_
 walk_at "k"
 refine sY (g:=Fi (·.2.2.1)) ?_ fun w _ K1 K0 h1 h0=>?_
 · rw [ow]
   walk_at "k"
   rfl
 · walk_at "k"
   refine cn (fun q=>?_) fun q=>?_
   · walk_at "k"
     exact h1 _ (wa q)
   · walk_at "k"
     exact h0 (w9 q)
 walk_at "z"
theorem tF:dE C 5 (.ref 258) [wL l,fF how st bk] (.t (iL (Fh bk l))):=by
 walk_at "a"
 refine bA F ["weights","options"] rfl rfl rfl (fun _ _=>rfl) rfl ?_
 walk_at "k"
 refine aA (oP hz) ?_
 walk_at "k"
 refine sY (g:=Fi (·.2.1)) ?_ fun w _ K1 K0 h1 h0=>?_
 · rw [ow]
   walk_at "k"
   cases bk with
   | true=>
    walk_at "k"
    refine⟨_,qF (cI (oP (a8 (iZ _ _) hz))),?_⟩
    walk_at "k"
    exact congrArg T.lst jU.symm
   | false=>
    walk_at "k"
    rfl
 · walk_at "k"
   refine cn (fun q=>?_) fun q=>?_
   · walk_at "k"
     exact h1 _ (wa q)
   · walk_at "k"
     exact h0 (w9 q)
 walk_at "z"
theorem tD:dE C 5 (.ref 273) [wL l,fF how st bk] (.t (iL (He how l))):=by
 walk_at "a"
 refine bA F ["weights","options"] rfl rfl rfl (fun _ _=>rfl) rfl ?_
 walk_at "k"
 refine aA (oP hz) ?_
 walk_at "k"
 refine sY (g:=Fi (·.2.2.2)) ?_ fun w _ K1 K0 h1 h0=>?_
 · rw [ow]
   have hl:=a8 (iZ (·.2.2.2) l) hz
   walk_at "k"
   refine cn (fun q=>?_) fun q=>?_
   · walk_at "k"
     rw [show He how l=mj (xS (·.2.2.2) l) from cH q]
     generalize xS (·.2.2.2) l=f at hl
     refine fh (σ:=List Int) (fun _=>[some (.t (wL l)),some (.t (fF how st bk)),some (.ref 100),none]) (fun g=>[(100, .list (g.map .int))]) (fun g=>[(101, .list []),(100, .list (g.map .int))]) [true,true,true,false] (fun g=>g.length≤10000∧mj g=mj f) i3 (fun g=>g.getLast? ==some 65535) f ⟨hl,rfl⟩ ?_ ?_ ?_ ?_
     · walk_at "k"
       exact⟨rfl,rfl⟩
     · intro g hi K h
       walk_at "k"
       refine jJ (t4 g []) (by walk_at "r") (by walk_at "r") ?_
       rcases ry g with e | ⟨g',x,e⟩
       · subst e
         exact h
       · subst e
         rw [um] at h
         refine aA (Dz g' x) ?_
         walk_at "k"
         refine aA (rp g' x) ?_
         walk_at "k"
         refine bw (ro g' x) ?_
         walk_at "k"
         refine cn (fun q=>?_) fun q=>?_
         · walk_at "k"
           exact sd h q
         · walk_at "k"
           exact sd h q
     · rintro g ⟨h1,h2⟩ hg Qt hQ
       rcases ry g with e | ⟨g',x,e⟩
       · subst e
         cases hg
       subst e
       rw [um] at hg
       walk_at "k"
       refine aA (oP h1) ?_
       walk_at "k"
       refine bw (GV g' x) ?_
       walk_at "k"
       rw [ak] at h1
       refine hQ.nx g' ⟨⟨a8 (av _ _) h1,((ln g' x).trans (cH hg)).symm.trans h2⟩,az (aI _) (cg g' x).symm⟩ _ _ ?_
       walk_at "k"
       exact⟨rfl,congrArg (fun z=>[(100,O.list z)]) (xe g' x).symm⟩
     · intro g hi hg
       walk_at "k"
       rw [←hi.2,Ep hg]
       rfl
   · walk_at "k"
     exact congrArg iL (bS q).symm
 · walk_at "k"
   refine cn (fun q=>?_) fun q=>?_
   · walk_at "k"
     exact h1 _ (wa q)
   · walk_at "k"
     exact h0 (w9 q)
 walk_at "z"
end
theorem jV {α:Type} {b:Bool} {x y:α} (K:α→Prop) (h:K (bif b then x else y)):(b=true→K x)∧(b=false→K y):=by
 cases b with
 | true=>exact⟨fun _=>h,fun z=>nomatch z⟩
 | false=>exact⟨(fun z=>nomatch z),fun _=>h⟩
noncomputable def ad {α:Type} (b:Bool) (x:α) (l:List α):List α:=bif b then l++[x] else l
theorem ja {α:Type} {b:Bool} {x:α} {l:List α} {n:Nat} (h:l.length≤n):(ad b x l).length≤n+1:=by
 cases b with
 | true=>exact a8 (ae (cg l x)) (aH h)
 | false=>exact bG h
theorem tR {α β:Type} {f:α→β} {b:Bool} {x:α} {l:List α}:(ad b x l).map f=ad b (f x) (l.map f):=by
 cases b with
 | true=>exact ao
 | false=>rfl
theorem tS {α:Type} {b:Bool} {x y:α} {l:List α} (h:y∈ad b x l):y=x∨y∈l:=by
 cases b with
 | true=>exact(aN.mp h).elim .inr fun q=> .inl (af.mp q)
 | false=>exact .inr h
noncomputable def dw (how:Str) (st:Int) (bk:Bool) (l:List W4):List (List Int):=ad (decide (st≥4)) (He how l) (ad (decide (st≥3)) (Jt l) (ad (decide (st≥2)) (Fh bk l) [Hd l]))
noncomputable def l9 (st:Int):List Int:=ad (decide (st≥4)) 4 (ad (decide (st≥3)) 3 (ad (decide (st≥2)) 2 [1]))
noncomputable def Hf (how:Str) (bk:Bool) (l:List W4) (v:Int):List Int:=bif v==1 then Hd l else bif v==2 then Fh bk l else bif v==3 then Jt l else He how l
theorem lM (how:Str) (st:Int) (bk:Bool) (l:List W4):dw how st bk l=(l9 st).map (Hf how bk l):=by
 unfold l9
 rw [tR,tR,tR]
 rfl
theorem oY (st:Int):(l9 st).length≤4:=ja (ja (ja (aB 1)))
theorem ux {st v:Int} (h:v∈l9 st):v=1∨v=2∨v=3∨v=4:=by
 rcases tS h with e | h
 · exact .inr (.inr (.inr e))
 rcases tS h with e | h
 · exact .inr (.inr (.inl e))
 rcases tS h with e | h
 · exact .inr (.inl e)
 · exact .inl (af.mp h)
noncomputable def KG (o:Option (List Int)):T:=an (motive:=fun _=>T) o .none iL
theorem aV {α:Type} {f:α→T} {l:List α} {n:Nat} (h:l.length≤n) (q:dm n 16777216=true):fit (l.map f).length=true:=gK (a8 h (al q))
section
variable {C:Cx} (F:de C) {l:List W4} (how:Str) (st:Int) (bk:Bool) (hz:l.length≤10000)
include F hz
theorem BM:dE C 6 (.ref 280) [wL l,fF how st bk] (.t (qw (dw how st bk l))):=by
 walk_at "a"
 refine bA F ["weights","options"] rfl rfl rfl (fun _ _=>rfl) rfl ?_
 walk_at "k"
 refine bK (wJ F how st bk hz) (by walk_at "r") ?_
 walk_at "s"
 refine StW.cut [some (.t (wL l)),some (.t (fF how st bk)),some (.ref 100),none,none,none,none,none] [(100, .list ((ad (decide (st≥2)) (Fh bk l) [Hd l]).map iL))] (fun Q' h=>?_) ?_
 · have h:=jV (fun x=>Q' .next [some (.t (wL l)),some (.t (fF how st bk)),some (.ref 100),none,none,none,none,none] [(100, .list (dL iL x))]) h
   walk_at "k"
   refine cn (fun q=>?_) fun q=>?_
   · walk_at "k"
     refine bK (tF F how st bk hz) (by walk_at "r") ?_
     walk_at "k"
     exact h.1 q
   · walk_at "k"
     exact h.2 q
 walk_at "s"
 refine StW.cut [some (.t (wL l)),some (.t (fF how st bk)),some (.ref 100),none,none,none,none,none] [(100, .list ((ad (decide (st≥2)) (Fh bk l) [Hd l]).map iL))] (fun Q' h=>?_) ?_
 · walk_at "k"
   exact h
 walk_at "s"
 refine StW.cut [some (.t (wL l)),some (.t (fF how st bk)),some (.ref 100),none,none,none,none,none] [(100, .list ((ad (decide (st≥3)) (Jt l) (ad (decide (st≥2)) (Fh bk l) [Hd l])).map iL))] (fun Q' h=>?_) ?_
 · have h:=jV (fun x=>Q' .next [some (.t (wL l)),some (.t (fF how st bk)),some (.ref 100),none,none,none,none,none] [(100, .list (dL iL x))]) h
   walk_at "k"
   refine cn (fun q=>?_) fun q=>?_
   · walk_at "k"
     refine bK (wP F how st bk hz) (by walk_at "r") ?_
     walk_at "k"
     refine aA (aV (ja (aB 1)) rfl) ?_
     walk_at "k"
     exact uh (h.1 q) rfl gz
   · walk_at "k"
     exact h.2 q
 walk_at "s"
 refine StW.cut [some (.t (wL l)),some (.t (fF how st bk)),some (.ref 100),none,none,none,none,none] [(100, .list ((dw how st bk l).map iL))] (fun Q' h=>?_) ?_
 · have h:=jV (fun x=>Q' .next [some (.t (wL l)),some (.t (fF how st bk)),some (.ref 100),none,none,none,none,none] [(100, .list (dL iL x))]) h
   walk_at "k"
   refine cn (fun q=>?_) fun q=>?_
   · walk_at "k"
     refine bK (tD F how st bk hz) (by walk_at "r") ?_
     walk_at "k"
     refine aA (aV (ja (ja (aB 1))) rfl) ?_
     walk_at "k"
     exact uh (h.1 q) rfl gz
   · walk_at "k"
     exact h.2 q
 walk_at "k"
 rfl
 walk_at "z"
end
section
variable {C:Cx} (F:de C) {l:List W4} (how:Str) (st:Int) (bk:Bool) (hz:l.length≤10000)
include F hz
theorem wK {k:Nat} (hk:k≤10):dE C 6 (.ref 287) [wL l, .int k,fF how st bk] (.t (KG (dw how st bk l)[k]?)):=by
 walk_at "a"
 have hm:=oY st
 have hv:= @ux st
 refine bA F ["weights","number","options"] rfl rfl rfl (fun _ _ _=>rfl) rfl ?_
 walk_at "s"
 refine StW.cut [some (.t (wL l)),some (.t (.int k)),some (.t (fF how st bk)),some (.ref 100),none,none,none,none,none,none] [(100, .list [.int 1])] (fun Q' h=>?_) ?_
 · walk_at "k"
   exact h
 walk_at "s"
 refine StW.cut [some (.t (wL l)),some (.t (.int k)),some (.t (fF how st bk)),some (.ref 100),none,none,none,none,none,none] [(100, .list ((ad (decide (st≥2)) 2 [1]).map .int))] (fun Q' h=>?_) ?_
 · have h:=jV (fun x=>Q' .next [some (.t (wL l)),some (.t (.int k)),some (.t (fF how st bk)),some (.ref 100),none,none,none,none,none,none] [(100, .list (dL .int x))]) h
   walk_at "k"
   refine cn (fun q=>?_) fun q=>?_
   · walk_at "k"
     exact h.1 q
   · walk_at "k"
     exact h.2 q
 walk_at "s"
 refine StW.cut [some (.t (wL l)),some (.t (.int k)),some (.t (fF how st bk)),some (.ref 100),none,none,none,none,none,none] [(100, .list ((ad (decide (st≥2)) 2 [1]).map .int))] (fun Q' h=>?_) ?_
 · walk_at "k"
   exact h
 walk_at "s"
 refine StW.cut [some (.t (wL l)),some (.t (.int k)),some (.t (fF how st bk)),some (.ref 100),none,none,none,none,none,none] [(100, .list ((ad (decide (st≥3)) 3 (ad (decide (st≥2)) 2 [1])).map .int))] (fun Q' h=>?_) ?_
 · have h:=jV (fun x=>Q' .next [some (.t (wL l)),some (.t (.int k)),some (.t (fF how st bk)),some (.ref 100),none,none,none,none,none,none] [(100, .list (dL .int x))]) h
   walk_at "k"
   refine cn (fun q=>?_) fun q=>?_
   · walk_at "k"
     refine aA (aV (ja (aB 1)) rfl) ?_
     walk_at "k"
     exact uh (h.1 q) rfl gz
   · walk_at "k"
     exact h.2 q
 walk_at "s"
 refine StW.cut [some (.t (wL l)),some (.t (.int k)),some (.t (fF how st bk)),some (.ref 100),none,none,none,none,none,none] [(100, .list ((l9 st).map .int))] (fun Q' h=>?_) ?_
 · have h:=jV (fun x=>Q' .next [some (.t (wL l)),some (.t (.int k)),some (.t (fF how st bk)),some (.ref 100),none,none,none,none,none,none] [(100, .list (dL .int x))]) h
   walk_at "k"
   refine cn (fun q=>?_) fun q=>?_
   · walk_at "k"
     refine aA (aV (ja (ja (aB 1))) rfl) ?_
     walk_at "k"
     exact uh (h.1 q) rfl gz
   · walk_at "k"
     exact h.2 q
 rw [lM]
 generalize l9 st=m at hm hv
 rw [ax]
 walk_at "i"
 refine IfW.cut (decide ((k:Int)≥(m.map T.int).length)) [(100, .list (m.map .int))] (fun K h=>?_) ?_
 · walk_at "k"
   refine aA (aV hm rfl) ?_
   walk_at "k"
   exact h
 cases hi:m[k]? with
 | none=>
  refine aA (decide_eq_true (d8.mpr (by rw [a9];exact dK.mp hi))) ?_
  walk_at "k"
  rfl
 | some v=>
  refine pJ (decide_eq_false fun q=>by
   have q:=d8.mp q
   rw [a9,←dK,hi] at q
   cases q) ?_
  have hj:(m.map T.int)[(k:Int).toNat]? =some (.int v):=by rw [aW,ax,hi];rfl
  have hr:oS (k:Int)=true:=cy (aR hk (by decide))
  have hv:=hv (dM hi)
  walk_at "i"
  refine IfW.cut (v==1) [(100, .list (m.map .int))] (fun K h=>?_) ?_
  · walk_at "k"
    refine aA hr ?_
    walk_at "k"
    refine bw hj ?_
    walk_at "k"
    exact h
  rcases hv with e | hv
  · subst e
    walk_at "k"
    refine bK (wJ F how st bk hz) (by walk_at "r") ?_
    walk_at "k"
    rfl
  refine pJ (by rcases hv with e | e | e <;> (subst e;rfl)) ?_
  walk_at "i"
  refine IfW.cut (v==2) [(100, .list (m.map .int))] (fun K h=>?_) ?_
  · walk_at "k"
    refine aA hr ?_
    walk_at "k"
    refine bw hj ?_
    walk_at "k"
    exact h
  rcases hv with e | hv
  · subst e
    walk_at "k"
    refine bK (tF F how st bk hz) (by walk_at "r") ?_
    walk_at "k"
    rfl
  refine pJ (by rcases hv with e | e <;> (subst e;rfl)) ?_
  walk_at "i"
  refine IfW.cut (v==5) [(100, .list (m.map .int))] (fun K h=>?_) ?_
  · walk_at "k"
    refine aA hr ?_
    walk_at "k"
    refine bw hj ?_
    walk_at "k"
    exact h
  rcases hv with e | e
  · subst e
    walk_at "k"
    refine aA hr ?_
    walk_at "k"
    refine bw hj ?_
    walk_at "k"
    refine bK (wP F how st bk hz) (by walk_at "r") ?_
    walk_at "k"
    rfl
  · subst e
    walk_at "k"
    refine aA hr ?_
    walk_at "k"
    refine bw hj ?_
    walk_at "k"
    refine bK (tD F how st bk hz) (by walk_at "r") ?_
    walk_at "k"
    rfl
 walk_at "z"
end
theorem oF {n k:Nat} (q:k < n):n - k=(n - (k+1))+1:=by rw [Nat.sub_succ];exact(Nat.succ_pred_eq_of_pos (Nat.sub_pos_of_lt q)).symm
theorem EX {σ:Type} {n:Nat} {body:aF→Hp→(Fl→aF→Hp→Prop)→Prop} {tg:Tg} {m:List Bool} {Q:Fl→aF→Hp→Prop} (r:σ→aF) (h:σ→Hp) (I:Nat→σ→Prop) (s0:σ) (i0:I 0 s0)
 (step:∀k s,k < n→I k s→∀Qt:Fl→aF→Hp→Prop,Ij r h m (I (k+1)) Q Qt→gv tg (.int (0+(k:Int))) (r s) fun ρ1=>body ρ1 (h s) Qt) (fin:∀s,I n s→Q .next (r s) (h s)):kj body tg m Q (eO 0 n) (r s0) (h s0):=by
 walk_at "a"
 unfold eO
 rw [List.range_eq_range']
 refine EY r h (fun l s=>∃k,l=List.range' k (n - k)∧k≤n∧I k s) _ s0 ⟨0,by rw [Nat.sub_zero],bl _,i0⟩ ?_ ?_
 · rintro x l s ⟨k,e,hk,hi⟩ Qt hQ
   rcases eI k n with q | q
   · rw [oF q,List.range'_succ] at e
     obtain⟨e1,e2⟩:=jh.mp e
     subst e1
     exact step x s q hi Qt ⟨fun s' i'=>hQ.nx s' ⟨_,e2,q,i'⟩,fun s' i'=>hQ.ct s' ⟨_,e2,q,i'⟩,hQ.bk,hQ.rt⟩
   · rw [Nat.sub_eq_zero_of_le q] at e
     cases e
 · rintro s ⟨k,e,hk,hi⟩
   rcases eI k n with q | q
   · rw [oF q,List.range'_succ] at e
     cases e
   · rw [kW hk q] at hi
     exact fin s hi
 walk_at "z"
noncomputable def gd (a:List Int):List Int→Int:=List.rec (motive:=fun _=>List Int→Int) (fun b=>ay (motive:=fun _=>Int) b 0 fun _ _=> -1) (fun x _ ih b=>ay (motive:=fun _=>Int) b 1 fun y r=>bif x==y then ih r else bif decide (x < y) then -1 else 1) a
theorem CJ {a b:List Int} {k:Nat} (ha:k < a.length) (hb:k < b.length):gd (a.drop k) (b.drop k)=bif a[k]==b[k] then gd (a.drop (k+1)) (b.drop (k+1)) else bif decide (a[k] < b[k]) then -1 else 1:=by
 rw [bj ha,bj hb]
 rfl
theorem ru {a b:Nat} (q:a < b):((a:Int)==b)=false∧decide ((a:Int) < b)=true∧((b:Int)==a)=false∧decide ((b:Int) < a)=false:=
 ⟨beq_false_of_ne fun e=>bD q (Int.ofNat.inj e),decide_eq_true (bn.mpr q),beq_false_of_ne fun e=>bD q (Int.ofNat.inj e).symm,decide_eq_false fun z=>Nat.lt_asymm q (bn.mp z)⟩
theorem zq {a b:List Int} {n:Nat} (ha:n≤a.length) (hb:n≤b.length) (h:n=a.length∨n=b.length):gd (a.drop n) (b.drop n)=bif (a.length:Int)==b.length then 0 else bif decide ((a.length:Int) < b.length) then -1 else 1:=by
 rcases h with e | e
 · subst e
   rcases cP hb with q | q
   · rw [dD,bj q,(ru q).1,(ru q).2.1]
     rfl
   · rw [dD,q,dD,beq_self_eq_true]
     rfl
 · subst e
   rcases cP ha with q | q
   · rw [dD,bj q,(ru q).2.2.1,(ru q).2.2.2]
     rfl
   · rw [dD,q,dD,beq_self_eq_true]
     rfl
theorem Hm (a b:List Int):(if(((b.map T.int).length:Nat):Int) < (((a.map T.int).length:Nat):Int) then(((b.map T.int).length:Nat):Int) else(((a.map T.int).length:Nat):Int)).toNat≤a.length∧(if(((b.map T.int).length:Nat):Int) < (((a.map T.int).length:Nat):Int) then(((b.map T.int).length:Nat):Int) else(((a.map T.int).length:Nat):Int)).toNat≤b.length∧
 gd (a.drop (if(((b.map T.int).length:Nat):Int) < (((a.map T.int).length:Nat):Int) then(((b.map T.int).length:Nat):Int) else(((a.map T.int).length:Nat):Int)).toNat) (b.drop (if(((b.map T.int).length:Nat):Int) < (((a.map T.int).length:Nat):Int) then(((b.map T.int).length:Nat):Int) else(((a.map T.int).length:Nat):Int)).toNat)=
  bif (((a.map T.int).length:Nat):Int)==(((b.map T.int).length:Nat):Int) then 0 else bif decide ((((a.map T.int).length:Nat):Int) < (((b.map T.int).length:Nat):Int)) then -1 else 1:=by
 walk_at "a"
 rw [a9,a9]
 have key {n:Nat} (e:(if(b.length:Int) < (a.length:Int) then(b.length:Int) else a.length).toNat=n):n≤a.length∧n≤b.length∧(n=a.length∨n=b.length):=by
  subst e
  by_cases q:(b.length:Int) < (a.length:Int)
  · rw [if_pos q,aW]
    exact⟨ck (bn.mp q),aB _, .inr rfl⟩
  · rw [if_neg q,aW]
    exact⟨aB _,d8.mp (dp.mp q), .inl rfl⟩
 obtain⟨h1,h2,h3⟩:=key rfl
 exact⟨h1,h2,zq h1 h2 h3⟩
 walk_at "z"
theorem vW {l:List Int} {k:Nat} (h:k < l.length):(l.map T.int)[(0+(k:Int)).toNat]? =some (.int l[k]):=by
 rw [Int.zero_add,aW,ax,ai h]
 rfl
theorem J5 {k n:Nat} (h:k < n) (q:n≤100000):oS (0+(k:Int))=true:=by
 rw [Int.zero_add]
 exact cy (aq h (a8 q (by decide)))
theorem J8 {a b:Nat} (h:a≤100000):tJ (if(b:Int) < (a:Int) then(b:Int) else a)=true:=by
 have z:a≤1000000000000:=a8 h (by decide)
 by_cases q:(b:Int) < (a:Int)
 · rw [if_pos q]
   exact bu (a8 (ck (bn.mp q)) z)
 · rw [if_neg q]
   exact bu z
theorem fa2 {a:List Int} (h:a.length≤100000):(a.map T.int).length≤100000:=a8 (ae (a9 ..)) h
theorem Ho {b:Bool} (h:(!b)=true):b=false:=by
 cases b with
 | false=>rfl
 | true=>cases h
theorem AB {b:Bool} (h:(!b)=false):b=true:=by
 cases b with
 | true=>rfl
 | false=>cases h
noncomputable def LI (a b:List Int):aF:=[some (.t (iL a)),some (.t (iL b)),none,none,none,none]
theorem pB {C:Cx} (F:de C) {a b:List Int} (ha:a.length≤100000) (hb:b.length≤100000):dE C 5 (.ref 314) [iL a,iL b] (.t (.int (gd a b))):=by
 walk_at "a"
 obtain⟨n1,n2,n3⟩:=Hm a b
 have fa:fit (a.map T.int).length=true:=aV ha rfl
 have fb:fit (b.map T.int).length=true:=aV hb rfl
 refine bA F ["one","other"] rfl rfl rfl (fun _ _=>rfl) rfl ?_
 walk_at "k"
 refine aA fa ?_
 walk_at "k"
 refine aA fb ?_
 walk_at "k"
 refine⟨_,Fn _ _,?_⟩
 walk_at "k"
 refine aA (J8 (fa2 ha)) ?_
 walk_at "k"
 refine EX (σ:=Unit) (fun _=>LI a b) (fun _=>[]) (fun k _=>gd (a.drop k) (b.drop k)=gd a b) () rfl ?_ ?_
 · intro k s hk e Qt hQ
   have ka:=aq hk n1
   have kb:=aq hk n2
   have hr:=J5 ka ha
   rw [CJ ka kb] at e
   walk_at "i"
   refine IfW.cut (a[k] != b[k]) [] (fun K h=>?_) ?_
   · walk_at "k"
     refine aA hr ?_
     walk_at "k"
     refine bw (vW ka) ?_
     walk_at "k"
     refine aA hr ?_
     walk_at "k"
     refine bw (vW kb) ?_
     walk_at "k"
     exact h
   · walk_at "k"
     refine cn (fun q=>?_) fun q=>?_
     · replace e:=(bS (Ho q)).symm.trans e
       walk_at "k"
       refine aA hr ?_
       walk_at "k"
       refine bw (vW ka) ?_
       walk_at "k"
       refine aA hr ?_
       walk_at "k"
       refine bw (vW kb) ?_
       walk_at "k"
       refine cn (fun q=>?_) fun q=>?_
       · walk_at "k"
         refine hQ.rt _ _ _ ?_
         walk_at "k"
         exact congrArg T.int ((cH q).symm.trans e)
       · walk_at "k"
         refine hQ.rt _ _ _ ?_
         walk_at "k"
         exact congrArg T.int ((bS q).symm.trans e)
     · replace e:=(cH (AB q)).symm.trans e
       walk_at "k"
       refine hQ.nx () e _ _ ?_
       walk_at "k"
       exact⟨rfl,rfl⟩
 · intro s e
   replace e:=n3.symm.trans e
   walk_at "k"
   refine aA fa ?_
   walk_at "k"
   refine aA fb ?_
   walk_at "k"
   refine cn (fun q=>?_) fun q=>?_
   · walk_at "k"
     exact congrArg T.int ((cH q).symm.trans e)
   · replace e:=(bS q).symm.trans e
     walk_at "k"
     refine aA fa ?_
     walk_at "k"
     refine aA fb ?_
     walk_at "k"
     refine cn (fun q=>?_) fun q=>?_
     · walk_at "k"
       exact congrArg T.int ((cH q).symm.trans e)
     · walk_at "k"
       exact congrArg T.int ((bS q).symm.trans e)
 walk_at "z"
noncomputable def k7 (l:List (List Int)):List Int:=l.flatMap fun x=>0::x
noncomputable def hW (l:List (List Int)):List Int:=ay (motive:=fun _=>List Int) l [] fun x r=>x++k7 r
noncomputable def AP (st:Int) (pl:Option (List Int)):List Int:=bif decide (st≥5) then an (motive:=fun _=>List Int) pl [] fun p=>0::p.map (· +2) else []
noncomputable def ui (how:Str) (st:Int) (bk:Bool) (l:List W4) (pl:Option (List Int)):List Int:=hW (dw how st bk l)++AP st pl
noncomputable def Jg (b:Bool) (l:List (List Int)):List Int:=bif b then hW l else k7 l
structure sj (ls l':List (List Int)) (s:List Int×Bool):Prop where
 le:∀x∈l',x.length≤10000
 len:s.1.length+10001*l'.length≤90000
 eq:s.1++Jg s.2 l'=hW ls
theorem sj.put {ls l':List (List Int)} {x f:List Int} {b:Bool} (h:sj ls (x::l') (f,b)):(ad (!b) 0 f).length+x.length≤90000∧sj ls l' (ad (!b) 0 f++x,false):=by
 walk_at "a"
 have a:(ad (!b) (0:Int) f).length≤f.length+1:=ja (aB _)
 have e:(ad (!b) 0 f++x)++k7 l'=f++Jg b (x::l'):=by
  cases b with
  | true=>exact au ..
  | false=>show((f++[0])++x)++k7 l'=f++(([0]++x)++k7 l');rw [au f,au f]
 have n:=h.len
 have c:=h.le x (.head _)
 have z:(ad (!b) (0:Int) f).length+x.length+10001*l'.length≤90000:=a8 (aQ (aU a c) _) (a8 (ae (show f.length+1+10000+10001*l'.length=f.length+10001*(x::l').length by rw [aM,dR,bq f.length,bq f.length,bI (10001*l'.length)])) n)
 exact⟨a8 (av _ _) z,fun y hy=>h.le y (.tail _ hy),by rw [ak];exact z,e.trans h.eq⟩
 walk_at "z"
theorem As (how:Str) (bk:Bool) (l:List W4) (v:Int):(Hf how bk l v).length≤l.length:=by
 walk_at "a"
 unfold Hf
 cases v==1 with
 | true=>exact iZ _ l
 | false=>
  cases v==2 with
  | true=>cases bk with
   | true=>exact a8 (ae mo) (iZ _ l)
   | false=>exact iZ _ l
  | false=>
   cases v==3 with
   | true=>exact iZ _ l
   | false=>
    unfold He
    cases how=="shift-trimmed" with
    | true=>
     show(mj _).length≤_
     unfold mj
     rw [mo]
     exact a8 (List.dropWhile_sublist _).length_le (a8 (ae mo) (iZ _ l))
    | false=>exact iZ _ l
 walk_at "z"
theorem iA (how:Str) (st:Int) (bk:Bool) (l:List W4):(dw how st bk l).length≤4∧∀x∈dw how st bk l,x.length≤l.length:=by
 rw [lM,a9]
 refine⟨oY st,fun x hx=>?_⟩
 obtain⟨v,_,rfl⟩:=aP.mp hx
 exact As how bk l v
theorem sj.start {ls:List (List Int)} (h:ls.length≤4) (h2:∀x∈ls,x.length≤10000):sj ls ls ([],true):=⟨h2,by rw [bW,bo];exact a8 (aJ _ h) (by decide),rfl⟩
theorem sj.fin {ls:List (List Int)} {s:List Int×Bool} (h:sj ls [] s):s.1=hW ls∧s.1.length≤90000:=by
 obtain⟨f,b⟩:=s
 refine⟨?_,h.len⟩
 rw [←h.eq]
 cases b <;> exact(aw f).symm
theorem Dc (f p:List Int):(f.map T.int++[T.int 0]).length+(p.map fun x=>T.int (x+2)).length=(f.length+1)+p.length:=by rw [ak,a9,a9];rfl
theorem Jj {f p:List Int} {st:Int} (q:decide (st≥5)=true):T.lst (f.map T.int++[T.int 0]++p.map fun x=>T.int (x+2))=iL (f++AP st (some p)):=by
 unfold AP
 rw [q,cond_true,iL,ao,au]
 show _=T.lst (f.map T.int++(0::p.map (· +2)).map T.int)
 rw [bp,aO]
 rfl
theorem Ji {f:List Int} {pl:Option (List Int)} {st:Int} (q:decide (st≥5)=false):T.lst (f.map T.int)=iL (f++AP st pl):=by
 unfold AP
 rw [q,cond_false,aw]
 rfl
theorem fit2 {a b:List Int} {n:Nat} (h:a.length+b.length≤n) (q:dm n 16777216=true:=by exact rfl):fit ((a.map T.int).length+(b.map T.int).length)=true:=gE (by rw [a9,a9];exact a8 h (al q))
theorem zk {a b:List Int} {n:Nat} {H:Hp}:(n,O.list ((a++b).map T.int))::H=(n,O.list (a.map T.int++b.map T.int))::H:=by rw [ao]
noncomputable def LJ (l:List W4) (o:T) (pl:Option (List Int)) (b:Bool):aF:=[some (.t (wL l)),some (.t o),some (.t (KG pl)),some (.ref 100),some (.t (.bool b)),none,none]
noncomputable def hI (f:List Int):Hp:=[(100, .list (f.map .int))]
theorem mY {C:Cx} (F:de C) {l:List W4} (how:Str) (st:Int) (bk:Bool) (hz:l.length≤10000) {pl:Option (List Int)} (hp:∀p,pl=some p→p.length≤1000):dE C 8 (.ref 293) [wL l,fF how st bk,KG pl] (.t (iL (ui how st bk l pl))):=by
 walk_at "a"
 have hl:=iA how st bk l
 refine ig F [] [] ["weights","options","plain"] rfl rfl rfl (fun _ _=> .nil) rfl (fun _ _ _=>(by walk_at "r")) rfl ?_
 walk_at "k"
 refine bK (BM F how st bk hz) (by walk_at "r") ?_
 walk_at "k"
 refine fU (σ:=List Int×Bool) (fun s=>LJ l (fF how st bk) pl s.2) (fun s=>hI s.1) (sj (dw how st bk l)) _ ([],true) (.start hl.1 fun x hx=>a8 (hl.2 x hx) hz) ?_ ?_
 · rintro x l' ⟨f,b⟩ hi Qt hQ
   have hj:=hi.put
   walk_at "s"
   refine StW.cut [some (.t (wL l)),some (.t (fF how st bk)),some (.t (KG pl)),some (.ref 100),some (.t (.bool b)),some (.t (iL x)),none] (hI (ad (!b) 0 f)) (fun Q' h=>?_) ?_
   · walk_at "k"
     cases b with
     | true=>
      walk_at "k"
      exact h
     | false=>
      walk_at "k"
      refine aA (aV (a8 (av _ _) hi.len) rfl) ?_
      walk_at "k"
      exact uh h rfl gz
   walk_at "k"
   refine aA (fit2 hj.1) ?_
   walk_at "k"
   refine hQ _ hj.2 _ _ ?_
   walk_at "k"
   exact⟨rfl,zk⟩
 · rintro s hi
   obtain⟨e,hf⟩:=hi.fin
   have e:s.1++AP st pl=ui how st bk l pl:=congrArg (· ++AP st pl) e
   rw [←e]
   cases pl with
   | none=>
    have g (q:Bool):T.lst (s.1.map T.int)=iL (s.1++bif q then [] else []):=by cases q <;> rw [show(bif _ then([]:List Int) else [])=[] from rfl,aw] <;> rfl
    walk_at "k"
    refine cn (fun q=>?_) fun q=>?_
    · walk_at "k"
      exact g _
    · walk_at "k"
      exact g _
   | some p=>
    have pz:=hp p rfl
    walk_at "k"
    refine cn (fun q=>?_) fun q=>?_
    · walk_at "k"
      refine aA (aV hf rfl) ?_
      walk_at "k"
      refine aA (aV pz rfl) ?_
      walk_at "k"
      refine lA (g:=fun x=> .int (x+2)) ?_ fun x _ K1 K0 h1=>?_
      · walk_at "k"
        refine aA (gE (a8 (ae (Dc s.1 p)) (a8 (aU (aH hf) pz) (by decide)))) ?_
        walk_at "k"
        exact Jj q
      · walk_at "k"
        exact h1
    · walk_at "k"
      exact Ji q
 walk_at "z"
noncomputable def gR (a:List (List Int)):List (List Int)→Int:=List.rec (motive:=fun _=>List (List Int)→Int) (fun _=>0) (fun x _ ih b=>ay (motive:=fun _=>Int) b 0 fun y r=>bif gd x y==0 then ih r else gd x y) a
theorem zr (a:List (List Int)):gR a []=0:=by cases a <;> rfl
noncomputable def rCw (a b:List W4) (o:T) (s:Nat×Int):aF:=[some (.t (wL a)),some (.t (wL b)),some (.t o),some (.t (.int s.1)),some (.t (.int s.2)),none,none,none,none]
structure yK (A B:List (List Int)) (s:Nat×Int):Prop where
 le:s.1≤5
 eq:(bif s.2==0 then gR (A.drop s.1) (B.drop s.1) else s.2)=gR A B
theorem yK.t {A B:List (List Int)} {s:Nat×Int} (h:yK A B s) (q:(s.2==0)=true):gR (A.drop s.1) (B.drop s.1)=gR A B:=(cH q).symm.trans h.eq
theorem yK.n1 {A B:List (List Int)} {s:Nat×Int} (h:yK A B s) (q:(s.2==0)=true) (e:A[s.1]? =none):gR A B=0:=by
 rw [←h.t q,bO (dK.mp e)]
 rfl
theorem yK.n2 {A B:List (List Int)} {s:Nat×Int} (h:yK A B s) (q:(s.2==0)=true) (e:B[s.1]? =none):gR A B=0:=by
 rw [←h.t q,bO (dK.mp e),zr]
theorem qk {α:Type} {l:List α} {k:Nat} {x:α} (e:l[k]? =some x):k < l.length∧l.drop k=x::l.drop (k+1):=by
 obtain⟨h,e⟩:=bM.mp e
 exact⟨h,by rw [bj h,e]⟩
theorem yK.go {A B:List (List Int)} {s:Nat×Int} {x y:List Int} (h:yK A B s) (hA:A.length≤4) (q:(s.2==0)=true) (e1:A[s.1]? =some x) (e2:B[s.1]? =some y):yK A B (s.1+1,gd x y)∧10 - (s.1+1) < 10 - s.1:=by
 have a:=qk e1
 have b:=qk e2
 have t:=h.t q
 rw [a.2,b.2] at t
 have z:=aq a.1 hA
 exact⟨⟨bG z,t⟩,cZ (cN z (by decide)) (aI _)⟩
theorem yK.fin {A B:List (List Int)} {s:Nat×Int} (h:yK A B s) (q:(s.2==0)=false):s.2=gR A B:=(bS q).symm.trans h.eq
theorem rW {C:Cx} (F:de C) {a b:List W4} (how:Str) (st:Int) (bk:Bool) (ha:a.length≤10000) (hb:b.length≤10000):dE C 8 (.ref 321) [wL a,wL b,fF how st bk] (.t (.int (gR (dw how st bk a) (dw how st bk b)))):=by
 walk_at "a"
 have la:=iA how st bk a
 have lb:=iA how st bk b
 refine bA F ["one","other","options"] rfl rfl rfl (fun _ _ _=>rfl) rfl ?_
 walk_at "k"
 refine fh (σ:=Nat×Int) (rCw a b (fF how st bk)) (fun _=>[]) (fun _=>[]) [true,true,true,true,true,false,false,false,false] (yK (dw how st bk a) (dw how st bk b)) (fun s=>10 - s.1) (fun s=>s.2==0) (0,0) ⟨bl _,rfl⟩ ?_ ?_ ?_ ?_
 · walk_at "k"
   exact⟨rfl,rfl⟩
 · intro s hi K h
   walk_at "k"
   exact h
 · intro s hi hg Qt hQ
   have j10:s.1≤10:=a8 hi.le (by decide)
   have ca:=wK F how st bk ha j10
   have cb:=wK F how st bk hb j10
   cases eA:(dw how st bk a)[s.1]? with
   | none=>
    rw [eA] at ca
    walk_at "k"
    refine bK ca (by walk_at "r") ?_
    walk_at "k"
    refine bK cb (by walk_at "r") ?_
    walk_at "k"
    refine hQ.rt _ _ _ ?_
    walk_at "k"
    rw [hi.n1 hg eA]
   | some x=>
    rw [eA] at ca
    cases eB:(dw how st bk b)[s.1]? with
    | none=>
     rw [eB] at cb
     walk_at "k"
     refine bK ca (by walk_at "r") ?_
     walk_at "k"
     refine bK cb (by walk_at "r") ?_
     walk_at "k"
     refine hQ.rt _ _ _ ?_
     walk_at "k"
     rw [hi.n2 hg eB]
    | some y=>
     rw [eB] at cb
     have hg:=hi.go la.1 hg eA eB
     walk_at "k"
     refine bK ca (by walk_at "r") ?_
     walk_at "k"
     refine bK cb (by walk_at "r") ?_
     walk_at "k"
     refine bK (pB F (a8 (la.2 x (dM eA)) (a8 ha (by decide))) (a8 (lb.2 y (dM eB)) (a8 hb (by decide)))) (by walk_at "r") ?_
     walk_at "k"
     refine hQ.nx _ hg _ _ ?_
     walk_at "k"
     exact⟨rfl,rfl⟩
 · intro s hi hg
   walk_at "k"
   exact congrArg T.int (hi.fin hg)
 walk_at "z"
noncomputable def BT (f l b:Int):T:= .inst 382 [(.str "first", .int f),(.str "last", .int l),(.str "base", .int b),(.str "origin", .none)]
noncomputable def ce:List (Int×Int×Int):=[(0,1114111,64448),(19968,40959,64320),(64014,64015,64320),(64017,64017,64320),(64019,64020,64320),(64031,64031,64320),(64033,64033,64320),(64035,64036,64320),(64039,64041,64320),
 (13312,19903,64384),(131072,173791,64384),(173824,177977,64384),(177984,178205,64384),(178208,183969,64384),(183984,191456,64384),(191472,192093,64384),(196608,201546,64384),(201552,205743,64384)]
noncomputable def tY:T:= .lst (ce.map fun r=>BT r.1 r.2.1 r.2.2)
abbrev ew:=List (List Int×List E4)
noncomputable def kT (k:List Int):T:= .tup (k.map .int)
noncomputable def rP (tb:ew):T:= .dct (tb.map fun p=>(kT p.1,iN p.2))
noncomputable def Lm (lg:List (Int×Int)):T:= .dct (lg.map fun p=>(.int p.1, .int p.2))
noncomputable def il (tb:ew) (lg:List (Int×Int)):T:= .inst 514 [(.str "table",rP tb),(.str "longest",Lm lg),(.str "factors", .tup [.int 1, .int 1, .int 1]),(.str "bases",tY)]
structure pX (C:Cx) (tb:ew) (lg:List (Int×Int)) (El:List Int→List E4) (P:List Int→Prop):Prop where
 go:∀t,P t→dE C 30 (.ref 511) [il tb lg,iL t,co] (.t (iN (El t)))
 len:∀t,P t→(El t).length≤10000
 cd:∀t,P t→(∀c∈t,Cd c)∧t.length≤8
section
variable {C:Cx} {tb:ew} {lg:List (Int×Int)} {El:List Int→List E4} {P:List Int→Prop}
theorem jf (F:de C) (hE:pX C tb lg El P) {t:List Int} (ht:P t) (how:Str) (st:Int) (bk:Bool):dE C 31 (.ref 300) [iL t,co,il tb lg,fF how st bk] (.t (iN (El t))):=by
 refine bA F ["text","data","table","options"] rfl rfl rfl (fun _ _ _ _=>rfl) rfl ?_
 walk_at "k"
 refine bK (hE.go t ht) (by walk_at "r") ?_
 walk_at "k"
 rfl
end
theorem rd {step:Bool→E4→W4} {l:List E4}:∀b,(yO step l b).length=l.length:=by
 induction l with
 | nil=>exact fun _=>rfl
 | cons e l ih=>exact fun b=>congrArg Nat.succ (ih _)
theorem jv (how:Str) (l:List E4):(gp how l).length=l.length:=by
 unfold gp
 cases how=="blanked" with
 | true=>exact rd _
 | false=>cases how != "non-ignorable" with
  | true=>exact rd _
  | false=>exact rd _
theorem y8 {l:List Int}:∀{f:List Int} {r:List (Int×Int)},(lO l f r).length≤f.length+2*(l.length+r.length):=by
 induction l with
 | nil=>
  intro f r
  show(f++srt r).length≤_
  rw [ak,bW,bo,Nat.two_mul]
  exact aL (mU r) _
 | cons c l ih=>
  intro f r
  show(bif decide (0 < aK c) then lO l f (r++[(aK c,c)]) else lO l (f++srt r++[c]) []).length≤_
  cases decide (0 < aK c) with
  | true=>exact a8 ih (by rw [cg,aM,bz];exact aB _)
  | false=>
   refine a8 ih ?_
   rw [cg,ak,aM,bW]
   have:=mU r
   omega
theorem jB {l:List Int} (h:∀c∈l,Cd c) (h8:l.length≤8):(dS l).length≤32:=
 a8 y8 (by rw [bW,bW,bo,Nat.add_zero];exact aJ 2 (a8 (ge h).2 (aJ 2 h8)))
theorem xE {how:Str} {st:Int} {bk:Bool} {l:List W4} {pl pl':Option (List Int)} (q:decide (st≥5)=false):ui how st bk l pl=ui how st bk l pl':=by
 unfold ui AP
 rw [q]
 rfl
section
variable {C:Cx} {tb:ew} {lg:List (Int×Int)} {El:List Int→List E4} {P:List Int→Prop}
noncomputable def HL (El:List Int→List E4) (how:Str) (st:Int) (bk:Bool) (t:List Int):List Int:=ui how st bk (gp how (El t)) (some (dS t))
theorem nN (F:de C) (LT:qO C) (hE:pX C tb lg El P) {t:List Int} (ht:P t) (how:Str) (st:Int) (bk:Bool):dE C 33 (.ref 307) [iL t,co,il tb lg,fF how st bk] (.t (iL (HL El how st bk t))):=by
 walk_at "a"
 have wl:(gp how (El t)).length≤10000:=a8 (ae (jv ..)) (hE.len t ht)
 have dl:=jB (hE.cd t ht).1 (hE.cd t ht).2
 refine bA F ["text","data","table","options"] rfl rfl rfl (fun _ _ _ _=>rfl) rfl ?_
 walk_at "k"
 refine bK (jf F hE ht how st bk) (by walk_at "r") ?_
 walk_at "k"
 refine bK (mn F (how:=how) (hE.len t ht)) (by walk_at "r") ?_
 walk_at "k"
 refine cn (fun q=>?_) fun q=>?_
 · walk_at "k"
   refine bK (wM F LT (hE.cd t ht).1 (hE.cd t ht).2) (by walk_at "r") ?_
   walk_at "k"
   refine bK (mY F how st bk wl (pl:=some (dS t)) fun p hp=>by cases hp;exact a8 dl (by decide)) (by walk_at "r") ?_
   walk_at "k"
   rfl
 · walk_at "k"
   refine bK (mY F how st bk wl (pl:=none) fun p hp=>nomatch hp) (by walk_at "r") ?_
   walk_at "k"
   exact congrArg iL (xE q)
 walk_at "z"
noncomputable def qV (El:List Int→List E4) (how:Str) (st:Int) (bk:Bool) (a b:List Int):Int:=gR (dw how st bk (gp how (El a))) (dw how st bk (gp how (El b)))
noncomputable def zp (m st:Int):Bool:=m==0&&(decide (st≥5)&&true)
noncomputable def zo (El:List Int→List E4) (how:Str) (st:Int) (bk:Bool) (a b:List Int):Int:=bif zp (qV El how st bk a b) st then gd (dS a) (dS b) else qV El how st bk a b
theorem qL (F:de C) (LT:qO C) (hE:pX C tb lg El P) {a b:List Int} (ha:P a) (hb:P b) (how:Str) (st:Int) (bk:Bool):dE C 33 (.ref 328) [iL a,iL b,co,il tb lg,fF how st bk] (.t (.int (zo El how st bk a b))):=by
 walk_at "a"
 have z {c d:Nat} (h:c≤32):c≤100000:=a8 h (by decide)
 have da:=z (d:=0) (jB (hE.cd a ha).1 (hE.cd a ha).2)
 have db:=z (d:=0) (jB (hE.cd b hb).1 (hE.cd b hb).2)
 have hc:dE C 8 (.ref 321) [wL (gp how (El a)),wL (gp how (El b)),fF how st bk] (.t (.int (qV El how st bk a b))):=rW F how st bk (a8 (ae (jv ..)) (hE.len a ha)) (a8 (ae (jv ..)) (hE.len b hb))
 have hf:zo El how st bk a b=bif zp (qV El how st bk a b) st then gd (dS a) (dS b) else qV El how st bk a b:=rfl
 generalize qV El how st bk a b=m at hc hf
 refine bA F ["one","other","data","table","options"] rfl rfl rfl (fun _ _ _ _ _=>rfl) rfl ?_
 walk_at "k"
 refine bK (jf F hE ha how st bk) (by walk_at "r") ?_
 walk_at "k"
 refine bK (mn F (how:=how) (hE.len a ha)) (by walk_at "r") ?_
 walk_at "k"
 refine bK (jf F hE hb how st bk) (by walk_at "r") ?_
 walk_at "k"
 refine bK (mn F (how:=how) (hE.len b hb)) (by walk_at "r") ?_
 walk_at "k"
 refine bK hc (by walk_at "r") ?_
 walk_at "i"
 refine IfW.cut (zp m st) [] (by walk_at "p") ?_
 walk_at "k"
 refine cn (fun q=>?_) fun q=>?_
 · walk_at "k"
   refine bK (wM F LT (hE.cd a ha).1 (hE.cd a ha).2) (by walk_at "r") ?_
   walk_at "k"
   refine bK (wM F LT (hE.cd b hb).1 (hE.cd b hb).2) (by walk_at "r") ?_
   walk_at "k"
   refine bK (pB F da db) (by walk_at "r") ?_
   walk_at "k"
   exact congrArg T.int (hf.trans (cH q)).symm
 · walk_at "k"
   exact congrArg T.int (hf.trans (bS q)).symm
 walk_at "z"
end
theorem kY {α:Type} {f:α→T} {l:List α}:∀k,oN (l.map f) k=(l.zipIdx k).map fun p=> .tup [.int (p.2:Int),f p.1]:=by
 induction l with
 | nil=>exact fun _=>rfl
 | cons x l ih=>exact fun k=>congrArg (_:: ·) (ih (k+1))
theorem xf {α:Type} {f:α→T} {l:List α} (h:l.length≤64):fit (oN (l.map f) 0).length=true:=gE (by rw [kY,a9,iT];exact a8 h (by decide))
theorem sX {tg:Tg} {cond:aF→Hp→(Bool→Hp→Prop)→Prop} {elt:aF→Hp→(V→Hp→Prop)→Prop} {ts ts':List T} {ρ:aF} {H:Hp} {K:List T→Hp→Prop} (e:ts=ts') (h:EG tg cond elt ρ ts' H K):EG tg cond elt ρ ts H K:=e▸h
section
variable {C:Cx} {tb:ew} {lg:List (Int×Int)} {El:List Int→List E4} {P:List Int→Prop}
noncomputable def ma (El:List Int→List E4) (how:Str) (st:Int) (bk:Bool) (ts:List (List Int)):List (List Int×Int):=ts.zipIdx.map fun p=>(HL El how st bk p.1,(p.2:Int))
theorem Hy {how:Str} {st:Int} {bk:Bool} {ts:List (List Int)}:ts.zipIdx.map (fun p=>jX (HL El how st bk p.1,(p.2:Int)))=(ma El how st bk ts).map jX:=by unfold ma;rw [aO];rfl
theorem w7 {α:Type} {f:α→List Int} {l:List α}:T.lst (l.map fun i=>iL (f i))=qw (l.map f):=by unfold qw;rw [aO];rfl
theorem IT {tg:Tg} {d d':T} {ρ:aF} {K:aF→Prop} (e:d=d') (h:gv tg d' ρ K):gv tg d ρ K:=e▸h
theorem JR {how:Str} {st:Int} {bk:Bool} {ts:List (List Int)} {i:Nat} (h:i < ts.length):((ma El how st bk ts).map jX).getD i .none= .tup [iL (HL El how st bk (ts.getD i [])), .int (i:Int)]:=by
 unfold ma
 rw [ah,ax,ax,List.getElem?_zipIdx,ai h,ah,ai h,bo]
 rfl
theorem uZ (F:de C) (LT:qO C) (hE:pX C tb lg El P) {ts:List (List Int)} (h2:2≤ts.length) (h64:ts.length < 64) (hts:∀t∈ts,P t) {how:Str} {st:Int} {bk:Bool} {qa:Array Nat}
 (hrun:iP (fun i j=>kF (iQ (ma El how st bk ts) i) (iQ (ma El how st bk ts) j)) ts.length (kas_sort ts.length)=some qa) (hq:∀i∈qa.toList,i < ts.length) (hql:qa.toList.length≤64):
 dE C 35 (.ref 333) [qw ts,co,il tb lg,fF how st bk] (.t (qw (qa.toList.map fun i=>ts.getD i []))):=by
 walk_at "a"
 have hpl:(ma El how st bk ts).length=ts.length:=by unfold ma;rw [a9,iT]
 refine bA F ["texts","data","table","options"] rfl rfl rfl (fun _ _ _ _=>rfl) rfl ?_
 walk_at "k"
 refine aA (xf (ck h64)) ?_
 walk_at "k"
 refine sX (kY 0) ?_
 refine lA (g:=fun p=>jX (HL El how st bk p.1,(p.2:Int))) ?_ fun p hp K1 K0 h1=>?_
 · walk_at "k"
   refine .mk (ma El how st bk ts) qa (congrArg (fun z=>some (O.list z)) Hy) (by rw [hpl];exact h2) (by rw [hpl];exact h64) (by rw [hpl];exact hrun) ?_
   walk_at "k"
   refine aA (gK (a8 hql (by decide))) ?_
   walk_at "k"
   intro a
   walk_at "k"
   refine lA (g:=fun i=>iL (ts.getD i [])) ?_ fun i hi K1 K0 h1=>?_
   · walk_at "k"
     exact w7
   · have hil:=hq i hi
     refine IT (JR hil) ?_
     walk_at "k"
     refine aA (cy (cN (cN hil h64) (by decide))) ?_
     walk_at "k"
     refine bw (x:=iL (ts.getD i [])) (by rw [aW,ax,ah,ai hil];rfl) ?_
     walk_at "k"
     exact h1
 · walk_at "k"
   refine bK (nN F LT hE (hts p.1 (iS hp)) how st bk) (by walk_at "r") ?_
   walk_at "k"
   exact h1
 walk_at "z"
end
abbrev R3:=Int×Int×Int
noncomputable def JY (r:R3):T:= .tup [.int r.1, .int r.2.1, .int r.2.2]
noncomputable def AU (rk:Int) (rows:List R3) (j:Nat):Bool:=fu (motive:=fun _=>Bool) j false fun i=>decide (rk > 0)&&decide ((rows.getD i (0,0,0)).2.2 > rk)
noncomputable def fV (rk:Int) (rows:List R3) (j:Nat):Nat:=Nat.rec (motive:=fun _=>Nat) 0 (fun i ih=>bif AU rk rows (i+1) then ih else i+1) j
theorem AV (rk:Int) (rows:List R3) (j:Nat):fV rk rows j≤j:=by
 walk_at "a"
 induction j with
 | zero=>exact aB 0
 | succ i ih=>
  show(bif AU rk rows (i+1) then fV rk rows i else i+1)≤i+1
  cases AU rk rows (i+1) with
  | true=>exact bG ih
  | false=>exact aB _
 walk_at "z"
noncomputable def dH (pl:Nat) (rows:List R3) (p:Int):List R3:=rows.take (fV (aK p) rows rows.length)++(p,(pl:Int),aK p)::rows.drop (fV (aK p) rows rows.length)
theorem lX (pl:Nat) (rows:List R3) (p:Int):(dH pl rows p).length=rows.length+1:=by
 unfold dH
 rw [ak,aM,←bq,←ak,eT]
noncomputable def lQ (l:List (Int×Nat)) (rows:List R3):List R3:=l.foldl (fun rows p=>(bB p.1).foldl (dH p.2) rows) rows
noncomputable def pK (t:List Int):List (Int×Int):=(lQ t.zipIdx []).map fun r=>(r.1,r.2.1)
theorem u6 {c:Int} (h:Cd c):dS [c]=bB c:=fy (P:=fun c=>dS [c]=bB c) ⟨(by walk_at "r"),(by walk_at "r"),(by walk_at "r"),(by walk_at "r"),(by walk_at "r"),(by walk_at "r"),(by walk_at "r"),(by walk_at "r"),(by walk_at "r"),(by walk_at "r"),(by walk_at "r"),trivial⟩ h
structure Ig (t:List Int) (l:List (Int×Nat)) (rows:List R3):Prop where
 cd:∀p∈l,Cd p.1
 len:rows.length+2*l.length≤100
 eq:lQ l rows=lQ t.zipIdx []
structure Ih (k:Nat) (es0:List Int) (rows0:List R3) (es:List Int) (rows:List R3):Prop where
 cd:∀d∈es,Cd d
 len:rows.length+es.length≤100
 eq:es.foldl (dH k) rows=es0.foldl (dH k) rows0
theorem Ig.inn {t:List Int} {p:Int×Nat} {l:List (Int×Nat)} {rows:List R3} (h:Ig t (p::l) rows):Ih p.2 (bB p.1) rows (bB p.1) rows:=
 ⟨fT (h.cd p (.head _)),a8 (aL (a8 (fM (h.cd p (.head _))).1 (cM 2 (2*l.length))) _) h.len,rfl⟩
theorem Ig.out {t:List Int} {p:Int×Nat} {l:List (Int×Nat)} {rows rows2:List R3} (h:Ig t (p::l) rows) (h2:Ih p.2 (bB p.1) rows [] rows2) (q:rows2.length≤rows.length+2):Ig t l rows2:=⟨fun x hx=>h.cd x (.tail _ hx),a8 (aQ q _) (by
 rw [bq,bI 2]
 exact h.len),by rw [show rows2=(bB p.1).foldl (dH p.2) rows from h2.eq];exact h.eq⟩
noncomputable def KK (t:List Int) (a b c d e:Option V):aF:=[some (.t (iL t)),some (.t co),some (.ref 100),a,b,c,d,e,none,none,none]
noncomputable def Ip (rows:List R3):Hp:=[(100, .list (rows.map JY))]
theorem HM {C:Cx} {a b c:T}:gJ C (.tup [a,b,c]) none (some 2) none (.t (.tup [a,b])):=qG (k:=2) (a:=0) rfl (by decide) rfl rfl rfl rfl (by decide)
theorem uR (i:Nat):((i+1:Nat):Int) - 1=i:=g8 (i:Int) 1
theorem F9 {i n:Nat} (h:i < n) (q:n≤10000):oS (((i+1:Nat):Int) - 1)=true:=by
 rw [uR]
 exact cy (aq h (a8 q (by decide)))
theorem eR {α:Type} {f:α→T} {l:List α} {i:Nat} {d:α} (h:i < l.length):(l.map f)[i]? =some (f (l.getD i d)):=by
 rw [ax,ah,ai h]
 rfl
theorem IQ {α:Type} {f:α→T} {l:List α} {i:Nat} (d:α) (h:i < l.length):(l.map f)[(((i+1:Nat):Int) - 1).toNat]? =some (f (l.getD i d)):=by
 rw [uR]
 exact eR h
theorem yf {rk:Int} {rows:List R3} {j:Nat} (h:fV rk rows j=fV rk rows rows.length) (g:AU rk rows j=false):fV rk rows rows.length=j:=by
 walk_at "a"
 rw [←h]
 cases j with
 | zero=>rfl
 | succ i=>exact bS g
 walk_at "z"
theorem Ja {pl j:Nat} {rows:List R3} {d:Int} (e:fV (aK d) rows rows.length=j):Ip (dH pl rows d)=[(100,O.list ((rows.map JY).take j++ .tup [.int d, .int (pl:Int), .int (aK d)]::(rows.map JY).drop j))]:=by
 unfold Ip dH
 rw [e,ao,bp,fQ,List.map_drop]
 rfl
theorem Ih.step {k:Nat} {es0 es:List Int} {rows0 rows:List R3} {d:Int} (h:Ih k es0 rows0 (d::es) rows):Ih k es0 rows0 es (dH k rows d):=⟨fun x hx=>h.cd x (.tail _ hx),by
 rw [lX,bz]
 exact h.len,h.eq⟩
theorem Gm {t:List Int} {rows:List R3} (e:rows=lQ t.zipIdx []):T.lst (rows.map fun r=>nW (r.1,r.2.1))=T.lst ((pK t).map nW):=by
 subst e
 unfold pK
 rw [aO]
 rfl
theorem nQ {body:aF→Hp→(Fl→aF→Hp→Prop)→Prop} {tg:Tg} {m:List Bool} {Q:Fl→aF→Hp→Prop} {ts ts':List T} {ρ:aF} {H:Hp} (e:ts=ts') (h:kj body tg m Q ts' ρ H):kj body tg m Q ts ρ H:=e▸h
theorem nM {C:Cx} (F:de C) (LT:qO C) {t:List Int} (ht:∀c∈t,Cd c) (h8:t.length≤8):dE C 14 (.ref 530) [iL t,co] (.t (.lst ((pK t).map nW))):=by
 walk_at "a"
 refine bA F ["text","data"] rfl rfl rfl (fun _ _=>rfl) rfl ?_
 walk_at "k"
 refine nQ (kY 0) ?_
 refine fU (σ:=List R3) (fun _=>KK t none none none none none) Ip (Ig t) t.zipIdx [] ⟨fun p hp=>ht _ (iS hp),by rw [iT];exact a8 (ae (bo _)) (a8 (aJ 2 h8) (by decide)),rfl⟩ ?_ ?_
 · rintro p l rows hi Qt hQ
   have hcc:=hi.cd _ (.head _)
   have hn:=wM F LT (l:=[p.1]) (fun x hx=>by rw [af.mp hx];exact hcc) (al rfl)
   rw [u6 hcc] at hn
   walk_at "k"
   refine bK hn (by walk_at "r") ?_
   walk_at "k"
   refine fU (σ:=List R3) (fun _=>KK t (some (.t (.int (p.2:Int)))) (some (.t (.int p.1))) none none none) Ip (fun l s=>Ih p.2 (bB p.1) rows l s∧s.length+l.length≤rows.length+2) (bB p.1) rows ⟨hi.inn,aL (fM hcc).1 _⟩ ?_ ?_
   · rintro d es rows2 ⟨hj,hz⟩ Qt hQ
     have hf:fit (rows2.map JY).length=true:=gK (a8 (av _ _) (a8 hj.len (by decide)))
     walk_at "k"
     refine bK (BJ F (hj.cd d (.head _))) (by walk_at "r") ?_
     walk_at "k"
     refine aA hf ?_
     walk_at "k"
     refine fh (σ:=Nat) (fun j=>KK t (some (.t (.int (p.2:Int)))) (some (.t (.int p.1))) (some (.t (.int d))) (some (.t (.int (aK d)))) (some (.t (.int (j:Int))))) (fun _=>Ip rows2) (fun _=>Ip rows2) [true,true,true,true,true,true,true,true,false,false,false] (fun j=>j≤rows2.length∧fV (aK d) rows2 j=fV (aK d) rows2 rows2.length) id (AU (aK d) rows2) (rows2.map JY).length ⟨ae (a9 ..),congrArg (fV _ _) (a9 ..)⟩ ?_ ?_ ?_ ?_
     · walk_at "k"
       exact⟨rfl,rfl⟩
     · rintro j ⟨h1,h2⟩ K h
       walk_at "k"
       refine cn (fun q=>?_) fun q=>?_
       · cases j with
         | zero=>
          walk_at "k"
          exact h
         | succ i=>
          refine aA (decide_eq_true (bn.mpr (d9 i))) ?_
          walk_at "k"
          refine aA (F9 h1 (a8 (av _ _) (a8 hj.len (by decide)))) ?_
          walk_at "k"
          refine bw (IQ (0,0,0) h1) ?_
          walk_at "k"
          refine cn (fun q2=>?_) fun q2=>?_
          · walk_at "k"
            exact sd h (show(decide (aK d > 0)&&decide ((rows2.getD i (0,0,0)).2.2 > aK d))=true by rw [q];exact q2)
          · walk_at "k"
            exact sd h (show(decide (aK d > 0)&&decide ((rows2.getD i (0,0,0)).2.2 > aK d))=false by rw [q];exact q2)
       · exact sd h (by cases j with
          | zero=>rfl
          | succ i=>show(decide (aK d > 0)&&_)=false;rw [q];rfl)
     · rintro j ⟨h1,h2⟩ hg Qt hQ
       cases j with
       | zero=>cases hg
       | succ i=>
        walk_at "k"
        refine hQ.nx i ⟨⟨bF h1,(cH hg).symm.trans h2⟩,aI i⟩ _ _ ?_
        walk_at "k"
        exact⟨congrArg (fun z=>KK t (some (.t (.int (p.2:Int)))) (some (.t (.int p.1))) (some (.t (.int d))) (some (.t (.int (aK d)))) (some (.t (.int z)))) (uR i).symm,rfl⟩
     · rintro j ⟨h1,h2⟩ hg
       have e:=yf h2 hg
       walk_at "k"
       refine aA (aa.mpr ⟨aa.mpr ⟨cy (aR h1 (aR (av _ _) (aR hj.len (by decide)))),bu (a8 h1 (ae (a9 ..).symm))⟩,hf⟩) ?_
       walk_at "k"
       refine hQ _ ⟨hj.step,by rw [lX,bz];exact hz⟩ _ _ ?_
       walk_at "k"
       exact⟨rfl,Ja e⟩
   · rintro rows2 ⟨h2,hz⟩
     walk_at "k"
     refine hQ rows2 (hi.out h2 hz) _ _ ?_
     walk_at "k"
     exact⟨rfl,rfl⟩
 · intro rows hi
   have e:rows=lQ t.zipIdx []:=hi.eq
   walk_at "k"
   refine aA (gK (a8 (av _ _) (a8 hi.len (by decide)))) ?_
   walk_at "k"
   intro a
   walk_at "k"
   refine lA (g:=fun r=>nW (r.1,r.2.1)) ?_ fun r _ K1 K0 h1=>?_
   · walk_at "k"
     exact Gm e
   · walk_at "k"
     refine⟨_,HM,?_⟩
     walk_at "k"
     exact h1
 walk_at "z"
noncomputable def nL (l:List Nat):List T:=l.map fun(i:Nat)=> .int (i:Int)
noncomputable def bL (l:List Bool):List T:=l.map .bool
noncomputable def gV (l:List Bool):Nat→Nat→List Nat:=List.rec (motive:=fun _=>Nat→Nat→List Nat) (fun _ _=>[]) (fun b _ ih i m=>fu (motive:=fun _=>List Nat) m [] fun m'=>bif b then ih (i+1) (m'+1) else i::ih (i+1) m') l
noncomputable def oW (gs:List Bool) (a most:Nat):List Nat:=gV (gs.drop a) a most
theorem uu (l:List Bool) (i:Nat):gV l i 0=[]:=by cases l <;> rfl
structure FM (gs:List Bool) (a most:Nat) (s:Nat×List Nat):Prop where
 lf:s.2.length≤most
 eq:s.2++gV (gs.drop s.1) s.1 (most - s.2.length)=oW gs a most
noncomputable def Ir (gs:List Bool) (most:Nat) (s:Nat×List Nat):Bool:=decide ((s.1:Int) < (bL gs).length)&&(decide (((nL s.2).length:Int) < most)&&true)
theorem Fj {gs:List Bool} {most:Nat} {s:Nat×List Nat} (h:Ir gs most s=true):s.1 < gs.length∧s.2.length < most:=by
 have h:=aa.mp h
 have a:=bn.mp (of_decide_eq_true h.1)
 have b:=bn.mp (of_decide_eq_true (aa.mp h.2).1)
 exact⟨az a (a9 ..),aR (ae (a9 ..).symm) b⟩
theorem Ju {gs:List Bool} {most:Nat} {s:Nat×List Nat} (h:Ir gs most s=false):gs.length≤s.1∨most≤s.2.length:=by
 walk_at "a"
 rcases eI s.1 gs.length with a | a
 · rcases eI s.2.length most with b | b
   · unfold Ir at h
     rw [bL,nL,a9,a9,decide_eq_true (bn.mpr a),decide_eq_true (bn.mpr b)] at h
     cases h
   · exact .inr b
 · exact .inl a
 walk_at "z"
theorem FM.go {gs:List Bool} {a most:Nat} {s:Nat×List Nat} (h:FM gs a most s) (q:Ir gs most s=true):FM gs a most (s.1+1,ad (!gs.getD s.1 false) s.1 s.2)∧gs.length - (s.1+1) < gs.length - s.1:=by
 walk_at "a"
 obtain⟨h1,h2⟩:=Fj q
 refine⟨?_,cZ h1 (aI _)⟩
 have e:=h.eq
 rw [bj h1,oF h2] at e
 have e:(s.2++bif gs[s.1] then gV (gs.drop (s.1+1)) (s.1+1) ((most - (s.2.length+1))+1) else s.1::gV (gs.drop (s.1+1)) (s.1+1) (most - (s.2.length+1)))=oW gs a most:=e
 rw [ah,ai h1]
 show FM gs a most (s.1+1,ad (!gs[s.1]) s.1 s.2)
 cases hb:gs[s.1] with
 | true=>
  rw [hb,←oF h2] at e
  exact⟨h.lf,e⟩
 | false=>
  rw [hb] at e
  exact⟨a8 (ae (cg ..)) h2,by show(s.2++[s.1])++gV _ _ (most - (s.2++[s.1]).length)=_;rw [cg,au];exact e⟩
 walk_at "z"
theorem FM.fin {gs:List Bool} {a most:Nat} {s:Nat×List Nat} (h:FM gs a most s) (q:Ir gs most s=false):s.2=oW gs a most:=by
 rw [←h.eq]
 rcases Ju q with z | z
 · rw [bO z]
   exact(aw _).symm
 · rw [Nat.sub_eq_zero_of_le z,uu,aw]
noncomputable def LN (most:Nat) (s:Nat×List Nat):aF:=[some (.ref 0),some (.t (.int (s.1:Int))),some (.t (.int (most:Int))),some (.ref 100),none]
noncomputable def J1 (gs:List Bool) (s:Nat×List Nat):Hp:=[(0, .list (bL gs)),(100, .list (nL s.2))]
theorem I4 {C:Cx} (F:de C) {gs:List Bool} {a most:Nat} (hz:gs.length≤1000) (hm:most≤1000):dZ C 5 (.ref 525) f8 [.ref 0, .t (.int (a:Int)), .t (.int (most:Int))] [(0, .list (bL gs))] fun v H=>v= .ref 100∧H=J1 gs (0,oW gs a most):=by
 walk_at "a"
 have fg:fit (bL gs).length=true:=aV hz rfl
 refine dZ.canon rfl (gf F ["gone","at","most"] rfl rfl rfl (fun _ _ _=>rfl) rfl ?_)
 walk_at "k"
 refine fh (σ:=Nat×List Nat) (LN most) (J1 gs) (J1 gs) [true,true,true,true,false] (FM gs a most) (fun s=>gs.length - s.1) (Ir gs most) (a,[]) ⟨bl _,rfl⟩ ?_ ?_ ?_ ?_
 · walk_at "k"
   exact⟨rfl,rfl⟩
 · intro s hi K h
   walk_at "b"
   refine Cv (pc (fun K h=>?_) (pc (fun K h=>?_) AJ)) h
   · walk_at "k"
     refine aA fg ?_
     walk_at "k"
     exact h
   · walk_at "k"
     refine aA (aV (a8 hi.lf hm) rfl) ?_
     walk_at "k"
     exact h
 · intro s hi hg Qt hQ
   obtain⟨h1,h2⟩:=Fj hg
   walk_at "s"
   refine StW.cut (LN most s) (J1 gs (s.1,ad (!gs.getD s.1 false) s.1 s.2)) (fun Q' h=>?_) ?_
   · have h:=jV (fun f=>Q' .next (LN most s) (J1 gs (s.1,f))) h
     walk_at "k"
     refine aA (cy (aq h1 (a8 hz (by decide)))) ?_
     walk_at "k"
     refine bw (eR (d:=false) h1) ?_
     walk_at "k"
     refine cn (fun q=>?_) fun q=>?_
     · walk_at "k"
       refine aA (aV (a8 hi.lf hm) rfl) ?_
       walk_at "k"
       exact uh (h.1 q) rfl (congrArg (fun z=>[(0,O.list (bL gs)),(100,O.list z)]) ao)
     · walk_at "k"
       exact h.2 q
   walk_at "k"
   refine hQ.nx _ (hi.go hg) _ _ ?_
   walk_at "k"
   exact⟨rfl,rfl⟩
 · intro s hi hg
   rw [←hi.fin hg]
   walk_at "k"
   exact⟨rfl,rfl⟩
 walk_at "z"
theorem gc (l:List Int):(l.map T.int).all lY=true:=by rw [kc];exact aj.mpr fun _ _=>rfl
theorem py (l:List Int):(l.map T.int).map T.toInt=l:=by rw [aO];exact List.map_id l
theorem sT (a b:List Int):gy (kT a) (kT b)=decide (a=b):=by
 rw [ni (d:=kT a) (d':=kT b) (gc a) (gc b)]
 show decide ((a.map T.int).map T.toInt=(b.map T.int).map T.toInt)=_
 rw [py,py]
theorem ir {α:Type} {f:List E4→α} {tb:ew}:cR .tup (tb.map fun p=>(kT p.1,f p.2))=true:=by
 unfold cR
 rw [kc]
 exact aj.mpr fun p _=>gc p.1
theorem vO {α:Type} {f:List E4→α} {k:List Int} {tb:ew}:eE (tb.map fun p=>(kT p.1,f p.2)) (kT k)=(tb.lookup k).map f:=by
 unfold eE
 induction tb with
 | nil=>rfl
 | cons p tb ih=>
  rw [bp,fX,sT,aD]
  by_cases h:p.1=k
  · rw [decide_eq_true h,show(k==p.1)=true from beq_iff_eq.mpr h.symm]
    rfl
  · rw [decide_eq_false h,show(k==p.1)=false from beq_false_of_ne fun z=>h z.symm]
    exact ih
noncomputable def dB (tb:ew) (k:List Int):Bool:=(tb.lookup k).isSome
theorem vT {K:Bool→Prop} {tb:ew} {k:List Int} {d:T} (e:kT k=d) (h:K (dB tb k)):∃ks,cR ks (tb.map fun p=>(kT p.1,iN p.2))=true∧dg ks d=true∧K (eE (tb.map fun p=>(kT p.1,iN p.2)) d).isSome:=by
 subst e
 exact⟨.tup,ir,gc k,by rw [vO,Option.isSome_map];exact h⟩
theorem JH {K:Bool→Prop} {tb:ew} {k:List Int} {d:T} (e:kT k=d) (h:K (!dB tb k)):∃ks,cR ks (tb.map fun p=>(kT p.1,iN p.2))=true∧dg ks d=true∧K (!(eE (tb.map fun p=>(kT p.1,iN p.2)) d).isSome):=vT (K:=fun b=>K (!b)) e h
theorem zd {K:T→Prop} {tb:ew} {k:List Int} {d:T} {v:List E4} (e:kT k=d) (hv:tb.lookup k=some v) (h:K (iN v)):∃ks,cR ks (tb.map fun p=>(kT p.1,iN p.2))=true∧dg ks d=true∧dd (eE (tb.map fun p=>(kT p.1,iN p.2)) d) K:=by
 subst e
 exact⟨.tup,ir,gc k,by rw [vO,hv];exact h⟩
theorem ri (k:List Int) (c:Int):kT (k++[c])= .tup (k.map .int++[.int c]):=by unfold kT;rw [ao];rfl
theorem kx {α:Type} {l:List α} {j:Nat} (d:α) (h:j < l.length):l.drop j=l.getD j d::l.drop (j+1):=by
 rw [bj h,ah,ai h]
 rfl
abbrev MS:=Nat×List Int×List Bool×List Nat×Int
noncomputable def JA (c:Int) (s:MS):Bool:= !s.2.2.1.getD s.1 true&&(decide (aK c > s.2.2.2.2)&&true)
noncomputable def m4 (inT:List Int→Bool) (c:Int) (s:MS):MS:=bif JA c s then(bif inT (s.2.1++[c]) then(s.1,s.2.1++[c],s.2.2.1.set s.1 true,s.2.2.2.1++[s.1],s.2.2.2.2) else(s.1,s.2.1,s.2.2.1,s.2.2.2.1,aK c)) else s
noncomputable def ey (inT:List Int→Bool) (l:List Int):MS→MS:=List.rec (motive:=fun _=>MS→MS) (fun s=>s) (fun c _ ih s=>bif aK c==0 then s else ih ((m4 inT c s).1+1,(m4 inT c s).2)) l
noncomputable def i8 (codes:List Int) (ps:List Nat):List Int:=ps.map fun i=>codes.getD i 0
structure EH (tb:ew) (codes:List Int) (M s:MS):Prop where
 jl:s.1≤codes.length
 gl:s.2.2.1.length=codes.length
 pl:s.2.2.2.1.length≤2000+s.1
 kl:s.2.1.length≤2000+s.1
 eq:(ey (dB tb) (codes.drop s.1) s).2=M.2
theorem Fo {inT:List Int→Bool} {c:Int} {s:MS}:(m4 inT c s).1=s.1∧(m4 inT c s).2.2.1.length=s.2.2.1.length∧(m4 inT c s).2.2.2.1.length≤s.2.2.2.1.length+1∧(m4 inT c s).2.1.length≤s.2.1.length+1:=by
 walk_at "a"
 unfold m4
 cases JA c s with
 | false=>exact⟨rfl,rfl,d5 _,d5 _⟩
 | true=>cases inT (s.2.1++[c]) with
  | false=>exact⟨rfl,rfl,d5 _,d5 _⟩
  | true=>exact⟨rfl,fY,ae (cg ..),ae (cg ..)⟩
 walk_at "z"
theorem EH.go {tb:ew} {codes:List Int} {M s:MS} (h:EH tb codes M s) (q:s.1 < codes.length) (r:(aK (codes.getD s.1 0)==0)=false):EH tb codes M ((m4 (dB tb) (codes.getD s.1 0) s).1+1,(m4 (dB tb) (codes.getD s.1 0) s).2)∧codes.length - ((m4 (dB tb) (codes.getD s.1 0) s).1+1) < codes.length - s.1:=by
 walk_at "a"
 have e:=h.eq
 obtain⟨a,b,c,d⟩:=Fo (inT:=dB tb) (c:=codes.getD s.1 0) (s:=s)
 rw [kx 0 q] at e
 have e:=(congrArg Prod.snd (bS r)).symm.trans e
 rw [a] at e
 rw [a]
 exact⟨⟨q,b.trans h.gl,a8 c (aH h.pl),a8 d (aH h.kl),e⟩,cZ q (aI _)⟩
 walk_at "z"
theorem EH.brk {tb:ew} {codes:List Int} {M s:MS} (h:EH tb codes M s) (q:s.1 < codes.length) (r:(aK (codes.getD s.1 0)==0)=true):s.2=M.2:=by
 have e:=h.eq
 rw [kx 0 q] at e
 exact(congrArg Prod.snd (cH r)).symm.trans e
theorem EH.fin {tb:ew} {codes:List Int} {M s:MS} (h:EH tb codes M s) (q: ¬s.1 < codes.length):s.2=M.2:=by
 have e:=h.eq
 rw [bO (bU.mp q)] at e
 exact e
noncomputable def Iu (o kt:T) (s:MS) (k:Option V):aF:=[some (.t o),some (.ref 0),some (.ref 1),some (.ref 2),some (.t co),some (.t kt),some (.t (.int (s.1:Int))),some (.t (.int s.2.2.2.2)),k,none,none]
noncomputable def hMk (codes:List Int) (gs:List Bool) (ps:List Nat):Hp:=[(0, .list (codes.map .int)),(1, .list (nL ps)),(2, .list (bL gs))]
noncomputable def jc (tb:ew) (codes:List Int) (gs:List Bool) (ps:List Nat) (p:Nat):MS:=ey (dB tb) (codes.drop (p+1)) (p+1,i8 codes ps,gs,ps,0)
noncomputable def zX (codes:List Int) (gs:List Bool) (ps:List Nat):Hp:=[(1, .list (nL ps)),(0, .list (codes.map .int)),(2, .list (bL gs))]
theorem vY (codes:List Int) (l:List Nat):T.tup (l.map fun i=>T.int (codes.getD i 0))=kT (i8 codes l):=by unfold kT i8;rw [aO];rfl
theorem wd (ps:List Nat) (p:Nat):nL (ps++[p])=nL ps++[.int (p:Int)]:=ao
theorem Ag {ts:List T} {d:T}:Iq (-1) (ts++[d]).length=true:=by
 unfold Iq
 rw [ak]
 exact aa.mpr ⟨aa.mpr ⟨decide_eq_true (Int.neg_le_neg (d8.mpr (cM 1 _))),rfl⟩,rfl⟩
theorem Af {ts:List T} {d:T}:(ts++[d])[(-1+((ts++[d]).length:Int)).toNat]? =some d:=by
 rw [ak,show(-1+((ts.length+[d].length:Nat):Int))=(ts.length:Nat) by show -1+((ts.length:Int)+1)=_;rw [Int.add_comm,Int.add_neg_cancel_right],aW,iM]
theorem Di (ps:List Nat) (p:Nat):Iq (-1) (nL (ps++[p])).length=true:=by rw [wd];exact Ag
theorem Dh (ps:List Nat) (p:Nat):(nL (ps++[p]))[(-1+((nL (ps++[p])).length:Int)).toNat]? =some (.int (p:Int)):=by rw [wd];exact Af
theorem cB {α:Type} {l:List α} {j:Nat} {d:α} (h:j < l.length):l.getD j d∈l:=by
 rw [ah,ai h]
 exact List.getElem_mem h
theorem om {l:List Int} {c:T} (h:l.length≤10000):fit ((l.map T.int).length+[c].length)=true:=gE (by rw [a9];exact a8 (aH h) (by decide))
theorem IP {l:List Bool} {i:Nat} {d:Bool} (h:i < l.length):(bL l)[(i:Int).toNat]? =some (.bool (l.getD i d)):=eR (f:=T.bool) h
theorem HE {l:List Bool} {i:Nat} (h:i < l.length) (q:l.length≤1000):(decide (0≤(i:Int))&&decide ((i:Int) < (bL l).length)&&fit (bL l).length)=true:=
 aa.mpr ⟨aa.mpr ⟨decide_eq_true (bP i),decide_eq_true (bn.mpr (az h (a9 ..).symm))⟩,aV q rfl⟩
theorem Ls (codes:List Int) {gs:List Bool} {ps:List Nat} {i:Nat}:zX codes (gs.set i true) (ps++[i])=[(1, .list (nL ps++[.int (i:Int)])),(0, .list (codes.map .int)),(2, .list ((bL gs).set i (.bool true)))]:=by
 unfold zX bL nL
 rw [ao,List.map_set]
 rfl
theorem tG {C:Cx} (F:de C) {tb:ew} {lg:List (Int×Int)} {codes:List Int} {gs:List Bool} {ps:List Nat} {p:Nat} (hc:∀c∈codes,Cd c) (hz:codes.length≤1000) (hg:gs.length=codes.length) (hp:∀i∈ps++[p],i < codes.length) (hpz:ps.length≤1000):
 dZ C 10 (.ref 499) f8 [.t (il tb lg), .ref 0, .ref 1, .ref 2, .t co] (hMk codes gs (ps++[p])) fun v H=>v= .t (kT (jc tb codes gs (ps++[p]) p).2.1)∧H=zX codes (jc tb codes gs (ps++[p]) p).2.2.1 (jc tb codes gs (ps++[p]) p).2.2.2.1:=by
 walk_at "a"
 refine dZ.canon rfl (gf F ["self","codes","places","gone","data"] rfl rfl rfl (fun _ _ _ _ _=>rfl) rfl ?_)
 have hn:fit (nL (ps++[p])).length=true:=aV (a8 (ae (cg ..)) (aH hpz)) rfl
 walk_at "k"
 refine aA hn ?_
 walk_at "k"
 intro a
 walk_at "k"
 refine lA (f:=fun(i:Nat)=> .int (i:Int)) (g:=fun i=> .int (codes.getD i 0)) ?_ fun i hi K1 K0 h1=>?_
 · walk_at "k"
   refine aA (aV (a8 (ae (cg ..)) (aH hpz)) rfl) ?_
   walk_at "k"
   refine aA (Di ps p) ?_
   walk_at "k"
   refine bw (Dh ps p) ?_
   walk_at "k"
   refine fh (σ:=MS) (fun s=>Iu (il tb lg) (kT s.2.1) s none) (fun s=>zX codes s.2.2.1 s.2.2.2.1) (fun s=>zX codes s.2.2.1 s.2.2.2.1) [true,true,true,true,true,true,true,true,false,false,false] (EH tb codes (jc tb codes gs (ps++[p]) p)) (fun s=>codes.length - s.1) (fun s=>decide ((s.1:Int) < (codes.map T.int).length)) (p+1,i8 codes (ps++[p]),gs,ps++[p],0) ⟨hp p (aN.mpr (.inr (.head _))),hg,a8 (ae (cg ..)) (aH (a8 hpz (a8 (by decide) (av 2000 p)))),a8 (ae ((a9 ..).trans (cg ..))) (aH (a8 hpz (a8 (by decide) (av 2000 p)))),rfl⟩ ?_ ?_ ?_ ?_
   · walk_at "k"
     exact⟨congrArg (fun z=>Iu (il tb lg) z (p+1,[],[],[],0) none) (vY codes (ps++[p])).symm,rfl⟩
   · intro s hi K h
     walk_at "k"
     refine aA (aV hz rfl) ?_
     walk_at "k"
     exact h
   · intro s hi hg Qt hQ
     have hj:=az (bn.mp (of_decide_eq_true hg)) (a9 ..)
     have hr:oS (s.1:Int)=true:=cy (aq hj (a8 hz (by decide)))
     walk_at "k"
     refine aA hr ?_
     walk_at "k"
     refine bw (x:= .int (codes.getD s.1 0)) (eR hj) ?_
     walk_at "k"
     refine bK (BJ F (x:=codes.getD s.1 0) (hc _ (cB hj))) (by walk_at "r") ?_
     walk_at "k"
     refine cn (fun q=>?_) fun q=>?_
     · have e:=hi.brk hj q
       walk_at "k"
       refine hQ.bk _ _ ?_
       walk_at "k"
       rw [←e]
       exact⟨rfl,rfl⟩
     have hgo:=hi.go hj q
     have hk:s.2.1.length≤10000:=a8 hi.kl (a8 (aL (a8 hi.jl hz) _) (by decide))
     have hf:((s.2.1.map T.int).length+[T.int (codes.getD s.1 0)].length)≤sizeLine:=cI (om hk)
     walk_at "s"
     refine StW.cut (Iu (il tb lg) (kT (m4 (dB tb) (codes.getD s.1 0) s).2.1) (m4 (dB tb) (codes.getD s.1 0) s) (some (.t (.int (aK (codes.getD s.1 0)))))) (zX codes (m4 (dB tb) (codes.getD s.1 0) s).2.2.1 (m4 (dB tb) (codes.getD s.1 0) s).2.2.2.1) (fun Q' h=>?_) ?_
     · have h:=jV (fun z:MS=>Q' .next (Iu (il tb lg) (kT z.2.1) z (some (.t (.int (aK (codes.getD s.1 0)))))) (zX codes z.2.2.1 z.2.2.2.1)) h
       walk_at "i"
       refine IfW.cut (JA (codes.getD s.1 0) s) (zX codes s.2.2.1 s.2.2.2.1) (fun K h=>?_) ?_
       · walk_at "b"
         refine Cv (pc (fun K h=>?_) (pc (fun K h=>?_) AJ)) h
         · walk_at "k"
           refine aA hr ?_
           walk_at "k"
           refine bw (x:= .bool (s.2.2.1.getD s.1 true)) (IP (az hj hi.gl.symm)) ?_
           walk_at "k"
           exact h
         · walk_at "k"
           exact h
       walk_at "k"
       refine cn (fun q1=>?_) fun q1=>?_
       · have h:=jV (fun z:MS=>Q' .next (Iu (il tb lg) (kT z.2.1) z (some (.t (.int (aK (codes.getD s.1 0)))))) (zX codes z.2.2.1 z.2.2.2.1)) (h.1 q1)
         walk_at "i"
         refine IfW.cut (dB tb (s.2.1++[codes.getD s.1 0])) (zX codes s.2.2.1 s.2.2.2.1) (fun K h=>?_) ?_
         · walk_at "k"
           refine aA hr ?_
           walk_at "k"
           refine bw (x:= .int (codes.getD s.1 0)) (eR hj) ?_
           walk_at "k"
           refine⟨_,EJ hf,?_⟩
           walk_at "k"
           exact vT (K:=fun b=>K b (zX codes s.2.2.1 s.2.2.2.1)) (ri s.2.1 (codes.getD s.1 0)) h
         walk_at "k"
         refine cn (fun q2=>?_) fun q2=>?_
         · walk_at "k"
           refine aA hr ?_
           walk_at "k"
           refine bw (x:= .int (codes.getD s.1 0)) (eR hj) ?_
           walk_at "k"
           refine⟨_,EJ hf,?_⟩
           walk_at "k"
           refine aA (HE (az hj hi.gl.symm) (a8 (ae hi.gl) hz)) ?_
           walk_at "k"
           refine aA (aV (a8 hi.pl (aL (a8 hi.jl hz) _)) rfl) ?_
           walk_at "k"
           exact uh (h.1 q2) (congrArg (fun z=>Iu (il tb lg) z s (some (.t (.int (aK (codes.getD s.1 0)))))) (ri ..)) (Ls codes)
         · walk_at "k"
           exact h.2 q2
       · walk_at "k"
         exact h.2 q1
     walk_at "k"
     refine hQ.nx _ hgo _ _ ?_
     walk_at "k"
     exact⟨rfl,rfl⟩
   · intro s hi hg
     have e:=hi.fin fun z=>by rw [decide_eq_true (bn.mpr (az z (a9 ..).symm))] at hg;cases hg
     walk_at "k"
     rw [←e]
     exact⟨rfl,rfl⟩
 · have hil:=hp i hi
   walk_at "k"
   refine aA (cy (aq hil (a8 hz (by decide)))) ?_
   walk_at "k"
   refine bw (eR (d:=0) hil) ?_
   walk_at "k"
   exact h1
 walk_at "z"
noncomputable def zZ (base code:Int):List E4:=[(base+code.fdiv (2 ^ 15),32,2,false),(Builtin.bitOr (Builtin.bitAnd code 32767) 32768,0,0,false)]
theorem BI {C:Cx} (F:de C) {f l b code:Int}:dE C 5 (.ref 379) [BT f l b, .int code] (.t (iN (zZ b code))):=by
 refine bA F ["self","code"] rfl rfl rfl (fun _ _=>rfl) rfl ?_
 walk_at "k"
 rfl
theorem BO {C:Cx} (F:de C) {l:List E4} (hz:l.length≤10000):dE C 5 (.ref 391) [iN l, .tup [.int 1, .int 1, .int 1]] (.t (iN l)):=by
 walk_at "a"
 refine bA F ["elements","factors"] rfl rfl rfl (fun _ _=>rfl) rfl ?_
 walk_at "k"
 refine aA (oP hz) ?_
 walk_at "k"
 refine lA (g:=s8) ?_ fun e _ K1 K0 h1=>?_
 · walk_at "k"
   rfl
 · walk_at "k"
   rw [lS,lS,lS]
   exact h1
 walk_at "z"
noncomputable def sO (code:Int) (i:Nat):Bool:=decide ((ce.getD i (0,0,0)).1≤code)&&decide (code≤(ce.getD i (0,0,0)).2.1)
noncomputable def mZ (code:Int) (j:Nat):Nat:=Nat.rec (motive:=fun _=>Nat) 0 (fun i ih=>bif sO code (i+1) then i+1 else ih) j
noncomputable def jF (code:Int):List E4:=zZ (ce.getD (mZ code 17) (0,0,0)).2.2 code
theorem tX {code:Int} {j:Nat} (h:mZ code j=mZ code 17) (q:sO code j=true):mZ code 17=j:=by
 rw [←h]
 cases j with
 | zero=>rfl
 | succ i=>exact cH q
noncomputable def JU (o:T) (code j:Int):aF:=[some (.t o),some (.t (.int code)),some (.t (.int j)),none,none]
theorem v9 {C:Cx} (F:de C) {tb:ew} {lg:List (Int×Int)} {code:Int} (h0:0≤code) (h1:code≤1114111):dE C 7 (.ref 482) [il tb lg, .int code] (.t (iN (jF code))):=by
 walk_at "a"
 have z0:sO code 0=true:=aa.mpr ⟨decide_eq_true h0,decide_eq_true h1⟩
 have at_r {j:Nat} (h:j≤17):(ce.map fun r=>BT r.1 r.2.1 r.2.2)[(j:Int).toNat]? =some (BT (ce.getD j (0,0,0)).1 (ce.getD j (0,0,0)).2.1 (ce.getD j (0,0,0)).2.2):=eR (f:=fun r:Int×Int×Int=>BT r.1 r.2.1 r.2.2) (aR h (al rfl))
 have in_r {j:Nat} (h:j≤17):oS (j:Int)=true:=cy (aR h (al rfl))
 refine bA F ["self","code"] rfl rfl rfl (fun _ _=>rfl) rfl ?_
 walk_at "k"
 refine fh (σ:=Nat) (fun(j:Nat)=>JU (il tb lg) code (j:Int)) (fun _=>[]) (fun _=>[]) [true,true,true,false,false] (fun j=>j≤17∧mZ code j=mZ code 17) id (fun j=> !sO code j) 17 ⟨aB _,rfl⟩ ?_ ?_ ?_ ?_
 · walk_at "k"
   exact⟨rfl,rfl⟩
 · rintro j ⟨hj,_⟩ K h
   have e:sO code j=(decide ((ce.getD j (0,0,0)).1≤code)&&decide (code≤(ce.getD j (0,0,0)).2.1)):=rfl
   walk_at "k"
   refine aA (in_r hj) ?_
   walk_at "k"
   refine bw (at_r hj) ?_
   walk_at "k"
   refine cn (fun q=>?_) fun q=>?_
   · walk_at "k"
     refine aA (in_r hj) ?_
     walk_at "k"
     refine bw (at_r hj) ?_
     walk_at "k"
     exact sd h (by rw [e,q];rfl)
   · exact sd h (by rw [e,q];rfl)
 · rintro j ⟨hj,e⟩ hg Qt hQ
   cases j with
   | zero=>rw [z0] at hg;cases hg
   | succ i=>
    walk_at "k"
    refine hQ.nx i ⟨⟨bF hj,(bS (Ho hg)).symm.trans e⟩,aI i⟩ _ _ ?_
    walk_at "k"
    exact⟨congrArg (JU (il tb lg) code) (uR i).symm,rfl⟩
 · rintro j ⟨hj,e⟩ hg
   have e:=tX e (AB hg)
   walk_at "k"
   refine aA (in_r hj) ?_
   walk_at "k"
   refine bw (at_r hj) ?_
   walk_at "k"
   refine bK (BI F) (by walk_at "r") ?_
   walk_at "k"
   refine bK (BO F (l:=zZ (ce.getD j (0,0,0)).2.2 code) (al rfl)) (by walk_at "r") ?_
   walk_at "k"
   rw [←e]
   rfl
 walk_at "z"
noncomputable def uC (el:List E4) (ps:List Nat) (on:Int):T:= .inst 408 [(.str "elements",iN el),(.str "places", .lst (nL ps)),(.str "onward", .int on)]
theorem o6 {C:Cx} (F:de C) {el:List E4} {ps:List Nat} {on:Int}:dE C 4 (.ref 408) [iN el, .lst (nL ps), .int on] (.t (uC el ps on)):=by
 refine dZ.make F.f (F.cls (408,405) (by repeat first | exact .head _ | apply List.Mem.tail)) 1 (r4 F ["self","elements","places","onward"] rfl rfl rfl (fun _ _ _ _=>rfl) rfl ?_) rfl
 walk_at "k"
 refine⟨rfl,?_⟩
 walk_at "k"
 rfl
theorem nj {lg:List (Int×Int)}:cR .int (lg.map fun p=>(T.int p.1,T.int p.2))=true:=by
 unfold cR
 rw [kc]
 exact aj.mpr fun _ _=>rfl
theorem CZ {lg:List (Int×Int)} {c:Int}:eE (lg.map fun p=>(T.int p.1,T.int p.2)) (.int c)=(lg.lookup c).map T.int:=by
 walk_at "a"
 unfold eE
 induction lg with
 | nil=>rfl
 | cons p lg ih=>
  rw [bp,fX,aD,show gy (T.int p.1) (T.int c)=decide (p.1=c) from rfl]
  by_cases h:p.1=c
  · rw [decide_eq_true h,show(c==p.1)=true from beq_iff_eq.mpr h.symm]
    rfl
  · rw [decide_eq_false h,show(c==p.1)=false from beq_false_of_ne fun z=>h z.symm]
    exact ih
 walk_at "z"
theorem w5 {lg:List (Int×Int)} {c:Int} {H:Hp}:jQ H (an (motive:=fun _=>V) (eE (lg.map fun p=>(T.int p.1,T.int p.2)) (.int c)) (.t (.int 0)) .t)=some (.int ((lg.lookup c).getD 0)):=by
 rw [CZ]
 cases lg.lookup c <;> rfl
noncomputable def jW (lg:List (Int×Int)) (c:Int):Nat:=((if(lg.lookup c).getD 0 > 1 then(lg.lookup c).getD 0 else 1:Int)).toNat
theorem wc {lg:List (Int×Int)} {c:Int}:((jW lg c:Nat):Int)=if(lg.lookup c).getD 0 > 1 then(lg.lookup c).getD 0 else 1:=by
 unfold jW
 by_cases h:(lg.lookup c).getD 0 > 1
 · rw [if_pos h]
   exact Int.toNat_of_nonneg (eH (by decide) (kg h))
 · rw [if_neg h]
   rfl
theorem Dy {lg:List (Int×Int)} {c:Int} (h:(lg.lookup c).getD 0≤900):jW lg c≤1000:=d8.mp (by
 show((jW lg c:Nat):Int)≤1000
 rw [wc]
 by_cases q:(lg.lookup c).getD 0 > 1
 · rw [if_pos q]
   exact eH h (by decide)
 · rw [if_neg q]
   decide)
noncomputable def ba (lg:List (Int×Int)) (codes:List Int) (gs:List Bool) (a:Nat):List Nat:=oW gs a (jW lg (codes.getD a 0))
theorem xN {l:List Bool}:∀{i m x:Nat},x∈gV l i m→x < i+l.length:=by
 induction l with
 | nil=>intro i m x h;cases h
 | cons b r ih=>
  intro i m x h
  cases m with
  | zero=>cases h
  | succ m=>
   rw [aM,bI r.length,←bq]
   cases b with
   | true=>exact ih (show x∈gV r (i+1) (m+1) from h)
   | false=>
    rcases aS.mp (show x∈i::gV r (i+1) m from h) with e | h
    · rw [e]
      exact aq (aI i) (av _ _)
    · exact ih h
theorem xM {l:List Bool}:∀{i m:Nat},(gV l i m).length≤l.length:=by
 induction l with
 | nil=>exact fun {_ _}=>aB 0
 | cons b r ih=>
  intro i m
  cases m with
  | zero=>exact bl _
  | succ m=>
   cases b with
   | true=>exact bG ih
   | false=>exact aH ih
theorem oZ {lg:List (Int×Int)} {codes:List Int} {gs:List Bool} {a x:Nat} (ha:a≤gs.length) (h:x∈ba lg codes gs a):x < gs.length:=az (xN h) (by rw [aT,Nat.add_sub_cancel' ha])
theorem m5 {lg:List (Int×Int)} {codes:List Int} {gs:List Bool} {a:Nat}:(ba lg codes gs a).length≤gs.length:=a8 xM (by rw [aT];exact eJ _ _)
noncomputable def K9 (tb:ew) (codes:List Int) (live:List Nat) (j:Nat):Bool:=fu (motive:=fun _=>Bool) j false fun i=> !dB tb (i8 codes (live.take (i+1)))
noncomputable def iF (tb:ew) (codes:List Int) (live:List Nat) (k:Nat):Nat:=Nat.rec (motive:=fun _=>Nat) 0 (fun i ih=>bif K9 tb codes live (i+1) then ih else i+1) k
structure KO (tb:ew) (codes:List Int) (live:List Nat) (j:Nat):Prop where
 le:j≤live.length
 eq:iF tb codes live j=iF tb codes live live.length
theorem KO.fin {tb:ew} {codes:List Int} {live:List Nat} {j:Nat} (h:KO tb codes live j) (q:K9 tb codes live j=false):iF tb codes live live.length=j:=by
 walk_at "a"
 rw [←h.eq]
 cases j with
 | zero=>rfl
 | succ i=>exact bS q
 walk_at "z"
noncomputable def d6 (tb:ew) (codes:List Int) (gs:List Bool) (live:List Nat) (i:Nat):MS:=jc tb codes gs (live.take i++[live.getD i 0]) (live.getD i 0)
theorem je {live:List Nat} {i:Nat} (h:i < live.length):live.take (i+1)=live.take i++[live.getD i 0]:=by
 rw [List.take_add_one,ah,ai h]
 rfl
theorem uy {inT:List Int→Bool} {l:List Int}:∀{s:MS},inT s.2.1=true→inT (ey inT l s).2.1=true:=by
 walk_at "a"
 induction l with
 | nil=>exact fun h=>h
 | cons c l ih=>
  intro s h
  show inT (bif aK c==0 then s else ey inT l ((m4 inT c s).1+1,(m4 inT c s).2)).2.1=true
  cases aK c==0 with
  | true=>exact h
  | false=>
   refine ih (s:=((m4 inT c s).1+1,(m4 inT c s).2)) ?_
   show inT (m4 inT c s).2.1=true
   unfold m4
   cases JA c s with
   | false=>exact h
   | true=>
    cases q:inT (s.2.1++[c]) with
    | true=>exact q
    | false=>exact h
 walk_at "z"
noncomputable def bZ (tb:ew) (lg:List (Int×Int)) (codes:List Int) (gs:List Bool) (a:Nat):(List E4×List Nat×Nat)×List Bool:=
 fu (motive:=fun _=>(List E4×List Nat×Nat)×List Bool) (iF tb codes (ba lg codes gs a) (ba lg codes gs a).length) ((jF (codes.getD a 0),[a],a+1),gs) fun i=>
  (((tb.lookup (d6 tb codes gs (ba lg codes gs a) i).2.1).getD [],(d6 tb codes gs (ba lg codes gs a) i).2.2.2.1,(ba lg codes gs a).getD i 0+1),(d6 tb codes gs (ba lg codes gs a) i).2.2.1)
theorem im {C:Cx} {n n':Nat} {f:Value} {mk:List Value→Args} {vs vs':List V} {H H' H0:Hp} {v0:V} {Q:V→Hp→Prop} (h:dZ C n' f mk vs' H' fun v H=>v=v0∧H=H0) (e:vs'=vs) (e2:H'=H) (k:Q v0 H0) (hn:n'≤n:=by exact al rfl):FnW C n f mk vs H Q:=
 ⟨by subst e;subst e2;exact(h.le hn).imp fun v H q=>by obtain⟨q1,q2⟩:=q;subst q1;subst q2;exact k⟩
theorem rE {l:List Nat} {j:Nat} (h:j≤l.length):cJ (nL l) none (some (j:Int))=nL (l.take j):=by
 have e:kms_hi (some (j:Int)) (nL l).length=j:=by
  show(if(j:Int) < 0 then(nL l).length - (-(j:Int)).toNat else min (j:Int).toNat (nL l).length)=j
  rw [if_neg (dp.mpr (bP j)),aW]
  exact dr (a8 h (ae (a9 ..).symm))
 unfold cJ
 rw [e,nL,nL,fQ]
 rfl
theorem AO {l:List Nat} {j:Nat} (h:j≤l.length) (q:l.length≤900):fit (cJ (nL l) none (some (j:Int))).length=true:=by
 rw [rE h]
 exact aV (a8 (ae (c8 ..)) (a8 (bx _ _) q)) rfl
theorem xQ {k m n:Nat} {a b:O} {r:Hp} (h:(m==n)=false):List.lookup k ((m,a)::(n,b)::r)=List.lookup k ((n,b)::(m,a)::r):=by
 walk_at "a"
 rw [aD,aD,aD,aD]
 cases e:k==m with
 | true=>rw [beq_iff_eq.mp e,h]
 | false=>cases k==n <;> rfl
 walk_at "z"
theorem bc.perm {C:Cx} {g:cj} {H H':Hp} {p:Pt} (R:bc C g H p) (e:∀k,H.lookup k=H'.lookup k):bc C g H' p:=
 ⟨R.base,R.sub,R.gsub,R.gP,R.tab,fun n o h=>R.slots n o ((e n).trans h),fun n m o o' h h'=>R.inj n m o o' ((e n).trans h) ((e m).trans h'),fun n o h k hk=>by rw [←e];exact R.ids n o ((e n).trans h) k hk⟩
theorem dZ.perm {C:Cx} {n:Nat} {f:Value} {mk:List Value→Args} {vs:List V} {H:Hp} {Q Q':V→Hp→Prop} (h:dZ C n f mk vs H Q) (l:∀v H',Q v H'→∃H2:Hp,(∀k,H'.lookup k=H2.lookup k)∧Q' v H2):dZ C n f mk vs H Q':=fun A g p cvs hA R x P k=>h A g p cvs hA R x P fun cv p' v H' st y q=>by
 obtain⟨H2,e,q⟩:=l v H' q
 exact k cv p' v H2 ⟨st.same,st.ext,fun n h=>⟨(st.mu n h).1,by rw [←e];exact(st.mu n h).2⟩,st.rel.perm e⟩ ⟨y.1,fun j hj=>by rw [←e];exact y.2 j hj⟩ q
noncomputable def L9 (codes:List Int) (gs:List Bool):Hp:=[(1, .list (bL gs)),(0, .list (codes.map .int))]
noncomputable def rMt (o:T) (a:Nat) (l:V) (j:Int) (p:Option V):aF:=[some (.t o),some (.ref 0),some (.t (.int (a:Int))),some (.ref 1),some (.t co),some l,some (.t (.int j)),p,none,none,none,none,none,none]
noncomputable def LO (o:T) (a:Nat):aF:=[some (.t o),some (.ref 0),some (.t (.int (a:Int))),some (.ref 1),some (.t co),some (.ref 200),none,none,none,none,none,none,none,none]
noncomputable def GE (codes:List Int) (gs:List Bool) (live:List Nat):Hp:=[(1, .list (bL gs)),(0, .list (codes.map .int)),(100, .list (nL live))]
noncomputable def La (codes:List Int) (gs:List Bool) (live:List Nat) (j:Nat):Hp:=(102, .list ((live.take j).map fun x=>T.int (codes.getD x 0)))::(101, .list (cJ (nL live) none (some (j:Int))))::GE codes gs live
noncomputable def L8 (codes:List Int) (gs:List Bool):Hp:=[(0, .list (codes.map .int)),(1, .list (bL gs))]
theorem EC {C:Cx} (F:de C) {tb:ew} {lg:List (Int×Int)} {codes:List Int} {gs:List Bool} {a:Nat} (hc:∀c∈codes,Cd c) (hz:codes.length≤900) (hg:gs.length=codes.length) (ha:a < codes.length) (hlg:∀c,((lg.lookup c).getD 0)≤900):
 dZ C 14 (.ref 494) f8 [.t (il tb lg), .ref 0, .t (.int (a:Int)), .ref 1, .t co] (L8 codes gs) fun v H=>v= .t (uC (bZ tb lg codes gs a).1.1 (bZ tb lg codes gs a).1.2.1 ((bZ tb lg codes gs a).1.2.2:Nat))∧H=L8 codes (bZ tb lg codes gs a).2:=by
 walk_at "a"
 have hr:oS (a:Int)=true:=cy (aq ha (a8 hz (by decide)))
 have hat:(codes.map T.int)[((a:Nat):Int).toNat]? =some (.int (codes.getD a 0)):=eR ha
 have hca:0≤codes.getD a 0∧codes.getD a 0≤1114111:=fy (P:=fun c=>0≤c∧c≤1114111) ⟨by decide,by decide,by decide,by decide,by decide,by decide,by decide,by decide,by decide,by decide,by decide,trivial⟩ (hc _ (cB ha))
 have hl:=I4 F (gs:=gs) (a:=a) (a8 (ae hg) (a8 hz (by decide))) (Dy (hlg (codes.getD a 0)))
 rw [wc] at hl
 refine dZ.perm (Q:=fun v H=>v= .t (uC (bZ tb lg codes gs a).1.1 (bZ tb lg codes gs a).1.2.1 ((bZ tb lg codes gs a).1.2.2:Nat))∧(H=L9 codes (bZ tb lg codes gs a).2∨H=L8 codes (bZ tb lg codes gs a).2)) ?_ (fun v H q=>q.2.elim (fun e=>⟨_,fun k=>by rw [e];exact xQ (by decide),q.1,rfl⟩) fun e=>⟨_,fun k=>congrArg (List.lookup k) e,q.1,rfl⟩)
 refine dZ.canon rfl (gf F ["self","codes","at","gone","data"] rfl rfl rfl (fun _ _ _ _ _=>rfl) rfl ?_)
 walk_at "s"
 refine StW.cut (LO (il tb lg) a) [(1, .list (bL gs)),(200, .list (nL (ba lg codes gs a))),(0, .list (codes.map .int))] (fun Q' h=>?_) ?_
 · walk_at "k"
   refine aA hr ?_
   walk_at "k"
   refine bw hat ?_
   walk_at "k"
   refine⟨.int,nj,rfl,?_⟩
   walk_at "k"
   refine bw w5 ?_
   walk_at "k"
   refine⟨_,Jv _ _,?_⟩
   walk_at "k"
   refine im hl (by walk_at "r") (by walk_at "r") ?_
   walk_at "k"
   exact uh h (by walk_at "r") (by walk_at "r")
 walk_at "k"
 refine aA (aV (a8 m5 (a8 (ae hg) hz)) rfl) ?_
 walk_at "k"
 have lz:(ba lg codes gs a).length≤900:=a8 m5 (a8 (ae hg) hz)
 have lm:∀x∈ba lg codes gs a,x < codes.length:=fun x hx=>az (oZ (ck (az ha hg.symm)) hx) hg
 refine fh (σ:=Nat) (fun j=>rMt (il tb lg) a (.ref 100) (j:Int) none) (fun _=>GE codes gs (ba lg codes gs a)) (fun j=>fu (motive:=fun _=>Hp) j (GE codes gs (ba lg codes gs a)) fun i=>La codes gs (ba lg codes gs a) (i+1)) [true,true,true,true,true,true,true,false,false,false,false,false,false,false] (KO tb codes (ba lg codes gs a)) id (K9 tb codes (ba lg codes gs a)) (nL (ba lg codes gs a)).length ⟨ae (a9 ..),congrArg _ (a9 ..)⟩ ?_ ?_ ?_ ?_
 · walk_at "k"
   exact⟨rfl,rfl⟩
 · intro j hi K h
   cases j with
   | zero=>
    walk_at "k"
    exact h
   | succ i=>
    have hil:=hi.le
    walk_at "k"
    refine aA (decide_eq_true (bn.mpr (d9 i))) ?_
    walk_at "k"
    refine aA (aV lz rfl) ?_
    walk_at "k"
    refine aA (AO hil lz) ?_
    walk_at "k"
    intro b
    walk_at "k"
    refine sX (rE hil) (lA (f:=fun(x:Nat)=> .int (x:Int)) (g:=fun x=> .int (codes.getD x 0)) ?_ fun x hx K1 K0 h1=>?_)
    · walk_at "k"
      refine aA (aV (a8 (ae (c8 ..)) (a8 (bx _ _) lz)) rfl) ?_
      walk_at "k"
      refine JH (vY ..).symm ?_
      walk_at "k"
      refine cn (fun q=>?_) fun q=>?_
      · walk_at "k"
        exact sd h q
      · walk_at "k"
        exact sd h q
    · have hxl:=lm x (i5 hx)
      walk_at "k"
      refine aA (cy (aq hxl (a8 hz (by decide)))) ?_
      walk_at "k"
      refine bw (x:= .int (codes.getD x 0)) (eR hxl) ?_
      walk_at "k"
      exact h1
 · intro j hi hg Qt hQ
   cases j with
   | zero=>cases hg
   | succ i=>
    walk_at "k"
    refine hQ.nx i ⟨⟨bF hi.le,(cH hg).symm.trans hi.eq⟩,aI i⟩ _ _ ?_
    walk_at "k"
    exact⟨congrArg (fun z=>rMt (il tb lg) a (.ref 100) z none) (uR i).symm,rfl⟩
 · intro j hi hj
   have e:=hi.fin hj
   cases j with
   | zero=>
    walk_at "k"
    refine aA hr ?_
    walk_at "k"
    refine bw hat ?_
    walk_at "k"
    refine bK (v9 F hca.1 hca.2) (by walk_at "r") ?_
    walk_at "k"
    refine bK (o6 F (ps:=[a]) (on:=(a:Int)+1)) (by walk_at "r") ?_
    walk_at "k"
    rw [show bZ tb lg codes gs a=((jF (codes.getD a 0),[a],a+1),gs) by unfold bZ;rw [e];rfl]
    exact⟨rfl, .inl rfl⟩
   | succ i=>
    have hw:=tG F (tb:=tb) (lg:=lg) (gs:=gs) (ps:=(ba lg codes gs a).take i) (p:=(ba lg codes gs a).getD i 0) hc (a8 hz (by decide)) hg (fun x hx=>lm x (by rw [←je hi.le] at hx;exact i5 hx)) (a8 (ae (c8 ..)) (a8 (bx _ _) (a8 lz (by decide))))
    have hin:dB tb (d6 tb codes gs (ba lg codes gs a) i).2.1=true:=uy (by rw [←je hi.le];exact AB hj)
    have hli:(nL (ba lg codes gs a))[(((i+1:Nat):Int) - 1).toNat]? =some (.int (((ba lg codes gs a).getD i 0:Nat):Int)):=IQ (f:=fun(x:Nat)=>T.int (x:Int)) 0 hi.le
    obtain⟨v,hv⟩:=aZ.mp hin
    have eM:bZ tb lg codes gs a=((v,(d6 tb codes gs (ba lg codes gs a) i).2.2.2.1,(ba lg codes gs a).getD i 0+1),(d6 tb codes gs (ba lg codes gs a) i).2.2.1):=by
     unfold bZ
     rw [e]
     exact congrArg (fun z=>((Option.getD z [],(d6 tb codes gs (ba lg codes gs a) i).2.2.2.1,(ba lg codes gs a).getD i 0+1),(d6 tb codes gs (ba lg codes gs a) i).2.2.1)) hv
    rw [show hMk codes gs _=[(0, .list (codes.map .int)),(1, .list (cJ (nL (ba lg codes gs a)) none (some ((i+1:Nat):Int)))),(2, .list (bL gs))] by rw [rE hi.le,je hi.le];rfl] at hw
    walk_at "k"
    refine aA (aV lz rfl) ?_
    walk_at "k"
    refine im hw (by walk_at "r") (by walk_at "r") ?_
    walk_at "k"
    refine zd rfl hv ?_
    walk_at "k"
    refine aA (F9 hi.le (a8 lz (by decide))) ?_
    walk_at "k"
    refine jr hli (by walk_at "r") ?_
    walk_at "k"
    refine bK (o6 F (el:=v) (ps:=(d6 tb codes gs (ba lg codes gs a) i).2.2.2.1) (on:=((ba lg codes gs a).getD i 0:Nat)+1)) (by walk_at "r") ?_
    walk_at "k"
    rw [eM]
    exact⟨rfl, .inr rfl⟩
 walk_at "z"
theorem rL {α:Type} {l:List α} {x:α} (h:l++[x]=[]):False:=by cases l <;> cases h
theorem JB {inT:List Int→Bool} {c:Int} {s:MS}:(s.2.2.2.1≠[]→(m4 inT c s).2.2.2.1≠[])∧∀x∈(m4 inT c s).2.2.2.1,x∈s.2.2.2.1∨x=s.1:=by
 unfold m4
 cases JA c s with
 | false=>exact⟨id,fun x h=> .inl h⟩
 | true=>cases inT (s.2.1++[c]) with
  | false=>exact⟨id,fun x h=> .inl h⟩
  | true=>exact⟨fun _=>rL,fun x h=>(aN.mp h).imp id fun h=>af.mp h⟩
theorem uz {inT:List Int→Bool} {l:List Int}:∀{s:MS},(ey inT l s).2.2.1.length=s.2.2.1.length∧(ey inT l s).2.2.2.1.length≤s.2.2.2.1.length+l.length∧(s.2.2.2.1≠[]→(ey inT l s).2.2.2.1≠[])∧∀x∈(ey inT l s).2.2.2.1,x∈s.2.2.2.1∨x < s.1+l.length:=by
 walk_at "a"
 induction l with
 | nil=>exact fun {s}=>⟨rfl,aB _,id,fun x h=> .inl h⟩
 | cons c l ih=>
  intro s
  obtain⟨a1,a2,a3,_⟩:=Fo (inT:=inT) (c:=c) (s:=s)
  obtain⟨b1,b2⟩:=JB (inT:=inT) (c:=c) (s:=s)
  have i:=ih (s:=((m4 inT c s).1+1,(m4 inT c s).2))
  rw [show ey inT (c::l) s=bif aK c==0 then s else ey inT l ((m4 inT c s).1+1,(m4 inT c s).2) from rfl]
  cases aK c==0 with
  | true=>exact⟨rfl,av _ _,id,fun x h=> .inl h⟩
  | false=>
   refine⟨i.1.trans a2,a8 i.2.1 (a8 (aQ a3 _) (ae (by rw [aM,bz,bq]))),fun h=>i.2.2.1 (b1 h),fun x h=>?_⟩
   rcases i.2.2.2 x h with h | h
   · rcases b2 x h with h | h
     · exact .inl h
     · rw [h]
       exact .inr (Nat.lt_add_of_pos_right (d9 _))
   · refine .inr (az h ?_)
     show(m4 inT c s).1+1+l.length=_
     rw [a1,aM,bq,bI 1]
 walk_at "z"
structure Iy (codes:List Int) (a:Nat) (M:(List E4×List Nat×Nat)×List Bool):Prop where
 gl:M.2.length=codes.length
 ne:M.1.2.1≠[]
 mem:∀x∈M.1.2.1,x < codes.length
 lt:a < M.1.2.2
 le:M.1.2.2≤codes.length
 pl:M.1.2.1.length≤2*codes.length+1
theorem t0 {l:List Bool}:∀{i m x:Nat},x∈gV l i m→i≤x:=by
 walk_at "a"
 induction l with
 | nil=>intro i m x h;cases h
 | cons b r ih=>
  intro i m x h
  cases m with
  | zero=>cases h
  | succ m=>
   cases b with
   | true=>exact bF (ih (show x∈gV r (i+1) (m+1) from h))
   | false=>
    rcases aS.mp (show x∈i::gV r (i+1) m from h) with e | h
    · exact ae e.symm
    · exact bF (ih h)
 walk_at "z"
theorem qE {tb:ew} {codes:List Int} {live:List Nat} {k:Nat}:iF tb codes live k≤k:=by
 induction k with
 | zero=>exact aB 0
 | succ k ih=>
  show(bif K9 tb codes live (k+1) then iF tb codes live k else k+1)≤k+1
  cases K9 tb codes live (k+1) with
  | true=>exact bG ih
  | false=>exact aB _
theorem Aw {tb:ew} {lg:List (Int×Int)} {codes:List Int} {gs:List Bool} {a:Nat} (ha:a < codes.length) (hg:gs.length=codes.length):Iy codes a (bZ tb lg codes gs a):=by
 have le:=qE (tb:=tb) (codes:=codes) (live:=ba lg codes gs a) (k:=(ba lg codes gs a).length)
 unfold bZ
 cases e:iF tb codes (ba lg codes gs a) (ba lg codes gs a).length with
 | zero=>exact⟨hg,(nomatch ·),fun x h=>by rw [af.mp h];exact ha,aI a,ha,cM _ _⟩
 | succ i=>
  rw [e] at le
  have lm:∀x∈ba lg codes gs a,x < codes.length:=fun x hx=>az (oZ (ck (az ha hg.symm)) hx) hg
  have hi:=cB (d:=0) le
  have ok:=uz (inT:=dB tb) (l:=codes.drop ((ba lg codes gs a).getD i 0+1)) (s:=((ba lg codes gs a).getD i 0+1,i8 codes ((ba lg codes gs a).take i++[(ba lg codes gs a).getD i 0]),gs,(ba lg codes gs a).take i++[(ba lg codes gs a).getD i 0],0))
  rw [←je le] at ok
  refine⟨?_,?_,?_,?_,lm _ hi,?_⟩
  · show(d6 tb codes gs (ba lg codes gs a) i).2.2.1.length=_
    unfold d6 jc
    rw [←je le]
    exact ok.1.trans hg
  · show(d6 tb codes gs (ba lg codes gs a) i).2.2.2.1≠[]
    unfold d6 jc
    rw [←je le]
    exact ok.2.2.1 fun z=>by rw [je le] at z;exact rL z
  · show∀x∈(d6 tb codes gs (ba lg codes gs a) i).2.2.2.1,x < codes.length
    unfold d6 jc
    rw [←je le]
    intro x hx
    rcases ok.2.2.2 x hx with h | h
    · exact lm x (i5 h)
    · rw [aT] at h
      exact az h (Nat.add_sub_cancel' (lm _ hi))
  · show a < (ba lg codes gs a).getD i 0+1
    exact f0 (t0 hi)
  · show(d6 tb codes gs (ba lg codes gs a) i).2.2.2.1.length≤_
    unfold d6 jc
    rw [←je le]
    refine a8 ok.2.1 (a8 (aU (a8 (ae (c8 ..)) (a8 (bx _ _) (a8 m5 (ae hg)))) (a8 (ae (aT ..)) (eJ _ _))) ?_)
    rw [←Nat.two_mul]
    exact d5 _
abbrev L3:=List E4×Int×Int
noncomputable def Ar (r:L3):T:= .tup [iN r.1, .int r.2.1, .int r.2.2]
noncomputable def Dp (M:(List E4×List Nat×Nat)×List Bool) (og:Nat→Int):L3:=(M.1.1,Hl (M.1.2.1.map og),Hk (M.1.2.1.map og)+1)
noncomputable def iB (tb:ew) (lg:List (Int×Int)) (codes:List Int) (og:Nat→Int) (f:Nat):List Bool→Nat→List L3:=Nat.rec (motive:=fun _=>List Bool→Nat→List L3) (fun _ _=>[]) (fun _ ih gs a=>bif bf a codes.length then(bif gs.getD a true then ih gs (a+1) else Dp (bZ tb lg codes gs a) og::ih (bZ tb lg codes gs a).2 (bZ tb lg codes gs a).1.2.2) else []) f
noncomputable def JK (rows:List (Int×Int)) (i:Nat):Int:=(rows.getD i (0,0)).2
noncomputable def rq (tb:ew) (lg:List (Int×Int)) (t:List Int):List L3:=iB tb lg ((pK t).map (·.1)) (JK (pK t)) (pK t).length (br (pK t).length false) 0
abbrev LS:=Nat×Nat×List Bool×List L3
structure C2 (tb:ew) (lg:List (Int×Int)) (codes:List Int) (og:Nat→Int) (R:List L3) (s:LS):Prop where
 le:s.1≤codes.length
 fl:codes.length - s.1≤s.2.1
 gl:s.2.2.1.length=codes.length
 lf:s.2.2.2.length≤s.1
 eq:s.2.2.2++iB tb lg codes og s.2.1 s.2.2.1 s.1=R
theorem qo {n a f:Nat} (h:a < n) (q:n - a≤f):∃g,f=g+1:=by
 cases f with
 | zero=>exact absurd (Nat.le_zero.mp q) (Nat.ne_of_gt (Nat.sub_pos_of_lt h))
 | succ g=>exact⟨g,rfl⟩
theorem vN {n a b f:Nat} (h:a < b) (k:b≤n) (q:n - a≤f+1):n - b≤f:=cX (aq (cZ (aq h k) h) q)
section
variable {tb:ew} {lg:List (Int×Int)} {codes:List Int} {og:Nat→Int} {R:List L3} {s:LS}
theorem C2.skip (h:C2 tb lg codes og R s) (q:s.1 < codes.length) (r:s.2.2.1.getD s.1 true=true):∃f,C2 tb lg codes og R (s.1+1,f,s.2.2):=by
 obtain⟨f,e⟩:=qo q h.fl
 have z:=h.eq
 have w:=h.fl
 rw [e] at z w
 have z:=(congrArg (s.2.2.2++ ·) ((cH (dq.mpr q)).trans (cH r)).symm).trans z
 exact⟨f,q,vN (aI _) q w,h.gl,bG h.lf,z⟩
theorem C2.take (h:C2 tb lg codes og R s) (q:s.1 < codes.length) (r:s.2.2.1.getD s.1 true=false) (m:Iy codes s.1 (bZ tb lg codes s.2.2.1 s.1)):∃f,C2 tb lg codes og R ((bZ tb lg codes s.2.2.1 s.1).1.2.2,f,(bZ tb lg codes s.2.2.1 s.1).2,s.2.2.2++[Dp (bZ tb lg codes s.2.2.1 s.1) og]):=by
 walk_at "a"
 obtain⟨f,e⟩:=qo q h.fl
 have z:=h.eq
 have w:=h.fl
 rw [e] at z w
 have z:=(congrArg (s.2.2.2++ ·) ((cH (dq.mpr q)).trans (bS r)).symm).trans z
 exact⟨f,m.le,vN m.lt m.le w,m.gl,a8 (ae (cg ..)) (aR h.lf m.lt),(au ..).trans z⟩
 walk_at "z"
theorem C2.fin (h:C2 tb lg codes og R s) (q: ¬s.1 < codes.length):s.2.2.2=R:=by
 walk_at "a"
 rw [←h.eq]
 cases s.2.1 with
 | zero=>exact(aw _).symm
 | succ f=>
  rw [show iB tb lg codes og (f+1) s.2.2.1 s.1=[] from bS (by cases e:bf s.1 codes.length with
   | false=>rfl
   | true=>exact absurd (dq.mp e) q),aw]
 walk_at "z"
end
theorem zO {k:Nat} {l:List Int}:∀{rows:List R3},(l.foldl (dH k) rows).length=rows.length+l.length:=by
 induction l with
 | nil=>exact rfl
 | cons x l ih=>intro rows;rw [bE,ih,lX,aM,bz,bq]
theorem yl {l:List (Int×Nat)}:∀{rows:List R3},(∀p∈l,Cd p.1)→(lQ l rows).length≤rows.length+2*l.length:=by
 induction l with
 | nil=>exact fun _=>aB _
 | cons p l ih=>
  intro rows h
  refine a8 (ih (rows:=(bB p.1).foldl (dH p.2) rows) fun q hq=>h q (.tail _ hq)) ?_
  rw [zO,aM,dR,bI (2*l.length),←bq]
  exact aQ (aL (fM (h p (.head _))).1 _) _
theorem zP {k:Nat} {l:List Int}:∀{rows:List R3} {x:R3},x∈l.foldl (dH k) rows→x∈rows∨x.1∈l:=by
 induction l with
 | nil=>exact fun h=> .inl h
 | cons y l ih=>
  intro rows x h
  rcases ih h with h | h
  · rcases aN.mp h with h | h
    · exact .inl (i5 h)
    · rcases aS.mp h with h | h
      · rw [h]
        exact .inr (.head _)
      · exact .inl (i4 h)
  · exact .inr (.tail _ h)
theorem ym {l:List (Int×Nat)}:∀{rows:List R3},(∀p∈l,Cd p.1)→(∀x∈rows,Cd x.1)→∀x∈lQ l rows,Cd x.1:=by
 induction l with
 | nil=>exact fun _ h=>h
 | cons p l ih=>
  intro rows h h2
  refine ih (rows:=(bB p.1).foldl (dH p.2) rows) (fun q hq=>h q (.tail _ hq)) fun x hx=>?_
  rcases zP hx with z | z
  · exact h2 x z
  · exact fT (h p (.head _)) _ z
theorem zl {t:List Int} (h:∀c∈t,Cd c) (h8:t.length≤8):(pK t).length≤16∧∀c∈(pK t).map (·.1),Cd c:=by
 have hz:∀p∈t.zipIdx,Cd p.1:=fun p hp=>h _ (iS hp)
 unfold pK
 refine⟨?_,fun c hc=>?_⟩
 · rw [a9]
   refine a8 (yl hz) ?_
   rw [bW,bo,iT]
   exact aJ 2 h8
 · rw [aO] at hc
   obtain⟨x,hx,e⟩:=aP.mp hc
   rw [←e]
   exact ym hz (fun x hx=>absurd hx cC) x hx
noncomputable def rLo (o t:T) (rows:List (Int×Int)) (a:Int):aF:=[some (.t o),some (.t t),some (.t co),some (.t (.lst (rows.map nW))),some (.ref 100),some (.ref 101),some (.ref 102),some (.t (.int a)),none,none,none,none,none,none]
noncomputable def Io (codes:List Int) (s:LS):Hp:=[(100, .list (codes.map .int)),(101, .list (bL s.2.2.1)),(102, .list (s.2.2.2.map Ar))]
theorem Lo (rows:List (Int×Int)):Io (rows.map (·.1)) (0,rows.length,br rows.length false,[])=[(100, .list (rows.map fun r=>T.int r.1)),(101, .list (br ((rows.map nW).length:Int).toNat (T.bool false))),(102, .list [])]:=by
 unfold Io bL
 rw [aO,List.map_replicate,aW,a9]
 rfl
theorem Jr (rows:List (Int×Int)) {gs:List Bool} {f:List L3} {x:L3} {a b:Nat}:Io (rows.map (·.1)) (a,b,gs,f++[x])=[(100, .list ((rows.map (·.1)).map .int)),(101, .list (bL gs)),(102, .list (f.map Ar++[Ar x]))]:=by
 unfold Io
 rw [ao]
 rfl
theorem Jz {C:Cx} {l:List Nat} {og:Nat→Int} (h:l≠[]):fj C (.builtin "min") [.lst (l.map fun i=> .int (og i))] (.t (.int (Hl (l.map og)))):=by
 have:=Jy (C:=C) (l:=l.map og) fun z=>h (mr.mp z)
 rwa [aO] at this
theorem Jx {C:Cx} {l:List Nat} {og:Nat→Int} (h:l≠[]):fj C (.builtin "max") [.lst (l.map fun i=> .int (og i))] (.t (.int (Hk (l.map og)))):=by
 have:=Jw (C:=C) (l:=l.map og) fun z=>h (mr.mp z)
 rwa [aO] at this
theorem yF {C:Cx} (F:de C) (LT:qO C) {tb:ew} {lg:List (Int×Int)} {t:List Int} (ht:∀c∈t,Cd c) (h8:t.length≤8) (hlg:∀c,((lg.lookup c).getD 0)≤900):
 dE C 17 (.ref 504) [il tb lg,iL t,co] (.t (.lst ((rq tb lg t).map Ar))):=by
 walk_at "a"
 have hcd:=nM F LT ht h8
 obtain⟨hrl,hrm⟩:=zl ht h8
 have hR:iB tb lg ((pK t).map (·.1)) (JK (pK t)) (pK t).length (br (pK t).length false) 0=rq tb lg t:=rfl
 generalize rq tb lg t=R at hR
 generalize pK t=rows at hcd hrl hrm hR
 have cz:(rows.map (·.1)).length≤16:=a8 (ae (a9 ..)) hrl
 have fc:fit ((rows.map (·.1)).map T.int).length=true:=aV cz rfl
 have fr:fit (rows.map nW).length=true:=aV hrl rfl
 refine bA F ["self","text","data"] rfl rfl rfl (fun _ _ _=>rfl) rfl ?_
 walk_at "k"
 refine bK hcd (by walk_at "r") ?_
 walk_at "k"
 refine aA fr ?_
 walk_at "k"
 refine lA (g:=fun r=> .int r.1) ?_ fun r _ K1 K0 h1=>?_
 · walk_at "k"
   refine aA fr ?_
   walk_at "k"
   refine⟨_,rr (eH (by decide) (bP _)) (d8.mpr (cI fr)),?_⟩
   walk_at "k"
   refine fh (σ:=LS) (fun s=>rLo (il tb lg) (iL t) rows (s.1:Int)) (Io (rows.map (·.1))) (Io (rows.map (·.1))) [true,true,true,true,true,true,true,true,false,false,false,false,false,false] (C2 tb lg (rows.map (·.1)) (JK rows) R) (fun s=>(rows.map (·.1)).length - s.1) (fun s=>decide ((s.1:Int) < ((rows.map (·.1)).map T.int).length)) (0,rows.length,br rows.length false,[]) ⟨bl _,a8 (eJ _ _) (ae (a9 ..)),(gQ ..).trans (a9 ..).symm,aB _,hR⟩ ?_ ?_ ?_ ?_
   · walk_at "k"
     exact⟨rfl,Lo rows⟩
   · intro s hi K h
     walk_at "k"
     refine aA fc ?_
     walk_at "k"
     exact h
   · intro s hi hg Qt hQ
     have hj:=az (bn.mp (of_decide_eq_true hg)) (a9 ..)
     have hr:oS (s.1:Int)=true:=cy (aq hj (a8 cz (by decide)))
     walk_at "k"
     refine aA hr ?_
     walk_at "k"
     refine jr (IP (d:=true) (az hj hi.gl.symm)) (by walk_at "r") ?_
     walk_at "k"
     refine cn (fun q=>?_) fun q=>?_
     · obtain⟨f,hn⟩:=hi.skip hj q
       walk_at "k"
       refine hQ.nx _ ⟨hn,cZ hj (aI _)⟩ _ _ ?_
       walk_at "k"
       exact⟨rfl,rfl⟩
     have hm:=EC F (tb:=tb) (lg:=lg) hrm (a8 cz (by decide)) hi.gl hj hlg
     have ok:=Aw (tb:=tb) (lg:=lg) hj hi.gl
     obtain⟨f,hn⟩:=hi.take hj q ok
     generalize bZ tb lg (rows.map (·.1)) s.2.2.1 s.1=M at hm ok hn
     walk_at "k"
     refine im hm (by walk_at "r") (by walk_at "r") ?_
     walk_at "k"
     refine aA (aV (a8 ok.pl (aH (aJ 2 cz))) rfl) ?_
     walk_at "k"
     refine lA (f:=fun(i:Nat)=> .int (i:Int)) (g:=fun i=> .int (JK rows i)) ?_ fun i hx K1 K0 h1=>?_
     · walk_at "k"
       refine⟨_,Jz ok.ne,?_⟩
       walk_at "k"
       refine⟨_,Jx ok.ne,?_⟩
       walk_at "k"
       refine aA (aV (a8 hi.lf (a8 hi.le cz)) rfl) ?_
       walk_at "k"
       refine hQ.nx _ ⟨hn,cZ hj ok.lt⟩ _ _ ?_
       walk_at "k"
       exact⟨rfl,Jr rows⟩
     · have hxl:=az (ok.mem i hx) (a9 ..)
       walk_at "k"
       refine aA (cy (aq hxl (a8 hrl (by decide)))) ?_
       walk_at "k"
       refine bw (x:=nW (rows.getD i (0,0))) (eR hxl) ?_
       walk_at "k"
       exact h1
   · intro s hi hg
     have e:=hi.fin fun z=>by rw [decide_eq_true (bn.mpr (az z (a9 ..).symm))] at hg;cases hg
     walk_at "k"
     rw [e]
 · walk_at "k"
   exact h1
 walk_at "z"
noncomputable def sE (tb:ew) (lg:List (Int×Int)) (t:List Int):List E4:=(rq tb lg t).flatMap (·.1)
theorem Av {tb:ew} {lg:List (Int×Int)} {codes:List Int} {gs:List Bool} {a:Nat} (htb:∀k,((tb.lookup k).getD []).length≤10):(bZ tb lg codes gs a).1.1.length≤10:=by
 unfold bZ
 cases iF tb codes (ba lg codes gs a) (ba lg codes gs a).length with
 | zero=>exact al rfl
 | succ i=>exact htb _
theorem Aq {tb:ew} {lg:List (Int×Int)} {codes:List Int} {og:Nat→Int} (htb:∀k,((tb.lookup k).getD []).length≤10) {f:Nat}:∀{gs:List Bool} {a:Nat},(iB tb lg codes og f gs a).length≤f∧∀r∈iB tb lg codes og f gs a,r.1.length≤10:=by
 walk_at "a"
 induction f with
 | zero=>exact fun {_ _}=>⟨aB 0,fun r h=>absurd h cC⟩
 | succ f ih=>
  intro gs a
  rw [show iB tb lg codes og (f+1) gs a=bif bf a codes.length then(bif gs.getD a true then iB tb lg codes og f gs (a+1) else Dp (bZ tb lg codes gs a) og::iB tb lg codes og f (bZ tb lg codes gs a).2 (bZ tb lg codes gs a).1.2.2) else [] from rfl]
  cases bf a codes.length with
  | false=>exact⟨bl _,fun r h=>absurd h cC⟩
  | true=>
   cases gs.getD a true with
   | true=>exact⟨bG ih.1,ih.2⟩
   | false=>
    have i:=ih (gs:=(bZ tb lg codes gs a).2) (a:=(bZ tb lg codes gs a).1.2.2)
    refine⟨aH i.1,fun r hr=>?_⟩
    rcases aS.mp hr with e | hr
    · rw [e]
      exact Av htb
    · exact i.2 r hr
 walk_at "z"
structure EF (R l:List L3) (f:List E4):Prop where
 le:∀r∈l,r.1.length≤10
 len:f.length+10*l.length≤1000
 eq:f++l.flatMap (·.1)=R.flatMap (·.1)
theorem EF.put {R l:List L3} {f:List E4} {r:L3} (h:EF R (r::l) f):f.length+r.1.length≤1000∧EF R l (f++r.1):=by
 have n:=h.len
 rw [aM,dR,bI (10*l.length),←bq] at n
 have z:=a8 (aQ (aL (h.le r (.head _)) f.length) (10*l.length)) n
 exact⟨a8 (av _ _) z,fun x hx=>h.le x (.tail _ hx),by rw [ak];exact z,by rw [au];exact h.eq⟩
theorem EF.len0 {R:List L3} (h:EF R R []):(R.flatMap (·.1)).length≤1000:=by
 have key:∀{l:List L3} {f:List E4},EF R l f→(R.flatMap (·.1)).length≤1000:=fun {l}=>by
  induction l with
  | nil=>intro f h;rw [←h.eq];exact a8 (a8 (ae (by rw [hF,aw])) (av _ _)) h.len
  | cons r l ih=>exact fun h=>ih h.put.2
 exact key h
theorem mW {C:Cx} (F:de C) (LT:qO C) {tb:ew} {lg:List (Int×Int)} {t:List Int} (ht:∀c∈t,Cd c) (h8:t.length≤8) (hlg:∀c,((lg.lookup c).getD 0)≤900) (htb:∀k,((tb.lookup k).getD []).length≤10):
 dE C 19 (.ref 511) [il tb lg,iL t,co] (.t (iN (sE tb lg t)))∧(sE tb lg t).length≤10000:=by
 walk_at "a"
 have hok:=Aq (lg:=lg) (codes:=(pK t).map (·.1)) (og:=JK (pK t)) htb (f:=(pK t).length) (gs:=br (pK t).length false) (a:=0)
 have hi:EF (rq tb lg t) (rq tb lg t) []:=⟨hok.2,by rw [bW,bo];exact a8 (aJ 10 (a8 hok.1 (zl ht h8).1)) (by decide),rfl⟩
 refine⟨?_,a8 hi.len0 (by decide)⟩
 have hl:=yF F LT (tb:=tb) ht h8 hlg
 have hR:sE tb lg t=(rq tb lg t).flatMap (·.1):=rfl
 generalize rq tb lg t=R at hl hi hR
 have fR:fit (R.map Ar).length=true:=aV (a8 (a8 (Nat.le_mul_of_pos_left _ (by decide)) (cM _ _)) hi.len) rfl
 refine bA F ["self","text","data"] rfl rfl rfl (fun _ _ _=>rfl) rfl ?_
 walk_at "k"
 refine bK hl (by walk_at "r") ?_
 walk_at "k"
 refine fU (σ:=List E4) (fun f=>[some (.t (il tb lg)),some (.t (iL t)),some (.t co),some (.ref 100),none,none,none]) (fun f=>[(100, .list (f.map s8))]) (EF R) R [] hi ?_ ?_
 · rintro r l f hi Qt hQ
   have hj:=hi.put
   walk_at "k"
   refine aA (gE (a8 (ae (by rw [a9,a9])) (a8 hj.1 (by decide)))) ?_
   walk_at "k"
   refine hQ _ hj.2 _ _ ?_
   walk_at "k"
   exact⟨rfl,by rw [ao]⟩
 · intro f hi
   have e:=hi.eq
   rw [hF,aw] at e
   walk_at "k"
   rw [hR,←e]
   rfl
 walk_at "z"
def j9 (t:List Int):Prop:=(∀c∈t,Cd c)∧t.length≤8
theorem J2 {C:Cx} (F:de C) (LT:qO C) {tb:ew} {lg:List (Int×Int)} (hlg:∀c,((lg.lookup c).getD 0)≤900) (htb:∀k,((tb.lookup k).getD []).length≤10):pX C tb lg (sE tb lg) j9:=
 ⟨fun t ht=>(mW F LT ht.1 ht.2 hlg htb).1.le (by decide),fun t ht=>(mW F LT ht.1 ht.2 hlg htb).2,fun t ht=>ht⟩
noncomputable def fP:List (T×T):=[(.int 768, .int 230),(.int 769, .int 230),(.int 803, .int 220),(.int 807, .int 202)]
theorem jR {C:Cx} (F:de C):dE C 4 (.ref 647) [] (.t (.dct fP)):=by
 refine bA F [] rfl rfl rfl rfl rfl ?_
 walk_at "k"
 rfl
noncomputable def mw (x y:Int):Bool:=decide (aK x > aK y)&&decide (aK y > 0)
noncomputable def gF (c:Int) (L:List Int):List Int:=List.rec (motive:=fun _=>List Int) [c] (fun x r ih=>bif mw x c then x::ih else c::x::r) L
noncomputable def gr (l L:List Int):List Int:=l.foldl (fun L c=>gF c L) L
noncomputable def canon (t:List Int):List Int:=(gr (t.flatMap bB) []).reverse
theorem jM {x y:Int}:mw x y=true↔aK x > aK y∧aK y > 0:=by
 unfold mw
 rw [aa,decide_eq_true_iff,decide_eq_true_iff]
theorem rO {x y z:Int} (h:mw x y=true):mw y x=false:=by
 cases e:mw y x with
 | false=>rfl
 | true=>exact absurd (jM.mp h).1 (dp.mpr (kg (jM.mp e).1))
theorem re {x y:Int} (h:mw x y=true) (L:List Int):gF y (gF x L)=gF x (gF y L):=by
 have hxy:=jM.mp h
 have c1 {a:Int} {r:List Int} {b:Int} (q:mw a b=true):gF b (a::r)=a::gF b r:=cH q
 have c0 {a:Int} {r:List Int} {b:Int} (q:mw a b=false):gF b (a::r)=b::a::r:=bS q
 induction L with
 | nil=>exact(c1 h).trans (c0 (rO (z:=0) h)).symm
 | cons z L ih=>
  cases e1:mw z x with
  | true=>
   have e2:mw z y=true:=jM.mpr ⟨Int.lt_trans hxy.1 (jM.mp e1).1,hxy.2⟩
   rw [c1 e1,c1 e2,c1 e2,c1 e1,ih]
  | false=>
   rw [c0 e1,c1 h]
   cases e2:mw z y with
   | true=>rw [c1 e2,c0 e1]
   | false=>rw [c0 e2,c0 (rO (z:=0) h)]
theorem CF {x y:Int} (h:mw x y=true) (pre r L:List Int):gr (pre++y::x::r) L=gr (pre++x::y::r) L:=by
 unfold gr
 rw [ji,ji,bE,bE,bE,bE,re h]
def Kx (n:Nat) (l:List Int):Prop:=∀j,j < n→mw (l.getD j 0) (l.getD (j+1) 0)=false
theorem zh {r:List Int}:∀{x:Int} {L:List Int},Kx r.length (x::r)→gr r (x::L)=r.reverse++x::L:=by
 induction r with
 | nil=>exact fun _=>rfl
 | cons y r ih=>
  intro x L h
  rw [show gr (y::r) (x::L)=gr r (gF y (x::L)) from rfl,show gF y (x::L)=y::x::L from bS (h 0 (d9 _)),ih fun j hj=>h (j+1) (k8 hj),dN,au]
  rfl
theorem x6 {l:List Int} (h:Kx (l.length - 1) l):(gr l []).reverse=l:=by
 cases l with
 | nil=>rfl
 | cons x r=>rw [show gr (x::r) []=gr r [x] from rfl,zh h,←dN,dO]
noncomputable def vv (x:Int) (l:List Int):Nat:=l.countP (mw x)
noncomputable def inv (l:List Int):Nat:=List.rec (motive:=fun _=>Nat) 0 (fun x r ih=>vv x r+ih) l
theorem GN {x y:Int} (h:mw x y=true) (pre r:List Int):inv (pre++y::x::r)+1=inv (pre++x::y::r):=by
 induction pre with
 | nil=>
  show(vv y (x::r)+(vv x r+inv r))+1=vv x (y::r)+(vv y r+inv r)
  rw [show vv y (x::r)=vv y r from List.countP_cons_of_neg (by rw [rO (z:=0) h];exact cO),show vv x (y::r)=vv x r+1 from List.countP_cons_of_pos h,Nat.add_left_comm,bz (vv x r)]
 | cons p pre ih=>
  show vv p (pre++y::x::r)+inv (pre++y::x::r)+1=vv p (pre++x::y::r)+inv (pre++x::y::r)
  rw [bq,ih,show vv p (pre++y::x::r)=vv p (pre++x::y::r) from List.Perm.countP_eq _ (List.Perm.append_left pre (List.Perm.swap x y r))]
theorem L0 {l:List Int} {k:Nat} (h:k+1 < l.length):l=l.take k++l.getD k 0::l.getD (k+1) 0::l.drop (k+2)∧(l.set k (l.getD (k+1) 0)).set (k+1) (l.getD k 0)=l.take k++l.getD (k+1) 0::l.getD k 0::l.drop (k+2):=by
 walk_at "a"
 have a:=kx 0 (dQ h)
 have b:=kx (l:=l) 0 h
 rw [b] at a
 have e:l=l.take k++l.getD k 0::l.getD (k+1) 0::l.drop (k+2):=by rw [←a,eT]
 have n:(l.take k).length=k:=(c8 ..).trans (dr (ck (dQ h)))
 refine⟨e,?_⟩
 generalize l.getD k 0=x at e
 generalize l.getD (k+1) 0=y at e
 generalize l.take k=p at e n
 generalize l.drop (k+2)=r at e
 subst e;subst n
 rw [List.set_append_right _ _ (aB _),List.set_append_right _ _ (d5 _),Nat.sub_self,Nat.succ_eq_add_one,gq]
 rfl
 walk_at "z"
noncomputable def GA:List (T×T):=[(.int 224, .lst [.int 97, .int 768]),(.int 225, .lst [.int 97, .int 769])]
noncomputable def hPl (f:List Int):Hp:=[(103, .tdct GA),(102, .frz (.lst [.int 97, .int 769])),(101, .frz (.lst [.int 97, .int 768])),(100, .list (f.map .int))]
theorem vH {c:Int} (h:Cd c):∀R:Hp,jQ ((104, .list [.int c])::R) (an (motive:=fun _=>V) (eE GA (.int c)) (.ref 104) .t)=some (.lst ((bB c).map .int)):=fy (P:=fun c=>∀R:Hp,jQ ((104, .list [.int c])::R) (an (motive:=fun _=>V) (eE GA (.int c)) (.ref 104) .t)=some (.lst ((bB c).map .int))) ⟨fun _=>(by walk_at "r"),fun _=>(by walk_at "r"),fun _=>(by walk_at "r"),fun _=>(by walk_at "r"),fun _=>(by walk_at "r"),fun _=>(by walk_at "r"),fun _=>(by walk_at "r"),fun _=>(by walk_at "r"),fun _=>(by walk_at "r"),fun _=>(by walk_at "r"),fun _=>(by walk_at "r"),trivial⟩ h
structure Iz (t l f:List Int):Prop where
 cd:∀c∈l,Cd c
 len:f.length+2*l.length≤2000
 eq:f++l.flatMap bB=t.flatMap bB
theorem Iz.put {t l f:List Int} {c:Int} (h:Iz t (c::l) f):f.length+(bB c).length≤2000∧Iz t l (f++bB c):=by
 have n:=h.len
 rw [aM,dR,bI (2*l.length),←bq] at n
 have z:=a8 (aQ (aL (fM (h.cd c (.head _))).1 f.length) (2*l.length)) n
 exact⟨a8 (av _ _) z,fun x hx=>h.cd x (.tail _ hx),by rw [ak];exact z,by rw [au];exact h.eq⟩
noncomputable def LP (t:List Int) (d:Bool):aF:=[some (.t (iL t)),some (.ref 100),some (.t (.dct fP)),some (.t (.bool d)),none,none,none,none,none]
structure BuI (f:List Int) (s:List Int×Bool):Prop where
 cd:∀c∈s.1,Cd c
 len:s.1.length=f.length
 can:gr s.1 []=gr f []
 adj:s.2=true→Kx (s.1.length - 1) s.1
structure FI (g:List Int) (k:Nat) (s:List Int×Bool):Prop where
 cd:∀c∈s.1,Cd c
 len:s.1.length=g.length
 can:gr s.1 []=gr g []
 inv:inv s.1+(bif s.2 then 0 else 1)≤inv g
 adj:s.2=true→Kx k s.1
theorem FI.sw {g:List Int} {k:Nat} {s:List Int×Bool} (h:FI g k s) (hk:k+1 < s.1.length) (q:mw (s.1.getD k 0) (s.1.getD (k+1) 0)=true):FI g (k+1) ((s.1.set k (s.1.getD (k+1) 0)).set (k+1) (s.1.getD k 0),false):=by
 walk_at "a"
 obtain⟨e1,e2⟩:=L0 hk
 have a:=CF q (s.1.take k) (s.1.drop (k+2)) []
 have b:=GN q (s.1.take k) (s.1.drop (k+2))
 rw [←e1,←e2] at a b
 refine⟨fun c hc=>?_,?_,a.trans h.can,a8 (ae b) (a8 (av _ _) h.inv),(nomatch ·)⟩
 · rcases List.mem_or_eq_of_mem_set hc with hc | hc
   · rcases List.mem_or_eq_of_mem_set hc with hc | hc
     · exact h.cd c hc
     · rw [hc]
       exact h.cd _ (cB hk)
   · rw [hc]
     exact h.cd _ (cB (dQ hk))
 · exact(fY ..).trans ((fY ..).trans h.len)
 walk_at "z"
theorem FI.go {g:List Int} {k:Nat} {s:List Int×Bool} (h:FI g k s) (q:mw (s.1.getD k 0) (s.1.getD (k+1) 0)=false):FI g (k+1) s:=
 ⟨h.cd,h.len,h.can,h.inv,fun d j hj=>(cP (cX hj)).elim (h.adj d j) fun e=>by rw [e];exact q⟩
theorem vJ {σ:Type} {n:Nat} {body:aF→Hp→(Fl→aF→Hp→Prop)→Prop} {tg:Tg} {m:List Bool} {Q:Fl→aF→Hp→Prop} (r:σ→aF) (h:σ→Hp) (I:Nat→σ→Prop) (s0:σ) (i0:I 0 s0)
 (step:∀k s,k < n→I k s→∀Qt:Fl→aF→Hp→Prop,Ij r h m (I (k+1)) Q Qt→gv tg (.int (k:Int)) (r s) fun ρ1=>body ρ1 (h s) Qt) (fin:∀s,I n s→Q .next (r s) (h s)):kj body tg m Q (eO 0 n) (r s0) (h s0):=
 EX r h I s0 i0 (fun k s hk hi Qt hQ=>by rw [Int.zero_add];exact step k s hk hi Qt hQ) fin
theorem DY {c:Int} (h:Cd c):an (motive:=fun _=>V) (eE fP (.int c)) (.t (.int 0)) .t= .t (.int (aK c)):=fy (P:=fun c=>an (motive:=fun _=>V) (eE fP (.int c)) (.t (.int 0)) .t= .t (.int (aK c))) ⟨(by walk_at "r"),(by walk_at "r"),(by walk_at "r"),(by walk_at "r"),(by walk_at "r"),(by walk_at "r"),(by walk_at "r"),(by walk_at "r"),(by walk_at "r"),(by walk_at "r"),(by walk_at "r"),trivial⟩ h
theorem oD {c:Int} {H:Hp} (h:Cd c):jQ H (an (motive:=fun _=>V) (eE fP (.int c)) (.t (.int 0)) .t)=some (.int (aK c)):=congrArg (jQ H) (DY h)
theorem M5 {v:V} {d:T} {f:T→Prop} {g:Nat→Prop} {h:Addr→Nat→Prop} (e:v= .t d) (k:f d):V.rec (motive:=fun _=>Prop) f g h v:=by subst e;exact k
theorem Fy {ts:List T} {i:Nat} (h:i < ts.length) (q:fit ts.length=true):(decide (0≤(i:Int))&&decide ((i:Int) < ts.length)&&fit ts.length)=true:=
 aa.mpr ⟨aa.mpr ⟨decide_eq_true (bP i),decide_eq_true (bn.mpr h)⟩,q⟩
theorem LY {l:List Int} {i j:Nat} {a b:Int}:hI ((l.set i a).set j b)=[(100, .list (((l.map T.int).set i (.int a)).set j (.int b)))]:=by
 unfold hI
 rw [List.map_set,List.map_set]
theorem Fb {n:Nat} (h:n≤16777216):tJ ((n:Int) - 1)=true:=by
 cases n with
 | zero=>rfl
 | succ n=>
  rw [uR]
  exact bu (a8 (bF h) (by decide))
theorem uL (n:Nat):((n:Int) - 1).toNat=n - 1:=by
 cases n with
 | zero=>rfl
 | succ n=>rw [uR];rfl
theorem Fe {k n:Nat} (h:k < ((n:Int) - 1).toNat):k+1 < n:=by
 rw [uL] at h
 exact Nat.add_lt_of_lt_sub h
theorem pE {C:Cx} (F:de C) {t:List Int} (ht:∀c∈t,Cd c) (hz:t.length≤1000):dE C 6 (.ref 661) [iL t] (.lst ((canon t).map .int)):=by
 walk_at "a"
 refine bA F ["text"] rfl rfl rfl (fun _=>rfl) rfl ?_
 walk_at "k"
 refine bK (jR F) (by walk_at "r") ?_
 walk_at "k"
 refine fU (σ:=List Int) (fun _=>LP t false) hI (Iz t) t [] ⟨ht,by rw [bW,bo];exact aJ 2 hz,rfl⟩ ?_ ?_
 · rintro c l f hi Qt hQ
   walk_at "k"
   refine⟨.int,(by walk_at "r"),rfl,?_⟩
   have hj:=hi.put
   walk_at "k"
   refine jr (vH (hi.cd c (.head _)) (hPl f)) (by walk_at "r") ?_
   walk_at "k"
   refine⟨_,fS (a8 (ae (by rw [a9,a9])) (a8 hj.1 (by decide))),?_⟩
   walk_at "k"
   refine hQ _ hj.2 _ _ ?_
   walk_at "k"
   exact⟨rfl,zk⟩
 · intro f hi
   have e:=hi.eq
   rw [hF,aw] at e
   have hf:=hi.len
   have hcd:∀c∈f,Cd c:=fun c hc=>by
    rw [e] at hc
    obtain⟨d,hd,hc⟩:=aG.mp hc
    exact fT (ht d hd) c hc
   rw [show canon t=(gr f []).reverse by rw [e];rfl]
   walk_at "k"
   refine fh (σ:=List Int×Bool) (fun s=>LP t s.2) (fun s=>hI s.1) (fun s=>hI s.1) [true,true,true,true,false,false,false,false,false] (BuI f) (fun s=>inv s.1+bif s.2 then 0 else 1) (fun s=> !s.2) (f,false) ⟨hcd,rfl,rfl,(nomatch ·)⟩ ?_ ?_ ?_ ?_
   · walk_at "k"
     exact⟨rfl,rfl⟩
   · intro s hi K h
     walk_at "k"
     exact h
   · intro s hi hg Qt hQ
     have fl:fit (s.1.map T.int).length=true:=aV (a8 (ae hi.len) hf) rfl
     walk_at "k"
     refine aA fl ?_
     walk_at "k"
     refine aA (Fb (cI fl)) ?_
     walk_at "k"
     refine vJ (σ:=List Int×Bool) (fun x=>LP t x.2) (fun x=>hI x.1) (FI s.1) (s.1,true) ⟨hi.cd,rfl,rfl,aB _,fun _ j h=>absurd h (iv j)⟩ ?_ ?_
     · intro j x hj hw Qt hQ
       have h1:=az (az (Fe hj) (a9 ..)) hw.len.symm
       have h0:=dQ h1
       have fx:fit (x.1.map T.int).length=true:=aV (a8 (ae (hw.len.trans hi.len)) hf) rfl
       have r1:oS ((j+1:Nat):Int)=true:=cy (aq h1 (a8 (ae (hw.len.trans hi.len)) (a8 hf (by decide))))
       have r0:oS (j:Int)=true:=cy (aq h0 (a8 (ae (hw.len.trans hi.len)) (a8 hf (by decide))))
       have a0:(x.1.map T.int)[(j:Int).toNat]? =some (.int (x.1.getD j 0)):=eR h0
       have a1:(x.1.map T.int)[((j+1:Nat):Int).toNat]? =some (.int (x.1.getD (j+1) 0)):=eR h1
       have v0:=hw.cd _ (cB (d:=0) h0)
       have v1:=hw.cd _ (cB (d:=0) h1)
       walk_at "i"
       refine IfW.cut (mw (x.1.getD j 0) (x.1.getD (j+1) 0)) (hI x.1) (fun K h=>?_) ?_
       · walk_at "k"
         refine aA r0 ?_
         walk_at "k"
         refine bw a0 ?_
         walk_at "k"
         refine⟨.int,(by walk_at "r"),rfl,?_⟩
         walk_at "k"
         refine aA r1 ?_
         walk_at "k"
         refine jr a1 (by walk_at "r") ?_
         walk_at "k"
         refine⟨.int,(by walk_at "r"),rfl,?_⟩
         walk_at "k"
         refine bw (oD v0) ?_
         walk_at "k"
         refine M5 (DY v1) ?_
         walk_at "k"
         refine cn (fun q=>?_) fun q=>?_
         · walk_at "k"
           refine bw (oD v1) ?_
           walk_at "k"
           exact sd h (show(decide (aK _ > aK _)&&decide (aK _ > 0))=_ by rw [show decide (aK (x.1.getD j 0) > aK (x.1.getD (j+1) 0))=true from q];rfl)
         · walk_at "k"
           exact sd h (show(decide (aK _ > aK _)&&decide (aK _ > 0))=_ by rw [show decide (aK (x.1.getD j 0) > aK (x.1.getD (j+1) 0))=false from q];rfl)
       walk_at "k"
       refine cn (fun q=>?_) fun q=>?_
       · walk_at "k"
         refine aA r1 ?_
         walk_at "k"
         refine jr a1 (by walk_at "r") ?_
         walk_at "k"
         refine aA r0 ?_
         walk_at "k"
         refine bw a0 ?_
         walk_at "k"
         refine aA (Fy (az h0 (a9 ..).symm) fx) ?_
         walk_at "k"
         refine IS (Fy (i:=j+1) (ts:=(x.1.map T.int).set j (.int (x.1.getD (j+1) 0))) (az h1 ((fY ..).trans (a9 ..)).symm) (by rw [fY];exact fx)) (by walk_at "r") ?_
         walk_at "k"
         refine hQ.nx _ (hw.sw h1 q) _ _ ?_
         walk_at "k"
         exact⟨rfl,LY⟩
       · walk_at "k"
         refine hQ.nx x (hw.go q) _ _ ?_
         walk_at "k"
         exact⟨rfl,rfl⟩
     · intro x hw
       refine hQ.nx x ⟨⟨hw.cd,hw.len.trans hi.len,hw.can.trans hi.can,fun d=>by rw [hw.len,←a9 (f:=T.int),←uL];exact hw.adj d⟩,aR hw.inv (by rw [Ho hg];exact aI _)⟩ _ _ ?_
       walk_at "k"
       exact⟨rfl,rfl⟩
   · intro s hi hg
     have e:=x6 (hi.adj (AB hg))
     walk_at "k"
     rw [←hi.can,e]
     exact⟨100,rfl,rfl⟩
 walk_at "z"
theorem dE.tree {C:Cx} {n:Nat} {f:Value} {ds ts:List T} (h:dE C n f ds (.lst ts)):dE C n f ds (.t (.lst ts)):=by
 walk_at "a"
 exact dZ.imp h fun v H q=>by
  obtain⟨k,e,hk⟩:=q
  subst e
  show an (motive:=fun _=>Prop) (H.lookup k) _ _
  rw [hk]
  rfl
 walk_at "z"
noncomputable def oA (c:Int):Int:=bif decide (19968≤c)&&decide (c≤40959) then 64320 else bif decide (13312≤c)&&decide (c≤19903) then 64384 else 64448
noncomputable def JW (b c:Int):List E4:=[(b+c.fdiv 32768,32,2,false),(32768+c.fmod 32768,0,0,false)]
theorem DV {c:Int} (h:Cd c):JW (oA c) c=jF c:=fy (P:=fun c=>JW (oA c) c=jF c) ⟨(by walk_at "r"),(by walk_at "r"),(by walk_at "r"),(by walk_at "r"),(by walk_at "r"),(by walk_at "r"),(by walk_at "r"),(by walk_at "r"),(by walk_at "r"),(by walk_at "r"),(by walk_at "r"),trivial⟩ h
theorem vh {C:Cx} (F:de C) {c:Int} (h:Cd c):dE C 5 (.ref 668) [.int c] (.t (iN (jF c))):=by
 walk_at "a"
 rw [←DV h]
 refine bA F ["code"] rfl rfl rfl (fun _=>rfl) rfl ?_
 walk_at "s"
 refine StW.cut [some (.t (.int c)),some (.t (.int (oA c)))] [] (fun Q' h=>?_) ?_
 · have e:oA c=bif decide (19968≤c)&&decide (c≤40959) then 64320 else bif decide (13312≤c)&&decide (c≤19903) then 64384 else 64448:=rfl
   rw [e] at h
   walk_at "k"
   refine cn (fun q=>?_) fun q=>?_
   · rw [q] at h
     walk_at "k"
     refine cn (fun q2=>?_) fun q2=>?_
     · rw [q2] at h
       walk_at "k"
       exact h
     rw [q2] at h
     walk_at "k"
     refine cn (fun q3=>?_) fun q3=>?_
     · rw [q3] at h
       walk_at "k"
       refine cn (fun q4=>?_) fun q4=>?_
       · rw [q4] at h
         walk_at "k"
         exact h
       · rw [q4] at h
         walk_at "k"
         exact h
     · rw [q3] at h
       walk_at "k"
       exact h
   rw [q] at h
   walk_at "k"
   refine cn (fun q3=>?_) fun q3=>?_
   · rw [q3] at h
     walk_at "k"
     refine cn (fun q4=>?_) fun q4=>?_
     · rw [q4] at h
       walk_at "k"
       exact h
     · rw [q4] at h
       walk_at "k"
       exact h
   · rw [q3] at h
     walk_at "k"
     exact h
 walk_at "k"
 rfl
 walk_at "z"
noncomputable def yp (inT:List Int→Bool) (c:Int) (row st:List Int):Bool:=decide ((st.filter fun d=>decide (aK d≥aK c))=[])&&inT (row++[c])
abbrev S3:=List Int×List Int×List Int
noncomputable def fG (inT:List Int→Bool) (r:List Int):List Int→List Int→S3:=List.rec (motive:=fun _=>List Int→List Int→S3) (fun row st=>(row,st,[])) (fun c r ih row st=>bif decide (0 < aK c) then(bif yp inT c row st then ih (row++[c]) st else ih row (st++[c])) else(row,st,c::r)) r
noncomputable def dh (tb:ew) (L:List Int):List Nat:=(bH L.length).filter fun i=>dB tb (L.take (i+1))
noncomputable def kf (tb:ew) (L:List Int) (i:Nat):S3:=fG (dB tb) (L.drop (i+1)) (L.take (i+1)) []
noncomputable def bQ (tb:ew) (f:Nat):List Int→List E4:=Nat.rec (motive:=fun _=>List Int→List E4) (fun _=>[]) (fun _ ih L=>ay (motive:=fun _=>List E4) L [] fun c l=>an (motive:=fun _=>List E4) (dh tb (c::l)).getLast? (jF c++ih l) fun i=>(tb.lookup (kf tb (c::l) i).1).getD []++ih ((kf tb (c::l) i).2.1++(kf tb (c::l) i).2.2)) f
noncomputable def eX (tb:ew) (t:List Int):List E4:=bQ tb (canon t).length (canon t)
section
variable {inT:List Int→Bool}
theorem nH {c:Int} {r row st:List Int}:fG inT (c::r) row st=bif decide (0 < aK c) then(bif yp inT c row st then fG inT r (row++[c]) st else fG inT r row (st++[c])) else(row,st,c::r):=rfl
theorem oE {r:List Int}:∀{row st:List Int},(fG inT r row st).2.1.length+(fG inT r row st).2.2.length≤st.length+r.length∧(inT row=true→inT (fG inT r row st).1=true)∧∀x,x∈(fG inT r row st).2.1∨x∈(fG inT r row st).2.2→x∈st∨x∈r:=by
 walk_at "a"
 induction r with
 | nil=>exact fun {_ _}=>⟨aB _,id,fun x h=>h⟩
 | cons c r ih=>
  intro row st
  rw [nH]
  cases decide (0 < aK c) with
  | false=>exact⟨aB _,id,fun x h=>h⟩
  | true=>
   cases q:yp inT c row st with
   | true=>
    have i:=ih (row:=row++[c]) (st:=st)
    exact⟨bG i.1,fun _=>i.2.1 (aa.mp q).2,fun x h=>(i.2.2 x h).imp id (.tail _)⟩
   | false=>
    have i:=ih (row:=row) (st:=st++[c])
    refine⟨a8 i.1 (ae ?_),i.2.1,fun x h=>?_⟩
    · rw [cg,aM,bz,bq]
    · rcases i.2.2 x h with h | h
      · exact(aN.mp h).imp id fun h=>by rw [af.mp h];exact .head _
      · exact .inr (.tail _ h)
 walk_at "z"
end
structure yY (inT:List Int→Bool) (rest:List Int) (M:S3) (s:Nat×List Int×List Int):Prop where
 le:s.1≤rest.length
 st:∀d∈s.2.2,Cd d∧0 < aK d
 sl:s.2.2.length≤s.1
 rl:s.2.1.length≤3000+s.1
 eq:fG inT (rest.drop s.1) s.2.1 s.2.2=M
section
variable {inT:List Int→Bool} {rest:List Int} {M:S3} {s:Nat×List Int×List Int}
theorem yY.at (h:yY inT rest M s) (q:s.1 < rest.length):(bif decide (0 < aK (rest.getD s.1 0)) then(bif yp inT (rest.getD s.1 0) s.2.1 s.2.2 then fG inT (rest.drop (s.1+1)) (s.2.1++[rest.getD s.1 0]) s.2.2 else fG inT (rest.drop (s.1+1)) s.2.1 (s.2.2++[rest.getD s.1 0])) else(s.2.1,s.2.2,rest.drop s.1))=M:=by
 have e:=h.eq
 rw [kx 0 q] at e
 rw [kx 0 q]
 exact e
theorem yY.row (h:yY inT rest M s) (q:s.1 < rest.length) (k:decide (0 < aK (rest.getD s.1 0))=true) (g:yp inT (rest.getD s.1 0) s.2.1 s.2.2=true):yY inT rest M (s.1+1,s.2.1++[rest.getD s.1 0],s.2.2):=
 ⟨q,h.st,bG h.sl,a8 (ae (cg ..)) (aH h.rl),((cH k).trans (cH g)).symm.trans (h.at q)⟩
theorem yY.stay (h:yY inT rest M s) (q:s.1 < rest.length) (k:decide (0 < aK (rest.getD s.1 0))=true) (c:Cd (rest.getD s.1 0)) (g:yp inT (rest.getD s.1 0) s.2.1 s.2.2=false):yY inT rest M (s.1+1,s.2.1,s.2.2++[rest.getD s.1 0]):=
 ⟨q,fun d hd=>(aN.mp hd).elim (h.st d) fun hd=>by rw [af.mp hd];exact⟨c,of_decide_eq_true k⟩,a8 (ae (cg ..)) (aH h.sl),bG h.rl,((cH k).trans (bS g)).symm.trans (h.at q)⟩
theorem yY.fin (h:yY inT rest M s) (q:(bf s.1 rest.length&&decide (0 < aK (rest.getD s.1 0)))=false):M=(s.2.1,s.2.2,rest.drop s.1):=by
 walk_at "a"
 cases e:bf s.1 rest.length with
 | true=>
  rw [e] at q
  exact(h.at (dq.mp e)).symm.trans (bS q)
 | false=>
  have z:=h.eq
  rw [bO (bU.mp fun x=>by rw [dq.mpr x] at e;cases e)] at z ⊢
  exact z.symm
 walk_at "z"
end
theorem xB (c:Int) (L:List Int):(gF c L).Perm (c::L):=by
 induction L with
 | nil=>exact .refl _
 | cons x L ih=>
  show(bif mw x c then x::gF c L else c::x::L).Perm _
  cases mw x c with
  | true=>exact(ih.cons x).trans (.swap c x L)
  | false=>exact .refl _
theorem x7 {l:List Int}:∀{L:List Int},(gr l L).Perm (l++L):=by
 induction l with
 | nil=>exact fun {_}=> .refl _
 | cons c l ih=>exact fun {L}=>(ih (L:=gF c L)).trans (((xB c L).append_left l).trans List.perm_middle)
theorem oK (t:List Int):(canon t).Perm (t.flatMap bB):=(List.reverse_perm _).trans (x7.trans (.of_eq (aw _)))
theorem oJ {t:List Int} (h:∀c∈t,Cd c):∀c∈canon t,Cd c:=fun c hc=>by
 obtain⟨d,hd,hc⟩:=aG.mp ((oK t).mem_iff.mp hc)
 exact fT (h d hd) c hc
theorem q8 {t:List Int} (h:∀c∈t,Cd c):(canon t).length≤2*t.length:=a8 (ae (oK t).length_eq) (ge h).2
structure FK (tb:ew) (n:Nat) (R:List E4) (s:Nat×List Int×List E4):Prop where
 cd:∀c∈s.2.1,Cd c
 ll:s.2.1.length≤n
 fl:s.2.1.length≤s.1
 len:s.2.2.length+12*s.2.1.length≤12*n
 eq:s.2.2++bQ tb s.1 s.2.1=R
noncomputable def rLe (t o:T):aF:=[some (.t t),some (.t o),some (.ref 100),some (.t (.dct fP)),some (.ref 101),none,none,none,none,none,none,none,none,none,none,none,none]
noncomputable def D0 (l:List Int) (f:List E4):Hp:=[(100, .list (l.map .int)),(101, .list (f.map s8))]
noncomputable def LK (t o:T):aF:=[some (.t t),some (.t o),some (.ref 100),some (.t (.dct fP)),some (.ref 101),some (.ref 103),none,none,none,none,none,none,none,none,none,none,none]
noncomputable def GC (l:List Int) (f:List E4) (z:List Int):Hp:=(103, .list (z.map .int))::(102, .list [])::D0 l f
noncomputable def uT (S:List Nat):List Int:=S.map fun(i:Nat)=>1+(i:Int)
noncomputable def HI (tb:ew) (L:List Int) (i:Nat):Option T:=bif dB tb (L.take (i+1)) then some (.int (1+(i:Int))) else none
theorem Lu (n:Nat):((n:Int)+1 - 1).toNat=n:=by rw [g8,aW]
theorem E8 {tb:ew} {L:List Int}:(bH (((L.map T.int).length:Int)+1 - 1).toNat).filterMap (HI tb L)=(uT (dh tb L)).map .int:=by
 walk_at "a"
 rw [Lu,a9]
 unfold dh uT
 generalize bH L.length=R
 induction R with
 | nil=>rfl
 | cons i R ih=>
  unfold HI at*
  rw [cE,bN,ih]
  cases dB tb (L.take (i+1)) <;> rfl
 walk_at "z"
theorem HJ {L:List Int} {i:Nat} (h:i∈bH (((L.map T.int).length:Int)+1 - 1).toNat):i+1≤L.length:=by
 rw [Lu,a9] at h
 exact dF.mp h
theorem J6 {n:Nat} (h:n≤16777216):(tJ 1&&tJ ((n:Int)+1))=true:=bu (a8 (aH h) (by decide))
theorem DZ {n:Nat} (h:n≤16777216):fit (eO 1 ((n:Int)+1 - 1).toNat).length=true:=by
 unfold eO
 rw [Lu,a9,cW]
 exact bu h
theorem uJ {l:List Int} {i:Nat} (h:i+1≤l.length):cJ (l.map .int) none (some (1+(i:Int)))=(l.take (i+1)).map .int:=by
 have e:kms_hi (some (1+(i:Int))) (l.map T.int).length=i+1:=by
  show(if(1+(i:Int)) < 0 then(l.map T.int).length - (-(1+(i:Int))).toNat else min (1+(i:Int)).toNat (l.map T.int).length)=i+1
  rw [if_neg (dp.mpr (Int.add_nonneg (by decide) (bP i))),Int.add_comm,show((i:Int)+1).toNat=i+1 from rfl]
  exact dr (a8 h (ae (a9 ..).symm))
 unfold cJ
 rw [e,fQ]
 rfl
theorem Hw {l:List Int} {i:Nat} (h:i+1≤l.length):kT (l.take (i+1))= .tup (cJ (l.map .int) none (some (1+(i:Int)))):=by rw [uJ h];rfl
theorem DL {l:List Int} {i:Nat} (h:i+1≤l.length) (q:fit (l.map T.int).length=true):fit (cJ (l.map .int) none (some (1+(i:Int)))).length=true:=by
 rw [uJ h]
 exact gE (a8 (ae ((a9 ..).trans (c8 ..))) (a8 (bx _ _) (a8 (ae (a9 ..).symm) (cI q))))
theorem Aj {f g:List E4} {n m:Nat} (h:(f++g).length+n≤m) (q:m≤16777216):fit ((f.map s8).length+(g.map s8).length)=true:=gE (by rw [a9,a9,←ak];exact a8 (av _ _) (a8 h q))
theorem FK.none {tb:ew} {n:Nat} {R:List E4} {s:Nat×List Int×List E4} {c:Int} {l:List Int} (h:FK tb n R s) (e:s.2.1=c::l) (q:(dh tb s.2.1).getLast? =none):∃f,FK tb n R (f,l,s.2.2++jF c):=by
 walk_at "a"
 obtain⟨g,L,f⟩:=s
 obtain rfl:L=c::l:=e
 cases g with
 | zero=>exact absurd h.fl (Nat.not_succ_le_zero _)
 | succ g=>
  have e:=h.eq
  rw [show bQ tb (g+1) (c::l)=an (motive:=fun _=>List E4) (dh tb (c::l)).getLast? (jF c++bQ tb g l) fun i=>(tb.lookup (kf tb (c::l) i).1).getD []++bQ tb g ((kf tb (c::l) i).2.1++(kf tb (c::l) i).2.2) from rfl,q] at e
  have z:=h.len
  refine⟨g,fun x hx=>h.cd x (.tail _ hx),bF h.ll,gA h.fl,?_,(au ..).trans e⟩
  rw [ak]
  show f.length+2+12*l.length≤12*n
  exact a8 (ae (bq ..)) (a8 (aL (by rw [aM,dR,bI];exact aL (by decide) _) _) z)
 walk_at "z"
theorem HK {tb:ew} {L:List Int} {i:Nat} (h:i∈dh tb L):i+1≤L.length∧dB tb (L.take (i+1))=true:=⟨dF.mp (cp.mp h).1,(cp.mp h).2⟩
theorem kK {α:Type} {f:α→T} {l:List α} {j:Nat} (h:j≤l.length):cJ (l.map f) (some (j:Int)) none=(l.drop j).map f:=by
 have e:kms_lo (some (j:Int)) (l.map f).length=j:=by
  show(if(j:Int) < 0 then(l.map f).length - (-(j:Int)).toNat else min (j:Int).toNat (l.map f).length)=j
  rw [if_neg (dp.mpr (bP j)),aW]
  exact dr (a8 h (ae (a9 ..).symm))
 unfold cJ
 rw [e,List.map_drop]
 exact dz (ae (aT ..))
theorem AN {l:List Int} {i:Nat} (h:i+1≤l.length):cJ (l.map .int) (some (1+(i:Int))) none=(l.drop (i+1)).map .int:=by
 rw [Int.add_comm]
 exact kK h
theorem Jn {L l:List Int} {c:Int} {f g:List E4} (e:L=c::l):D0 l (f++g)=[(100, .list (cJ (L.map .int) (some 1) none)),(101, .list (f.map s8++g.map s8))]:=by
 subst e
 rw [show(1:Int)=1+((0:Nat):Int) from rfl,AN (aH (bl _)),←ao]
 rfl
noncomputable def LL (t o:T):aF:=[some (.t t),some (.t o),some (.ref 100),some (.t (.dct fP)),some (.ref 101),some (.ref 103),some (.ref 105),some (.ref 106),some (.ref 107),some (.t (.int 0)),none,none,none,none,none,none,none]
noncomputable def rIn (t o:T) (j:Int):aF:=[some (.t t),some (.t o),some (.ref 100),some (.t (.dct fP)),some (.ref 101),some (.ref 102),some (.ref 103),some (.ref 104),some (.ref 105),some (.t (.int j)),none,none,none,none,none,none,none]
noncomputable def Im (l:List Int) (f:List E4) (z row rest st:List Int):Hp:=[(100, .list (l.map .int)),(101, .list (f.map s8)),(102, .list (z.map .int)),(103, .list (row.map .int)),(104, .list (rest.map .int)),(105, .list (st.map .int))]
theorem Fx {c:Int} (h:Cd c):(eE fP (.int c)).isSome=decide (0 < aK c):=fy (P:=fun c=>(eE fP (.int c)).isSome=decide (0 < aK c)) ⟨(by walk_at "r"),(by walk_at "r"),(by walk_at "r"),(by walk_at "r"),(by walk_at "r"),(by walk_at "r"),(by walk_at "r"),(by walk_at "r"),(by walk_at "r"),(by walk_at "r"),(by walk_at "r"),trivial⟩ h
theorem Fw {c:Int} (h:Cd c) (q:decide (0 < aK c)=true):eE fP (.int c)=some (.int (aK c)):=(fy (P:=fun c=>eE fP (.int c)=bif decide (0 < aK c) then some (.int (aK c)) else none) ⟨(by walk_at "r"),(by walk_at "r"),(by walk_at "r"),(by walk_at "r"),(by walk_at "r"),(by walk_at "r"),(by walk_at "r"),(by walk_at "r"),(by walk_at "r"),(by walk_at "r"),(by walk_at "r"),trivial⟩ h).trans (cH q)
theorem xm {p:Int→Bool} {l:List Int}:(l.filterMap fun d=>bif p d then some (T.int d) else none)=(l.filter p).map .int:=by
 walk_at "a"
 induction l with
 | nil=>rfl
 | cons x l ih=>
  rw [cE,bN,ih]
  cases p x <;> rfl
 walk_at "z"
theorem Gi {l:List Int} {c:T} (h:l.length≤10000):fit (l.map T.int++[c]).length=true:=by rw [ak];exact om h
theorem J9 {l:List Int} {f:List E4} {z row rest st:List Int} {c:Int}:Im l f z (row++[c]) rest st=[(100, .list (l.map .int)),(101, .list (f.map s8)),(102, .list (z.map .int)),(103, .list (row.map .int++[.int c])),(104, .list (rest.map .int)),(105, .list (st.map .int))]:=by
 unfold Im
 rw [ao]
 rfl
theorem Fc {l:List Int} {f:List E4} {z row rest st:List Int} {c:Int}:Im l f z row rest (st++[c])=[(100, .list (l.map .int)),(101, .list (f.map s8)),(102, .list (z.map .int)),(103, .list (row.map .int)),(104, .list (rest.map .int)),(105, .list (st.map .int++[.int c]))]:=by
 unfold Im
 rw [ao]
 rfl
theorem Jo {st rest:List Int} {j:Nat} {f g:List E4} (h:j≤rest.length):D0 (st++rest.drop j) (f++g)=[(100, .list (st.map .int++cJ (rest.map .int) (some (j:Int)) none)),(101, .list (f.map s8++g.map s8))]:=by
 rw [kK h]
 unfold D0
 rw [ao,ao]
theorem FK.some {tb:ew} {n:Nat} {R:List E4} {s:Nat×List Int×List E4} {c:Int} {l:List Int} {i:Nat} {x:Nat×List Int×List Int} {v:List E4} (h:FK tb n R s) (e:s.2.1=c::l) (q:(dh tb s.2.1).getLast? =some i) (m:kf tb s.2.1 i=(x.2.1,x.2.2,(s.2.1.drop (i+1)).drop x.1)) (hv:tb.lookup x.2.1=some v) (h10:((tb.lookup x.2.1).getD []).length≤10):
 ∃f,FK tb n R (f,x.2.2++(s.2.1.drop (i+1)).drop x.1,s.2.2++v)∧(x.2.2++(s.2.1.drop (i+1)).drop x.1).length < s.2.1.length:=by
 walk_at "a"
 obtain⟨g,L,f⟩:=s
 obtain rfl:L=c::l:=e
 cases g with
 | zero=>exact absurd h.fl (Nat.not_succ_le_zero _)
 | succ g=>
  have e:=h.eq
  rw [hv] at h10
  rw [show bQ tb (g+1) (c::l)=an (motive:=fun _=>List E4) (dh tb (c::l)).getLast? (jF c++bQ tb g l) fun i=>(tb.lookup (kf tb (c::l) i).1).getD []++bQ tb g ((kf tb (c::l) i).2.1++(kf tb (c::l) i).2.2) from rfl,q] at e
  have e:f++((tb.lookup (kf tb (c::l) i).1).getD []++bQ tb g ((kf tb (c::l) i).2.1++(kf tb (c::l) i).2.2))=R:=e
  have ok:=oE (inT:=dB tb) (r:=(c::l).drop (i+1)) (row:=(c::l).take (i+1)) (st:=[])
  rw [show fG (dB tb) ((c::l).drop (i+1)) ((c::l).take (i+1)) []=kf tb (c::l) i from rfl,m] at ok
  rw [m,hv] at e
  have z:=h.len
  have k:(x.2.2++((c::l).drop (i+1)).drop x.1).length≤l.length:=by
   rw [ak]
   refine a8 ok.1 ?_
   rw [bW,bo,List.drop_succ_cons,aT]
   exact eJ _ _
  refine⟨g,⟨fun d hd=>?_,a8 k (bF h.ll),a8 k (gA h.fl),?_,(au ..).trans e⟩,f0 k⟩
  · rcases ok.2.2 d (aN.mp hd) with w | w
    · exact absurd w cC
    · exact h.cd d (i4 w)
  · rw [ak]
    refine a8 ?_ z
    show f.length+v.length+12*(x.2.2++((c::l).drop (i+1)).drop x.1).length≤f.length+12*(l.length+1)
    rw [bq,dR,bI (12*l.length)]
    exact aL (aU (a8 h10 (by decide)) (aJ 12 k)) _
 walk_at "z"
theorem pU {C:Cx} (F:de C) {tb:ew} {t:List Int} (ht:∀c∈t,Cd c) (h8:t.length≤400) (htb:∀k,((tb.lookup k).getD []).length≤10):dE C 10 (.ref 673) [iL t,rP tb] (.t (iN (eX tb t))):=by
 walk_at "a"
 have hp:=pE F ht (a8 h8 (by decide))
 have hR:bQ tb (canon t).length (canon t)=eX tb t:=rfl
 generalize eX tb t=R at hR
 have hc:=oJ ht
 have hz:(canon t).length≤800:=a8 (q8 ht) (aJ 2 h8)
 generalize canon t=P at hp hR hc hz
 refine bA F ["text","table"] rfl rfl rfl (fun _ _=>rfl) rfl ?_
 walk_at "k"
 refine bK hp (by walk_at "r") ?_
 walk_at "k"
 refine bK (jR F) (by walk_at "r") ?_
 walk_at "k"
 refine fh (σ:=Nat×List Int×List E4) (fun _=>rLe (iL t) (rP tb)) (fun s=>D0 s.2.1 s.2.2) (fun s=>(102, .list [])::D0 s.2.1 s.2.2) [true,true,true,true,true,false,false,false,false,false,false,false,false,false,false,false,false] (FK tb P.length R) (fun s=>s.2.1.length) (fun s=> !decide (s.2.1=[])) (P.length,P,[]) ⟨hc,aB _,aB _,ae (bo _),hR⟩ ?_ ?_ ?_ ?_
 · walk_at "k"
   exact⟨rfl,rfl⟩
 · intro s hi K h
   walk_at "k"
   refine jJ (t4 s.2.1 []) (by walk_at "r") (by walk_at "r") ?_
   exact h
 · intro s hi hg Qt hQ
   have lz:=a8 hi.ll hz
   have fl:fit (s.2.1.map T.int).length=true:=aV lz rfl
   walk_at "s"
   refine StW.cut (LK (iL t) (rP tb)) (GC s.2.1 s.2.2 (uT (dh tb s.2.1))) (fun Q' h=>?_) ?_
   · walk_at "k"
     refine aA fl ?_
     walk_at "k"
     refine aA (J6 (cI fl)) ?_
     walk_at "k"
     refine aA (DZ (cI fl)) ?_
     walk_at "k"
     refine sY (f:=fun(i:Nat)=> .int (1+(i:Int))) (g:=HI tb s.2.1) ?_ fun i hi K1 K0 h1 h0=>?_
     · rw [E8]
       walk_at "k"
       exact h
     · have hil:=HJ hi
       walk_at "k"
       refine aA fl ?_
       walk_at "k"
       refine aA (DL hil fl) ?_
       walk_at "k"
       refine vT (Hw hil) ?_
       walk_at "k"
       refine cn (fun q=>?_) fun q=>?_
       · walk_at "k"
         exact h1 _ (cH q)
       · walk_at "k"
         exact h0 (bS q)
   walk_at "i"
   refine IfW.cut (decide (uT (dh tb s.2.1)=[])) ((104, .list [])::GC s.2.1 s.2.2 (uT (dh tb s.2.1))) (fun K h=>?_) ?_
   · walk_at "k"
     refine jJ (vG (uT (dh tb s.2.1)) []) (by walk_at "r") (by walk_at "r") ?_
     exact h
   obtain⟨c,l,eL⟩:∃c l,s.2.1=c::l:=by
    cases e:s.2.1 with
    | nil=>rw [e] at hg;cases hg
    | cons c l=>exact⟨c,l,rfl⟩
   cases eS:(dh tb s.2.1).getLast? with
   | none=>
    have e0:dh tb s.2.1=[]:=List.getLast?_eq_none_iff.mp eS
    obtain⟨f,hn⟩:=hi.none eL eS
    rw [e0]
    walk_at "k"
    refine jr (show(s.2.1.map T.int)[(0:Int).toNat]? =some (.int c) by rw [eL];rfl) (by walk_at "r") ?_
    walk_at "k"
    refine bK (vh F (hi.cd c (by rw [eL];exact .head _))) (by walk_at "r") ?_
    walk_at "k"
    refine⟨_,fS (cI (Aj hn.len (a8 (aJ 12 hz) (by decide)))),?_⟩
    walk_at "k"
    refine aA fl ?_
    walk_at "k"
    refine hQ.nx _ ⟨hn,by rw [eL];exact aI _⟩ _ _ ?_
    walk_at "k"
    exact⟨rfl,Jn eL⟩
   | some i=>
    obtain⟨S,e0⟩:=List.getLast?_eq_some_iff.mp eS
    have e1:uT (dh tb s.2.1)=uT S++[1+(i:Int)]:=by rw [e0];exact ao
    have hil:=HK (e0▸aN.mpr (.inr (.head _)):i∈dh tb s.2.1)
    rw [e1]
    refine pJ (decide_eq_false rL) ?_
    walk_at "s"
    refine StW.cut (LL (iL t) (rP tb)) ((107, .list [])::(106, .list ((s.2.1.drop (i+1)).map .int))::(105, .list ((s.2.1.take (i+1)).map .int))::(104, .list [])::GC s.2.1 s.2.2 (uT S++[1+(i:Int)])) (fun Q' h=>?_) ?_
    · walk_at "k"
      refine aA (rp (uT S) (1+(i:Int))) ?_
      walk_at "k"
      refine bw (ro (uT S) (1+(i:Int))) ?_
      walk_at "k"
      refine aA fl ?_
      walk_at "k"
      refine aA (rp (uT S) (1+(i:Int))) ?_
      walk_at "k"
      refine bw (ro (uT S) (1+(i:Int))) ?_
      walk_at "k"
      refine aA fl ?_
      walk_at "k"
      rw [←uJ hil.1,←AN hil.1] at h
      exact uh h (by walk_at "r") (by walk_at "r")
    have hM:fG (dB tb) (s.2.1.drop (i+1)) (s.2.1.take (i+1)) []=kf tb s.2.1 i:=rfl
    have cr:∀d∈s.2.1.drop (i+1),Cd d:=fun d hd=>hi.cd d (i4 hd)
    have lr:(s.2.1.drop (i+1)).length≤800:=a8 (a8 (ae (aT ..)) (eJ _ _)) lz
    have lw:(s.2.1.take (i+1)).length≤800:=a8 (a8 (ae (c8 ..)) (bx _ _)) lz
    walk_at "k"
    refine fh (σ:=Nat×List Int×List Int) (fun x=>rIn (iL t) (rP tb) (x.1:Int)) (fun x=>Im s.2.1 s.2.2 (uT S++[1+(i:Int)]) x.2.1 (s.2.1.drop (i+1)) x.2.2) (fun x=>Im s.2.1 s.2.2 (uT S++[1+(i:Int)]) x.2.1 (s.2.1.drop (i+1)) x.2.2) [true,true,true,true,true,true,true,true,true,true,false,false,false,false,false,false,false] (yY (dB tb) (s.2.1.drop (i+1)) (kf tb s.2.1 i)) (fun x=>(s.2.1.drop (i+1)).length - x.1) (fun x=>bf x.1 (s.2.1.drop (i+1)).length&&decide (0 < aK ((s.2.1.drop (i+1)).getD x.1 0))) (0,s.2.1.take (i+1),[]) ⟨bl _,fun d hd=>absurd hd cC,aB _,a8 lw (al rfl),hM⟩ ?_ ?_ ?_ ?_
    · walk_at "k"
      exact⟨rfl,rfl⟩
    · generalize s.2.1.drop (i+1)=rest at cr lr
      intro x hx K h
      have fr:fit (rest.map T.int).length=true:=aV lr rfl
      walk_at "k"
      refine aA fr ?_
      walk_at "k"
      cases e:bf x.1 rest.length with
      | true=>
       have hj:=dq.mp e
       rw [e] at h
       refine aA (decide_eq_true (bn.mpr (az hj (a9 ..).symm))) ?_
       walk_at "k"
       refine aA (cy (aq hj (a8 lr (by decide)))) ?_
       walk_at "k"
       refine bw (x:= .int (rest.getD x.1 0)) (eR hj) ?_
       walk_at "k"
       refine⟨.int,(by walk_at "r"),rfl,?_⟩
       walk_at "k"
       refine cn (fun q=>?_) fun q=>?_
       · walk_at "k"
         exact sd h ((Fx (cr _ (cB hj))).symm.trans q)
       · walk_at "k"
         exact sd h ((Fx (cr _ (cB hj))).symm.trans q)
      | false=>
       rw [e] at h
       refine pJ (decide_eq_false fun z=>by rw [dq.mpr (az (bn.mp z) (a9 ..))] at e;cases e) ?_
       exact h
    · generalize s.2.1.drop (i+1)=rest at cr lr
      intro x hx hg2 Qt2 hQ2
      have hg2:=aa.mp hg2
      have hj:=dq.mp hg2.1
      have hc2:=cr _ (cB (d:=0) hj)
      have hr:oS (x.1:Int)=true:=cy (aq hj (a8 lr (by decide)))
      have ha:(rest.map T.int)[(x.1:Int).toNat]? =some (.int (rest.getD x.1 0)):=eR hj
      have hsl:x.2.2.length≤800:=a8 hx.sl (a8 hx.le lr)
      have fs:fit (x.2.2.map T.int).length=true:=aV hsl rfl
      have hrl:x.2.1.length≤3800:=a8 hx.rl (aL (a8 hx.le lr) 3000)
      have hk:=Fw hc2 hg2.2
      have rw1:=hx.row hj hg2.2
      have rw2:=hx.stay hj hg2.2 hc2
      have md:rest.length - (x.1+1) < rest.length - x.1:=cZ hj (aI _)
      generalize rest.getD x.1 0=c at ha hk rw1 rw2
      walk_at "k"
      refine aA fs ?_
      walk_at "k"
      intro a
      walk_at "k"
      refine sY (f:=T.int) (g:=fun d=>bif decide (aK d≥aK c) then some (.int d) else none) ?_ fun d hd K1 K0 h1 h0=>?_
      · rw [xm]
        walk_at "k"
        refine jJ (vG (x.2.2.filter fun d=>decide (aK d≥aK c)) []) (by walk_at "r") (by walk_at "r") ?_
        walk_at "k"
        refine cn (fun q=>?_) fun q=>?_
        · walk_at "k"
          refine aA hr ?_
          walk_at "k"
          refine bw ha ?_
          walk_at "k"
          refine⟨_,fS (cI (om (a8 hrl (by decide)))),?_⟩
          walk_at "k"
          refine aA (Gi (a8 hrl (by decide))) ?_
          walk_at "k"
          refine vT (ri x.2.1 c) ?_
          walk_at "k"
          refine cn (fun q2=>?_) fun q2=>?_
          · walk_at "k"
            refine aA hr ?_
            walk_at "k"
            refine bw ha ?_
            walk_at "k"
            refine⟨_,fS (cI (om (a8 hrl (by decide)))),?_⟩
            walk_at "k"
            refine hQ2.nx _ ⟨rw1 (aa.mpr ⟨q,q2⟩),md⟩ _ _ ?_
            walk_at "k"
            exact⟨rfl,J9⟩
          · walk_at "k"
            refine aA hr ?_
            walk_at "k"
            refine bw ha ?_
            walk_at "k"
            refine aA fs ?_
            walk_at "k"
            refine hQ2.nx _ ⟨rw2 (by unfold yp;rw [q2,iR]),md⟩ _ _ ?_
            walk_at "k"
            exact⟨rfl,Fc⟩
        · walk_at "k"
          refine aA hr ?_
          walk_at "k"
          refine bw ha ?_
          walk_at "k"
          refine aA fs ?_
          walk_at "k"
          refine hQ2.nx _ ⟨rw2 (by unfold yp;rw [q,Bool.false_and]),md⟩ _ _ ?_
          walk_at "k"
          exact⟨rfl,Fc⟩
      · have hd:=hx.st d hd
        walk_at "k"
        refine⟨.int,(by walk_at "r"),rfl,?_⟩
        walk_at "k"
        refine bw (Fw hd.1 (decide_eq_true hd.2)) ?_
        walk_at "k"
        refine aA hr ?_
        walk_at "k"
        refine bw ha ?_
        walk_at "k"
        refine⟨.int,(by walk_at "r"),rfl,?_⟩
        walk_at "k"
        refine bw hk ?_
        walk_at "k"
        refine cn (fun q=>?_) fun q=>?_
        · walk_at "k"
          exact h1 _ (cH q)
        · walk_at "k"
          exact h0 (bS q)
    · intro x hx hg2
      have e:=hx.fin hg2
      have hrl:x.2.1.length≤3800:=a8 hx.rl (aL (a8 hx.le lr) 3000)
      have hsl:x.2.2.length≤800:=a8 hx.sl (a8 hx.le lr)
      have hin:dB tb x.2.1=true:=by
       have z:=(oE (inT:=dB tb) (r:=s.2.1.drop (i+1)) (row:=s.2.1.take (i+1)) (st:=[])).2.1 hil.2
       rw [hM,e] at z
       exact z
      obtain⟨v,hv⟩:=aZ.mp hin
      obtain⟨f,hn,hlt⟩:=hi.some eL eS e hv (htb x.2.1)
      have dl:((s.2.1.drop (i+1)).drop x.1).length≤800:=a8 (a8 (ae (aT ..)) (eJ _ _)) lr
      have hxl:=hx.le
      generalize s.2.1.drop (i+1)=rest at lr hxl dl hn hlt
      walk_at "k"
      refine aA (aV hrl rfl) ?_
      walk_at "k"
      refine zd rfl hv ?_
      walk_at "k"
      refine⟨_,fS (cI (Aj hn.len (a8 (aJ 12 hz) (by decide)))),?_⟩
      walk_at "k"
      refine aA (aV lr rfl) ?_
      walk_at "k"
      refine⟨_,fS (by rw [kK hxl,a9,a9];exact a8 (aU hsl dl) (by decide)),?_⟩
      walk_at "k"
      refine hQ.nx _ ⟨hn,hlt⟩ _ _ ?_
      walk_at "k"
      exact⟨rfl,Jo hxl⟩
 · intro s hi hg
   have e:=hi.eq
   rw [of_decide_eq_true (AB hg)] at e
   walk_at "k"
   rw [←e]
   cases s.1 <;> exact congrArg iN (aw _).symm
 walk_at "z"
noncomputable def fo (e:E4):Int:=bif decide (e.1+e.2.1+e.2.2.1 > 0) then 65535 else 0
noncomputable def xT (how:Str) (b:Bool) (e:E4):W4×Bool:=bif how=="non-ignorable" then((e.1,e.2.1,e.2.2.1,fo e),b) else bif e.2.2.2&&(decide (e.1 > 0)&&true) then((0,0,0,bif how != "blanked" then e.1 else 0),true) else bif e.1==0&&(b&&true) then((0,0,0,0),b) else((e.1,e.2.1,e.2.2.1,fo e),bif b then e.1==0 else false)
noncomputable def eK (how:Str) (l:List E4):Bool→List W4:=List.rec (motive:=fun _=>Bool→List W4) (fun _=>[]) (fun e _ ih b=>(xT how b e).1::ih (xT how b e).2) l
structure Ii (how:Str) (l l':List E4) (s:List W4×Bool):Prop where
 len:s.1.length+l'.length≤10000
 eq:s.1++eK how l' s.2=eK how l false
section
variable {how:Str} {l l':List E4} {e:E4} {s:List W4×Bool}
theorem Ii.put {y:W4} {b:Bool} (h:Ii how l (e::l') s) (q:xT how s.2 e=(y,b)):Ii how l l' (s.1++[y],b):=⟨by
 rw [ak]
 exact a8 (ae (bz _ _ _)) h.len,by
 have z:=h.eq
 rw [show eK how (e::l') s.2=(xT how s.2 e).1::eK how l' (xT how s.2 e).2 from rfl,q] at z
 rw [←z,au];rfl⟩
theorem Ii.fit (h:Ii how l l' s):fit (s.1.map wT).length=true:=gK (a8 (av _ _) (a8 h.len (by decide)))
end
noncomputable def rLw (l:List E4) (how:Str) (b:Bool) (e:Option E4):aF:=[some (.t (iN l)),some (.t (.str how)),some (.ref 100),some (.t (.bool b)),e.map fun e=> .t (.int e.1),e.map fun e=> .t (.int e.2.1),e.map fun e=> .t (.int e.2.2.1),e.map fun e=> .t (.bool e.2.2.2),e.map fun e=> .t (.int (fo e))]
theorem rZ {C:Cx} (F:de C) {l:List E4} {how:Str} (hz:l.length≤10000):dE C 4 (.ref 680) [iN l, .str how] (.t (wL (eK how l false))):=by
 walk_at "a"
 refine bA F ["elements","how"] rfl rfl rfl (fun _ _=>rfl) rfl ?_
 walk_at "k"
 refine fU (σ:=List W4×Bool) (fun s=>rLw l how s.2 none) (fun s=>[(100, .list (s.1.map wT))]) (Ii how l) l ([],false) ⟨a8 (ae (bo _)) hz,rfl⟩ ?_ ?_
 · rintro e l' s hi Qt hQ
   have hf:=hi.fit
   walk_at "s"
   refine StW.cut (rLw l how s.2 (some e)) [(100, .list (s.1.map wT))] (fun Q' h=>?_) ?_
   · have h:=jV (fun z=>Q' .next [some (.t (iN l)),some (.t (.str how)),some (.ref 100),some (.t (.bool s.2)),some (.t (.int e.1)),some (.t (.int e.2.1)),some (.t (.int e.2.2.1)),some (.t (.bool e.2.2.2)),some (.t (.int z))] [(100, .list (s.1.map wT))]) h
     walk_at "k"
     refine cn (fun q=>?_) fun q=>?_
     · walk_at "k"
       exact h.1 q
     · walk_at "k"
       exact h.2 q
   walk_at "k"
   refine cn (fun q1=>?_) fun q1=>?_
   · walk_at "k"
     refine aA hf ?_
     walk_at "k"
     refine hQ _ (hi.put (cH q1)) _ _ ?_
     walk_at "k"
     exact⟨rfl,gz⟩
   walk_at "i"
   refine IfW.cut (e.2.2.2&&(decide (e.1 > 0)&&true)) [(100, .list (s.1.map wT))] (by walk_at "p") ?_
   walk_at "k"
   refine cn (fun q2=>?_) fun q2=>?_
   · walk_at "k"
     refine cn (fun q3=>?_) fun q3=>?_
     · walk_at "k"
       refine aA hf ?_
       walk_at "k"
       refine hQ _ (hi.put (((bS q1).trans (cH q2)).trans (congrArg (fun z=>((0,0,0,z),true)) (cH q3)))) _ _ ?_
       walk_at "k"
       exact⟨rfl,gz⟩
     · walk_at "k"
       refine aA hf ?_
       walk_at "k"
       refine hQ _ (hi.put (((bS q1).trans (cH q2)).trans (congrArg (fun z=>((0,0,0,z),true)) (bS q3)))) _ _ ?_
       walk_at "k"
       exact⟨rfl,gz⟩
   walk_at "i"
   refine IfW.cut (e.1==0&&(s.2&&true)) [(100, .list (s.1.map wT))] (by walk_at "p") ?_
   walk_at "k"
   refine cn (fun q3=>?_) fun q3=>?_
   · walk_at "k"
     refine aA hf ?_
     walk_at "k"
     refine hQ _ (hi.put (((bS q1).trans (bS q2)).trans (cH q3))) _ _ ?_
     walk_at "k"
     exact⟨rfl,gz⟩
   · walk_at "k"
     refine aA hf ?_
     walk_at "k"
     refine cn (fun q4=>?_) fun q4=>?_
     · walk_at "k"
       refine hQ _ (hi.put (((bS q1).trans (bS q2)).trans ((bS q3).trans (congrArg (Prod.mk _) (cH q4))))) _ _ ?_
       walk_at "k"
       exact⟨rfl,gz⟩
     · walk_at "k"
       refine hQ _ (hi.put (((bS q1).trans (bS q2)).trans ((bS q3).trans (congrArg (Prod.mk _) (bS q4))))) _ _ ?_
       walk_at "k"
       exact⟨rfl,gz⟩
 · intro s hi
   have e:s.1=eK how l false:=(aw _).symm.trans hi.eq
   walk_at "k"
   rw [←e]
   rfl
 walk_at "z"
noncomputable def rH (k:Nat) (w:W4):Int:=[w.1,w.2.1,w.2.2.1,w.2.2.2].getD k 0
theorem B8 {k:Nat} (h:k < 4) (w:W4):[T.int w.1,T.int w.2.1,T.int w.2.2.1,T.int w.2.2.2][k]? =some (.int (rH k w)):=eR (f:=T.int) (l:=[w.1,w.2.1,w.2.2.1,w.2.2.2]) h
noncomputable def At (sel:W4→Int) (l:List W4):List Int:=(l.filter fun w=>decide (sel w > 0)).map sel
noncomputable def Lq (b:Bool) (l:List Int):List Int:=bif b then l.reverse else l
noncomputable def Hh (b:Bool) (l:List Int):List Int:=bif b then mj l else l
noncomputable def kD (how:Str) (bk:Bool) (l:List W4) (k:Nat):List Int:=Hh ((k:Int)==3&&how=="shift-trimmed") (Lq ((k:Int)==1&&(bk&&true)) (At (rH k) l))
noncomputable def gG (how:Str) (st:Nat) (bk:Bool) (l:List W4):List (List Int):=(bH (min st 4)).map (kD how bk l)
theorem DN (g:List Int):cJ (g.map .int) (some (-1)) none=(g.drop (g.length - 1)).map .int:=by
 unfold cJ
 rw [show kms_lo (some (-1)) (g.map T.int).length=(g.map T.int).length - 1 from rfl,show kms_hi none (g.map T.int).length=(g.map T.int).length from rfl,a9,List.map_drop]
 exact dz (ae ((aT ..).trans (by rw [a9])))
theorem DM (g:List Int):cJ ((g++[65535]).map .int) none (some (-1))=g.map .int:=by
 show((g++[65535]).map T.int).take (((g++[65535]).map T.int).length - 1)=_
 rw [a9,cg,ao]
 exact List.take_left' (a9 ..)
theorem Dg {g:List Int} (h:decide (g.drop (g.length - 1)=[65535])=true):∃g',g=g'++[65535]:=⟨g.take (g.length - 1),by rw [←of_decide_eq_true h,eT]⟩
theorem Er {g:List Int} (h:decide (g.drop (g.length - 1)=[65535])=false):mj g=g:=by
 rcases ry g with e | ⟨g',x,e⟩
 · subst e;rfl
 · subst e
   rw [ln]
   refine bS (beq_false_of_ne fun z=>of_decide_eq_false h ?_)
   rw [z,cg,Nat.add_sub_cancel,List.drop_left]
theorem n4 (st:Nat):(if(4:Int) < (st:Int) then(4:Int) else(st:Int))=((min st 4:Nat):Int):=by
 by_cases h:(4:Int) < st
 · rw [if_pos h,Nat.min_eq_right (ck (bn.mp h))]
   rfl
 · rw [if_neg h,dr (d8.mp (dp.mp h))]
theorem J7 (st:Nat):tJ (if(4:Int) < (st:Int) then(4:Int) else(st:Int))=true:=by
 rw [n4]
 exact bu (a8 (bx _ _) (by decide))
theorem lt4 {k st:Nat} (h:k < (if(4:Int) < (st:Int) then(4:Int) else(st:Int)).toNat):k=0∨k=1∨k=2∨k=3:=by
 rw [n4,aW] at h
 have h:=aq h (bx _ _)
 rcases cP (cX h) with h | h
 · rcases cP (cX h) with h | h
   · rcases cP (cX h) with h | h
     · exact .inl (Nat.lt_one_iff.mp h)
     · exact .inr (.inl h)
   · exact .inr (.inr (.inl h))
 · exact .inr (.inr (.inr h))
noncomputable def Hg (sel:W4→Int) (w:W4):Option T:=bif decide (sel w > 0) then some (.int (sel w)) else none
theorem Du (sel:W4→Int) (l:List W4):l.filterMap (Hg sel)=(At sel l).map .int:=by
 walk_at "a"
 unfold At Hg
 induction l with
 | nil=>rfl
 | cons w l ih=>
  rw [cE,bN,ih]
  cases decide (sel w > 0) <;> rfl
 walk_at "z"
theorem wb (sel:W4→Int) (l:List W4):(At sel l).length≤l.length:=a8 (ae (show((l.filter _).map sel).length=_ from a9 sel)) (gO _ _)
noncomputable def LM (l:List W4) (how:Str) (st:Nat) (bk:Bool) (k v:Option V):aF:=[some (.t (wL l)),some (.t (.str how)),some (.t (.int (st:Int))),some (.t (.bool bk)),some (.ref 100),k,v,none,none]
noncomputable def GD (f:List (List Int)) (r:Hp):Hp:=(100, .list (f.map iL))::r
theorem xP {f:List (List Int)} {x:List Int} {T':T} (e:iL x=T'):GD (f++[x]) []=[(100, .list (f.map iL++[T']))]:=by
 subst e
 unfold GD
 rw [ao]
 rfl
theorem tE {C:Cx} (F:de C) {l:List W4} {how:Str} {st:Nat} {bk:Bool} (hz:l.length≤10000):dE C 6 (.ref 685) [wL l, .str how, .int (st:Int), .bool bk] (.t (qw (gG how st bk l))):=by
 walk_at "a"
 refine bA F ["weights","how","strength","is_backwards"] rfl rfl rfl (fun _ _ _ _=>rfl) rfl ?_
 walk_at "k"
 refine⟨_,Fn _ _,?_⟩
 walk_at "k"
 refine aA (J7 st) ?_
 walk_at "k"
 refine vJ (σ:=List (List Int)) (fun _=>LM l how st bk none none) (fun f=>GD f []) (fun k f=>f=(bH k).map (kD how bk l)) [] rfl ?_ ?_
 · intro k f hk hf Qt hQ
   have ff:fit (f.map iL).length=true:=by
    rw [hf,a9,a9,cW]
    exact bu (a8 (ck hk) (by rw [n4,aW];exact a8 (bx _ _) (by decide)))
   have hn:f++[kD how bk l k]=(bH (k+1)).map (kD how bk l):=by rw [hf,List.range_succ,ao];rfl
   have h4:=lt4 hk
   have kr:oS (k:Int)=true:=cy (aq (by rcases h4 with e | e | e | e <;> (rw [e];decide):k < 4) (by decide))
   have ks:k < 4:=by rcases h4 with e | e | e | e <;> (rw [e];decide)
   walk_at "s"
   refine StW.cut (LM l how st bk (some (.t (.int (k:Int)))) (some (.ref 101))) ((101, .list ((At (rH k) l).map .int))::GD f []) (fun Q' h=>?_) ?_
   · walk_at "k"
     refine aA (oP hz) ?_
     walk_at "k"
     refine sY (g:=Hg (rH k)) ?_ fun w _ K1 K0 h1 h0=>?_
     · rw [Du]
       walk_at "k"
       exact h
     · walk_at "k"
       refine aA kr ?_
       walk_at "k"
       refine jr (B8 ks w) (by walk_at "r") ?_
       walk_at "k"
       refine cn (fun q=>?_) fun q=>?_
       · walk_at "k"
         refine aA kr ?_
         walk_at "k"
         refine jr (B8 ks w) (by walk_at "r") ?_
         walk_at "k"
         exact h1 _ (cH q)
       · walk_at "k"
         exact h0 (bS q)
   rcases h4 with e | e | e | e
   · subst e
     walk_at "k"
     refine .un [true,true,true,true,true,true,true,false,false] 1 ?_
     walk_at "k"
     refine aA ff ?_
     walk_at "k"
     refine hQ.nx _ hn _ _ ?_
     walk_at "k"
     exact⟨rfl,xP rfl⟩
   · subst e
     walk_at "k"
     cases bk with
     | true=>
      walk_at "k"
      refine⟨_,qF (cI (oP (a8 (wb _ _) hz))),?_⟩
      walk_at "k"
      refine .un [true,true,true,true,true,true,true,false,false] 1 ?_
      walk_at "k"
      refine aA ff ?_
      walk_at "k"
      refine hQ.nx _ hn _ _ ?_
      walk_at "k"
      exact⟨rfl,xP (congrArg T.lst jU)⟩
     | false=>
      walk_at "k"
      refine .un [true,true,true,true,true,true,true,false,false] 1 ?_
      walk_at "k"
      refine aA ff ?_
      walk_at "k"
      refine hQ.nx _ hn _ _ ?_
      walk_at "k"
      exact⟨rfl,xP rfl⟩
   · subst e
     walk_at "k"
     refine .un [true,true,true,true,true,true,true,false,false] 1 ?_
     walk_at "k"
     refine aA ff ?_
     walk_at "k"
     refine hQ.nx _ hn _ _ ?_
     walk_at "k"
     exact⟨rfl,xP rfl⟩
   · subst e
     have hl:=a8 (wb (rH 3) l) hz
     have hn:f++[Hh (how=="shift-trimmed") (At (rH 3) l)]=(bH (3+1)).map (kD how bk l):=hn
     generalize At (rH 3) l=g0 at hl hn
     cases ch:how=="shift-trimmed" with
     | false=>
      rw [ch] at hn
      walk_at "k"
      refine .un [true,true,true,true,true,true,true,false,false] 1 ?_
      walk_at "k"
      refine pJ ch ?_
      walk_at "k"
      refine aA ff ?_
      walk_at "k"
      refine hQ.nx _ hn _ _ ?_
      walk_at "k"
      exact⟨rfl,xP rfl⟩
     | true=>
      rw [ch] at hn
      walk_at "k"
      refine fh (σ:=List Int) (fun _=>LM l how st bk (some (.t (.int 3))) (some (.ref 101))) (fun g=>GD f [(101, .list (g.map .int))]) (fun g=>(103, .list [.int 65535])::(102, .list (cJ (g.map .int) (some (-1)) none))::GD f [(101, .list (g.map .int))]) [true,true,true,true,true,true,true,false,false] (fun g=>g.length≤10000∧mj g=mj g0) i3 (fun g=>decide (g.drop (g.length - 1)=[65535])) g0 ⟨hl,rfl⟩ ?_ ?_ ?_ ?_
      · walk_at "k"
        exact⟨rfl,rfl⟩
      · rintro g ⟨hg,_⟩ K h
        walk_at "k"
        refine aA ch ?_
        walk_at "k"
        refine aA (oP hg) ?_
        walk_at "k"
        refine jJ (vG (g.drop (g.length - 1)) [65535]) (congrArg T.lst (DN g).symm) (by walk_at "r") ?_
        walk_at "k"
        refine cn (fun q=>?_) fun q=>?_
        · walk_at "k"
          exact sd h q
        · walk_at "k"
          exact sd h q
      · rintro g ⟨hg,ht⟩ hq Qt2 hQ2
        obtain⟨g',e⟩:=Dg hq
        walk_at "k"
        refine aA (oP hg) ?_
        walk_at "k"
        refine hQ2.nx g' ⟨⟨a8 (by rw [e,cg];exact d5 _) hg,by rw [←ht,e,ln];rfl⟩,by rw [e,cg];exact aI _⟩ _ _ ?_
        walk_at "k"
        exact⟨rfl,congrArg (fun z=>GD f [(101,O.list z)]) (by rw [e];exact(DM g').symm)⟩
      · rintro g ⟨hg,ht⟩ hq
        walk_at "k"
        refine aA ff ?_
        walk_at "k"
        refine hQ.nx _ hn _ _ ?_
        walk_at "k"
        exact⟨rfl,xP (congrArg iL (ht.symm.trans (Er hq)))⟩
 · intro f hf
   walk_at "k"
   rw [hf,n4,aW]
   rfl
 walk_at "z"
structure Kz (ls l:List (List Int)) (f:List Int):Prop where
 le:∀x∈l,x.length≤10000
 len:f.length+10001*l.length≤120000
 eq:f++k7 l=hW ls
theorem Kz.put {ls l:List (List Int)} {x f:List Int} (h:Kz ls (x::l) f):(f.length+1)+x.length≤120000∧Kz ls l ((f++[0])++x):=by
 have n:=h.len
 rw [aM,dR,bI (10001*l.length),←bq] at n
 have z:(f.length+1)+x.length+10001*l.length≤120000:=a8 (aQ (a8 (ae (bq ..)) (aL (a8 (ae (bI 1 _)) (aH (h.le x (.head _)))) f.length)) _) n
 exact⟨a8 (av _ _) z,fun y hy=>h.le y (.tail _ hy),by rw [ak,cg];exact z,by rw [←h.eq,au,au];rfl⟩
theorem Hb {f x:List Int} (h:(f.length+1)+x.length≤120000):(f.map T.int).length+[T.int 0].length≤sizeLine:=by rw [a9];exact a8 (av _ _) (a8 h (by decide))
theorem Do {f x:List Int} (h:(f.length+1)+x.length≤120000):(f.map T.int++[T.int 0]).length+(x.map T.int).length≤sizeLine:=by rw [cg,a9,a9];exact a8 h (by decide)
theorem Ln {f x:List Int}:hI ((f++[0])++x)=[(100, .list ((f.map T.int++[T.int 0])++x.map T.int))]:=by
 unfold hI
 rw [ao,ao]
 rfl
theorem BL {C:Cx} (F:de C) {x:List Int} {ls:List (List Int)} (hz:ls.length≤10) (hl:∀y∈x::ls,y.length≤10000):dE C 5 (.ref 692) [qw (x::ls)] (.t (iL (hW (x::ls)))):=by
 walk_at "a"
 refine bA F ["levels"] rfl rfl rfl (fun _=>rfl) rfl ?_
 walk_at "k"
 refine aA (aV (hl x (.head _)) rfl) ?_
 walk_at "k"
 refine aA (aV (aH hz) rfl) ?_
 walk_at "k"
 intro a
 walk_at "k"
 refine nQ (kK (j:=1) (aH (bl _))) ?_
 refine fU (σ:=List Int) (fun _=>[some (.t (qw (x::ls))),some (.ref 100),none,none]) hI (Kz (x::ls)) ls x ⟨fun y hy=>hl y (.tail _ hy),a8 (aU (hl x (.head _)) (aJ 10001 hz)) (al rfl),rfl⟩ ?_ ?_
 · rintro y l f hi Qt hQ
   have hj:=hi.put
   walk_at "k"
   refine⟨_,fS (Hb hj.1),?_⟩
   walk_at "k"
   refine⟨_,fS (Do hj.1),?_⟩
   walk_at "k"
   refine hQ _ hj.2 _ _ ?_
   walk_at "k"
   exact⟨rfl,Ln⟩
 · intro f hi
   have e:f=hW (x::ls):=(aw _).symm.trans hi.eq
   walk_at "k"
   rw [e]
   rfl
 walk_at "z"
abbrev FO:=List (List Int)×List Int
noncomputable def uE (D:FO):T:= .tup [qw D.1,iL D.2]
noncomputable def uH (tb:ew) (how:Str) (st:Nat) (bk:Bool) (t:List Int):FO:=(gG how st bk (eK how (eX tb t) false),bif (st:Int)==5 then canon t else [])
theorem Ai {how:Str} {l:List E4}:∀b,(eK how l b).length=l.length:=by
 induction l with
 | nil=>exact fun _=>rfl
 | cons e l ih=>exact fun b=>congrArg Nat.succ (ih _)
theorem sV {tb:ew} (htb:∀k,((tb.lookup k).getD []).length≤10) {f:Nat}:∀{l:List Int},(bQ tb f l).length≤10*f:=by
 walk_at "a"
 induction f with
 | zero=>exact fun {_}=>aB 0
 | succ f ih=>
  intro l
  cases l with
  | nil=>exact bl _
  | cons c l=>
   show(an (motive:=fun _=>List E4) (dh tb (c::l)).getLast? (jF c++bQ tb f l) fun i=>(tb.lookup (kf tb (c::l) i).1).getD []++bQ tb f ((kf tb (c::l) i).2.1++(kf tb (c::l) i).2.2)).length≤_
   rw [dR,bI]
   cases (dh tb (c::l)).getLast? with
   | none=>exact a8 (ae ak) (aU (al rfl:2≤10) ih)
   | some i=>exact a8 (ae ak) (aU (htb _) ih)
 walk_at "z"
theorem nq {tb:ew} {t:List Int} (ht:∀c∈t,Cd c) (h8:t.length≤20) (htb:∀k,((tb.lookup k).getD []).length≤10):(eX tb t).length≤10000:=a8 (sV htb) (a8 (aJ 10 (a8 (q8 ht) (aJ 2 h8))) (by decide))
theorem BN {C:Cx} (F:de C) {tb:ew} {t:List Int} (ht:∀c∈t,Cd c) (h8:t.length≤20) (htb:∀k,((tb.lookup k).getD []).length≤10) (how:Str) (st:Nat) (bk:Bool):dE C 12 (.ref 706) [iL t,rP tb, .str how, .int (st:Int), .bool bk] (.t (uE (uH tb how st bk t))):=by
 walk_at "a"
 have hl:=nq ht h8 htb
 refine bA F ["text","table","how","strength","is_backwards"] rfl rfl rfl (fun _ _ _ _ _=>rfl) rfl ?_
 walk_at "k"
 refine bK (pU F ht (a8 h8 (by decide)) htb) (by walk_at "r") ?_
 walk_at "k"
 refine bK (rZ F (how:=how) hl) (by walk_at "r") ?_
 walk_at "k"
 refine bK (tE F (l:=eK how (eX tb t) false) (how:=how) (st:=st) (bk:=bk) (a8 (ae (Ai _)) hl)) (by walk_at "r") ?_
 walk_at "k"
 refine cn (fun q=>?_) fun q=>?_
 · walk_at "k"
   refine bK (pE F ht (a8 h8 (by decide))).tree (by walk_at "r") ?_
   walk_at "k"
   exact congrArg (fun z=>uE (gG how st bk (eK how (eX tb t) false),z)) (cH q).symm
 · walk_at "k"
   exact congrArg (fun z=>uE (gG how st bk (eK how (eX tb t) false),z)) (show []=bif (st:Int)==5 then canon t else [] from(bS q).symm)
 walk_at "z"
noncomputable def j0 (a b:FO):Int:=gR (a.1++[a.2]) (b.1++[b.2])
theorem eY (x y:Int) (a b:List Int):i9 (x::a) (y::b)=if x=y then i9 a b else decide (x < y):=rfl
theorem qe {a:List Int}:∀{b:List Int},gd a b=bif decide (a=b) then 0 else bif i9 a b then -1 else 1:=by
 induction a with
 | nil=>intro b;cases b <;> rfl
 | cons x a ih=>
  intro b
  cases b with
  | nil=>rfl
  | cons y b=>
   show(bif x==y then gd a b else bif decide (x < y) then -1 else 1)=_
   rw [eY]
   by_cases e:x=y
   · rw [if_pos e,beq_iff_eq.mpr e,ih,e,decide_eq_decide.mpr (show(y::a=y::b)↔a=b from⟨fun z=>(jh.mp z).2,fun z=>by rw [z]⟩)]
     rfl
   · rw [if_neg e,beq_false_of_ne e,decide_eq_false fun z:x::a=y::b=>e (jh.mp z).1]
     rfl
theorem BS {α:Type} {f:α→T} {l:List α}:∀{m:List α},yJ (l.map f) (m.map f)=(l.zip m).map fun p=> .tup [f p.1,f p.2]:=by
 induction l with
 | nil=>exact fun {_}=>rfl
 | cons x l ih=>
  intro m
  cases m with
  | nil=>rfl
  | cons y m=>exact congrArg (_:: ·) ih
theorem zt {a:List (List Int)}:∀{b:List (List Int)},(a.zip b).foldr (fun p r=>bif gd p.1 p.2==0 then r else gd p.1 p.2) 0=gR a b:=by
 induction a with
 | nil=>exact fun {_}=>rfl
 | cons x a ih=>
  intro b
  cases b with
  | nil=>rfl
  | cons y b=>exact congrArg (fun z=>bif gd x y==0 then z else gd x y) ih
theorem Bd {a:FO} (ha:a.1.length≤100):(a.1.map iL).length+[iL a.2].length≤sizeLine:=by rw [a9];exact a8 (aH ha) (by decide)
theorem HF (a b:FO):yJ (a.1.map iL++[iL a.2]) (b.1.map iL++[iL b.2])=((a.1++[a.2]).zip (b.1++[b.2])).map fun p=> .tup [iL p.1,iL p.2]:=by
 rw [←BS,ao,ao]
 rfl
theorem Ic {C:Cx} (F:de C) {a b:FO} (ha:a.1.length≤100) (hb:b.1.length≤100):dE C 5 (.ref 713) [uE a,uE b] (.t (.int (j0 a b))):=by
 walk_at "a"
 refine bA F ["one","other"] rfl rfl rfl (fun _ _=>rfl) rfl ?_
 walk_at "k"
 refine⟨_,fS (Bd ha),?_⟩
 walk_at "k"
 refine⟨_,fS (Bd hb),?_⟩
 walk_at "k"
 refine nQ (HF a b) ?_
 refine EY (σ:=Unit) (fun _=>[some (.t (uE a)),some (.t (uE b)),none,none,none]) (fun _=>[]) (fun l _=>l.foldr (fun p r=>bif gd p.1 p.2==0 then r else gd p.1 p.2) 0=j0 a b) _ () zt ?_ ?_
 · intro p l s e Qt hQ
   have e:(bif gd p.1 p.2==0 then l.foldr (fun p r=>bif gd p.1 p.2==0 then r else gd p.1 p.2) 0 else gd p.1 p.2)=j0 a b:=e
   rw [qe] at e
   walk_at "k"
   refine jJ (t4 p.1 p.2) (by walk_at "r") (by walk_at "r") ?_
   walk_at "k"
   cases q:decide (p.1=p.2) with
   | true=>
    rw [q] at e
    walk_at "k"
    refine hQ.nx () e _ _ ?_
    walk_at "k"
    exact⟨rfl,rfl⟩
   | false=>
    rw [q] at e
    walk_at "k"
    refine jJ (Js p.1 p.2) (by walk_at "r") (by walk_at "r") ?_
    cases q2:i9 p.1 p.2 with
    | true=>
     rw [q2] at e
     walk_at "k"
     refine hQ.rt _ _ _ ?_
     walk_at "k"
     exact congrArg T.int e
    | false=>
     rw [q2] at e
     walk_at "k"
     refine hQ.rt _ _ _ ?_
     walk_at "k"
     exact congrArg T.int e
 · intro s e
   walk_at "k"
   exact congrArg T.int e
 walk_at "z"
noncomputable def yR (x y:Int):Bool:=decide (0 < aK x)&&(aK x != aK y&&decide (aK y > 0))
noncomputable def HT (r:List Int):Int→List Int:=List.rec (motive:=fun _=>Int→List Int) (fun x=>[x]) (fun y r ih x=>bif yR x y then y::x::r else x::ih y) r
noncomputable def iG (l:List Int):List Int:=ay (motive:=fun _=>List Int) l [] fun x r=>HT r x
noncomputable def iH (t:List Int):List Int:=iG (t.flatMap bB)
theorem Ef {l:List Int} {i:Nat} (h:i < l.length):l.take (i+1)=l.take i++[l.getD i 0]:=by
 rw [List.take_add_one,ah,ai h]
 rfl
def EI (f:List Int) (k:Nat):Prop:=iG f=f.take k++iG (f.drop k)
theorem EI.at {f:List Int} {k:Nat} (h:EI f k) (q:k+1 < f.length):iG f=f.take k++bif yR (f.getD k 0) (f.getD (k+1) 0) then f.getD (k+1) 0::f.getD k 0::f.drop (k+2) else f.getD k 0::iG (f.drop (k+1)):=by
 have h:iG f=f.take k++iG (f.drop k):=h
 rw [h,kx 0 (dQ q),kx (j:=k+1) 0 q]
 rfl
theorem EI.go {f:List Int} {k:Nat} (h:EI f k) (q:k+1 < f.length) (g:yR (f.getD k 0) (f.getD (k+1) 0)=false):EI f (k+1):=by
 refine(h.at q).trans ?_
 rw [g,Ef (dQ q),au]
 rfl
theorem EI.fin {f:List Int} {k:Nat} (h:EI f k) (q: ¬k+1 < f.length):iG f=f:=by
 have h:iG f=f.take k++iG (f.drop k):=h
 have e:iG (f.drop k)=f.drop k:=by
  have n:(f.drop k).length≤1:=by
   rw [aT]
   exact Nat.sub_le_of_le_add (a8 (bU.mp q) (ae (bI ..)))
  generalize f.drop k=d at n
  cases d with
  | nil=>rfl
  | cons x r=>cases r with
   | nil=>rfl
   | cons y r=>exact absurd n (Nat.not_le.mpr (k8 (d9 _)))
 rw [h,e,eT]
theorem HV {f:List Int} (h:(((f.map T.int).length:Int) - 1).toNat+1 < f.length):False:=by
 rw [uL,a9] at h
 cases f with
 | nil=>exact absurd h (iv _)
 | cons x f=>exact absurd h (i6 _)
theorem rD {α:Type} {f:α→T} {l:List α} {j:Nat} (h:j≤l.length):cJ (l.map f) none (some (j:Int))=(l.take j).map f:=by
 have e:kms_hi (some (j:Int)) (l.map f).length=j:=by
  show(if(j:Int) < 0 then(l.map f).length - (-(j:Int)).toNat else min (j:Int).toNat (l.map f).length)=j
  rw [if_neg (dp.mpr (bP j)),aW]
  exact dr (a8 h (ae (a9 ..).symm))
 unfold cJ
 rw [e,fQ]
 rfl
theorem HU {f:List Int} {j:Nat} {a b:Int} (h:j+2≤f.length):cJ (f.map .int) none (some (j:Int))++[T.int b,T.int a]++cJ (f.map .int) (some ((j+2:Nat):Int)) none=(f.take j++b::a::f.drop (j+2)).map .int:=by
 rw [rD (a8 (av _ 2) h),kK h,ao,bp,bp,au]
 rfl
theorem En {f:List Int} {j:Nat} {a b:T} (k:f.length+2*0≤2000) (h:j+2≤f.length):(cJ (f.map .int) none (some (j:Int))++[b,a]).length+(cJ (f.map .int) (some ((j+2:Nat):Int)) none).length≤sizeLine:=by
 rw [rD (a8 (av _ 2) h),kK h,ak,a9,a9,c8,aT]
 exact a8 (aU (aQ (a8 (bx _ _) k) 2) (a8 (eJ _ _) k)) (by decide)
theorem HW {f:List Int} {j:Nat} {a b:T} (h:f.length+2*0≤2000):(cJ (f.map .int) none (some (j:Int))).length+[a,b].length≤sizeLine:=by
 refine a8 (aQ (?_:_≤2000) 2) (by decide)
 unfold cJ
 rw [c8,aT,a9]
 exact a8 (bx _ _) (a8 (eJ _ _) h)
noncomputable def rTn (t:List Int):aF:=[some (.t (iL t)),some (.ref 100),some (.t (.dct fP)),none,none,none,none,none]
theorem BP {C:Cx} (F:de C) {t:List Int} (ht:∀c∈t,Cd c) (hz:t.length≤1000):dE C 6 (.ref 720) [iL t] (.t (iL (iH t))):=by
 walk_at "a"
 refine bA F ["text"] rfl rfl rfl (fun _=>rfl) rfl ?_
 walk_at "k"
 refine bK (jR F) (by walk_at "r") ?_
 walk_at "k"
 refine fU (σ:=List Int) (fun _=>rTn t) hI (Iz t) t [] ⟨ht,by rw [bW,bo];exact aJ 2 hz,rfl⟩ ?_ ?_
 · rintro c l f hi Qt hQ
   have hj:=hi.put
   walk_at "k"
   refine⟨.int,(by walk_at "r"),rfl,?_⟩
   walk_at "k"
   refine jr (vH (hi.cd c (.head _)) (hPl f)) (by walk_at "r") ?_
   walk_at "k"
   refine⟨_,fS (a8 (ae (by rw [a9,a9])) (a8 hj.1 (by decide))),?_⟩
   walk_at "k"
   refine hQ _ hj.2 _ _ ?_
   walk_at "k"
   exact⟨rfl,zk⟩
 · intro f hi
   have e:=hi.eq
   rw [hF,aw] at e
   have hf:=hi.len
   have hcd:∀c∈f,Cd c:=fun c hc=>by
    rw [e] at hc
    obtain⟨d,hd,hc⟩:=aG.mp hc
    exact fT (ht d hd) c hc
   have fl:fit (f.map T.int).length=true:=aV hf rfl
   rw [show iH t=iG f by rw [e];rfl]
   walk_at "k"
   refine aA fl ?_
   walk_at "k"
   refine aA (Fb (cI fl)) ?_
   walk_at "k"
   refine vJ (σ:=Unit) (fun _=>rTn t) (fun _=>hI f) (fun k _=>EI f k) () rfl ?_ ?_
   · intro j x hj hw Qt hQ
     have h1:=az (Fe hj) (a9 ..)
     have h0:=dQ h1
     have r1:oS ((j+1:Nat):Int)=true:=cy (aq h1 (a8 hf (by decide)))
     have r0:oS (j:Int)=true:=cy (aq h0 (a8 hf (by decide)))
     have a0:(f.map T.int)[(j:Int).toNat]? =some (.int (f.getD j 0)):=eR h0
     have a1:(f.map T.int)[((j+1:Nat):Int).toNat]? =some (.int (f.getD (j+1) 0)):=eR h1
     have v0:=hcd _ (cB (d:=0) h0)
     have v1:=hcd _ (cB (d:=0) h1)
     walk_at "i"
     refine IfW.cut (yR (f.getD j 0) (f.getD (j+1) 0)) (hI f) (fun K h=>?_) ?_
     · have e:yR (f.getD j 0) (f.getD (j+1) 0)=(decide (0 < aK (f.getD j 0))&&(aK (f.getD j 0) != aK (f.getD (j+1) 0)&&decide (aK (f.getD (j+1) 0) > 0))):=rfl
       walk_at "k"
       refine aA r0 ?_
       walk_at "k"
       refine bw a0 ?_
       walk_at "k"
       refine⟨.int,(by walk_at "r"),rfl,?_⟩
       walk_at "k"
       refine M5 (DY v0) ?_
       walk_at "k"
       refine cn (fun q=>?_) fun q=>?_
       · walk_at "k"
         refine aA r1 ?_
         walk_at "k"
         refine jr a1 (by walk_at "r") ?_
         walk_at "k"
         refine⟨.int,(by walk_at "r"),rfl,?_⟩
         walk_at "k"
         refine bw (oD v0) ?_
         walk_at "k"
         refine M5 (DY v1) ?_
         walk_at "k"
         refine cn (fun q2=>?_) fun q2=>?_
         · walk_at "k"
           refine bw (oD v1) ?_
           walk_at "k"
           exact sd h (by rw [e,q,q2];rfl)
         · walk_at "k"
           exact sd h (by rw [e,q,q2];rfl)
       · walk_at "k"
         exact sd h (by rw [e,q];rfl)
     walk_at "k"
     refine cn (fun q=>?_) fun q=>?_
     · have e:=(hw.at h1).trans (congrArg (f.take j++ ·) (cH q))
       walk_at "k"
       refine aA fl ?_
       walk_at "k"
       refine aA r1 ?_
       walk_at "k"
       refine jr a1 (by walk_at "r") ?_
       walk_at "k"
       refine aA r0 ?_
       walk_at "k"
       refine bw a0 ?_
       walk_at "k"
       refine⟨_,fS (HW hf),?_⟩
       walk_at "k"
       refine aA fl ?_
       walk_at "k"
       refine⟨_,fS (En hf h1),?_⟩
       walk_at "k"
       refine hQ.rt _ _ _ ?_
       walk_at "k"
       rw [e,iL,←HU h1]
       rfl
     · walk_at "k"
       refine hQ.nx () (hw.go h1 q) _ _ ?_
       walk_at "k"
       exact⟨rfl,rfl⟩
   · intro x hw
     have e:=hw.fin HV
     walk_at "k"
     rw [e]
     rfl
 walk_at "z"
noncomputable def nX:List (List Int):=[[97],[98],[768],[769],[803],[45],[65],[97,98],[97,769],[98,768]]
noncomputable def xZ:List (List E4):=[[(0,37,2,false)],[(0,0,9,false)],[(0,0,0,false)],[]]
noncomputable def gi (m k:Nat):Bool:=decide ((k:Int) < 5) || (((((m:Int).fdiv (2 ^ (k:Int).toNat)).fmod 2)==1) || false)
noncomputable def uK (k:Nat):List E4:=[(500+10*(k:Int).fmod 6,32,2+6*(if(k:Int)==6 then 1 else 0),false)]
noncomputable def nA (k:Nat) (row:List Int):List E4:=bif decide (row.headD 0 > 200) then [(0,33+(k:Int),2,false)] else uK k
noncomputable def m7 (k:Nat) (row:List Int):List E4:=bif decide (row=[45]) then [(300,32,2,true)] else nA k row
noncomputable def jK (m k:Nat) (row:List Int):List E4:=bif decide (row=[803]) then xZ.getD (((m:Int).fdiv 7).fmod 4).toNat [] else m7 k row
noncomputable def EV (m k:Nat):Int:=if(bif decide ((k:Int) > 6) then(m:Int).fmod 3==0 else false)=true then 1 else 0
noncomputable def ie (m k:Nat) (row:List Int):List E4:=jK m k row++br (EV m k).toNat (510,32,4,false)
noncomputable def nZ (m:Nat) (tb:ew) (q:List Int×Nat):ew:=ad (gi m q.2) (q.1,ie m q.2 q.1) tb
noncomputable def bR (m:Nat):ew:=nX.zipIdx.foldl (nZ m) []
structure C3 (m:Nat) (l:List (List Int×Nat)) (tb:ew):Prop where
 sub:∀q∈l,q∈nX.zipIdx
 nd:(l.map (·.1)).Nodup
 ne:∀p∈tb,p.1∉l.map (·.1)
 len:tb.length+l.length≤10
 eq:l.foldl (nZ m) tb=bR m
section
variable {m:Nat} {l:List (List Int×Nat)} {q:List Int×Nat} {tb:ew}
theorem C3.skip (h:C3 m (q::l) tb) (e:gi m q.2=false):C3 m l tb:=⟨fun x hx=>h.sub x (.tail _ hx),(bX.mp h.nd).2,fun p hp z=>h.ne p hp (.tail _ z),bF h.len,by
 have z:=h.eq
 rw [bE,show nZ m tb q=tb from bS e] at z
 exact z⟩
theorem C3.put (h:C3 m (q::l) tb) (e:gi m q.2=true):C3 m l (tb++[(q.1,ie m q.2 q.1)]):=⟨fun x hx=>h.sub x (.tail _ hx),(bX.mp h.nd).2,fun p hp z=>(aN.mp hp).elim (fun hp=>h.ne p hp (.tail _ z)) fun hp=>by
 rw [af.mp hp] at z
 exact(bX.mp h.nd).1 z,by rw [cg,bz];exact h.len,by
 have z:=h.eq
 rw [bE,show nZ m tb q=tb++[(q.1,ie m q.2 q.1)] from cH e] at z
 exact z⟩
end
theorem EU {C:Cx} (a b:List Int):eP C (compareOp .Eq) (kT a) (kT b) (.t (.bool (decide (a=b)))):=by
 have ok (a:List Int):jC (kT a)=true:=by
  have z:=mA a
  unfold jC iL at z
  unfold jC kT
  rw [(jt _).2,(kN _).2]
  rw [(jt _).1,(kN _).1] at z
  exact z
 have e:BX (kT a) (kT b)=decide (a=b):=by
  rw [←rQ]
  unfold BX iL kT
  rw [(dC _).1,(dC _).1,(dC _).2,(dC _).2,PyData.eqv,PyData.eqv]
 exact e▸xj (ok a) (ok b)
theorem wz {v:List E4} {k:List Int} {tb:ew} (h:∀p∈tb,p.1≠k):gu (tb.map fun p=>(kT p.1,iN p.2)) (kT k) (iN v)=(tb++[(k,v)]).map fun p=>(kT p.1,iN p.2):=by
 unfold gu
 rw [if_neg,ao]
 · rfl
 · rw [List.any_map]
   intro q
   obtain⟨p,hp,e⟩:=jT.mp q
   have e:gy (kT p.1) (kT k)=true:=e
   rw [sT] at e
   exact h p hp (of_decide_eq_true e)
noncomputable def rTb (m:Nat) (k row:Option V) (pl:Option V):aF:=[some (.t (.int (m:Int))),some (.t (.lst (nX.map kT))),some (.ref 100),k,row,pl,none,none]
noncomputable def KE (tb:ew) (r:Hp):Hp:=(100, .tdct (tb.map fun p=>(kT p.1,iN p.2)))::r
noncomputable def KL (m k:Nat) (row:List Int):aF:=rTb m (some (.t (.int (k:Int)))) (some (.t (kT row))) (some (.ref 101))
noncomputable def KF (tb:ew) (pl:List E4):Hp:=KE tb [(101, .list (pl.map s8))]
noncomputable abbrev KH:List Bool:=[true,true,true,true,true,true,false,false]
noncomputable def Jf (m k:Nat) (row:List Int) (tb:ew) (Q:Fl→aF→Hp→Prop) (pl:List E4):Prop:=∀ρ' H',(cQ KH ρ' H' fun ρ2 H2=>KL m k row=ρ2∧KF tb pl=H2)→Q .next ρ' H'
theorem B5 {q:List Int×Nat} (h:q∈nX.zipIdx):q.2 < 10∧q.1≠[]∧(q.1=[803]→q.2=4):=by
 walk_at "a"
 have all:(nX.zipIdx.all fun q=>bf q.2 10&& !q.1.isEmpty&&(!decide (q.1=[803]) || Nat.beq q.2 4))=true:=(by walk_at "r")
 have z:=ko (aj.mp all q h)
 refine⟨dq.mp z.1,fun e=>?_,fun e=>?_⟩
 · have y:=z.2.1
   rw [e] at y
   cases y
 · have y:=z.2.2
   rw [decide_eq_true e] at y
   exact bJ y
 walk_at "z"
theorem Hx {k:Nat} (h:k < 10):(decide (0≤(k:Int))&&decide ((k:Int)≤1000)&&nY 2)=true:=aa.mpr ⟨aa.mpr ⟨decide_eq_true (bP k),decide_eq_true (d8.mpr (ck (cN h (by decide))))⟩,rfl⟩
theorem DQ {k:Nat} (h:k < 10):(!decide ((2:Int) ^ (k:Int).toNat=0)&&nY ((2:Int) ^ (k:Int).toNat))=true:=by
 have all:((bH 10).all fun k=> !decide ((2:Int) ^ (k:Int).toNat=0)&&nY ((2:Int) ^ (k:Int).toNat))=true:=(by walk_at "r")
 exact aj.mp all k (dF.mpr h)
theorem Fs {m:Nat}:(((m:Int).fdiv 7).fmod 4)=((m / 7 % 4:Nat):Int):=by
 rw [fq _ (by decide),dG _ (by decide)]
 rfl
theorem Ht {m:Nat}:(((m:Int).fdiv 7).fmod 4).toNat < 4:=by
 rw [Fs]
 exact gb _ (by decide)
theorem qB (m k:Nat) (row:List Int):(jK m k row).length≤1:=by
 walk_at "a"
 have p1:(nA k row).length≤1:=by unfold nA;cases decide (row.headD 0 > 200) <;> exact aB 1
 have p2:(m7 k row).length≤1:=by
  unfold m7
  cases decide (row=[45]) with
  | true=>exact aB 1
  | false=>exact p1
 unfold jK
 cases decide (row=[803]) with
 | false=>exact p2
 | true=>
  have z:(xZ.all fun l=>dm l.length 1)=true:=rfl
  exact al (aj.mp z _ (cB Ht))
 walk_at "z"
theorem nS (b:Bool): -(2 ^ 62)≤(if b=true then(1:Int) else 0)∧(if b=true then(1:Int) else 0)≤16777216∧(if b=true then(1:Int) else 0).toNat≤1:=by cases b <;> exact⟨by decide,by decide,by decide⟩
theorem u7 {m k:Nat} {row:List Int} {l:List (List Int×Nat)} {tb:ew} {ps:List E4} {x:Int} (hi:C3 m ((row,k)::l) tb) (e1:jK m k row=ps) (e2:EV m k=x):
 KE (tb++[(row,ie m k row)]) []=[(100,O.tdct (gu (tb.map fun p=>(kT p.1,iN p.2)) (kT row) (.lst (ps.map s8++br x.toNat (.tup [.int 510, .int 32, .int 4, .bool false])))))]:=by
 have e:T.lst (ps.map s8++br x.toNat (.tup [.int 510, .int 32, .int 4, .bool false]))=iN (ie m k row):=by
  rw [←e1,←e2]
  exact congrArg T.lst ((congrArg _ (List.map_replicate (f:=s8) (a:=(510,32,4,false)) (n:=(EV m k).toNat)).symm).trans ao.symm)
 rw [e,wz fun p hp z=>hi.ne p hp (z▸List.mem_cons_self)]
 rfl
theorem z8 {m k:Nat} {row:List Int} {ps:List E4} {b:Bool} {y:T} (e1:jK m k row=ps):(ps.map s8).length+(br (if b=true then(1:Int) else 0).toNat y).length≤sizeLine:=by
 rw [a9,gQ,←e1]
 exact a8 (aU (qB m k row) (nS b).2.2) (by decide)
theorem IZ {m k:Nat} (h:decide ((k:Int) > 6)=true):EV m k=(if((m:Int).fmod 3==0)=true then 1 else 0):=by unfold EV;rw [h];rfl
theorem IY {m k:Nat} (h:decide ((k:Int) > 6)=false):EV m k=(if false=true then 1 else 0):=by unfold EV;rw [h];rfl
theorem u8 {m:Nat} {q:List Int×Nat} {l:List (List Int×Nat)} {tb:ew} (hi:C3 m (q::l) tb):fit (tb.map fun p=>(kT p.1,iN p.2)).length=true:=by
 rw [a9,←a9 (f:=fun p:List Int×List E4=>kT p.1)]
 exact aV (f:=fun p:List Int×List E4=>kT p.1) (a8 (av _ _) hi.len) rfl
set_option maxHeartbeats 2000000 in
theorem ve {C:Cx} (F:de C) {m:Nat} (hm:m < 1000000):dE C 6 (.ref 699) [.int (m:Int)] (.t (rP (bR m))):=by
 walk_at "a"
 refine bA F ["mask"] rfl rfl rfl (fun _=>rfl) rfl ?_
 walk_at "k"
 refine nQ (ts':=nX.zipIdx.map fun p=> .tup [.int (p.2:Int),kT p.1]) (by walk_at "r") ?_
 refine fU (σ:=ew) (fun _=>rTb m none none none) (fun tb=>KE tb []) (C3 m) nX.zipIdx [] ⟨fun _ h=>h,by decide+kernel,fun p hp=>absurd hp cC,al rfl,rfl⟩ ?_ ?_
 · rintro q l tb hi Qt hQ
   have hq:=B5 (hi.sub q (.head _))
   obtain⟨row,kk⟩:=q
   obtain⟨c,r,er⟩:∃c r,row=c::r:=by
    cases e:row with
    | nil=>exact absurd e hq.2.1
    | cons c r=>exact⟨c,r,rfl⟩
   have hrow:(row.map T.int)[(0:Int).toNat]? =some (.int (row.headD 0)):=by rw [er];rfl
   have k10:kk < 10:=hq.1
   walk_at "i"
   refine IfW.cut (gi m kk) (KE tb []) (fun K h=>?_) ?_
   · walk_at "b"
     refine Cv (AK (fun K h=>?_) (AK (fun K h=>?_) Fu)) h
     · walk_at "k"
       exact h
     · walk_at "k"
       refine aA (Hx k10) ?_
       walk_at "k"
       refine aA (DQ k10) ?_
       walk_at "k"
       exact h
   walk_at "k"
   refine cn (fun qb=>?_) fun qb=>?_
   · walk_at "s"
     refine StW.cutC KH (KL m kk row) (KF tb (uK kk)) (fun Q' (h:Jf m kk row tb Q' _)=>?_) ?_
     · walk_at "k"
       refine aA (c9.mpr (.inr rfl)) ?_
       walk_at "k"
       refine aA (c9.mpr (.inr rfl)) ?_
       walk_at "k"
       refine h _ _ ?_
       walk_at "k"
       exact⟨(by walk_at "r"),(by walk_at "r")⟩
     walk_at "s"
     refine StW.cutC KH (KL m kk row) (KF tb (nA kk row)) (fun Q' (h:Jf m kk row tb Q' _)=>?_) ?_
     · have h:=jV (Jf m kk row tb Q') h
       walk_at "k"
       refine bw hrow ?_
       walk_at "k"
       refine cn (fun qc=>?_) fun qc=>?_
       · walk_at "k"
         refine h.1 qc _ _ ?_
         walk_at "k"
         exact⟨(by walk_at "r"),(by walk_at "r")⟩
       · walk_at "k"
         refine h.2 qc _ _ ?_
         walk_at "k"
         exact⟨(by walk_at "r"),(by walk_at "r")⟩
     walk_at "s"
     refine StW.cutC KH (KL m kk row) (KF tb (m7 kk row)) (fun Q' (h:Jf m kk row tb Q' _)=>?_) ?_
     · have h:=jV (Jf m kk row tb Q') h
       walk_at "k"
       refine jJ (EU row [45]) (by walk_at "r") (by walk_at "r") ?_
       walk_at "k"
       refine cn (fun qc=>?_) fun qc=>?_
       · walk_at "k"
         refine h.1 qc _ _ ?_
         walk_at "k"
         exact⟨(by walk_at "r"),(by walk_at "r")⟩
       · walk_at "k"
         refine h.2 qc _ _ ?_
         walk_at "k"
         exact⟨(by walk_at "r"),(by walk_at "r")⟩
     walk_at "k"
     refine jJ (EU row [803]) (by walk_at "r") (by walk_at "r") ?_
     walk_at "k"
     refine cn (fun qc=>?_) fun qc=>?_
     · have pe:jK m kk row=xZ.getD (((m:Int).fdiv 7).fmod 4).toNat []:=cH qc
       have e4:kk=4:=hq.2.2 (of_decide_eq_true qc)
       walk_at "k"
       refine aA (by rw [Fs];exact cy (cN (gb _ (by decide)) (by decide:4 < 16777216))) ?_
       walk_at "k"
       refine bw (show(xZ.map iN)[(((m:Int).fdiv 7).fmod 4).toNat]? =some (iN (xZ.getD (((m:Int).fdiv 7).fmod 4).toNat [])) from eR Ht) ?_
       subst e4
       walk_at "k"
       refine⟨_,rr (nS _).1 (nS _).2.1,?_⟩
       walk_at "k"
       refine⟨_,fS (z8 pe),?_⟩
       walk_at "k"
       refine⟨.tup,ir,gc row,?_⟩
       walk_at "k"
       refine aA (u8 hi) ?_
       walk_at "k"
       refine hQ _ (hi.put qb) _ _ ?_
       walk_at "k"
       exact⟨(by walk_at "r"),u7 (k:=4) (x:=if false=true then 1 else 0) hi pe rfl⟩
     · have pe:jK m kk row=m7 kk row:=bS qc
       walk_at "k"
       refine cn (fun qd=>?_) fun qd=>?_
       · walk_at "k"
         refine⟨_,rr (nS _).1 (nS _).2.1,?_⟩
         walk_at "k"
         refine⟨_,fS (z8 pe),?_⟩
         walk_at "k"
         refine⟨.tup,ir,gc row,?_⟩
         walk_at "k"
         refine aA (u8 hi) ?_
         walk_at "k"
         refine hQ _ (hi.put qb) _ _ ?_
         walk_at "k"
         exact⟨(by walk_at "r"),u7 hi pe (IZ qd)⟩
       · walk_at "k"
         refine⟨_,rr (nS _).1 (nS _).2.1,?_⟩
         walk_at "k"
         refine⟨_,fS (z8 pe),?_⟩
         walk_at "k"
         refine⟨.tup,ir,gc row,?_⟩
         walk_at "k"
         refine aA (u8 hi) ?_
         walk_at "k"
         refine hQ _ (hi.put qb) _ _ ?_
         walk_at "k"
         exact⟨(by walk_at "r"),u7 hi pe (IY qd)⟩
   · walk_at "k"
     refine hQ tb (hi.skip qb) _ _ ?_
     walk_at "k"
     exact⟨(by walk_at "r"),(by walk_at "r")⟩
 · intro tb hi
   have e:tb=bR m:=hi.eq
   walk_at "k"
   exact e▸rfl
 walk_at "z"
theorem pW {C:Cx} (F:de C) {a f:Addr} (h:ku.lookup a=some f):Mk C a f:=F.cls (a,f) (dy h)
noncomputable def AH:List Str:=["how","strength","is_backwards"].map ac
noncomputable def AG (how:Str) (st:Int) (bk:Bool):List (T×V):=[(.str "factors", .t (.tup [.int 1, .int 1, .int 1])),(.str "how", .t (.str how)),(.str "strength", .t (.int st)),(.str "is_backwards", .t (.bool bk)),(.str "case_first", .t (.str "")),(.str "has_case_level", .t (.bool false)),(.str "is_numeric", .t (.bool false)),(.str "reorder", .t .none)]
theorem pT {C:Cx} (F:de C) (how:Str) (st:Int) (bk:Bool):dZ C 4 (.ref 214) (Li AH) [.t (.str how), .t (.int st), .t (.bool bk)] [] fun v H=>v= .iref 214 1∧H=[(1, .dict (AG how st bk))]:=by
 refine dZ.canon rfl (dZ.make F.f (pW F rfl) 1 (ig F (vs:=[.iref 214 1, .t _, .t _, .t _]) [.str "", .bool false, .bool false, .none, .tup [.int 1, .int 1, .int 1]] [.str "" 494, .bool false, .bool false, .none, .ref 203] ["self","how","strength","is_backwards","case_first","has_case_level","is_numeric","reorder","factors"] rfl rfl rfl ?_ rfl (fun _ _ _ _=>(by walk_at "r")) rfl ?_) rfl)
 · have d:=F.dfs (203,_) (dy rfl)
   exact fun p B=> .cons (TR.vri (.str _ _)) (.cons (TR.vri (.bool _)) (.cons (TR.vri (.bool _)) (.cons (TR.vri .none) (.cons (TR.vri (.tup (B.2 _ _ d.1 d.2) (.mk _ 0 (.cons (.int _ _) (.cons (.int _ _) (.cons (.int _ _) .nil)))))) .nil))))
 · walk_at "k"
   refine⟨rfl,?_⟩
   walk_at "k"
   exact⟨(by walk_at "r"),(by walk_at "r")⟩
theorem tA {C:Cx} (F:de C) (f l b:Int):dE C 4 (.ref 382) [.int f, .int l, .int b] (.t (BT f l b)):=by
 refine dZ.make F.f (pW F rfl) 1 (ig F [.none] [.none] ["self","first","last","base","origin"] rfl rfl rfl (fun _ _=> .cons (TR.vri .none) .nil) rfl (fun _ _ _ _=>(by walk_at "r")) rfl ?_) rfl
 walk_at "k"
 refine⟨rfl,?_⟩
 walk_at "k"
 rfl
theorem tB {C:Cx} (F:de C) (f l b:Int):dE C 4 (.ref 382) [.int f, .int l, .int b, .none] (.t (BT f l b)):=by
 refine dZ.make F.f (pW F rfl) 1 (ig F [] [] ["self","first","last","base","origin"] rfl rfl rfl (fun _ _=> .nil) rfl (fun _ _ _ _ _=>(by walk_at "r")) rfl ?_) rfl
 walk_at "k"
 refine⟨rfl,?_⟩
 walk_at "k"
 rfl
noncomputable def LZ (r:Int×Int×Int):T:= .tup [.int r.1, .int r.2.1, .int r.2.2]
noncomputable def sM:List (Int×Int×Int):=ce.drop 1
theorem rY {C:Cx} (F:de C):dE C 4 (.ref 357) [] (.t (.lst (sM.map LZ))):=by
 walk_at "a"
 refine dE.tree (bA F [] rfl rfl rfl rfl rfl ?_)
 walk_at "k"
 refine⟨_,fS (al rfl),?_⟩
 walk_at "k"
 refine⟨_,fS (al rfl),?_⟩
 walk_at "k"
 refine kj.mk ?_
 walk_at "k"
 refine kj.mk ?_
 walk_at "k"
 refine kj.mk ?_
 walk_at "k"
 exact⟨_,(by walk_at "r"),(by walk_at "r")⟩
 walk_at "z"
noncomputable def AI (t l b:Nat):List (T×V):=[(.str "table", .ref t),(.str "longest", .ref l),(.str "factors", .t (.tup [.int 1, .int 1, .int 1])),(.str "bases", .ref b)]
noncomputable def nv (k t l b:Nat) (tb lg:List (T×T)) (bs:List T):Hp:=[(k, .dict (AI t l b)),(t, .tdct tb),(l, .tdct lg),(b, .list bs)]
noncomputable def hV (l:List (Int×Int×Int)):List T:=l.map fun r=>BT r.1 r.2.1 r.2.2
noncomputable def rEl:aF:=[some (.iref 514 1),some (.t (.bool true)),none,none,none,none,none,none,none]
theorem pV {C:Cx} (F:de C) {f l b:Int} {bs:List T} (hz:bs.length≤1000):dZ C 6 (.ref 475) f8 [.iref 514 0, .t (.int f), .t (.int l), .t (.int b)] (nv 0 1 2 3 [] [] bs) fun v H=>v= .t .none∧H=nv 0 1 2 3 [] [] (bs++[BT f l b]):=by
 walk_at "a"
 refine dZ.canon rfl (ig F [.none] [.none] ["self","first","last","base","origin"] rfl rfl rfl (fun _ _=> .cons (TR.vri .none) .nil) rfl (fun _ _ _ _=>(by walk_at "r")) rfl ?_)
 walk_at "k"
 refine bK (tB F f l b) (by walk_at "r") ?_
 walk_at "k"
 refine aA (bu (a8 hz (al rfl))) ?_
 walk_at "k"
 exact⟨(by walk_at "r"),(by walk_at "r")⟩
 walk_at "z"
theorem v7 {C:Cx} (F:de C):dZ C 10 (.ref 514) f8 [] [] fun v H=>v= .iref 514 1∧H=nv 1 100 101 102 [] [] (hV ce):=by
 walk_at "a"
 refine dZ.canon rfl (dZ.make F.f (pW F rfl) 1 (ig F (vs:=[.iref 514 1]) [.bool true] [.bool true] ["self","has_ideographs"] rfl rfl rfl (fun _ _=> .cons (TR.vri (.bool _)) .nil) rfl (fun _=>(by walk_at "r")) rfl ?_) rfl)
 walk_at "k"
 refine bK (tA F 0 1114111 64448) (by walk_at "r") ?_
 walk_at "k"
 refine bK (rY F) (by walk_at "r") ?_
 walk_at "k"
 refine fU (σ:=List (Int×Int×Int)) (fun _=>rEl) (fun s=>nv 1 100 101 102 [] [] (hV s)) (fun l s=>s++l=ce) sM (ce.take 1) (by walk_at "r") ?_ ?_
 · rintro r l s hs Qt hQ
   have hz:(hV s).length≤1000:=by
    have e:s.length+(r::l).length=18:=ak.symm.trans (congrArg i3 hs)
    exact a8 (ae (a9 _)) (a8 (Nat.le.intro e) (by decide))
   walk_at "k"
   refine im (pV F (f:=r.1) (l:=r.2.1) (b:=r.2.2) hz) (by walk_at "r") (by walk_at "r") ?_
   walk_at "k"
   have hb:nv 1 100 101 102 [] [] (hV (s++[r]))=nv 1 100 101 102 [] [] (hV s++[BT r.1 r.2.1 r.2.2]):=congrArg _ ao
   have h2:(s++[r])++l=ce:=(au ..).trans hs
   refine hQ (s++[r]) h2 _ _ ?_
   walk_at "k"
   exact⟨(by walk_at "r"),Eq.trans hb (by walk_at "r")⟩
 · rintro s hs
   have e:s=ce:=(aw _).symm.trans hs
   walk_at "k"
   refine⟨rfl,?_⟩
   walk_at "k"
   rw [e]
   exact⟨(by walk_at "r"),(by walk_at "r")⟩
 walk_at "z"
noncomputable def pQ (tb:ew):List (T×T):=tb.map fun p=>(kT p.1,iN p.2)
noncomputable def qv (lg:List (Int×Int)):List (T×T):=lg.map fun p=>(T.int p.1,T.int p.2)
noncomputable def Bb (c v:Int) (l:List (Int×Int)):List (Int×Int):=bif l.any (fun p=>p.1==c) then l.map (fun p=>bif p.1==c then(p.1,v) else p) else l++[(c,v)]
noncomputable def mQ (lg:List (Int×Int)) (c:Int) (n:Nat):List (Int×Int):=bif decide ((lg.lookup c).getD 0 < (n:Int)) then Bb c (n:Int) lg else lg
theorem zM {α β:Type} {f:α→β} {l:List α} {n:Nat} (h:l.length≤n) (q:dm n 16777216=true):fit (l.map f).length=true:=by
 rw [a9]
 exact bu (a8 h (al q))
theorem Dn {c v:Int} {lg:List (Int×Int)}:gu (qv lg) (.int c) (.int v)=qv (Bb c v lg):=by
 walk_at "a"
 have ek:∀a:Int,gy (T.int a) (T.int c)=(a==c):=fun a=>rfl
 unfold gu Bb qv
 rw [List.any_map]
 show(if lg.any (fun p=>p.1==c)=true then _ else _)=_
 cases lg.any (fun p=>p.1==c) with
 | true=>
  show dL _ (dL _ lg)=dL _ (dL _ lg)
  rw [aO,aO]
  refine iu fun p _=>?_
  show(if(p.1==c)=true then(T.int p.1,T.int v) else(T.int p.1,T.int p.2))=(T.int (bif p.1==c then(p.1,v) else p).1,T.int (bif p.1==c then(p.1,v) else p).2)
  cases p.1==c <;> rfl
 | false=>exact(ao (f:=fun p:Int×Int=>(T.int p.1,T.int p.2)) (l₁:=lg) (l₂:=[(c,v)])).symm
 walk_at "z"
theorem AW {tb:ew} {k:List Int} {el:List E4} {bs:List T} {l2:List (T×T)} {lg:List (Int×Int)} (hn:∀p∈tb,p.1≠k) (e:l2=qv lg):nv 0 1 2 3 (gu (pQ tb) (kT k) (iN el)) l2 bs=nv 0 1 2 3 (pQ (tb++[(k,el)])) (qv lg) bs:=by
 rw [e]
 exact congrArg (fun z=>nv 0 1 2 3 z (qv lg) bs) (wz hn)
theorem Kq {C:Cx} (F:de C) {tb:ew} {lg:List (Int×Int)} {bs:List T} {c:Int} {k:List Int} {el:List E4} (hkl:k.length≤100) (hn:∀p∈tb,p.1≠c::k) (hz:tb.length≤100) (hz2:lg.length≤100) (hel:el.length≤1000):
 dZ C 6 (.ref 434) f8 [.iref 514 0, .t (kT (c::k)), .t (iN el)] (nv 0 1 2 3 (pQ tb) (qv lg) bs) fun v H=>v= .t .none∧H=nv 0 1 2 3 (pQ (tb++[(c::k,el)])) (qv (mQ lg c (k.length+1))) bs:=by
 walk_at "a"
 refine dZ.canon rfl (gf F ["self","codes","elements"] rfl rfl rfl (fun _ _ _=>rfl) rfl ?_)
 walk_at "k"
 refine aA (aV hel rfl) ?_
 walk_at "k"
 refine⟨.tup,ir,gc (c::k),?_⟩
 walk_at "k"
 refine aA (zM hz rfl) ?_
 walk_at "k"
 refine⟨.int,nj,rfl,?_⟩
 walk_at "k"
 refine aA (aV (aH hkl) rfl) ?_
 walk_at "k"
 refine bw w5 ?_
 walk_at "k"
 refine cn (fun h=>?_) fun h=>?_
 · walk_at "k"
   refine aA (aV (aH hkl) rfl) ?_
   walk_at "k"
   refine⟨.int,nj,rfl,?_⟩
   walk_at "k"
   refine aA (zM hz2 rfl) ?_
   walk_at "k"
   rw [a9] at h
   have e:gu (qv lg) (.int c) (.int (((c::k).map T.int).length:Nat))=qv (mQ lg c (k.length+1)):=by
    rw [a9]
    exact Dn.trans (congrArg qv (cH h).symm)
   exact⟨(by walk_at "r"),Eq.trans (by walk_at "r") (AW (k:=c::k) (el:=el) (bs:=bs) hn e)⟩
 · walk_at "k"
   rw [a9] at h
   have e:qv lg=qv (mQ lg c (k.length+1)):=congrArg qv (bS h).symm
   exact⟨(by walk_at "r"),Eq.trans (by walk_at "r") (AW (k:=c::k) (el:=el) (bs:=bs) hn e)⟩
 walk_at "z"
theorem j8 {C:Cx} (F:de C) {a b:Int} {q:Bool} (h:(a==b)=q):dE C 7 (.ref 537) [.int a, .int b] (.t (.bool q)):=by
 walk_at "a"
 refine bA F ["one","other"] rfl rfl rfl (fun _ _=>rfl) rfl ?_
 walk_at "k"
 subst h
 refine cn (fun h=>?_) fun h=>?_
 · rw [h]
   walk_at "k"
   refine⟨_,sR a,?_⟩
   walk_at "k"
   refine⟨_,sR b,?_⟩
   walk_at "k"
   refine jJ (xj rfl rfl) (by walk_at "r") (by walk_at "r") ?_
   walk_at "k"
   rfl
 · rw [h]
   walk_at "k"
   rfl
 walk_at "z"
theorem EB {C:Cx} (F:de C) {ts us:List T} (ha:jC (.tup ts)=true) (hb:jC (.tup us)=true) (h:BX (.tup ts) (.tup us)=false):dE C 7 (.ref 537) [.tup ts, .tup us] (.t (.bool false)):=by
 refine bA F ["one","other"] rfl rfl rfl (fun _ _=>rfl) rfl ?_
 walk_at "k"
 refine jJ (h▸xj ha hb) (by walk_at "r") (by walk_at "r") ?_
 walk_at "k"
 rfl
theorem s7 {C:Cx} (F:de C) {us:List T} (hb:jC (.tup us)=true):dE C 7 (.ref 537) [.none, .tup us] (.t (.bool false)):=by
 refine bA F ["one","other"] rfl rfl rfl (fun _ _=>rfl) rfl ?_
 walk_at "k"
 refine jJ (xj rfl hb) (by walk_at "r") (by walk_at "r") ?_
 walk_at "k"
 rfl
noncomputable def BV (d:T) (s v:Nat):List (T×V):=[(.str "default", .t d),(.str "starts", .ref s),(.str "values", .ref v)]
noncomputable def oa (d:T) (k s v:Nat) (S:List Int) (vs:List T):Hp:=[(k, .dict (BV d s v)),(s, .list (S.map .int)),(v, .list vs)]
theorem pG {C:Cx} (F:de C) {d:T}:dZ C 5 (.ref 580) f8 [.t d] [] fun v H=>v= .iref 580 1∧H=oa d 1 100 101 [0] [d]:=by
 refine dZ.canon rfl (dZ.make F.f (pW F rfl) 1 (r4 F (vs:=[.iref 580 1, .t _]) ["self","default"] rfl rfl rfl (fun _ _=>rfl) rfl ?_) rfl)
 walk_at "k"
 refine⟨rfl,?_⟩
 walk_at "k"
 exact⟨(by walk_at "r"),(by walk_at "r")⟩
noncomputable def yQ (d:T) (S:List Int) (vs:List T) (S2:List Int) (vs2:List T):Hp:=[(0, .dict (BV d 100 101)),(1, .frz (iL S)),(2, .list vs),(100, .list (S2.map .int)),(101, .list vs2)]
noncomputable def rRm (x:Int) (v:T) (l h:Nat) (bh:T):aF:=[some (.iref 580 0),some (.t (.int x)),some (.t (.int x)),some (.t v),some (.t (.int ((l:Int)+1))),some (.t (.int ((h:Int)+1))),some (.t bh),some (.ref 100),some (.ref 101),none,none,none]
noncomputable def hRm (d:T) (S:List Int) (vs:List T) (A:List Int) (B:List T):Hp:=[(0, .dict (BV d 1 2)),(1, .frz (iL S)),(2, .list vs),(100, .list (A.map .int)),(101, .list B)]
noncomputable def K5 (x:Int) (b:Bool):List Int:=bif b then [x+1] else [x,x+1]
noncomputable def Iw (v bh:T) (b:Bool):List T:=bif b then [bh] else [v,bh]
theorem DK {ts:List T} {j:Nat} (h:j≤ts.length):cJ ts none (some (j:Int))=ts.take j:=by
 have z:=rD (f:=fun x:T=>x) h
 rwa [List.map_id',List.map_id'] at z
theorem DJ {ts:List T} {j:Nat} (h:j≤ts.length):cJ ts (some (j:Int)) none=ts.drop j:=by
 have z:=kK (f:=fun x:T=>x) h
 rwa [List.map_id',List.map_id'] at z
theorem vn {C:Cx} {a b c:List T} (h:a++b=c) (hz:c.length≤1000):eP C (binaryOp .Add) (.lst a) (.lst b) (.lst c):=by
 subst h
 exact fS (a8 (ae ak.symm) (a8 hz (by decide)))
theorem vx {α:Type} {l:List α} {a:List α} {i j:Nat} (hz:l.length≤100) (ha:a.length≤2):(l.take i++a).length≤1000∧(l.take i++a++l.drop j).length≤1000:=by
 have h1:(l.take i).length≤100:=a8 (List.length_take_le' _ _) hz
 have h2:(l.drop j).length≤100:=a8 (a8 (ae aT) (eJ _ _)) hz
 have h3:(l.take i++a).length≤102:=a8 (ae ak) (aU h1 ha)
 exact⟨a8 h3 (by decide),a8 (ae ak) (a8 (aU h3 h2) (by decide))⟩
theorem KV {α:Type} {f:α→T} {l:List α} {a:List α} {i j:Nat} {x y:List T} (e1:x=(l.take i).map f) (e2:y=(l.drop j).map f):x++a.map f=(l.take i++a).map f∧(l.take i++a).map f++y=(l.take i++a++l.drop j).map f:=by
 subst e1
 subst e2
 exact⟨ao.symm,ao.symm⟩
theorem ED {C:Cx} (F:de C) {d:T} {S:List Int} {vs:List T} {x:Int} {v:T} {l h:Nat} {bh lw:T} {b2:Bool} (hx:x < 1114111) (hz:S.length≤100) (hv:vs.length=S.length)
 (hlow:dE C 7 (.ref 61) [iL S, .int (x - 1)] (.t (.int (l:Int)))) (hhigh:dE C 7 (.ref 61) [iL S, .int (x+1)] (.t (.int (h:Int)))) (hl:l < S.length) (hh:h < S.length)
 (hb:vs[h]? =some bh) (h1:dE C 7 (.ref 537) [bh,v] (.t (.bool false))) (hlw:vs[l]? =some lw) (h2:dE C 7 (.ref 537) [lw,v] (.t (.bool b2))):
 dZ C 8 (.ref 565) f8 [.iref 580 0, .t (.int x), .t (.int x), .t v] (oa d 0 1 2 S vs) fun r H=>r= .t .none∧H=yQ d S vs (S.take (l+1)++K5 x b2++S.drop (h+1)) (vs.take (l+1)++Iw v bh b2++vs.drop (h+1)):=by
 walk_at "a"
 refine dZ.canon rfl (gf F ["self","first","last","value"] rfl rfl rfl (fun _ _ _ _=>rfl) rfl ?_)
 have e1 (n:Nat):(n:Int)+1 - 1=n:=g8 ..
 have i1 {n:Nat} (q:n < S.length):oS ((n:Int)+1 - 1)=true:=by rw [e1];exact cy (aq q (a8 hz (by decide)))
 walk_at "k"
 refine pJ (decide_eq_false (Int.lt_irrefl x)) ?_
 walk_at "k"
 refine bK hlow (by walk_at "r") ?_
 walk_at "k"
 refine bK hhigh (by walk_at "r") ?_
 walk_at "k"
 refine aA (i1 hh) ?_
 walk_at "k"
 refine bw (by rw [e1];exact hb) ?_
 walk_at "k"
 refine aA (decide_eq_true hx) ?_
 walk_at "k"
 refine bK h1 (by walk_at "r") ?_
 walk_at "s"
 refine .mk ?_
 walk_at "s"
 refine .mk ?_
 walk_at "s"
 refine StW.cutC [true,true,true,true,true,true,true,true,true,true,true,true] (rRm x v l h bh) (hRm d S vs (K5 x b2) (Iw v bh b2)) (fun Q' hQ=>?_) ?_
 · walk_at "k"
   refine aA (decide_eq_true (Int.lt_add_one_of_le (bP l))) ?_
   walk_at "k"
   refine aA (i1 hl) ?_
   walk_at "k"
   refine bw (by rw [e1];exact hlw) ?_
   walk_at "k"
   refine bK h2 (by walk_at "r") ?_
   cases b2 with
   | false=>
    walk_at "k"
    refine hQ _ _ ?_
    walk_at "k"
    exact⟨(by walk_at "r"),(by walk_at "r")⟩
   | true=>
    walk_at "k"
    refine hQ _ _ ?_
    walk_at "k"
    exact⟨(by walk_at "r"),(by walk_at "r")⟩
 have la:(K5 x b2).length≤2:=by cases b2 <;> exact al rfl
 have lb:(Iw v bh b2).length≤2:=by cases b2 <;> exact al rfl
 have hz2:vs.length≤100:=a8 (ae hv) hz
 have c1:=vx (i:=l+1) (j:=h+1) hz la
 have c2:=vx (i:=l+1) (j:=h+1) hz2 lb
 have p1:=KV (f:=T.int) (a:=K5 x b2) (rD (f:=T.int) (l:=S) (j:=l+1) hl) (kK (f:=T.int) (l:=S) (j:=h+1) hh)
 have hl2:l+1≤vs.length:=hv▸hl
 have hh2:h+1≤vs.length:=hv▸hh
 walk_at "k"
 refine aA (aV hz rfl) ?_
 walk_at "k"
 refine⟨_,vn p1.1 (a8 (ae (a9 ..)) c1.1),?_⟩
 walk_at "k"
 refine aA (aV hz rfl) ?_
 walk_at "k"
 refine⟨_,vn p1.2 (a8 (ae (a9 ..)) c1.2),?_⟩
 walk_at "k"
 refine aA (gE (a8 hz2 (by decide))) ?_
 walk_at "k"
 refine⟨_,vn (congrArg (· ++Iw v bh b2) (DK hl2)) c2.1,?_⟩
 walk_at "k"
 refine aA (gE (a8 hz2 (by decide))) ?_
 walk_at "k"
 refine⟨_,vn (congrArg ((vs.take (l+1)++Iw v bh b2)++ ·) (DJ hh2)) c2.2,?_⟩
 walk_at "k"
 exact⟨(by walk_at "r"),(by walk_at "r")⟩
 walk_at "z"
noncomputable def zT (v:T) (l:List Str) (es:List (T×T)):List (T×T):=l.foldl (fun es x=>gu es (.str x) v) es
noncomputable def Lx:List Str:=["gcb","wb","sb"].map ac
noncomputable def Ly:List Str:=["ex","sd","cased","ci","ep","di","ids","idc","xids","xidc","pat_syn","pat_ws","idst"].map ac
noncomputable def Lz:List Str:=["dm","uc","lc","tc","cf","bm","bpb","scx","nt","nv","name","conf","nfkc_cf"].map ac
noncomputable def LA:List Str:=["suc","slc","stc","alias"].map ac
noncomputable def Gs:List (T×T):=vy.take 8
noncomputable def zC:List (T×T):=zT (.str "Other") Lx Gs
noncomputable def zD:List (T×T):=zT (.bool false) Ly zC
noncomputable def zE:List (T×T):=zT .none Lz zD
noncomputable def Gu:List (T×T):=zT (.tup []) LA zE
structure BY (v:T) (G:List (T×T)) (l:List Str) (es:List (T×T)):Prop where
 ok:cR .str es=true
 len:es.length+l.length≤60
 eq:zT v l es=G
theorem BY.fits {v:T} {G es:List (T×T)} {x:Str} {l:List Str} (h:BY v G (x::l) es):fit es.length=true:=gE (a8 (a8 (av _ _) h.len) (by decide))
theorem BY.step {v:T} {G es:List (T×T)} {x:Str} {l:List Str} (h:BY v G (x::l) es):BY v G l (gu es (.str x) v):=by
 refine⟨?_,?_,h.eq⟩
 · have ok:=h.ok
   unfold cR gu at*
   split
   · rw [kc]
     refine aj.mpr fun e he=>?_
     have:=aj.mp ok e he
     show dg .str (if gy e.1 (.str x)=true then(e.1,v) else e).1=true
     split <;> exact this
   · rw [List.all_append,ok];rfl
 · have z:(gu es (.str x) v).length≤es.length+1:=by
    unfold gu
    split
    · exact bG (ae (a9 _))
    · exact ae ak
   exact a8 (aQ z _) (a8 (ae (bz _ _ _)) h.len)
noncomputable def DR:aF:=[some (.ref 100),none]
noncomputable def zW (es:List (T×T)):Hp:=[(100, .tdct es)]
theorem pC {C:Cx} (F:de C):dE C 5 (.ref 598) [] (.t (.dct vy)):=by
 walk_at "a"
 refine bA F [] rfl rfl rfl rfl rfl ?_
 walk_at "s"
 refine StW.cut DR (zW Gs) (fun Q' h=>?_) ?_
 · walk_at "k"
   exact uh h (by walk_at "r") (by walk_at "r")
 walk_at "s"
 refine StW.cut DR (zW zC) (fun Q' h=>?_) ?_
 · walk_at "s"
   refine nQ (ts':=Lx.map T.str) (by walk_at "r") ?_
   refine fU (σ:=List (T×T)) (fun _=>DR) zW (BY (.str "Other") zC) Lx Gs ⟨(by walk_at "r"),(al (by walk_at "r")),rfl⟩ ?_ ?_
   · rintro x l es hi Qt hQ
     walk_at "k"
     refine⟨.str,hi.ok,rfl,?_⟩
     walk_at "k"
     refine aA hi.fits ?_
     walk_at "k"
     refine hQ _ hi.step _ _ ?_
     walk_at "k"
     exact⟨(by walk_at "r"),(by walk_at "r")⟩
   · rintro es hi
     rw [show es=zC from hi.eq]
     walk_at "k"
     exact h
 walk_at "s"
 refine StW.cut DR (zW zD) (fun Q' h=>?_) ?_
 · walk_at "s"
   refine nQ (ts':=Ly.map T.str) (by walk_at "r") ?_
   refine fU (σ:=List (T×T)) (fun _=>DR) zW (BY (.bool false) zD) Ly zC ⟨(by walk_at "r"),(al (by walk_at "r")),rfl⟩ ?_ ?_
   · rintro x l es hi Qt hQ
     walk_at "k"
     refine⟨.str,hi.ok,rfl,?_⟩
     walk_at "k"
     refine aA hi.fits ?_
     walk_at "k"
     refine hQ _ hi.step _ _ ?_
     walk_at "k"
     exact⟨(by walk_at "r"),(by walk_at "r")⟩
   · rintro es hi
     rw [show es=zD from hi.eq]
     walk_at "k"
     exact h
 walk_at "s"
 refine StW.cut DR (zW zE) (fun Q' h=>?_) ?_
 · walk_at "s"
   refine nQ (ts':=Lz.map T.str) (by walk_at "r") ?_
   refine fU (σ:=List (T×T)) (fun _=>DR) zW (BY .none zE) Lz zD ⟨(by walk_at "r"),(al (by walk_at "r")),rfl⟩ ?_ ?_
   · rintro x l es hi Qt hQ
     walk_at "k"
     refine⟨.str,hi.ok,rfl,?_⟩
     walk_at "k"
     refine aA hi.fits ?_
     walk_at "k"
     refine hQ _ hi.step _ _ ?_
     walk_at "k"
     exact⟨(by walk_at "r"),(by walk_at "r")⟩
   · rintro es hi
     rw [show es=zE from hi.eq]
     walk_at "k"
     exact h
 walk_at "s"
 refine StW.cut DR (zW Gu) (fun Q' h=>?_) ?_
 · walk_at "s"
   refine nQ (ts':=LA.map T.str) (by walk_at "r") ?_
   refine fU (σ:=List (T×T)) (fun _=>DR) zW (BY (.tup []) Gu) LA zE ⟨(by walk_at "r"),(al (by walk_at "r")),rfl⟩ ?_ ?_
   · rintro x l es hi Qt hQ
     walk_at "k"
     refine⟨.str,hi.ok,rfl,?_⟩
     walk_at "k"
     refine aA hi.fits ?_
     walk_at "k"
     refine hQ _ hi.step _ _ ?_
     walk_at "k"
     exact⟨(by walk_at "r"),(by walk_at "r")⟩
   · rintro es hi
     rw [show es=Gu from hi.eq]
     walk_at "k"
     exact h
 walk_at "k"
 refine⟨.str,(by walk_at "r"),(by walk_at "r"),?_⟩
 walk_at "k"
 exact(by walk_at "r")
 walk_at "z"
noncomputable def L1 (m p w:Nat):List (T×V):=[(.str "defaults", .t (.dct vy)),(.str "maps", .ref m),(.str "properties", .ref p),(.str "words", .ref w)]
theorem I3 {C:Cx} (F:de C):dZ C 8 (.ref 636) f8 [] [] fun v H=>v= .iref 636 1∧H=[(1, .dict (L1 100 101 102)),(100, .tdct []),(101, .tdct []),(102, .tdct [])]:=by
 refine dZ.canon rfl (dZ.make F.f (pW F rfl) 1 (r4 F (vs:=[.iref 636 1]) ["self"] rfl rfl rfl (fun _=>rfl) rfl ?_) rfl)
 walk_at "k"
 refine bK (pC F) (by walk_at "r") ?_
 walk_at "k"
 refine⟨rfl,?_⟩
 walk_at "k"
 exact⟨(by walk_at "r"),(by walk_at "r")⟩
noncomputable def tI (k m p w:Nat) (o:O) (R:Hp):Hp:=(k, .dict (L1 m p w))::(m,o)::(p, .tdct [])::(w, .tdct [])::R
noncomputable def oB (c:Nat):O:= .dict [(.str "ccc", .iref 580 c)]
noncomputable def oC (c d:Nat):O:= .dict [(.str "ccc", .iref 580 c),(.str "dm", .iref 580 d)]
theorem I5 {C:Cx} (F:de C):dZ C 8 (.ref 633) f8 [.iref 636 0, .t (.str "ccc")] (tI 0 1 2 3 (.tdct []) []) fun v H=>v= .iref 580 100∧H=tI 0 1 2 3 (oB 100) (oa (.int 0) 100 101 102 [0] [.int 0]):=by
 walk_at "a"
 refine dZ.canon rfl (gf F ["self","name"] rfl rfl rfl (fun _ _=>rfl) rfl ?_)
 walk_at "k"
 refine⟨.str,(by walk_at "r"),(by walk_at "r"),?_⟩
 walk_at "k"
 refine⟨.str,(by walk_at "r"),(by walk_at "r"),?_⟩
 walk_at "k"
 refine im (pG F (d:= .int 0)) (by walk_at "r") (by walk_at "r") ?_
 walk_at "k"
 refine⟨.str,(by walk_at "r"),(by walk_at "r"),?_⟩
 walk_at "k"
 refine⟨.str,(by walk_at "r"),(by walk_at "r"),?_⟩
 walk_at "k"
 exact⟨(by walk_at "r"),(by walk_at "r")⟩
 walk_at "z"
theorem I6 {C:Cx} (F:de C) {S:List Int} {vs:List T}:dZ C 8 (.ref 633) f8 [.iref 636 0, .t (.str "ccc")] (tI 0 1 2 3 (oB 4) (oa (.int 0) 4 5 6 S vs)) fun v H=>v= .iref 580 4∧H=tI 0 1 2 3 (oB 4) (oa (.int 0) 4 5 6 S vs):=by
 refine dZ.canon rfl (gf F ["self","name"] rfl rfl rfl (fun _ _=>rfl) rfl ?_)
 walk_at "k"
 refine⟨.str,(by walk_at "r"),(by walk_at "r"),?_⟩
 walk_at "k"
 refine⟨.str,(by walk_at "r"),(by walk_at "r"),?_⟩
 walk_at "k"
 exact⟨(by walk_at "r"),(by walk_at "r")⟩
theorem I7 {C:Cx} (F:de C) {S:List Int} {vs:List T}:dZ C 8 (.ref 633) f8 [.iref 636 0, .t (.str "dm")] (tI 0 1 2 3 (oB 4) (oa (.int 0) 4 5 6 S vs)) fun v H=>v= .iref 580 100∧H=tI 0 1 2 3 (oC 4 100) (oa (.int 0) 4 5 6 S vs++oa .none 100 101 102 [0] [.none]):=by
 walk_at "a"
 refine dZ.canon rfl (gf F ["self","name"] rfl rfl rfl (fun _ _=>rfl) rfl ?_)
 walk_at "k"
 refine⟨.str,(by walk_at "r"),(by walk_at "r"),?_⟩
 walk_at "k"
 refine⟨.str,(by walk_at "r"),(by walk_at "r"),?_⟩
 walk_at "k"
 refine im (pG F (d:= .none)) (by walk_at "r") (by walk_at "r") ?_
 walk_at "k"
 refine⟨.str,(by walk_at "r"),(by walk_at "r"),?_⟩
 walk_at "k"
 refine⟨.str,(by walk_at "r"),(by walk_at "r"),?_⟩
 walk_at "k"
 exact⟨(by walk_at "r"),(by walk_at "r")⟩
 walk_at "z"
noncomputable def mpG (d:T) (k s v s2 v2:Nat) (S:List Int) (vs:List T):Hp:=[(k, .dict (BV d s2 v2)),(s, .frz (iL S)),(v, .list vs)]
theorem I9 {C:Cx} (F:de C) {S2:List Int} {vs2:List T} {x:Int} {v:T} (hp:dZ C 8 (.ref 565) f8 [.iref 580 0, .t (.int x), .t (.int x), .t v] (oa (.int 0) 0 1 2 [0] [.int 0]) fun r H=>r= .t .none∧H=yQ (.int 0) [0] [.int 0] S2 vs2):
 dZ C 10 (.ref 619) f8 [.iref 636 0, .t (.str "ccc"), .t (.int x), .t (.int x), .t v] (tI 0 1 2 3 (.tdct []) []) fun r H=>r= .t .none∧H=tI 0 1 2 3 (oB 100) (oa (.int 0) 100 101 102 S2 vs2):=by
 walk_at "a"
 refine dZ.canon rfl (gf F ["self","name","first","last","value"] rfl rfl rfl (fun _ _ _ _ _=>rfl) rfl ?_)
 walk_at "k"
 refine im (I5 F) (by walk_at "r") (by walk_at "r") ?_
 walk_at "k"
 refine im hp (by walk_at "r") (by walk_at "r") ?_
 walk_at "k"
 exact⟨(by walk_at "r"),(by walk_at "r")⟩
 walk_at "z"
theorem vg {C:Cx} (F:de C) {S S2:List Int} {vs vs2:List T} {x:Int} {v:T} (hp:dZ C 8 (.ref 565) f8 [.iref 580 0, .t (.int x), .t (.int x), .t v] (oa (.int 0) 0 1 2 S vs) fun r H=>r= .t .none∧H=yQ (.int 0) S vs S2 vs2):
 dZ C 10 (.ref 619) f8 [.iref 636 0, .t (.str "ccc"), .t (.int x), .t (.int x), .t v] (tI 0 1 2 3 (oB 4) (oa (.int 0) 4 5 6 S vs)) fun r H=>r= .t .none∧H=mpG (.int 0) 4 5 6 100 101 S vs++tI 0 1 2 3 (oB 4) [(100, .list (S2.map .int)),(101, .list vs2)]:=by
 walk_at "a"
 refine dZ.canon rfl (gf F ["self","name","first","last","value"] rfl rfl rfl (fun _ _ _ _ _=>rfl) rfl ?_)
 walk_at "k"
 refine im (I6 F (S:=S) (vs:=vs)) (by walk_at "r") (by walk_at "r") ?_
 walk_at "k"
 refine im hp (by walk_at "r") (by walk_at "r") ?_
 walk_at "k"
 exact⟨(by walk_at "r"),(by walk_at "r")⟩
 walk_at "z"
theorem Ia {C:Cx} (F:de C) {S2 vc1:List Int} {vs2 vc2:List T} {x:Int} {v:T} (hp:dZ C 8 (.ref 565) f8 [.iref 580 0, .t (.int x), .t (.int x), .t v] (oa .none 0 1 2 [0] [.none]) fun r H=>r= .t .none∧H=yQ .none [0] [.none] S2 vs2):
 dZ C 10 (.ref 619) f8 [.iref 636 0, .t (.str "dm"), .t (.int x), .t (.int x), .t v] (tI 0 1 2 3 (oB 4) (oa (.int 0) 4 5 6 vc1 vc2)) fun r H=>r= .t .none∧H=tI 0 1 2 3 (oC 4 100) (oa (.int 0) 4 5 6 vc1 vc2++oa .none 100 101 102 S2 vs2):=by
 walk_at "a"
 refine dZ.canon rfl (gf F ["self","name","first","last","value"] rfl rfl rfl (fun _ _ _ _ _=>rfl) rfl ?_)
 walk_at "k"
 refine im (I7 F (S:=vc1) (vs:=vc2)) (by walk_at "r") (by walk_at "r") ?_
 walk_at "k"
 refine im hp (by walk_at "r") (by walk_at "r") ?_
 walk_at "k"
 exact⟨(by walk_at "r"),(by walk_at "r")⟩
 walk_at "z"
noncomputable def Lb (vc1:List Int) (vc2:List T) (S:List Int) (vs:List T):Hp:=tI 0 1 2 3 (oC 4 5) [(4, .dict (BV (.int 0) 6 7)),(5, .dict (BV .none 8 9)),(6, .list (vc1.map .int)),(7, .list vc2),(8, .list (S.map .int)),(9, .list vs)]
theorem I8 {C:Cx} (F:de C) {S vc1:List Int} {vs vc2:List T}:dZ C 8 (.ref 633) f8 [.iref 636 0, .t (.str "dm")] (Lb vc1 vc2 S vs) fun v H=>v= .iref 580 5∧H=Lb vc1 vc2 S vs:=by
 walk_at "a"
 refine dZ.canon rfl (gf F ["self","name"] rfl rfl rfl (fun _ _=>rfl) rfl ?_)
 walk_at "k"
 refine⟨.str,(by walk_at "r"),(by walk_at "r"),?_⟩
 walk_at "k"
 refine⟨.str,(by walk_at "r"),(by walk_at "r"),?_⟩
 walk_at "k"
 exact⟨(by walk_at "r"),(by walk_at "r")⟩
 walk_at "z"
theorem Ib {C:Cx} (F:de C) {S S2 vc1:List Int} {vs vs2 vc2:List T} {x:Int} {v:T} (hp:dZ C 8 (.ref 565) f8 [.iref 580 0, .t (.int x), .t (.int x), .t v] (oa .none 0 1 2 S vs) fun r H=>r= .t .none∧H=yQ .none S vs S2 vs2):
 dZ C 10 (.ref 619) f8 [.iref 636 0, .t (.str "dm"), .t (.int x), .t (.int x), .t v] (Lb vc1 vc2 S vs) fun r H=>r= .t .none∧H=(5, .dict (BV .none 100 101))::(8, .frz (iL S))::(9, .list vs)::tI 0 1 2 3 (oC 4 5) [(4, .dict (BV (.int 0) 6 7)),(6, .list (vc1.map .int)),(7, .list vc2),(100, .list (S2.map .int)),(101, .list vs2)]:=by
 walk_at "a"
 refine dZ.canon rfl (gf F ["self","name","first","last","value"] rfl rfl rfl (fun _ _ _ _ _=>rfl) rfl ?_)
 walk_at "k"
 refine im (I8 F (S:=S) (vc1:=vc1) (vs:=vs) (vc2:=vc2)) (by walk_at "r") (by walk_at "r") ?_
 walk_at "k"
 refine im hp (by walk_at "r") (by walk_at "r") ?_
 walk_at "k"
 exact⟨(by walk_at "r"),(by walk_at "r")⟩
 walk_at "z"
theorem AQ {C:Cx} (F:de C) (S:List Int) (x:Int) (k:Nat) (h1:S.Pairwise (· < ·)) (h2:S.length < 1000) (h:S.countP (· ≤x)=k+1):dE C 7 (.ref 61) [iL S, .int x] (.t (.int (k:Int))):=by
 have z:=wN F S x h1 h2
 rw [h] at z
 exact(show dE C 4 (.ref 61) [iL S, .int x] (.t (.int ((k:Int)+1 - 1))) from z) |> fun z=>by rw [g8] at z;exact z.le (by decide)
noncomputable def iV (l:List Int):List T:=l.map .int
theorem Iv {C:Cx} (F:de C) (d:T) (S:List Int) (vs:List T) (x:Int) (v:T) (l h:Nat) (bh lw:T) (b2:Bool) (p:S.Pairwise (· < ·)) (hx:x < 1114111) (hz:S.length≤100) (hv:vs.length=S.length) (cl:S.countP (· ≤x - 1)=l+1) (ch:S.countP (· ≤x+1)=h+1) (hl:l < S.length) (hh:h < S.length)
 (hb:vs[h]? =some bh) (h1:dE C 7 (.ref 537) [bh,v] (.t (.bool false))) (hlw:vs[l]? =some lw) (h2:dE C 7 (.ref 537) [lw,v] (.t (.bool b2))):dZ C 8 (.ref 565) f8 [.iref 580 0, .t (.int x), .t (.int x), .t v] (oa d 0 1 2 S vs) fun r H=>r= .t .none∧H=yQ d S vs (S.take (l+1)++K5 x b2++S.drop (h+1)) (vs.take (l+1)++Iw v bh b2++vs.drop (h+1)):=
 ED F hx hz hv (AQ F S _ _ p (aR hz (by decide)) cl) (AQ F S _ _ p (aR hz (by decide)) ch) hl hh hb h1 hlw h2
theorem Kr {C:Cx} (F:de C):dZ C 8 (.ref 565) f8 [.iref 580 0, .t (.int 768), .t (.int 768), .t (.int 230)] (oa (.int 0) 0 1 2 [0] (iV [0])) fun r H=>r= .t .none∧H=yQ (.int 0) [0] (iV [0]) [0,768,769] (iV [0,230,0]):=
 Iv F (.int 0) [0] (iV [0]) 768 (.int 230) 0 0 (.int 0) (.int 0) false (by decide) (by decide) (by decide) rfl rfl rfl (by decide) (by decide) rfl (j8 F rfl) rfl (j8 F rfl)
theorem Ks {C:Cx} (F:de C):dZ C 8 (.ref 565) f8 [.iref 580 0, .t (.int 769), .t (.int 769), .t (.int 230)] (oa (.int 0) 0 1 2 [0,768,769] (iV [0,230,0])) fun r H=>r= .t .none∧H=yQ (.int 0) [0,768,769] (iV [0,230,0]) [0,768,770] (iV [0,230,0]):=
 Iv F (.int 0) [0,768,769] (iV [0,230,0]) 769 (.int 230) 1 2 (.int 0) (.int 230) true (by decide) (by decide) (by decide) rfl rfl rfl (by decide) (by decide) rfl (j8 F rfl) rfl (j8 F rfl)
theorem Kt {C:Cx} (F:de C):dZ C 8 (.ref 565) f8 [.iref 580 0, .t (.int 803), .t (.int 803), .t (.int 220)] (oa (.int 0) 0 1 2 [0,768,770] (iV [0,230,0])) fun r H=>r= .t .none∧H=yQ (.int 0) [0,768,770] (iV [0,230,0]) [0,768,770,803,804] (iV [0,230,0,220,0]):=
 Iv F (.int 0) [0,768,770] (iV [0,230,0]) 803 (.int 220) 2 2 (.int 0) (.int 0) false (by decide) (by decide) (by decide) rfl rfl rfl (by decide) (by decide) rfl (j8 F rfl) rfl (j8 F rfl)
theorem Ku {C:Cx} (F:de C):dZ C 8 (.ref 565) f8 [.iref 580 0, .t (.int 807), .t (.int 807), .t (.int 202)] (oa (.int 0) 0 1 2 [0,768,770,803,804] (iV [0,230,0,220,0])) fun r H=>r= .t .none∧H=yQ (.int 0) [0,768,770,803,804] (iV [0,230,0,220,0]) [0,768,770,803,804,807,808] (iV [0,230,0,220,0,202,0]):=
 Iv F (.int 0) [0,768,770,803,804] (iV [0,230,0,220,0]) 807 (.int 202) 4 4 (.int 0) (.int 0) false (by decide) (by decide) (by decide) rfl rfl rfl (by decide) (by decide) rfl (j8 F rfl) rfl (j8 F rfl)
theorem Kv {C:Cx} (F:de C):dZ C 8 (.ref 565) f8 [.iref 580 0, .t (.int 224), .t (.int 224), .t yN] (oa .none 0 1 2 [0] [.none]) fun r H=>r= .t .none∧H=yQ .none [0] [.none] [0,224,225] [.none,yN, .none]:=
 Iv F .none [0] [.none] 224 yN 0 0 .none .none false (by decide) (by decide) (by decide) rfl rfl rfl (by decide) (by decide) rfl (s7 F (by walk_at "r")) rfl (s7 F (by walk_at "r"))
theorem Kw {C:Cx} (F:de C):dZ C 8 (.ref 565) f8 [.iref 580 0, .t (.int 225), .t (.int 225), .t Il] (oa .none 0 1 2 [0,224,225] [.none,yN, .none]) fun r H=>r= .t .none∧H=yQ .none [0,224,225] [.none,yN, .none] [0,224,225,226] [.none,yN,Il, .none]:=
 Iv F .none [0,224,225] [.none,yN, .none] 225 Il 1 2 .none yN false (by decide) (by decide) (by decide) rfl rfl rfl (by decide) (by decide) rfl (s7 F (by walk_at "r")) rfl (EB F (by walk_at "r") (by walk_at "r") (by walk_at "r"))
noncomputable def KD (S:List Int) (vs:List T):Hp:=tI 100 101 102 103 (oB 104) (oa (.int 0) 104 105 106 S vs)
noncomputable def hLf (S:List Int) (vs:List T):Hp:=tI 100 101 102 103 (oC 104 105) [(104, .dict (BV (.int 0) 106 107)),(105, .dict (BV .none 108 109)),(106, .list (iV [0,768,770,803,804,807,808])),(107, .list (iV [0,230,0,220,0,202,0])),(108, .list (iV S)),(109, .list vs)]
noncomputable def It (c:Option V):aF:=[some (.iref 636 100),some (.t (.dct fP)),c,none,none,none]
noncomputable def L7:Hp:=[(100, .dict (L1 101 102 103)),(101, .tdct []),(102, .tdct []),(103, .tdct [])]
theorem yE {C:Cx} (F:de C):dE C 12 (.ref 654) [] (.t co):=by
 walk_at "a"
 refine bA F [] rfl rfl rfl rfl rfl ?_
 walk_at "s"
 refine StW.cutC [true,true,true,true,true,true] (It none) L7 (fun Q' h=>?_) ?_
 · walk_at "k"
   refine im (I3 F) (by walk_at "r") (by walk_at "r") ?_
   walk_at "k"
   refine bK (jR F) (by walk_at "r") ?_
   walk_at "k"
   refine h _ _ ?_
   walk_at "k"
   exact⟨(by walk_at "r"),(by walk_at "r")⟩
 walk_at "k"
 refine kj.mk ?_
 walk_at "s"
 refine StW.cutC [true,true,true,true,true,true] (It (some (.t (.int 768)))) (KD [0,768,769] (iV [0,230,0])) (fun Q' h=>?_) ?_
 · walk_at "k"
   refine⟨.int,(by walk_at "r"),(by walk_at "r"),?_⟩
   walk_at "k"
   refine im (I9 F (Kr F)) (by walk_at "r") (by walk_at "r") ?_
   walk_at "k"
   refine h _ _ ?_
   walk_at "k"
   exact⟨(by walk_at "r"),(by walk_at "r")⟩
 walk_at "s"
 refine StW.cutC [true,true,true,true,true,true] (It (some (.t (.int 769)))) (KD [0,768,770] (iV [0,230,0])) (fun Q' h=>?_) ?_
 · walk_at "k"
   refine⟨.int,(by walk_at "r"),(by walk_at "r"),?_⟩
   walk_at "k"
   refine im (vg F (Ks F)) (by walk_at "r") (by walk_at "r") ?_
   walk_at "k"
   refine h _ _ ?_
   walk_at "k"
   exact⟨(by walk_at "r"),(by walk_at "r")⟩
 walk_at "s"
 refine StW.cutC [true,true,true,true,true,true] (It (some (.t (.int 803)))) (KD [0,768,770,803,804] (iV [0,230,0,220,0])) (fun Q' h=>?_) ?_
 · walk_at "k"
   refine⟨.int,(by walk_at "r"),(by walk_at "r"),?_⟩
   walk_at "k"
   refine im (vg F (Kt F)) (by walk_at "r") (by walk_at "r") ?_
   walk_at "k"
   refine h _ _ ?_
   walk_at "k"
   exact⟨(by walk_at "r"),(by walk_at "r")⟩
 walk_at "s"
 refine StW.cutC [true,true,true,true,true,true] (It (some (.t (.int 807)))) (KD [0,768,770,803,804,807,808] (iV [0,230,0,220,0,202,0])) (fun Q' h=>?_) ?_
 · walk_at "k"
   refine⟨.int,(by walk_at "r"),(by walk_at "r"),?_⟩
   walk_at "k"
   refine im (vg F (Ku F)) (by walk_at "r") (by walk_at "r") ?_
   walk_at "k"
   refine h _ _ ?_
   walk_at "k"
   exact⟨(by walk_at "r"),(by walk_at "r")⟩
 walk_at "s"
 refine StW.cutC [true,true,true,true,true,true] (It none) (hLf [0,224,225] [.none,yN, .none]) (fun Q' h=>?_) ?_
 · walk_at "k"
   refine im (Ia F (Kv F)) (by walk_at "r") (by walk_at "r") ?_
   walk_at "k"
   refine h _ _ ?_
   walk_at "k"
   exact⟨(by walk_at "r"),(by walk_at "r")⟩
 walk_at "k"
 refine im (Ib F (vc1:=[0,768,770,803,804,807,808]) (vc2:=iV [0,230,0,220,0,202,0]) (Kw F)) (by walk_at "r") (by walk_at "r") ?_
 walk_at "k"
 exact(by walk_at "r")
 walk_at "z"
theorem xz {c x:Int} {L:List Int}:gF c (x::L)=bif mw x c then x::gF c L else c::x::L:=rfl
theorem q7 {c:Int} {l L:List Int}:gr (c::l) L=gr l (gF c L):=rfl
theorem ye {rk:Int} {A B:List R3}:∀{k:Nat},k≤A.length→fV rk (A++B) k=fV rk A k:=by
 intro k
 induction k with
 | zero=>exact fun _=>rfl
 | succ k ih=>
  intro h
  have e:(A++B).getD k (0,0,0)=A.getD k (0,0,0):=by
   rw [ah,ah,List.getElem?_append_left h]
  show(bif decide (rk > 0)&&decide (((A++B).getD k (0,0,0)).2.2 > rk) then fV rk (A++B) k else k+1)=_
  rw [e,ih (bF h)]
  rfl
theorem sQ {pl:Nat} {A:List R3} {x:R3} {p:Int}:dH pl (A++[x]) p=bif decide (aK p > 0)&&decide (x.2.2 > aK p) then dH pl A p++[x] else A++[x,(p,(pl:Int),aK p)]:=by
 walk_at "a"
 have e:(A++[x]).getD A.length (0,0,0)=x:=by
  rw [ah,List.getElem?_append_right (aB _),Nat.sub_self]
  rfl
 unfold dH
 rw [ak,show fV (aK p) (A++[x]) (A.length+[x].length)=(bif decide (aK p > 0)&&decide (((A++[x]).getD A.length (0,0,0)).2.2 > aK p) then fV (aK p) (A++[x]) A.length else A.length+1) from rfl,e,ye (aB _)]
 cases decide (aK p > 0)&&decide (x.2.2 > aK p) with
 | true=>
  have hle:=AV (aK p) A A.length
  show List.take (fV (aK p) A A.length) (A++[x])++(p,(pl:Int),aK p)::List.drop (fV (aK p) A A.length) (A++[x])=_
  rw [List.take_append_of_le_length hle,List.drop_append_of_le_length hle]
  exact(au (List.take (fV (aK p) A A.length) A) ((p,(pl:Int),aK p)::List.drop (fV (aK p) A A.length) A) [x]).symm
 | false=>
  show List.take (A.length+1) (A++[x])++(p,(pl:Int),aK p)::List.drop (A.length+1) (A++[x])=A++[x,(p,(pl:Int),aK p)]
  have z:(A++[x]).length≤A.length+1:=ae ak
  rw [dz z,bO z,au]
  rfl
 walk_at "z"
def yW (rows:List R3):Prop:=∀r∈rows,r.2.2=aK r.1
theorem ug {pl:Nat} {p:Int} {L:List R3}:yW L→((dH pl L.reverse p).map (·.1)).reverse=gF p (L.map (·.1))∧yW (dH pl L.reverse p):=by
 walk_at "a"
 induction L with
 | nil=>exact fun _=>⟨rfl,fun r hr=>by rw [af.mp hr]⟩
 | cons x L ih=>
  intro h
  obtain⟨i1,i2⟩:=ih fun r hr=>h r (.tail _ hr)
  rw [dN,sQ,bp,xz,h x (.head _),Bool.and_comm]
  rw [show(decide (aK x.1 > aK p)&&decide (aK p > 0))=mw x.1 p from rfl]
  cases mw x.1 p with
  | true=>
   refine⟨?_,fun r hr=>?_⟩
   · show(dL (·.1) (dH pl L.reverse p++[x])).reverse=x.1::gF p (L.map (·.1))
     rw [ao,cF,i1]
     rfl
   · rcases aN.mp hr with hr | hr
     · exact i2 r hr
     · rw [af.mp hr];exact h x (.head _)
  | false=>
   refine⟨?_,fun r hr=>?_⟩
   · show(dL (·.1) (L.reverse++[x,(p,(pl:Int),aK p)])).reverse=p::x.1::L.map (·.1)
     rw [ao,cF,jU,dO]
     rfl
   · rcases aN.mp hr with hr | hr
     · exact h r (.tail _ (ee.mp hr))
     · cases hr with
       | head=>exact h x (.head _)
       | tail _ hr=>rw [af.mp hr]
 walk_at "z"
theorem xq {pl:Nat} {l:List Int}:∀{rows:List R3},yW rows→((l.foldl (dH pl) rows).map (·.1)).reverse=gr l (rows.map (·.1)).reverse∧yW (l.foldl (dH pl) rows):=by
 induction l with
 | nil=>exact fun h=>⟨rfl,h⟩
 | cons c l ih=>
  intro rows h
  have q:=ug (pl:=pl) (p:=c) (L:=rows.reverse) fun r hr=>h r (ee.mp hr)
  rw [dO,jU] at q
  rw [bE,q7,←q.1]
  exact ih q.2
theorem yk {t:List Int}:∀{k:Nat} {rows:List R3},yW rows→((lQ (t.zipIdx k) rows).map (·.1)).reverse=gr (t.flatMap bB) (rows.map (·.1)).reverse:=by
 induction t with
 | nil=>exact fun _=>rfl
 | cons c t ih=>
  intro k rows h
  have q:=xq (pl:=k) (l:=bB c) h
  rw [List.zipIdx_cons,List.flatMap_cons,show lQ ((c,k)::t.zipIdx (k+1)) rows=lQ (t.zipIdx (k+1)) ((bB c).foldl (dH k) rows) from rfl,ih q.2,q.1]
  exact(ji ..).symm
theorem zm (t:List Int):(pK t).map (·.1)=canon t:=by
 have h:=congrArg List.reverse (yk (t:=t) (k:=0) (rows:=[]) fun r hr=>nomatch hr)
 rw [dO] at h
 exact(aO ..).trans h
def Rk (c:Int):Prop:=aK c=0∨aK c=220∨aK c=230
theorem xA {c:Int} {A B:List Int}:(∀x∈A,mw x c=true)→gF c (A++B)=A++gF c B:=by
 induction A with
 | nil=>exact fun _=>rfl
 | cons x A ih=>exact fun h=>(cH (h x (.head _))).trans (congrArg (x:: ·) (ih fun y hy=>h y (.tail _ hy)))
theorem n9 {c:Int} {B:List Int} (h:∀x,B.head? =some x→mw x c=false):gF c B=c::B:=by
 cases B with
 | nil=>rfl
 | cons x B=>exact bS (h x rfl)
def IA (r:List (Int×Int)):Prop:=∀p∈r,p.1=aK p.2∧(p.1=220∨p.1=230)
theorem qH {x c a b:Int} (h:aK x=a) (h':aK c=b):mw x c=(decide (a > b)&&decide (b > 0)):=by
 unfold mw
 rw [h,h']
theorem HO {r:List (Int×Int)} {c:Int} (h:dT (aK c,c)=false):srt (r++[(aK c,c)])=(r.filter fun p=> !dT p).map (·.2)++c::(r.filter dT).map (·.2):=by
 unfold srt
 rw [g7,g7,show lF dT [(aK c,c)]=[] from by rw [bN,h];rfl,show lF (fun p=> !dT p) [(aK c,c)]=[(aK c,c)] from by rw [bN,h];rfl,aw,ao,au]
 rfl
theorem HN {r:List (Int×Int)} {c:Int} (h:dT (aK c,c)=true):srt (r++[(aK c,c)])=srt r++[c]:=by
 unfold srt
 rw [g7,g7,show lF dT [(aK c,c)]=[(aK c,c)] from by rw [bN,h];rfl,show lF (fun p=> !dT p) [(aK c,c)]=[] from by rw [bN,h];rfl,aw,ao,au]
 rfl
theorem Eb {r:List (Int×Int)} {c:Int} {f:List Int} (hr:IA r) (hc:aK c=220∨aK c=230) (hf:∀x,f.getLast? =some x→aK x=0):gF c (f++srt r).reverse=(f++srt (r++[(aK c,c)])).reverse:=by
 walk_at "a"
 have hfs:∀x,f.reverse.head? =some x→mw x c=false:=fun x hx=>by
  rw [List.head?_reverse] at hx
  have z:=hf x hx
  rcases hc with e | e <;> rw [qH z e] <;> rfl
 have lo:∀x,x∈((r.filter fun p=> !dT p).map (·.2))→aK x=220:=fun x hx=>by
  obtain⟨p,hp1,rfl⟩:=aP.mp hx
  obtain⟨hp2,hp3⟩:=cp.mp hp1
  obtain⟨a,b⟩:=hr p hp2
  rcases b with b | b
  · exact a.symm.trans b
  · rw [show dT p=true from beq_iff_eq.mpr b] at hp3;cases hp3
 have hi:∀x,x∈((r.filter dT).map (·.2))→aK x=230:=fun x hx=>by
  obtain⟨p,hp1,rfl⟩:=aP.mp hx
  obtain⟨hp2,hp3⟩:=cp.mp hp1
  exact(hr p hp2).1.symm.trans (beq_iff_eq.mp hp3)
 rcases hc with e | e
 · rw [HO (show dT (aK c,c)=false from by show(aK c==230)=false;rw [e];rfl)]
   unfold srt
   rw [cF,cF,au,xA (fun x hx=>by rw [qH (hi x (ee.mp hx)) e];rfl),n9 (fun x hx=>?_),cF,cF,dN,au,au]
   · rfl
   · cases q:((r.filter fun p=> !dT p).map (·.2)).reverse with
     | nil=>rw [q] at hx;exact hfs x hx
     | cons y B=>
      rw [q] at hx
      have hy:y∈((r.filter fun p=> !dT p).map (·.2)).reverse:=by rw [q];exact .head _
      rw [←show y=x from Option.some.inj hx,qH (lo y (ee.mp hy)) e]
      rfl
 · rw [HN (show dT (aK c,c)=true from by show(aK c==230)=true;rw [e];rfl),n9,←au,cF (as:=f++srt r)]
   · rfl
   · intro x hx
     rw [List.head?_reverse,lG] at hx
     cases q:(srt r).getLast? with
     | none=>rw [q] at hx;rw [qH (hf x hx) e];rfl
     | some y=>
      rw [q] at hx
      rw [←show y=x from Option.some.inj hx]
      rcases aN.mp (List.mem_of_getLast? q) with hm | hm
      · rw [qH (lo y hm) e];rfl
      · rw [qH (hi y hm) e];rfl
 walk_at "z"
theorem y7 {l:List Int}:∀{f:List Int} {r:List (Int×Int)},IA r→(∀x,f.getLast? =some x→aK x=0)→(∀c∈l,Rk c)→lO l f r=(gr l (f++srt r).reverse).reverse:=by
 walk_at "a"
 induction l with
 | nil=>exact fun _ _ _=>(dO _).symm
 | cons c l ih=>
  intro f r hr hf hl
  have hc:=hl c (.head _)
  have hl':∀c∈l,Rk c:=fun x hx=>hl x (.tail _ hx)
  rw [q7]
  show(bif decide (0 < aK c) then lO l f (r++[(aK c,c)]) else lO l (f++srt r++[c]) [])=_
  cases q:decide (0 < aK c) with
  | true=>
   have hc':aK c=220∨aK c=230:=hc.resolve_left fun e=>by rw [e] at q;cases q
   rw [Eb hr hc' hf]
   refine ih (fun p hp=>?_) hf hl'
   rcases aN.mp hp with hp | hp
   · exact hr p hp
   · rw [af.mp hp];exact⟨rfl,hc'⟩
  | false=>
   have z:aK c=0:=hc.resolve_right fun e=>by rcases e with e | e <;> rw [e] at q <;> cases q
   rw [n9 (fun x _=>by unfold mw;rw [z,Bool.and_comm];rfl)]
   refine(ih (f:=f++srt r++[c]) (r:=[]) (fun p hp=>nomatch hp) (fun x hx=>?_) hl').trans ?_
   · rw [lG] at hx
     have hx:some c=some x:=hx
     exact Option.some.inj hx▸z
   · show(gr l (f++srt r++[c]++[]).reverse).reverse=_
     rw [aw,cF (as:=f++srt r)]
     rfl
 walk_at "z"
theorem IU {c:Int} (h:Cd c):Rk c:=fy (P:=Rk) ⟨.inl rfl, .inl rfl, .inr (.inr rfl), .inr (.inr rfl), .inr (.inl rfl), .inl rfl, .inl rfl, .inl rfl, .inl rfl, .inl rfl, .inl rfl,trivial⟩ h
theorem jA {t:List Int} (h:∀c∈t,Cd c):dS t=canon t:=
 y7 (fun p hp=>nomatch hp) (fun x hx=>nomatch hx) fun c hc=>by
  obtain⟨d,hd,hc⟩:=aG.mp hc
  exact IU (fT (h d hd) c hc)
theorem xC {x y:Int} (h:yR x y=true) (L:List Int):gF y (gF x L)=gF x (gF y L):=by
 walk_at "a"
 obtain⟨hx,h⟩:=aa.mp h
 obtain⟨hn,hy⟩:=aa.mp h
 rcases Int.lt_or_gt_of_ne (show aK x≠aK y from fun e=>by rw [e,bne_self_eq_false] at hn;cases hn) with q | q
 · exact(re (jM.mpr ⟨q,of_decide_eq_true hx⟩) L).symm
 · exact re (jM.mpr ⟨q,of_decide_eq_true hy⟩) L
 walk_at "z"
theorem Ej {r:List Int}:∀{x:Int} {L:List Int},gr (HT r x) L=gr (x::r) L:=by
 induction r with
 | nil=>exact rfl
 | cons y r ih=>
  intro x L
  show gr (bif yR x y then y::x::r else x::HT r y) L=_
  cases q:yR x y with
  | true=>exact congrArg (gr r) (xC q L).symm
  | false=>exact ih (x:=y) (L:=gF x L)
theorem yw {l L:List Int}:gr (iG l) L=gr l L:=by
 cases l with
 | nil=>rfl
 | cons x r=>exact Ej
theorem Em {r:List Int}:∀{x z:Int},z∈HT r x→z∈x::r:=by
 walk_at "a"
 induction r with
 | nil=>exact fun h=>h
 | cons y r ih=>
  intro x z h
  replace h:z∈bif yR x y then y::x::r else x::HT r y:=h
  cases q:yR x y with
  | true=>
   rw [q] at h
   cases h with
   | head=>exact .tail _ (.head _)
   | tail _ h=>cases h with
    | head=>exact .head _
    | tail _ h=>exact .tail _ (.tail _ h)
  | false=>
   rw [q] at h
   cases h with
   | head=>exact .head _
   | tail _ h=>exact .tail _ (ih h)
 walk_at "z"
theorem yy {l:List Int} {x:Int} (h:x∈iG l):x∈l:=by
 cases l with
 | nil=>exact h
 | cons a r=>exact Em h
noncomputable def KJ (c:Int):Bool:=c != 224&&c != 225
theorem xl {l:List Int}:(∀c∈l,KJ c=true)→l.flatMap bB=l:=by
 induction l with
 | nil=>exact fun _=>rfl
 | cons c l ih=>
  intro h
  obtain⟨h1,h2⟩:=aa.mp (h c (.head _))
  have e:bB c=[c]:=(bS (beq_false_of_ne (bne_iff_ne.mp h1))).trans (bS (beq_false_of_ne (bne_iff_ne.mp h2)))
  rw [List.flatMap_cons,ih fun x hx=>h x (.tail _ hx),e]
  rfl
theorem Gn {c:Int} (h:Cd c):∀d∈bB c,KJ d=true:=aj.mp (fy (P:=fun c=>(bB c).all KJ=true) ⟨(by walk_at "r"),(by walk_at "r"),(by walk_at "r"),(by walk_at "r"),(by walk_at "r"),(by walk_at "r"),(by walk_at "r"),(by walk_at "r"),(by walk_at "r"),(by walk_at "r"),(by walk_at "r"),trivial⟩ h)
theorem pA {t:List Int} (h:∀c∈t,Cd c):∀x∈iH t,Cd x∧KJ x=true:=fun x hx=>by
 obtain⟨d,hd,hc⟩:=aG.mp (yy hx)
 exact⟨fT (h d hd) x hc,Gn (h d hd) x hc⟩
theorem rR {t:List Int} (h:∀c∈t,Cd c):canon (iH t)=canon t:=by
 unfold canon
 rw [xl fun c hc=>(pA h c hc).2]
 unfold iH
 rw [yw]
theorem Ek {r:List Int}:∀{x:Int},(HT r x).length=r.length+1:=by
 induction r with
 | nil=>exact rfl
 | cons y r ih=>
  intro x
  show(bif yR x y then y::x::r else x::HT r y).length=_
  cases yR x y with
  | true=>rfl
  | false=>exact congrArg (· +1) ih
theorem yx {l:List Int}:(iG l).length=l.length:=by
 cases l with
 | nil=>rfl
 | cons x r=>exact Ek
noncomputable def dW (cs:List Int):List Bool→List Int:=List.rec (motive:=fun _=>List Bool→List Int) (fun _=>[]) (fun c _ ih gs=>ay (motive:=fun _=>List Int) gs [] fun g gs=>bif g then ih gs else c::ih gs) cs
theorem DS (c:Int):0≤aK c:=by
 unfold aK
 cases c==768 <;> cases c==769 <;> cases c==803 <;> decide
theorem sr {α:Type} {l:List α} {i:Nat} {c:α} (h:l[i]? =some c):l.drop i=c::l.drop (i+1):=by
 obtain⟨q,e⟩:=bM.mp h
 rw [bj q,e]
theorem l4 {α:Type} {l:List α} {i:Nat} {c d:α} (h:l[i]? =some c):l.getD i d=c:=by rw [ah,h];rfl
theorem vF {α:Type} {l:List α} {i:Nat} {c:α} {r:List α} (h:l.drop i=c::r):l.drop (i+1)=r∧l[i]? =some c∧i < l.length:=by
 have e:l[i]? =some c:=by
  have z:=congrArg (fun x=>x[0]?) h
  rw [List.getElem?_drop] at z
  exact z
 refine⟨?_,e,(bM.mp e).1⟩
 rw [sr e] at h
 exact(List.cons.inj h).2
theorem An {codes:List Int} {bs:List Bool}:∀{cs:List Int} {i m:Nat},codes.drop i=cs→cs.length=bs.length→i8 codes (gV bs i m)=(dW cs bs).take m:=by
 walk_at "a"
 induction bs with
 | nil=>
  intro cs i m _ h
  cases cs with
  | nil=>exact List.take_nil.symm
  | cons _ _=>cases h
 | cons b bs ih=>
  intro cs i m h hl
  cases cs with
  | nil=>cases hl
  | cons c cs=>
   obtain⟨h1,h2,_⟩:=vF h
   cases m with
   | zero=>exact List.take_zero.symm
   | succ m=>cases b with
    | true=>exact ih h1 (Nat.succ.inj hl)
    | false=>
     show codes.getD i 0::i8 codes (gV bs (i+1) m)=c::(dW cs bs).take m
     rw [l4 h2,ih h1 (Nat.succ.inj hl)]
 walk_at "z"
theorem xO {codes:List Int} {gs:List Bool} {bs:List Bool}:∀{cs:List Int} {i m s x:Nat},codes.drop i=cs→gs.drop i=bs→cs.length=bs.length→(gV bs i m)[s]? =some x→dW (codes.drop (x+1)) (gs.drop (x+1))=(dW cs bs).drop (s+1):=by
 walk_at "a"
 induction bs with
 | nil=>intro cs i m s x _ _ _ h;cases h
 | cons b bs ih=>
  intro cs i m s x h hg hl hx
  cases cs with
  | nil=>cases hl
  | cons c cs=>
   obtain⟨h1,_,_⟩:=vF h
   obtain⟨g1,_,_⟩:=vF hg
   cases m with
   | zero=>cases hx
   | succ m=>cases b with
    | true=>exact ih (m:=m+1) h1 g1 (Nat.succ.inj hl) hx
    | false=>cases s with
     | zero=>cases (show some i=some x from hx);rw [h1,g1];rfl
     | succ s=>exact ih (m:=m) h1 g1 (Nat.succ.inj hl) hx
 walk_at "z"
theorem Ao {bs:List Bool}:∀{cs:List Int} {i m:Nat},cs.length=bs.length→(gV bs i m).length=min m (dW cs bs).length:=by
 walk_at "a"
 induction bs with
 | nil=>
  intro cs i m h
  cases cs with
  | nil=>exact(Nat.min_zero m).symm
  | cons _ _=>cases h
 | cons b bs ih=>
  intro cs i m h
  cases cs with
  | nil=>cases h
  | cons c cs=>cases m with
   | zero=>exact(Nat.zero_min _).symm
   | succ m=>cases b with
    | true=>exact ih (Nat.succ.inj h)
    | false=>exact(congrArg (· +1) (ih (Nat.succ.inj h))).trans (Nat.succ_min_succ ..).symm
 walk_at "z"
noncomputable def fN (p:Nat→Bool) (n:Nat):Nat:=Nat.rec (motive:=fun _=>Nat) 0 (fun i ih=>bif p i then i+1 else ih) n
theorem sU {p:Nat→Bool} {k n:Nat} (h:k≤n) (hp:∀i,k≤i→i < n→p i=false):fN p n=fN p k:=by
 induction n with
 | zero=>rw [Nat.le_zero.mp h]
 | succ n ih=>
  rcases cP h with q | q
  · exact(bS (hp n (cX q) (aI n))).trans (ih (cX q) fun i h1 h2=>hp i h1 (Nat.lt_succ_of_lt h2))
  · rw [q]
theorem rn {p q:Nat→Bool} {n:Nat} (h:∀i,i < n→p i=q i):fN p n=fN q n:=by
 induction n with
 | zero=>rfl
 | succ n ih=>
  show(bif p n then n+1 else fN p n)=bif q n then n+1 else fN q n
  rw [h n (aI n),ih fun i hi=>h i (Nat.lt_succ_of_lt hi)]
theorem to {tb:ew} {codes:List Int} {live:List Nat} {n:Nat}:iF tb codes live n=fN (fun i=>dB tb (i8 codes (live.take (i+1)))) n:=by
 walk_at "a"
 induction n with
 | zero=>rfl
 | succ n ih=>
  show(bif !dB tb (i8 codes (live.take (n+1))) then iF tb codes live n else n+1)=bif dB tb (i8 codes (live.take (n+1))) then n+1 else fN _ n
  rw [ih]
  cases dB tb (i8 codes (live.take (n+1))) <;> rfl
 walk_at "z"
theorem sG {p:Nat→Bool} {n:Nat}:((bH n).filter p).getLast? =fu (motive:=fun _=>Option Nat) (fN p n) none some:=by
 walk_at "a"
 induction n with
 | zero=>rfl
 | succ n ih=>
  rw [List.range_succ,g7,show fN p (n+1)=bif p n then n+1 else fN p n from rfl]
  cases q:p n with
  | true=>rw [bN,q,lG];rfl
  | false=>rw [bN,q];exact(congrArg List.getLast? (aw _)).trans ih
 walk_at "z"
def oG (codes:List Int) (gs:List Bool):Prop:=∀(j:Nat) (c:Int),codes[j]? =some c→gs[j]? =some true→(aK c==0)=false
structure mx (codes:List Int) (gs:List Bool) (i:Nat) (r st:List Int) (m:MS) (k:S3):Prop where
 key:m.2.1=k.1
 len:m.2.2.1.length=gs.length
 low:∀j,j < i→m.2.2.1[j]? =gs[j]?
 gone:oG codes m.2.2.1
 left:∃ns,k.2.1=st++ns∧dW r (m.2.2.1.drop i)=ns++k.2.2
theorem uA {inT:List Int→Bool} {c:Int} {l:List Int} {s:MS}:ey inT (c::l) s=bif aK c==0 then s else ey inT l ((m4 inT c s).1+1,(m4 inT c s).2):=rfl
theorem GX {c:Int} {r:List Int} {gs:List Bool}:dW (c::r) (true::gs)=dW r gs:=rfl
theorem uq {c:Int} {r:List Int} {gs:List Bool}:dW (c::r) (false::gs)=c::dW r gs:=rfl
theorem mx.next {codes:List Int} {gs gs2:List Bool} {i:Nat} {c:Int} {r st st2 ns1:List Int} {m:MS} {k:S3} {b:Bool} (h:mx codes gs2 (i+1) r st2 m k) (hl:gs2.length=gs.length) (hi:gs2[i]? =some b) (hlow:∀j,j < i→gs2[j]? =gs[j]?)
 (e:st2=st++ns1) (hb:∀x,dW (c::r) (b::x)=ns1++dW r x):mx codes gs i (c::r) st m k:=by
 obtain⟨ns,q1,q2⟩:=h.left
 refine⟨h.key,h.len.trans hl,fun j hj=>(h.low j (Nat.lt_succ_of_lt hj)).trans (hlow j hj),h.gone,ns1++ns,by rw [q1,e,au],?_⟩
 rw [sr ((h.low i (aI i)).trans hi),hb,q2,au]
theorem uB {inT:List Int→Bool} {codes r:List Int}:∀{i:Nat} {key:List Int} {gs:List Bool} {ps:List Nat} {stt:Int} {st:List Int},codes.drop i=r→gs.length=codes.length→oG codes gs→(∀d∈st,aK d≤stt)→(stt=0∨∃d∈st,aK d=stt)→
 mx codes gs i r st (ey inT r (i,key,gs,ps,stt)) (fG inT (dW r (gs.drop i)) key st):=by
 walk_at "a"
 induction r with
 | nil=>exact fun _ _ hgo _ _=>⟨rfl,rfl,fun _ _=>rfl,hgo,[],(aw _).symm,rfl⟩
 | cons c r ih=>
  intro i key gs ps stt st hr hg hgo h1 h2
  obtain⟨a1,a2,a3⟩:=vF hr
  obtain⟨g,hgi⟩:∃g,gs[i]? =some g:=⟨_,ai (az a3 hg.symm)⟩
  have same:∀j,j < i→gs[j]? =gs[j]?:=fun _ _=>rfl
  rw [uA,sr hgi]
  cases hz:aK c==0 with
  | true=>
   have hgf:g=false:=by
    cases g with
    | false=>rfl
    | true=>have z:=hgo i c a2 hgi;rw [hz] at z;cases z
   subst hgf
   have p0:decide (0 < aK c)=false:=by rw [beq_iff_eq.mp hz];rfl
   rw [uq,nH,p0]
   exact⟨rfl,rfl,fun _ _=>rfl,hgo,[],(aw _).symm,by show dW (c::r) (gs.drop i)=_;rw [sr hgi];rfl⟩
  | false=>
   have p0:decide (0 < aK c)=true:=decide_eq_true (Int.lt_iff_le_and_ne.mpr ⟨DS c,fun e=>by rw [←e] at hz;cases hz⟩)
   have gD:(!gs.getD i true&&(decide (aK c > stt)&&true))=(!g&&decide (aK c > stt)):=by rw [l4 hgi,Bool.and_true]
   have mN:m4 inT c (i,key,gs,ps,stt)=bif !g&&decide (aK c > stt) then(bif inT (key++[c]) then(i,key++[c],gs.set i true,ps++[i],stt) else(i,key,gs,ps,aK c)) else(i,key,gs,ps,stt):=gD▸rfl
   rw [mN]
   cases g with
   | true=>exact(ih a1 hg hgo h1 h2).next rfl hgi same (aw _).symm fun _=>rfl
   | false=>
    rw [uq,nH,p0]
    show mx codes gs i (c::r) st (ey inT r _) (bif yp inT c key st then _ else _)
    have ap {ns1:List Int} (h:ns1=[c]):∀x,dW (c::r) (false::x)=ns1++dW r x:=fun x=>by rw [h];rfl
    cases q:decide (aK c > stt) with
    | true=>
     have q1:=of_decide_eq_true q
     have free:yp inT c key st=inT (key++[c]):=by
      unfold yp
      rw [show(st.filter fun d=>decide (aK d≥aK c))=[] from List.filter_eq_nil_iff.mpr fun d hd z=>absurd (Int.lt_of_lt_of_le q1 (of_decide_eq_true z)) (dp.mpr (h1 d hd))]
      rfl
     rw [free]
     cases q2:inT (key++[c]) with
     | true=>
      have hg2:(gs.set i true).length=gs.length:=fY
      have hgo2:oG codes (gs.set i true):=fun j d e1 e2=>by
       by_cases qj:j=i
       · subst qj;rw [a2] at e1;cases e1;exact hz
       · rw [hZ (Ne.symm qj)] at e2;exact hgo j d e1 e2
      have IH:=ih (key:=key++[c]) (ps:=ps++[i]) (st:=st) a1 (hg2.trans hg) hgo2 h1 h2
      rw [List.drop_set_of_lt (aI i)] at IH
      exact IH.next (b:=true) hg2 (List.getElem?_set_self (az a3 hg.symm)) (fun j hj=>hZ (Nat.ne_of_gt hj)) (aw _).symm fun _=>rfl
     | false=>
      refine(ih (st:=st++[c]) a1 hg hgo (fun d hd=>?_) (.inr ⟨c,List.mem_append_right _ (.head _),rfl⟩)).next rfl hgi same rfl (ap rfl)
      rcases aN.mp hd with hd | hd
      · exact eH (h1 d hd) (kg q1)
      · rw [af.mp hd];exact Int.le_refl _
    | false=>
     have q1:aK c≤stt:=dp.mp (of_decide_eq_false q)
     have free:yp inT c key st=false:=by
      unfold yp
      rw [decide_eq_false]
      · rfl
      · intro z
        rcases h2 with h2 | ⟨d,hd1,hd2⟩
        · exact absurd (of_decide_eq_true p0) (dp.mpr (h2▸q1))
        · exact List.filter_eq_nil_iff.mp z d hd1 (decide_eq_true (hd2▸q1))
     rw [free]
     refine(ih (st:=st++[c]) a1 hg hgo (fun d hd=>?_) (h2.imp id fun⟨d,e1,e2⟩=>⟨d,List.mem_append_left _ e1,e2⟩)).next rfl hgi same rfl (ap rfl)
     rcases aN.mp hd with hd | hd
     · exact h1 d hd
     · rw [af.mp hd];exact q1
 walk_at "z"
def FL (tb:ew) (lg:List (Int×Int)):Prop:=∀c r,dB tb (c::r)=true→(c::r).length≤jW lg c
theorem sZ {gs:List Bool}:dW [] gs=[]:=rfl
theorem qu {tb:ew} {f:Nat}:bQ tb f []=[]:=by cases f <;> rfl
theorem Dq {tb:ew} {lg:List (Int×Int)} (hlg:FL tb lg) {codes:List Int} {og:Nat→Int} {f:Nat}:∀{gs:List Bool} {a f':Nat},codes.length - a≤f→gs.length=codes.length→oG codes gs→(dW (codes.drop a) (gs.drop a)).length≤f'→
 (iB tb lg codes og f gs a).flatMap (·.1)=bQ tb f' (dW (codes.drop a) (gs.drop a)):=by
 walk_at "a"
 induction f with
 | zero=>
  intro gs a f' h hg _ _
  rw [bO (Nat.sub_eq_zero_iff_le.mp (Nat.le_zero.mp h)),sZ,qu]
  rfl
 | succ f ih=>
  intro gs a f' h hg hgo hf
  show(bif bf a codes.length then(bif gs.getD a true then iB tb lg codes og f gs (a+1) else Dp (bZ tb lg codes gs a) og::iB tb lg codes og f (bZ tb lg codes gs a).2 (bZ tb lg codes gs a).1.2.2) else []).flatMap (·.1)=_
  cases ha:bf a codes.length with
  | false=>
   have ha:codes.length≤a:=bU.mp fun z=>by rw [dq.mpr z] at ha;cases ha
   rw [bO ha,sZ,qu]
   rfl
  | true=>
   have ha:=dq.mp ha
   obtain⟨c,hca⟩:∃c,codes[a]? =some c:=⟨_,ai ha⟩
   obtain⟨g,hga⟩:∃g,gs[a]? =some g:=⟨_,ai (az ha hg.symm)⟩
   have hlen:(codes.drop a).length=(gs.drop a).length:=by rw [aT,aT,hg]
   have fuel:∀{b},a < b→codes.length - b≤f:=fun q=>Nat.sub_le_of_le_add (a8 (Nat.sub_le_iff_le_add.mp h) (by rw [bq,bI 1];exact aL q f))
   rw [l4 hga]
   cases g with
   | true=>
    rw [sr hca,sr hga,GX] at hf ⊢
    exact ih (fuel (aI a)) hg hgo hf
   | false=>
    have hL:dW (codes.drop a) (gs.drop a)=c::dW (codes.drop (a+1)) (gs.drop (a+1)):=by rw [sr hca,sr hga,uq]
    have hcD:codes.getD a 0=c:=l4 hca
    generalize D0:dW (codes.drop (a+1)) (gs.drop (a+1))=l at hL
    show(bZ tb lg codes gs a).1.1++(iB tb lg codes og f (bZ tb lg codes gs a).2 (bZ tb lg codes gs a).1.2.2).flatMap (·.1)=_
    rw [hL] at hf ⊢
    cases f' with
    | zero=>cases hf
    | succ f'=>
    have hf:l.length≤f':=gA hf
    have hkey:∀m,i8 codes (oW gs a m)=(c::l).take m:=fun m=>by rw [←hL];exact An rfl hlen
    have hlive:∀m,(oW gs a m).length=min m (c::l).length:=fun m=>by rw [←hL];exact Ao hlen
    have hk2:∀i,i < min (jW lg c) (c::l).length→i8 codes ((ba lg codes gs a).take (i+1))=(c::l).take (i+1):=fun i hi=>by
     unfold ba i8
     rw [hcD,fQ]
     have z:=hkey (jW lg c)
     unfold i8 at z
     rw [z,List.take_take,dr (a8 hi (Nat.min_le_left _ _))]
    have hml:(ba lg codes gs a).length=min (jW lg c) (c::l).length:=by unfold ba;rw [hcD];exact hlive _
    have hsz:iF tb codes (ba lg codes gs a) (ba lg codes gs a).length=fN (fun i=>dB tb ((c::l).take (i+1))) (c::l).length:=by
     rw [to,hml,sU (k:=min (jW lg c) (c::l).length) (n:=(c::l).length) (bx _ _) (fun i h1 h2=>?_)]
     · exact rn fun i hi=>by rw [hk2 i hi]
     · cases q:dB tb ((c::l).take (i+1)) with
       | false=>rfl
       | true=>
        have z:=hlg c _ q
        rw [aM,c8] at z
        rw [aM] at h1 h2
        omega
    have go:bQ tb (f'+1) (c::l)=fu (motive:=fun _=>List E4) (fN (fun i=>dB tb ((c::l).take (i+1))) (c::l).length) (jF c++bQ tb f' l) fun i=>(tb.lookup (kf tb (c::l) i).1).getD []++bQ tb f' ((kf tb (c::l) i).2.1++(kf tb (c::l) i).2.2):=by
     show an (motive:=fun _=>List E4) (dh tb (c::l)).getLast? _ _=_
     unfold dh
     rw [sG]
     cases fN (fun i=>dB tb ((c::l).take (i+1))) (c::l).length <;> rfl
    rw [go]
    unfold bZ
    have le:=qE (tb:=tb) (codes:=codes) (live:=ba lg codes gs a) (k:=(ba lg codes gs a).length)
    rw [hsz] at le ⊢
    cases hs:fN (fun i=>dB tb ((c::l).take (i+1))) (c::l).length with
    | zero=>
     show jF (codes.getD a 0)++(iB tb lg codes og f gs (a+1)).flatMap (·.1)=jF c++bQ tb f' l
     rw [hcD,ih (fuel (aI a)) hg hgo (by rw [D0];exact hf),D0]
    | succ i=>
     rw [hs] at le
     obtain⟨x,hx⟩:∃x,(ba lg codes gs a)[i]? =some x:=⟨_,ai le⟩
     have hax:a≤x:=t0 (dM hx)
     have hleft:=xO (codes:=codes) (gs:=gs) rfl rfl hlen hx
     rw [hL] at hleft
     have e1:d6 tb codes gs (ba lg codes gs a) i=ey (dB tb) (codes.drop (x+1)) (x+1,(c::l).take (i+1),gs,(ba lg codes gs a).take (i+1),0):=by
      unfold d6 jc
      rw [←je le,hk2 i (az le hml),l4 hx]
     have e2:kf tb (c::l) i=fG (dB tb) (dW (codes.drop (x+1)) (gs.drop (x+1))) ((c::l).take (i+1)) []:=by
      rw [hleft]
      rfl
     show(tb.lookup (d6 tb codes gs (ba lg codes gs a) i).2.1).getD []++(iB tb lg codes og f (d6 tb codes gs (ba lg codes gs a) i).2.2.1 ((ba lg codes gs a).getD i 0+1)).flatMap (·.1)=(tb.lookup (kf tb (c::l) i).1).getD []++bQ tb f' ((kf tb (c::l) i).2.1++(kf tb (c::l) i).2.2)
     rw [e1,e2,l4 hx]
     obtain⟨b1,b2,b3,b4,ns,b5,b6⟩:=uB (inT:=dB tb) (codes:=codes) (i:=x+1) (key:=(c::l).take (i+1)) (ps:=(ba lg codes gs a).take (i+1)) (stt:=0) (st:=[]) rfl hg hgo (fun d hd=>nomatch hd) (.inl rfl)
     have sl:=(oE (inT:=dB tb) (r:=dW (codes.drop (x+1)) (gs.drop (x+1))) (row:=(c::l).take (i+1)) (st:=[])).1
     have hll:(dW (codes.drop (x+1)) (gs.drop (x+1))).length≤l.length:=by rw [hleft,List.drop_succ_cons,aT];exact eJ _ _
     rw [show([]:List Int)++ns=ns from rfl] at b5
     rw [b1,ih (fuel (f0 hax)) (b2.trans hg) b4 (f':=f') (by
      rw [b6,←b5,ak]
      exact a8 sl (a8 (ae (bo _)) (a8 hll hf))),b6,←b5]
 walk_at "z"
theorem xJ {l:List Int}:dW l (br l.length false)=l:=by
 induction l with
 | nil=>rfl
 | cons c l ih=>exact congrArg (c:: ·) ih
theorem CR {tb:ew} {lg:List (Int×Int)} (hlg:FL tb lg) (t:List Int):sE tb lg t=eX tb t:=by
 walk_at "a"
 have e:=zm t
 unfold sE rq eX
 rw [e]
 have hl:(pK t).length=(canon t).length:=by rw [←e,a9]
 have hgo:oG (canon t) (br (canon t).length false):=fun j c h1 h2=>by
  rw [List.getElem?_replicate] at h2
  split at h2 <;> cases h2
 have hL:dW ((canon t).drop 0) ((br (canon t).length false).drop 0)=canon t:=xJ
 rw [hl,Dq hlg (f':=(canon t).length) (ae (Nat.sub_zero _)) gQ hgo (ae (congrArg i3 hL)),hL]
 walk_at "z"
def kh (e:E4):Prop:=0≤e.1∧0≤e.2.1∧0≤e.2.2.1
theorem AE {a:Int} (h:0≤a) (q:(a==0)=false):decide (a > 0)=true:=decide_eq_true (Int.lt_iff_le_and_ne.mpr ⟨h,fun e=>by rw [←e] at q;cases q⟩)
theorem Ee {e:E4} (h:kh e) (q:((e.2.1==0)&&((e.2.2.1==0)&&(e.1==0)))=false):decide (e.1+e.2.1+e.2.2.1 > 0)=true:=by
 walk_at "a"
 obtain⟨h1,h2,h3⟩:=h
 refine decide_eq_true ?_
 have z: ¬(e.2.1=0∧e.2.2.1=0∧e.1=0):=fun z=>by rw [z.1,z.2.1,z.2.2] at q;cases q
 omega
 walk_at "z"
theorem Bi {how:Str} {e:E4} {b:Bool} (h:kh e) (hn:(how==("non-ignorable":Str))=false):((bif how==("blanked":Str) then lV 65535 b e else mh 65535 b e),qR b e)=xT how b e:=by
 walk_at "a"
 have h1:=AE h.1
 have hs:=Ee h
 unfold xT lV mh HG HH u0 fo qR
 rw [hn]
 cases q1:e.1==0 with
 | true=>
  rw [show(e.1 != 0)=false from by show(!(e.1==0))=false;rw [q1];rfl,show decide (e.1 > 0)=false from by rw [beq_iff_eq.mp q1];rfl]
  cases b with
  | true=>cases how==("blanked":Str) <;> cases e.2.2.2 <;> rfl
  | false=>
   cases q2:e.2.1==0 <;> cases q3:e.2.2.1==0 <;> rw [q1,q2,q3] at hs
   case true.true=>rw [beq_iff_eq.mp q1,beq_iff_eq.mp q2,beq_iff_eq.mp q3];cases how==("blanked":Str) <;> cases e.2.2.2 <;> rfl
   all_goals rw [hs rfl];cases how==("blanked":Str) <;> cases e.2.2.2 <;> rfl
 | false=>
  rw [show(e.1 != 0)=true from by show(!(e.1==0))=true;rw [q1];rfl,h1 q1,hs (by rw [q1,iR,iR])]
  cases q:how==("blanked":Str) with
  | true=>rw [show(how != ("blanked":Str))=false from by show(!(how==_))=false;rw [q];rfl];cases b <;> cases e.2.2.2 <;> cases e.2.1==0 <;> cases e.2.2.1==0 <;> rfl
  | false=>rw [show(how != ("blanked":Str))=true from by show(!(how==_))=true;rw [q];rfl];cases b <;> cases e.2.2.2 <;> cases e.2.1==0 <;> cases e.2.2.1==0 <;> rfl
 walk_at "z"
theorem GB {how:Str} (hn:(how==("non-ignorable":Str))=false) {l:List E4}:∀{b:Bool},(∀e∈l,kh e)→yO (fun b e=>bif how==("blanked":Str) then lV 65535 b e else mh 65535 b e) l b=eK how l b:=by
 induction l with
 | nil=>exact fun _=>rfl
 | cons e l ih=>
  intro b h
  show(bif how==("blanked":Str) then lV 65535 b e else mh 65535 b e)::yO _ l (qR b e)=(xT how b e).1::eK how l (xT how b e).2
  rw [ih fun x hx=>h x (.tail _ hx),←Bi (h e (.head _)) hn]
theorem DC {l:List E4}:∀{b b':Bool},yO (DB 65535) l b=eK "non-ignorable" l b':=by
 induction l with
 | nil=>exact rfl
 | cons e l ih=>exact congrArg (DB 65535 false e:: ·) ih
theorem yI {how:Str} {l:List E4} (h:∀e∈l,kh e):gp how l=eK how l false:=by
 walk_at "a"
 unfold gp
 cases q2:how==("non-ignorable":Str) with
 | true=>rw [beq_iff_eq.mp q2];exact DC
 | false=>
  rw [show(how != ("non-ignorable":Str))=true from by show(!(how==_))=true;rw [q2];rfl,←GB q2 h]
  cases how==("blanked":Str) <;> rfl
 walk_at "z"
def KU (w:W4):Prop:=0≤w.1∧0≤w.2.1∧0≤w.2.2.1∧0≤w.2.2.2
theorem Hi {how:Str} {b:Bool} {e:E4} (h:kh e):KU (xT how b e).1:=by
 walk_at "a"
 have h4:0≤fo e:=by unfold fo;cases decide (e.1+e.2.1+e.2.2.1 > 0) <;> decide
 have h5:0≤bif how != ("blanked":Str) then e.1 else 0:=by cases how != ("blanked":Str) with
  | true=>exact h.1
  | false=>exact Int.le_refl 0
 have z:(0:Int)≤0:=Int.le_refl 0
 unfold xT
 cases how==("non-ignorable":Str) with
 | true=>exact⟨h.1,h.2.1,h.2.2,h4⟩
 | false=>cases e.2.2.2&&(decide (e.1 > 0)&&true) with
  | true=>exact⟨z,z,z,h5⟩
  | false=>cases e.1==0&&(b&&true) with
   | true=>exact⟨z,z,z,z⟩
   | false=>exact⟨h.1,h.2.1,h.2.2,h4⟩
 walk_at "z"
theorem Dk {how:Str} {l:List E4}:∀{b:Bool},(∀e∈l,kh e)→∀w∈eK how l b,KU w:=by
 walk_at "a"
 induction l with
 | nil=>intro b _ w hw;cases hw
 | cons e l ih=>
  intro b h w hw
  rcases aS.mp (show w∈(xT how b e).1::eK how l (xT how b e).2 from hw) with rfl | hw
  · exact Hi (h e (.head _))
  · exact ih (fun e he=>h e (.tail _ he)) w hw
 walk_at "z"
theorem mC {g:W4→Int} {l:List W4} (h:∀w∈l,0≤g w):xS g l=At g l:=by
 walk_at "a"
 unfold xS At
 refine congrArg _ (List.filter_congr fun w hw=>?_)
 cases q:g w==0 with
 | true=>rw [beq_iff_eq.mp q];rfl
 | false=>rw [AE (h w hw) q];show(!(g w==0))=true;rw [q];rfl
 walk_at "z"
theorem ut {how:Str} {st:Nat} {bk:Bool} {l:List W4} (h1:1≤st) (h5:st≤5) (h:∀w∈l,KU w):dw how st bk l=gG how st bk l:=by
 walk_at "a"
 have e1:Hd l=kD how bk l 0:=mC fun w hw=>(h w hw).1
 have e2:Fh bk l=kD how bk l 1:=by
  unfold Fh
  rw [mC fun w hw=>(h w hw).2.1]
  cases bk <;> rfl
 have e3:Jt l=kD how bk l 2:=mC fun w hw=>(h w hw).2.2.1
 have e4:He how l=kD how bk l 3:=by
  unfold He
  rw [mC fun w hw=>(h w hw).2.2.2]
  rfl
 unfold dw gG
 rw [e1,e2,e3,e4]
 have z:st=1∨st=2∨st=3∨st=4∨st=5:=by omega
 rcases z with z | z | z | z | z <;> rw [z] <;> rfl
 walk_at "z"
def o8 (x:List Int):Prop:=∀c∈x,c > 0
theorem Bs {l:List Int} {x:Int} (h:x∈mj l):x∈l:=ee.mp ((List.dropWhile_sublist _).mem (ee.mp h))
theorem xI {how:Str} {bk:Bool} {l:List W4} {k:Nat}:o8 (kD how bk l k):=by
 walk_at "a"
 exact fun c hc=>by
  have h2:c∈Lq ((k:Int)==1&&(bk&&true)) (At (rH k) l):=by
   unfold kD Hh at hc
   cases q:(k:Int)==3&&how==("shift-trimmed":Str) with
   | true=>rw [q] at hc;exact Bs hc
   | false=>rw [q] at hc;exact hc
  have h3:c∈At (rH k) l:=by
   unfold Lq at h2
   cases q:(k:Int)==1&&(bk&&true) with
   | true=>rw [q] at h2;exact ee.mp h2
   | false=>rw [q] at h2;exact h2
  obtain⟨w,hw,rfl⟩:=aP.mp h3
  exact of_decide_eq_true (cp.mp hw).2
 walk_at "z"
theorem vt {a b:List Int}:gd a b=if a=b then 0 else if i9 a b=true then -1 else 1:=by
 walk_at "a"
 rw [qe]
 by_cases q:a=b
 · rw [if_pos q,decide_eq_true q];rfl
 · rw [if_neg q,decide_eq_false q]
   cases i9 a b <;> rfl
 walk_at "z"
theorem iW {x y:List Int} {A B:List (List Int)}:gR (x::A) (y::B)=if x=y then gR A B else if i9 x y=true then -1 else 1:=by
 walk_at "a"
 show(bif gd x y==0 then gR A B else gd x y)=_
 rw [vt]
 by_cases q:x=y
 · rw [if_pos q,if_pos q];rfl
 · rw [if_neg q,if_neg q]
   cases i9 x y <;> rfl
 walk_at "z"
theorem K3 (b:Bool):(if b=true then(-1:Int) else 1)≠0:=by cases b <;> decide
theorem kX {A:List (List Int)}:∀{B:List (List Int)},A.length=B.length→(gR A B=0↔A=B):=by
 walk_at "a"
 induction A with
 | nil=>intro B h;cases B with
  | nil=>exact⟨fun _=>rfl,fun _=>rfl⟩
  | cons _ _=>cases h
 | cons x A ih=>intro B h;cases B with
  | nil=>cases h
  | cons y B=>
   rw [iW]
   by_cases q:x=y
   · rw [if_pos q,ih (Nat.succ.inj h),q]
     exact⟨fun z=>by rw [z],fun z=>(List.cons.inj z).2⟩
   · rw [if_neg q]
     exact⟨fun z=>absurd z (K3 _),fun z=>absurd (List.cons.inj z).1 q⟩
 walk_at "z"
theorem oM {A:List (List Int)}:∀{B A' B':List (List Int)},A.length=B.length→gR (A++A') (B++B')=if A=B then gR A' B' else gR A B:=by
 walk_at "a"
 induction A with
 | nil=>intro B A' B' h;cases B with
  | nil=>exact(if_pos rfl).symm
  | cons _ _=>cases h
 | cons x A ih=>intro B A' B' h;cases B with
  | nil=>cases h
  | cons y B=>
   rw [fJ,fJ,iW,iW,ih (Nat.succ.inj h)]
   by_cases q:x=y
   · rw [if_pos q,if_pos q,q]
     by_cases q2:A=B
     · rw [if_pos q2,q2,if_pos rfl]
     · rw [if_neg q2,if_neg fun z=>q2 (List.cons.inj z).2]
   · rw [if_neg q,if_neg q,if_neg fun z=>q (List.cons.inj z).1]
 walk_at "z"
theorem o8.tl {a:Int} {x:List Int} (h:o8 (a::x)):o8 x:=fun c hc=>h c (.tail _ hc)
theorem Hc {x:List Int}:∀{y u v:List Int},o8 x→o8 y→i9 (x++0::u) (y++0::v)=if x=y then i9 u v else i9 x y:=by
 walk_at "a"
 induction x with
 | nil=>
  intro y u v _ hy
  cases y with
  | nil=>rw [if_pos rfl,io,io,eY,if_pos rfl]
  | cons b y=>
   have z:=hy b (.head _)
   rw [if_neg (by intro e;cases e),io,fJ,eY,if_neg (Int.ne_of_lt z)]
   exact decide_eq_true z
 | cons a x ih=>
  intro y u v hx hy
  cases y with
  | nil=>
   have z:=hx a (.head _)
   rw [if_neg (by intro e;cases e),io,fJ,eY,if_neg (Int.ne_of_gt z),mG]
   exact decide_eq_false (dp.mpr (kg z))
  | cons b y=>
   rw [fJ,fJ,eY,eY,ih hx.tl hy.tl]
   by_cases q:a=b
   · rw [if_pos q,if_pos q,q]
     by_cases q2:x=y
     · rw [if_pos q2,q2,if_pos rfl]
     · rw [if_neg q2,if_neg fun z=>q2 (List.cons.inj z).2]
   · rw [if_neg q,if_neg q,if_neg fun z=>q (List.cons.inj z).1]
 walk_at "z"
theorem Gz {x:List Int}:∀{y u v:List Int},o8 x→o8 y→(x++0::u=y++0::v↔x=y∧u=v):=by
 induction x with
 | nil=>
  intro y u v _ hy
  cases y with
  | nil=>exact⟨fun z=>⟨rfl,(List.cons.inj z).2⟩,fun z=>by rw [z.2]⟩
  | cons b y=>exact⟨fun z=>absurd (List.cons.inj z).1 (Int.ne_of_lt (hy b (.head _))),fun z=>nomatch z.1⟩
 | cons a x ih=>
  intro y u v hx hy
  cases y with
  | nil=>exact⟨fun z=>absurd (List.cons.inj z).1 (Int.ne_of_gt (hx a (.head _))),fun z=>nomatch z.1⟩
  | cons b y=>exact⟨fun z=>⟨by rw [(List.cons.inj z).1,((ih hx.tl hy.tl).mp (List.cons.inj z).2).1],((ih hx.tl hy.tl).mp (List.cons.inj z).2).2⟩,fun z=>by rw [z.1,z.2]⟩
theorem ou {l:List Int}:i9 l l=false:=by
 induction l with
 | nil=>rfl
 | cons a l ih=>rw [eY,if_pos rfl,ih]
theorem GT {A:List (List Int)}:∀{B:List (List Int)},A.length=B.length→(∀x∈A,o8 x)→(∀y∈B,o8 y)→A≠[]→i9 (hW A) (hW B)=decide (gR A B < 0)∧(hW A=hW B↔A=B):=by
 walk_at "a"
 have sg (b:Bool):decide ((if b=true then(-1:Int) else 1) < 0)=b:=by cases b <;> rfl
 induction A with
 | nil=>exact fun _ _ _ h=>absurd rfl h
 | cons x A ih=>
  intro B h hx hy _
  cases B with
  | nil=>cases h
  | cons y B=>cases A with
   | nil=>cases B with
    | cons _ _=>cases h
    | nil=>
     rw [iW,show hW [x]=x from aw x,show hW [y]=y from aw y]
     refine⟨?_,⟨fun z=>by rw [z],fun z=>(List.cons.inj z).1⟩⟩
     by_cases q:x=y
     · rw [if_pos q,q,ou];rfl
     · rw [if_neg q,sg]
   | cons x2 A=>cases B with
    | nil=>cases h
    | cons y2 B=>
     obtain⟨i1,i2⟩:=ih (B:=y2::B) (Nat.succ.inj h) (fun c hc=>hx c (.tail _ hc)) (fun c hc=>hy c (.tail _ hc)) (by intro e;cases e)
     have e (z z2:List Int) (Z:List (List Int)):hW (z::z2::Z)=z++0::hW (z2::Z):=rfl
     rw [e,e,Hc (hx _ (.head _)) (hy _ (.head _)),Gz (hx _ (.head _)) (hy _ (.head _)),i1,i2,iW (x:=x)]
     refine⟨?_,⟨fun z=>by rw [z.1,z.2],fun z=>⟨(List.cons.inj z).1,(List.cons.inj z).2⟩⟩⟩
     by_cases q:x=y
     · rw [if_pos q,if_pos q]
     · rw [if_neg q,if_neg q,sg]
 walk_at "z"
theorem IJ {a b:Int}:a+2=b+2↔a=b:=⟨fun z=>by omega,fun z=>by rw [z]⟩
theorem Dt {x:List Int}:∀{y:List Int},i9 (x.map (· +2)) (y.map (· +2))=i9 x y:=by
 walk_at "a"
 induction x with
 | nil=>intro y;cases y <;> rfl
 | cons a x ih=>intro y;cases y with
  | nil=>rfl
  | cons b y=>
   rw [bp,bp,eY,eY,ih]
   by_cases q:a=b
   · rw [if_pos q,if_pos (by rw [q])]
   · rw [if_neg q,if_neg fun z=>q (IJ.mp z)]
     exact decide_eq_decide.mpr ⟨fun z=>Int.lt_of_add_lt_add_right z,fun z=>Int.add_lt_add_right z 2⟩
 walk_at "z"
theorem t3 {x:List Int}:∀{y:List Int},x.map (· +2)=y.map (· +2)↔x=y:=by
 induction x with
 | nil=>intro y;cases y with
  | nil=>exact⟨fun _=>rfl,fun _=>rfl⟩
  | cons _ _=>exact⟨(fun z=>nomatch z),(fun z=>nomatch z)⟩
 | cons a x ih=>intro y;cases y with
  | nil=>exact⟨(fun z=>nomatch z),(fun z=>nomatch z)⟩
  | cons b y=>exact⟨fun z=>by rw [IJ.mp (List.cons.inj z).1,ih.mp (List.cons.inj z).2],fun z=>by rw [z]⟩
noncomputable def fB (a b c d e:Bool) (k:Nat):Bool:=[true,true,true,true,true,a,b,c,d,e].getD k false
noncomputable def Jk (f:Nat→Bool):List (List Int):=nX.zipIdx.foldl (fun ks q=>ad (f q.2) q.1 ks) []
noncomputable def mE (a b c d e:Bool):List (List Int):=Jk (fB a b c d e)
noncomputable def JN (b:Bool) (x:List Int):List (List Int):=bif b then [x] else []
noncomputable def pu (b5 b6 b7 b8 b9:Bool):List (List Int):=JN b5 [45]++JN b6 [65]++[[97]]++JN b7 [97,98]++JN b8 [97,769]++[[98]]++JN b9 [98,768]++[[768],[769],[803]]
noncomputable def EL (m:Nat) (f:Bool→Bool→Bool→Bool→Bool→List (List Int)):List (List Int):=f (gi m 5) (gi m 6) (gi m 7) (gi m 8) (gi m 9)
noncomputable abbrev kC (m:Nat):List (List Int):=EL m mE
noncomputable abbrev ib (m:Nat):List (List Int):=EL m pu
theorem xp {m:Nat} {l:List (List Int×Nat)}:∀{tb:ew},(l.foldl (nZ m) tb).map (·.1)=l.foldl (fun ks q=>ad (gi m q.2) q.1 ks) (tb.map (·.1)):=by
 induction l with
 | nil=>exact rfl
 | cons q l ih=>
  intro tb
  rw [bE,bE,ih]
  refine congrArg (fun z=>l.foldl (fun ks q=>ad (gi m q.2) q.1 ks) z) ?_
  unfold nZ ad
  cases gi m q.2 with
  | true=>exact ao
  | false=>rfl
theorem ua {f g:Nat→Bool} {l:List (List Int×Nat)}:∀{ks:List (List Int)},(∀q∈l,f q.2=g q.2)→l.foldl (fun ks q=>ad (f q.2) q.1 ks) ks=l.foldl (fun ks q=>ad (g q.2) q.1 ks) ks:=by
 induction l with
 | nil=>exact fun _=>rfl
 | cons q l ih=>
  intro ks h
  rw [bE,bE,h q (.head _),ih fun x hx=>h x (.tail _ hx)]
theorem jN (m:Nat):(bR m).map (·.1)=kC m:=by
 walk_at "a"
 refine xp.trans (ua fun q hq=>?_)
 have k10:=(B5 hq).1
 obtain⟨r,k⟩:=q
 have key:∀k,k < 10→gi m k=fB (gi m 5) (gi m 6) (gi m 7) (gi m 8) (gi m 9) k:=by
  intro k h
  cases k with
  | zero=>rfl
  | succ k=>
  cases k with
  | zero=>rfl
  | succ k=>
  cases k with
  | zero=>rfl
  | succ k=>
  cases k with
  | zero=>rfl
  | succ k=>
  cases k with
  | zero=>rfl
  | succ k=>
  cases k with
  | zero=>rfl
  | succ k=>
  cases k with
  | zero=>rfl
  | succ k=>
  cases k with
  | zero=>rfl
  | succ k=>
  cases k with
  | zero=>rfl
  | succ k=>
  cases k with
  | zero=>rfl
  | succ k=>
  exact absurd h (bU.mpr (cM 10 k))
 exact key k k10
 walk_at "z"
theorem tT {p:Bool→Bool→Bool→Bool→Bool→Bool} (h:([false,true].all fun a=>[false,true].all fun b=>[false,true].all fun c=>[false,true].all fun d=>[false,true].all fun e=>p a b c d e)=true) {a b c d e:Bool}:p a b c d e=true:=by
 have mm:∀x:Bool,x∈[false,true]:=fun x=>by cases x <;> decide
 exact aj.mp (aj.mp (aj.mp (aj.mp (aj.mp h a (mm a)) b (mm b)) c (mm c)) d (mm d)) e (mm e)
noncomputable def B6 (L S:List (List Int)):Bool:=an (motive:=fun _=>Bool) (iP (nV (L.map kT)) L.length (kas_sort L.length)) false fun q=>decide (q.toList.map (fun i=>L.getD i [])=S)&&q.toList.all fun i=>decide (i < L.length)
theorem Bg (m:Nat):B6 (kC m) (ib m)=true:=tT (p:=fun a b c d e=>B6 (mE a b c d e) (pu a b c d e)) (by walk_at "r")
theorem lj (m:Nat):(ib m).Perm (kC m):=List.isPerm_iff.mp (tT (p:=fun a b c d e=>(pu a b c d e).isPerm (mE a b c d e)) (by walk_at "r"))
theorem uQ (m:Nat):(ib m).Nodup:=of_decide_eq_true (tT (p:=fun a b c d e=>decide (pu a b c d e).Nodup) (by walk_at "r"))
noncomputable def Jh (ks:List (List Int)):Bool:=dm 5 ks.length&&dm ks.length 10&&ks.all fun k=> !k.isEmpty&&dm k.length 2
theorem A7 (m:Nat):5≤(kC m).length∧(kC m).length≤10∧∀k∈kC m,k≠[]∧k.length≤2:=by
 walk_at "a"
 have z:Jh (kC m)=true:=tT (p:=fun a b c d e=>Jh (mE a b c d e)) (by walk_at "r")
 have z:=ko z
 refine⟨al z.1,al z.2.1,fun k hk=>?_⟩
 have y:=aa.mp (aj.mp z.2.2 k hk)
 refine⟨fun e=>?_,al y.2⟩
 rw [e] at y
 cases y.1
 walk_at "z"
noncomputable def yu (m:Nat):ew:=(ib m).map fun k=>(k,((bR m).lookup k).getD [])
noncomputable def pN (l:List (List Int)) (lg:List (Int×Int)):List (Int×Int):=l.foldl (fun lg k=>mQ lg (k.headD 0) k.length) lg
noncomputable def w4 (m:Nat):List (Int×Int):=pN (ib m) []
theorem nT {f:List Int→List E4} {k:List Int} {L:List (List Int)}:(L.map fun k=>(k,f k)).lookup k=if k∈L then some (f k) else none:=by
 walk_at "a"
 induction L with
 | nil=>rfl
 | cons a L ih=>
  rw [bp,aD,ih]
  by_cases q:k=a
  · rw [q,beq_self_eq_true,if_pos List.mem_cons_self]
  · rw [beq_false_of_ne q]
    by_cases q2:k∈L
    · rw [if_pos q2,if_pos (.tail _ q2)]
    · rw [if_neg q2,if_neg fun z=>(aS.mp z).elim q q2]
 walk_at "z"
theorem nU {tb:ew} {k:List Int} (h:k∉tb.map (·.1)):tb.lookup k=none:=by
 induction tb with
 | nil=>rfl
 | cons p tb ih=>
  have q:k≠p.1:=fun e=>h (by rw [e];exact List.mem_cons_self)
  rw [aD,beq_false_of_ne q]
  exact ih fun z=>h (.tail _ z)
theorem lZ {tb:ew} {k:List Int} (h:k∈tb.map (·.1)):∃v,tb.lookup k=some v∧(k,v)∈tb:=by
 walk_at "a"
 induction tb with
 | nil=>cases h
 | cons p tb ih=>
  rw [aD]
  by_cases q:k=p.1
  · rw [q,beq_self_eq_true];exact⟨p.2,rfl, .head _⟩
  · rw [beq_false_of_ne q]
    obtain⟨v,h1,h2⟩:=ih ((aS.mp h).resolve_left q)
    exact⟨v,h1, .tail _ h2⟩
 walk_at "z"
theorem px (m:Nat) (k:List Int):(yu m).lookup k=(bR m).lookup k:=by
 refine nT.trans ?_
 by_cases q:k∈(bR m).map (·.1)
 · obtain⟨v,h1,_⟩:=lZ q
   rw [if_pos ((lj m).mem_iff.mpr (jN m▸q)),h1]
   rfl
 · rw [nU q,if_neg fun q2=>q ((jN m).symm▸(lj m).mem_iff.mp q2)]
theorem GZ (m:Nat):FL (yu m) (w4 m):=by
 walk_at "a"
 exact fun c r h=>by
  have hk:(c::r)∈ib m:=by
   unfold dB yu at h
   rw [nT] at h
   by_cases q:(c::r)∈ib m
   · exact q
   · rw [if_neg q] at h;cases h
  exact al (aj.mp (tT (p:=fun a b c d e=>(pu a b c d e).all fun k=>dm k.length (jW (pN (pu a b c d e) []) (k.headD 0))) (by walk_at "r"):((ib m).all fun k=>dm k.length (jW (w4 m) (k.headD 0)))=true) _ hk)
 walk_at "z"
theorem xR {b:Int} {lg:List (Int×Int)} (h:∀p∈lg,p.2≤b) (h0:0≤b) (c:Int):(lg.lookup c).getD 0≤b:=by
 induction lg with
 | nil=>exact h0
 | cons p lg ih=>
  rw [aD]
  cases c==p.1 with
  | true=>exact h _ (.head _)
  | false=>exact ih fun p hp=>h p (.tail _ hp)
theorem GY (m:Nat) (c:Int):((w4 m).lookup c).getD 0≤900:=xR (fun p hp=>of_decide_eq_true (aj.mp (tT (p:=fun a b c d e=>(pN (pu a b c d e) []).all fun p=>decide (p.2≤900)) (by walk_at "r"):((w4 m).all fun p=>decide (p.2≤900))=true) p hp)) (by decide) c
noncomputable def CQ (e:E4):Bool:=decide (0≤e.1)&&decide (0≤e.2.1)&&decide (0≤e.2.2.1)
theorem sC {e:E4} (h:CQ e=true):kh e:=by
 have z:=ko h
 exact⟨of_decide_eq_true z.1,of_decide_eq_true z.2.1,of_decide_eq_true z.2.2⟩
theorem tU {l:List E4} (h:l.all CQ=true):∀e∈l,kh e:=fun e he=>sC (aj.mp h e he)
theorem AS {m k:Nat} {row:List Int}:∀e∈jK m k row,kh e:=by
 walk_at "a"
 have p1:∀e∈uK k,kh e:=fun e he=>by
  rw [af.mp he]
  have z:0≤(k:Int).fmod 6:=Int.fmod_nonneg_of_pos _ (by decide)
  refine⟨by show 0≤500+10*(k:Int).fmod 6;omega,by show(0:Int)≤32;decide,?_⟩
  show(0:Int)≤2+6*(if((k:Int)==6)=true then 1 else 0)
  split <;> decide
 have p2:∀e∈nA k row,kh e:=by
  unfold nA
  cases decide (row.headD 0 > 200) with
  | true=>exact fun e he=>by rw [af.mp he];exact⟨Int.le_refl 0,by show(0:Int)≤33+(k:Int);omega,by show(0:Int)≤2;decide⟩
  | false=>exact p1
 have p3:∀e∈m7 k row,kh e:=by
  unfold m7
  cases decide (row=[45]) with
  | true=>exact tU (by walk_at "r")
  | false=>exact p2
 unfold jK
 cases decide (row=[803]) with
 | true=>exact tU (aj.mp ((by walk_at "r"):xZ.all (fun l=>l.all CQ)=true) _ (cB Ht))
 | false=>exact p3
 walk_at "z"
theorem zG {m k:Nat} {row:List Int}:(ie m k row).length≤10∧∀e∈ie m k row,kh e:=by
 unfold ie
 refine⟨?_,fun e he=>?_⟩
 · rw [ak,gQ]
   refine a8 (aU (d:=1) (qB m k row) ?_) (by decide)
   unfold EV
   exact(nS _).2.2
 · rcases aN.mp he with he | he
   · exact AS e he
   · rw [List.eq_of_mem_replicate he]
     exact sC (by walk_at "r")
theorem xo {m:Nat} {p:List Int×List E4} {l:List (List Int×Nat)}:∀{tb:ew},p∈l.foldl (nZ m) tb→p∈tb∨∃q:List Int×Nat,p=(q.1,ie m q.2 q.1):=by
 walk_at "a"
 induction l with
 | nil=>exact fun h=> .inl h
 | cons q l ih=>
  intro tb h
  rcases ih h with h | h
  · unfold nZ ad at h
    cases e:gi m q.2 with
    | true=>
     rw [e] at h
     rcases aN.mp h with h | h
     · exact .inl h
     · exact .inr ⟨q,af.mp h⟩
    | false=>rw [e] at h;exact .inl h
  · exact .inr h
 walk_at "z"
theorem ju (m:Nat) (k:List Int):(((bR m).lookup k).getD []).length≤10∧∀e∈((bR m).lookup k).getD [],kh e:=by
 walk_at "a"
 by_cases q:k∈(bR m).map (·.1)
 · obtain⟨v,h1,h2⟩:=lZ q
   rw [h1]
   rcases xo h2 with h2 | ⟨q,h2⟩
   · cases h2
   · cases h2;exact zG
 · rw [nU q]
   exact⟨bl _,fun e he=>nomatch he⟩
 walk_at "z"
theorem sW {tb tb':ew} (h:∀k,tb.lookup k=tb'.lookup k) {f:Nat}:∀{l:List Int},bQ tb f l=bQ tb' f l:=by
 walk_at "a"
 have e:dB tb=dB tb':=by funext k;unfold dB;rw [h]
 induction f with
 | zero=>exact rfl
 | succ f ih=>
  intro l
  cases l with
  | nil=>rfl
  | cons c l=>
   show an (motive:=fun _=>List E4) (dh tb (c::l)).getLast? (jF c++bQ tb f l) (fun i=>(tb.lookup (kf tb (c::l) i).1).getD []++bQ tb f ((kf tb (c::l) i).2.1++(kf tb (c::l) i).2.2))=an (motive:=fun _=>List E4) (dh tb' (c::l)).getLast? (jF c++bQ tb' f l) fun i=>(tb'.lookup (kf tb' (c::l) i).1).getD []++bQ tb' f ((kf tb' (c::l) i).2.1++(kf tb' (c::l) i).2.2)
   unfold dh kf
   rw [e]
   cases ((bH (c::l).length).filter fun i=>dB tb' ((c::l).take (i+1))).getLast? with
   | none=>exact congrArg (jF c++ ·) ih
   | some i=>
    show(tb.lookup _).getD []++bQ tb f _=(tb'.lookup _).getD []++bQ tb' f _
    rw [h,ih]
 walk_at "z"
theorem Ah {tb:ew} (ht:∀k,∀e∈(tb.lookup k).getD [],kh e) {f:Nat}:∀{l:List Int},(∀c∈l,Cd c)→∀e∈bQ tb f l,kh e:=by
 walk_at "a"
 induction f with
 | zero=>intro l _ e he;cases he
 | succ f ih=>
  intro l h e he
  cases l with
  | nil=>cases he
  | cons c l=>
   replace he:e∈an (motive:=fun _=>List E4) (dh tb (c::l)).getLast? (jF c++bQ tb f l) fun i=>(tb.lookup (kf tb (c::l) i).1).getD []++bQ tb f ((kf tb (c::l) i).2.1++(kf tb (c::l) i).2.2):=he
   cases q:(dh tb (c::l)).getLast? with
   | none=>
    rw [q] at he
    rcases aN.mp he with he | he
    · exact tU (fy (P:=fun c=>(jF c).all CQ=true) ⟨(by walk_at "r"),(by walk_at "r"),(by walk_at "r"),(by walk_at "r"),(by walk_at "r"),(by walk_at "r"),(by walk_at "r"),(by walk_at "r"),(by walk_at "r"),(by walk_at "r"),(by walk_at "r"),trivial⟩ (h c (.head _))) e he
    · exact ih (fun x hx=>h x (.tail _ hx)) e he
   | some i=>
    rw [q] at he
    rcases aN.mp he with he | he
    · exact ht _ e he
    · refine ih (fun x hx=>?_) e he
      rcases(oE (inT:=dB tb) (r:=(c::l).drop (i+1)) (row:=(c::l).take (i+1)) (st:=[])).2.2 x (aN.mp hx) with z | z
      · cases z
      · exact h x (i4 z)
 walk_at "z"
theorem Gx (m:Nat) (t:List Int):sE (yu m) (w4 m) t=eX (bR m) t:=(CR (GZ m) t).trans (sW (px m))
theorem vZ (m:Nat) {t:List Int} (h:∀c∈t,Cd c):∀e∈eX (bR m) t,kh e:=Ah (fun k=>(ju m k).2) (oJ h)
structure Dr where
 m:Nat
 how:Str
 st:Nat
 bk:Bool
noncomputable def Dr.El (D:Dr):List Int→List E4:=sE (yu D.m) (w4 D.m)
noncomputable def Dr.lev (D:Dr) (p:List Int):List (List Int):=gG D.how D.st D.bk (eK D.how (eX (bR D.m) p) false)
noncomputable def Dr.pl (D:Dr) (p:List Int):List Int:=bif (D.st:Int)==5 then canon p else []
noncomputable def Dr.due (D:Dr) (p:List Int):FO:=uH (bR D.m) D.how D.st D.bk p
noncomputable def Dr.key (D:Dr) (p:List Int):List Int:=HL D.El D.how (D.st:Nat) D.bk p
noncomputable def Dr.cmp (D:Dr) (p q:List Int):Int:=zo D.El D.how (D.st:Nat) D.bk p q
noncomputable def Dr.kl (D:Dr) (p:List Int):List (List Int):=D.lev p++bif (D.st:Int)==5 then [(canon p).map (· +2)] else []
structure Dr.Ok (D:Dr):Prop where
 lo:1≤D.st
 hi:D.st≤5
def tM (p:List Int):Prop:=∀c∈p,Cd c
section
variable {D:Dr} (h:D.Ok) {p q:List Int} (hp:tM p) (hq:tM q)
theorem Dr.ge5 (h:D.Ok):decide ((D.st:Int)≥5)=((D.st:Int)==5):=by
 have hi:=h.hi
 by_cases q:D.st=5
 · rw [q];rfl
 · rw [decide_eq_false (by omega),beq_false_of_ne (by omega)]
include h hp in
theorem l7:dw D.how (D.st:Nat) D.bk (gp D.how (D.El p))=D.lev p:=by
 rw [show D.El p=eX (bR D.m) p from Gx D.m p,yI (vZ D.m hp),ut h.lo h.hi (Dk (vZ D.m hp))]
 rfl
theorem gL {p:List Int}:(D.lev p).length=min D.st 4:=(a9 _).trans cW
include h in
theorem ur:D.lev p≠[]:=fun e=>by
 have z:=gL (D:=D) (p:=p)
 rw [e] at z
 exact absurd z (bD (Nat.lt_min.mpr ⟨h.lo,by decide⟩))
theorem Dm:∀x∈D.lev p,o8 x:=by
 walk_at "a"
 exact fun x hx=>by
  obtain⟨k,_,rfl⟩:=aP.mp hx
  exact xI
 walk_at "z"
theorem xF {x:List Int} {A:List (List Int)} (h:A≠[]):hW (A++[x])=hW A++0::x:=by
 cases A with
 | nil=>exact absurd rfl h
 | cons y A=>
  show y++k7 (A++[x])=y++k7 A++0::x
  rw [au]
  refine congrArg (y++ ·) ?_
  unfold k7
  rw [List.flatMap_append]
  exact congrArg _ (aw _)
include h hp in
theorem uk:D.key p=hW (D.kl p):=by
 unfold Dr.key HL ui Dr.kl AP
 rw [l7 h hp,Dr.ge5 h,jA hp]
 cases (D.st:Int)==5 with
 | true=>exact(xF (ur h)).symm
 | false=>exact(aw _).trans (congrArg hW (aw _).symm)
include hp in
theorem Ab:∀x∈D.kl p,o8 x:=by
 walk_at "a"
 exact fun x hx=>by
  rcases aN.mp hx with hx | hx
  · exact Dm x hx
  · cases e:(D.st:Int)==5 with
    | false=>rw [e] at hx;cases hx
    | true=>
     rw [e] at hx
     rw [af.mp hx]
     intro c hc
     obtain⟨d,hd,rfl⟩:=aP.mp hc
     exact of_decide_eq_true (aj.mp (rfl:EN.all (fun d=>decide (d+2 > 0))=true) d (oJ hp d hd))
 walk_at "z"
theorem Aa:(D.kl p).length=(D.kl q).length:=by
 unfold Dr.kl
 rw [ak,ak,gL,gL]
 cases (D.st:Int)==5 <;> rfl
theorem De:gR (D.kl p) (D.kl q)=j0 (D.due p) (D.due q):=by
 walk_at "a"
 have hl:(D.lev p).length=(D.lev q).length:=gL.trans gL.symm
 show _=gR (D.lev p++[D.pl p]) (D.lev q++[D.pl q])
 unfold Dr.kl Dr.pl
 rw [oM hl,oM hl]
 by_cases e:D.lev p=D.lev q
 · rw [if_pos e,if_pos e]
   cases (D.st:Int)==5 with
   | false=>rfl
   | true=>
    show gR [(canon p).map (· +2)] [(canon q).map (· +2)]=gR [canon p] [canon q]
    rw [iW,iW,Dt]
    by_cases z:canon p=canon q
    · rw [if_pos z,if_pos (t3.mpr z)]
    · rw [if_neg z,if_neg fun y=>z (t3.mp y)]
 · rw [if_neg e,if_neg e]
 walk_at "z"
include h hp hq
theorem oU:(D.key p=D.key q↔j0 (D.due p) (D.due q)=0)∧i9 (D.key p) (D.key q)=decide (j0 (D.due p) (D.due q) < 0):=by
 walk_at "a"
 obtain⟨a,b⟩:=GT (A:=D.kl p) (B:=D.kl q) Aa (Ab hp) (Ab hq) fun e=>ur h (List.append_eq_nil_iff.mp e).1
 rw [uk h hp,uk h hq,a,b,←De]
 exact⟨(kX Aa).symm,rfl⟩
 walk_at "z"
theorem sv:D.cmp p q=j0 (D.due p) (D.due q):=by
 walk_at "a"
 have hl:(D.lev p).length=(D.lev q).length:=gL.trans gL.symm
 show(bif zp (qV D.El D.how (D.st:Nat) D.bk p q) (D.st:Nat) then gd (dS p) (dS q) else qV D.El D.how (D.st:Nat) D.bk p q)=gR (D.lev p++[D.pl p]) (D.lev q++[D.pl q])
 rw [oM hl]
 unfold zp qV Dr.pl
 rw [l7 h hp,l7 h hq,Dr.ge5 h,jA hp,jA hq]
 by_cases z:D.lev p=D.lev q
 · rw [if_pos z,(kX hl).mpr z]
   cases (D.st:Int)==5 with
   | true=>
    show gd (canon p) (canon q)=gR [canon p] [canon q]
    rw [vt,iW]
    rfl
   | false=>rfl
 · rw [if_neg z,beq_false_of_ne fun y=>z ((kX hl).mp y)]
   rfl
 walk_at "z"
end
theorem Db {D:Dr} (h:D.Ok) {p:List Int} (hp:tM p) (h5:decide ((D.st:Int) < 5)=true):D.key p=hW (D.due p).1:=by
 have z:((D.st:Int)==5)=false:=beq_false_of_ne (Int.ne_of_lt (of_decide_eq_true h5))
 rw [uk h hp]
 unfold Dr.kl
 rw [z]
 exact congrArg hW (aw _)
theorem qK {p:List Int} (hp:tM p):tM (iH p):=fun c hc=>(pA hp c hc).1
theorem uU {D:Dr} (h:D.Ok) {p:List Int} (hp:tM p):D.cmp p (iH p)=0:=by
 rw [sv h hp (qK hp),show D.due (iH p)=D.due p from by unfold Dr.due uH eX;rw [rR hp]]
 exact(kX rfl).mpr rfl
theorem qx {a:List Int}:∀{b c:List Int},i9 a b=true→i9 b c=true→i9 a c=true:=by
 walk_at "a"
 induction a with
 | nil=>intro b c h1 h2;cases c with
  | nil=>rw [mG] at h2;cases h2
  | cons _ _=>rfl
 | cons a x ih=>intro b c h1 h2;cases b with
  | nil=>rw [mG] at h1;cases h1
  | cons b y=>cases c with
   | nil=>rw [mG] at h2;cases h2
   | cons c z=>
    rw [eY] at h1 h2 ⊢
    by_cases q1:a=b
    · rw [if_pos q1] at h1
      by_cases q2:b=c
      · rw [if_pos q2] at h2;rw [if_pos (q1.trans q2)];exact ih h1 h2
      · rw [if_neg q2] at h2;rw [if_neg fun e=>q2 (q1.symm.trans e),q1];exact h2
    · rw [if_neg q1] at h1
      have h1:=of_decide_eq_true h1
      by_cases q2:b=c
      · rw [if_neg fun e=>q1 (e.trans q2.symm),←q2];exact decide_eq_true h1
      · rw [if_neg q2] at h2
        have h2:=Int.lt_trans h1 (of_decide_eq_true h2)
        rw [if_neg (Int.ne_of_lt h2)];exact decide_eq_true h2
 walk_at "z"
theorem w8 {a:List Int}:∀{b:List Int},i9 a b=false→i9 b a=false→a=b:=by
 induction a with
 | nil=>intro b h1 _;cases b with
  | nil=>rfl
  | cons _ _=>cases h1
 | cons a x ih=>intro b h1 h2;cases b with
  | nil=>cases h2
  | cons b y=>
   rw [eY] at h1 h2
   by_cases q:a=b
   · rw [if_pos q] at h1;rw [if_pos q.symm] at h2;rw [q,ih h1 h2]
   · rw [if_neg q] at h1;rw [if_neg (Ne.symm q)] at h2
     exact absurd (Int.le_antisymm (dp.mp (of_decide_eq_false h2)) (dp.mp (of_decide_eq_false h1))) q
noncomputable def iU (lt:Nat→Nat→Bool) (b k:Nat):Nat:=bif lt k b then k else b
noncomputable def k9 (lt:Nat→Nat→Bool) (l:List Nat):Nat:=l.foldl (iU lt) (l.headD 0)
noncomputable def jZ (lt:Nat→Nat→Bool) (f:Nat):List Nat→List Nat:=Nat.rec (motive:=fun _=>List Nat→List Nat) (fun _=>[]) (fun _ ih l=>ay (motive:=fun _=>List Nat) l [] fun a l=>k9 lt (a::l)::ih ((a::l).eraseIdx ((a::l).idxOf (k9 lt (a::l))))) f
theorem zf {lt:Nat→Nat→Bool} {l:List Nat}:∀{b:Nat},l.foldl (iU lt) b=b∨l.foldl (iU lt) b∈l:=by
 induction l with
 | nil=>exact .inl rfl
 | cons k l ih=>
  intro b
  rw [bE]
  rcases ih (b:=iU lt b k) with e | e
  · rw [e]
    unfold iU
    cases lt k b with
    | true=>exact .inr (.head _)
    | false=>exact .inl rfl
  · exact .inr (.tail _ e)
theorem vo {lt:Nat→Nat→Bool} {a:Nat} {l:List Nat}:k9 lt (a::l)∈a::l:=by
 rcases zf (lt:=lt) (l:=a::l) (b:=a) with e | e
 · rw [show k9 lt (a::l)=a from e];exact .head _
 · exact e
theorem tZ {lt lt':Nat→Nat→Bool} {n:Nat} (h:∀i j,i < n→j < n→lt i j=lt' i j) {l:List Nat}:∀{b:Nat},b < n→(∀k∈l,k < n)→l.foldl (iU lt) b=l.foldl (iU lt') b:=by
 walk_at "a"
 induction l with
 | nil=>exact fun _ _=>rfl
 | cons k l ih=>
  intro b hb hl
  have e:iU lt b k=iU lt' b k:=by unfold iU;rw [h k b (hl k (.head _)) hb]
  rw [bE,bE,e]
  refine ih ?_ fun x hx=>hl x (.tail _ hx)
  unfold iU
  cases lt' k b with
  | true=>exact hl k (.head _)
  | false=>exact hb
 walk_at "z"
theorem ti {lt lt':Nat→Nat→Bool} {n:Nat} (h:∀i j,i < n→j < n→lt i j=lt' i j) {f:Nat}:∀{l:List Nat},(∀k∈l,k < n)→jZ lt f l=jZ lt' f l:=by
 induction f with
 | zero=>exact fun _=>rfl
 | succ f ih=>
  intro l hl
  cases l with
  | nil=>rfl
  | cons a l=>
   have e:k9 lt (a::l)=k9 lt' (a::l):=tZ h (hl a (.head _)) hl
   show k9 lt (a::l)::jZ lt f _=k9 lt' (a::l)::jZ lt' f _
   rw [e,ih fun k hk=>hl k (List.mem_of_mem_eraseIdx hk)]
noncomputable def Kb (n:Nat):List (List Nat):=Nat.rec (motive:=fun _=>List (List Nat)) [[]] (fun _ ih=>ih.flatMap fun w=>(bH 5).map fun x=>x::w) n
theorem Ay {w:List Nat} (h:∀x∈w,x < 5):w∈Kb w.length:=by
 induction w with
 | nil=>exact .head _
 | cons x w ih=>exact aG.mpr ⟨w,ih fun y hy=>h y (.tail _ hy),aP.mpr ⟨x,dF.mpr (h x (.head _)),rfl⟩⟩
noncomputable def Fq (w:List Nat):Bool:=w.all fun x=>w.countP (fun y=>decide (y < x))==x
noncomputable def wg (w:List Nat) (i j:Nat):Bool:=decide (w.getD i 0 < w.getD j 0) || (w.getD i 0==w.getD j 0&&decide (i < j))
noncomputable def HC (w:List Nat):List Nat:=jZ (fun i j=>decide (w.getD i 0 < w.getD j 0)) 5 [0,1,2,3,4]
noncomputable def LB (w:List Nat):Bool:=an (motive:=fun _=>Bool) (iP (wg w) 5 (kas_sort 5)) false fun q=>q.toList==HC w&&(HC w).all fun i=>decide (i < 5)
theorem Cu:((Kb 5).filter Fq).all LB=true:=(by walk_at "r")
noncomputable def yB (ks:List (List Int)):List Nat:=ks.map fun x=>ks.countP fun y=>i9 y x
theorem zu {ks:List (List Int)} {x y:List Int} (hx:x∈ks):decide (ks.countP (fun z=>i9 z x) < ks.countP (fun z=>i9 z y))=i9 x y:=by
 walk_at "a"
 have le:∀{x y:List Int} {l:List (List Int)},i9 x y=true→l.countP (fun z=>i9 z x)≤l.countP (fun z=>i9 z y):=fun hxy=>List.countP_mono_left fun z _ hz=>qx hz hxy
 cases q:i9 x y with
 | true=>
  refine decide_eq_true ?_
  induction ks with
  | nil=>cases hx
  | cons a l ih=>
   rw [List.countP_cons,List.countP_cons]
   by_cases e:x=a
   · rw [←e,ou,q]
     exact f0 (le q)
   · have z:=ih ((aS.mp hx).resolve_left e)
     cases z1:i9 a x with
     | false=>exact aq z (av _ _)
     | true=>rw [qx z1 q];exact k8 z
 | false=>
  refine decide_eq_false ?_
  cases q2:i9 y x with
  | true=>exact bU.mpr (le q2)
  | false=>rw [w8 q q2];exact i6 _
 walk_at "z"
theorem rU {ks:List (List Int)} {i:Nat} (hi:i < ks.length):(yB ks).getD i 0=ks.countP fun y=>i9 y (ks.getD i []):=by
 unfold yB
 rw [ah,ax,ah,ai hi]
 rfl
theorem rV {ks:List (List Int)} {i j:Nat} (hi:i < ks.length) (hj:j < ks.length):decide ((yB ks).getD i 0 < (yB ks).getD j 0)=i9 (ks.getD i []) (ks.getD j []):=by
 rw [rU hi,rU hj]
 exact zu (cB hi)
theorem BH {ks:List (List Int)}:Fq (yB ks)=true:=by
 walk_at "a"
 refine aj.mpr fun x hx=>?_
 obtain⟨k,hk,rfl⟩:=aP.mp hx
 rw [beq_iff_eq]
 unfold yB
 rw [List.countP_map]
 exact List.countP_congr fun y hy=>by
  rw [←zu (ks:=ks) (x:=y) (y:=k) hy]
  rfl
 walk_at "z"
theorem yC {ks:List (List Int)}:∀x∈yB ks,x < ks.length:=fun x hx=>by
 obtain⟨k,hk,rfl⟩:=aP.mp hx
 refine Nat.lt_of_le_of_ne List.countP_le_length fun e=>?_
 have z:=List.countP_eq_length.mp e k hk
 rw [ou] at z
 cases z
theorem E3 {ks:List (List Int)} (h5:ks.length=5) {lt:Nat→Nat→Bool} (hlt:∀i j,i < 5→j < 5→lt i j=i9 (ks.getD i []) (ks.getD j [])) {pl:Nat→Nat→Bool} (hpl:∀i j,i < 5→j < 5→pl i j=if ks.getD i []=ks.getD j [] then decide (i < j) else i9 (ks.getD i []) (ks.getD j [])):
 ∃qa,iP pl 5 (kas_sort 5)=some qa∧qa.toList=jZ lt 5 [0,1,2,3,4]∧∀i∈qa.toList,i < 5:=by
 walk_at "a"
 have at5:∀{i},i < 5→i < ks.length:=fun h=>h5▸h
 have hw:LB (yB ks)=true:=by
  refine aj.mp Cu _ (cp.mpr ⟨?_,BH⟩)
  have z:=Ay (w:=yB ks) fun x hx=>h5▸yC x hx
  rwa [show(yB ks).length=5 from(a9 _).trans h5] at z
 have e1:iP pl 5 (kas_sort 5)=iP (wg (yB ks)) 5 (kas_sort 5):=oT (fun i j hi hj=>by
  rw [hpl i j hi hj]
  unfold wg
  rw [rV (at5 hi) (at5 hj)]
  by_cases q:ks.getD i []=ks.getD j []
  · rw [if_pos q,q,ou,rU (at5 hi),rU (at5 hj),q,beq_self_eq_true]
    rfl
  · rw [if_neg q,beq_false_of_ne fun e=>q ?_]
    · exact(Bool.or_false _).symm
    · have a:=rV (ks:=ks) (at5 hi) (at5 hj)
      have b:=rV (ks:=ks) (at5 hj) (at5 hi)
      rw [e,decide_eq_false (i6 _)] at a b
      exact w8 a.symm b.symm) _
 unfold LB at hw
 rw [e1]
 cases hq:iP (wg (yB ks)) 5 (kas_sort 5) with
 | none=>rw [hq] at hw;cases hw
 | some q=>
  rw [hq] at hw
  have hw:=aa.mp hw
  have e2:=beq_iff_eq.mp hw.1
  have e3:HC (yB ks)=jZ lt 5 [0,1,2,3,4]:=ti (n:=5) (fun i j hi hj=>by rw [hlt i j hi hj,rV (at5 hi) (at5 hj)]) (by decide)
  refine⟨q,rfl,e2.trans e3,fun i hi=>?_⟩
  rw [e2] at hi
  exact of_decide_eq_true (aj.mp hw.2 i hi)
 walk_at "z"
noncomputable def ic (l:List Int):List Nat:=(l.take 16).map fun x=>x.natAbs % 1000000
noncomputable def uM (l:List (Option V)):aF:=l++br (37 - l.length) none
noncomputable abbrev uw:List Bool:=[true,true,true,true,true,true,true,true,true,true,true,true,true,true,true,true,true,true,true,true,true,true,true,true,true,true,true,true,true,true,true,true,true,true,true,true,true]
theorem zn {x:Int}:(if x < 0 then -x else x).fmod 1000000=((x.natAbs % 1000000:Nat):Int):=by
 have e:(if x < 0 then -x else x)=(x.natAbs:Int):=by split <;> omega
 rw [e,dG _ (by decide)]
 rfl
noncomputable def Hj (l:List Int):Nat:=(ic l).headD 0
theorem Hn (cs:List Nat):(nL cs).length=cs.length:=a9 _
theorem q9 (l:List Int):(ic l).length≤16:=a8 (ae (a9 _)) (mq ..)
theorem CI (l:List Int):(nL (ic l)).length+[T.int 0].length≤sizeLine:=a8 (aQ (a8 (ae (Hn _)) (q9 l)) 1) (by decide)
theorem CH (l:List Int):(nL (ic l)++[T.int 0])[(0:Int).toNat]? =some (.int (Hj l:Nat)):=by
 unfold Hj
 cases ic l <;> rfl
theorem Lr (l:List Int):Hj l < 1000000:=by
 unfold Hj ic
 cases l.take 16 with
 | nil=>exact(by decide:0 < 1000000)
 | cons x r=>exact gb _ (by decide)
noncomputable def ET (m:Nat) (k:List Int):List E4:=((bR m).lookup k).getD []
noncomputable def F0 (m:Nat) (cs:List Nat) (dn:List (List Int)):Hp:=(100, .list (nL cs))::nv 101 102 103 104 (pQ (dn.map fun k=>(k,ET m k))) (qv (pN dn [])) (hV ce)
structure KN (m:Nat) (l s:List (List Int)):Prop where
 eq:s++l=ib m
theorem Ff (m:Nat):(pQ (bR m)).map (·.1)=(kC m).map kT:=by
 unfold pQ
 rw [aO,←jN,aO]
 rfl
theorem GU (m:Nat):∃q:Array Nat,iP (nV ((pQ (bR m)).map (·.1))) ((pQ (bR m)).map (·.1)).length (kas_sort ((pQ (bR m)).map (·.1)).length)=some q∧(q.toList.map fun i=>((pQ (bR m)).map (·.1)).getD i .none)=(ib m).map kT:=by
 walk_at "a"
 rw [Ff,a9]
 have z:=Bg m
 unfold B6 at z
 cases hq:iP (nV ((kC m).map kT)) (kC m).length (kas_sort (kC m).length) with
 | none=>rw [hq] at z;cases z
 | some q=>
  rw [hq] at z
  have z:=aa.mp z
  refine⟨q,rfl,?_⟩
  rw [←of_decide_eq_true z.1,aO]
  refine iu fun i hi=>?_
  rw [ah,eR (d:=[]) (of_decide_eq_true (aj.mp z.2 i hi))]
  rfl
 walk_at "z"
theorem Jl (m:Nat):(dm 2 ((pQ (bR m)).map (·.1)).length&&bf ((pQ (bR m)).map (·.1)).length 64&&(((pQ (bR m)).map (·.1)).all (dg .int) || (((pQ (bR m)).map (·.1)).all (dg .tup)&&((pQ (bR m)).map (·.1)).all jE)))=true:=by
 rw [Ff]
 exact tT (p:=fun a b c d e=>dm 2 ((mE a b c d e).map kT).length&&bf ((mE a b c d e).map kT).length 64&&(((mE a b c d e).map kT).all (dg .int) || (((mE a b c d e).map kT).all (dg .tup)&&((mE a b c d e).map kT).all jE))) (by walk_at "r")
theorem Am {d:List (List Int)}:∀{lg:List (Int×Int)},(pN d lg).length≤lg.length+d.length:=by
 induction d with
 | nil=>exact aB _
 | cons a d ih=>
  intro lg
  refine a8 (ih (lg:=mQ lg (a.headD 0) a.length)) ?_
  have z:(mQ lg (a.headD 0) a.length).length≤lg.length+1:=by
   unfold mQ
   cases decide ((lg.lookup (a.headD 0)).getD 0 < (a.length:Int)) with
   | false=>exact d5 _
   | true=>
    show(Bb _ _ lg).length≤_
    unfold Bb
    cases lg.any fun p=>p.1==a.headD 0 with
    | true=>exact bG (ae (a9 _))
    | false=>exact ae ak
  exact a8 (aQ z _) (ae (by rw [aM,bz,bq]))
theorem KN.at {m:Nat} {kk:List Int} {l s:List (List Int)} (h:KN m (kk::l) s):∃c k v,kk=c::k∧(bR m).lookup kk=some v∧k.length≤100∧(∀p∈s.map (fun k=>(k,ET m k)),p.1≠kk)∧s.length≤100∧v.length≤1000:=by
 walk_at "a"
 have hk:kk∈ib m:=h.eq▸List.mem_append_right _ (.head _)
 have hk2:=(lj m).mem_iff.mp hk
 have kl:=(A7 m).2
 have k3:=kl.2 kk hk2
 obtain⟨v,hv,_⟩:=lZ (jN m▸hk2)
 have tk:=(ju m kk).1
 rw [hv] at tk
 cases kk with
 | nil=>exact absurd rfl k3.1
 | cons c k=>
  refine⟨c,k,v,rfl,hv,a8 (bF k3.2) (by decide),fun p hp e=>?_,?_,a8 tk (by decide)⟩
  · obtain⟨a,ha,rfl⟩:=aP.mp hp
    have nd:=uQ m
    rw [←h.eq] at nd
    exact(List.nodup_append.mp nd).2.2 a ha (c::k) (.head _) e
  · have e:=(lj m).length_eq
    rw [←h.eq,ak] at e
    exact a8 (Nat.le.intro e) (a8 kl.1 (by decide))
 walk_at "z"
theorem DH {m:Nat} (cs:List Nat) {c:Int} {k:List Int} {v:List E4} {s:List (List Int)} (hv:(bR m).lookup (c::k)=some v):F0 m cs (s++[c::k])=(100, .list (nL cs))::nv 101 102 103 104 (pQ (s.map (fun k=>(k,ET m k))++[(c::k,v)])) (qv (mQ (pN s []) c (k.length+1))) (hV ce):=by
 unfold F0
 rw [ao]
 have e1:ET m (c::k)=v:=by unfold ET;rw [hv];rfl
 have e2:pN (s++[c::k]) []=mQ (pN s []) c (k.length+1):=by unfold pN;rw [ji];rfl
 rw [e2,show(dL (fun k=>(k,ET m k)) [c::k])=[(c::k,ET m (c::k))] from rfl,e1]
noncomputable def r6 (v0:Value) (m:Nat):aF:=uM [some (.t (.raw v0)),some (.ref 100),some (.t (.int (m:Nat))),some (.t (rP (bR m))),some (.iref 514 101),some (.t co)]
theorem CY {body:aF→Hp→(Fl→aF→Hp→Prop)→Prop} {tg:Tg} {m:List Bool} {Q:Fl→aF→Hp→Prop} {ts ts':List T} {ρ ρ':aF} {H H':Hp} (e:ts=ts') (e2:ρ'=ρ) (e3:H'=H) (h:kj body tg m Q ts' ρ' H'):kj body tg m Q ts ρ H:=by subst e;subst e2;subst e3;exact h
noncomputable def F8:List Str:=["non-ignorable","blanked","shifted","shift-trimmed"].map ac
noncomputable def Ld (m:Nat):Nat:=(((m:Int).fdiv 3).fmod 4).toNat
noncomputable def ER (m:Nat):Dr:=⟨m,F8.getD (Ld m) default,1+m / 5 % 5,((m:Int).fdiv 7).fmod 2==1⟩
theorem F1 (m:Nat):(((m:Int).fdiv 3).fmod 4)=((m / 3 % 4:Nat):Int):=by
 rw [fq _ (by decide),dG _ (by decide)]
 rfl
theorem J4 (m:Nat):oS (((m:Int).fdiv 3).fmod 4)=true:=by rw [F1];exact cy (cN (gb _ (by decide)) (by decide:4 < 16777216))
theorem GF (m:Nat):(F8.map T.str)[(((m:Int).fdiv 3).fmod 4).toNat]? =some (.str (ER m).how):=eR (by rw [F1];exact gb _ (by decide))
theorem Gv (m:Nat):(ER m).Ok:=⟨av 1 _,aL (cX (gb _ (by decide:5 > 0))) 1⟩
noncomputable def r8 (v0:Value) (m:Nat) (how:Str):aF:=uM [some (.t (.raw v0)),some (.ref 100),some (.t (.int (m:Nat))),some (.t (rP (bR m))),some (.iref 514 101),some (.t co),none,some (.t (.str how))]
noncomputable def r10 (v0:Value) (m:Nat) (D:Dr):aF:=uM [some (.t (.raw v0)),some (.ref 100),some (.t (.int (m:Nat))),some (.t (rP (bR m))),some (.iref 514 101),some (.t co),none,some (.t (.str D.how)),some (.t (.int (D.st:Nat))),some (.t (.bool D.bk))]
noncomputable def r11 (v0:Value) (m:Nat) (D:Dr):aF:=uM [some (.t (.raw v0)),some (.ref 100),some (.t (.int (m:Nat))),some (.t (rP (bR m))),some (.iref 514 101),some (.t co),none,some (.t (.str D.how)),some (.t (.int (D.st:Nat))),some (.t (.bool D.bk)),some (.iref 214 102)]
noncomputable def hOp (m:Nat) (cs:List Nat) (D:Dr):Hp:=[(100, .list (nL cs)),(101, .dict (AI 103 104 105)),(102, .dict (AG D.how (D.st:Nat) D.bk)),(103, .tdct (pQ (yu m))),(104, .tdct (qv (w4 m))),(105, .list (hV ce))]
noncomputable def iw:List Int:=[97,98,768,769,803,45,65,224,225,120,19970]
noncomputable def jd (cs:List Nat):List Int:=cs.map fun c=>iw.getD (c % 11) 0
noncomputable def AL (cs:List Nat):List (List Int):=[jd ((cs.drop 1).take 3),jd ((cs.drop 4).take 4),jd ((cs.drop 8).take 4),jd ((cs.drop 11).take 5)]
noncomputable def AM (cs:List Nat):List (List Int):=AL cs++[iH (jd ((cs.drop 4).take 4))]
noncomputable def r12 (v0:Value) (m:Nat) (D:Dr):aF:=uM [some (.t (.raw v0)),some (.ref 100),some (.t (.int (m:Nat))),some (.t (rP (bR m))),some (.iref 514 101),some (.t co),none,some (.t (.str D.how)),some (.t (.int (D.st:Nat))),some (.t (.bool D.bk)),some (.iref 214 102),some (.ref 103)]
noncomputable def LH (v0:Value) (m:Nat) (D:Dr):aF:=uM [some (.t (.raw v0)),some (.ref 100),some (.t (.int (m:Nat))),some (.t (rP (bR m))),some (.iref 514 101),some (.t co),none,some (.t (.str D.how)),some (.t (.int (D.st:Nat))),some (.t (.bool D.bk)),some (.iref 214 102),some (.ref 103),some (.ref 104)]
noncomputable def hCo (m:Nat) (cs:List Nat) (D:Dr) (r:Hp):Hp:=[(100, .list (nL cs)),(101, .dict (AI 104 105 106)),(102, .dict (AG D.how (D.st:Nat) D.bk)),(103, .list (iV iw)),(104, .tdct (pQ (yu m))),(105, .tdct (qv (w4 m))),(106, .list (hV ce))]
noncomputable def Lc (m:Nat) (cs:List Nat) (D:Dr) (ps:List (List Int)):Hp:=[(100, .list (nL cs)),(101, .dict (AI 105 106 107)),(102, .dict (AG D.how (D.st:Nat) D.bk)),(103, .list (iV iw)),(104, .list (ps.map iL)),(105, .tdct (pQ (yu m))),(106, .tdct (qv (w4 m))),(107, .list (hV ce))]
theorem K6 (v0:Value) (m:Nat):r10 v0 m (ER m)=uM [some (.t (.raw v0)),some (.ref 100),some (.t (.int (m:Nat))),some (.t (rP (bR m))),some (.iref 514 101),some (.t co),none,some (.t (.str (ER m).how)),some (.t (.int (1+((m:Int).fdiv 5).fmod 5))),some (.t (.bool (((m:Int).fdiv 7).fmod 2==1)))]:=by
 have e:1+((m:Int).fdiv 5).fmod 5=((1+m / 5 % 5:Nat):Int):=by
  rw [fq _ (by decide),dG _ (by decide)]
  rfl
 rw [e]
 rfl
noncomputable def wu (cs:List Nat):List (List Nat):=[(cs.drop 1).take 3,(cs.drop 4).take 4,(cs.drop 8).take 4,(cs.drop 11).take 5]
theorem qW {cs:List Nat} (h:cs.length≤16):fit (nL cs).length=true:=aV h rfl
theorem wi {ts:List T} {a b:Nat} (h:a≤b):cJ ts (some (a:Int)) (some (b:Int))=(ts.drop a).take (b - a):=by
 unfold cJ
 have h1:kms_lo (some (a:Int)) ts.length=min a ts.length:=by
  show(if(a:Int) < 0 then ts.length - (-(a:Int)).toNat else min (a:Int).toNat ts.length)=_
  rw [if_neg (by omega),aW]
 have h2:kms_hi (some (b:Int)) ts.length=min b ts.length:=by
  show(if(b:Int) < 0 then ts.length - (-(b:Int)).toNat else min (b:Int).toNat ts.length)=_
  rw [if_neg (by omega),aW]
 rw [h1,h2]
 by_cases q:ts.length≤a
 · rw [bO (by omega),bO q];simp
 · rw [show min a ts.length=a by omega]
   by_cases q2:b≤ts.length
   · rw [show min b ts.length=b by omega]
   · rw [dz (by rw [aT];omega),dz (by rw [aT];omega)]
theorem DO {cs:List Nat} {a b:Nat} (h:a≤b):cJ (nL cs) (some (a:Int)) (some (b:Int))=nL ((cs.drop a).take (b - a)):=by
 rw [wi h]
 unfold nL
 rw [fQ,List.map_drop]
theorem Be (cs:List Nat):[T.lst (cJ (nL cs) (some 1) (some 4)), .lst (cJ (nL cs) (some 4) (some 8)), .lst (cJ (nL cs) (some 8) (some 12)), .lst (cJ (nL cs) (some 11) (some 16))]=(wu cs).map fun x=> .lst (nL x):=by
 have e:∀a b:Nat,a≤b→cJ (nL cs) (some (a:Int)) (some (b:Int))=nL ((cs.drop a).take (b - a)):=fun a b h=>DO h
 rw [show cJ (nL cs) (some 1) (some 4)=_ from e 1 4 (by decide),show cJ (nL cs) (some 4) (some 8)=_ from e 4 8 (by decide),show cJ (nL cs) (some 8) (some 12)=_ from e 8 12 (by decide),show cJ (nL cs) (some 11) (some 16)=_ from e 11 16 (by decide)]
 rfl
theorem yo {cs x:List Nat} (h:cs.length≤16) (hx:x∈wu cs):x.length≤16:=by
 have z:∀a b,((cs.drop a).take b).length≤16:=fun a b=>a8 (List.length_take_le' ..) (a8 (ae aT) (a8 (eJ ..) h))
 unfold wu at hx
 rcases aS.mp hx with e | hx
 · exact e▸z _ _
 rcases aS.mp hx with e | hx
 · exact e▸z _ _
 rcases aS.mp hx with e | hx
 · exact e▸z _ _
 exact af.mp hx▸z _ _
theorem zv (i:Nat):(i:Int).fmod 11=((i % 11:Nat):Int):=dG _ (by decide)
theorem Gq (i:Nat):oS ((i:Int).fmod 11)=true:=by rw [zv];exact cy (cN (gb _ (by decide)) (by decide:11 < 16777216))
theorem CM (i:Nat):(iV iw)[((i:Int).fmod 11).toNat]? =some (.int (iw.getD (i % 11) 0)):=by
 rw [zv]
 exact eR (f:=T.int) (gb _ (by decide))
theorem CN (i:Nat):Cd (iw.getD (i % 11) 0):=kU.mp (aj.mp ((by walk_at "r"):((bH 11).all fun i=>EN.contains (iw.getD i 0))=true) _ (dF.mpr (gb i (by decide))))
theorem oz (x:List Nat):tM (jd x):=fun c hc=>by
 obtain⟨d,_,rfl⟩:=aP.mp hc
 exact CN d
theorem pf {cs:List Nat} {a b k:Nat} (h:b≤k):(jd ((cs.drop a).take b)).length≤k:=a8 (ae (a9 _)) (a8 (mq ..) h)
theorem Ka {K:T→Hp→Prop} {d d':T} {H H':Hp} (h:K d H) (e:d=d') (e2:H=H'):K d' H':=by subst e;subst e2;exact h
structure pH (ps:List (List Int)):Prop where
 len:ps.length=5
 ok:∀p∈ps,j9 p
 tn:ps.getD 4 []=iH (ps.getD 1 [])
noncomputable def dueL (D:Dr) (ps:List (List Int)):T:= .lst (ps.map fun p=>uE (D.due p))
noncomputable def r14 (v0:Value) (D:Dr):aF:=uM [some (.t (.raw v0)),some (.ref 100),some (.t (.int (D.m:Nat))),some (.t (rP (bR D.m))),some (.iref 514 101),some (.t co),none,some (.t (.str D.how)),some (.t (.int (D.st:Nat))),some (.t (.bool D.bk)),some (.iref 214 102),some (.ref 103),some (.ref 104),none,some (.ref 105)]
noncomputable def hDu (cs:List Nat) (D:Dr) (ps:List (List Int)):Hp:=[(100, .list (nL cs)),(101, .dict (AI 106 107 108)),(102, .dict (AG D.how (D.st:Nat) D.bk)),(103, .list (iV iw)),(104, .list (ps.map iL)),(105, .list (ps.map fun p=>uE (D.due p))),(106, .tdct (pQ (yu D.m))),(107, .tdct (qv (w4 D.m))),(108, .list (hV ce))]
noncomputable def JP (D:Dr):T:= .dct [(.str "table",rP (yu D.m)),(.str "longest",Lm (w4 D.m)),(.str "factors", .tup [.int 1, .int 1, .int 1]),(.str "bases",tY)]
noncomputable def JO (D:Dr):T:= .dct [(.str "factors", .tup [.int 1, .int 1, .int 1]),(.str "how", .str D.how),(.str "strength", .int (D.st:Nat)),(.str "is_backwards", .bool D.bk),(.str "case_first", .str ""),(.str "has_case_level", .bool false),(.str "is_numeric", .bool false),(.str "reorder", .none)]
noncomputable def hFz (cs:List Nat) (D:Dr) (ps:List (List Int)):Hp:=[(100, .list (nL cs)),(101, .frz (JP D)),(102, .frz (JO D)),(103, .list (iV iw)),(105, .list (ps.map fun p=>uE (D.due p))),(106, .frz (rP (yu D.m))),(107, .frz (Lm (w4 D.m))),(108, .frz tY)]
noncomputable def rB (v0:Value) (D:Dr) (page:Option V) (pg du ke:V):List (Option V):=[some (.t (.raw v0)),some (.ref 100),some (.t (.int (D.m:Nat))),some (.t (rP (bR D.m))),some (.t (il (yu D.m) (w4 D.m))),some (.t co),none,some (.t (.str D.how)),some (.t (.int (D.st:Nat))),some (.t (.bool D.bk)),some (.t (fF D.how (D.st:Nat) D.bk)),some (.ref 101),some pg,page,some du,some ke]
noncomputable def r15 (v0:Value) (D:Dr):aF:=uM (rB v0 D none (.ref 102) (.ref 103) (.ref 104))
noncomputable def hB (cs:List Nat):Hp:=[(100, .list (nL cs)),(101, .list (iV iw))]
noncomputable def hKe (cs:List Nat) (D:Dr) (ps:List (List Int)):Hp:=hB cs++[(102, .list (ps.map iL)),(103, .list (ps.map fun p=>uE (D.due p))),(104, .list (ps.map fun p=>iL (D.key p)))]
theorem Lk {tg:Tg} {cond:aF→Hp→(Bool→Hp→Prop)→Prop} {elt:aF→Hp→(V→Hp→Prop)→Prop} {d y:T} {ts:List T} {ρ:aF} {H H':Hp} {K:List T→Hp→Prop} (h:EG tg cond elt ρ ts H' fun ys H5=>K (y::ys) H5)
 (step:∀(K1:T→Hp→Prop) (K0:Hp→Prop),K1 y H'→gv tg d ρ fun ρ1=>cond ρ1 H fun b H1=>Br b (elt ρ1 H1 fun v H2=>yS v H2 fun y H3=>lP H H3 fun H4=>K1 y H4) (lP H H1 fun H4=>K0 H4)):EG tg cond elt ρ (d::ts) H K:=
 ⟨step (fun y H4=>Fg tg cond elt ρ ts H4 fun ys H5=>K (y::ys) H5) (fun H4=>Fg tg cond elt ρ ts H4 K) h.go⟩
theorem pH.at {ps:List (List Int)} (h:pH ps) {p:List Int} {k:Nat} (hk:(p,k)∈ps.zipIdx):k < ps.length∧ps.getD k []=p:=by
 obtain⟨_,h1,h2⟩:=List.mem_zipIdx hk
 rw [bo] at h1
 refine⟨h1,?_⟩
 rw [ah,ai h1,h2]
 rfl
theorem oR {C:Cx} (F:de C) (LT:qO C) (D:Dr):pX C (yu D.m) (w4 D.m) D.El j9:=J2 F LT (GY D.m) fun k=>by rw [px];exact(ju D.m k).1
theorem yt {k:Nat} {l:List (List Int)} (h:∀x∈l,x.length≤k):(k7 l).length≤l.length*(k+1):=by
 induction l with
 | nil=>exact bl _
 | cons x l ih=>
  show(0::x++k7 l).length≤(l.length+1)*(k+1)
  rw [ak,aM,Nat.succ_mul,bI]
  exact aU (ih fun y hy=>h y (.tail _ hy)) (aH (h x (.head _)))
theorem A5 {k:Nat} {l:List (List Int)} (h:∀x∈l,x.length≤k):(hW l).length≤l.length*(k+1):=by
 cases l with
 | nil=>exact bl _
 | cons x l=>
  show(x++k7 l).length≤(l.length+1)*(k+1)
  rw [ak,Nat.succ_mul,bI]
  exact aU (yt fun y hy=>h y (.tail _ hy)) (bG (h x (.head _)))
theorem A6 {D:Dr} {p:List Int} (hp:j9 p):(D.key p).length≤100000:=by
 have l1:=iA D.how (D.st:Nat) D.bk (gp D.how (D.El p))
 have l2:(gp D.how (D.El p)).length≤10000:=by
  rw [jv,show D.El p=eX (bR D.m) p from Gx D.m p]
  exact nq hp.1 (a8 hp.2 (by decide)) fun k=>(ju D.m k).1
 have l3:(AP (D.st:Nat) (some (dS p))).length≤33:=by
  unfold AP
  cases decide ((D.st:Int)≥5) with
  | true=>exact aH (a8 (ae (a9 _)) (jB hp.1 hp.2))
  | false=>exact bl _
 refine a8 (ae ak) (a8 (aU (a8 (A5 (k:=10000) fun x hx=>a8 (l1.2 x hx) l2) (Nat.mul_le_mul_right _ l1.1)) l3) (by decide))
noncomputable def JT (v0:Value) (D:Dr) (ps:List (List Int)):aF:=uM (rB v0 D none (.t (qw ps)) (.ref 102) (.ref 103))
noncomputable def ue (cs:List Nat) (D:Dr) (ps:List (List Int)):Hp:=hB cs++[(102, .list (ps.map fun p=>uE (D.due p))),(103, .list (ps.map fun p=>iL (D.key p)))]
theorem KB {K:Bool→Hp→Prop} {b b':Bool} {H H':Hp} (h:K b H) (e:b=b') (e2:H=H'):K b' H':=by subst e;subst e2;exact h
theorem yP {ps:List (List Int)} (h:pH ps) {k:Nat} (hk:k < ps.length):oS (k:Int)=true:=cy (cN (h.len▸hk) (by decide))
theorem xH {C:Cx} (F:de C) {D:Dr} (hD:D.Ok) {p:List Int} (hp:j9 p):dE C 5 (.ref 692) [qw (D.due p).1] (.t (iL (hW (D.due p).1))):=by
 have ne:D.lev p≠[]:=ur hD
 have ll:(D.lev p).length≤4:=a8 (ae gL) (bx ..)
 have lx:∀y∈D.lev p,y.length≤10000:=fun y hy=>by
  rw [←l7 hD hp.1] at hy
  exact a8 ((iA ..).2 y hy) (by
   rw [jv,show D.El p=eX (bR D.m) p from Gx D.m p]
   exact nq hp.1 (a8 hp.2 (by decide)) fun k=>(ju D.m k).1)
 show dE C 5 (.ref 692) [qw (D.lev p)] (.t (iL (hW (D.lev p))))
 cases e:D.lev p with
 | nil=>exact absurd e ne
 | cons x ls=>
  rw [e] at ll lx
  exact BL F (a8 (bF ll) (by decide)) lx
noncomputable def rK (v0:Value) (D:Dr) (ps:List (List Int)) (p:List Int) (k:Nat) (j:Option Nat):aF:=uM (rB v0 D (some (.t (iL p))) (.t (qw ps)) (.ref 102) (.ref 103)++some (.t (.int (k:Int)))::an (motive:=fun _=>List (Option V)) j [] fun j=>[some (.t (.int (j:Int))),some (.t (.int (j0 (D.due p) (D.due (ps.getD j []))))),some (.t (.int (j0 (D.due p) (D.due (ps.getD j [])))))])
theorem D8 {j:Nat} (h:j < 16777216):tJ (j:Int)=true:=bu (a8 (ck h) (al rfl))
theorem wt {C:Cx} (F:de C) {D:Dr} (p q:List Int):dE C 5 (.ref 713) [uE (D.due p),uE (D.due q)] (.t (.int (j0 (D.due p) (D.due q)))):=
 Ic F (a8 (ae gL) (a8 (bx ..) (by decide))) (a8 (ae gL) (a8 (bx ..) (by decide)))
theorem Fp {C:Cx} (a b:Bool):eP C (compareOp .NotEq) (.bool a) (.bool b) (.t (.bool (a != b))):=by
 cases a <;> cases b <;> exact rx rfl rfl
theorem Lg {D:Dr} (hD:D.Ok) {p q:List Int} (hp:j9 p) (hq:j9 q):(decide (D.key p=D.key q) != (j0 (D.due p) (D.due q)==0))=false:=by
 have z:=(oU hD hp.1 hq.1).1
 by_cases e:j0 (D.due p) (D.due q)=0
 · rw [decide_eq_true (z.mpr e),e];rfl
 · rw [decide_eq_false fun y=>e (z.mp y),beq_false_of_ne e];rfl
theorem Lh {D:Dr} (hD:D.Ok) {p q:List Int} (hp:j9 p) (hq:j9 q):(i9 (D.key p) (D.key q) != decide (j0 (D.due p) (D.due q) < 0))=false:=by
 rw [(oU hD hp.1 hq.1).2]
 exact bne_self_eq_false ..
noncomputable def rS (v0:Value) (D:Dr) (ps:List (List Int)) (b:List (Option V)):aF:=uM (rB v0 D none (.t (qw ps)) (.ref 102) (.ref 103)++[none,none,none,none,some (.ref 104),some (.ref 105)]++b)
noncomputable def hS (cs:List Nat) (D:Dr) (ps:List (List Int)) (s:List Nat×List Nat):Hp:=ue cs D ps++[(104, .list (nL s.1)),(105, .list (nL s.2))]
noncomputable def se (D:Dr) (ps:List (List Int)) (k b:Nat):Bool:=decide (j0 (D.due (ps.getD k [])) (D.due (ps.getD b [])) < 0)
structure sn (D:Dr) (ps:List (List Int)) (qa:Array Nat) (s:List Nat×List Nat):Prop where
 len:s.1.length+s.2.length≤5
 lt:∀i∈s.2,i < 5
 eq:s.1++jZ (se D ps) s.2.length s.2=qa.toList
theorem LG {ps:List (List Int)} (h:pH ps):(decide (0≤((ps.map iL).length:Int))&&decide (((ps.map iL).length:Int)≤1000))=true:=by
 rw [a9,h.len]
 rfl
theorem qC {lt:Nat→Nat→Bool} {f:Nat}:∀{l:List Nat},(jZ lt f l).length≤f:=by
 induction f with
 | zero=>exact aB _
 | succ f ih=>
  intro l
  cases l with
  | nil=>exact bl _
  | cons a l=>exact aH ih
noncomputable abbrev mSe:List Bool:=[true,true,true,true,true,true,true,true,true,true,true,true,true,true,true,true,false,true,true,true,true,true,false,true,true,true,true,true,true,true,true,true,true,true,true,true,true]
noncomputable def hSe (cs:List Nat) (D:Dr) (ps:List (List Int)) (s:List Nat×List Nat):Hp:=(106, .list [])::hS cs D ps s
theorem LR {ps:List (List Int)} (h:pH ps) {cs:List Nat} {D:Dr}:hS cs D ps ([],[0,1,2,3,4])=ue cs D ps++[(104, .list []),(105, .list (eO 0 (((ps.map iL).length:Int)).toNat))]:=by
 rw [a9,h.len]
 rfl
theorem Hq {C:Cx} (l:List Nat):eP C (compareOp .NotEq) (.lst (nL l)) (.lst []) (.t (.bool (!decide (l=[])))):=by
 have z:=t4 (C:=C) (l.map fun i:Nat=>(i:Int)) []
 rw [show iL (l.map fun i:Nat=>(i:Int))=T.lst (nL l) from congrArg T.lst (aO ..)] at z
 cases l <;> exact z
theorem Hs {b:Bool} (h:(!b)=false):b=true:=by cases b with
 | true=>rfl
 | false=>cases h
theorem sn.le2 {D:Dr} {ps:List (List Int)} {qa:Array Nat} {s:List Nat×List Nat} (h:sn D ps qa s):s.2.length≤5:=a8 (cM _ _) h.len
noncomputable def rSb (v0:Value) (D:Dr) (ps:List (List Int)) (hd:V) (b:Nat):aF:=uM (rB v0 D none (.t (qw ps)) (.ref 102) (.ref 103)++[none,none,none,none,some (.ref 104),some hd,some (.t (.int (b:Int)))])
noncomputable def hSo (cs:List Nat) (D:Dr) (ps:List (List Int)) (od:List Nat):Hp:=ue cs D ps++[(104, .list (nL od))]
theorem AA {l:List Nat}:∀{j:Nat},(nL l).eraseIdx j=nL (l.eraseIdx j):=by
 induction l with
 | nil=>exact rfl
 | cons a l ih=>
  intro j
  cases j with
  | zero=>rfl
  | succ j=>exact congrArg (T.int (a:Int):: ·) ih
theorem sN {b:Nat} {l:List Nat}:∀{k:Nat},k < l.idxOf b→l[k]?≠some b:=by
 induction l with
 | nil=>intro k h;exact absurd h (iv _)
 | cons a l ih=>
  intro k h
  rw [List.idxOf_cons] at h
  by_cases q:a=b
  · rw [beq_iff_eq.mpr q,cond_true] at h;exact absurd h (iv _)
  · rw [beq_false_of_ne q,cond_false] at h
    cases k with
    | zero=>exact fun e=>q (Option.some.inj e)
    | succ k=>exact ih (bT h)
theorem JX {C:Cx} {l:List Nat} {x:Nat} (hx:x∈l) (hz:l.length≤5):kn C "list.remove" (nL l) [.int (x:Int)] (nL (l.eraseIdx (l.idxOf x))) .none:=by
 have e:(l.map fun i:Nat=>(i:Int)).map T.int=nL l:=aO ..
 have hl:=List.idxOf_lt_length_of_mem hx
 have z:=y6 (C:=C) (l:=l.map fun i:Nat=>(i:Int)) (x:=(x:Int)) (j:=l.idxOf x) (by rw [ax,ai hl,List.getElem_idxOf];rfl) (fun m hm q=>by
  rw [ax] at q
  obtain⟨y,h1,h2⟩:=aE.mp q
  exact sN hm (Int.ofNat.inj h2▸h1)) (by rw [a9];exact a8 hz (by decide))
 rw [e,AA] at z
 exact z
theorem sn.le1 {D:Dr} {ps:List (List Int)} {qa:Array Nat} {s:List Nat×List Nat} (h:sn D ps qa s):s.1.length≤5:=a8 (av _ _) h.len
theorem sn.step {D:Dr} {ps:List (List Int)} {qa:Array Nat} {od l:List Nat} {a:Nat} (h:sn D ps qa (od,a::l)):sn D ps qa (od++[k9 (se D ps) (a::l)],(a::l).eraseIdx ((a::l).idxOf (k9 (se D ps) (a::l))))∧((a::l).eraseIdx ((a::l).idxOf (k9 (se D ps) (a::l)))).length < (a::l).length:=by
 have hl:=List.idxOf_lt_length_of_mem (vo (lt:=se D ps) (a:=a) (l:=l))
 have e:((a::l).eraseIdx ((a::l).idxOf (k9 (se D ps) (a::l)))).length=l.length:=by rw [List.length_eraseIdx_of_lt hl];rfl
 refine⟨⟨?_,fun i hi=>h.lt i (List.mem_of_mem_eraseIdx hi),?_⟩,by rw [e];exact aI _⟩
 · show(od++[k9 (se D ps) (a::l)]).length+((a::l).eraseIdx ((a::l).idxOf (k9 (se D ps) (a::l)))).length≤5
   rw [e,cg,bz]
   exact h.len
 · refine Eq.trans ?_ h.eq
   show od++[k9 (se D ps) (a::l)]++jZ (se D ps) ((a::l).eraseIdx ((a::l).idxOf (k9 (se D ps) (a::l)))).length _=_
   rw [e,au]
   rfl
theorem D1 {cs:List Nat} {D:Dr} {ps:List (List Int)} {od lf:List Nat} {x:Nat}:hS cs D ps (od++[x],lf)=ue cs D ps++[(104, .list (nL od++[T.int (x:Int)])),(105, .list (nL lf))]:=congrArg (fun z=>ue cs D ps++[(104, .list z),(105, .list (nL lf))]) ao
theorem rj {D:Dr} {ps:List (List Int)} {i:Nat} (h:i < ps.length):(ps.map D.key).getD i []=D.key (ps.getD i []):=by
 rw [ah,ax,ah,ai h]
 rfl
theorem wm {D:Dr} {ps:List (List Int)} {i:Nat} (h:i < ps.length):iQ (ma D.El D.how (D.st:Nat) D.bk ps) i=(D.key (ps.getD i []),(i:Int)):=by
 unfold iQ ma
 rw [ah,ax,List.getElem?_zipIdx,ai h,ah,ai h,bo]
 rfl
theorem HD {D:Dr} (hD:D.Ok) {ps:List (List Int)} (hp:pH ps):∃qa,iP (fun i j=>kF (iQ (ma D.El D.how (D.st:Nat) D.bk ps) i) (iQ (ma D.El D.how (D.st:Nat) D.bk ps) j)) ps.length (kas_sort ps.length)=some qa∧qa.toList=jZ (se D ps) 5 [0,1,2,3,4]∧∀i∈qa.toList,i < 5:=by
 walk_at "a"
 have lt:∀{i},i < 5→i < ps.length:=fun h=>hp.len▸h
 rw [hp.len]
 refine E3 (ks:=ps.map D.key) ((a9 _).trans hp.len) (fun i j hi hj=>?_) fun i j hi hj=>?_
 · rw [rj (lt hi),rj (lt hj),(oU hD (hp.ok _ (cB (lt hi))).1 (hp.ok _ (cB (lt hj))).1).2]
   rfl
 · rw [wm (lt hi),wm (lt hj),rj (lt hi),rj (lt hj)]
   unfold kF
   rw [decide_eq_decide.mpr (bn (n:=i) (m:=j))]
 walk_at "z"
theorem Dl {C:Cx} (F:de C) (LT:qO C) {v0:Value} {D:Dr} (hD:D.Ok) {cs:List Nat} {ps:List (List Int)} (hp:pH ps):tx (vc C tb 36 40) (cU (hG 94)) ((lI (hG 94)).drop 14) (pP (B0 (.t (.bool true)))) (JT v0 D ps) (ue cs D ps):=by
 walk_at "a"
 obtain⟨qa,hrun,hq,hq5⟩:∃qa,iP (fun i j=>kF (iQ (ma D.El D.how (D.st:Nat) D.bk ps) i) (iQ (ma D.El D.how (D.st:Nat) D.bk ps) j)) ps.length (kas_sort ps.length)=some qa∧qa.toList=jZ (se D ps) 5 [0,1,2,3,4]∧∀i∈qa.toList,i < 5:=HD hD hp
 walk_at "s"
 refine StW.cutC uw (rS v0 D ps []) (hS cs D ps ([],[0,1,2,3,4])) (fun Q' h=>?_) ?_
 · walk_at "k"
   refine aA (aV (ae hp.len) rfl) ?_
   walk_at "k"
   refine aA (LG hp) ?_
   walk_at "k"
   refine h _ _ ?_
   walk_at "k"
   exact⟨(by walk_at "r"),Eq.trans (LR hp) (by walk_at "r")⟩
 walk_at "s"
 refine StW.cutC uw (rS v0 D ps []) (hS cs D ps (qa.toList,[])) (fun Q' h=>?_) ?_
 · walk_at "k"
   refine fh (σ:=List Nat×List Nat) (fun _=>rS v0 D ps []) (hS cs D ps) (hSe cs D ps) mSe (sn D ps qa) (fun s=>s.2.length) (fun s=> !decide (s.2=[])) ([],[0,1,2,3,4]) ⟨by decide,by decide,by rw [hq];rfl⟩ ?_ ?_ ?_ ?_
   · walk_at "k"
     exact⟨(by walk_at "r"),(by walk_at "r")⟩
   · rintro⟨od,lf⟩ hi K hK
     walk_at "k"
     refine jJ (Hq lf) (by walk_at "r") (by walk_at "r") ?_
     exact KB hK (by walk_at "r") (by walk_at "r")
   · rintro⟨od,lf⟩ hi hg Qt hQ
     obtain⟨a,l,rfl⟩:∃a l,lf=a::l:=by
      cases lf with
      | nil=>cases hg
      | cons a l=>exact⟨a,l,rfl⟩
     walk_at "k"
     intro ad
     walk_at "k"
     refine CY (ts':=(a::l).map fun i:Nat=>T.int (i:Int)) (ρ':=rSb v0 D ps (.t (.raw (.ref ad))) a) (H':=hSo cs D ps od) rfl (by walk_at "r") (by walk_at "r") ?_
     refine fU (σ:=Nat) (rSb v0 D ps (.t (.raw (.ref ad)))) (fun _=>hSo cs D ps od) (fun l' b=>b < 5∧(∀i∈l',i < 5)∧l'.foldl (iU (se D ps)) b=k9 (se D ps) (a::l)) (a::l) a ⟨hi.lt a (.head _),hi.lt,rfl⟩ ?_ ?_
     · rintro i l' b ⟨hb5,hl,he⟩ Qt hQ
       have hb:=hp.len.symm▸hb5
       have hi5:=hp.len.symm▸hl i (.head _)
       walk_at "k"
       refine aA (yP hp hi5) ?_
       walk_at "k"
       refine bw (eR (d:=[]) hi5) ?_
       walk_at "k"
       refine aA (yP hp hb) ?_
       walk_at "k"
       refine bw (eR (d:=[]) hb) ?_
       walk_at "k"
       refine bK (wt F _ _) (by walk_at "r") ?_
       walk_at "k"
       refine cn (fun q=>?_) fun q=>?_
       · walk_at "k"
         refine hQ i ⟨hl i (.head _),fun x hx=>hl x (.tail _ hx),(congrArg (fun z=>l'.foldl (iU (se D ps)) z) (cH q)).symm.trans he⟩ _ _ ?_
         walk_at "k"
         exact⟨(by walk_at "r"),(by walk_at "r")⟩
       · walk_at "k"
         refine hQ b ⟨hb5,fun x hx=>hl x (.tail _ hx),(congrArg (fun z=>l'.foldl (iU (se D ps)) z) (bS q)).symm.trans he⟩ _ _ ?_
         walk_at "k"
         exact⟨(by walk_at "r"),(by walk_at "r")⟩
     · rintro b ⟨hb, -,he⟩
       have he:b=k9 (se D ps) (a::l):=he
       subst he
       walk_at "k"
       refine⟨rfl,?_⟩
       walk_at "k"
       refine aA (zM hi.le1 rfl) ?_
       walk_at "k"
       refine⟨_,_,JX vo hi.le2,?_⟩
       walk_at "k"
       refine hQ.nx _ hi.step _ _ ?_
       walk_at "k"
       exact⟨(by walk_at "r"),Eq.trans D1 (by walk_at "r")⟩
   · rintro⟨od,lf⟩ hi hg
     have e:lf=[]:=of_decide_eq_true (Hs hg)
     subst e
     have e2:od=qa.toList:=(aw _).symm.trans hi.eq
     subst e2
     refine h _ _ ?_
     walk_at "k"
     exact⟨(by walk_at "r"),(by walk_at "r")⟩
 have cw:=uZ F LT (oR F LT D) (by rw [hp.len];decide) (by rw [hp.len];decide) hp.ok hrun (fun i hi=>hp.len▸hq5 i hi) (by rw [hq];exact a8 qC (by decide))
 walk_at "k"
 refine bK cw (by walk_at "r") ?_
 walk_at "k"
 refine aA (aV (a8 (ae (congrArg i3 hq)) qC) rfl) ?_
 walk_at "k"
 intro ad
 walk_at "k"
 refine sX (ts':=qa.toList.map fun i:Nat=>T.int (i:Int)) rfl ?_
 refine lA (g:=fun i:Nat=>iL (ps.getD i [])) ?_ fun i hi K1 K0 h1=>?_
 · walk_at "k"
   refine jJ (Gy (qa.toList.map fun i=>ps.getD i []) (qa.toList.map fun i=>ps.getD i [])) (by walk_at "r") w7.symm ?_
   rw [decide_eq_true rfl]
   walk_at "k"
   exact rfl
 · have hi5:i < ps.length:=hp.len▸hq5 i hi
   walk_at "k"
   refine aA (yP hp hi5) ?_
   walk_at "k"
   refine bw (eR (d:=[]) hi5) ?_
   walk_at "k"
   exact Ka h1 (by walk_at "r") (by walk_at "r")
 walk_at "z"
theorem uo {C:Cx} (F:de C) (LT:qO C) {v0:Value} {D:Dr} (hD:D.Ok) {cs:List Nat} (hz:cs.length≤16) {ps:List (List Int)} (hp:pH ps):tx (vc C tb 36 40) (cU (hG 94)) ((lI (hG 94)).drop 12) (pP (B0 (.t (.bool true)))) (r15 v0 D) (hKe cs D ps):=by
 walk_at "a"
 walk_at "s"
 refine StW.cutC uw (JT v0 D ps) (ue cs D ps) (fun Q' h=>?_) ?_
 · walk_at "k"
   refine CY (ρ':=JT v0 D ps) (H':=ue cs D ps) (kY 0) (by walk_at "r") (by walk_at "r") ?_
   refine fU (σ:=Unit) (fun _=>JT v0 D ps) (fun _=>ue cs D ps) (fun l _=>∀q∈l,q∈ps.zipIdx) ps.zipIdx () (fun _ x=>x) ?_ ?_
   · rintro⟨p,kk⟩ l s hi Qt hQ
     obtain⟨hk,hpk⟩:=hp.at (hi _ (.head _))
     subst hpk
     have hx:=hp.ok _ (cB (d:=[]) hk)
     walk_at "i"
     refine IfW.cut false (ue cs D ps) (fun K h=>?_) ?_
     · walk_at "k"
       refine cn (fun q=>?_) fun q=>?_
       · have ke:=Db hD hx.1 q
         walk_at "k"
         refine aA (yP hp hk) ?_
         walk_at "k"
         refine bw (eR (d:=[]) hk) ?_
         walk_at "k"
         refine aA (yP hp hk) ?_
         walk_at "k"
         refine bw (eR (d:=[]) hk) ?_
         walk_at "k"
         refine bK (xH F hD hx) (by walk_at "r") ?_
         walk_at "k"
         refine jJ (t4 (D.key (ps.getD kk [])) (hW (D.due (ps.getD kk [])).1)) (by walk_at "r") (by walk_at "r") ?_
         rw [ke,decide_eq_true rfl]
         walk_at "k"
         exact KB h (by walk_at "r") (by walk_at "r")
       · walk_at "k"
         exact KB h (by walk_at "r") (by walk_at "r")
     walk_at "k"
     refine aA (D8 (cN (hp.len▸hk) (by decide))) ?_
     walk_at "k"
     refine CY (ρ':=rK v0 D ps (ps.getD kk []) kk none) (H':=ue cs D ps) rfl (by walk_at "r") (by walk_at "r") ?_
     refine vJ (σ:=Unit) (n:=kk) (fun _=>rK v0 D ps (ps.getD kk []) kk none) (fun _=>ue cs D ps) (fun _ _=>True) () trivial ?_ ?_
     · rintro j s hj - Qt hQ
       have hj5:=cN hj hk
       have hy:=hp.ok _ (cB (d:=[]) hj5)
       walk_at "s"
       refine StW.cut (rK v0 D ps (ps.getD kk []) kk (some j)) (ue cs D ps) (fun Q' h=>?_) ?_
       · have cm:=qL F LT (oR F LT D) hx hy D.how (D.st:Nat) D.bk
         rw [show zo D.El D.how (D.st:Nat) D.bk (ps.getD kk []) (ps.getD j [])=_ from sv hD hx.1 hy.1] at cm
         walk_at "k"
         refine aA (yP hp hk) ?_
         walk_at "k"
         refine bw (eR (d:=[]) hk) ?_
         walk_at "k"
         refine aA (yP hp hj5) ?_
         walk_at "k"
         refine bw (eR (d:=[]) hj5) ?_
         walk_at "k"
         refine bK (wt F _ _) (by walk_at "r") ?_
         walk_at "k"
         refine aA (yP hp hj5) ?_
         walk_at "k"
         refine bw (eR (d:=[]) hj5) ?_
         walk_at "k"
         refine bK cm (by walk_at "r") ?_
         walk_at "k"
         exact uh h (by walk_at "r") (by walk_at "r")
       walk_at "i"
       refine IfW.cut false (ue cs D ps) (fun K h=>?_) ?_
       · walk_at "k"
         refine pJ (bne_self_eq_false ..) ?_
         walk_at "k"
         refine aA (yP hp hk) ?_
         walk_at "k"
         refine bw (eR (d:=[]) hk) ?_
         walk_at "k"
         refine aA (yP hp hj5) ?_
         walk_at "k"
         refine bw (eR (d:=[]) hj5) ?_
         walk_at "k"
         refine jJ (vG (D.key (ps.getD kk [])) (D.key (ps.getD j []))) (by walk_at "r") (by walk_at "r") ?_
         walk_at "k"
         refine jJ (Fp _ _) (by walk_at "r") (by walk_at "r") ?_
         walk_at "k"
         refine pJ (Lg hD hx hy) ?_
         walk_at "k"
         refine aA (yP hp hk) ?_
         walk_at "k"
         refine bw (eR (d:=[]) hk) ?_
         walk_at "k"
         refine aA (yP hp hj5) ?_
         walk_at "k"
         refine bw (eR (d:=[]) hj5) ?_
         walk_at "k"
         refine jJ (Js (D.key (ps.getD kk [])) (D.key (ps.getD j []))) (by walk_at "r") (by walk_at "r") ?_
         walk_at "k"
         refine jJ (Fp _ _) (by walk_at "r") (by walk_at "r") ?_
         walk_at "k"
         refine pJ (Lh hD hx hy) ?_
         walk_at "k"
         exact KB h (by walk_at "r") (by walk_at "r")
       walk_at "k"
       refine hQ.nx s trivial _ _ ?_
       walk_at "k"
       exact⟨(by walk_at "r"),(by walk_at "r")⟩
     · rintro s -
       walk_at "k"
       refine hQ s (fun q z=>hi q (.tail _ z)) _ _ ?_
       walk_at "k"
       exact⟨(by walk_at "r"),(by walk_at "r")⟩
   · rintro s hi
     refine h _ _ ?_
     walk_at "k"
     exact⟨(by walk_at "r"),(by walk_at "r")⟩
 have cm:=qL F LT (oR F LT D) (hp.ok _ (cB (d:=[]) (j:=1) (by rw [hp.len];decide))) (hp.ok _ (cB (d:=[]) (j:=4) (by rw [hp.len];decide))) D.how (D.st:Nat) D.bk
 rw [hp.tn,show zo D.El D.how (D.st:Nat) D.bk (ps.getD 1 []) (iH (ps.getD 1 []))=0 from uU hD (hp.ok _ (cB (d:=[]) (j:=1) (by rw [hp.len];decide))).1,←hp.tn] at cm
 walk_at "s"
 refine StW.cut (JT v0 D ps) (ue cs D ps) (fun Q' h=>?_) ?_
 · walk_at "k"
   refine bw (eR (d:=[]) (by rw [hp.len];decide)) ?_
   walk_at "k"
   refine bw (eR (d:=[]) (by rw [hp.len];decide)) ?_
   walk_at "k"
   refine bK cm (by walk_at "r") ?_
   walk_at "k"
   exact uh h (by walk_at "r") (by walk_at "r")
 exact cast (by walk_at "r") (Dl F LT (v0:=v0) hD hp (cs:=cs))
 walk_at "z"
theorem Jm {C:Cx} (F:de C) (LT:qO C) {v0:Value} {D:Dr} (hD:D.Ok) {cs:List Nat} (hz:cs.length≤16) {ps:List (List Int)} (hp:pH ps):tx (vc C tb 36 40) (cU (hG 94)) ((lI (hG 94)).drop 10) (pP (B0 (.t (.bool true)))) (LH v0 D.m D) (Lc D.m cs D ps):=by
 walk_at "a"
 walk_at "s"
 refine StW.cutC uw (r14 v0 D) (hDu cs D ps) (fun Q' h=>?_) ?_
 · walk_at "k"
   refine aA (aV (ae hp.len) rfl) ?_
   walk_at "k"
   intro a
   walk_at "k"
   refine lA (g:=fun p=>uE (D.due p)) ?_ fun p hpm K1 K0 h1=>?_
   · walk_at "k"
     refine h _ _ ?_
     walk_at "k"
     exact⟨(by walk_at "r"),(by walk_at "r")⟩
   · have hk:=hp.ok p hpm
     walk_at "k"
     refine bK (BN F hk.1 (a8 hk.2 (by decide)) (fun k=>(ju D.m k).1) D.how D.st D.bk) (by walk_at "r") ?_
     walk_at "k"
     exact h1
 walk_at "s"
 refine StW.cutC uw (r15 v0 D) (hKe cs D ps) (fun Q' h=>?_) ?_
 · walk_at "k"
   refine aA (aV (ae hp.len) rfl) ?_
   walk_at "k"
   intro a
   walk_at "k"
   obtain⟨p,ps',rfl⟩:∃p ps',ps=p::ps':=by
    cases ps with
    | nil=>exact absurd hp.len (by decide)
    | cons p ps'=>exact⟨p,ps',rfl⟩
   have hpr:=hp.ok p (.head _)
   refine Lk (y:=iL (D.key p)) (H':=hFz cs D (p::ps')) ?_ fun K1 K0 h1=>?_
   · refine lA (g:=fun p=>iL (D.key p)) ?_ fun p hpm K1 K0 h1=>?_
     · walk_at "k"
       refine h _ _ ?_
       walk_at "k"
       exact⟨(by walk_at "r"),(by walk_at "r")⟩
     · have hpr:=hp.ok p (.tail _ hpm)
       walk_at "k"
       refine bK (nN F LT (oR F LT D) hpr D.how (D.st:Nat) D.bk) (by walk_at "r") ?_
       walk_at "k"
       refine aA (aV (A6 hpr) rfl) ?_
       walk_at "k"
       exact Ka h1 (by walk_at "r") (by walk_at "r")
   · walk_at "k"
     refine bK (nN F LT (oR F LT D) hpr D.how (D.st:Nat) D.bk) (by walk_at "r") ?_
     walk_at "k"
     refine aA (aV (A6 hpr) rfl) ?_
     walk_at "k"
     exact Ka h1 (by walk_at "r") (by walk_at "r")
 exact cast (by walk_at "r") (uo F LT hD hz hp)
 walk_at "z"
theorem JS (cs:List Nat):pH (AM cs):=by
 have tk:∀{a b},b≤8→j9 (jd ((cs.drop a).take b)):=fun h=>⟨oz _,pf h⟩
 refine⟨rfl,fun p hp=>?_,rfl⟩
 rcases aS.mp hp with e | hp
 · exact e▸tk (by decide)
 rcases aS.mp hp with e | hp
 · exact e▸tk (by decide)
 rcases aS.mp hp with e | hp
 · exact e▸tk (by decide)
 rcases aS.mp hp with e | hp
 · exact e▸tk (by decide)
 rw [af.mp hp]
 exact⟨qK (oz _),a8 (ae yx) (a8 (ge (oz _)).2 (aJ 2 (pf (b:=4) (k:=4) (by decide))))⟩
theorem Kp {C:Cx} (F:de C) (LT:qO C) {v0:Value} {l:List Int} (s16:gJ C (.raw v0) none (some 16) none (.lst ((l.take 16).map .int))):dE C 37 (.ref 725) [.raw v0] (.t (.bool true)):=by
 walk_at "a"
 refine bA F ["script"] rfl rfl rfl (fun _=>rfl) rfl ?_
 walk_at "s"
 refine StW.cutC uw (uM [some (.t (.raw v0)),some (.ref 100)]) [(100, .list (nL (ic l)))] (fun Q' h=>?_) ?_
 · walk_at "k"
   refine⟨_,s16,?_⟩
   walk_at "k"
   refine aA (aV (n:=16) (mq ..) rfl) ?_
   walk_at "k"
   intro a
   walk_at "k"
   refine lA (g:=fun x:Int=> .int ((x.natAbs % 1000000:Nat):Int)) ?_ fun x hx K1 K0 h1=>?_
   · walk_at "k"
     refine h _ _ ?_
     walk_at "k"
     exact⟨(by walk_at "r"),congrArg (fun z=>[(100,O.list z)]) ((aO ..).trans (by walk_at "r"))⟩
   walk_at "k"
   refine⟨_,II x,?_⟩
   walk_at "k"
   exact congrArg T.int (zn (x:=x))▸h1
 walk_at "s"
 refine StW.cutC uw (uM [some (.t (.raw v0)),some (.ref 100),some (.t (.int (Hj l:Nat)))]) [(100, .list (nL (ic l)))] (fun Q' h=>?_) ?_
 · walk_at "k"
   refine⟨_,fS (CI l),?_⟩
   walk_at "k"
   refine bw (CH l) ?_
   walk_at "k"
   refine h _ _ ?_
   walk_at "k"
   exact⟨(by walk_at "r"),(by walk_at "r")⟩
 have hm:Hj l < 1000000:=Lr l
 have hz:=q9 l
 generalize Hj l=m at*
 generalize ic l=cs at*
 walk_at "s"
 refine StW.cutC uw (r6 v0 m) (F0 m cs []) (fun Q' h=>?_) ?_
 · walk_at "k"
   refine bK (ve F hm) (by walk_at "r") ?_
   walk_at "k"
   refine im (v7 F) (by walk_at "r") (by walk_at "r") ?_
   walk_at "k"
   refine bK (yE F) (by walk_at "r") ?_
   walk_at "k"
   refine h _ _ ?_
   walk_at "k"
   exact⟨(by walk_at "r"),(by walk_at "r")⟩
 have kr:=GU m
 obtain⟨q,hq,hqs⟩:=kr
 walk_at "s"
 refine StW.cutC uw (r6 v0 m) (F0 m cs (ib m)) (fun Q' h=>?_) ?_
 · walk_at "k"
   refine IS (Jl m) (by walk_at "r") ?_
   walk_at "k"
   refine jr hq (by walk_at "r") ?_
   walk_at "k"
   refine CY (ρ':=r6 v0 m) (H':=F0 m cs []) (Eq.trans (by walk_at "r") hqs) (by walk_at "r") (by walk_at "r") ?_
   refine fU (σ:=List (List Int)) (fun _=>r6 v0 m) (F0 m cs) (KN m) (ib m) [] (.mk (io _)) ?_ ?_
   · rintro kk l s hi Qt hQ
     obtain⟨c,k,v,rfl,hv,hkl,hn,hs,hvl⟩:=hi.at
     walk_at "k"
     refine zd rfl hv ?_
     walk_at "k"
     refine im (Kq F (tb:=s.map fun k=>(k,ET m k)) (lg:=pN s []) (bs:=hV ce) (c:=c) (k:=k) (el:=v) hkl hn (a8 (ae (a9 _)) hs) (a8 (Am (lg:=[])) (a8 (ae (bo _)) hs)) hvl) (by walk_at "r") (by walk_at "r") ?_
     walk_at "k"
     refine hQ (s++[c::k]) ⟨(au ..).trans hi.eq⟩ _ _ ?_
     walk_at "k"
     exact⟨(by walk_at "r"),Eq.trans (DH cs hv) (by walk_at "r")⟩
   · rintro s hi
     rw [show s=ib m from(aw _).symm.trans hi.eq]
     refine h _ _ ?_
     walk_at "k"
     exact⟨(by walk_at "r"),(by walk_at "r")⟩
 walk_at "s"
 refine StW.cutC uw (r8 v0 m (ER m).how) (F0 m cs (ib m)) (fun Q' h=>?_) ?_
 · walk_at "k"
   refine aA (J4 m) ?_
   walk_at "k"
   refine bw (GF m) ?_
   walk_at "k"
   refine h _ _ ?_
   walk_at "k"
   exact⟨(by walk_at "r"),(by walk_at "r")⟩
 walk_at "s"
 refine StW.cutC uw (r10 v0 m (ER m)) (F0 m cs (ib m)) (fun Q' h=>?_) ?_
 · walk_at "k"
   refine h _ _ ?_
   walk_at "k"
   exact⟨K6 v0 m,(by walk_at "r")⟩
 have hD:=Gv m
 have hDm:(ER m).m=m:=rfl
 generalize ER m=D at*
 walk_at "s"
 refine StW.cutC uw (r11 v0 m D) (hOp m cs D) (fun Q' h=>?_) ?_
 · walk_at "k"
   refine im (pT F D.how (D.st:Nat) D.bk) (by walk_at "r") (by walk_at "r") ?_
   walk_at "k"
   refine h _ _ ?_
   walk_at "k"
   exact⟨(by walk_at "r"),(by walk_at "r")⟩
 walk_at "s"
 refine StW.cutC uw (r12 v0 m D) (hCo m cs D []) (fun Q' h=>?_) ?_
 · walk_at "k"
   refine h _ _ ?_
   walk_at "k"
   exact⟨(by walk_at "r"),(by walk_at "r")⟩
 walk_at "s"
 refine StW.cutC uw (LH v0 m D) (Lc m cs D (AL cs)) (fun Q' h=>?_) ?_
 · walk_at "k"
   refine aA (qW hz) ?_
   walk_at "k"
   refine aA (qW hz) ?_
   walk_at "k"
   refine aA (qW hz) ?_
   walk_at "k"
   refine aA (qW hz) ?_
   walk_at "k"
   refine sX (ts':=(wu cs).map fun x=> .lst (nL x)) (Be cs) ?_
   refine lA (g:=fun x=>iL (jd x)) ?_ fun x hx K1 K0 h1=>?_
   · walk_at "k"
     refine h _ _ ?_
     walk_at "k"
     exact⟨(by walk_at "r"),(by walk_at "r")⟩
   · walk_at "k"
     refine aA (aV (yo hz hx) rfl) ?_
     walk_at "k"
     refine sX (ts':=x.map fun i:Nat=>T.int (i:Int)) rfl ?_
     refine lA (g:=fun i:Nat=>T.int (iw.getD (i % 11) 0)) ?_ fun i hi K1 K0 h1=>?_
     · walk_at "k"
       exact Ka h1 (congrArg T.lst (aO ..)) (by walk_at "r")
     · walk_at "k"
       refine aA (Gq i) ?_
       walk_at "k"
       refine bw (CM i) ?_
       walk_at "k"
       exact Ka h1 (by walk_at "r") (by walk_at "r")
 walk_at "s"
 refine StW.cutC uw (LH v0 m D) (Lc m cs D (AM cs)) (fun Q' h=>?_) ?_
 · walk_at "k"
   refine bK (BP F (t:=jd ((cs.drop 4).take 4)) (oz _) (pf (by decide))) (by walk_at "r") ?_
   walk_at "k"
   refine h _ _ ?_
   walk_at "k"
   exact⟨(by walk_at "r"),(by walk_at "r")⟩
 subst hDm
 exact cast (by walk_at "r") (Jm F LT (v0:=v0) hD hz (JS cs))
 walk_at "z"
noncomputable def dCs {P:Type} (d:Data) (z:P) (k:Array DictEntry→P) (f:Array Value→P):P:=Data.casesOn (motive:=fun _=>P) d z (fun _=>z) (fun _ _=>z) (fun es _=>k es) (fun _ _ _=>z) (fun _ _=>z) (fun _=>z) (fun _=>z) (fun _=>z) (fun vs=>f vs) z
noncomputable def zI (K:Frag):Option (Array DictEntry):=(K.lookup mainGlobals).bind fun o=>dCs o.data none some fun _=>none
noncomputable def Kl (K:Frag) (a:Addr):Option (Array Value):=(K.lookup a).bind fun o=>dCs o.data none (fun _=>none) some
noncomputable def AZ (v:Value):Addr:=Value.casesOn (motive:=fun _=>Addr) v 112 112 112 (fun _=>112) (fun _ _=>112) (fun _ _=>112) (fun _ _=>112) (fun _ _=>112) (fun _=>112) (fun _=>112) fun a=>a
noncomputable def FA (v:Option Value) (q:Str):Bool:=an (motive:=fun _=>Bool) v false fun v=>Value.casesOn (motive:=fun _=>Bool) v false false false (fun _=>false) (fun _ _=>false) (fun _ _=>false) (fun s _=>s==q) (fun _ _=>false) (fun _=>false) (fun _=>false) fun _=>false
theorem Bj {v:Option Value} {q:Str} (h:FA v q=true):∃t,v=some (.str q t):=by
 cases v with
 | none=>cases h
 | some v=>cases v with
  | str s t=>exact⟨t,congrArg (fun z=>some (Value.str z t)) (beq_iff_eq.mp h)⟩
  | _=>cases h
theorem IX {K:Frag} {es:Array DictEntry} (h:zI K=some es):∃o ep,K.lookup mainGlobals=some o∧o.data= .dict es ep:=by
 obtain⟨o,h1,h2⟩:=bg.mp h
 cases e:o.data with
 | dict es2 ep=>rw [e] at h2;cases h2;exact⟨o,ep,h1,e⟩
 | _=>rw [e] at h2;cases h2
theorem Km {K:Frag} {a:Addr} {vs:Array Value} (h:Kl K a=some vs):∃o,K.lookup a=some o∧o.data= .fields vs:=by
 obtain⟨o,h1,h2⟩:=bg.mp h
 cases e:o.data with
 | fields vs2=>rw [e] at h2;cases h2;exact⟨o,h1,e⟩
 | _=>rw [e] at h2;cases h2
noncomputable def LF (K:Frag) (p:Addr×FuncData):Bool:=p.1 != 112&&p.2.globals==mainGlobals&&p.2.builtins==builtinsNs&&p.2.closure.isEmpty&&AZ p.2.code != 112&&FA ((Kl K (AZ p.2.code)).bind fun vs=>vs[1]?) p.2.qualname
structure IB (K:Frag):Prop where
 main:(zI K).isSome=true
 own:i7.all (LF K)=true
 cod:i7.map (fun p=>p.2.code)=i7.map fun p=>Value.ref (AZ p.2.code)
 fns:i7.map (fun p=>(K.lookup p.1).map Obj.data)=i7.map fun p=>some (Data.func p.2)
 gls:qp.map (fun p=>nsFind ((zI K).getD #[]) p.1)=qp.map fun p=>some p.2
 blt:pI.map (fun p=>nsFind ((zI K).getD #[]) p.1)=pI.map fun _=>none
 cls:ku.map (fun p=>(makesIn K p.1,keepIn K (.ref p.1),findIn K (.ref p.1) "__init__",typeIn K (.ref p.2)))=ku.map fun p=>(true,true,some (some (.ref p.2)),some (.type "function"))
 cl2:ku.map (fun p=>(findIn K (.ref p.1) "__getattribute__",findIn K (.ref p.1) "__getattr__",findIn K (.ref p.1) "__setattr__",hasDictIn K p.1,plainOver K p.1))=ku.map fun _=>(some (some (.builtin "object.__getattribute__")),some none,some (some (.builtin "object.__setattr__")),true,true)
 mts:qz.map (fun p=>(findIn K (.ref p.1.1) p.1.2,typeIn K (.ref p.2)))=qz.map fun p=>(some (some (.ref p.2)),some (.type "function"))
 fls:sH.map (fun p=>((findIn K (.ref p.1) p.2).any (noGet K),takerIn K p.1 p.2))=sH.map fun _=>(true,some none)
 inC:((qz.all fun p=>(ku.map (·.1)).contains p.1.1)&&(sH.all fun p=>(ku.map (·.1)).contains p.1))=true
 dfs:vD.map (fun p=>(p.1 != 112,K.lookup p.1))=vD.map fun p=>(true,some (gm p.2 0))
theorem JI {h:Heap} {a:Addr} {m:Str→Option Value} {o:Obj} {es:Array DictEntry} {ep:Nat} (x:h.Ns a m) (e:h.get? a=some o) (d:o.data= .dict es ep) (n:Str):nsFind es n=m n:=by
 obtain⟨o',es',ep',e',d',_,f⟩:=x
 rw [e] at e'
 cases e'
 rw [d] at d'
 cases d'
 exact f n
theorem DG {α:Type} {o:Option α} {p:α→Bool} (h:o.any p=true):∃x,o=some x∧p x=true:=by
 cases o with
 | none=>cases h
 | some x=>exact⟨x,rfl,h⟩
theorem HX {C:Cx} (F:eu C) (hP:C.P=112) (S:IB C.K):de C:=by
 walk_at "a"
 have hmg:∀n,nsFind ((zI C.K).getD #[]) n=C.mg n:=by
  obtain⟨es,e⟩:=aZ.mp S.main
  obtain⟨o,ep,h1,h2⟩:=IX e
  rw [e]
  exact JI F.g (F.kin _ _ h1) h2
 have neP:∀{a:Addr},(a != 112)=true→a≠C.P:=fun h=>hP▸bne_iff_ne.mp h
 have c2:∀{a},(ku.map (·.1)).contains a=true→findIn C.K (.ref a) "__getattribute__"=some (some (.builtin "object.__getattribute__"))∧findIn C.K (.ref a) "__getattr__"=some none∧findIn C.K (.ref a) "__setattr__"=some (some (.builtin "object.__setattr__"))∧hasDictIn C.K a=true∧plainOver C.K a=true:=fun h=>by
  obtain⟨p,hp,rfl⟩:=aP.mp (kU.mp h)
  have z:=cG.mp S.cl2 p hp
  exact⟨congrArg (·.1) z,congrArg (·.2.1) z,congrArg (·.2.2.1) z,congrArg (·.2.2.2.1) z,congrArg (·.2.2.2.2) z⟩
 have hin:=aa.mp S.inC
 refine⟨F,fun p hp=>(hmg _).symm.trans (cG.mp S.blt p hp),fun p hp=>?_,fun p hp=>(hmg _).symm.trans (cG.mp S.gls p hp),fun p hp=>?_,fun p hp=>congrArg (·.2.1) (cG.mp S.cls p hp),fun p hp=>?_,fun p hp=>?_,fun p hp=>?_⟩
 · have o1:=aa.mp (aj.mp S.own p hp)
   have o2:=aa.mp o1.1
   have o3:=aa.mp o2.1
   have o4:=ko o3.1
   obtain⟨o,h1,h2⟩:=aE.mp (cG.mp S.fns p hp)
   obtain⟨t,h3⟩:=Bj o1.2
   obtain⟨vs,h4,h5⟩:=bg.mp h3
   obtain⟨oc,h6,h7⟩:=Km h4
   exact⟨neP o4.1,⟨o,F.kin _ _ h1,h2⟩,beq_iff_eq.mp o4.2.1,beq_iff_eq.mp o4.2.2,ec.mp o3.2,_,oc,vs,t,cG.mp S.cod p hp,neP o2.2,F.kin _ _ h6,h7,h5⟩
 · have z:=cG.mp S.cls p hp
   exact⟨congrArg (·.1) z,congrArg (·.2.2.1) z,congrArg (·.2.2.2) z⟩
 · have z:=cG.mp S.mts p hp
   have q:=c2 (aj.mp hin.1 p hp)
   exact⟨q.1,q.2.1,congrArg (·.1) z,congrArg (·.2) z⟩
 · have z:=cG.mp S.fls p hp
   have q:=c2 (aj.mp hin.2 p hp)
   exact⟨⟨q.1,q.2.2.2.1,DG (congrArg (·.1) z)⟩,q.2.2.1,q.2.2.2.2,congrArg (·.2) z,q.2.2.2.1⟩
 · have z:=cG.mp S.dfs p hp
   exact⟨neP (congrArg (·.1) z),F.kin _ _ (congrArg (·.2) z)⟩
 walk_at "z"
theorem A3 {C:Cx} {Φ:cj} {vs:List Value} {l:List Int} (h:IntsAre vs l):eD C Φ (l.map .int) vs:=by
 induction h with
 | nil=>exact .nil
 | cons _ _ _ ih=>exact .cons (.int _ _) ih
theorem yh {C:Cx} {a:Addr} {items:Array Value} {l:List Int} (hL:C.h0.IsList a items) (ne:a≠C.P) (hI:IntsAre items.toList l) (hz:l.length≤1000):gJ C (.raw (.ref a)) none (some 16) none (.lst ((l.take 16).map .int)):=by
 walk_at "a"
 refine .mk fun A Φ s ca vl vu vs sl value slice hA M ha hsl h1 h2 h3 hs=>?_
 cases (show ca= .ref a from ha)
 have hr:eD C Φ (l.map .int) items.toList:=A3 hI
 have hL':s.heap.IsList a items:=by
  obtain⟨o,e,r⟩:=hL
  exact⟨o,M.sub _ _ (M.base.2 _ _ ne e),r⟩
 have el:l.length=items.size:=(a9 _).symm.trans (hr.length.trans cV)
 refine cD.new M.sub (vs:=slicePick items none (some 16) none) ?_ fun Q hq=>gM hL'.typeIs slot_list_getitem.lookup (wpAny_getItem_list_slice hL' hsl h1 h2 h3 nofun hq (a8 (ae el.symm) (a8 hz (by decide)))) hs
 rw [kms_pick_eq]
 have z:=(hr.drop (kms_lo none items.size)).take (kms_hi (some 16) items.size - kms_lo none items.size)
 have e:((l.take 16).map T.int)=((l.map T.int).drop (kms_lo none items.size)).take (kms_hi (some 16) items.size - kms_lo none items.size):=by
  rw [fQ,←el,←a9 (f:=T.int)]
  exact(wi (ts:=l.map T.int) (a:=0) (b:=16) (by decide)).symm
 rw [e]
 exact z
 walk_at "z"
theorem zK {C:Cx} (F:de C) (LT:qO C) {a:Addr} {items:Array Value} {l:List Int} (hL:C.h0.IsList a items) (hI:IntsAre items.toList l) (hz:l.length≤63) (tab0:C.h0.get? C.P=some (tabObj #[])) {s:Shared} (hs:s.heap=C.h0) {A:Around} (hA:lH 39 A):
 wpAny (model C.prog C.w) A (call (.ref 725) [.ref a]) (fun v s'=>v= .bool true∧OldK C.h0 s'.heap∧s'.os=s.os∧s'.gens=s.gens) oj s:=by
 walk_at "a"
 have ne:a≠C.P:=fun q=>by
  obtain⟨o,e,c,_⟩:=hL
  rw [q,tab0] at e
  cases e;cases c
 have h:=Kp F LT (yh hL ne hI (a8 hz (by decide)))
 let Φ:cj:=fun b=>if b=C.P then none else C.h0.get? b
 have hPn:Φ C.P=none:=if_pos rfl
 have hsub:Sub Φ s.heap:=fun b o e=>by
  by_cases q:b=C.P
  · rw [q,hPn] at e;cases e
  · rw [hs,←(show Φ b=C.h0.get? b from if_neg q)];exact e
 have hat:∀b o,b≠C.P→C.h0.get? b=some o→Φ b=some o:=fun b o hb e=>(if_neg hb).trans e
 have R:bc C Φ [] ⟨Φ,fun _=>0,s⟩:=⟨⟨hPn,hat⟩,hsub,hsub,hPn,⟨#[],by rw [hs];exact tab0,trivial, .inl rfl⟩,nofun,nofun,nofun⟩
 refine wpAny_call (codeAny_mono (h A Φ ⟨Φ,fun _=>0,s⟩ [.ref a] hA R (.cons (TR.vri rfl) .nil) _ fun cv p' v H' st x q=>?_) (by rintro r s' ⟨v,rfl,q⟩;exact q))
 refine mi st.rel x q fun d H2 p2 st2 e2 t hd=>?_
 subst hd
 cases (show cv= .bool true from t)
 have R':=st.rel
 have keep:∀b o,b≠C.P→C.h0.get? b=some o→p'.s.heap.get? b=some o:=fun b o hb e=>R'.gsub b o (hat b o hb e)
 obtain⟨hp,tk,e⟩:=st.same
 obtain⟨ps,t1,_⟩:=R'.tab
 obtain⟨oc,vs,file,tf,fl,tg,inF,text,tt,c1,c2,c3,c4,_⟩:=LT.code
 refine⟨rfl,⟨fun b o e=>?_,fun b o e=>?_⟩,by rw [e],by rw [e]⟩
 · by_cases hb:b=C.P
   · subst hb
     rw [tab0] at e
     cases e
     exact .inr (.inl ⟨⟨_,oc,vs,c1,c2,c3,c4⟩,rfl, #[],ps,rfl,by rw [Array.empty_append];exact t1⟩)
   · exact .inl (keep b o hb e)
 · by_cases hb:b=C.P
   · subst hb;exact⟨_,t1⟩
   · exact⟨o,keep b o hb e⟩
 walk_at "z"
set_option maxHeartbeats 0
theorem hq:True:=by
 run_tac (do
  for k in ["o_","tree_","sts_","heap_","view_","thread_","env_"] do
   for i in [0:1000] do
    PySem.W.Fast.primed.modify fun m=>m.insert (.str (.str (.str .anonymous "Mine") "hd") (k++toString i)) none
  PySem.W.Fast.primed.modify fun m=>m.insert ``PySem.Challenge.pw_nt0073_01 none)
 trivial
open_top hd for PySem.Challenge.rw_nt0073_01
theorem x1:PySem.Challenge.rw_nt0073_01.Holds:=hd (by
 k_fill
 intro w s₀ s₁ mg mb G Y fa o pm cd doc dV kV ho hd hcd hD hmg hg args vals as hpre hlay hrd hwl hlo
 have KX:=km_in_of Y
 have KT:=km_tabs_of Y 112 (.head _)
 refine Ground.open G ?_
 intro T B D TE TW
 clear hd hcd hD B D TE TW Y
 wrow_args hpre hlay hrd hwl hlo
 rename_i l _ _ _ _ _ _ _ a vs _ hL _ _ _ hI _ hlen _
 clear G
 have hmods:s₁.heap.get? sysModules≠none:=by
  obtain⟨mm,⟨o,es,ep,e,_⟩,_⟩:=(T.seer (by decide+kernel)).mods
  rw [e];simp
 let C:Cx:=⟨Challenge.rw_nt0073_01.row.prog,w,s₁.heap,112,⟨92,53,92,73⟩,jo++"<lambda>",mg,mb,hd.heap_39 w.params,hmods,by decide⟩
 have F:eu C:=⟨T.g,T.b,T.nolimit,T.builtins,(show mainGlobals≠112 by decide),(show builtinsNs≠112 by decide),(show cStatics≠112 by decide),KX,by kernel_rfl⟩
 have S:IB (hd.heap_39 w.params):=⟨by kernel_rfl,by kernel_rfl,by kernel_rfl,by kernel_rfl,by kernel_rfl,by kernel_rfl,by kernel_rfl,by kernel_rfl,by kernel_rfl,by kernel_rfl,by kernel_rfl,by kernel_rfl⟩
 have FT:de C:=HX F rfl S
 have LT:qO C:=by
  refine {code:=codeHd_of_K (c:=114) (P:=112) KX (by kernel_rfl),bmod:=?_,qual:=rfl,pos:=rfl}
  obtain⟨bm,ob,b1,b2,b3,b4,b5,b6⟩:=T.bmain
  refine⟨bm,ob,b1,b2,fun q=>?_,fun q=>?_,b3,b4,b5,b6⟩
  · obtain⟨o3,es,ep,e,d,_⟩:=T.g
    rw [q,e] at b3
    cases b3
    rw [d] at b6;cases b6
  · rw [q,KT] at b3
    cases b3
    cases b4
 have hfa:fa=725:=by
  have e:mg "law"=some (.ref 725):=FT.gls (ac "law", .ref 725) (dy (by kernel_rfl))
  have e2:mg "law"=some (.ref fa):=hmg
  rw [e2] at e
  cases e;rfl
 subst hfa
 have hA:lH 39 callerA:=⟨rfl,by decide,by decide⟩
 refine wpAny_mono (zK FT LT hL (by simpa using hI) (by omega) KT (s:=s₁) rfl hA) (fun v s' ⟨e,k,os,gens⟩=>?_) (fun _ _ x=>x.elim)
 subst e
 refine⟨.inl ⟨_, .bool true,[],rfl,fun _=>rfl, .bool _,?_,fun _=>⟨eg,fun a ha=>nomatch ha⟩⟩,k,os, .of_eq (gens.trans hg)⟩
 refine postW_of (r:=Challenge.rw_nt0073_01.row.toRowW) (X:=true) (by first | rfl | decide+kernel | kernel_rfl) (by first | rfl | kernel_rfl | decide+kernel) rfl)
end Mine
theorem PySem.Challenge.cw_nt0073_01_holds : PySem.Challenge.rw_nt0073_01.Holds := by
  exact Mine.x1
