import PyProof.Rows.All
import Wide.All
import OpenK.AllK
import Wide.FinOn
import HandS.ExcInit
import HandS.WordsExc
import HandS.ForExc
import KE.KExcSuper
import PySem.Str
import HandS.ForMost
import HandS.Gcd
import HandS.Wide
import HandS.IsInst
import HandS.Flow
import HandS.Walk
import HandS.CallSlots
import HandS.Lambda
import HandS.Style
import HandS.TupAny
import HandS.TupMul
import HandS.ExcIs
import HandS.ExcField
import HandS.Defaults
import HandS.OwnEq
import PyProof.InstEq
import HandS.Zip
import HandS.TryOnly
import KE.KDflt
import PyProof.ReprRoads
import HandS.RaiseMore
import HandS.Star
import HandS.EndTab
import PySem.Challenge.RW_rulerdrawn_k01_maps
set_option Elab.async false
set_option linter.all false
set_option maxRecDepth 100000
set_option maxHeartbeats 4000000
/-! SX1: a def that captures __class__ and says super().__init__(..) first. -/
namespace SX
open PySem PySem.Spec PySem.Calls PyProof.Rows PySem.W L2
/-- the built-in __init__ bound to an exception, called -/
theorem mw_call {prog : Program} {w : World} {A : Around} {E : Value → Shared → Prop} {s : Shared} {u x C t : Addr} {rest : List Value} {Q : Value → Shared → Prop} {nm q : Str} {N : Addr} {bs bm : List Value} {hdct : Bool} {sn : List Str} {sub : List Value} {ab : Bool} {col : Option Bool} {dd : Option Addr} {k0 k1 k2 k3 k5 : Option Value}
    (hu : s.heap.get? u = some (kxs_mw "ValueError.__init__" x)) (hC : s.heap.get? C = some (excClassObj nm q C N bs bm hdct sn sub ab col dd k0 k1 k2 k3 k5 "ValueError.__new__")) (he : s.heap.get? x = some (excObj C t none .none)) (hz : rest.length ≤ sizeLine)
    (h : ∀ h' : Heap, (∀ b o, b ≠ x → s.heap.get? b = some o → h'.get? b = some o) → h'.get? x = some (excObj C s.heap.objs.size none .none) → Q .none { s with heap := h' }) :
    wpAny (model prog w) A (call (.ref u) rest) Q E s := by
  obtain ⟨hp, g, d, tk, os⟩ := s
  have F := F.excBase_ValueError
  refine wpAny_call (codeAny_of_tree (show wpAny (model prog w) A.in1 (callAny (.ref u) ⟨rest, []⟩) _ _ _ from ?_))
  simp only [callAny]
  refine wpAny_bind (wpAny_load hu ?_)
  have c1 : (Value.type "method-wrapper" == Value.type "method" || Value.type "method-wrapper" == Value.type "builtin_function_or_method" || Value.type "method-wrapper" == Value.type "method-wrapper") = true := by decide
  simp only [kxs_mw, c1, if_true]
  refine KFB.if_so (by decide) (wpAny_bind (check_bound_init F.toExcCallFacts hC he rfl (wpAny_bind (wpAny_pure (wpAny_pure ⟨plainId_quiet F.init.plain _, codeAny_builtin F.initEntry ?_⟩)))))
  exact exc_init_tree (cls := .ref C) (t0 := t) (dv := none) (c2 := .none) (c3 := .none) (b4 := .bool false) he hz fun h' k e' _ => h h' k e'
/-- the names of such a def: none but __class__ is captured, none is a cell -/
structure CScope (N ps : List Str) (sc : Scope) : Prop where
  kind : sc.kind = .function
  co : sc.isCoroutine = false
  gen : sc.isGenerator = false
  nd : N.Nodup
  pre : N.take ps.length = ps
  par : ∀ x ∈ ps, sc.names.lookup x = some .local
  nocell : ∀ y ∈ sc.names, y.2 ≠ .cell
  free : ∀ y ∈ sc.names, y.2 = .free → y.1 = "__class__"
  hasC : sc.names.lookup ("__class__" : Str) = some .free
  hasS : sc.names.lookup ("super" : Str) = some .globalImplicit
/-- its context -/
def cxS (P : Program) (w : World) (K : Frag) (mg : Str → Option Value) (base : Heap) (N : List Str) (qual : Str) (scope : Scope) (f : Addr) (cd : Value) (cc : Addr) (A : Around) (outer : List Env) (s : Shared) (H : Hp) (E : XK) : Cx where
  prog := P
  w := w
  K := K
  mg := mg
  base := base
  A := A.deeper (ksEnv qual scope s.heap.objs.size f cd cc)
  N := N
  s_0 := s
  H_0 := H
  env := ksEnv qual scope s.heap.objs.size f cd cc
  outer := outer
  stack := ksEnv qual scope s.heap.objs.size f cd cc :: outer
  ex := []
  calm := true
  fn := fun _ => false
  pn := []
  xe := fun e s' => wpAny (model P w) (A.deeper (ksEnv qual scope s.heap.objs.size f cd cc)) (leaving (ksEnv qual scope s.heap.objs.size f cd cc) e) (fun _ s'' => L2.CX P w outer H s E e s'') (fun e' s'' => L2.CX P w outer H s E e' s'') s'
theorem cells_one {x : Str} {cc c : Addr} (h : ([("__class__", cc)] : List (Str × Addr)).lookup x = some c) : x = "__class__" ∧ c = cc := by
  rw [List.lookup_cons] at h
  split at h
  · rename_i e
    cases h
    exact ⟨eq_of_beq e, rfl⟩
  · cases h
theorem inv_startS {P : Program} {w : World} {K : Frag} {mg : Str → Option Value} {base : Heap} {N ps : List Str} {qual : Str} {scope : Scope} {f cc : Addr} {cd : Value} {A : Around} {outer : List Env} {s : Shared} {H : Hp} {E : XK} {us : List Value} {vs : List V} {h₁ : Heap} {tk : Nat}
    (S : CScope N ps scope) (hd : A.handled = none) (e0 : Env0 P w K mg base A outer s H) (hl : vs.length = ps.length) (r : Vals vs us) (hcc : ∃ v, base.IsCell cc v)
    (hns : h₁.Ns s.heap.objs.size fun y => (ps.zip us).reverse.lookup y) (kp : ∀ b o, s.heap.get? b = some o → h₁.get? b = some o) :
    Inv (cxS P w K mg base N qual scope f cd cc A outer s H E) [] (L2.start N vs) H { s with heap := h₁, toks := tk } := by
  have noA : ∀ b : Addr, b ∉ (cxS P w K mg base N qual scope f cd cc A outer s H E).ex := fun b z => absurd (show b ∈ ([] : List Addr) from z) (by simp)
  have hpl : ps.length ≤ N.length := by have := congrArg List.length S.pre; rw [List.length_take] at this; omega
  obtain ⟨vc, oc, hoc, hdc⟩ := hcc
  have cellB := e0.bs cc oc hoc
  refine { ok := { mod := e0.mod, kind := S.kind, glob := rfl, blt := rfl, above := Nat.le_refl _, inj := fun y z c h1 h2 => (cells_one h1).1.trans (cells_one h2).1.symm, has := fun y hy => ?_, cab := fun y c z _ => (nomatch z), hd := fun _ => hd, frames := Around.frames_deeper e0.frames, stk := .inr ⟨rfl, rfl⟩, exf := fun b z => absurd z (noA b), bs := e0.bs, bsz := e0.bsz, noex := fun b _ _ => noA b, exfs := fun b z => absurd z (noA b), funs := e0.funs, frf := e0.frf }, os := rfl, bare := e0.bare, base := Un.kept kp, loc := ⟨_, hns, fun i y v h1 h2 h3 => ?_⟩, cell := fun y c h => ?_, free := e0.hok.fresh (Nat.le_refl _), freeC := fun y c h => ?_, pin := fun p hp => absurd (show p ∈ ([] : List (Addr × Obj)) from hp) (by simp), hok := e0.hok.kept kp, len := ?_ }
  · have hy : scope.names.lookup y = some .cell ∨ scope.names.lookup y = some .free := hy
    rcases hy with hy | hy
    · exact absurd rfl (S.nocell _ (PySem.mem_of_lookup hy))
    · have := S.free _ (PySem.mem_of_lookup hy) rfl
      dsimp only at this
      subst this
      exact ⟨cc, rfl⟩
  · have hi : i < vs.length := by
      apply Classical.byContradiction
      intro hi
      unfold L2.start at h2
      rw [List.getElem?_append_right (by simpa using hi), List.getElem?_replicate] at h2
      split at h2 <;> cases h2
    have ha : vs[i]? = some v := by
      unfold L2.start at h2
      rw [List.getElem?_append_left (by simpa using hi), List.getElem?_map] at h2
      cases e : vs[i]? with
      | none => rw [e] at h2; cases h2
      | some a => rw [e] at h2; cases h2; rfl
    obtain ⟨u, hu, rv⟩ := r.get ha
    have hp : ps[i]? = some y := by rw [← S.pre, List.getElem?_take_of_lt (by omega)]; exact h1
    have ndP : ps.Nodup := by rw [← S.pre]; exact S.nd.sublist (List.take_sublist _ _)
    have k := S.par y (List.mem_of_getElem? hp)
    refine ⟨u, rv, .inl ⟨k, ?_⟩⟩
    clear hns h2 h3 rv ha hi r k
    -- the last one of a name is the only one
    have key : ∀ (ps : List Str) (us : List Value) (i : Nat), ps.Nodup → ps[i]? = some y → us[i]? = some u → (ps.zip us).reverse.lookup y = some u := by
      intro ps
      induction ps with
      | nil => intro us i _ h _; simp at h
      | cons a ps ih =>
        intro us i nd h1 h2
        cases us with
        | nil => simp at h2
        | cons b us =>
          rw [List.zip_cons_cons, List.reverse_cons, List.lookup_append]
          cases i with
          | zero =>
            simp at h1 h2
            subst h1 h2
            have : (ps.zip us).reverse.lookup a = none := by
              rw [List.lookup_eq_none_iff]
              intro p hp
              rw [List.mem_reverse] at hp
              have := (List.of_mem_zip hp).1
              have hne : a ≠ p.1 := fun z => (List.nodup_cons.mp nd).1 (z ▸ this)
              simpa using hne
            rw [this]
            simp
          | succ i =>
            rw [ih us i (List.nodup_cons.mp nd).2 (by simpa using h1) (by simpa using h2)]
            rfl
    exact key ps us i ndP hp hu
  · obtain ⟨_, rfl⟩ := cells_one h
    exact ⟨vc, oc, kp _ _ cellB.1, hdc⟩
  · obtain ⟨_, rfl⟩ := cells_one h
    exact cellB.2
  · unfold L2.start
    show _ = N.length
    rw [List.length_append, List.length_map, List.length_replicate]
    omega
end SX

set_option Elab.async false
set_option linter.all false
set_option maxRecDepth 100000
set_option maxHeartbeats 4000000
/-! SX2: such a def by its first statement and the others. -/
namespace SX
open PySem PySem.Spec PySem.Calls PyProof.Rows PySem.W L2
/-- a statement that stands first in the body -/
def First (X : Cx) (body : List Stmt) (st : Stmt) (t : TS) : Prop := ∀ (s : Shared) (σ : L2.St) (H : Hp) (D : Ends), Inv X [] σ H s → t D σ H → _root_.PySem.wpAt (model X.prog X.w) X.A (.func body X.env) (exec st X.env) (SP X [] D) X.xe s
theorem fn_ofS {P : Program} {w : World} {K : Frag} {mg : Str → Option Value} {base : Heap} {k : Nat} {f cc : Addr} {name qual : Str} {params : Arguments} {st0 : Stmt} {rest : List Stmt} {scope : Scope} {dV kV doc pm cdv ct oc cl : Value} {an od cld : Option Addr} {vc : Option Value}
    {osl csl : Array (Option Value)} {N ps : List Str} {sp : Sp} (lk : K.lookup f = some ⟨oc, od, .func (ksFn name qual params (st0 :: rest) scope dV kV doc pm an cdv ct cc), osl⟩) (hcd : codeIn K cdv qual = true) (S : CScope N ps scope) (lc : K.lookup cc = some ⟨cl, cld, .cell vc, csl⟩)
    (len : ∀ vs H Q E, sp vs H Q E → vs.length = ps.length)
    (hbody : ∀ (A : Around) (outer : List Env) (s : Shared) (H : Hp) (vs : List V) (Q : VK) (E : XK), Room k (A.deeper (ksEnv qual scope s.heap.objs.size f cdv cc)) → sp vs H Q E →
      ∃ t tr, First (cxS P w K mg base N qual scope f cdv cc A outer s H E) (st0 :: rest) st0 t ∧ PSs (cxS P w K mg base N qual scope f cdv cc A outer s H E) rest tr ∧ t { nx := fun σ H' => tr { nx := fun _ H2 => Q .non H2, rt := Q } σ H', rt := Q } (L2.start N vs) H) :
    FnOk P w K mg base (L2.CX P w) (k + 1) f (ksFn name qual params (st0 :: rest) scope dV kV doc pm an cdv ct cc) ps sp := by
  refine ⟨len, fun A outer s H args us vs Q E hr e0 hb r hsp => ?_⟩
  have hl := len _ _ _ _ hsp
  have KB : K.In base := e0.mod.kin
  have KX : K.In s.heap := KB.keeps fun b o e => (e0.bs b o e).1
  have lim : s.heap.NoLimit := e0.mod.nolimit.keeps fun b o e => (e0.bs b o e).1
  obtain ⟨t, tr, h1, h2, hq⟩ := hbody A outer s H vs Q E (hr.deeper _) hsp
  refine ks_codeAny_call_defAt (fd := ksFn name qual params (st0 :: rest) scope dV kV doc pm an cdv ct cc) (body := st0 :: rest) hr.depth (KX _ _ lk) rfl lim (codeRec_of KX hcd) rfl hb S.nocell (fun y hy => S.par y.1 (List.of_mem_zip (show (y.1, y.2) ∈ ps.zip us from hy)).1) (fun h₁ hns hk₁ => ?_) S.co S.gen S.kind
  have I : Inv (cxS P w K mg base N qual scope f cdv cc A outer s H E) [] (L2.start N vs) H { s with heap := h₁, toks := s.toks + (ps.zip us).length } := inv_startS S hr.hd e0 hl r ⟨_, _, KB _ _ lc, rfl⟩ hns hk₁
  have fin : ∀ {σ' : L2.St} {H' : Hp} {v : V} {u : Value} {s' : Shared}, Inv (cxS P w K mg base N qual scope f cdv cc A outer s H E) [] σ' H' s' → L2.RelV v u → Q v H' → CE outer P w H s Q u s' :=
    fun {σ' H' v u s'} J rv q => ⟨v, H', J.os, J.bare, J.base, J.hok, rv, q⟩
  refine ks_wpAt_execs_cons (ks_wpAt_mono (h1 _ _ H _ I hq) (fun fl s' hs => ?_) fun e s' hs => hs)
  cases fl with
  | next =>
    obtain ⟨σ', H', J, q⟩ := hs
    refine wpAt_of_wpAny (wpAny_mono (h2.run [] s' σ' H' _ J q) (fun fl s2 hs => ?_) fun e s2 hs => hs)
    cases fl with
    | ret u =>
      obtain ⟨v, σ2, H2, J2, rv, q2⟩ := hs
      exact fin J2 rv q2
    | next =>
      obtain ⟨σ2, H2, J2, q2⟩ := hs
      exact fin (v := V.non) (u := Value.none) J2 rfl q2
    | brk =>
      obtain ⟨_, _, _, q⟩ := hs
      exact False.elim q
    | cont =>
      obtain ⟨_, _, _, q⟩ := hs
      exact False.elim q
  | ret u =>
    obtain ⟨v, σ2, H2, J2, rv, q2⟩ := hs
    exact fin J2 rv q2
  | brk =>
    obtain ⟨_, _, _, q⟩ := hs
    exact False.elim q
  | cont =>
    obtain ⟨_, _, _, q⟩ := hs
    exact False.elim q
/-! ### super() -/
/-- what is static of super() in such a def: the code object, the file, the class that holds the def -/
structure SupF (P : Program) (K : Frag) (cda cc D : Addr) (params : Arguments) (x0 : Str) : Prop where
  code : ∃ ccl cdd vs ccs file tf, K.lookup cda = some ⟨ccl, cdd, .fields vs, ccs⟩ ∧ vs[2]? = some (.str file tf) ∧ ((P.main.file : Str) == file) = true
  cell : ∃ cl cld csl, K.lookup cc = some ⟨cl, cld, .cell (some (.ref D)), csl⟩
  cls : ∃ cdD, clsIn K D = some cdD
  sup : nsIn K mainGlobals "super" = some none
  top : (P.main.scope.names.lookup ("super" : Str)).isSome = false
  par : ∃ ar, (params.posonlyargs ++ params.args).head? = some ar ∧ ar.arg = x0
  stat : nsIn K cStatics "thirdparty.any" = some none
section
variable {P : Program} {w : World} {K : Frag} {mg : Str → Option Value} {base : Heap} {N ps : List Str} {qual : Str} {scope : Scope} {f cc cda D : Addr} {A : Around} {outer : List Env} {s0 : Shared} {H0 : Hp} {E : XK}
/-- super() gives its object -/
theorem sup_base {body : List Stmt} {s : Shared} {σ : L2.St} {H : Hp} {x C : Addr} {ox : Obj} {odx : Option Obj} {name : Str} {params : Arguments} {dV kV doc pm ct oc : Value} {an od : Option Addr} {osl : Array (Option Value)} {p0 p1 : Pos} {attr : Str} {whole : Sem Value} {Q : Value → Shared → Prop} {x0 : Str} {E' : Value → Shared → Prop}
    (S : CScope N ps scope) (F : SupF P K cda cc D params x0) (lk : K.lookup f = some ⟨oc, od, .func (ksFn name qual params body scope dV kV doc pm an (.ref cda) ct cc), osl⟩)
    (I : Inv (cxS P w K mg base N qual scope f (.ref cda) cc A outer s0 H0 E) [] σ H s) (h0 : N[0]? = some x0) (hx0 : scope.names.lookup x0 = some .local) (hσ : σ[0]? = some (some (.ref x))) (J : InstAt s.heap x ox C odx) (hsub : mroIn K C (.ref D) = some true) (hat : (attr == ("__class__" : Str)) = false)
    (h : ∀ h', Inv (cxS P w K mg base N qual scope f (.ref cda) cc A outer s0 H0 E) [] σ H { s with heap := h' } → h'.get? s.heap.objs.size = some (ks_superObj D x C) → (∀ b o, s.heap.get? b = some o → h'.get? b = some o) → Q (.ref s.heap.objs.size) { s with heap := h' }) :
    _root_.PySem.wpAt (model P w) (A.deeper (ksEnv qual scope s0.heap.objs.size f (.ref cda) cc)) (.func body (ksEnv qual scope s0.heap.objs.size f (.ref cda) cc)) (attributeBase (.Call (.Name "super" p0) [] [] p1) attr (ksEnv qual scope s0.heap.objs.size f (.ref cda) cc) whole) Q E' s := by
  have X := I.kIn
  obtain ⟨ccl, cdd, vs, ccs, file, tf, hcode, hvs, hfile⟩ := F.code
  obtain ⟨cl, cld, csl, hcell⟩ := F.cell
  obtain ⟨cdD, hD⟩ := F.cls
  obtain ⟨ar, har, rfl⟩ := F.par
  obtain ⟨oD, hD1, hD2⟩ : ∃ oD, s.heap.get? D = some oD ∧ oD.data = .cls cdD := by
    unfold clsIn at hD
    split at hD
    · rename_i ho
      cases hD
      exact ⟨_, X _ _ ho, rfl⟩
    · cases hD
  obtain ⟨mb, hb1, hb2⟩ := I.ok.mod.blt
  have gl : s.heap.Ns mainGlobals mg := I.ok.mod.glob.keeps I.bk
  have bl : s.heap.Ns builtinsNs mb := hb1.keeps I.bk
  have msup : mg "super" = none := mg_none_of (h := base) I.ok.mod.kin I.ok.mod.glob F.sup
  obtain ⟨m, hn, hl⟩ := I.loc
  obtain ⟨u, ru, lu⟩ := hl 0 ar.arg _ h0 hσ (.inl hx0)
  obtain rfl : u = Value.ref x := ru
  have mx : m ar.arg = some (.ref x) := by
    rcases lu with ⟨_, e⟩ | ⟨k, _⟩
    · exact e
    · have k : scope.names.lookup ar.arg = some .cell ∨ scope.names.lookup ar.arg = some .free := k
      rcases k with k | k <;> (rw [hx0] at k; cases k)
  obtain ⟨hp, g, d, t, os⟩ := s
  refine ks_wpAt_super_base (env := ksEnv qual scope s0.heap.objs.size f (.ref cda) cc) S.hasS S.hasC hat rfl (X _ _ lk) rfl har rfl (X _ _ hcode) rfl hvs hfile F.top ?_
  refine ks_loadName_global S.kind S.hasS (loadGlobal_builtin (env := ksEnv qual scope s0.heap.objs.size f (.ref cda) cc) gl msup bl ((hb2 "super" (by decide +kernel)).trans (by first | rfl | kernel_rfl | decide +kernel)) ⟨rfl, ?_⟩)
  refine wpAny_loadName_free S.kind S.hasC rfl ⟨_, X _ _ hcell, rfl⟩ ?_
  refine wpAny_loadName_local S.kind hx0 hn mx ?_
  refine ks_wpAny_isType_cls hD1 hD2 ⟨rfl, ?_⟩
  refine ks_wpAny_call_super hD1 hD2 J.at_ J.cls (fun c e => ?_) (looks_mroIn X hsub) (fun h' e k => ?_)
  · have := J.no
    unfold notCls at this
    rw [e] at this
    exact Bool.noConfusion this
  · exact h h' (I.kept (t' := t) k) e k
end
end SX

set_option linter.all false
/-! PL.Sem: a small Python with trees for values: its syntax and what it does. -/
namespace PL
open PySem (Str)

/-- a value -/
inductive D where
  | non | bl (b : Bool) | int (i : Int) | str (x : String) | ty (n : String)
  | tup (ds : List D) | lst (ds : List D)
  | dct (ks vs : List D)
  | obj (C : String) (ns : List String) (ds : List D)
  | exc (C : String) (ns : List String) (ds : List D)
  | ref (i : Nat)
  | cls (C : String)
  deriving Inhabited
/-- what stands at a place that may change -/
inductive MO where
  | lst (ds : List D) | dct (ks vs : List D) | ins (C : String) (ns : List String) (ds : List D) | dead
  deriving Inhabited
abbrev Mem := List MO
mutual
def D.same : D → D → Bool
  | .non, .non => true
  | .bl a, .bl b => a == b
  | .int a, .int b => a == b
  | .str a, .str b => a == b
  | .ty a, .ty b => a == b
  | .tup a, .tup b => D.sameL a b
  | .lst a, .lst b => D.sameL a b
  | .dct a b, .dct c d => D.sameL a c && D.sameL b d
  | .obj a b c, .obj d e f => a == d && b == e && D.sameL c f
  | .exc a b c, .exc d e f => a == d && b == e && D.sameL c f
  | .ref a, .ref b => a == b
  | .cls a, .cls b => a == b
  | _, _ => false
def D.sameL : List D → List D → Bool
  | [], [] => true
  | a :: r, b :: q => D.same a b && D.sameL r q
  | _, _ => false
end
mutual
theorem D.same_refl : ∀ a : D, D.same a a = true
  | .non => rfl
  | .bl a => by simp [D.same]
  | .int a => by simp [D.same]
  | .str a => by simp [D.same]
  | .ty a => by simp [D.same]
  | .tup a => by simp [D.same, D.sameL_refl a]
  | .lst a => by simp [D.same, D.sameL_refl a]
  | .dct a b => by simp [D.same, D.sameL_refl a, D.sameL_refl b]
  | .obj a b c => by simp [D.same, D.sameL_refl c]
  | .exc a b c => by simp [D.same, D.sameL_refl c]
  | .ref a => by simp [D.same]
  | .cls a => by simp [D.same]
theorem D.sameL_refl : ∀ a : List D, D.sameL a a = true
  | [] => rfl
  | a :: r => by simp [D.sameL, D.same_refl a, D.sameL_refl r]
end
mutual
theorem D.same_eq : ∀ a b : D, D.same a b = true → a = b
  | a, b, h => by
    cases a with
    | tup x => cases b <;> simp [D.same] at h; rename_i y; rw [D.sameL_eq x y h]
    | lst x => cases b <;> simp [D.same] at h; rename_i y; rw [D.sameL_eq x y h]
    | dct x y => cases b <;> simp [D.same] at h; rename_i x' y'; rw [D.sameL_eq x x' h.1, D.sameL_eq y y' h.2]
    | obj x y z => cases b <;> simp [D.same] at h; rename_i x' y' z'; rw [h.1.1, h.1.2, D.sameL_eq z z' h.2]
    | exc x y z => cases b <;> simp [D.same] at h; rename_i x' y' z'; rw [h.1.1, h.1.2, D.sameL_eq z z' h.2]
    | _ => cases b <;> simp [D.same] at h <;> first | rfl | rw [h]
theorem D.sameL_eq : ∀ a b : List D, D.sameL a b = true → a = b
  | [], [], _ => rfl
  | [], _ :: _, h => by simp [D.sameL] at h
  | _ :: _, [], h => by simp [D.sameL] at h
  | a :: r, b :: q, h => by
    simp only [D.sameL, Bool.and_eq_true] at h
    rw [D.same_eq a b h.1, D.sameL_eq r q h.2]
end
instance : DecidableEq D := fun a b => decidable_of_iff (D.same a b = true) ⟨D.same_eq a b, fun h => h ▸ D.same_refl a⟩
instance : DecidableEq MO := fun a b => match a, b with
  | .lst x, .lst y => if h : x = y then .isTrue (by rw [h]) else .isFalse (by simpa using h)
  | .dct x y, .dct u v => if h : x = u ∧ y = v then .isTrue (by rw [h.1, h.2]) else .isFalse (by simpa using h)
  | .ins x y z, .ins u v w => if h : x = u ∧ y = v ∧ z = w then .isTrue (by rw [h.1, h.2.1, h.2.2]) else .isFalse (by simpa using h)
  | .dead, .dead => .isTrue rfl
  | .lst _, .dct _ _ => .isFalse (by simp)
  | .lst _, .ins _ _ _ => .isFalse (by simp)
  | .lst _, .dead => .isFalse (by simp)
  | .dct _ _, .lst _ => .isFalse (by simp)
  | .dct _ _, .ins _ _ _ => .isFalse (by simp)
  | .dct _ _, .dead => .isFalse (by simp)
  | .ins _ _ _, .lst _ => .isFalse (by simp)
  | .ins _ _ _, .dct _ _ => .isFalse (by simp)
  | .ins _ _ _, .dead => .isFalse (by simp)
  | .dead, .lst _ => .isFalse (by simp)
  | .dead, .dct _ _ => .isFalse (by simp)
  | .dead, .ins _ _ _ => .isFalse (by simp)
abbrev Env := List (Option D)
inductive Out (α : Type) where
  | ok (a : α) (m : Mem) | err (x : D) (m : Mem) | stk
def Out.bind {α β : Type} (o : Out α) (f : α → Mem → Out β) : Out β :=
  match o with
  | .ok a m => f a m
  | .err x m => .err x m
  | .stk => .stk
@[simp] theorem Out.bind_ok {α β : Type} (a : α) (m : Mem) (f : α → Mem → Out β) : (Out.ok a m).bind f = f a m := rfl
@[simp] theorem Out.bind_err {α β : Type} (x : D) (m : Mem) (f : α → Mem → Out β) : (Out.err x m : Out α).bind f = .err x m := rfl
@[simp] theorem Out.bind_stk {α β : Type} (f : α → Mem → Out β) : (Out.stk : Out α).bind f = .stk := rfl
/-- no exception -/
def Out.calm {α : Type} : Out α → Out α
  | .ok a m => .ok a m
  | _ => .stk
@[simp] theorem Out.calm_ok {α : Type} (a : α) (m : Mem) : (Out.ok a m).calm = .ok a m := rfl
def Out.of {α : Type} (m : Mem) : Option α → Out α
  | some a => .ok a m
  | none => .stk
@[simp] theorem Out.of_some {α : Type} (m : Mem) (a : α) : Out.of m (some a) = .ok a m := rfl
@[simp] theorem Out.of_none {α : Type} (m : Mem) : Out.of m (none : Option α) = .stk := rfl

inductive BOp where
  | add | sub | mul | fdiv | mod | pow
  deriving DecidableEq
inductive COp where
  | eq | ne | lt | le | gt | ge | is | isn | in_ | nin
  deriving DecidableEq
inductive Blt where
  | len | abs | isi | tup | lst | all | any | sum | int | gcd
  deriving DecidableEq

/-- built-in operations on one, two, three values -/
inductive O1 where
  | rev | boolC | strI | intS | listD | tupD | maxL | minL | setL | sortL | dictP | dictD | valuesL | itemsL
  deriving DecidableEq
inductive O2 where
  | cmr (neg : Bool) | get1 | join | split | index
  deriving DecidableEq
inductive O3 where
  | get2
  deriving DecidableEq

inductive E where
  | var (i : Nat) | cst (d : D)
  | bin (o : BOp) (a b : E) | neg (a : E)
  | cmp (o : COp) (a b : E)
  | not (a : E) | and (a b : E) | or (a b : E)
  | ife (c a b : E)
  | nil | cons (a r : E)
  | tup (es : E) | lst (es : E)
  | ix (a i : E) | sl (a lo hi : E)
  | att (a : E) (f : String)
  | call (f : String) (as : E)
  | meth (m : String) (a as : E)
  | make (C : String) (as : E)
  | mkx (C : String) (ns : List String) (as : E)
  | blt (b : Blt) (as : E)
  | itv (a : E) | rng (a : E) | rng2 (a b : E) | zip (es : E) | enm (a : E)
  | lc (ws : List Nat) (t it cs el : E)
  | lc2 (ws : List Nat) (t it cs : E) (ws1 : List Nat) (t1 it1 cs1 el : E)
  | frz (i : Nat)
  | nls (es : E)
  | callk (f : String) (n : Nat) (ks : List String) (as bs : E)
  | makek (C : String) (n : Nat) (ks : List String) (as bs : E)
  | cau (f : String) (b : E)
  | chn (o p : COp) (a b c : E)
  | methk (f : String) (n : Nat) (ks : List String) (a as bs : E)
  | op1 (o : O1) (a : E) | op2 (o : O2) (a b : E) | op3 (o : O3) (a b c : E)
inductive S where
  | skip | seq (a b : S)
  | asg (t e : E) | exp (e : E) | ret (e : E) | retN
  | ife (c : E) (a b : S)
  | for_ (t it : E) (b : S) | whl (c : E) (b : S)
  | brk | cnt
  | rse (e : E) | nev
  | att (o : E) (f : String) (e : E)
  | ats (i : Nat) (fs : List String) (e : E)
  | sub (o i e : E)
  | app (i : Nat) (e : E)
  | aug (i : Nat) (o : BOp) (e : E)
inductive SO where
  | nx (ρ : Env) (m : Mem) | rt (d : D) (m : Mem) | br (ρ : Env) (m : Mem) | ct (ρ : Env) (m : Mem) | er (x : D) (ρ : Env) (m : Mem) | stk

/-- the world around: the defs by number, the classes -/
structure Gam where
  fn : String → List D → Mem → Out D
  mro : String → List String
  meth : String → String → Option String
  fld : String → String → Bool
  fuel : Nat
  plan : String → Nat → List String → Option (List (Nat ⊕ D))

/-- how a call's values fill the parameters, defaults among them -/
def appPlan : List (Nat ⊕ D) → List D → Option (List D)
  | [], _ => some []
  | .inl i :: p, ys => match ys[i]?, appPlan p ys with
    | some y, some r => some (y :: r)
    | _, _ => none
  | .inr d :: p, ys => match d with
    | .non => (appPlan p ys).map (.non :: ·)
    | .str x => (appPlan p ys).map (.str x :: ·)
    | _ => none
def sizeOk (n : Nat) : Bool := decide (n ≤ 16777216)
/-- what a value reads as: the list, dict at a place that may change -/
def rd (m : Mem) : D → D
  | .ref i => match m[i]? with
    | some (.lst ds) => .lst ds
    | some (.dct ks vs) => .dct ks vs
    | _ => .ref i
  | d => d
def items (m : Mem) (d : D) : Option (List D) :=
  match rd m d with
  | .tup ds => some ds
  | .lst ds => some ds
  | _ => none
def truth (m : Mem) (d : D) : Option Bool :=
  match rd m d with
  | .non => some false
  | .bl b => some b
  | .int i => some (i != 0)
  | .str x => if x.length ≤ 16777216 then some (x.length != 0) else none
  | .tup ds => some (!ds.isEmpty)
  | .lst ds => some (!ds.isEmpty)
  | .dct ks _ => match d with
    | .ref _ => some (!ks.isEmpty)
    | _ => none
  | _ => none
mutual
/-- plain data of at most so many floors -/
def D.plain : Nat → D → Bool
  | _, .non => true
  | _, .bl _ => true
  | _, .int _ => true
  | _, .str _ => true
  | n + 1, .tup ds => D.plainL n ds
  | n + 1, .lst ds => D.plainL n ds
  | _, _ => false
def D.plainL : Nat → List D → Bool
  | _, [] => true
  | n, d :: ds => D.plain n d && D.plainL n ds
end
mutual
/-- data whose text can be told -/
def D.showB : D → Bool
  | .non => true
  | .bl _ => true
  | .int i => decide (i.natAbs.log2 < 1920)
  | .str _ => true
  | .tup ds => D.showBL ds
  | .lst ds => D.showBL ds
  | _ => false
def D.showBL : List D → Bool
  | [] => true
  | d :: ds => D.showB d && D.showBL ds
end
mutual
/-- at least as many signs as its text has -/
def txtN : D → Nat
  | .int _ => 1921
  | .str x => 10 * x.length + 2
  | .tup ds => txtL ds + 3
  | .lst ds => txtL ds + 3
  | _ => 5
def txtL : List D → Nat
  | [] => 0
  | d :: ds => txtN d + 2 + txtL ds
end
/-- its repr can be had -/
def reprOk (d : D) : Bool := D.plain 60 d && D.showB d && decide (txtN d ≤ 16777216)
mutual
def D.eqv : D → D → Bool
  | .non, .non => true
  | .bl a, .bl b => a == b
  | .bl a, .int j => (if a then 1 else 0) == j
  | .int i, .bl b => i == (if b then 1 else 0)
  | .int i, .int j => i == j
  | .str x, .str y => x == y
  | .lst xs, .lst ys => D.eqvL xs ys
  | .tup xs, .tup ys => D.eqvL xs ys
  | _, _ => false
def D.eqvL : List D → List D → Bool
  | [], [] => true
  | x :: xs, y :: ys => D.eqv x y && D.eqvL xs ys
  | _, _ => false
end
mutual
/-- only places below n within -/
def D.rb (n : Nat) : D → Bool
  | .ref i => decide (i < n)
  | .tup ds => D.rbL n ds
  | .lst ds => D.rbL n ds
  | .dct ks vs => D.rbL n ks && D.rbL n vs
  | .obj _ _ ds => D.rbL n ds
  | .exc _ _ ds => D.rbL n ds
  | _ => true
def D.rbL (n : Nat) : List D → Bool
  | [] => true
  | d :: ds => D.rb n d && D.rbL n ds
end
def MO.rb (n : Nat) : MO → Bool
  | .lst ds => D.rbL n ds
  | .dct ks vs => D.rbL n ks && D.rbL n vs
  | .ins _ _ ds => D.rbL n ds
  | .dead => true
/-- the memory m2 may be cut back to the places of m -/
def cutOk (m m2 : Mem) : Prop := m.length ≤ m2.length ∧ (m2.take m.length = m ∨ (m2.take m.length).all (MO.rb m.length) = true)
instance (m m2 : Mem) : Decidable (cutOk m m2) := by unfold cutOk; infer_instance
def mulOk (i j : Int) : Bool := decide (i.natAbs.log2 + j.natAbs.log2 < 134217000)
def divOk (j : Int) : Bool := decide (0 < j ∧ j.natAbs.log2 < 9000)
/-- any other division: not too unlike in size, or not too great -/
def divOk2 (i j : Int) : Bool := decide (j ≠ 0 ∧ (j.natAbs.log2 < 9000 ∨ i.natAbs.log2 ≤ j.natAbs.log2 + 4470))
def powOk (i j : Int) : Bool := decide (0 ≤ j ∧ (i.natAbs.log2 + 1) * j.toNat ≤ 134217728)
def binS : BOp → D → D → Option D
  | .add, .int i, .int j => some (.int (i + j))
  | .add, .str x, .str y => if x.length + y.length ≤ 16777216 then some (.str (x ++ y)) else none
  | .add, .tup xs, .tup ys => if xs.length + ys.length ≤ 16777216 then some (.tup (xs ++ ys)) else none
  | .add, .lst xs, .lst ys => if xs.length + ys.length ≤ 16777216 then some (.lst (xs ++ ys)) else none
  | .sub, .int i, .int j => some (.int (i - j))
  | .mul, .int i, .int j => if mulOk i j then some (.int (i * j)) else none
  | .fdiv, .int i, .int j => if divOk j then some (.int (i / j)) else if divOk2 i j then some (.int (i.fdiv j)) else none
  | .mod, .int i, .int j => if 0 < j then some (.int (i % j)) else if j ≠ 0 then some (.int (i.fmod j)) else none
  | .pow, .int i, .int j => if 0 ≤ j ∧ j ≤ 1000000 ∧ i.natAbs < 2 ^ 64 then some (.int (i ^ j.toNat)) else if powOk i j then some (.int (i ^ j.toNat)) else none
  | .mul, .lst xs, .int k => if -(2 ^ 63) ≤ k ∧ k < 2 ^ 63 ∧ xs.length * k.toNat ≤ 16777216 then some (.lst (List.replicate k.toNat xs).flatten) else none
  | .mul, .tup xs, .int k => if xs ≠ [] ∧ 2 ≤ k ∧ k ≤ 1000 ∧ xs.length ≤ 1000 then some (.tup (List.replicate k.toNat xs).flatten) else none
  | _, _, _ => none
def cmpS (m : Mem) : COp → D → D → Option Bool
  | .eq, x, y => if D.plain 60 (rd m x) && D.plain 60 (rd m y) then some (D.eqv (rd m x) (rd m y)) else none
  | .ne, x, y => if D.plain 60 (rd m x) && D.plain 60 (rd m y) then some (!D.eqv (rd m x) (rd m y)) else none
  | .lt, .int i, .int j => some (decide (i < j))
  | .le, .int i, .int j => some (decide (i ≤ j))
  | .gt, .int i, .int j => some (decide (j < i))
  | .ge, .int i, .int j => some (decide (j ≤ i))
  | .is, x, .non => some (match x with | .non => true | _ => false)
  | .isn, x, .non => some (match x with | .non => false | _ => true)
  | .is, .bl a, .bl b => some (decide (a = b))
  | .isn, .bl a, .bl b => some (!decide (a = b))
  | _, _, _ => none
/-- a place among n, as Python counts it -/
def pyIx (n : Nat) (i : Int) : Option Nat := if 0 ≤ i then (if i < n then some i.toNat else none) else if -(n : Int) ≤ i then some (i + n).toNat else none
/-- a slice's end among n, d where it is left out -/
def sxN (n d : Nat) : Option Int → Nat
  | none => d
  | some v => if 0 ≤ v then Nat.min v.toNat n else ((n : Int) + v).toNat
def cutD (xs : List D) (lo hi : Option Int) : List D := (xs.drop (sxN xs.length 0 lo)).take (sxN xs.length xs.length hi - sxN xs.length 0 lo)
def slS (lo hi : Option Int) : D → Option D
  | .tup ds => some (.tup (cutD ds lo hi))
  | .lst ds => some (.lst (cutD ds lo hi))
  | _ => none
/-- what a slice's part is -/
def partD (t : E) (d : D) : Option (Option Int) := match t with
  | .nil => some none
  | _ => match d with
    | .int i => some (some i)
    | _ => none
def ixS (m : Mem) (d i : D) : Option D :=
  match items m d, i with
  | some ds, .int k => (pyIx ds.length k).bind fun j => ds[j]?
  | _, _ => none
def lkp (f : String) : List String → List D → Option D
  | n :: ns, d :: ds => if n = f then some d else lkp f ns ds
  | _, _ => none
def putF (f : String) (v : D) : List String → List D → List String × List D
  | n :: ns, d :: ds => if n = f then (n :: ns, v :: ds) else let r := putF f v ns ds; (n :: r.1, d :: r.2)
  | _, _ => ([f], [v])
def attS (Γ : Gam) (m : Mem) (f : String) : D → Option D
  | .obj C ns ds => if Γ.fld C f then lkp f ns ds else none
  | .exc C ns ds => if Γ.fld C f then lkp f ns ds else none
  | .ref i => match m[i]? with
    | some (.ins C ns ds) => if Γ.fld C f then lkp f ns ds else none
    | _ => none
  | _ => none
/-- the instance has an attribute of that name -/
def hasA (m : Mem) (f : String) : D → Bool
  | .obj _ ns _ => ns.contains f
  | .ref i => match m[i]? with
    | some (.ins _ ns _) => ns.contains f
    | _ => false
  | _ => false
def clsOf (m : Mem) : D → Option String
  | .obj C _ _ => some C
  | .ref i => match m[i]? with
    | some (.ins C _ _) => some C
    | _ => none
  | _ => none
def tyOf (m : Mem) (d : D) : Option String :=
  match rd m d with
  | .non => some "NoneType"
  | .bl _ => some "bool"
  | .int _ => some "int"
  | .str _ => some "str"
  | .tup _ => some "tuple"
  | .lst _ => some "list"
  | .dct _ _ => some "dict"
  | _ => none
def tyNames : List String := ["bool", "int", "str", "tuple", "list", "dict"]
/-- the class of an instance, or of an exception -/
def clsX (m : Mem) : D → Option String
  | .exc C _ _ => some C
  | d => clsOf m d
/-- isinstance of one class -/
def isOne (Γ : Gam) (m : Mem) (x : D) : D → Option Bool
  | .ty n => if tyNames.contains n then match tyOf m x with
    | some t => some (t == n || (t == "bool" && n == "int"))
    | none => match clsX m x with
      | some _ => some false
      | none => none
    else none
  | .cls C => match tyOf m x with
    | some _ => some false
    | none => match clsX m x with
      | some c => some ((Γ.mro c).contains C)
      | none => none
  | _ => none
def isAny (Γ : Gam) (m : Mem) (x : D) : List D → Option Bool
  | [] => if (tyOf m x).isSome || (clsOf m x).isSome then some false else none
  | c :: cs => match isOne Γ m x c, isAny Γ m x cs with
    | some a, some b => some (a || b)
    | _, _ => none
def boolsD : List D → Option (List Bool)
  | [] => some []
  | .bl b :: r => (boolsD r).map (b :: ·)
  | _ => none
def intsD : List D → Option (List Int)
  | [] => some []
  | .int b :: r => (intsD r).map (b :: ·)
  | _ => none
def bltS (Γ : Gam) (m : Mem) : Blt → List D → Option D
  | .len, [x] => match rd m x with
    | .str y => if y.length ≤ 16777216 then some (.int y.length) else none
    | .tup ds => some (.int ds.length)
    | .lst ds => some (.int ds.length)
    | _ => none
  | .abs, [.int i] => some (.int (if i < 0 then -i else i))
  | .isi, [x, .tup cs] => (isAny Γ m x cs).map .bl
  | .isi, [x, c] => (isOne Γ m x c).map .bl
  | .tup, [x] => (items m x).map .tup
  | .lst, [x] => (items m x).map .lst
  | .all, [x] => match rd m x with
    | .lst ds => (boolsD ds).map fun bs => .bl (bs.all id)
    | _ => none
  | .any, [x] => match rd m x with
    | .lst ds => (boolsD ds).map fun bs => .bl (bs.any id)
    | _ => none
  | .sum, [x] => match rd m x with
    | .lst ds => (intsD ds).map fun ns => .int ns.sum
    | _ => none
  | .int, [.int i] => some (.int i)
  | .int, [.bl b] => some (.int (if b then 1 else 0))
  | .gcd, [.int i, .int j] => some (.int ((Nat.gcd i.natAbs j.natAbs : Nat) : Int))
  | _, _ => none
/-- a target takes a value -/
def asgT : E → D → Env → Option Env
  | .var i, d, ρ => if i < ρ.length then some (ρ.set i (some d)) else none
  | .tup ts, .tup ds, ρ => asgL ts ds ρ
  | .tup ts, .lst ds, ρ => asgL ts ds ρ
  | _, _, _ => none
where
  asgL : E → List D → Env → Option Env
    | .nil, [], ρ => some ρ
    | .cons t ts, d :: ds, ρ => (asgT t d ρ).bind (asgL ts ds)
    | _, _, _ => none
def wipeE (ρ : Env) : List Nat → Env
  | [] => ρ
  | v :: vs => (wipeE ρ vs).set v none
/-- a comprehension's turns -/
def lcLoop (f : D → Mem → Out (List D)) : List D → Mem → Out (List D)
  | [], m => .ok [] m
  | d :: ds, m => match f d m with
    | .ok x m1 => (lcLoop f ds m1).bind fun r m2 => .ok (x ++ r) m2
    | _ => .stk
def zipD : List (List D) → List D
  | [] => []
  | [xs] => xs.map fun x => .tup [x]
  | xs :: r => List.zipWith (fun x t => match t with | .tup ts => .tup (x :: ts) | t => t) xs (zipD r)
def enmD (n : Nat) : List D → List D
  | [] => []
  | d :: ds => .tup [.int n, d] :: enmD (n + 1) ds
def fixd : D → Option (List D)
  | .tup ds => some ds
  | .lst ds => some ds
  | _ => none
def tupsOf : List D → Option (List (List D))
  | [] => some []
  | d :: r => match fixd d, tupsOf r with
    | some x, some y => some (x :: y)
    | _, _ => none
/-- two, three, four -/
def zipOk (ys : List D) : Bool := ys.length == 2 || ys.length == 3 || ys.length == 4
def rngD (lo : Int) (n : Nat) : List D := (List.range n).map fun (i : Nat) => D.int (lo + (i : Int))
def oneOrNone (c : Bool) (d : D) : List D := if c then [d] else []
def eqNe : COp → Option Bool
  | .eq => some false
  | .ne => some true
  | _ => none
/-- the right one's class is no subclass of the left one's -/
def eqSafe (Γ : Gam) (m : Mem) (C : String) (y : D) : Bool := match tyOf m y with
  | some _ => true
  | none => match clsOf m y with
    | some C' => decide (C' = C) || !(Γ.mro C').contains C
    | none => false
/-- a comparison; == and != by an own __eq__ -/
def cmpX (Γ : Gam) (o : COp) (x y : D) (m : Mem) : Out D :=
  match eqNe o, clsOf m x with
  | some neg, some C => match Γ.meth C "__eq__" with
    | some g => if eqSafe Γ m C y = true then match Γ.fn g [x, y] m with
      | .ok (.bl b) m => .ok (.bl (b != neg)) m
      | _ => .stk
     else .stk
    | none => .of m ((cmpS m o x y).map .bl)
  | _, _ => .of m ((cmpS m o x y).map .bl)
/-- operations on values -/
def op1S (Γ : Gam) (m : Mem) : O1 → D → Option D
  | .rev, x => match rd m x with
    | .lst ds => some (.lst ds.reverse)
    | .tup ds => some (.tup ds.reverse)
    | _ => none
  | _, _ => none
/-- what is asked of the first value before the second one is looked at -/
def pre2 : O2 → D → Bool
  | .cmr _, x => reprOk x
  | _, _ => true
def op2S (Γ : Gam) (m : Mem) : O2 → D → D → Option D
  | .cmr neg, x, y => if reprOk (rd m y) = true ∧ x = rd m y then some (.bl (!neg)) else none
  | _, _, _ => none
def op3S (Γ : Gam) (m : Mem) : O3 → D → D → D → Option D
  | _, _, _, _ => none
/-- an expression; an argument list gives a tuple -/
def ev (Γ : Gam) : E → Env → Mem → Out D
  | .var i, ρ, m => match ρ[i]? with
    | some (some d) => .ok d m
    | _ => .stk
  | .cst d, _, m => .ok d m
  | .bin o a b, ρ, m => (ev Γ a ρ m).bind fun x m => (ev Γ b ρ m).bind fun y m => .of m (binS o (rd m x) (rd m y))
  | .neg a, ρ, m => (ev Γ a ρ m).bind fun x m => match x with
    | .int i => .ok (.int (-i)) m
    | _ => .stk
  | .cmp o a b, ρ, m => (ev Γ a ρ m).bind fun x m => (ev Γ b ρ m).bind fun y m => cmpX Γ o x y m
  | .not a, ρ, m => (ev Γ a ρ m).bind fun x m => .of m ((truth m x).map fun c => .bl (!c))
  | .and a b, ρ, m => (ev Γ a ρ m).bind fun x m => match truth m x with
    | some true => ev Γ b ρ m
    | some false => .ok x m
    | none => .stk
  | .or a b, ρ, m => (ev Γ a ρ m).bind fun x m => match truth m x with
    | some true => .ok x m
    | some false => ev Γ b ρ m
    | none => .stk
  | .ife c a b, ρ, m => (ev Γ c ρ m).bind fun x m => match truth m x with
    | some true => ev Γ a ρ m
    | some false => ev Γ b ρ m
    | none => .stk
  | .nil, _, m => .ok (.tup []) m
  | .cons a r, ρ, m => (ev Γ a ρ m).bind fun x m => (ev Γ r ρ m).bind fun y m => match y with
    | .tup ys => .ok (.tup (x :: ys)) m
    | _ => .stk
  | .tup es, ρ, m => (ev Γ es ρ m).bind fun y m => match y with
    | .tup ys => if ys.length ≤ 16777216 then .ok (.tup ys) m else .stk
    | _ => .stk
  | .lst es, ρ, m => (ev Γ es ρ m).bind fun y m => match y with
    | .tup ys => if ys.length ≤ 16777216 then .ok (.lst ys) m else .stk
    | _ => .stk
  | .ix a i, ρ, m => (ev Γ a ρ m).bind fun x m => (ev Γ i ρ m).bind fun y m => .of m (ixS m x y)
  | .sl a lo hi, ρ, m => (ev Γ a ρ m).bind fun x m => ((ev Γ lo ρ m).bind fun d m => .of m (partD lo d)).bind fun l m => ((ev Γ hi ρ m).bind fun d m => .of m (partD hi d)).bind fun u m => .of m (slS l u (rd m x))
  | .att a f, ρ, m => (ev Γ a ρ m).bind fun x m => .of m (attS Γ m f x)
  | .call f as, ρ, m => (ev Γ as ρ m).bind fun y m => match y with
    | .tup ys => Γ.fn f ys m
    | _ => .stk
  | .meth n a as, ρ, m => (ev Γ a ρ m).bind fun x m => match (clsOf m x).bind fun C => Γ.meth C n with
    | some f => if hasA m n x then .stk else (ev Γ as ρ m).bind fun y m => match y with
      | .tup ys => Γ.fn f (x :: ys) m
      | _ => .stk
    | none => .stk
  | .make C as, ρ, m => (ev Γ as ρ m).bind fun y m => match y with
    | .tup ys => match Γ.meth C "__init__" with
     | some f => (Γ.fn f (.ref m.length :: ys) (m ++ [.ins C [] []])).bind fun d m2 => match d, m2[m.length]? with
      | .non, some (.ins C' ns ds) => if C' = C ∧ cutOk m m2 ∧ D.rbL m.length ds = true then .ok (.obj C ns ds) (m2.take m.length) else .stk
      | _, _ => .stk
     | none => .stk
    | _ => .stk
  | .mkx C ns as, ρ, m => (ev Γ as ρ m).bind fun y m => match y with
    | .tup ys => if ys.length = ns.length then .ok (.exc C ns ys) m else .stk
    | _ => .stk
  | .blt b as, ρ, m => (ev Γ as ρ m).bind fun y m => match y with
    | .tup ys => .of m (bltS Γ m b ys)
    | _ => .stk
  | .itv a, ρ, m => (ev Γ a ρ m).bind fun x m => match x with
    | .tup ds => .ok (.lst ds) m
    | .lst ds => .ok (.lst ds) m
    | _ => .stk
  | .rng a, ρ, m => (ev Γ a ρ m).bind fun x m => match x with
    | .int n => if n < 2 ^ 62 ∧ -(2 ^ 62) ≤ n then .ok (.lst (rngD 0 n.toNat)) m else .stk
    | _ => .stk
  | .rng2 a b, ρ, m => (ev Γ a ρ m).bind fun x m => (ev Γ b ρ m).bind fun y m => match x, y with
    | .int lo, .int hi => if hi < 2 ^ 62 ∧ -(2 ^ 62) ≤ lo ∧ lo < 2 ^ 62 ∧ -(2 ^ 62) ≤ hi then .ok (.lst (rngD lo (hi - lo).toNat)) m else .stk
    | _, _ => .stk
  | .zip es, ρ, m => (ev Γ es ρ m).bind fun y m => match y with
    | .tup ys => if zipOk ys = true then .of m ((tupsOf ys).map fun l => .lst (zipD l)) else .stk
    | _ => .stk
  | .enm a, ρ, m => (ev Γ a ρ m).bind fun x m => match x with
    | .lst l => .ok (.lst (enmD 0 l)) m
    | _ => .stk
  | .lc ws t it cs el, ρ, m => (ev Γ it ρ m).bind fun x m => match x with
    | .lst ds => (lcLoop (fun d m => match asgT t d (wipeE ρ ws) with
        | some ρ1 => (ev Γ cs ρ1 m).bind fun c m => match truth m c with
          | some true => (ev Γ el ρ1 m).bind fun y m => .ok [y] m
          | some false => .ok [] m
          | none => .stk
        | none => .stk) ds m).bind fun r m => if r.length ≤ 16777216 then .ok (.lst r) m else .stk
    | _ => .stk
  | .lc2 ws t it cs ws1 t1 it1 cs1 el, ρ, m => (ev Γ it ρ m).bind fun x m => match x with
    | .lst ds => (lcLoop (fun d m => match asgT t d (wipeE ρ ws) with
        | some ρ1 => (ev Γ cs ρ1 m).bind fun c m => match truth m c with
          | some true => (ev Γ it1 ρ1 m).bind fun x1 m => match x1 with
            | .lst ds1 => lcLoop (fun d1 m => match asgT t1 d1 (wipeE ρ1 ws1) with
                | some ρ2 => (ev Γ cs1 ρ2 m).bind fun c m => match truth m c with
                  | some true => (ev Γ el ρ2 m).bind fun y m => .ok [y] m
                  | some false => .ok [] m
                  | none => .stk
                | none => .stk) ds1 m
            | _ => .stk
          | some false => .ok [] m
          | none => .stk
        | none => .stk) ds m).bind fun r m => if r.length ≤ 16777216 then .ok (.lst r) m else .stk
    | _ => .stk
  | .frz i, ρ, m => match ρ[i]? with
    | some (some (.ref a)) => match m[a]? with
      | some (.lst ds) => .ok (.lst ds) (m.set a .dead)
      | _ => .stk
    | _ => .stk
  | .nls es, ρ, m => (ev Γ es ρ m).bind fun y m => match y with
    | .tup ys => if ys.length ≤ 16777216 then .ok (.ref m.length) (m ++ [.lst ys]) else .stk
    | _ => .stk
  | .callk f n ks as bs, ρ, m => (ev Γ as ρ m).bind fun y m => (ev Γ bs ρ m).bind fun z m => match y, z with
    | .tup ys, .tup zs => match (Γ.plan f n ks).bind fun p => appPlan p (ys ++ zs) with
      | some args => if ys.length = n ∧ zs.length = ks.length then Γ.fn f args m else .stk
      | none => .stk
    | _, _ => .stk
  | .makek C n ks as bs, ρ, m => (ev Γ as ρ m).bind fun y m => (ev Γ bs ρ m).bind fun z m => match y, z with
    | .tup ys, .tup zs => match Γ.meth C "__init__" with
     | some f => match (Γ.plan f (n + 1) ks).bind fun p => appPlan p (.ref m.length :: (ys ++ zs)) with
      | some args => if ys.length = n ∧ zs.length = ks.length then (Γ.fn f args (m ++ [.ins C [] []])).bind fun d m2 => match d, m2[m.length]? with
        | .non, some (.ins C' ns ds) => if C' = C ∧ cutOk m m2 ∧ D.rbL m.length ds = true then .ok (.obj C ns ds) (m2.take m.length) else .stk
        | _, _ => .stk
       else .stk
      | none => .stk
     | none => .stk
    | _, _ => .stk
  | .chn o p a b c, ρ, m => (ev Γ a ρ m).bind fun x m => (ev Γ b ρ m).bind fun y m => match cmpS m o x y with
    | some true => (ev Γ c ρ m).bind fun z m => .of m ((cmpS m p y z).map .bl)
    | some false => .ok (.bl false) m
    | none => .stk
  | .methk n j ks a as bs, ρ, m => (ev Γ a ρ m).bind fun x m => match (clsOf m x).bind fun C => Γ.meth C n with
    | some f => if hasA m n x then .stk else (ev Γ as ρ m).bind fun y m => (ev Γ bs ρ m).bind fun z m => match y, z with
      | .tup ys, .tup zs => match (Γ.plan f (j + 1) ks).bind fun p => appPlan p (x :: (ys ++ zs)) with
        | some args => if ys.length = j ∧ zs.length = ks.length then Γ.fn f args m else .stk
        | none => .stk
      | _, _ => .stk
    | none => .stk
  | .op1 o a, ρ, m => (ev Γ a ρ m).bind fun x m => .of m (op1S Γ m o x)
  | .op2 o a b, ρ, m => (ev Γ a ρ m).bind fun x m => if pre2 o x = true then (ev Γ b ρ m).bind fun y m => .of m (op2S Γ m o x y) else .stk
  | .op3 o a b c, ρ, m => (ev Γ a ρ m).bind fun x m => (ev Γ b ρ m).bind fun y m => (ev Γ c ρ m).bind fun z m => .of m (op3S Γ m o x y z)
  | .cau f b, ρ, m => match ev Γ b ρ m with
    | .ok x m => (Γ.fn f [.non, x] m).calm
    | .err (.exc C ns ds) m => if (Γ.mro C).contains "RulerError" = true then (Γ.fn f [.exc C ns ds] m).calm else .stk
    | _ => .stk
/-- an attribute is stored -/
def setAt (Γ : Gam) (m : Mem) (i : Nat) (f : String) (v : D) : Option Mem :=
  match m[i]? with
  | some (.ins C ns ds) => if Γ.fld C f = true ∧ ns.length < 1000 then some (m.set i (.ins C (putF f v ns ds).1 (putF f v ns ds).2)) else none
  | _ => none
def setAll (Γ : Gam) (i : Nat) : Mem → List String → List D → Option Mem
  | m, [], [] => some m
  | m, f :: fs, d :: ds => (setAt Γ m i f d).bind fun m => setAll Γ i m fs ds
  | _, _, _ => none
def SO.bind (o : SO) (f : Env → Mem → SO) : SO :=
  match o with
  | .nx ρ m => f ρ m
  | o => o
/-- an expression within a statement -/
def SO.of {β : Type} (ρ : Env) (o : Out β) (f : β → Mem → SO) : SO :=
  match o with
  | .ok d m => f d m
  | .err x m => .er x ρ m
  | .stk => .stk
def forLoop (f : D → Env → Mem → SO) : List D → Env → Mem → SO
  | [], ρ, m => .nx ρ m
  | d :: ds, ρ, m => match f d ρ m with
    | .nx ρ m => forLoop f ds ρ m
    | .ct ρ m => forLoop f ds ρ m
    | .br ρ m => .nx ρ m
    | o => o
def whlLoop (c : Env → Mem → Out D) (f : Env → Mem → SO) : Nat → Env → Mem → SO
  | 0, _, _ => .stk
  | n + 1, ρ, m => SO.of ρ (c ρ m) fun x m => match truth m x with
    | some true => match f ρ m with
      | .nx ρ m => whlLoop c f n ρ m
      | .ct ρ m => whlLoop c f n ρ m
      | .br ρ m => .nx ρ m
      | o => o
    | some false => .nx ρ m
    | none => .stk
def augS : BOp → Int → D → Option D
  | .add, x, .int y => some (.int (x + y))
  | .sub, x, .int y => some (.int (x - y))
  | _, _, _ => none
def ex (Γ : Gam) : S → Env → Mem → SO
  | .skip, ρ, m => .nx ρ m
  | .seq a b, ρ, m => match ex Γ a ρ m with
    | .nx ρ m => ex Γ b ρ m
    | o => o
  | .asg t e, ρ, m => SO.of ρ (ev Γ e ρ m) fun x m => match asgT t x ρ with
    | some ρ => .nx ρ m
    | none => .stk
  | .exp e, ρ, m => SO.of ρ (ev Γ e ρ m) fun _ m => .nx ρ m
  | .ret e, ρ, m => SO.of ρ (ev Γ e ρ m) fun x m => .rt x m
  | .retN, _, m => .rt .non m
  | .ife c a b, ρ, m => SO.of ρ (ev Γ c ρ m) fun x m => match truth m x with
    | some true => ex Γ a ρ m
    | some false => ex Γ b ρ m
    | none => .stk
  | .for_ t it b, ρ, m => SO.of ρ (ev Γ it ρ m) fun x m => match x with
    | .lst ds => forLoop (fun d ρ m => match asgT t d ρ with
        | some ρ => ex Γ b ρ m
        | none => .stk) ds ρ m
    | _ => .stk
  | .whl c b, ρ, m => whlLoop (ev Γ c) (ex Γ b) Γ.fuel ρ m
  | .brk, ρ, m => .br ρ m
  | .cnt, ρ, m => .ct ρ m
  | .nev, _, _ => .stk
  | .rse e, ρ, m => SO.of ρ (ev Γ e ρ m) fun x m => match x with
    | .exc C ns ds => .er (.exc C ns ds) ρ m
    | _ => .stk
  | .att o f e, ρ, m => SO.of ρ (ev Γ e ρ m) fun v m => SO.of ρ (ev Γ o ρ m) fun x m => match x with
    | .ref i => match setAt Γ m i f v with
      | some m => .nx ρ m
      | none => .stk
    | _ => .stk
  | .ats i fs e, ρ, m => SO.of ρ (ev Γ e ρ m) fun v m => match v, ρ[i]? with
    | .tup ds, some (some (.ref a)) => match setAll Γ a m fs ds with
      | some m => .nx ρ m
      | none => .stk
    | _, _ => .stk
  | .sub o i e, ρ, m => SO.of ρ (ev Γ e ρ m) fun v m => SO.of ρ (ev Γ o ρ m) fun x m => SO.of ρ (ev Γ i ρ m) fun k m => match x, k with
    | .ref a, .int k => match m[a]? with
      | some (.lst ds) => match pyIx ds.length k with
        | some j => .nx ρ (m.set a (.lst (ds.set j v)))
        | none => .stk
      | _ => .stk
    | _, _ => .stk
  | .app i e, ρ, m => match ρ[i]? with
    | some (some (.ref a)) => match m[a]? with
     | some (.lst _) => SO.of ρ (ev Γ e ρ m) fun v m => match m[a]? with
      | some (.lst ds) => if ds.length < 16777216 then .nx ρ (m.set a (.lst (ds ++ [v]))) else .stk
      | _ => .stk
     | _ => .stk
    | _ => .stk
  | .aug i o e, ρ, m => match ρ[i]? with
    | some (some (.int x)) => SO.of ρ (ev Γ e ρ m) fun v m => match augS o x v with
      | some d => .nx (ρ.set i (some d)) m
      | none => .stk
    | _ => .stk
/-- a def: how many parameters, slots; its body; how it leaves the memory: 0 as it is, 1 what is new is dropped, 2 a new list is handed back as a fixed one -/
structure FD where
  np : Nat
  nl : Nat
  body : S
  mode : Nat
/-- what a def has left, cut back: 0 as it is, 1 what is new is dropped, 2 a new list is handed back as a fixed one -/
def cutS (mode : Nat) (m : Mem) (d : D) (m2 : Mem) : Out D :=
  match mode with
  | 0 => .ok d m2
  | 8 => .ok d m2
  | 1 => if cutOk m m2 ∧ D.rb m.length d = true then .ok d (m2.take m.length) else .stk
  | _ => match d with
    | .ref i => match m2[i]? with
      | some (.lst ds) => if m.length ≤ i ∧ cutOk m m2 ∧ D.rbL m.length ds = true then .ok (.lst ds) (m2.take m.length) else .stk
      | some (.dct ks vs) => if m.length ≤ i ∧ cutOk m m2 ∧ D.rbL m.length ks = true ∧ D.rbL m.length vs = true then .ok (.dct ks vs) (m2.take m.length) else .stk
      | _ => .stk
    | _ => .stk
def runF (Γ : Gam) (fd : FD) (args : List D) (m : Mem) : Out D :=
  if args.length = fd.np then
    match ex Γ fd.body (args.map some ++ List.replicate (fd.nl - args.length) none) m with
    | .nx _ m' => cutS fd.mode m .non m'
    | .rt d m' => cutS fd.mode m d m'
    | .er x _ m' => .err x m'
    | _ => .stk
  else .stk
/-- the tail behind a try: slot 0 is the def's own parameter -/
def runC (Γ : Gam) (fd : FD) (args : List D) (m : Mem) : Out D :=
  if args.length + 1 ≤ fd.nl then
    match ex Γ fd.body (none :: args.map some ++ List.replicate (fd.nl - (args.length + 1)) none) m with
    | .nx _ m' => .ok .non m'
    | .rt d m' => .ok d m'
    | .er x _ m' => .err x m'
    | _ => .stk
  else .stk
def runR (Γ : Gam) (fd : FD) : List D → Mem → Out D := if fd.mode = 9 then runC Γ fd else runF Γ fd
end PL

set_option Elab.async false
set_option linter.all false
set_option maxRecDepth 100000
set_option maxHeartbeats 4000000
/-! PL.Rel: how the trees stand in the hand layer's heap. -/
namespace PL
open PySem L2
abbrev so (x : String) : Str := Str.ofString x
/-- what is fixed: the written part, where the own classes stand -/
structure Fx where
  K : PySem.W.Frag
  cx : String → Option Addr
  fa : String → Option Addr
  fd : String → Option (FuncData × List Str)
  ca : String → Option Addr
  xx : String → Option Addr
  tabs : List (Addr × Str)
/-- at a: an exception of the class at C, its dict at d -/
def ExcO (a C d : Addr) : HO := .ext fun h => ∃ (oe : Obj) (vs : Array Value), h.get? a = some oe ∧ oe.cls = .ref C ∧ oe.dict = some d ∧ oe.data = .fields vs
/-- a moving state: places, memory, the layer's heap -/
structure Wo where
  ι : List Addr
  m : Mem
  H : Hp
  pv : List Addr
def LvM (w : Wo) (a : Addr) : Prop := ∃ (i : Nat) (o : MO), w.ι[i]? = some a ∧ w.m[i]? = some o ∧ o ≠ .dead
def Lv (w : Wo) (a : Addr) : Prop := LvM w a ∨ a ∈ w.pv
def KL (K : PySem.W.Frag) (a : Addr) (xs : List V) : Prop :=
  ∃ (o : Obj) (its : Array Value) (n : Nat), K.lookup a = some o ∧ o.cls = .type "list" ∧ o.dict = none ∧ o.data = .seq its n ∧ its.size ≤ sizeLine ∧ Vals xs its.toList
def KT (K : PySem.W.Frag) (a : Addr) (xs : List V) : Prop :=
  ∃ (o : Obj) (its : Array Value) (n : Nat), K.lookup a = some o ∧ o.cls = .type "tuple" ∧ o.data = .seq its n ∧ its.size ≤ sizeLine ∧ Vals xs its.toList
/-- a list, a tuple that stays as it is -/
def FzL (K : PySem.W.Frag) (w : Wo) (a : Addr) (xs : List V) : Prop := (Rd w.H a (.lst xs) ∧ ¬ Lv w a) ∨ KL K a xs
def FzT (K : PySem.W.Frag) (w : Wo) (a : Addr) (xs : List V) : Prop := (Rd w.H a (.tup xs) ∧ ¬ Lv w a) ∨ KT K a xs
theorem FzL.sq {K : PySem.W.Frag} {w : Wo} {a : Addr} {xs : List V} (h : FzL K w a xs) : SqL K w.H a xs := h.elim (fun h => .inl h.1) .inr
theorem FzT.sq {K : PySem.W.Frag} {w : Wo} {a : Addr} {xs : List V} (h : FzT K w a xs) : SqT K w.H a xs := h.elim (fun h => .inl h.1) .inr
mutual
def Rp (F : Fx) (w : Wo) : D → V → Prop
  | .non, v => v = .non
  | .bl b, v => v = .bl b
  | .int i, v => v = .int i
  | .str x, v => v = .str (so x)
  | .ty n, v => v = .ty n
  | .tup ds, v => ∃ a xs, v = .ref a ∧ FzT F.K w a xs ∧ RpL F w ds xs
  | .lst ds, v => ∃ a xs, v = .ref a ∧ FzL F.K w a xs ∧ RpL F w ds xs
  | .dct ks vs, v => ∃ a kvs, v = .ref a ∧ Rd w.H a (.dK kvs) ∧ ¬ Lv w a ∧ RpL F w ks (kvs.map fun p => kV p.1) ∧ RpL F w vs (kvs.map (·.2))
  | .obj C ns ds, v => ∃ a A dx fs xs, v = .ref a ∧ F.cx C = some A ∧ w.H a = some (.ins A dx fs) ∧ ¬ Lv w a ∧ fs = (ns.map so).zip xs ∧ ns.length = xs.length ∧ RpL F w ds xs
  | .exc C ns ds, v => ∃ a A dd fs xs, v = .ref a ∧ F.xx C = some A ∧ w.H a = some (ExcO a A dd) ∧ ¬ Lv w a ∧ w.H dd = some (.xd fs) ∧ ¬ Lv w dd ∧ (∀ f, fs.lookup f = ((ns.map so).zip xs).lookup f) ∧ ns.length = xs.length ∧ RpL F w ds xs
  | .ref i, v => ∃ a, v = .ref a ∧ w.ι[i]? = some a
  | .cls C, v => ∃ A, v = .ref A ∧ F.ca C = some A
def RpL (F : Fx) (w : Wo) : List D → List V → Prop
  | [], vs => vs = []
  | d :: ds, vs => ∃ x xs, vs = x :: xs ∧ Rp F w d x ∧ RpL F w ds xs
end
/-- what stands at a live place -/
def RO (F : Fx) (w : Wo) (a : Addr) : MO → Prop
  | .lst ds => ∃ xs, w.H a = some (.lst xs) ∧ RpL F w ds xs
  | .dct ks vs => ∃ kvs, w.H a = some (.dK kvs) ∧ RpL F w ks (kvs.map fun p => kV p.1) ∧ RpL F w vs (kvs.map (·.2))
  | .ins C ns ds => ∃ A dx fs xs, F.cx C = some A ∧ w.H a = some (.ins A dx fs) ∧ fs = (ns.map so).zip xs ∧ ns.length = xs.length ∧ RpL F w ds xs
  | .dead => True
structure Rel (F : Fx) (w : Wo) : Prop where
  len : w.ι.length = w.m.length
  ob : ∀ (i : Nat) (a : Addr) (o : MO), w.ι[i]? = some a → w.m[i]? = some o → RO F w a o
  inj : ∀ (i j : Nat) (a : Addr) (o u : MO), w.ι[i]? = some a → w.m[i]? = some o → o ≠ .dead → w.ι[j]? = some a → w.m[j]? = some u → u ≠ .dead → i = j
  pvt : ∀ a ∈ w.pv, (∃ xs, w.H a = some (.lst xs)) ∧ ¬ LvM w a
  tabs : LamX.Tabs F.tabs w.H
/-- no table, no thing by its own words -/
def Plain (u : HO) : Prop := (∀ ps, u ≠ .tbl ps) ∧ ∀ φ, u ≠ .ext φ
theorem tabs_upd {T : List (Addr × Str)} {H : Hp} {x : Addr} {o : HO} (t : LamX.Tabs T H) (hx : ∀ u, H x = some u → Plain u) : LamX.Tabs T (upd H x o) := fun p hp => by
  obtain ⟨ps, h1, h2, h3⟩ := t p hp
  have hp1 : p.1 ≠ x := fun z => (hx _ (z ▸ h1)).1 ps rfl
  refine ⟨ps, by rw [upd_ne hp1]; exact h1, h2, fun pos cv hc => ?_⟩
  obtain ⟨c, e1, e2⟩ := h3 pos cv hc
  have hc1 : c ≠ x := fun z => (hx _ (z ▸ e2)).2 _ rfl
  exact ⟨c, e1, by rw [upd_ne hc1]; exact e2⟩
theorem tabs_new {T : List (Addr × Str)} {H : Hp} {x : Addr} {o : HO} (t : LamX.Tabs T H) (hx : H x = none) : LamX.Tabs T (upd H x o) := tabs_upd t fun u e => by rw [hx] at e; cases e
/-- a dict -/
def Dk (u : HO) : Prop := (∃ kvs, u = .dK kvs) ∨ ∃ kvs, u = .dT kvs
/-- u, perhaps locked -/
def IsU (u o : HO) : Prop := o = u ∨ ∃ od, o = .frz od u
/-- it stays; a dict may be locked, unlocked -/
def Kp (o : HO) (z : Option HO) : Prop := z = some o ∨ ∃ u o', z = some o' ∧ Dk u ∧ IsU u o ∧ IsU u o'
/-- no dict, no locked one -/
def NoDk (o : HO) : Prop := ∀ u, Dk u → ¬ IsU u o
theorem Kp.no {o : HO} {z : Option HO} (h : Kp o z) (n : NoDk o) : z = some o := by
  rcases h with h | ⟨u, o', _, h2, h3, _⟩
  · exact h
  · exact absurd h3 (n u h2)
theorem Dk.one {u u' : HO} (h : Dk u) (h' : Dk u') {o : HO} (a : IsU u o) (b : IsU u' o) : u = u' := by
  rcases a with rfl | ⟨x, rfl⟩
  · rcases b with b | ⟨y, b⟩
    · exact b
    · subst b; rcases h with ⟨_, z⟩ | ⟨_, z⟩ <;> cases z
  · rcases b with b | ⟨y, b⟩
    · subst b; rcases h' with ⟨_, z⟩ | ⟨_, z⟩ <;> cases z
    · cases b; rfl
theorem Kp.trans {o : HO} {z y : Option HO} (a : Kp o z) (b : ∀ o', z = some o' → Kp o' y) : Kp o y := by
  rcases a with a | ⟨u, o', a1, a2, a3, a4⟩
  · exact b o a
  · rcases b o' a1 with b | ⟨u', o2, b1, b2, b3, b4⟩
    · exact .inr ⟨u, o', b, a2, a3, a4⟩
    · have := a2.one b2 a4 b3
      subst this
      exact .inr ⟨u, o2, b1, a2, a3, b4⟩
theorem Kp.some {o : HO} {z : Option HO} (h : Kp o z) : ∃ o', z = some o' := by
  rcases h with h | ⟨u, o', h, _⟩
  · exact ⟨_, h⟩
  · exact ⟨_, h⟩
theorem noDk_frz {od : Obj} {u : HO} (h : ¬ Dk u) (h' : NoDk u) : NoDk (.frz od u) := fun v hv i => by
  rcases i with i | ⟨x, i⟩
  · subst i; rcases hv with ⟨_, z⟩ | ⟨_, z⟩ <;> cases z
  · cases i; exact h hv
theorem noDk_of {o : HO} (h1 : ∀ kvs, o ≠ .dK kvs) (h2 : ∀ kvs, o ≠ .dT kvs) (h3 : ∀ od u, o ≠ .frz od u) : NoDk o := fun u hu i => by
  rcases i with i | ⟨x, i⟩
  · subst i; rcases hu with ⟨_, rfl⟩ | ⟨_, rfl⟩
    · exact h1 _ rfl
    · exact h2 _ rfl
  · exact h3 _ _ i
/-- places stay, what is fixed stays -/
structure E0 (w w' : Wo) : Prop where
  pre : ∃ l, w'.ι = w.ι ++ l
  keep : ∀ a o, w.H a = some o → ¬ Lv w a → (∀ ps, o ≠ .tbl ps) → Kp o (w'.H a) ∧ ¬ Lv w' a
/-- the world goes on: what is somebody's own stays, too -/
structure Ex (w w' : Wo) : Prop extends E0 w w' where
  pvs : w'.pv = w.pv
  pk : ∀ a ∈ w.pv, w'.H a = w.H a
theorem Ex.refl (w : Wo) : Ex w w := ⟨⟨⟨[], by simp⟩, fun _ _ h n _ => ⟨.inl h, n⟩⟩, rfl, fun _ _ => rfl⟩
theorem E0.refl (w : Wo) : E0 w w := ⟨⟨[], by simp⟩, fun _ _ h n _ => ⟨.inl h, n⟩⟩
/-- what is no dict stays as it is -/
theorem E0.kp {w w' : Wo} (e : E0 w w') {a : Addr} {o : HO} (h : w.H a = some o) (n : ¬ Lv w a) (t : NoDk o) (t2 : ∀ ps, o ≠ .tbl ps) : w'.H a = some o ∧ ¬ Lv w' a := ⟨(e.keep a o h n t2).1.no t, (e.keep a o h n t2).2⟩
theorem E0.trans {w w1 w2 : Wo} (a : E0 w w1) (b : E0 w1 w2) : E0 w w2 := by
  obtain ⟨l1, e1⟩ := a.pre
  obtain ⟨l2, e2⟩ := b.pre
  exact ⟨⟨l1 ++ l2, by rw [e2, e1, List.append_assoc]⟩, fun c o h n t => by
    obtain ⟨k1, k2⟩ := a.keep c o h n t
    obtain ⟨o', ho'⟩ := k1.some
    have t' : ∀ ps, o' ≠ .tbl ps := fun ps z => by
      subst z
      rcases k1 with k1 | ⟨u, x, x1, x2, x3, x4⟩
      · rw [ho'] at k1; exact t ps (Option.some.inj k1).symm
      · rw [ho'] at x1
        cases x1
        rcases x4 with x4 | ⟨_, x4⟩
        · subst x4; rcases x2 with ⟨_, z⟩ | ⟨_, z⟩ <;> cases z
        · cases x4
    obtain ⟨k3, k4⟩ := b.keep c o' ho' k2 t'
    exact ⟨k1.trans fun o2 z => by rw [ho'] at z; cases z; exact k3, k4⟩⟩
theorem RpL.length {F : Fx} {w : Wo} : ∀ {ds : List D} {xs : List V}, RpL F w ds xs → ds.length = xs.length
  | [], xs, h => by simp only [RpL] at h; subst h; rfl
  | d :: ds, xs, h => by
    simp only [RpL] at h
    obtain ⟨y, ys, rfl, _, h2⟩ := h
    simp [RpL.length h2]
theorem RpL.cons {F : Fx} {w : Wo} {d : D} {ds : List D} {x : V} {xs : List V} (h : Rp F w d x) (h2 : RpL F w ds xs) : RpL F w (d :: ds) (x :: xs) := by
  simp only [RpL]; exact ⟨x, xs, rfl, h, h2⟩
theorem RpL.nil {F : Fx} {w : Wo} : RpL F w [] [] := by simp only [RpL]
theorem RpL.get {F : Fx} {w : Wo} : ∀ {ds : List D} {xs : List V} {i : Nat} {d : D}, RpL F w ds xs → ds[i]? = some d → ∃ x, xs[i]? = some x ∧ Rp F w d x
  | [], _, _, _, _, e => by simp at e
  | d :: ds, xs, 0, d', h, e => by
    simp only [RpL] at h
    obtain ⟨y, ys, rfl, h1, _⟩ := h
    simp at e; subst e
    exact ⟨y, rfl, h1⟩
  | d :: ds, xs, i + 1, d', h, e => by
    simp only [RpL] at h
    obtain ⟨y, ys, rfl, _, h2⟩ := h
    obtain ⟨x, e1, e2⟩ := RpL.get (i := i) h2 (by simpa using e)
    exact ⟨x, by simpa using e1, e2⟩
theorem RpL.app {F : Fx} {w : Wo} : ∀ {ds : List D} {xs : List V} {es : List D} {ys : List V}, RpL F w ds xs → RpL F w es ys → RpL F w (ds ++ es) (xs ++ ys)
  | [], xs, es, ys, h, h' => by simp only [RpL] at h; subst h; exact h'
  | d :: ds, xs, es, ys, h, h' => by
    simp only [RpL] at h
    obtain ⟨y, zs, rfl, h1, h2⟩ := h
    exact RpL.cons h1 (RpL.app h2 h')
theorem RpL.set {F : Fx} {w : Wo} {v : D} {y : V} (hv : Rp F w v y) : ∀ {ds : List D} {xs : List V} (i : Nat), RpL F w ds xs → RpL F w (ds.set i v) (xs.set i y)
  | [], xs, i, h => by simp only [RpL] at h; subst h; exact RpL.nil
  | d :: ds, xs, 0, h => by
    simp only [RpL] at h
    obtain ⟨y, zs, rfl, h1, h2⟩ := h
    exact RpL.cons hv h2
  | d :: ds, xs, i + 1, h => by
    simp only [RpL] at h
    obtain ⟨y, zs, rfl, h1, h2⟩ := h
    exact RpL.cons h1 (RpL.set hv i h2)
theorem Rd_ext {w w' : Wo} {a : Addr} {o : HO} (h : Rd w.H a o) (n : ¬ Lv w a) (e : E0 w w') (t : ∀ ps, o ≠ .tbl ps) (f : ∀ od u, o ≠ .frz od u) : Rd w'.H a o ∧ ¬ Lv w' a := by
  have key : ∀ {o1 : HO}, IsU o o1 → w.H a = some o1 → (∀ ps, o1 ≠ .tbl ps) → Rd w'.H a o ∧ ¬ Lv w' a := fun {o1} i h1 t1 => by
    obtain ⟨k1, k2⟩ := e.keep a o1 h1 n t1
    refine ⟨?_, k2⟩
    rcases k1 with k1 | ⟨u, o', x1, x2, x3, x4⟩
    · rcases i with rfl | ⟨od, rfl⟩
      · exact .inl k1
      · exact .inr ⟨od, k1⟩
    · have hu : u = o := by
        rcases i with rfl | ⟨od, rfl⟩
        · rcases x3 with rfl | ⟨y, rfl⟩
          · rfl
          · exact absurd rfl (f y u)
        · rcases x3 with x3 | ⟨y, x3⟩
          · subst x3; rcases x2 with ⟨_, z⟩ | ⟨_, z⟩ <;> cases z
          · cases x3; rfl
      subst hu
      rcases x4 with rfl | ⟨y, rfl⟩
      · exact .inl x1
      · exact .inr ⟨y, x1⟩
  rcases h with h | ⟨u, h⟩
  · exact key (.inl rfl) h t
  · exact key (.inr ⟨u, rfl⟩) h (fun _ z => nomatch z)
theorem FzL.ext {K : PySem.W.Frag} {w w' : Wo} {a : Addr} {xs : List V} (h : FzL K w a xs) (e : E0 w w') : FzL K w' a xs := by
  rcases h with ⟨h, n⟩ | h
  · exact .inl (Rd_ext h n e (fun _ z => nomatch z) fun _ _ z => nomatch z)
  · exact .inr h
theorem FzT.ext {K : PySem.W.Frag} {w w' : Wo} {a : Addr} {xs : List V} (h : FzT K w a xs) (e : E0 w w') : FzT K w' a xs := by
  rcases h with ⟨h, n⟩ | h
  · exact .inl (Rd_ext h n e (fun _ z => nomatch z) fun _ _ z => nomatch z)
  · exact .inr h
theorem E0.ix {w w' : Wo} (e : E0 w w') {i : Nat} {a : Addr} (h : w.ι[i]? = some a) : w'.ι[i]? = some a := by
  obtain ⟨l, hl⟩ := e.pre
  rw [hl, List.getElem?_append_left (List.getElem?_eq_some_iff.mp h).1]
  exact h
mutual
theorem Rp.ext {F : Fx} {w w' : Wo} (e : E0 w w') : ∀ (d : D) (v : V), Rp F w d v → Rp F w' d v
  | .non, v, h => by simp only [Rp] at h ⊢; exact h
  | .bl _, v, h => by simp only [Rp] at h ⊢; exact h
  | .int _, v, h => by simp only [Rp] at h ⊢; exact h
  | .str _, v, h => by simp only [Rp] at h ⊢; exact h
  | .ty _, v, h => by simp only [Rp] at h ⊢; exact h
  | .tup ds, v, h => by
    simp only [Rp] at h ⊢
    obtain ⟨a, xs, h1, h2, h3⟩ := h
    exact ⟨a, xs, h1, h2.ext e, RpL.ext e ds xs h3⟩
  | .lst ds, v, h => by
    simp only [Rp] at h ⊢
    obtain ⟨a, xs, h1, h2, h3⟩ := h
    exact ⟨a, xs, h1, h2.ext e, RpL.ext e ds xs h3⟩
  | .dct ks vs, v, h => by
    simp only [Rp] at h ⊢
    obtain ⟨a, kvs, h1, h2, h3, h4, h5⟩ := h
    have k := Rd_ext h2 h3 e (fun _ z => nomatch z) fun _ _ z => nomatch z
    exact ⟨a, kvs, h1, k.1, k.2, RpL.ext e ks _ h4, RpL.ext e vs _ h5⟩
  | .obj C ns ds, v, h => by
    simp only [Rp] at h ⊢
    obtain ⟨a, A, dx, fs, xs, h1, h2, h3, h4, h5, h6, h7⟩ := h
    have k := e.kp h3 h4 (noDk_of (fun _ z => nomatch z) (fun _ z => nomatch z) fun _ _ z => nomatch z) (fun _ z => nomatch z)
    exact ⟨a, A, dx, fs, xs, h1, h2, k.1, k.2, h5, h6, RpL.ext e ds _ h7⟩
  | .exc C ns ds, v, h => by
    simp only [Rp] at h ⊢
    obtain ⟨a, A, dd, fs, xs, h1, h2, h3, h4, h5, h6, h7, h8, h9⟩ := h
    have k1 := e.kp h3 h4 (noDk_of (fun _ z => by unfold ExcO at z; cases z) (fun _ z => by unfold ExcO at z; cases z) fun _ _ z => by unfold ExcO at z; cases z) (fun _ z => by unfold ExcO at z; cases z)
    have k2 := e.kp h5 h6 (noDk_of (fun _ z => nomatch z) (fun _ z => nomatch z) fun _ _ z => nomatch z) (fun _ z => nomatch z)
    exact ⟨a, A, dd, fs, xs, h1, h2, k1.1, k1.2, k2.1, k2.2, h7, h8, RpL.ext e ds _ h9⟩
  | .ref i, v, h => by
    simp only [Rp] at h ⊢
    obtain ⟨a, h1, h2⟩ := h
    exact ⟨a, h1, e.ix h2⟩
  | .cls _, v, h => by simp only [Rp] at h ⊢; exact h
theorem RpL.ext {F : Fx} {w w' : Wo} (e : E0 w w') : ∀ (ds : List D) (vs : List V), RpL F w ds vs → RpL F w' ds vs
  | [], vs, h => by simp only [RpL] at h ⊢; exact h
  | d :: ds, vs, h => by
    simp only [RpL] at h ⊢
    obtain ⟨x, xs, h1, h2, h3⟩ := h
    exact ⟨x, xs, h1, Rp.ext e d x h2, RpL.ext e ds xs h3⟩
end
theorem Ex.trans {w w1 w2 : Wo} (a : Ex w w1) (b : Ex w1 w2) : Ex w w2 :=
  ⟨a.toE0.trans b.toE0, b.pvs.trans a.pvs, fun c hc => (b.pk c (a.pvs ▸ hc)).trans (a.pk c hc)⟩
/-- a live place is tracked -/
theorem Rel.live {F : Fx} {w : Wo} (r : Rel F w) {a : Addr} (h : Lv w a) : (∃ xs, w.H a = some (.lst xs)) ∨ (∃ kvs, w.H a = some (.dK kvs)) ∨ ∃ A dx fs, w.H a = some (.ins A dx fs) := by
  rcases h with ⟨i, o, h1, h2, h3⟩ | hp
  case inr => exact .inl (r.pvt a hp).1
  have q := r.ob i a o h1 h2
  cases o with
  | lst ds => obtain ⟨xs, e, _⟩ := q; exact .inl ⟨xs, e⟩
  | dct ks vs => obtain ⟨kvs, e, _⟩ := q; exact .inr (.inl ⟨kvs, e⟩)
  | ins C ns ds => obtain ⟨A, dx, fs, xs, _, e, _⟩ := q; exact .inr (.inr ⟨A, dx, fs, e⟩)
  | dead => exact absurd rfl h3
theorem Rel.nlive {F : Fx} {w : Wo} (r : Rel F w) {a : Addr} (h : w.H a = none) : ¬ Lv w a := fun l => by
  rcases r.live l with ⟨_, e⟩ | ⟨_, e⟩ | ⟨_, _, _, e⟩ <;> (rw [h] at e; cases e)
theorem RO.ext {F : Fx} {w w' : Wo} (e : E0 w w') {a : Addr} (hH : w'.H a = w.H a) : ∀ {o : MO}, RO F w a o → RO F w' a o
  | .lst ds, h => by obtain ⟨xs, h1, h2⟩ := h; exact ⟨xs, hH.trans h1, RpL.ext e _ _ h2⟩
  | .dct ks vs, h => by obtain ⟨xs, h1, h2, h3⟩ := h; exact ⟨xs, hH.trans h1, RpL.ext e _ _ h2, RpL.ext e _ _ h3⟩
  | .ins C ns ds, h => by obtain ⟨A, dx, fs, xs, h1, h2, h3, h4, h5⟩ := h; exact ⟨A, dx, fs, xs, h1, hH.trans h2, h3, h4, RpL.ext e _ _ h5⟩
  | .dead, _ => trivial
/-- a new tracked object that is none of ours -/
theorem Ex.new {F : Fx} {w : Wo} (r : Rel F w) {p : Addr} {o : HO} (hp : w.H p = none) : Ex w { w with H := upd w.H p o } :=
  ⟨⟨⟨[], by simp⟩, fun a u h n _ => ⟨.inl (by show upd w.H p o a = _; rw [upd_ne (ne_of_none h hp)]; exact h), n⟩⟩, rfl, fun a ha => by
    show upd w.H p o a = _
    obtain ⟨⟨xs, e⟩, _⟩ := r.pvt a ha
    rw [upd_ne (ne_of_none e hp)]⟩
theorem Rel.new {F : Fx} {w : Wo} (r : Rel F w) {p : Addr} {o : HO} (hp : w.H p = none) : Rel F { w with H := upd w.H p o } := by
  refine ⟨r.len, fun i a u h1 h2 => ?_, r.inj, fun a ha => ⟨?_, (r.pvt a ha).2⟩, tabs_new r.tabs hp⟩
  rotate_left
  · obtain ⟨⟨xs, e⟩, _⟩ := r.pvt a ha
    exact ⟨xs, by show upd w.H p o a = _; rw [upd_ne (ne_of_none e hp)]; exact e⟩
  by_cases hd : u = .dead
  · subst hd; trivial
  · refine (r.ob i a u h1 h2).ext (Ex.new r hp).toE0 ?_
    show upd w.H p o a = _
    refine upd_ne fun z => ?_
    subst z
    exact r.nlive hp (.inl ⟨i, u, h1, h2, hd⟩)
theorem Rel.nlive_new {F : Fx} {w : Wo} (r : Rel F w) {p : Addr} {o : HO} (hp : w.H p = none) : ¬ Lv { w with H := upd w.H p o } p := fun h => r.nlive hp h
theorem Rp.newTup {F : Fx} {w : Wo} (r : Rel F w) {p : Addr} (hp : w.H p = none) {ds : List D} {xs : List V} (h : RpL F w ds xs) : Rp F { w with H := upd w.H p (.tup xs) } (.tup ds) (.ref p) := by
  simp only [Rp]
  exact ⟨p, xs, rfl, .inl ⟨.inl upd_same, r.nlive_new hp⟩, RpL.ext (Ex.new r hp).toE0 _ _ h⟩
theorem Rp.newLst {F : Fx} {w : Wo} (r : Rel F w) {p : Addr} (hp : w.H p = none) {ds : List D} {xs : List V} (h : RpL F w ds xs) : Rp F { w with H := upd w.H p (.lst xs) } (.lst ds) (.ref p) := by
  simp only [Rp]
  exact ⟨p, xs, rfl, .inl ⟨.inl upd_same, r.nlive_new hp⟩, RpL.ext (Ex.new r hp).toE0 _ _ h⟩
/-- the slots -/
structure SR (F : Fx) (w : Wo) (ρ : Env) (σ : L2.St) : Prop where
  len : ρ.length = σ.length
  at_ : ∀ (i : Nat) (d : D), ρ[i]? = some (some d) → ∃ v, σ[i]? = some (some v) ∧ Rp F w d v
theorem SR.ext {F : Fx} {w w' : Wo} {ρ : Env} {σ : L2.St} (s : SR F w ρ σ) (e : E0 w w') : SR F w' ρ σ :=
  ⟨s.len, fun i d h => let ⟨v, a, b⟩ := s.at_ i d h; ⟨v, a, Rp.ext e _ _ b⟩⟩
theorem SR.set {F : Fx} {w : Wo} {ρ : Env} {σ : L2.St} (s : SR F w ρ σ) (i : Nat) {d : D} {v : V} (h : Rp F w d v) : SR F w (ρ.set i (some d)) (σ.set i (some v)) := by
  refine ⟨by simp [s.len], fun j d' h' => ?_⟩
  by_cases hj : i = j
  · subst hj
    have hl : i < ρ.length := by
      have := (List.getElem?_eq_some_iff.mp h').1
      simpa using this
    rw [List.getElem?_set_self hl] at h'
    cases h'
    exact ⟨v, by rw [List.getElem?_set_self (by rw [← s.len]; exact hl)], h⟩
  · rw [List.getElem?_set_ne hj] at h'
    obtain ⟨u, a, b⟩ := s.at_ j d' h'
    exact ⟨u, by rw [List.getElem?_set_ne hj]; exact a, b⟩
theorem SR.wipe {F : Fx} {w : Wo} {ρ : Env} {σ : L2.St} (s : SR F w ρ σ) : ∀ ws : List Nat, SR F w (wipeE ρ ws) (wipe σ ws)
  | [] => s
  | v :: vs => by
    have ih := s.wipe vs
    refine ⟨by simp [wipeE, L2.wipe, ih.len], fun j d' h' => ?_⟩
    simp only [wipeE] at h'
    by_cases hj : v = j
    · subst hj
      by_cases hl : v < (wipeE ρ vs).length
      · rw [List.getElem?_set_self hl] at h'; cases h'
      · rw [List.getElem?_eq_none (by simpa using hl)] at h'; cases h'
    · rw [List.getElem?_set_ne hj] at h'
      obtain ⟨u, a, b⟩ := ih.at_ j d' h'
      exact ⟨u, by simp only [L2.wipe]; rw [List.getElem?_set_ne hj]; exact a, b⟩
theorem Rp.ex {F : Fx} {w w' : Wo} (e : Ex w w') (d : D) (v : V) (h : Rp F w d v) : Rp F w' d v := Rp.ext e.toE0 d v h
theorem RpL.ex {F : Fx} {w w' : Wo} (e : Ex w w') (d : List D) (v : List V) (h : RpL F w d v) : RpL F w' d v := RpL.ext e.toE0 d v h
theorem SR.ex {F : Fx} {w w' : Wo} {ρ : Env} {σ : L2.St} (s : SR F w ρ σ) (e : Ex w w') : SR F w' ρ σ := s.ext e.toE0
theorem FzL.ex {K : PySem.W.Frag} {w w' : Wo} {a : Addr} {xs : List V} (h : FzL K w a xs) (e : Ex w w') : FzL K w' a xs := h.ext e.toE0
theorem FzT.ex {K : PySem.W.Frag} {w w' : Wo} {a : Addr} {xs : List V} (h : FzT K w a xs) (e : Ex w w') : FzT K w' a xs := h.ext e.toE0
theorem Ex.ix {w w' : Wo} (e : Ex w w') {i : Nat} {a : Addr} (h : w.ι[i]? = some a) : w'.ι[i]? = some a := e.toE0.ix h
end PL

set_option Elab.async false
set_option linter.all false
set_option maxRecDepth 100000
set_option maxHeartbeats 4000000
/-! PL.Post: what is wanted behind a piece of the small Python, as the hand layer's readings. -/
namespace PL
open PySem L2
/-- an exception of a tree in the layer's words -/
def XR (F : Fx) (w : Wo) : D → Value → Option Addr → Prop
  | .exc C ns ds, c, dd => ∃ A d fs xs, F.xx C = some A ∧ c = .ref A ∧ dd = some d ∧ w.H d = some (.xd fs) ∧ ¬ Lv w d ∧ (∀ f, fs.lookup f = ((ns.map so).zip xs).lookup f) ∧ ns.length = xs.length ∧ RpL F w ds xs
  | _, _, _ => False
abbrev WXX := Value → Option Addr → L2.St → Hp → Prop
variable {F : Fx} {W : WXX}
/-- the wish behind an outcome: R tells what the layer's result is to the tree's -/
def Post {β α : Type} (F : Fx) (R : Wo → β → α → Prop) (W : WXX) (σ : L2.St) (w : Wo) (o : Out β) (Q : α → Hp → Prop) : Prop :=
  match o with
  | .ok d m' => ∀ w' v, w'.m = m' → Ex w w' → Rel F w' → R w' d v → Q v w'.H
  | .err x m' => ∀ w' c dd, w'.m = m' → Ex w w' → Rel F w' → XR F w' x c dd → W c dd σ w'.H
  | .stk => False
theorem Post.ext {β α : Type} {R : Wo → β → α → Prop} {σ : L2.St} {w w1 : Wo} {o : Out β} {Q : α → Hp → Prop} (h : Post F R W σ w o Q) (e : Ex w w1) : Post F R W σ w1 o Q := by
  cases o with
  | ok d m' => exact fun w' v h1 h2 h3 h4 => h w' v h1 (e.trans h2) h3 h4
  | err x m' => exact fun w' c dd h1 h2 h3 h4 => h w' c dd h1 (e.trans h2) h3 h4
  | stk => exact h.elim
theorem Post.bind {β γ α δ : Type} {R : Wo → β → α → Prop} {R2 : Wo → γ → δ → Prop} {σ : L2.St} {w : Wo} {o : Out β} {k : β → Mem → Out γ} {Q : δ → Hp → Prop} {Q1 : α → Hp → Prop}
    (h : Post F R2 W σ w (o.bind k) Q) (hk : ∀ d w1 v, Ex w w1 → Rel F w1 → R w1 d v → Post F R2 W σ w1 (k d w1.m) Q → Q1 v w1.H) : Post F R W σ w o Q1 := by
  cases o with
  | ok d m' =>
    intro w' v h1 h2 h3 h4
    subst h1
    exact hk d w' v h2 h3 h4 (Post.ext (R := R2) h h2)
  | err x m' => exact h
  | stk => exact h
theorem Post.imp {β α : Type} {R : Wo → β → α → Prop} {σ : L2.St} {w : Wo} {o : Out β} {Q Q1 : α → Hp → Prop}
    (h : Post F R W σ w o Q) (hk : ∀ d w1 v, o = .ok d w1.m → Ex w w1 → Rel F w1 → R w1 d v → Q v w1.H → Q1 v w1.H) : Post F R W σ w o Q1 := by
  cases o with
  | ok d m' =>
    intro w' v h1 h2 h3 h4
    subst h1
    exact hk d w' v rfl h2 h3 h4 (h w' v rfl h2 h3 h4)
  | err x m' => exact h
  | stk => exact h
theorem Post.ok {β α : Type} {R : Wo → β → α → Prop} {σ : L2.St} {w : Wo} {d : β} {Q : α → Hp → Prop} (h : Post F R W σ w (.ok d w.m) Q) (r : Rel F w) {v : α} (hv : R w d v) : Q v w.H := h w v rfl (Ex.refl w) r hv
/-- the same, the layer's heap having got a new object -/
theorem Post.okNew {β α : Type} {R : Wo → β → α → Prop} {σ : L2.St} {w : Wo} {d : β} {Q : α → Hp → Prop} (h : Post F R W σ w (.ok d w.m) Q) (r : Rel F w) {p : Addr} {u : HO} (hp : w.H p = none) {v : α} (hv : R { w with H := upd w.H p u } d v) : Q v (upd w.H p u) :=
  h { w with H := upd w.H p u } v rfl (Ex.new r hp) (r.new hp) hv
theorem Post.of {β α : Type} {R : Wo → β → α → Prop} {σ : L2.St} {w : Wo} {o : Option β} {Q : α → Hp → Prop} (h : Post F R W σ w (Out.of w.m o) Q) : ∃ d, o = some d ∧ Post F R W σ w (.ok d w.m) Q := by
  cases o with
  | some d => exact ⟨d, rfl, h⟩
  | none => exact h.elim
/-- results: values; argument lists; tests -/
abbrev RE (F : Fx) : Wo → D → V → Prop := Rp F
def RA (F : Fx) : Wo → D → List V → Prop := fun w d vs => ∃ ds, d = .tup ds ∧ RpL F w ds vs
def RT : Wo → Bool → Bool → Prop := fun _ a b => a = b
def Lft {β α : Type} (F : Fx) (W : WXX) (R : Wo → β → α → Prop) (f : Env → Mem → Out β) : L2.St → Hp → (α → Hp → Prop) → Prop :=
  fun σ H Q => ∃ ρ w, w.H = H ∧ Rel F w ∧ SR F w ρ σ ∧ Post F R W σ w (f ρ w.m) Q
abbrev LE (F : Fx) (W : WXX) (f : Env → Mem → Out D) : TE := Lft F W (RE F) f
abbrev LA (F : Fx) (W : WXX) (f : Env → Mem → Out D) : TA := Lft F W (RA F) f
abbrev LT (F : Fx) (W : WXX) (f : Env → Mem → Out Bool) : TT := Lft F W RT f
theorem lft_bind {β γ α δ : Type} {R : Wo → β → α → Prop} {R2 : Wo → γ → δ → Prop} {f : Env → Mem → Out β} {σ : L2.St} {ρ : Env} {w : Wo} {k : β → Mem → Out γ} {Q : δ → Hp → Prop} {Q1 : α → Hp → Prop} (r : Rel F w) (s : SR F w ρ σ)
    (h : Post F R2 W σ w ((f ρ w.m).bind k) Q) (hk : ∀ d w1 v, Ex w w1 → Rel F w1 → SR F w1 ρ σ → R w1 d v → Post F R2 W σ w1 (k d w1.m) Q → Q1 v w1.H) : Lft F W R f σ w.H Q1 :=
  ⟨ρ, w, rfl, r, s, h.bind fun d w1 v e r1 h1 p => hk d w1 v e r1 (s.ex e) h1 p⟩
theorem PEi {X : Cx} {e : Expr} {t t' : TE} (h : PE X e t) (hi : ∀ σ H Q, t' σ H Q → t σ H Q) : PE X e t' := ⟨fun pins s σ H Q I q => h.run pins s σ H Q I (hi σ H Q q)⟩
theorem PTi {X : Cx} {e : Expr} {t t' : TT} (h : PT X e t) (hi : ∀ σ H Q, t' σ H Q → t σ H Q) : PT X e t' := ⟨fun pins s σ H Q I q => h.run pins s σ H Q I (hi σ H Q q)⟩
theorem PWi {X : Cx} {e : Expr} {t t' : TT} (h : PW X e t) (hi : ∀ σ H Q, t' σ H Q → t σ H Q) : PW X e t' := ⟨fun wh pins s σ H Q I q => h.run wh pins s σ H Q I (hi σ H Q q)⟩
theorem PAi {X : Cx} {e : List Expr} {t t' : TA} (h : PA X e t) (hi : ∀ σ H Q, t' σ H Q → t σ H Q) : PA X e t' := ⟨fun pos pins s σ H Q I q => h.run pos pins s σ H Q I (hi σ H Q q)⟩
theorem PSi {X : Cx} {e : Stmt} {t t' : TS} (h : PS X e t) (hi : ∀ D σ H, t' D σ H → t D σ H) : PS X e t' := ⟨fun pins s σ H D I q => h.run pins s σ H D I (hi D σ H q)⟩
theorem PSsi {X : Cx} {e : List Stmt} {t t' : TS} (h : PSs X e t) (hi : ∀ D σ H, t' D σ H → t D σ H) : PSs X e t' := ⟨fun pins s σ H D I q => h.run pins s σ H D I (hi D σ H q)⟩
/-- the value read as a list, a tuple -/
theorem items_sq {w : Wo} (r : Rel F w) {d : D} {v : V} (h : Rp F w d v) {ds : List D} (hi : items w.m d = some ds) : ∃ a xs, v = .ref a ∧ (SqL F.K w.H a xs ∨ SqT F.K w.H a xs) ∧ RpL F w ds xs := by
  cases d with
  | tup l =>
    simp only [items, rd, Option.some.injEq] at hi
    subst hi
    simp only [Rp] at h
    obtain ⟨a, xs, h1, h2, h3⟩ := h
    exact ⟨a, xs, h1, .inr h2.sq, h3⟩
  | lst l =>
    simp only [items, rd, Option.some.injEq] at hi
    subst hi
    simp only [Rp] at h
    obtain ⟨a, xs, h1, h2, h3⟩ := h
    exact ⟨a, xs, h1, .inl h2.sq, h3⟩
  | ref i =>
    simp only [Rp] at h
    obtain ⟨a, h1, h2⟩ := h
    cases q : w.m[i]? with
    | none => simp [items, rd, q] at hi
    | some o =>
      cases o with
      | lst l =>
        simp only [items, rd, q, Option.some.injEq] at hi
        subst hi
        obtain ⟨xs, e1, e2⟩ := r.ob i a _ h2 q
        exact ⟨a, xs, h1, .inl (SqL.of e1), e2⟩
      | _ => simp [items, rd, q] at hi
  | _ => simp [items, rd] at hi
theorem len_so (x : String) : (so x).length = x.length := by
  show (Str.ofString x).cps.size = _
  rw [Str.ofString_eq_toList]
  simp [String.length]
theorem so_inj {x y : String} (h : so x = so y) : x = y := by
  have h : Str.ofString x = Str.ofString y := h
  rw [Str.ofString_eq_toList, Str.ofString_eq_toList] at h
  injection h with h
  have h2 : x.toList.map Char.toNat = y.toList.map Char.toNat := by simpa using congrArg Array.toList h
  have h3 : x.toList = y.toList := by
    have inj : ∀ (a b : List Char), a.map Char.toNat = b.map Char.toNat → a = b := by
      intro a
      induction a with
      | nil => intro b hb; cases b with
        | nil => rfl
        | cons _ _ => simp at hb
      | cons c cs ih => intro b hb; cases b with
        | nil => simp at hb
        | cons e es =>
          simp only [List.map_cons, List.cons.injEq] at hb
          rw [Char.toNat_inj.mp hb.1, ih es hb.2]
    exact inj _ _ h2
  exact String.toList_inj.mp h3
/-- truth -/
theorem truth_ok {w : Wo} (r : Rel F w) {d : D} {v : V} (h : Rp F w d v) {b : Bool} (ht : truth w.m d = some b) : TruV F.K v w.H b := by
  have em : ∀ {ds : List D} {xs : List V}, RpL F w ds xs → (!ds.isEmpty) = !xs.isEmpty := fun {ds xs} q => by
    cases ds with
    | nil => simp only [RpL] at q; subst q; rfl
    | cons d ds => simp only [RpL] at q; obtain ⟨x, ys, rfl, _⟩ := q; rfl
  cases d with
  | non => simp only [truth, rd, Option.some.injEq] at ht; subst ht; simp only [Rp] at h; subst h; rfl
  | bl c => simp only [truth, rd, Option.some.injEq] at ht; subst ht; simp only [Rp] at h; subst h; rfl
  | int c => simp only [truth, rd, Option.some.injEq] at ht; subst ht; simp only [Rp] at h; subst h; rfl
  | str c =>
    simp only [truth, rd] at ht
    split at ht
    · rename_i hl
      simp only [Option.some.injEq] at ht; subst ht; simp only [Rp] at h; subst h
      refine ⟨by rw [len_so, sizeLine_eq]; exact hl, ?_⟩
      rw [len_so]
      by_cases hz : c.length = 0
      · simp [hz]
      · have : (c.length : Int) ≠ 0 := by omega
        have h1 : (c.length == 0) = false := beq_eq_false_iff_ne.mpr hz
        have h2 : ((c.length : Int) == 0) = false := beq_eq_false_iff_ne.mpr this
        show (!(c.length == 0)) = !((c.length : Int) == 0)
        rw [h1, h2]
    · cases ht
  | tup l =>
    simp only [truth, rd, Option.some.injEq] at ht
    subst ht
    simp only [Rp] at h
    obtain ⟨a, xs, rfl, h2, h3⟩ := h
    exact .inr (.inl ⟨xs, h2.sq, em h3⟩)
  | lst l =>
    simp only [truth, rd, Option.some.injEq] at ht
    subst ht
    simp only [Rp] at h
    obtain ⟨a, xs, rfl, h2, h3⟩ := h
    exact .inl ⟨xs, h2.sq, em h3⟩
  | dct ks vs => simp [truth, rd] at ht
  | ref i =>
    simp only [Rp] at h
    obtain ⟨a, rfl, h2⟩ := h
    cases q : w.m[i]? with
    | none => simp [truth, rd, q] at ht
    | some o =>
      cases o with
      | lst l =>
        simp only [truth, rd, q, Option.some.injEq] at ht
        subst ht
        obtain ⟨xs, e1, e2⟩ := r.ob i a _ h2 q
        exact .inl ⟨xs, SqL.of e1, em e2⟩
      | dct ks vs =>
        simp only [truth, rd, q, Option.some.injEq] at ht
        subst ht
        obtain ⟨kvs, e1, e2, _⟩ := r.ob i a _ h2 q
        refine .inr (.inr ⟨kvs, e1, ?_⟩)
        rw [em e2]
        cases kvs <;> rfl
      | _ => simp [truth, rd, q] at ht
  | _ => simp [truth, rd] at ht
end PL

set_option Elab.async false
set_option linter.all false
set_option maxRecDepth 100000
set_option maxHeartbeats 4000000
/-! PL.Val: operators, comparisons and built-ins by values. -/
namespace PL
open PySem L2 PySem.Spec PyProof.Rows
variable {F : Fx} {W : WXX} {X : Cx}
theorem OpRor {f : Value → Value → Sem Value} {r1 r2 : R2} (h1 : OpR X f r1) (h2 : OpR X f r2) : OpR X f (fun x y H Q => r1 x y H Q ∨ r2 x y H Q) :=
  fun pins s σ H x y v u Q I rx ry h => h.elim (fun h => h1 pins s σ H x y v u Q I rx ry h) fun h => h2 pins s σ H x y v u Q I rx ry h
theorem rd_int {w : Wo} {d : D} {v : V} {i : Int} (h : Rp F w d v) (e : rd w.m d = .int i) : v = .int i := by
  cases d with
  | int j => simp only [rd, D.int.injEq] at e; subst e; simpa only [Rp] using h
  | ref i =>
    simp only [rd] at e
    split at e <;> cases e
  | _ => cases e
theorem rd_str {w : Wo} {d : D} {v : V} {i : String} (h : Rp F w d v) (e : rd w.m d = .str i) : v = .str (so i) := by
  cases d with
  | str j => simp only [rd, D.str.injEq] at e; subst e; simpa only [Rp] using h
  | ref i =>
    simp only [rd] at e
    split at e <;> cases e
  | _ => cases e
theorem rd_tup {w : Wo} {d : D} {v : V} {ds : List D} (h : Rp F w d v) (e : rd w.m d = .tup ds) : ∃ a xs, v = .ref a ∧ FzT F.K w a xs ∧ RpL F w ds xs := by
  cases d with
  | tup j => simp only [rd, D.tup.injEq] at e; subst e; simpa only [Rp] using h
  | ref i =>
    simp only [rd] at e
    split at e <;> cases e
  | _ => cases e
theorem rd_lst {w : Wo} (r : Rel F w) {d : D} {v : V} {ds : List D} (h : Rp F w d v) (e : rd w.m d = .lst ds) : ∃ a xs, v = .ref a ∧ SqL F.K w.H a xs ∧ RpL F w ds xs := by
  cases d with
  | lst j =>
    simp only [rd, D.lst.injEq] at e
    subst e
    simp only [Rp] at h
    obtain ⟨a, xs, h1, h2, h3⟩ := h
    exact ⟨a, xs, h1, h2.sq, h3⟩
  | ref i =>
    simp only [Rp] at h
    obtain ⟨a, h1, h2⟩ := h
    simp only [rd] at e
    split at e
    · rename_i l q
      cases e
      obtain ⟨xs, e1, e2⟩ := r.ob i a _ h2 q
      exact ⟨a, xs, h1, SqL.of e1, e2⟩
    · cases e
    · cases e
  | _ => cases e
theorem so_app (x y : String) : so (x ++ y) = so x ++ so y := by
  show Str.ofString _ = _
  show _ = Str.append _ _
  unfold Str.append
  show _ = Str.mk ((Str.ofString x).cps ++ (Str.ofString y).cps)
  rw [Str.ofString_eq_toList, Str.ofString_eq_toList, Str.ofString_eq_toList, String.toList_append]
  simp
/-- list + list, also the frozen one -/
def rCatR (K : PySem.W.Frag) : R2 := fun x y H Q => ∃ l b xs zs, x = .ref l ∧ y = .ref b ∧ Rd H l (.lst xs) ∧ Rd H b (.lst zs) ∧ xs.length + zs.length ≤ sizeLine ∧ ∀ p, H p = none → Q (.ref p) (upd H p (.lst (xs ++ zs)))
theorem op_catR : OpR X (binaryOp .Add) (rCatR X.K) := by
  intro pins s σ H x y v u Q I rx ry h
  obtain ⟨l, b, xs, zs, rfl, rfl, hH, hB, hz, q⟩ := h
  cases rx
  cases ry
  obtain ⟨z, its, n, r, e⟩ := hH.ok I.hok
  obtain ⟨z2, its2, n2, r2, e2⟩ := hB.ok I.hok
  have hl := r.length
  have hl2 := r2.length
  refine PySem.P.add_list e e2 ?_ (by rw [List.size_toArray, List.size_toArray]; omega)
  have ea : its.toArray ++ its2.toArray = (its ++ its2).toArray := by simp
  rw [ea]
  exact ⟨.ref _, _, I.lnew (t' := s.toks) (r.append r2) (by rw [List.length_append]; omega), rfl, q _ I.fresh⟩
/-- any division that C does by itself -/
def CDivX (i j : Int) : Prop := j ≠ 0 ∧ Builtin.divisionGoesByPylong i j = false
theorem op_fdivX : OpR X (binaryOp .FloorDiv) (rI CDivX fun i j => .int (i.fdiv j)) := opI fun _ _ _ _ _ _ _ hc q => floordiv_int hc.1 q (.inl hc.2)
def CMulB (i j : Int) : Prop := i.natAbs.log2 + j.natAbs.log2 < 134217000
theorem CMulB.ok {i j : Int} (h : CMulB i j) : IntMulOk i j := by
  have b : ∀ x : Int, Builtin.Int.intBits x ≤ x.natAbs.log2 + 1 := fun x => by
    unfold Builtin.Int.intBits
    split
    · exact Nat.zero_le _
    · exact Nat.le_refl _
  have b1 := b i
  have b2 := b j
  have b3 : i.natAbs.log2 + j.natAbs.log2 < 134217000 := h
  intro z
  have z2 := (Bool.and_eq_true_iff.mp z).2
  unfold Builtin.Int.intTooBig at z2
  have z3 := of_decide_eq_true z2
  rw [show bitsLine = 134217728 by decide] at z3
  omega
theorem op_mulB : OpR X (binaryOp .Mult) (rI CMulB fun i j => .int (i * j)) := opI fun _ _ _ _ _ _ _ hc q => mul_int q hc.ok
def CPowX (i j : Int) : Prop := CPow i j ∨ powOk i j = true
theorem op_powX : OpR X (binaryOp .Pow) (rI CPowX fun i j => .int (i ^ j.toNat)) := opI fun i j _ _ _ _ _ hc q => by
  rcases hc with hc | hc
  · exact pow_int_small hc.1 hc.2.1 hc.2.2 q
  · unfold powOk at hc
    obtain ⟨h1, h2⟩ := of_decide_eq_true hc
    refine pow_int h1 ?_ q
    have b : Builtin.Int.intBits i ≤ i.natAbs.log2 + 1 := by
      unfold Builtin.Int.intBits
      split
      · exact Nat.zero_le _
      · exact Nat.le_refl _
    have e : j = (j.toNat : Int) := by omega
    have h3 : Builtin.Int.intBits i * j.toNat ≤ 134217728 := Nat.le_trans (Nat.mul_le_mul_right _ b) h2
    rw [e]
    have h4 : ((Builtin.Int.intBits i * j.toNat : Nat) : Int) ≤ ((134217728 : Nat) : Int) := Int.ofNat_le.mpr h3
    rw [Int.natCast_mul] at h4
    exact h4
/-- a list so many times, also a frozen one -/
def rRepR : R2 := fun x y H Q => ∃ l k xs, x = .ref l ∧ y = .int k ∧ Rd H l (.lst xs) ∧ -(2 ^ 63) ≤ k ∧ k < 2 ^ 63 ∧ xs.length * k.toNat ≤ sizeLine ∧ ∀ p, H p = none → Q (.ref p) (upd H p (.lst (List.replicate k.toNat xs).flatten))
theorem op_repR : OpR X (binaryOp .Mult) rRepR := by
  intro pins s σ H x y v u Q I rx ry h
  obtain ⟨l, k, xs, rfl, rfl, hH, h1, h2, hz, q⟩ := h
  cases rx
  obtain ⟨t, rfl⟩ := ry
  obtain ⟨z, its, n, r, e⟩ := hH.ok I.hok
  have hl := r.length
  have h3 : its.toArray.size * k.toNat ≤ sizeLine := by rw [List.size_toArray, ← hl]; exact hz
  have h4 : ¬ its.toArray.size * k.toNat > (2 ^ 63 - 1) / 8 := by
    have : (sizeLine : Nat) ≤ (2 ^ 63 - 1) / 8 := by decide
    omega
  have h5 : ¬ (!Builtin.List.listFitsIndex k) = true := by rw [fitsIndex_both h1 h2]; simp
  have h6 : ¬ Builtin.List.listTooLong (its.toArray.size * k.toNat) = true := by rw [notLongL h3]; simp
  have h7 : ∀ m : Nat, List.foldl (fun x1 x2 => x1 ++ x2) #[] (List.replicate m its.toArray) = (List.replicate m its).flatten.toArray := fun m => by
    simpa using foldl_rep its m []
  have h8 : List.foldl (fun x1 x2 => x1 ++ x2) #[] (List.replicate (if its.toArray.isEmpty = true then 0 else k.toNat) its.toArray) = (List.replicate k.toNat its).flatten.toArray := by
    rw [h7]
    cases its with
    | nil => simp
    | cons a r' => simp
  refine wpAny_binaryOp_repeat_ref (T := "list") (U := "int") (by decide) ⟨_, e, rfl⟩ (fun s' => typeIs_int s' k t) noFill_list_mul PySem.F.fills_int_mul PySem.F.slot_int_rmul repeat_list PySem.F.slot_int_index.lookup
    (call_meets PySem.F.slot_int_rmul (typeIs_int s k t) PySem.F.entry_int_rmul (PySem.F.args_int_rmul_2 _ _) (int___rmul___int_list k t l its.toArray n) ⟨e, rfl, ⟨_, e, rfl⟩, ?_⟩)
  refine call_meets PySem.F.slot_list_mul ⟨_, e, rfl⟩ PySem.F.entry_list_mul (PySem.F.args_list_mul_2 _ _) (AutoListH.list___mul___list_int_3 l its.toArray n k t h5 h4 h6) ⟨e, ?_⟩
  rw [h8]
  exact ⟨.ref _, _, I.lnew (t' := s.toks) (r.rep k.toNat) (by rw [PyProof.Rows.lm_len_rep_flat, Nat.mul_comm]; exact hz), rfl, q _ I.fresh⟩
/-- the operators -/
def rBin (K : PySem.W.Frag) : BOp → R2
  | .add => fun x y H Q => (rI0 fun i j => .int (i + j)) x y H Q ∨ (∃ i j, x = .str i ∧ y = .str j ∧ i.length + j.length ≤ sizeLine ∧ Q (.str (i ++ j)) H) ∨ rCatA K x y H Q ∨ rCatR K x y H Q
  | .sub => rI0 fun i j => .int (i - j)
  | .mul => fun x y H Q => (rI CMulB fun i j => .int (i * j)) x y H Q ∨ rRepR x y H Q ∨ rRepT K x y H Q
  | .fdiv => fun x y H Q => (rI CDivW fun i j => .int (i / j)) x y H Q ∨ (rI CDivX fun i j => .int (i.fdiv j)) x y H Q
  | .mod => fun x y H Q => (rI (fun _ j => 0 < j) fun i j => .int (i % j)) x y H Q ∨ (rI (fun _ j => j ≠ 0) fun i j => .int (i.fmod j)) x y H Q
  | .pow => rI CPowX fun i j => .int (i ^ j.toNat)
def bopOf : BOp → Operator
  | .add => .Add | .sub => .Sub | .mul => .Mult | .fdiv => .FloorDiv | .mod => .Mod | .pow => .Pow
theorem bin_opR : ∀ o : BOp, OpR X (binaryOp (bopOf o)) (rBin X.K o)
  | .add => OpRor op_add (OpRor op_add_str (OpRor op_catA op_catR))
  | .sub => op_sub
  | .mul => OpRor op_mulB (OpRor op_repR op_repT)
  | .fdiv => OpRor op_fdivW op_fdivX
  | .mod => OpRor op_mod op_modN
  | .pow => op_powX
theorem sl16 : (16777216 : Nat) = sizeLine := by rw [sizeLine_eq]
theorem rd_lstR {w : Wo} (r : Rel F w) {d : D} {v : V} {ds : List D} (h : Rp F w d v) (e : rd w.m d = .lst ds) : ∃ a xs, v = .ref a ∧ (Rd w.H a (.lst xs) ∨ KL F.K a xs) ∧ RpL F w ds xs := by
  obtain ⟨a, xs, h1, h2, h3⟩ := rd_lst r h e
  exact ⟨a, xs, h1, h2, h3⟩
/-- no list of the module's own -/
def NoKL (F : Fx) : Prop := ∀ a xs, ¬ KL F.K a xs
theorem RpL.rep {w : Wo} {ds : List D} {xs : List V} (h : RpL F w ds xs) : ∀ n : Nat, RpL F w (List.replicate n ds).flatten (List.replicate n xs).flatten
  | 0 => RpL.nil
  | n + 1 => by
    rw [List.replicate_succ, List.flatten_cons, List.replicate_succ, List.flatten_cons]
    exact h.app (RpL.rep h n)
theorem no_pylong {i j : Int} (h : j.natAbs.log2 < 9000 ∨ i.natAbs.log2 ≤ j.natAbs.log2 + 4470) : Builtin.divisionGoesByPylong i j = false := by
  rcases h with h | h
  · exact PyProof.noPylong_of_log2 h
  · show (decide ((if j == 0 then 0 else j.natAbs.log2 / 30 + 1) > 300) && decide ((if i == 0 then 0 else i.natAbs.log2 / 30 + 1) > (if j == 0 then 0 else j.natAbs.log2 / 30 + 1) + 150)) = false
    by_cases hj : (j == 0) = true
    · rw [if_pos hj]; rfl
    · rw [if_neg hj]
      have : (if (i == 0) = true then 0 else i.natAbs.log2 / 30 + 1) ≤ j.natAbs.log2 / 30 + 1 + 150 := by
        split
        · omega
        · omega
      rw [decide_eq_false (by omega : ¬ (if (i == 0) = true then 0 else i.natAbs.log2 / 30 + 1) > j.natAbs.log2 / 30 + 1 + 150), Bool.and_false]
theorem bin_ok (hn : NoKL F) {w : Wo} (r : Rel F w) {σ : L2.St} {o : BOp} {x y d : D} {v u : V} {Q : VK} (hx : Rp F w x v) (hy : Rp F w y u) (he : binS o (rd w.m x) (rd w.m y) = some d) (h : Post F (RE F) W σ w (.ok d w.m) Q) : rBin F.K o v u w.H Q := by
  generalize ex : rd w.m x = x' at he
  generalize ey : rd w.m y = y' at he
  have hi : ∀ {i : Int}, rd w.m x = .int i → v = .int i := fun e => rd_int hx e
  have hj : ∀ {i : Int}, rd w.m y = .int i → u = .int i := fun e => rd_int hy e
  have fin : ∀ {i : Int}, d = .int i → Q (.int i) w.H := fun {i} e => by subst e; exact h.ok r (by simp only [RE, Rp])
  have fz : ∀ {ds : List D}, x' = .lst ds → ∃ a xs, v = .ref a ∧ Rd w.H a (.lst xs) ∧ RpL F w ds xs := fun {ds} e => by
    subst e
    obtain ⟨a, xs, e1, e2, e3⟩ := rd_lstR r hx ex
    exact ⟨a, xs, e1, e2.resolve_right (hn _ _), e3⟩
  have fz2 : ∀ {ds : List D}, y' = .lst ds → ∃ a xs, u = .ref a ∧ Rd w.H a (.lst xs) ∧ RpL F w ds xs := fun {ds} e => by
    subst e
    obtain ⟨a, xs, e1, e2, e3⟩ := rd_lstR r hy ey
    exact ⟨a, xs, e1, e2.resolve_right (hn _ _), e3⟩
  unfold binS at he
  split at he
  · -- int + int
    cases he
    exact .inl ⟨_, _, hi ex, hj ey, fin rfl⟩
  · -- text + text
    split at he
    · rename_i hl
      cases he
      have e1 := rd_str hx ex
      have e2 := rd_str hy ey
      subst e1 e2
      exact .inr (.inl ⟨_, _, rfl, rfl, by rw [len_so, len_so, sizeLine_eq]; exact hl, h.ok r (by simp only [RE, Rp]; rw [so_app])⟩)
    · cases he
  · -- tuple + tuple
    split at he
    · rename_i xs0 ys0 hl
      cases he
      obtain ⟨a, xs, rfl, h1, h2⟩ := rd_tup hx ex
      obtain ⟨b, ys, rfl, h3, h4⟩ := rd_tup hy ey
      have n1 := h2.length
      have n2 := h4.length
      refine .inr (.inr (.inl ⟨a, b, xs, ys, rfl, rfl, h1.sq, h3.sq, by rw [sizeLine_eq]; omega, fun z => ?_, fun _ z => ?_, fun _ _ p hp => h.okNew r hp (Rp.newTup r hp (h2.app h4))⟩))
      · subst z
        obtain rfl : xs0 = [] := List.eq_nil_of_length_eq_zero n1
        refine h.ok r ?_
        rw [List.nil_append]
        simp only [RE, Rp]
        exact ⟨b, ys, rfl, h3, h4⟩
      · subst z
        obtain rfl : ys0 = [] := List.eq_nil_of_length_eq_zero n2
        refine h.ok r ?_
        rw [List.append_nil]
        simp only [RE, Rp]
        exact ⟨a, xs, rfl, h1, h2⟩
    · cases he
  · -- list + list
    split at he
    · rename_i hl
      cases he
      obtain ⟨a, xs, rfl, h1, h2⟩ := fz rfl
      obtain ⟨b, ys, rfl, h3, h4⟩ := fz2 rfl
      have n1 := h2.length
      have n2 := h4.length
      exact .inr (.inr (.inr ⟨a, b, xs, ys, rfl, rfl, h1, h3, by rw [sizeLine_eq]; omega, fun p hp => h.okNew r hp (Rp.newLst r hp (h2.app h4))⟩))
    · cases he
  · cases he
    exact ⟨_, _, hi ex, hj ey, fin rfl⟩
  · -- int * int
    split at he
    · rename_i hl
      cases he
      exact .inl ⟨_, _, hi ex, hj ey, (by unfold CMulB; exact of_decide_eq_true hl), fin rfl⟩
    · cases he
  · split at he
    · rename_i hl
      cases he
      exact .inl ⟨_, _, hi ex, hj ey, (by unfold CDivW; exact of_decide_eq_true hl), fin rfl⟩
    · split at he
      · rename_i hl
        cases he
        obtain ⟨c1, c2⟩ := of_decide_eq_true hl
        exact .inr ⟨_, _, hi ex, hj ey, ⟨c1, no_pylong c2⟩, fin rfl⟩
      · cases he
  · split at he
    · rename_i hl
      cases he
      exact .inl ⟨_, _, hi ex, hj ey, hl, fin rfl⟩
    · split at he
      · rename_i hl
        cases he
        exact .inr ⟨_, _, hi ex, hj ey, hl, fin rfl⟩
      · cases he
  · split at he
    · rename_i hl
      cases he
      exact ⟨_, _, hi ex, hj ey, .inl hl, fin rfl⟩
    · split at he
      · rename_i hl
        cases he
        exact ⟨_, _, hi ex, hj ey, .inr hl, fin rfl⟩
      · cases he
  · -- list * int
    split at he
    · rename_i hl
      cases he
      obtain ⟨a, xs, rfl, h1, h2⟩ := fz rfl
      have n1 := h2.length
      have := hj ey
      subst this
      refine .inr (.inl ⟨a, _, xs, rfl, rfl, h1, hl.1, hl.2.1, by rw [sizeLine_eq, ← n1]; exact hl.2.2, fun p hp => h.okNew r hp (Rp.newLst r hp (RpL.rep h2 _))⟩)
    · cases he
  · -- tuple * int
    split at he
    · rename_i xs0 k0 hl
      cases he
      obtain ⟨a, xs, rfl, h1, h2⟩ := rd_tup hx ex
      have n1 := h2.length
      have := hj ey
      subst this
      refine .inr (.inr ⟨a, _, xs, rfl, rfl, h1.sq, fun z => hl.1 ?_, hl.2.1, hl.2.2.1, by rw [← n1]; exact hl.2.2.2, fun p hp => h.okNew r hp (Rp.newTup r hp (RpL.rep h2 _))⟩)
      subst z
      exact List.eq_nil_of_length_eq_zero n1
    · cases he
  · cases he
/-! ### plain data -/
mutual
def toPy : D → PyData
  | .non => .none
  | .bl b => .bool b
  | .int i => .int i
  | .str x => .str (so x)
  | .tup ds => .tuple (toPyL ds)
  | .lst ds => .list (toPyL ds)
  | _ => .none
def toPyL : List D → List PyData
  | [] => []
  | d :: ds => toPy d :: toPyL ds
end
theorem strOk_so (x : String) : PyData.strOk (so x) = true := by
  show (Str.ofString x).cps.all _ = true
  rw [Str.ofString_eq_toList]
  simp only [List.all_toArray, List.all_map, List.all_eq_true, Function.comp_apply, decide_eq_true_eq]
  intro c _
  have h := c.valid
  show c.val.toNat < _
  simp only [UInt32.isValidChar, Nat.isValidChar] at h
  omega
mutual
theorem plain_shape : ∀ (n : Nat) (d : D), D.plain n d = true → PyData.canLay0 (toPy d) = true ∧ PyData.depth (toPy d) ≤ n + 1
  | n, .non, _ => ⟨rfl, by simp [toPy, PyData.depth]⟩
  | n, .bl _, _ => ⟨rfl, by simp [toPy, PyData.depth]⟩
  | n, .int _, _ => ⟨rfl, by simp [toPy, PyData.depth]⟩
  | n, .str x, _ => ⟨by simp only [toPy, PyData.canLay0]; exact strOk_so x, by simp [toPy, PyData.depth]⟩
  | 0, .tup ds, h => by simp [D.plain] at h
  | n + 1, .tup ds, h => by
    simp only [D.plain] at h
    obtain ⟨a, b⟩ := plainL_shape n ds h
    exact ⟨by simp only [toPy, PyData.canLay0]; exact a, by simp only [toPy, PyData.depth]; omega⟩
  | 0, .lst ds, h => by simp [D.plain] at h
  | n + 1, .lst ds, h => by
    simp only [D.plain] at h
    obtain ⟨a, b⟩ := plainL_shape n ds h
    exact ⟨by simp only [toPy, PyData.canLay0]; exact a, by simp only [toPy, PyData.depth]; omega⟩
  | _, .dct _ _, h => by simp [D.plain] at h
  | _, .obj _ _ _, h => by simp [D.plain] at h
  | _, .exc _ _ _, h => by simp [D.plain] at h
  | _, .ref _, h => by simp [D.plain] at h
  | _, .cls _, h => by simp [D.plain] at h
  | _, .ty _, h => by simp [D.plain] at h
theorem plainL_shape : ∀ (n : Nat) (ds : List D), D.plainL n ds = true → PyData.canLayAll0 (toPyL ds) = true ∧ PyData.depthAll (toPyL ds) ≤ n + 1
  | n, [], _ => ⟨rfl, by simp [toPyL, PyData.depthAll]⟩
  | n, d :: ds, h => by
    simp only [D.plainL, Bool.and_eq_true] at h
    obtain ⟨a, b⟩ := plain_shape n d h.1
    obtain ⟨a2, b2⟩ := plainL_shape n ds h.2
    exact ⟨by simp only [toPyL, PyData.canLayAll0, a, a2, Bool.and_self], by simp only [toPyL, PyData.depthAll]; omega⟩
end
theorem beq_so (x y : String) : (so x == so y) = (x == y) := by
  by_cases h : x = y
  · subst h; simp
  · have : so x ≠ so y := fun e => h (so_inj e)
    rw [beq_eq_false_iff_ne.mpr this, beq_eq_false_iff_ne.mpr h]
mutual
theorem toPy_eqv : ∀ (n m : Nat) (d e : D), D.plain n d = true → D.plain m e = true → PyData.eqv (toPy d) (toPy e) = D.eqv d e
  | n, m, d, e, h1, h2 => by
    cases d with
    | tup xs =>
      cases n with
      | zero => simp [D.plain] at h1
      | succ n =>
        cases e with
        | tup ys =>
          cases m with
          | zero => simp [D.plain] at h2
          | succ m => simp only [toPy, PyData.eqv, D.eqv]; exact toPyL_eqv n m xs ys (by simpa [D.plain] using h1) (by simpa [D.plain] using h2)
        | _ => first | (simp only [toPy, PyData.eqv, D.eqv]; done) | (simp [D.plain] at h2; done)
    | lst xs =>
      cases n with
      | zero => simp [D.plain] at h1
      | succ n =>
        cases e with
        | lst ys =>
          cases m with
          | zero => simp [D.plain] at h2
          | succ m => simp only [toPy, PyData.eqv, D.eqv]; exact toPyL_eqv n m xs ys (by simpa [D.plain] using h1) (by simpa [D.plain] using h2)
        | _ => first | (simp only [toPy, PyData.eqv, D.eqv]; done) | (simp [D.plain] at h2; done)
    | str x =>
      cases e with
      | str y => simp only [toPy, PyData.eqv, D.eqv]; exact beq_so x y
      | _ => first | (simp only [toPy, PyData.eqv, D.eqv]; done) | (simp [D.plain] at h2; done)
    | non => cases e <;> first | (simp only [toPy, PyData.eqv, D.eqv]; done) | (simp [D.plain] at h2; done)
    | bl _ => cases e <;> first | (simp only [toPy, PyData.eqv, D.eqv]; done) | (simp [D.plain] at h2; done)
    | int _ => cases e <;> first | (simp only [toPy, PyData.eqv, D.eqv]; done) | (simp [D.plain] at h2; done)
    | _ => simp [D.plain] at h1
theorem toPyL_eqv : ∀ (n m : Nat) (ds es : List D), D.plainL n ds = true → D.plainL m es = true → PyData.eqvAll (toPyL ds) (toPyL es) = D.eqvL ds es
  | _, _, [], [], _, _ => rfl
  | _, _, [], _ :: _, _, _ => by simp only [toPyL, PyData.eqvAll, D.eqvL]
  | _, _, _ :: _, [], _, _ => by simp only [toPyL, PyData.eqvAll, D.eqvL]
  | n, m, d :: ds, e :: es, h1, h2 => by
    simp only [D.plainL, Bool.and_eq_true] at h1 h2
    simp only [toPyL, PyData.eqvAll, D.eqvL]
    rw [toPy_eqv n m d e h1.1 h2.1, toPyL_eqv n m ds es h1.2 h2.2]
end
mutual
theorem toDp {w : Wo} (r : Rel F w) : ∀ (n : Nat) (d : D) (v : V), D.plain n d = true → Rp F w d v → Dp F.K w.H v (toPy d)
  | n, .non, v, _, h => by simp only [Rp] at h; subst h; exact .non
  | n, .bl b, v, _, h => by simp only [Rp] at h; subst h; exact .bl b
  | n, .int i, v, _, h => by simp only [Rp] at h; subst h; exact .int i
  | n, .str x, v, _, h => by simp only [Rp] at h; subst h; exact .str _
  | n + 1, .tup ds, v, h1, h => by
    simp only [Rp] at h
    obtain ⟨a, xs, rfl, h2, h3⟩ := h
    exact .tup h2.sq (toDpL r n ds xs (by simpa [D.plain] using h1) h3)
  | n + 1, .lst ds, v, h1, h => by
    simp only [Rp] at h
    obtain ⟨a, xs, rfl, h2, h3⟩ := h
    exact .lst h2.sq (toDpL r n ds xs (by simpa [D.plain] using h1) h3)
  | 0, .tup ds, v, h1, _ => by simp [D.plain] at h1
  | 0, .lst ds, v, h1, _ => by simp [D.plain] at h1
  | _, .dct _ _, _, h, _ => by simp [D.plain] at h
  | _, .obj _ _ _, _, h, _ => by simp [D.plain] at h
  | _, .exc _ _ _, _, h, _ => by simp [D.plain] at h
  | _, .ref _, _, h, _ => by simp [D.plain] at h
  | _, .cls _, _, h, _ => by simp [D.plain] at h
  | _, .ty _, _, h, _ => by simp [D.plain] at h
theorem toDpL {w : Wo} (r : Rel F w) : ∀ (n : Nat) (ds : List D) (vs : List V), D.plainL n ds = true → RpL F w ds vs → DpAll F.K w.H vs (toPyL ds)
  | n, [], vs, _, h => by simp only [RpL] at h; subst h; exact .nil
  | n, d :: ds, vs, h1, h => by
    simp only [D.plainL, Bool.and_eq_true] at h1
    simp only [RpL] at h
    obtain ⟨x, xs, rfl, h2, h3⟩ := h
    exact .cons (toDp r n d x h1.1 h2) (toDpL r n ds xs h1.2 h3)
end
/-- what is read at a live place -/
theorem toDpR {w : Wo} (r : Rel F w) (n : Nat) (d : D) (v : V) (hp : D.plain n (rd w.m d) = true) (h : Rp F w d v) : Dp F.K w.H v (toPy (rd w.m d)) := by
  cases d with
  | ref i =>
    have h' := h
    simp only [Rp] at h
    obtain ⟨a, rfl, h2⟩ := h
    cases q : w.m[i]? with
    | none => simp [rd, q, D.plain] at hp
    | some o =>
      cases o with
      | lst l =>
        simp only [rd, q] at hp ⊢
        cases n with
        | zero => simp [D.plain] at hp
        | succ n =>
          obtain ⟨xs, e1, e2⟩ := r.ob i a _ h2 q
          exact .lst (SqL.of e1) (toDpL r n l xs (by simpa [D.plain] using hp) e2)
      | _ => simp [rd, q, D.plain] at hp
  | _ => exact toDp r n _ v hp h
theorem rd_shape {d : D} {m : Mem} (h : D.plain 60 (rd m d) = true) : SeqAt.shaped (toPy (rd m d)) = true := by
  obtain ⟨a, b⟩ := plain_shape 60 _ h
  unfold SeqAt.shaped
  rw [a]
  have h2 : (toPy (rd m d)).depth ≤ 64 := by omega
  simp [h2]
/-! ### comparisons -/
def copOf : COp → CmpOp
  | .eq => .Eq | .ne => .NotEq | .lt => .Lt | .le => .LtE | .gt => .Gt | .ge => .GtE | .is => .Is | .isn => .IsNot | .in_ => .In | .nin => .NotIn
def rNo : R2 := fun _ _ _ _ => False
theorem opNo {f : Value → Value → Sem Value} : OpR X f rNo := fun _ _ _ _ _ _ _ _ _ _ _ _ h => h.elim
def rCmp (K : PySem.W.Frag) : COp → R2
  | .eq => rEqD K
  | .ne => rNeD K
  | .lt => rI0 fun i j => .bl (decide (i < j))
  | .le => rI0 fun i j => .bl (decide (i ≤ j))
  | .gt => rI0 fun i j => .bl (decide (j < i))
  | .ge => rI0 fun i j => .bl (decide (j ≤ i))
  | .is => fun x y H Q => (y = .non ∧ Q (.bl (decide (x = .non))) H) ∨ rIsB x y H Q
  | .isn => fun x y H Q => (y = .non ∧ Q (.bl (!decide (x = .non))) H) ∨ rNotB x y H Q
  | _ => rNo
theorem cmp_opR (hu : X.A.units + 64 < cLine) : ∀ o : COp, OpR X (compareOp (copOf o)) (rCmp X.K o)
  | .eq => op_eqD hu
  | .ne => op_neD hu
  | .lt => op_lt
  | .le => op_le
  | .gt => op_gt
  | .ge => op_ge
  | .is => OpRor op_isN op_isBl
  | .isn => OpRor op_notN op_notBl
  | .in_ => opNo
  | .nin => opNo
theorem Rp_non {w : Wo} {d : D} {v : V} (h : Rp F w d v) : decide (v = .non) = (match d with | .non => true | _ => false) := by
  cases d <;> simp only [Rp] at h
  case non => subst h; rfl
  all_goals first
    | (subst h; rfl)
    | (obtain ⟨a, _, _, _, _, rfl, _⟩ := h; rfl)
    | (obtain ⟨a, _, rfl, _⟩ := h; rfl)
    | (obtain ⟨a, rfl, _⟩ := h; rfl)
theorem cmp_ok {w : Wo} (r : Rel F w) {o : COp} {x y : D} {b : Bool} {v u : V} {Q : VK} (hx : Rp F w x v) (hy : Rp F w y u) (he : cmpS w.m o x y = some b) (h : Q (.bl b) w.H) : rCmp F.K o v u w.H Q := by
  unfold cmpS at he
  split at he
  · split at he
    · rename_i hp
      cases he
      rw [Bool.and_eq_true] at hp
      exact ⟨_, _, toDpR r 60 x v hp.1 hx, toDpR r 60 y u hp.2 hy, rd_shape hp.1, rd_shape hp.2, by rw [toPy_eqv 60 60 _ _ hp.1 hp.2]; exact h⟩
    · cases he
  · split at he
    · rename_i hp
      cases he
      rw [Bool.and_eq_true] at hp
      exact ⟨_, _, toDpR r 60 x v hp.1 hx, toDpR r 60 y u hp.2 hy, rd_shape hp.1, rd_shape hp.2, by rw [toPy_eqv 60 60 _ _ hp.1 hp.2]; exact h⟩
    · cases he
  all_goals first
    | (cases he; simp only [Rp] at hx hy; subst hx hy; exact ⟨_, _, rfl, rfl, h⟩)
    | (cases he; simp only [Rp] at hx hy; subst hx hy; exact .inr ⟨_, _, rfl, rfl, h⟩)
    | (cases he; simp only [Rp] at hy; subst hy; refine .inl ⟨rfl, ?_⟩; rw [Rp_non hx]; (first | exact h | (cases x <;> exact h)))
    | cases he
end PL

set_option Elab.async false
set_option linter.all false
set_option maxRecDepth 100000
set_option maxHeartbeats 4000000
/-! PL.Xis: isinstance, attributes of an exception that is held as a value. -/
namespace PLX
open PySem PySem.Spec PySem.Calls PyProof.Rows PySem.W
theorem find_data {K : Frag} {C : Addr} {od : Option Obj} {name : Str} {a g : Value} (hc : (clsIn K C).isSome = true) (ha : findIn K (.ref C) name = some (some a)) (hg : specialIn K a "__get__" = some (some g)) (ht : takesIn K a = some true) : findObj K C od name = some (.bind g a) := by
  obtain ⟨cd, e⟩ := Option.isSome_iff_exists.mp hc
  simp [findObj, e, ha, hg, ht]
section
variable {prog : Program} {w : World} {A : Around} {E : Value → Shared → Prop} {s : Shared} {K : Frag} {x D : Addr} {ox : Obj} {od : Option Obj}
/-- e.__class__ -/
theorem class_of (EC : L2.ExcC K D) (X : K.In s.heap) (I : InstAt s.heap x ox D od) {Q : Option Value → Shared → Prop} (h : Q (some (.ref D)) { s with toks := s.toks + 1 }) : wpAny (model prog w) A (getAttr? (.ref x) "__class__") Q E s := by
  have hf : findObj K D od "__class__" = some (.bind (.builtin "getset_descriptor.__get__") (.builtin "object.__class__")) := find_data (by obtain ⟨cd, e, _⟩ := any_some EC.hd; rw [e]; rfl) EC.ha EC.hn EC.ht
  obtain ⟨hp, g, d, t, os⟩ := s
  have T0 := I.type (M := model prog w)
  have G0 := looks_findIn (M := model prog w) X EC.hg
  have G1 := looks_findIn (M := model prog w) X EC.hk
  have G2 := looks_find (M := model prog w) X I hf
  have B0 : Looks (model prog w) hp (isInstance (.ref x) (.type "BaseException")) true := T0.andThen (looks_subIn X EC.hs)
  have n0 : (false && onTheHeap (Value.builtin "BaseException.__getattribute__")) = false := rfl
  have n1 : (Value.builtin "BaseException.__getattribute__" == Value.builtin "object.__getattribute__") = false := by decide +kernel
  have n2 : (onTheHeap (Value.ref D) && Value.builtin "BaseException.__getattribute__" == Value.builtin "object.__getattribute__") = false := by rw [n1] <;> rfl
  unfold getAttr? getAttrBy? getAttrBy
  refine wpAny_bind (wpAny_mkText (wpAny_bind (wpAny_attempt (wpAny_holding (wpAny_bind (T0.at (wpAny_bind (G0.at (show wpAny _ _ (if (onTheHeap (Value.ref D) && Value.builtin "BaseException.__getattribute__" == Value.builtin "object.__getattribute__") = true then _ else _) _ _ _ from ?_)))))))))
  rw [n2, if_neg Bool.false_ne_true]
  unfold getAttrByItsOwn hookBefore; refine wpAny_bind ?_
  rw [if_pos (show onTheHeap (Value.ref D) = true from rfl)]
  refine G1.at (wpAny_bind (wpAny_attempt (wpAny_holding ?_)))
  unfold callGetattribute; rw [n0, if_neg Bool.false_ne_true]
  unfold boundAndCalled; rw [PySem.F.excAttr_ValueError.ga.bind (.ref x)]
  refine wpAny_bind (wpAny_pure (show wpAny _ _ (call (.builtin "BaseException.__getattribute__") [.ref x, .str "__class__" t]) _ _ _ from wpAny_call (codeAny_call_builtin PySem.F.excAttr_ValueError.ga.plain PySem.F.entry_bexc_ga ?_)))
  refine @check_slot (model prog w) _ _ ⟨hp, g, d, t + 1, os⟩ "BaseException.__getattribute__" "BaseException" "__getattribute__" (.ref x) [.str "__class__" t] [] _ (by decide +kernel) (by decide +kernel) B0 (PySem.F.args_bexc_ga (.ref x) (.str "__class__" t)) ?_
  unfold Builtin.«object.__getattribute__»
  refine wpAny_bind (wpAny_of_eq (a := ((Value.ref x : Value), [Value.str "__class__" t])) (by first | rfl | (simp only [slotArgs]; rfl)) (wpAny_bind (wpAny_pure (wpAny_bind (T0.at (wpAny_bind (G2.at ?_)))))))
  show wpAny _ _ (holding [Value.builtin "object.__class__"] (call (.builtin "getset_descriptor.__get__") [.builtin "object.__class__", .ref x, .ref D]) >>= ret) _ _ _ 
  refine wpAny_bind (wpAny_holding (wpAny_call (class_get (s := ⟨hp, g, d, t + 1, os⟩) (ox := ox) (od := od) X I EC.hm (wpAny_pure (show wpAny _ _ (handedOut (.ref D)) _ _ _ from ?_)))))
  rw [handedOut_of (v := .ref D) rfl]
  first
    | exact wpAny_pure (wpAny_pure h)
    | exact wpAny_pure h
    | exact wpAny_pure (wpAny_bind (wpAny_pure (wpAny_pure h)))
theorem kitx (EC : L2.ExcC K D) : KitX K (.ref x) (.ref D) (fun h => InstAt h x ox D od) := by
  obtain ⟨cdD, hcD, _⟩ := any_some EC.hd
  refine { ty := fun _ _ _ I => I.type, it := fun _ _ X _ => ?_, ne := fun h tp dd its n sl X htp => Bool.eq_false_iff.mpr fun q => ?_, ca := fun X I k => class_of EC X I k }
  · unfold clsIn at hcD
    split at hcD
    · rename_i ho
      exact fun A' Q' E' s' k q => by unfold isType loadHead; exact wpAny_bind (wpAny_loadPart (k _ _ (X _ _ ho)) (wpAny_pure q))
    · cases hcD
  · obtain rfl : D = tp := Value.ref.inj (beq_iff_eq.mp q)
    unfold clsIn at hcD
    split at hcD
    · rename_i ho
      exact nomatch (X _ _ ho).symm.trans htp
    · cases hcD
end
open L2 PL
/-- isinstance(e, C), e a held exception -/
def rIsX (K : Frag) : List V → Hp → VK → Prop := fun xs H Q => ∃ (a D dd : Addr) (c : V) (cv : Value) (fs : List (Str × V)) (b : Bool), xs = [.ref a, c] ∧ H a = some (ExcO a D dd) ∧ H dd = some (.xd fs) ∧ ExcC K D ∧ ClsV c cv ∧ kitOne K (.ref D) cv = some b ∧ Q (.bl b) H
theorem exc_at {P : Program} {w : World} {H : Hp} {h : Heap} {a C d : Addr} (hok : HOk P w H h) (e : H a = some (ExcO a C d)) : ∃ (oe : Obj) (vs : Array Value), h.get? a = some oe ∧ oe.cls = .ref C ∧ oe.dict = some d ∧ oe.data = .fields vs := by
  have x : ObjOk P w H h a (ExcO a C d) := hok a _ e
  exact x.1
theorem inst_at {P : Program} {w : World} {H : Hp} {h : Heap} {a C d : Addr} {fs : List (Str × V)} (hok : HOk P w H h) (e : H a = some (ExcO a C d)) (ed : H d = some (.xd fs)) : ∃ (oe od : Obj) (m : Str → Option Value), InstAt h a oe C (some od) ∧ (∀ f, RelO (fs.lookup f) (m f)) ∧ ∀ f, lookIn f od = some (m f) := by
  obtain ⟨oe, vs, h1, h2, h3, h4⟩ := exc_at hok e
  have hx : ObjOk P w H h d (.xd fs) := hok d _ ed
  obtain ⟨mA, hns, hr⟩ := hx
  obtain ⟨od, ho, hl⟩ := lookIn_ns hns
  refine ⟨oe, od, mA, ⟨h1, h2, by unfold notCls; rw [h4] <;> rfl, by rw [h3]; exact ho⟩, hr, hl⟩
theorem call_isX {X : Cx} : CallR X (.builtin "isinstance") (rIsX X.K) := by
  intro pins s σ H xs us Q I r h
  obtain ⟨a, D, dd, c, cv, fs, b, rfl, ea, ed, EC, hcv, e, q⟩ := h
  cases r with
  | cons rx rr =>
    cases rr with
    | cons rt rr =>
      cases rr
      cases rx
      have ec := hcv.eq rt
      subst ec
      obtain ⟨oe, od, m, J, _, _⟩ := inst_at I.hok ea ed
      exact kia_one (kitx EC) I.kIn J e (fun z => nomatch z) fun tk => ⟨.bl b, H, I.kept (t' := tk) fun _ _ z => z, rfl, q⟩
/-- e.f -/
def tXa (K : Frag) (f : Str) (te : TE) : TE := fun σ H Q => te σ H fun x H1 => ∃ (a C dd : Addr) (fs : List (Str × V)) (v : V), x = .ref a ∧ H1 a = some (ExcO a C dd) ∧ H1 dd = some (.xd fs) ∧ XfC K C ∧ findIn K (.ref C) f = some none ∧ fs.lookup f = some v ∧ Q v H1
theorem pe_xa {X : Cx} {e : Expr} {te : TE} {pos : Pos} {n : Str} (he : PE X e te) (hb : attributeBase e n X.env (eval e X.env) = eval e X.env) : PE X (.Attribute e n pos) (tXa X.K n te) := by
  refine ⟨fun pins s σ H Q I h => ?_⟩
  refine attr_of hb (thn (he.run pins s σ H _ I h) fun u s1 hh => ?_)
  obtain ⟨x, H1, I1, rx, a, C, dd, fs, v, ex, ea, ed, T, hno, l, q⟩ := hh
  subst ex
  obtain rfl : u = Value.ref a := rx
  obtain ⟨oe, od, m, J, hr, hl⟩ := inst_at I1.hok ea ed
  obtain ⟨u, hu, ru⟩ := RelO.some_of (v := v) (o := m n) (by rw [← l]; exact hr n)
  exact HandSPX.exc_get I1.kIn J T.ga T.gg T.exC (findObj_own T.hdC hno rfl (by rw [hl, hu])) (handed_of ru) ⟨v, H1, I1.tok _, ru, q⟩
/-- e.f: of an instance or of a held exception -/
def oFld (K : Frag) (f : Str) (x : V) (H1 : Hp) (Q : VK) : Prop := ∃ a C dx fs v, x = .ref a ∧ H1 a = some (.ins C dx fs) ∧ Cls K C ∧ NoAttr K C f ∧ fs.lookup f = some v ∧ Q v H1
def oXa (K : Frag) (f : Str) (x : V) (H1 : Hp) (Q : VK) : Prop := ∃ (a C dd : Addr) (fs : List (Str × V)) (v : V), x = .ref a ∧ H1 a = some (ExcO a C dd) ∧ H1 dd = some (.xd fs) ∧ XfC K C ∧ findIn K (.ref C) f = some none ∧ fs.lookup f = some v ∧ Q v H1
def tFx (K : Frag) (f : Str) (te : TE) : TE := fun σ H Q => te σ H fun x H1 => oFld K f x H1 Q ∨ oXa K f x H1 Q
theorem pe_fx {X : Cx} {e : Expr} {te : TE} {pos : Pos} {n : Str} (he : PE X e te) (hb : attributeBase e n X.env (eval e X.env) = eval e X.env) : PE X (.Attribute e n pos) (tFx X.K n te) := by
  refine ⟨fun pins s σ H Q I h => ?_⟩
  refine attr_of hb (thn (he.run pins s σ H _ I h) fun u s1 hh => ?_)
  obtain ⟨x, H1, I1, rx, hh | hh⟩ := hh
  · obtain ⟨a, C, dx, fs, v, ex, ea, c, n, l, q⟩ := hh
    subst ex
    obtain rfl : u = Value.ref a := rx
    exact getattr_ok I1 ea c n l fun u' s2 I2 ru => ⟨v, H1, I2, ru, q⟩
  · obtain ⟨a, C, dd, fs, v, ex, ea, ed, T, hno, l, q⟩ := hh
    subst ex
    obtain rfl : u = Value.ref a := rx
    obtain ⟨oe, od, m, J, hr, hl⟩ := inst_at I1.hok ea ed
    obtain ⟨u, hu, ru⟩ := RelO.some_of (v := v) (o := m n) (by rw [← l]; exact hr n)
    exact HandSPX.exc_get I1.kIn J T.ga T.gg T.exC (findObj_own T.hdC hno rfl (by rw [hl, hu])) (handed_of ru) ⟨v, H1, I1.tok _, ru, q⟩
end PLX

set_option Elab.async false
set_option linter.all false
set_option maxRecDepth 100000
set_option maxHeartbeats 4000000
/-! PL.Blt: the built-ins by values. -/
namespace PL
open PySem L2 PySem.Spec PyProof.Rows
variable {F : Fx} {W : WXX} {X : Cx} {Γ : Gam}
/-- what is known of an own class -/
structure ClsF (F : Fx) (Γ : Gam) (C : String) (A : Addr) : Prop where
  cl : Cls F.K A
  ha : PySem.W.findIn F.K (.ref A) "__class__" = some (some (.builtin "object.__class__"))
  hm : PySem.W.mroIn F.K A (.type "object") = some true
  sub : ∀ n, tyNames.contains n = true → PySem.W.mroIn F.K A (.type n) = some false
  subC : ∀ C' A', F.ca C' = some A' → PySem.W.kitOne F.K (.ref A) (.ref A') = some ((Γ.mro C).contains C')
  nfT : ∀ t ∈ ["NoneType", "bool", "int", "str", "tuple", "list", "dict"], PySem.W.notFirst F.K A (.type t) = true
  ne : (Γ.meth C "__eq__").isSome = true → PySem.W.findIn F.K (.ref A) "__ne__" = some (some (.builtin "object.__ne__"))
  na : ∀ f, Γ.fld C f = true → NoAttr F.K A (so f)
  me : ∀ n g, Γ.meth C n = some g → ∃ f, F.fa g = some f ∧ Meth F.K A (so n) f
/-- what is known of an own class of exceptions -/
structure ExcF (F : Fx) (Γ : Gam) (C : String) (A : Addr) : Prop where
  ec : ExcC F.K A
  sub : ∀ n, tyNames.contains n = true → PySem.W.kitOne F.K (.ref A) (.type n) = some false
  subC : ∀ C' A', F.ca C' = some A' → PySem.W.kitOne F.K (.ref A) (.ref A') = some ((Γ.mro C).contains C')
  exm : ∀ A', F.ca "RulerError" = some A' → PySem.W.exmOne F.K (.ref A) (.ref A') = some ((Γ.mro C).contains "RulerError")
  xf : XfC F.K A
  na : ∀ f, Γ.fld C f = true → PySem.W.findIn F.K (.ref A) (so f) = some none
structure AllC (F : Fx) (Γ : Gam) : Prop where
  cls : ∀ C A, F.cx C = some A → ClsF F Γ C A
  exc : ∀ C A, F.xx C = some A → ExcF F Γ C A
  cc : ∀ C A, F.cx C = some A → F.ca C = some A
  xc : ∀ C A, F.xx C = some A → F.ca C = some A
  cmt : ∀ C A, F.ca C = some A → ((PySem.W.clsIn F.K A).isSome && PySem.W.typeIn F.K (.ref A) == some (.type "type")) = true
  hn : PySem.W.specialIn F.K (.builtin "object.__class__") "__get__" = some (some (.builtin "getset_descriptor.__get__"))
  htk : PySem.W.takesIn F.K (.builtin "object.__class__") = some true
  nk : NoKL F
theorem CallRor {f : Value} {r1 r2 : List V → Hp → VK → Prop} (h1 : CallR X f r1) (h2 : CallR X f r2) : CallR X f (fun xs H Q => r1 xs H Q ∨ r2 xs H Q) :=
  fun pins s σ H xs us Q I r h => h.elim (fun h => h1 pins s σ H xs us Q I r h) fun h => h2 pins s σ H xs us Q I r h
theorem tyx_of {w : Wo} (r : Rel F w) {d : D} {v : V} {t : String} (h : Rp F w d v) (e : tyOf w.m d = some t) : TyX F.K w.H v (.type t) := by
  have lst : ∀ {a : Addr} {xs : List V}, SqL F.K w.H a xs → TyX F.K w.H (.ref a) (.type "list") := fun {a xs} q => by
    rcases q with (q | ⟨o, q⟩) | ⟨o, its, n, q1, q2, _⟩
    · exact .base (.lst q)
    · exact .base (.frz q)
    · exact .kList q1 q2
  have tup : ∀ {a : Addr} {xs : List V}, SqT F.K w.H a xs → TyX F.K w.H (.ref a) (.type "tuple") := fun {a xs} q => by
    rcases q with (q | ⟨o, q⟩) | ⟨o, its, n, q1, q2, _⟩
    · exact .base (.tup q)
    · exact .fTuple q
    · exact .kTuple q1 q2
  cases d with
  | non => simp only [tyOf, rd, Option.some.injEq] at e; subst e; simp only [Rp] at h; subst h; exact .base .non
  | bl b => simp only [tyOf, rd, Option.some.injEq] at e; subst e; simp only [Rp] at h; subst h; exact .base (.bl _)
  | int b => simp only [tyOf, rd, Option.some.injEq] at e; subst e; simp only [Rp] at h; subst h; exact .base (.int _)
  | str b => simp only [tyOf, rd, Option.some.injEq] at e; subst e; simp only [Rp] at h; subst h; exact .base (.str _)
  | tup ds =>
    simp only [tyOf, rd, Option.some.injEq] at e
    subst e
    simp only [Rp] at h
    obtain ⟨a, xs, rfl, h2, _⟩ := h
    exact tup h2.sq
  | lst ds =>
    simp only [tyOf, rd, Option.some.injEq] at e
    subst e
    simp only [Rp] at h
    obtain ⟨a, xs, rfl, h2, _⟩ := h
    exact lst h2.sq
  | dct ks vs =>
    simp only [tyOf, rd, Option.some.injEq] at e
    subst e
    simp only [Rp] at h
    obtain ⟨a, kvs, rfl, h2, _⟩ := h
    exact h2.elim (fun h => .base (.dK h)) fun ⟨_, h⟩ => .fDict h
  | ref i =>
    simp only [Rp] at h
    obtain ⟨a, rfl, h2⟩ := h
    cases q : w.m[i]? with
    | none => simp [tyOf, rd, q] at e
    | some o =>
      cases o with
      | lst l =>
        simp only [tyOf, rd, q, Option.some.injEq] at e
        subst e
        obtain ⟨xs, e1, e2⟩ := r.ob i a _ h2 q
        exact lst (SqL.of e1)
      | dct ks vs =>
        simp only [tyOf, rd, q, Option.some.injEq] at e
        subst e
        obtain ⟨kvs, e1, e2⟩ := r.ob i a _ h2 q
        exact .base (.dK e1)
      | _ => simp [tyOf, rd, q] at e
  | _ => simp [tyOf, rd] at e
theorem look_rp0 {w : Wo} : ∀ (f : String) (ns : List String) (ds : List D) (xs : List V) (x : D), RpL F w ds xs → ns.length = xs.length → lkp f ns ds = some x → ∃ y, ((ns.map so).zip xs).lookup (so f) = some y ∧ Rp F w x y := by
  intro f ns
  induction ns with
  | nil => intro ds xs x _ _ h; simp [lkp] at h
  | cons n ns ih =>
    intro ds xs x h hl e
    cases ds with
    | nil => simp [lkp] at e
    | cons d ds =>
      simp only [RpL] at h
      obtain ⟨y, ys, rfl, h1, h2⟩ := h
      simp only [lkp] at e
      simp only [List.map_cons, List.zip_cons_cons, List.lookup_cons]
      by_cases hf : n = f
      · rw [if_pos hf] at e
        cases e
        subst hf
        exact ⟨y, by simp, h1⟩
      · rw [if_neg hf] at e
        have hb : (so f == so n) = false := by rw [beq_so]; exact beq_eq_false_iff_ne.mpr fun z => hf z.symm
        rw [hb]
        exact ih ds ys x h2 (by simpa using hl) e
theorem look_rp {w : Wo} {f : String} {ns : List String} {ds : List D} {xs : List V} {x : D} (h : RpL F w ds xs) (hl : ns.length = xs.length) (e : lkp f ns ds = some x) : ∃ y, ((ns.map so).zip xs).lookup (so f) = some y ∧ Rp F w x y := look_rp0 f ns ds xs x h hl e
/-- an instance, frozen or live -/
theorem ins_of {w : Wo} (r : Rel F w) {d : D} {v : V} {C : String} (h : Rp F w d v) (e : clsOf w.m d = some C) : ∃ a A dx fs, v = .ref a ∧ F.cx C = some A ∧ w.H a = some (.ins A dx fs) ∧ ∀ (Γ : Gam) f x, attS Γ w.m f d = some x → Γ.fld C f = true ∧ ∃ y, fs.lookup (so f) = some y ∧ Rp F w x y := by
  have look := @look_rp0 F w
  cases d with
  | obj D ns ds =>
    simp only [clsOf, Option.some.injEq] at e
    subst e
    simp only [Rp] at h
    obtain ⟨a, A, dx, fs, xs, h1, h2, h3, h4, h5, h6, h7⟩ := h
    refine ⟨a, A, dx, fs, h1, h2, h3, fun Γ f x hx => ?_⟩
    simp only [attS] at hx
    split at hx
    · rename_i hf
      obtain ⟨y, q1, q2⟩ := look f ns ds xs x h7 h6 hx
      exact ⟨hf, y, by rw [h5]; exact q1, q2⟩
    · cases hx
  | ref i =>
    simp only [Rp] at h
    obtain ⟨a, h1, h2⟩ := h
    simp only [clsOf] at e
    split at e
    · rename_i C' ns ds q
      cases e
      obtain ⟨A, dx, fs, xs, g1, g2, g3, g4, g5⟩ := r.ob i a _ h2 q
      refine ⟨a, A, dx, fs, h1, g1, g2, fun Γ f x hx => ?_⟩
      simp only [attS, q] at hx
      split at hx
      · rename_i hf
        obtain ⟨y, q1, q2⟩ := look f ns ds xs x g5 g4 hx
        exact ⟨hf, y, by rw [g3]; exact q1, q2⟩
      · cases hx
    · cases e
  | _ => simp [clsOf] at e
theorem tys_ok (K : PySem.W.Frag) : ∀ t ∈ (["NoneType", "bool", "int", "str", "tuple", "list", "dict"] : List String), ∀ n ∈ tyNames, kitB t n = some (t == n || (t == "bool" && n == "int")) := by decide +kernel
theorem tyOf_in {m : Mem} {d : D} {t : String} (e : tyOf m d = some t) : t ∈ (["NoneType", "bool", "int", "str", "tuple", "list", "dict"] : List String) := by
  unfold tyOf at e
  split at e <;> first | (cases e; simp; done) | cases e
theorem sub_own (K : PySem.W.Frag) (A : Addr) (t : String) (h : t ∈ (["NoneType", "bool", "int", "str", "tuple", "list", "dict"] : List String)) : PySem.W.subIn K (.type t) (.ref A) = some false := by
  simp only [List.mem_cons, List.mem_nil_iff, or_false] at h
  rcases h with rfl | rfl | rfl | rfl | rfl | rfl | rfl <;> rfl
theorem clsX_of {m : Mem} {x : D} {C : String} (h : clsOf m x = some C) : clsX m x = some C := by
  cases x <;> first | exact h | simp [clsOf] at h
/-- the type of what has one, and what isinstance tells of it -/
theorem ty_ok (ac : AllC F Γ) {w : Wo} (r : Rel F w) {x : D} {v : V} (hx : Rp F w x v) (hk : ((tyOf w.m x).isSome || (clsOf w.m x).isSome) = true) :
    ∃ t, TyX F.K w.H v t ∧ ∀ c u b, Rp F w c u → isOne Γ w.m x c = some b → ∃ k, ClsV u k ∧ PySem.W.kitOne F.K t k = some b := by
  cases ht : tyOf w.m x with
  | some t =>
    refine ⟨_, tyx_of r hx ht, fun c u b hc e => ?_⟩
    cases c with
    | ty n =>
      simp only [Rp] at hc
      subst hc
      simp only [isOne, ht] at e
      split at e
      · rename_i hn
        cases e
        exact ⟨_, .ty n, kit_ty (tys_ok F.K t (tyOf_in ht) n (by simpa using hn))⟩
      · cases e
    | cls C =>
      simp only [Rp] at hc
      obtain ⟨A, rfl, hA⟩ := hc
      simp only [isOne, ht] at e
      cases e
      have q := ac.cmt C A hA
      refine ⟨_, .own A, ?_⟩
      unfold PySem.W.kitOne
      rw [if_neg (by simp)]
      unfold PySem.W.kitCls
      simp only [q, if_true]
      exact sub_own _ _ _ (tyOf_in ht)
    | _ => simp [isOne] at e
  | none =>
    rw [ht] at hk
    obtain ⟨C', hC⟩ : ∃ C', clsOf w.m x = some C' := by
      cases q : clsOf w.m x with
      | some c => exact ⟨c, rfl⟩
      | none => rw [q] at hk; simp at hk
    obtain ⟨a, B, dx, fs, rfl, h2, h3, _⟩ := ins_of r hx hC
    have qB := ac.cls C' B h2
    refine ⟨_, .base (.ins h3 qB.cl qB.ha ac.hn ac.htk qB.hm), fun c u b hc e => ?_⟩
    cases c with
    | ty n =>
      simp only [Rp] at hc
      subst hc
      simp only [isOne, ht, clsX_of hC] at e
      split at e
      · rename_i hn
        cases e
        refine ⟨_, .ty n, ?_⟩
        unfold PySem.W.kitOne
        rw [if_neg (by simp)]
        unfold PySem.W.kitCls
        have hm : PySem.W.kitMeta n = true := by
          have : ∀ n ∈ tyNames, PySem.W.kitMeta n = true := by decide +kernel
          exact this n (by simpa using hn)
        simp only [hm, if_true]
        exact qB.sub n hn
      · cases e
    | cls C =>
      simp only [Rp] at hc
      obtain ⟨A, rfl, hA⟩ := hc
      simp only [isOne, ht, clsX_of hC] at e
      cases e
      exact ⟨_, .own A, qB.subC C A hA⟩
    | _ => simp [isOne] at e
theorem isOne_known {m : Mem} {x c : D} {b : Bool} (e : isOne Γ m x c = some b) : ((tyOf m x).isSome || (clsOf m x).isSome) = true ∨ ∃ C ns ds, x = .exc C ns ds := by
  cases x with
  | exc C ns ds => exact .inr ⟨C, ns, ds, rfl⟩
  | _ =>
    left
    cases h1 : tyOf m _ with
    | some _ => simp
    | none =>
      cases h2 : clsOf m _ with
      | some _ => simp
      | none => cases c <;> simp [isOne, h1, h2, clsX] at e
theorem isAny_known {m : Mem} {x : D} : ∀ {cs : List D} {b : Bool}, isAny Γ m x cs = some b → ((tyOf m x).isSome || (clsOf m x).isSome) = true
  | [], b, e => by simp only [isAny] at e; split at e <;> first | assumption | cases e
  | c :: cs, b, e => by
    simp only [isAny] at e
    split at e
    · rename_i h
      exact isAny_known h
    · cases e
theorem isAny_ok {w : Wo} {x : D} {t : Value} (ht : ∀ c u b, Rp F w c u → isOne Γ w.m x c = some b → ∃ k, ClsV u k ∧ PySem.W.kitOne F.K t k = some b) :
    ∀ {cs : List D} {us : List V} {b : Bool}, RpL F w cs us → isAny Γ w.m x cs = some b → ∃ ks, Paired ClsV us ks ∧ PySem.W.kitAny F.K t ks = some b
  | [], us, b, h, e => by
    simp only [RpL] at h
    subst h
    simp only [isAny] at e
    split at e <;> first | (cases e; exact ⟨[], .nil, kitAny_nil⟩) | cases e
  | c :: cs, us, b, h, e => by
    simp only [RpL] at h
    obtain ⟨u, us, rfl, h1, h2⟩ := h
    simp only [isAny] at e
    split at e
    · rename_i a b' e1 e2
      cases e
      obtain ⟨k, q1, q2⟩ := ht c u a h1 e1
      obtain ⟨ks, q3, q4⟩ := isAny_ok ht h2 e2
      refine ⟨k :: ks, .cons q1 q3, kitAny_cons q2 (fun z => by subst z; simpa using q4) fun z => by subst z; rfl⟩
    · cases e
def rIsiS (K : PySem.W.Frag) : List V → Hp → VK → Prop := fun xs H Q => ∃ (x : V) (tp : Addr) (cs : List V) (t : Value) (us : List Value) (b : Bool), xs = [x, .ref tp] ∧ SqT K H tp cs ∧ Paired ClsV cs us ∧ TyX K H x t ∧ PySem.W.kitAny K t us = some b ∧ Q (.bl b) H
theorem call_isiS : CallR X (.builtin "isinstance") (rIsiS X.K) := by
  intro pins s σ H xs us Q I r h
  obtain ⟨x, tp, cs, t, ws, b, rfl, hT, k, ty, e, q⟩ := h
  obtain ⟨u1, u2, rfl, r1, r2⟩ := vals2 r
  cases (show u2 = Value.ref tp from r2)
  obtain ⟨P, Z, p, hx⟩ := kit_of I r1 ty
  obtain ⟨its, rv, ⟨o, h1, h2, n, h3⟩, _⟩ := I.tuple hT
  have e3 := ClsV.all k rv
  subst e3
  obtain ⟨oc, od, dt, sl⟩ := o
  simp only at h2 h3
  subst h2 h3
  exact PySem.W.kia_tup Z I.kIn p h1 e hx fun tk => ⟨.bl b, H, I.tok tk, rfl, q⟩
def rBlt (K : PySem.W.Frag) : Blt → List V → Hp → VK → Prop
  | .len => fun xs H Q => ∃ x n, xs = [x] ∧ LenV K x H n ∧ Q (.int n) H
  | .abs => fun xs H Q => ∃ i, xs = [.int i] ∧ Q (.int (if i < 0 then -i else i)) H
  | .isi => fun xs H Q => (rIsi K xs H Q ∨ rIsiS K xs H Q) ∨ PLX.rIsX K xs H Q
  | .tup => fun xs H Q => ∃ p ys, xs = [.ref p] ∧ ((SqL K H p ys ∧ ∀ l, H l = none → Q (.ref l) (upd H l (.tup ys))) ∨ (SqT K H p ys ∧ Q (.ref p) H))
  | .lst => fun xs H Q => ∃ p ys, xs = [.ref p] ∧ (SqL K H p ys ∨ SqT K H p ys) ∧ ∀ l, H l = none → Q (.ref l) (upd H l (.lst ys))
  | .all => rAll K
  | .any => rAny K
  | .sum => rSum K
  | .int => fun xs H Q => (∃ i, xs = [.int i] ∧ Q (.int i) H) ∨ ∃ k, xs = [.bl k] ∧ Q (.int (if k then 1 else 0)) H
  | .gcd => rGcd
/-- the value of the name -/
def bltV : Blt → Value
  | .len => .builtin "len" | .abs => .builtin "abs" | .isi => .builtin "isinstance" | .tup => .type "tuple" | .lst => .type "list"
  | .all => .builtin "all" | .any => .builtin "any" | .sum => .builtin "sum" | .int => .type "int" | .gcd => .builtin "math.gcd"
theorem blt_R (hc : X.calm = true) : ∀ b : Blt, CallR X (bltV b) (rBlt X.K b)
  | .len => call_len
  | .abs => call_abs
  | .isi => CallRor (CallRor call_isi call_isiS) PLX.call_isX
  | .tup => call_tuple_of
  | .lst => call_list_of
  | .all => cr_all hc
  | .any => cr_any hc
  | .sum => cr_sum hc
  | .int => call_int1
  | .gcd => cr_gcd
theorem one_of {w : Wo} {x : D} {vs : List V} (h : RpL F w [x] vs) : ∃ v, vs = [v] ∧ Rp F w x v := by
  simp only [RpL] at h
  obtain ⟨v, _, rfl, h1, rfl⟩ := h
  exact ⟨v, rfl, h1⟩
theorem two_of {w : Wo} {x y : D} {vs : List V} (h : RpL F w [x, y] vs) : ∃ v u, vs = [v, u] ∧ Rp F w x v ∧ Rp F w y u := by
  simp only [RpL] at h
  obtain ⟨v, _, rfl, h1, u, _, rfl, h2, rfl⟩ := h
  exact ⟨v, u, rfl, h1, h2⟩
theorem boolsD_of {w : Wo} : ∀ {ds : List D} {xs : List V} {bs : List Bool}, RpL F w ds xs → boolsD ds = some bs → xs = bs.map V.bl
  | [], xs, bs, h, e => by simp only [boolsD, Option.some.injEq] at e; subst e; simp only [RpL] at h; subst h; rfl
  | d :: ds, xs, bs, h, e => by
    simp only [RpL] at h
    obtain ⟨x, ys, rfl, h1, h2⟩ := h
    cases d with
    | bl b =>
      simp only [boolsD, Option.map_eq_some_iff] at e
      obtain ⟨r, e1, rfl⟩ := e
      simp only [Rp] at h1
      subst h1
      simp [boolsD_of h2 e1]
    | _ => simp [boolsD] at e
theorem intsD_of {w : Wo} : ∀ {ds : List D} {xs : List V} {bs : List Int}, RpL F w ds xs → intsD ds = some bs → xs = bs.map V.int
  | [], xs, bs, h, e => by simp only [intsD, Option.some.injEq] at e; subst e; simp only [RpL] at h; subst h; rfl
  | d :: ds, xs, bs, h, e => by
    simp only [RpL] at h
    obtain ⟨x, ys, rfl, h1, h2⟩ := h
    cases d with
    | int b =>
      simp only [intsD, Option.map_eq_some_iff] at e
      obtain ⟨r, e1, rfl⟩ := e
      simp only [Rp] at h1
      subst h1
      simp [intsD_of h2 e1]
    | _ => simp [intsD] at e
theorem rd_tupS {w : Wo} (r : Rel F w) {d : D} {v : V} {ds : List D} (h : Rp F w d v) (e : items w.m d = some ds) : ∃ a xs, v = .ref a ∧ ((SqL F.K w.H a xs ∧ (d = .tup ds → False)) ∨ (FzT F.K w a xs ∧ d = .tup ds)) ∧ RpL F w ds xs := by
  cases d with
  | tup l =>
    simp only [items, rd, Option.some.injEq] at e
    subst e
    simp only [Rp] at h
    obtain ⟨a, xs, rfl, h2, h3⟩ := h
    exact ⟨a, xs, rfl, .inr ⟨h2, rfl⟩, h3⟩
  | lst l =>
    simp only [items, rd, Option.some.injEq] at e
    subst e
    simp only [Rp] at h
    obtain ⟨a, xs, rfl, h2, h3⟩ := h
    exact ⟨a, xs, rfl, .inl ⟨h2.sq, fun z => nomatch z⟩, h3⟩
  | ref i =>
    have q : rd w.m (.ref i) = .lst ds := by
      unfold items at e
      split at e
      · rename_i l q
        simp only [rd] at q
        split at q <;> cases q
      · rename_i l q
        cases e
        exact q
      · cases e
    obtain ⟨a, xs, h1, h2, h3⟩ := rd_lst r h q
    exact ⟨a, xs, h1, .inl ⟨h2, fun z => nomatch z⟩, h3⟩
  | _ => simp [items, rd] at e
theorem blt_ok (ac : AllC F Γ) {w : Wo} (r : Rel F w) {σ : L2.St} {b : Blt} {ys : List D} {d : D} {vs : List V} {Q : VK} (hx : RpL F w ys vs) (he : bltS Γ w.m b ys = some d) (h : Post F (RE F) W σ w (.ok d w.m) Q) : rBlt F.K b vs w.H Q := by
  unfold bltS at he
  split at he
  · -- len
    rename_i x
    obtain ⟨v, rfl, h1⟩ := one_of hx
    split at he
    · rename_i y q
      split at he
      · rename_i hl
        cases he
        have e := rd_str h1 q
        subst e
        exact ⟨_, _, rfl, ⟨by rw [len_so, sizeLine_eq]; exact hl, (len_so _).symm⟩, h.ok r (by simp only [RE, Rp])⟩
      · cases he
    · rename_i ds q
      cases he
      obtain ⟨a, xs, rfl, h2, h3⟩ := rd_tup h1 q
      exact ⟨_, ds.length, rfl, .inr ⟨xs, h2.sq, h3.length⟩, h.ok r (by simp only [RE, Rp])⟩
    · rename_i ds q
      cases he
      obtain ⟨a, xs, rfl, h2, h3⟩ := rd_lst r h1 q
      exact ⟨_, ds.length, rfl, .inl ⟨xs, h2, h3.length⟩, h.ok r (by simp only [RE, Rp])⟩
    · cases he
  · -- abs
    cases he
    obtain ⟨v, rfl, h1⟩ := one_of hx
    simp only [Rp] at h1
    subst h1
    exact ⟨_, rfl, h.ok r (by simp only [RE, Rp])⟩
  · -- isinstance of several
    rename_i x cs
    obtain ⟨b, e, rfl⟩ := Option.map_eq_some_iff.mp he
    obtain ⟨v, u, rfl, h1, h2⟩ := two_of hx
    obtain ⟨t, q1, q2⟩ := ty_ok ac r h1 (isAny_known e)
    simp only [Rp] at h2
    obtain ⟨a, xs, rfl, h3, h4⟩ := h2
    obtain ⟨ks, q3, q4⟩ := isAny_ok q2 h4 e
    exact .inl (.inr ⟨v, a, xs, t, ks, b, rfl, h3.sq, q3, q1, q4, h.ok r (by simp only [RE, Rp])⟩)
  · -- isinstance of one
    rename_i x c _
    obtain ⟨b, e, rfl⟩ := Option.map_eq_some_iff.mp he
    obtain ⟨v, u, rfl, h1, h2⟩ := two_of hx
    rcases isOne_known e with hk | ⟨C0, ns0, ds0, rfl⟩
    · obtain ⟨t, q1, q2⟩ := ty_ok ac r h1 hk
      obtain ⟨k, q3, q4⟩ := q2 c u b h2 e
      exact .inl (.inl ⟨v, u, t, k, b, rfl, q3, q1, q4, h.ok r (by simp only [RE, Rp])⟩)
    · simp only [Rp] at h1
      obtain ⟨a, A, dd, fs, xs, rfl, k2, k3, k4, k5, k6, k7, k8, k9⟩ := h1
      have q := ac.exc C0 A k2
      have fin : ∀ (cv : Value), ClsV u cv → PySem.W.kitOne F.K (.ref A) cv = some b → PLX.rIsX F.K [.ref a, u] w.H Q := fun cv hc e => ⟨a, A, dd, u, cv, fs, b, rfl, k3, k5, q.ec, hc, e, h.ok r (by simp only [RE, Rp])⟩
      refine .inr ?_
      cases c with
      | ty n =>
        simp only [Rp] at h2
        subst h2
        have e : (if tyNames.contains n = true then some false else none) = some b := e
        split at e
        · rename_i hn
          cases e
          exact fin _ (.ty n) (q.sub n hn)
        · cases e
      | cls C =>
        simp only [Rp] at h2
        obtain ⟨A', rfl, hA⟩ := h2
        have e : some ((Γ.mro C0).contains C) = some b := e
        cases e
        exact fin _ (.own A') (q.subC C A' hA)
      | _ => exact nomatch (show (none : Option Bool) = some b from e)
  · -- tuple
    obtain ⟨l, e, rfl⟩ := Option.map_eq_some_iff.mp he
    obtain ⟨v, rfl, h1⟩ := one_of hx
    obtain ⟨a, xs, rfl, h2, h3⟩ := rd_tupS r h1 e
    refine ⟨a, xs, rfl, ?_⟩
    rcases h2 with ⟨h2, _⟩ | ⟨h2, h4⟩
    · exact .inl ⟨h2, fun p hp => h.okNew r hp (Rp.newTup r hp h3)⟩
    · subst h4
      exact .inr ⟨h2.sq, h.ok r h1⟩
  · -- list
    obtain ⟨l, e, rfl⟩ := Option.map_eq_some_iff.mp he
    obtain ⟨v, rfl, h1⟩ := one_of hx
    obtain ⟨a, xs, rfl, h2, h3⟩ := items_sq r h1 e
    exact ⟨a, xs, rfl, h2, fun p hp => h.okNew r hp (Rp.newLst r hp h3)⟩
  · -- all
    obtain ⟨v, rfl, h1⟩ := one_of hx
    split at he
    · rename_i ds q
      obtain ⟨bs, e, rfl⟩ := Option.map_eq_some_iff.mp he
      obtain ⟨a, xs, rfl, h2, h3⟩ := rd_lst r h1 q
      have := boolsD_of h3 e
      subst this
      exact ⟨a, bs, rfl, h2, h.ok r (by simp only [RE, Rp])⟩
    · cases he
  · obtain ⟨v, rfl, h1⟩ := one_of hx
    split at he
    · rename_i ds q
      obtain ⟨bs, e, rfl⟩ := Option.map_eq_some_iff.mp he
      obtain ⟨a, xs, rfl, h2, h3⟩ := rd_lst r h1 q
      have := boolsD_of h3 e
      subst this
      exact ⟨a, bs, rfl, h2, h.ok r (by simp only [RE, Rp])⟩
    · cases he
  · obtain ⟨v, rfl, h1⟩ := one_of hx
    split at he
    · rename_i ds q
      obtain ⟨bs, e, rfl⟩ := Option.map_eq_some_iff.mp he
      obtain ⟨a, xs, rfl, h2, h3⟩ := rd_lst r h1 q
      have := intsD_of h3 e
      subst this
      exact ⟨a, bs, rfl, h2, h.ok r (by simp only [RE, Rp])⟩
    · cases he
  · cases he
    obtain ⟨v, rfl, h1⟩ := one_of hx
    simp only [Rp] at h1
    subst h1
    exact .inl ⟨_, rfl, h.ok r (by simp only [RE, Rp])⟩
  · cases he
    obtain ⟨v, rfl, h1⟩ := one_of hx
    simp only [Rp] at h1
    subst h1
    exact .inr ⟨_, rfl, h.ok r (by simp only [RE, Rp])⟩
  · cases he
    obtain ⟨v, u, rfl, h1, h2⟩ := two_of hx
    simp only [Rp] at h1 h2
    subst h1 h2
    exact ⟨_, _, rfl, h.ok r (by simp only [RE, Rp])⟩
  · cases he
end PL

set_option Elab.async false
set_option linter.all false
set_option maxRecDepth 100000
set_option maxHeartbeats 4000000
/-! PL.Star: argument lists without stars. -/
namespace PL
open PySem L2 PySem.Spec PyProof.Rows
def noStar : Expr → Bool
  | .Starred _ _ => false
  | _ => true
theorem star_cons {e : Expr} (h : noStar e = true) (es : List Expr) (env : PySem.Env) : starEach (e :: es) env = (false, eval e env) :: starEach es env := by
  cases e <;> first | rfl | (cases h; done)
theorem star_any (pos : Pos) (env : PySem.Env) : ∀ es : List Expr, es.all noStar = true → (backTo pos (starEach es env)).any (·.1) = false
  | [], _ => rfl
  | e :: es, h => by
    rw [List.all_cons, Bool.and_eq_true] at h
    rw [star_cons h.1]
    show (false || (backTo pos (starEach es env)).any (·.1)) = false
    rw [star_any pos env es h.2]
    rfl
theorem star_all (pos : Pos) (env : PySem.Env) : ∀ es : List Expr, es.all noStar = true → (backTo pos (starEach es env)).all (!·.1) = true
  | [], _ => rfl
  | e :: es, h => by
    rw [List.all_cons, Bool.and_eq_true] at h
    rw [star_cons h.1]
    show (true && (backTo pos (starEach es env)).all (!·.1)) = true
    rw [star_all pos env es h.2]
    rfl
end PL

set_option Elab.async false
set_option linter.all false
set_option maxRecDepth 100000
set_option maxHeartbeats 4000000
/-! SX3: super().__init__(..) of an exception, as the first statement. -/
namespace SX
open PySem PySem.Spec PySem.Calls PyProof.Rows PySem.W L2
/-- super().__init__(..), the object being an exception over ValueError -/
def tSupE (K : Frag) (D : Addr) (ta : TA) : TS := fun De σ H => ∃ x C : Addr, σ[0]? = some (some (.ref x)) ∧ OexC K C ∧ mroIn K C (.ref D) = some true ∧ ks_superIn K C D "__init__" = some (some (.builtin "ValueError.__init__")) ∧ subIn K (.ref C) (.type "ValueError") = some true ∧ H x = some (exo x C none) ∧
  ta σ H fun vs H1 => vs.length ≤ 1000 ∧ H1 x = some (exo x C none) ∧ De.nx σ H1
theorem meth_formA {o : Expr} {m : Str} {apos pos : Pos} {es : List Expr} {env : PySem.Env} (h2 : es.all PL.noStar = true) (h3 : es.length < 30) (h4 : (apos.endLine == pos.line) = true) :
    eval (.Call (.Attribute o m apos) es [] pos) env = (do
      let ov ← attributeBase o m env (eval o env)
      standAt apos.atName
      let (f, first) ← holding [ov] (getMethod ov m (do return (← importBound o env).getD true))
      callWith pos f first (backTo pos (starEach es env)) []) := by
  show (do
    let ov ← attributeBase o m env (eval o env)
    standAt apos.atName
    methodCall o m apos pos env ov (es.length + 0) (backTo pos (starEach es env)) (backToKw pos (keywordEach [] env))) = _
  have hf : methodCallForm (es.length + 0) (backTo pos (starEach es env)) (backToKw pos (keywordEach [] env)) = true := by
    show ((backTo pos (starEach es env)).all (!·.1) && true && decide (es.length + 0 + 0 < 30)) = true
    rw [PL.star_all pos env es h2]
    simp [h3]
  unfold methodCall
  rw [hf]
  unfold calleeOf methodCallPos
  simp only [h4, Bool.not_true, Bool.false_or, if_true]
  rfl
section
variable {P : Program} {w : World} {K : Frag} {mg : Str → Option Value} {base : Heap} {N ps : List Str} {qual : Str} {scope : Scope} {f cc cda D : Addr} {A : Around} {outer : List Env} {s0 : Shared} {H0 : Hp} {E : XK}
theorem first_exc {body : List Stmt} {name : Str} {params : Arguments} {dV kV doc pm ct oc : Value} {an od : Option Addr} {osl : Array (Option Value)} {p0 p1 apos pos epos : Pos} {x0 : Str} {e : Expr} {es : List Expr} {ta : TA}
    (S : CScope N ps scope) (F : SupF P K cda cc D params x0) (lk : K.lookup f = some ⟨oc, od, .func (ksFn name qual params body scope dV kV doc pm an (.ref cda) ct cc), osl⟩) (h0 : N[0]? = some x0) (hx0 : scope.names.lookup x0 = some .local)
    (ha : PA (cxS P w K mg base N qual scope f (.ref cda) cc A outer s0 H0 E) (e :: es) ta)
    (hst : (e :: es).all PL.noStar = true) (hl : (e :: es).length < 30) (hp : (apos.endLine == pos.line) = true) :
    First (cxS P w K mg base N qual scope f (.ref cda) cc A outer s0 H0 E) body (.Expr (.Call (.Attribute (.Call (.Name "super" p0) [] [] p1) "__init__" apos) (e :: es) [] pos) epos) (tSupE K D ta) := by
  rintro s σ H De I ⟨x, C, hσ, T, hsub, hm, hB, hx, h⟩
  obtain ⟨t1, ho⟩ := exo_at I.hok hx
  have J : InstAt s.heap x _ C none := ⟨ho, rfl, rfl, trivial⟩
  refine ks_wpAt_Expr_any (ks_wpAt_MethodCall (pl := _) (sup_base S F lk I h0 hx0 hσ J hsub (by decide) fun h1 I1 hso k1 => ?_) (meth_formA hst hl hp)) I.quiet
  have X1 : K.In h1 := I1.kIn
  have J1 : InstAt h1 x _ C none := ⟨k1 _ _ ho, rfl, rfl, trivial⟩
  cases hc : clsIn K C with
  | none => unfold ks_superIn at hm; rw [hc] at hm; cases hm
  | some cd =>
  unfold ks_superIn at hm
  rw [hc] at hm
  have hI : Looks (model P w) h1 (isInstance (.ref x) (.type "ValueError")) true := J1.type.andThen (looks_subIn X1 hB)
  obtain ⟨hp, g, d, tk, os⟩ := s
  refine kxs_getMethod kxs_ValueError (K := K) hso (looks_opaque X1 F.stat) (l₀ := cd.mro) (fun A Q E s k q => wpAny_bind ((looks_clsIn X1 hc) A _ E s k (wpAny_pure q))) rfl X1 hm hI (ks_ne X1 J1 hc) (by decide) ?_
  let u := h1.objs.size
  have k2 : ∀ b o, h1.get? b = some o → (h1.push (kxs_mw "ValueError.__init__" x)).get? b = some o := fun b o e => Heap.get?_push_of_some _ e
  have hu : (h1.push (kxs_mw "ValueError.__init__" x)).get? u = some (kxs_mw "ValueError.__init__" x) := Heap.get?_push_size _ rfl
  have I2 : Inv (cxS P w K mg base N qual scope f (.ref cda) cc A outer s0 H0 E) [] σ H ⟨h1.push (kxs_mw "ValueError.__init__" x), g, d, tk + 1, os⟩ := I1.kept (t' := tk + 1) k2
  have hn : H u = none := I1.hok.fresh (Nat.le_refl _)
  have I3 : Inv (cxS P w K mg base N qual scope f (.ref cda) cc A outer s0 H0 E) [(u, kxs_mw "ValueError.__init__" x)] σ H ⟨h1.push (kxs_mw "ValueError.__init__" x), g, d, tk + 1, os⟩ := I2.pins_of fun p hp => by
    obtain rfl : p = (u, kxs_mw "ValueError.__init__" x) := by simpa using hp
    exact ⟨hu, hn, Nat.ne_of_gt I1.lt, I1.nofs (Nat.le_refl _), fun v z => by cases z⟩
  refine kxs_callWith (i := "ValueError.__init__") (x := x) (PL.star_any pos _ (e :: es) hst) ?_
  have hst1 : PL.noStar e = true := by
    rw [List.all_cons, Bool.and_eq_true] at hst
    exact hst.1
  have hs := PL.star_cons hst1 es (cxS P w K mg base N qual scope f (.ref cda) cc A outer s0 H0 E).env
  have hrun := ha.run pos _ _ σ H _ I3 h
  rw [hs] at hrun ⊢
  refine evalArgs_plain ?_
  refine thn hrun fun us s3 ⟨vs, H3, I4, rv, hlen, hx3, q⟩ => ?_
  have hu3 : s3.heap.get? u = some (kxs_mw "ValueError.__init__" x) := (I4.pin (u, kxs_mw "ValueError.__init__" x) (by simp)).1
  refine ⟨hu3, ?_⟩
  have I5 : Inv (cxS P w K mg base N qual scope f (.ref cda) cc A outer s0 H0 E) [] σ H3 s3 := I4.pins_of fun p hp => absurd hp (by simp)
  obtain ⟨nm, qn, Nn, bs, bm, sn, sub, ab, col, dd, k0, k1', k2', k3, k5, hC, hbm⟩ := T.cls
  obtain ⟨t3, ho3⟩ := exo_at I5.hok hx3
  have hz : us.length ≤ sizeLine := by rw [← rv.length, sizeLine_eq]; omega
  refine mw_call hu3 (I5.kIn _ _ hC) ho3 hz fun h' k e' => ?_
  have J5 := I5.write (t' := s3.toks) (x := x) (e := x) (o := exo x C none) (by rw [hx3]; exact True.intro) (.inl rfl) k ⟨_, e'⟩ (exo_ok e')
  have eu : upd H3 x (exo x C none) = H3 := by
    funext b
    by_cases hb : b = x
    · rw [hb, upd_same, hx3]
    · rw [upd_ne hb]
  rw [eu] at J5
  exact ⟨σ, H3, J5, q⟩
end
end SX

set_option Elab.async false
set_option linter.all false
set_option maxRecDepth 100000
set_option maxHeartbeats 4000000
/-! SX4: an own exception's __init__: super().__init__(a, ..), then self.f = a, .. -/
namespace PL
open PySem
def isD (x : Str) : Bool := !(x == ("__debug__" : Str)) && !(x == ("__classdict__" : Str))
theorem isD_ok {x : Str} (h : isD x = true) : (x == ("__debug__" : Str)) = false ∧ (x == ("__classdict__" : Str)) = false := by
  unfold isD at h
  rw [Bool.and_eq_true, Bool.not_eq_true', Bool.not_eq_true'] at h
  exact h
end PL
namespace SX
open PySem PySem.Spec PySem.Calls PyProof.Rows PySem.W L2
/-- what is static of the class C, whose __init__ stands in D -/
structure XMk (K : Frag) (C D : Addr) (ns : List Str) : Prop where
  ox : OexC K C
  sub : mroIn K C (.ref D) = some true
  sup : ks_superIn K C D "__init__" = some (some (.builtin "ValueError.__init__"))
  ve : subIn K (.ref C) (.type "ValueError") = some true
  no : ∀ f ∈ ns, findIn K (.ref C) f = some none
/-- the promise of such an __init__ -/
def spX (K : Frag) (D : Addr) (ns : List Str) : Sp := fun vs H Q _ => ∃ (a C : Addr) (xs : List V), vs = .ref a :: xs ∧ xs.length = ns.length ∧ XMk K C D ns ∧ H a = some (exo a C none) ∧
  ∀ (dx : Addr) (fs : List (Str × V)), H dx = none → dx ≠ a → (∀ f, fs.lookup f = (ns.zip xs).lookup f) → Q .non (upd (upd H dx (exd dx fs)) a (exo a C (some dx)))
theorem exo_upd {H : Hp} {a dx C : Addr} {u v : HO} (h : dx ≠ a) : upd (upd (upd H dx u) a (exo a C (some dx))) dx v = upd (upd H dx v) a (exo a C (some dx)) := by
  funext b
  by_cases hb : b = dx
  · rw [hb, upd_same, upd_ne h, upd_same]
  · rw [upd_ne hb]
    by_cases ha : b = a
    · rw [ha, upd_same, upd_same]
    · rw [upd_ne ha, upd_ne ha, upd_ne hb, upd_ne hb]
section
variable {P : Program} {w : World} {K : Frag} {mg : Str → Option Value} {base : Heap} {f cc cda D : Addr} {name qual : Str} {params : Arguments} {scope : Scope} {dV kV doc pm ct oc cl : Value} {an od cld : Option Addr} {vc : Option Value} {osl csl : Array (Option Value)}
  {x0 x1 x2 f1 f2 : Str} {p0 p1 apos pos epos q1 q2 q3 q4 q5 q6 r1 r2 r3 r4 r5 : Pos}
theorem exc_fn1 (lk : K.lookup f = some ⟨oc, od, .func (ksFn name qual params [.Expr (.Call (.Attribute (.Call (.Name "super" p0) [] [] p1) "__init__" apos) [.Name x1 q1] [] pos) epos, .Assign [.Attribute (.Name x0 q2) f1 q3] (.Name x1 q4) q5] scope dV kV doc pm an (.ref cda) ct cc), osl⟩)
    (hcd : codeIn K (.ref cda) qual = true) (S : CScope [x0, x1] [x0, x1] scope) (F : SupF P K cda cc D params x0) (lc : K.lookup cc = some ⟨cl, cld, .cell vc, csl⟩) (hp : (apos.endLine == pos.line) = true)
    (d0 : PL.isD x0 = true) (d1 : PL.isD x1 = true)
    (hs : ∀ env : Env, swapsWith (.Name x1 q4) (some (.Attribute (.Name x0 q2) f1 q3)) q5.line env = pure false) :
    FnOk P w K mg base (L2.CX P w) 1 f (ksFn name qual params [.Expr (.Call (.Attribute (.Call (.Name "super" p0) [] [] p1) "__init__" apos) [.Name x1 q1] [] pos) epos, .Assign [.Attribute (.Name x0 q2) f1 q3] (.Name x1 q4) q5] scope dV kV doc pm an (.ref cda) ct cc) [x0, x1] (spX K D [f1]) := by
  have l0 : scope.names.lookup x0 = some .local := S.par _ (by simp)
  have l1 : scope.names.lookup x1 = some .local := S.par _ (by simp)
  refine fn_ofS (N := [x0, x1]) lk hcd S lc (fun vs H Q E h => ?_) fun A outer s H vs Q E hr h => ?_
  · obtain ⟨a, C, xs, rfl, hl, _⟩ := h
    simpa using hl
  · obtain ⟨a, C, xs, rfl, hl, M, ha, hq⟩ := h
    obtain ⟨y, rfl⟩ : ∃ y, xs = [y] := by
      cases xs with
      | nil => simp at hl
      | cons y ys => cases ys with
        | nil => exact ⟨y, rfl⟩
        | cons z zs => simp at hl
    let X := cxS P w K mg base [x0, x1] qual scope f (.ref cda) cc A outer s H E
    obtain ⟨e01, e02⟩ := PL.isD_ok d0
    obtain ⟨e11, e12⟩ := PL.isD_ok d1
    have v0 : ∀ p, PE X (.Name x0 p) (tVar 0) := fun p => pe_var rfl (.inl l0) e01 e02
    have v1 : ∀ p, PE X (.Name x1 p) (tVar 1) := fun p => pe_var rfl (.inl l1) e11 e12
    refine ⟨_, _, first_exc S F lk rfl l0 (pa_cons (v1 q1) pa_nil (PL.star_cons rfl _ _)) rfl (by simp) hp, pss_one (ps_ost (v0 q2) (v1 q4) (hs _)), ?_⟩
    refine ⟨a, C, rfl, M.ox, M.sub, M.sup, M.ve, ha, y, rfl, ?_⟩
    refine ⟨by simp, ha, y, rfl, .ref a, rfl, a, C, rfl, M.ox, M.no _ (by simp), .inl ⟨ha, fun dx hdx hne => ?_⟩⟩
    exact hq dx _ hdx hne fun g => rfl
theorem exc_fn2 (lk : K.lookup f = some ⟨oc, od, .func (ksFn name qual params [.Expr (.Call (.Attribute (.Call (.Name "super" p0) [] [] p1) "__init__" apos) [.Name x1 q1, .Name x2 q6] [] pos) epos, .Assign [.Attribute (.Name x0 q2) f1 q3] (.Name x1 q4) q5, .Assign [.Attribute (.Name x0 r2) f2 r3] (.Name x2 r4) r5] scope dV kV doc pm an (.ref cda) ct cc), osl⟩)
    (hcd : codeIn K (.ref cda) qual = true) (S : CScope [x0, x1, x2] [x0, x1, x2] scope) (F : SupF P K cda cc D params x0) (lc : K.lookup cc = some ⟨cl, cld, .cell vc, csl⟩) (hp : (apos.endLine == pos.line) = true) (hf : f1 ≠ f2)
    (d0 : PL.isD x0 = true) (d1 : PL.isD x1 = true) (d2 : PL.isD x2 = true)
    (hs : ∀ env : Env, swapsWith (.Name x1 q4) (some (.Attribute (.Name x0 q2) f1 q3)) q5.line env = pure false) (hs2 : ∀ env : Env, swapsWith (.Name x2 r4) (some (.Attribute (.Name x0 r2) f2 r3)) r5.line env = pure false) :
    FnOk P w K mg base (L2.CX P w) 1 f (ksFn name qual params [.Expr (.Call (.Attribute (.Call (.Name "super" p0) [] [] p1) "__init__" apos) [.Name x1 q1, .Name x2 q6] [] pos) epos, .Assign [.Attribute (.Name x0 q2) f1 q3] (.Name x1 q4) q5, .Assign [.Attribute (.Name x0 r2) f2 r3] (.Name x2 r4) r5] scope dV kV doc pm an (.ref cda) ct cc) [x0, x1, x2] (spX K D [f1, f2]) := by
  have l0 : scope.names.lookup x0 = some .local := S.par _ (by simp)
  have l1 : scope.names.lookup x1 = some .local := S.par _ (by simp)
  have l2 : scope.names.lookup x2 = some .local := S.par _ (by simp)
  refine fn_ofS (N := [x0, x1, x2]) lk hcd S lc (fun vs H Q E h => ?_) fun A outer s H vs Q E hr h => ?_
  · obtain ⟨a, C, xs, rfl, hl, _⟩ := h
    simpa using hl
  · obtain ⟨a, C, xs, rfl, hl, M, ha, hq⟩ := h
    obtain ⟨y, z, rfl⟩ : ∃ y z, xs = [y, z] := by
      match xs, hl with
      | [y, z], _ => exact ⟨y, z, rfl⟩
    let X := cxS P w K mg base [x0, x1, x2] qual scope f (.ref cda) cc A outer s H E
    obtain ⟨e01, e02⟩ := PL.isD_ok d0
    obtain ⟨e11, e12⟩ := PL.isD_ok d1
    obtain ⟨e21, e22⟩ := PL.isD_ok d2
    have v0 : ∀ p, PE X (.Name x0 p) (tVar 0) := fun p => pe_var rfl (.inl l0) e01 e02
    have v1 : ∀ p, PE X (.Name x1 p) (tVar 1) := fun p => pe_var rfl (.inl l1) e11 e12
    have v2 : ∀ p, PE X (.Name x2 p) (tVar 2) := fun p => pe_var rfl (.inl l2) e21 e22
    refine ⟨_, _, first_exc S F lk rfl l0 (pa_cons (v1 q1) (pa_cons (v2 q6) pa_nil (PL.star_cons rfl _ _)) (PL.star_cons rfl _ _)) rfl (by simp) hp, pss_cons (ps_ost (v0 q2) (v1 q4) (hs _)) (pss_one (ps_ost (v0 r2) (v2 r4) (hs2 _))), ?_⟩
    refine ⟨a, C, rfl, M.ox, M.sub, M.sup, M.ve, ha, y, rfl, z, rfl, ?_⟩
    refine ⟨by simp, ha, y, rfl, .ref a, rfl, a, C, rfl, M.ox, M.no _ (by simp), .inl ⟨ha, fun dx hdx hne => ?_⟩⟩
    refine ⟨z, rfl, .ref a, rfl, a, C, rfl, M.ox, M.no _ (by simp), .inr ⟨dx, [(f1, y)], upd_same, by rw [upd_ne hne, upd_same], by simp, ?_⟩⟩
    rw [exo_upd hne]
    refine hq dx _ hdx hne fun g => ?_
    simp only [List.zip_cons_cons, List.zip_nil_right, List.lookup_cons, List.lookup_nil]
    by_cases e1 : g = f1
    · subst e1
      have : (g == f2) = false := beq_eq_false_iff_ne.mpr hf
      simp [this]
    · have : (g == f1) = false := beq_eq_false_iff_ne.mpr e1
      simp [this]
end
end SX

set_option Elab.async false
set_option linter.all false
set_option maxRecDepth 100000
set_option maxHeartbeats 4000000
/-! PL.Exp: the rules for expressions. -/
namespace PL
open PySem L2 PySem.Spec PyProof.Rows
/-- what is static of a text: which defs may be called, at what level -/
structure Tb where
  k : Nat
  fl : String → Option Nat
  ml : String → Option Nat
  cl : String → Option Nat
  kc : String → Bool
  gc : Bool
  ke : Nat := 0
  xc : String → Option (List String) := fun _ => none
  ca : String → Option Nat := fun _ => none
  tb : Bool := false
  cn : Str → Option D := fun _ => none
  gd : Bool := false
/-- what a lambda's body may call -/
def Tb.low (T : Tb) : Tb :=
  { k := T.k - 2, fl := fun f => (T.fl f).filter fun l => decide (l + 2 ≤ T.k), ml := fun f => (T.ml f).filter fun l => decide (l + 2 ≤ T.k), cl := fun f => (T.cl f).filter fun l => decide (l + 3 ≤ T.k),
    kc := T.kc, gc := T.gc, ke := T.ke, xc := fun C => if 4 ≤ T.k then T.xc C else none, cn := T.cn }
def LSp (F : Fx) (g : List D → Mem → Out D) : Sp := fun vs H Q E => ∃ ds w, w.H = H ∧ Rel F w ∧ RpL F w ds vs ∧ Post F (RE F) (fun c dd _ H => E c dd H) [] w (g ds w.m) Q
/-- the def of the name keeps its promise -/
def CallOk (F : Fx) (P : Program) (wd : World) (mg : Str → Option Value) (base : Heap) (lv : Nat) (f : String) (g : List D → Mem → Out D) : Prop :=
  ∃ a fd ps, F.fa f = some a ∧ F.fd f = some (fd, ps) ∧ FnOk P wd F.K mg base (L2.CX P wd) lv a fd ps (LSp F g) ∧ Binds F.K fd ps []
def bltName : Blt → String
  | .len => "len" | .abs => "abs" | .isi => "isinstance" | .tup => "tuple" | .lst => "list" | .all => "all" | .any => "any" | .sum => "sum" | .int => "int" | .gcd => "gcd"
/-- constants as defaults -/
def cstV : D → V
  | .str x => .str (so x)
  | _ => .non
def gPl (p : List (Nat ⊕ D)) (vs zs : List V) : List V := p.map fun
  | .inl i => (vs ++ zs).getD i .non
  | .inr d => cstV d
def PlanOk (F : Fx) (f : String) (n : Nat) (ks : List String) (p : List (Nat ⊕ D)) : Prop := ∃ fd ps g, F.fd f = some (fd, ps) ∧ KBn F.K fd ps n (ks.map so) g (gPl p)
/-- an own exception class: how it is made -/
structure XcOk (F : Fx) (P : Program) (wd : World) (mg : Str → Option Value) (base : Heap) (A D fI : Addr) (fd : FuncData) (ps : List Str) (ns : List Str) : Prop where
  xm : SX.XMk F.K A D ns
  ini : PySem.W.findIn F.K (.ref A) "__init__" = some (some (.ref fI))
  ty : PySem.W.typeIn F.K (.ref fI) = some (.type "function")
  fn : FnOk P wd F.K mg base (L2.CX P wd) 1 fI fd ps (SX.spX F.K D ns)
  bd : Binds F.K fd ps []
def NoW : WXX := fun _ _ _ _ => False
/-- what the def that calls its lambda makes of it: an own exception, or the value -/
def TTc (F : Fx) (mro : String → List String) (g : List D → Mem → Out D) : (XK → Hp → VK → Prop) → Hp → VK → Prop := fun tl H Q =>
  ∃ w0, w0.H = H ∧ Rel F w0 ∧ ∀ w1 (E1 : XK) (R1 : VK), Ex w0 w1 → Rel F w1 → w1.m = w0.m →
    (∀ C ns ds w2 cls d, Ex w1 w2 → Rel F w2 → XR F w2 (.exc C ns ds) cls d → (mro C).contains "RulerError" = true → Post F (RE F) NoW [] w2 (g [.exc C ns ds] w2.m) Q → E1 cls d w2.H) →
    (∀ x w2 v, Ex w1 w2 → Rel F w2 → Rp F w2 x v → Post F (RE F) NoW [] w2 (g [.non, x] w2.m) Q → R1 v w2.H) → tl E1 w1.H R1
def CauOk (F : Fx) (P : Program) (wd : World) (mg : Str → Option Value) (base : Heap) (lv : Nat) (mro : String → List String) (f : String) (g : List D → Mem → Out D) : Prop :=
  ∃ (a : Addr) (x0 : Str) (pg : Arguments) (bg : List Stmt) (sg : Scope) (dV kV doc pm cdv ct oc : Value) (an od : Option Addr) (osl : Array (Option Value)) (Ng : List Str),
    mg (so f) = some (.ref a) ∧ PySem.W.keepIn F.K (.ref a) = true ∧ F.K.lookup a = some ⟨oc, od, .func (PySem.W.fnOf (so f) (so f) pg bg sg dV kV doc pm an cdv ct), osl⟩ ∧ PySem.W.codeIn F.K cdv (so f) = true ∧
    L2.Binds F.K (PySem.W.fnOf (so f) (so f) pg bg sg dV kV doc pm an cdv ct) [x0] [] ∧ FnScope Ng [x0] sg ∧ Ng[0]? = some x0 ∧ Vis sg x0 ∧ isD x0 = true ∧
    ∀ (X : Cx) (q : Str), X.K = F.K → X.prog = P → X.w = wd → X.mg = mg → X.base = base → Room (lv + 1) X.A → LamX.GivesTo X Ng (so f) sg a cdv bg x0 q (TTc F mro g)
/-- further names of built-ins -/
def moreNames : List String := ["repr", "sorted", "max", "min", "set", "reversed", "super", "map", "ord", "chr"]
structure Cok (T : Tb) (F : Fx) (Γ : Gam) (W : WXX) (X : Cx) : Prop where
  hK : X.K = F.K
  calm : X.calm = true
  nd : X.N.Nodup
  tk : Takes X W
  ac : AllC F Γ
  room : Room T.k X.A
  glob : ∀ f lv, T.fl f = some lv → lv ≤ T.k ∧ ∃ a, X.mg (so f) = some (.ref a) ∧ F.fa f = some a ∧ PySem.W.keepIn X.K (.ref a) = true ∧ CallOk F X.prog X.w X.mg X.base lv f (Γ.fn f)
  blt : ∀ b : Blt, b ≠ .gcd → X.mg (so (bltName b)) = none
  rng : X.mg (so "range") = none
  zip : X.mg (so "zip") = none
  enm : X.mg (so "enumerate") = none
  bool : X.mg (so "bool") = none
  str : X.mg (so "str") = none
  dict : X.mg (so "dict") = none
  gcd : T.gc = true → X.mg (so "gcd") = some (.builtin "math.gcd")
  meth : ∀ n lv, T.ml n = some lv → lv ≤ T.k ∧ ∀ C g, Γ.meth C n = some g → F.cx C ≠ none → CallOk F X.prog X.w X.mg X.base lv g (Γ.fn g)
  make : ∀ C lv, T.cl C = some lv → lv + 1 ≤ T.k ∧ ∃ A, F.cx C = some A ∧ X.mg (so C) = some (.ref A) ∧ ∃ g f, Γ.meth C "__init__" = some g ∧ F.fa g = some f ∧ Mk X.K A f ∧ CallOk F X.prog X.w X.mg X.base lv g (Γ.fn g)
  plan : ∀ f n ks p, Γ.plan f n ks = some p → PlanOk F f n ks p
  clk : ∀ C, T.kc C = true → ∃ A, F.ca C = some A
  kke : T.ke ≤ T.k
  cnI : ∀ x i, T.cn x = some (.int i) → ∃ t, X.mg x = some (.int i t)
  cnS : ∀ x y, T.cn x = some (.str y) → ∃ t, X.mg x = some (.str (so y) t)
  eqm : ∀ C g, Γ.meth C "__eq__" = some g → F.cx C ≠ none → ∃ lv, lv + 1 ≤ T.ke ∧ CallOk F X.prog X.w X.mg X.base lv g (Γ.fn g)
  exc : ∀ C ns, T.xc C = some ns → 2 ≤ T.k ∧ ∃ A D fI fd ps, F.xx C = some A ∧ X.mg (so C) = some (.ref A) ∧ XcOk F X.prog X.w X.mg X.base A D fI fd ps (ns.map so)
  cau : ∀ f lv, T.ca f = some lv → lv + 1 ≤ T.k ∧ CauOk F X.prog X.w X.mg X.base lv Γ.mro f (Γ.fn f)
  tab : T.tb = true → ∃ c P, X.env.code = .ref c ∧ LamX.TabB X.base X.mg c P ∧ (P, X.env.qual ++ "<lambda>") ∈ F.tabs ∧ ∀ p ∈ F.tabs, p.1 = P → p.2 = X.env.qual ++ "<lambda>"
  clv : ∀ C A, F.ca C = some A → X.mg (so C) = some (.ref A)
  nb : ∀ n ∈ moreNames, X.mg (so n) = none
  gd : T.gd = true → X.A.guards = some []
def vis (sc : Scope) (x : Str) : Bool := match sc.names.lookup x with
  | some .local => true
  | some .cell => true
  | some .free => true
  | _ => false
theorem vis_ok {sc : Scope} {x : Str} (h : vis sc x = true) : Vis sc x := by
  unfold vis at h
  split at h <;> first | exact .inl (by assumption) | exact .inr (.inl (by assumption)) | exact .inr (.inr (by assumption)) | cases h
def glo (sc : Scope) (x : Str) : Bool := match sc.names.lookup x with
  | some .globalImplicit => true
  | _ => false
theorem glo_ok {X : Cx} {x : Str} (h : glo X.env.scope x = true) : Gl X x := by
  unfold glo at h
  split at h
  · assumption
  · cases h
def loc (sc : Scope) (x : Str) : Bool := match sc.names.lookup x with
  | some .local => true
  | some .cell => true
  | _ => false
theorem loc_ok {sc : Scope} {x : Str} (h : loc sc x = true) : Loc sc x := by
  unfold loc at h
  split at h <;> first | exact .inl (by assumption) | exact .inr (by assumption) | cases h
def noSup : Expr → Bool
  | .Call (.Name _ _) [] _ _ => false
  | _ => true
theorem base_any {o : Expr} (h : noSup o = true) (m : Str) (env : PySem.Env) (w : Sem Value) : attributeBase o m env w = w := by
  cases o with
  | Call f as kws pos =>
    cases f with
    | Name x p => cases as with
      | nil => cases h
      | cons a as => rfl
    | _ => cases as <;> rfl
  | _ => rfl
theorem meth_form {o : Expr} {m : Str} {apos pos : Pos} {es : List Expr} {env : PySem.Env} (h1 : noSup o = true) (h2 : es.all noStar = true) (h3 : es.length < 30) (h4 : (apos.endLine == pos.line) = true) :
    eval (.Call (.Attribute o m apos) es [] pos) env = (do
      let ov ← eval o env
      standAt apos.atName
      let (f, first) ← holding [ov] (getMethod ov m (do return (← importBound o env).getD true))
      callWith pos f first (backTo pos (starEach es env)) (backToKw pos (keywordEach [] env))) := by
  show (do
    let ov ← attributeBase o m env (eval o env)
    standAt apos.atName
    methodCall o m apos pos env ov (es.length + 0) (backTo pos (starEach es env)) (backToKw pos (keywordEach [] env))) = _
  rw [base_any h1]
  have hf : methodCallForm (es.length + 0) (backTo pos (starEach es env)) (backToKw pos (keywordEach [] env)) = true := by
    show ((backTo pos (starEach es env)).all (!·.1) && true && decide (es.length + 0 + 0 < 30)) = true
    rw [star_all pos env es h2]
    simp [h3]
  unfold methodCall
  rw [hf]
  unfold calleeOf methodCallPos
  simp only [h4, Bool.not_true, Bool.false_or, if_true]
  rfl
section
variable {T : Tb} {F : Fx} {Γ : Gam} {W : WXX} {X : Cx}
theorem p_var {i : Nat} {x : Str} {pos : Pos} (hN : X.N[i]? = some x) (hv : vis X.env.scope x = true) (hd : (x == ("__debug__" : Str)) = false) (hcd : (x == ("__classdict__" : Str)) = false) : PE X (.Name x pos) (LE F W (ev Γ (.var i))) := by
  refine PEi (pe_var hN (vis_ok hv) hd hcd) fun σ H Q ⟨ρ, w, e, r, s, h⟩ => ?_
  subst e
  simp only [ev] at h
  split at h
  · rename_i d q
    obtain ⟨v, h1, h2⟩ := s.at_ i d q
    exact ⟨v, h1, h.ok r h2⟩
  · exact h.elim
theorem p_int {i : Int} {j : Nat} {pos : Pos} : PE X (.Constant (.int i) j pos) (LE F W (ev Γ (.cst (.int i)))) :=
  PEi pe_int fun σ H Q ⟨ρ, w, e, r, s, h⟩ => by subst e; exact h.ok r (by simp only [RE, Rp])
theorem p_bl {b : Bool} {j : Nat} {pos : Pos} : PE X (.Constant (.bool b) j pos) (LE F W (ev Γ (.cst (.bl b)))) :=
  PEi pe_bl fun σ H Q ⟨ρ, w, e, r, s, h⟩ => by subst e; exact h.ok r (by simp only [RE, Rp])
theorem p_non {j : Nat} {pos : Pos} : PE X (.Constant .none j pos) (LE F W (ev Γ (.cst .non))) :=
  PEi pe_non fun σ H Q ⟨ρ, w, e, r, s, h⟩ => by subst e; exact h.ok r (by simp only [RE, Rp])
theorem p_str {x : String} {y : Str} (hx : y = so x) {j : Nat} {pos : Pos} : PE X (.Constant (.str y) j pos) (LE F W (ev Γ (.cst (.str x)))) :=
  PEi pe_str fun σ H Q ⟨ρ, w, e, r, s, h⟩ => by subst e; subst hx; exact h.ok r (by simp only [RE, Rp])
theorem p_ty {n : String} {x : Str} {pos : Pos} (hg : glo X.env.scope x = true) (hm : X.mg x = none) (hv : bootBuiltins x = some (.type n)) (hn : x ≠ "__name__") (hd : (x == ("__debug__" : Str)) = false) : PE X (.Name x pos) (LE F W (ev Γ (.cst (.ty n)))) :=
  PEi (pe_bltn (v := .ty n) (glo_ok hg) hm hv rfl hn hd) fun σ H Q ⟨ρ, w, e, r, s, h⟩ => by subst e; exact h.ok r (by simp only [RE, Rp])
theorem p_cls {n : String} {A : Addr} {x : Str} {pos : Pos} (hg : glo X.env.scope x = true) (hm : X.mg x = some (.ref A)) (hc : F.ca n = some A) (hd : (x == ("__debug__" : Str)) = false) : PE X (.Name x pos) (LE F W (ev Γ (.cst (.cls n)))) :=
  PEi (pe_glob (v := .ref A) (glo_ok hg) hm rfl hd) fun σ H Q ⟨ρ, w, e, r, s, h⟩ => by subst e; exact h.ok r (by simp only [RE, Rp]; exact ⟨A, rfl, hc⟩)
theorem p_d0 {pos : Pos} : PE X (.Dict [] [] pos) (LE F W (ev Γ (.cst (.dct [] [])))) :=
  PEi pe_dnewK fun σ H Q ⟨ρ, w, e, r, s, h⟩ => by
    subst e
    refine fun p hp => h.okNew r hp ?_
    simp only [RE, Rp]
    exact ⟨p, [], rfl, .inl upd_same, r.nlive_new hp, RpL.nil, RpL.nil⟩
theorem p_cint (C : Cok T F Γ W X) {i : Int} {x : Str} {pos : Pos} (hg : glo X.env.scope x = true) (hc : T.cn x = some (.int i)) (hd : (x == ("__debug__" : Str)) = false) : PE X (.Name x pos) (LE F W (ev Γ (.cst (.int i)))) := by
  obtain ⟨t, hm⟩ := C.cnI x i hc
  exact PEi (pe_glob (v := .int i) (glo_ok hg) hm ⟨t, rfl⟩ hd) fun σ H Q ⟨ρ, w, e, r, s, h⟩ => by subst e; exact h.ok r (by simp only [RE, Rp])
theorem p_cstr (C : Cok T F Γ W X) {y : String} {x : Str} {pos : Pos} (hg : glo X.env.scope x = true) (hc : T.cn x = some (.str y)) (hd : (x == ("__debug__" : Str)) = false) : PE X (.Name x pos) (LE F W (ev Γ (.cst (.str y)))) := by
  obtain ⟨t, hm⟩ := C.cnS x y hc
  exact PEi (pe_glob (v := .str (so y)) (glo_ok hg) hm ⟨t, rfl⟩ hd) fun σ H Q ⟨ρ, w, e, r, s, h⟩ => by subst e; exact h.ok r (by simp only [RE, Rp])
variable {a b c : Expr} {fa fb fc : Env → Mem → Out D} {pos : Pos}
theorem p_bin (ac : AllC F Γ) (hK : X.K = F.K) {o : BOp} (ha : PE X a (LE F W fa)) (hb : PE X b (LE F W fb)) :
    PE X (.BinOp a (bopOf o) b pos) (LE F W fun ρ m => (fa ρ m).bind fun x m => (fb ρ m).bind fun y m => .of m (binS o (rd m x) (rd m y))) := by
  refine PEi (pe_op (hK ▸ bin_opR o) ha hb) fun σ H Q ⟨ρ, w, e, r, s, h⟩ => ?_
  subst e
  refine lft_bind r s h fun x w1 v e1 r1 s1 h1 p1 => ?_
  refine lft_bind r1 s1 p1 fun y w2 u e2 r2 s2 h2 p2 => ?_
  obtain ⟨d, hd, p3⟩ := p2.of
  exact bin_ok ac.nk r2 (Rp.ex e2 _ _ h1) h2 hd p3
theorem p_neg (ha : PE X a (LE F W fa)) : PE X (.UnaryOp .USub a pos) (LE F W fun ρ m => (fa ρ m).bind fun x m => match x with
    | .int i => .ok (.int (-i)) m
    | _ => .stk) := by
  refine PEi (pe_un un_neg ha) fun σ H Q ⟨ρ, w, e, r, s, h⟩ => ?_
  subst e
  refine lft_bind r s h fun x w1 v e1 r1 s1 h1 p1 => ?_
  split at p1
  · simp only [RE, Rp] at h1
    subst h1
    exact ⟨_, rfl, p1.ok r1 (by simp only [RE, Rp])⟩
  · exact p1.elim
theorem bind_assoc {α β γ : Type} (o : Out α) (f : α → Mem → Out β) (g : β → Mem → Out γ) : (o.bind f).bind g = o.bind fun x m => (f x m).bind g := by cases o <;> rfl
/-- a test -/
def evT (f : Env → Mem → Out D) : Env → Mem → Out Bool := fun ρ m => (f ρ m).bind fun x m => .of m (truth m x)
theorem p_truth (hK : X.K = F.K) (ha : PE X a (LE F W fa)) (he : ∀ whole, isTrue a X.env whole = (do let v ← whole; standAt a.pos; holding [v] (truthy v))) : PT X a (LT F W (evT fa)) := by
  refine PTi (pt_truth ha he) fun σ H Q ⟨ρ, w, e, r, s, h⟩ => ?_
  subst e
  refine lft_bind r s h fun x w1 v e1 r1 s1 h1 p1 => ?_
  obtain ⟨d, hd, p3⟩ := p1.of
  exact ⟨d, hK ▸ truth_ok r1 h1 hd, p3.ok r1 rfl⟩
theorem p_not (hK : X.K = F.K) (ha : PE X a (LE F W fa)) : PE X (.UnaryOp .Not a pos) (LE F W fun ρ m => (fa ρ m).bind fun x m => .of m ((truth m x).map fun c => .bl (!c))) := by
  refine PEi (pe_notT ha) fun σ H Q ⟨ρ, w, e, r, s, h⟩ => ?_
  subst e
  refine lft_bind r s h fun x w1 v e1 r1 s1 h1 p1 => ?_
  obtain ⟨d, hd, p3⟩ := p1.of
  obtain ⟨k, hk, rfl⟩ := Option.map_eq_some_iff.mp hd
  exact ⟨k, hK ▸ truth_ok r1 h1 hk, p3.ok r1 (by simp only [RE, Rp])⟩
theorem pt_not_ (ha : PT X a (LT F W (evT fa))) : PT X (.UnaryOp .Not a pos) (LT F W (evT fun ρ m => (fa ρ m).bind fun x m => .of m ((truth m x).map fun c => .bl (!c)))) := by
  refine PTi (pt_not ha) fun σ H Q ⟨ρ, w, e, r, s, h⟩ => ?_
  subst e
  unfold evT at h
  dsimp only at h
  refine lft_bind (R := RT) (R2 := RT) (Q := Q) (k := fun c m => .ok (!c) m) r s ?_ fun x w1 v e1 r1 s1 h1 p1 => ?_
  · unfold evT
    cases q : fa ρ w.m with
    | ok x m =>
      rw [q] at h
      simp only [Out.bind_ok] at h ⊢
      cases ht : truth m x with
      | none => rw [ht] at h; exact h
      | some t => rw [ht] at h; exact h
    | err x m => rw [q] at h; exact h
    | stk => rw [q] at h; exact h
  · cases h1
    exact Post.ok (R := RT) p1 r1 rfl
theorem p_and (hK : X.K = F.K) {rest : List Expr} (ha : PE X a (LE F W fa)) (hb : PE X (.BoolOp .And (b :: rest) pos) (LE F W fb)) :
    PE X (.BoolOp .And (a :: b :: rest) pos) (LE F W fun ρ m => (fa ρ m).bind fun x m => match truth m x with
      | some true => fb ρ m
      | some false => .ok x m
      | none => .stk) := by
  refine PEi (pe_andT ha hb) fun σ H Q ⟨ρ, w, e, r, s, h⟩ => ?_
  subst e
  refine lft_bind r s h fun x w1 v e1 r1 s1 h1 p1 => ?_
  split at p1
  · rename_i q
    exact ⟨true, hK ▸ truth_ok r1 h1 q, iteT ⟨ρ, w1, rfl, r1, s1, p1⟩⟩
  · rename_i q
    exact ⟨false, hK ▸ truth_ok r1 h1 q, iteF (p1.ok r1 h1)⟩
  · exact p1.elim
theorem p_or (hK : X.K = F.K) {rest : List Expr} (ha : PE X a (LE F W fa)) (hb : PE X (.BoolOp .Or (b :: rest) pos) (LE F W fb)) :
    PE X (.BoolOp .Or (a :: b :: rest) pos) (LE F W fun ρ m => (fa ρ m).bind fun x m => match truth m x with
      | some true => .ok x m
      | some false => fb ρ m
      | none => .stk) := by
  refine PEi (pe_orT ha hb) fun σ H Q ⟨ρ, w, e, r, s, h⟩ => ?_
  subst e
  refine lft_bind r s h fun x w1 v e1 r1 s1 h1 p1 => ?_
  split at p1
  · rename_i q
    exact ⟨true, hK ▸ truth_ok r1 h1 q, iteT (p1.ok r1 h1)⟩
  · rename_i q
    exact ⟨false, hK ▸ truth_ok r1 h1 q, iteF ⟨ρ, w1, rfl, r1, s1, p1⟩⟩
  · exact p1.elim
/-- a test behind which something hangs on its answer -/
theorem lt_split {fx : Env → Mem → Out D} {γ δ : Type} {R2 : Wo → γ → δ → Prop} {σ : L2.St} {ρ : Env} {w : Wo} {kt kf : D → Mem → Out γ} {Q : δ → Hp → Prop} {Q1 : Bool → Hp → Prop} (r : Rel F w) (s : SR F w ρ σ)
    (h : Post F R2 W σ w ((fx ρ w.m).bind fun x m => match truth m x with
      | some true => kt x m
      | some false => kf x m
      | none => .stk) Q) (hk : ∀ b x w1, Ex w w1 → Rel F w1 → SR F w1 ρ σ → truth w1.m x = some b → Post F R2 W σ w1 (if b = true then kt x w1.m else kf x w1.m) Q → Q1 b w1.H) : Lft F W RT (evT fx) σ w.H Q1 := by
  refine ⟨ρ, w, rfl, r, s, ?_⟩
  unfold evT
  cases q : fx ρ w.m with
  | ok x m =>
    rw [q] at h
    simp only [Out.bind_ok] at h ⊢
    cases ht : truth m x with
    | none => rw [ht] at h; exact h
    | some t =>
      rw [ht] at h
      intro w' v h1 h2 h3 h4
      subst h1
      cases h4
      refine hk t x w' h2 h3 (s.ex h2) ht ?_
      cases t with
      | true => exact Post.ext (R := R2) h h2
      | false => exact Post.ext (R := R2) h h2
  | err x m => rw [q] at h; exact h
  | stk => rw [q] at h; exact h
theorem pw_and_ {rest : List Expr} (ha : PT X a (LT F W (evT fa))) (hb : PW X (.BoolOp .And (b :: rest) pos) (LT F W (evT fb))) :
    PW X (.BoolOp .And (a :: b :: rest) pos) (LT F W (evT fun ρ m => (fa ρ m).bind fun x m => match truth m x with
      | some true => fb ρ m
      | some false => .ok x m
      | none => .stk)) := by
  refine PWi (pw_and ha hb) fun σ H Q ⟨ρ, w, e, r, s, h⟩ => ?_
  subst e
  unfold evT at h
  dsimp only at h
  rw [bind_assoc] at h
  refine lt_split (kt := fun x m => (fb ρ m).bind fun x m => .of m (truth m x)) (kf := fun x m => .of m (truth m x)) (R2 := RT) (Q := Q) r s ?_ fun t x w1 e1 r1 s1 ht p => ?_
  · cases q : fa ρ w.m with
    | ok x m =>
      rw [q] at h
      simp only [Out.bind_ok] at h ⊢
      cases ht : truth m x with
      | none => rw [ht] at h; exact h
      | some t => cases t <;> (rw [ht] at h; first | exact h | (simp only [Out.bind_ok, ht] at h; exact h))
    | err x m => rw [q] at h; exact h
    | stk => rw [q] at h; exact h
  · cases t with
    | true => exact iteT ⟨ρ, w1, rfl, r1, s1, p⟩
    | false =>
      refine iteF ?_
      simp only [Bool.false_eq_true, if_false, ht] at p
      exact Post.ok (R := RT) p r1 rfl
theorem pw_or_ {rest : List Expr} (ha : PT X a (LT F W (evT fa))) (hb : PW X (.BoolOp .Or (b :: rest) pos) (LT F W (evT fb))) :
    PW X (.BoolOp .Or (a :: b :: rest) pos) (LT F W (evT fun ρ m => (fa ρ m).bind fun x m => match truth m x with
      | some true => .ok x m
      | some false => fb ρ m
      | none => .stk)) := by
  refine PWi (pw_or ha hb) fun σ H Q ⟨ρ, w, e, r, s, h⟩ => ?_
  subst e
  unfold evT at h
  dsimp only at h
  rw [bind_assoc] at h
  refine lt_split (kf := fun x m => (fb ρ m).bind fun x m => .of m (truth m x)) (kt := fun x m => .of m (truth m x)) (R2 := RT) (Q := Q) r s ?_ fun t x w1 e1 r1 s1 ht p => ?_
  · cases q : fa ρ w.m with
    | ok x m =>
      rw [q] at h
      simp only [Out.bind_ok] at h ⊢
      cases ht : truth m x with
      | none => rw [ht] at h; exact h
      | some t => cases t <;> (rw [ht] at h; first | exact h | (simp only [Out.bind_ok, ht] at h; exact h))
    | err x m => rw [q] at h; exact h
    | stk => rw [q] at h; exact h
  · cases t with
    | false => exact iteF ⟨ρ, w1, rfl, r1, s1, p⟩
    | true =>
      refine iteT ?_
      simp only [if_true, ht] at p
      exact Post.ok (R := RT) p r1 rfl
theorem p_ife (hc : PT X c (LT F W (evT fc))) (ha : PE X a (LE F W fa)) (hb : PE X b (LE F W fb)) :
    PE X (.IfExp c a b pos) (LE F W fun ρ m => (fc ρ m).bind fun x m => match truth m x with
      | some true => fa ρ m
      | some false => fb ρ m
      | none => .stk) := by
  refine PEi (pe_ifExp hc ha hb) fun σ H Q ⟨ρ, w, e, r, s, h⟩ => ?_
  subst e
  refine lt_split (kt := fun _ m => fa ρ m) (kf := fun _ m => fb ρ m) r s h fun t x w1 e1 r1 s1 ht p => ?_
  cases t with
  | true => exact iteT ⟨ρ, w1, rfl, r1, s1, p⟩
  | false => exact iteF ⟨ρ, w1, rfl, r1, s1, p⟩
end
end PL

set_option Elab.async false
set_option linter.all false
set_option maxRecDepth 100000
set_option maxHeartbeats 4000000
/-! PL.Call: argument lists, displays, items, attributes, calls. -/
namespace PL
open PySem L2 PySem.Spec PyProof.Rows
section
variable {T : Tb} {F : Fx} {Γ : Gam} {W : WXX} {X : Cx} {a b c e : Expr} {es : List Expr} {fa fb fc fs : Env → Mem → Out D} {pos p apos : Pos}
theorem a_nil : PA X [] (LA F W fun _ m => .ok (.tup []) m) :=
  PAi pa_nil fun σ H Q ⟨ρ, w, e, r, s, h⟩ => by subst e; exact h.ok r ⟨[], rfl, RpL.nil⟩
theorem a_cons (hs : noStar e = true) (ha : PE X e (LE F W fa)) (hr : PA X es (LA F W fs)) : PA X (e :: es) (LA F W fun ρ m => (fa ρ m).bind fun x m => (fs ρ m).bind fun y m => match y with
    | .tup ys => .ok (.tup (x :: ys)) m
    | _ => .stk) := by
  refine PAi (pa_cons ha hr (star_cons hs es X.env)) fun σ H Q ⟨ρ, w, e, r, s, h⟩ => ?_
  subst e
  refine lft_bind r s h fun x w1 v e1 r1 s1 h1 p1 => ?_
  refine lft_bind r1 s1 p1 fun y w2 vs e2 r2 s2 h2 p2 => ?_
  obtain ⟨ds, rfl, h3⟩ := h2
  exact Post.ok (R := RA F) p2 r2 ⟨_, rfl, RpL.cons (Rp.ex e2 _ _ h1) h3⟩
theorem p_tup {k : Nat} (ha : PA X es (LA F W fs)) : PE X (.Tuple es k pos) (LE F W fun ρ m => (fs ρ m).bind fun y m => match y with
    | .tup ys => if ys.length ≤ 16777216 then .ok (.tup ys) m else .stk
    | _ => .stk) := by
  refine PEi (pe_tup ha) fun σ H Q ⟨ρ, w, e, r, s, h⟩ => ?_
  subst e
  refine lft_bind r s h fun x w1 vs e1 r1 s1 h1 p1 => ?_
  obtain ⟨ds, rfl, h3⟩ := h1
  dsimp only at p1
  split at p1
  · rename_i hl
    exact ⟨by rw [← h3.length, sizeLine_eq]; exact hl, fun p hp => p1.okNew r1 hp (Rp.newTup r1 hp h3)⟩
  · exact p1.elim
theorem p_lst (ha : PA X es (LA F W fs)) : PE X (.List es pos) (LE F W fun ρ m => (fs ρ m).bind fun y m => match y with
    | .tup ys => if ys.length ≤ 16777216 then .ok (.lst ys) m else .stk
    | _ => .stk) := by
  refine PEi (pe_lst ha) fun σ H Q ⟨ρ, w, e, r, s, h⟩ => ?_
  subst e
  refine lft_bind r s h fun x w1 vs e1 r1 s1 h1 p1 => ?_
  obtain ⟨ds, rfl, h3⟩ := h1
  dsimp only at p1
  split at p1
  · rename_i hl
    exact ⟨by rw [← h3.length, sizeLine_eq]; exact hl, fun p hp => p1.okNew r1 hp (Rp.newLst r1 hp h3)⟩
  · exact p1.elim
theorem pyIx_eq (n : Nat) (i : Int) : pyIx n i = ixN n i := rfl
def plIx : Expr → Bool
  | .Slice _ _ _ _ => false
  | _ => true
theorem plIx_ok {b : Expr} (h : plIx b = true) : PlainIx b := by
  intro o i
  cases b <;> first | rfl | (cases h; done)
theorem p_ix (hK : X.K = F.K) (hb0 : plIx b = true) (ha : PE X a (LE F W fa)) (hb : PE X b (LE F W fb)) :
    PE X (.Subscript a b pos) (LE F W fun ρ m => (fa ρ m).bind fun x m => (fb ρ m).bind fun y m => .of m (ixS m x y)) := by
  refine PEi (pe_ix ix_seq ha hb (plIx_ok hb0)) fun σ H Q ⟨ρ, w, e, r, s, h⟩ => ?_
  subst e
  refine lft_bind r s h fun x w1 v e1 r1 s1 h1 p1 => ?_
  refine lft_bind r1 s1 p1 fun y w2 u e2 r2 s2 h2 p2 => ?_
  obtain ⟨d, hd, p3⟩ := p2.of
  unfold ixS at hd
  split at hd
  · rename_i ds k q
    simp only [RE, Rp] at h2
    subst h2
    obtain ⟨j, hj, hd⟩ := Option.bind_eq_some_iff.mp hd
    obtain ⟨ad, xs, rfl, h4, h5⟩ := items_sq r2 (Rp.ex e2 _ _ h1) q
    obtain ⟨z, hz, h6⟩ := h5.get hd
    have hat : atI xs k = some z := by
      unfold atI
      rw [← h5.length, ← pyIx_eq, hj]
      exact hz
    rw [hK]
    rcases h4 with h4 | h4
    · exact .inl ⟨ad, xs, k, z, rfl, rfl, h4, hat, p3.ok r2 h6⟩
    · exact .inr (.inl ⟨ad, xs, k, z, rfl, rfl, h4, hat, p3.ok r2 h6⟩)
  · cases hd
theorem sxN_eq (n d : Nat) (o : Option Int) : sxN n d o = HT.sIx n d o := by
  cases o with
  | none => rfl
  | some v =>
    unfold sxN HT.sIx
    dsimp only
    by_cases h : 0 ≤ v
    · rw [if_pos h, if_neg (by omega)]
    · rw [if_neg h, if_pos (by omega), Int.add_comm]
theorem RpL.drop {w : Wo} : ∀ (n : Nat) {ds : List D} {xs : List V}, RpL F w ds xs → RpL F w (ds.drop n) (xs.drop n)
  | 0, _, _, h => h
  | n + 1, [], xs, h => by simp only [RpL] at h; subst h; exact RpL.nil
  | n + 1, d :: ds, xs, h => by
    simp only [RpL] at h
    obtain ⟨x, ys, rfl, _, h2⟩ := h
    exact RpL.drop n h2
theorem RpL.take {w : Wo} : ∀ (n : Nat) {ds : List D} {xs : List V}, RpL F w ds xs → RpL F w (ds.take n) (xs.take n)
  | 0, _, _, h => RpL.nil
  | n + 1, [], xs, h => by simp only [RpL] at h; subst h; exact RpL.nil
  | n + 1, d :: ds, xs, h => by
    simp only [RpL] at h
    obtain ⟨x, ys, rfl, h1, h2⟩ := h
    exact RpL.cons h1 (RpL.take n h2)
theorem RpL.cutV {w : Wo} {ds : List D} {xs : List V} (h : RpL F w ds xs) (l u : Option Int) : RpL F w (cutD ds l u) (cutV xs l u) := by
  unfold cutD L2.cutV
  rw [sxN_eq, sxN_eq, h.length]
  exact (h.drop _).take _
/-- a slice's part -/
def evP (t : E) (f : Env → Mem → Out D) : Env → Mem → Out (Option Int) := fun ρ m => (f ρ m).bind fun d m => .of m (partD t d)
def RPt : Wo → Option Int → Option Int → Prop := fun _ a b => a = b
abbrev LP (F : Fx) (W : WXX) (f : Env → Mem → Out (Option Int)) : TO := Lft F W RPt f
theorem POi {e : Option Expr} {t t' : TO} (h : PO X e t) (hi : ∀ σ H Q, t' σ H Q → t σ H Q) : PO X e t' := ⟨fun pins s σ H Q I q => h.run pins s σ H Q I (hi σ H Q q)⟩
theorem po_no : PO X none (LP F W (evP .nil (ev Γ .nil))) := by
  refine POi po_none fun σ H Q ⟨ρ, w, e, r, s, h⟩ => ?_
  subst e
  exact Post.ok (R := RPt) (d := none) h r rfl
theorem po_yes {e : Expr} {t : E} {f : Env → Mem → Out D} (ht : t ≠ .nil) (he : PE X e (LE F W f)) : PO X (some e) (LP F W (evP t f)) := by
  refine POi (po_some he) fun σ H Q ⟨ρ, w, e, r, s, h⟩ => ?_
  subst e
  refine lft_bind (R2 := RPt) (k := fun d m => .of m (partD t d)) r s h fun x w1 v e1 r1 s1 h1 p1 => ?_
  obtain ⟨o, ho, p2⟩ := p1.of
  have hi : ∃ i, x = .int i ∧ o = some i := by
    unfold partD at ho
    split at ho
    · exact absurd rfl ht
    · split at ho
      · cases ho; exact ⟨_, rfl, rfl⟩
      · cases ho
  obtain ⟨i, rfl, rfl⟩ := hi
  simp only [RE, Rp] at h1
  exact ⟨i, h1, Post.ok (R := RPt) p2 r1 rfl⟩
theorem p_sl {lo hi : Option Expr} {tl th : E} {fl fh : Env → Mem → Out D} {p2 : Pos} (hK : X.K = F.K) (ha : PE X a (LE F W fa)) (hl : PO X lo (LP F W (evP tl fl))) (hh : PO X hi (LP F W (evP th fh))) :
    PE X (.Subscript a (.Slice lo hi none p2) pos) (LE F W fun ρ m => (fa ρ m).bind fun x m => (evP tl fl ρ m).bind fun l m => (evP th fh ρ m).bind fun u m => .of m (slS l u (rd m x))) := by
  refine PEi (pe_slice (SlR.or sl_tupA sl_list) ha hl hh) fun σ H Q ⟨ρ, w, e, r, s, h⟩ => ?_
  subst e
  refine lft_bind r s h fun x w1 v e1 r1 s1 h1 p1 => ?_
  refine lft_bind (R := RPt) r1 s1 p1 fun l w2 l' e2 r2 s2 h2 p2 => ?_
  refine lft_bind (R := RPt) r2 s2 p2 fun u w3 u' e3 r3 s3 h3 p3 => ?_
  cases h2
  cases h3
  obtain ⟨d, hd, p4⟩ := p3.of
  have hx := Rp.ex (e2.trans e3) _ _ h1
  rw [hK]
  have lst : ∀ {ad : Addr} {ds : List D} {xs : List V}, SqL F.K w3.H ad xs → RpL F w3 ds xs → d = .lst (cutD ds l u) → rSlL F.K (.ref ad) l u w3.H Q := fun {ad ds xs} q1 q2 e => by
    subst e
    exact ⟨ad, xs, rfl, q1, fun p hp => p4.okNew r3 hp (Rp.newLst r3 hp (q2.cutV l u))⟩
  cases x with
  | tup ds =>
    simp only [rd, slS, Option.some.injEq] at hd
    subst hd
    simp only [Rp] at hx
    obtain ⟨ad, xs, rfl, q1, q2⟩ := hx
    refine .inl ⟨ad, xs, rfl, q1.sq, fun ⟨c1, c2⟩ => ?_, fun _ p hp => p4.okNew r3 hp (Rp.newTup r3 hp (q2.cutV l u))⟩
    refine p4.ok r3 ?_
    have : cutD ds l u = ds := by
      unfold cutD
      rw [sxN_eq, sxN_eq, q2.length, c1, c2, Nat.sub_zero, List.drop_zero, ← q2.length, List.take_length]
    rw [this]
    simp only [RE, Rp]
    exact ⟨ad, xs, rfl, q1, q2⟩
  | lst ds =>
    simp only [rd, slS, Option.some.injEq] at hd
    simp only [Rp] at hx
    obtain ⟨ad, xs, rfl, q1, q2⟩ := hx
    exact .inr (lst q1.sq q2 hd.symm)
  | ref i =>
    simp only [Rp] at hx
    obtain ⟨ad, rfl, hi⟩ := hx
    cases q : w3.m[i]? with
    | none => simp [rd, q, slS] at hd
    | some o =>
      cases o with
      | lst ds =>
        simp only [rd, q, slS, Option.some.injEq] at hd
        obtain ⟨xs, q1, q2⟩ := r3.ob i ad _ hi q
        exact .inr (lst (SqL.of q1) q2 hd.symm)
      | _ => simp [rd, q, slS] at hd
  | _ => simp [rd, slS] at hd
/-- a o b p c -/
def chnF (o p : COp) (fa fb fc : Env → Mem → Out D) : Env → Mem → Out D := fun ρ m => (fa ρ m).bind fun x m => (fb ρ m).bind fun y m => match cmpS m o x y with
    | some true => (fc ρ m).bind fun z m => .of m ((cmpS m p y z).map .bl)
    | some false => .ok (.bl false) m
    | none => .stk
theorem chn_bl {o p : COp} {fa fb fc : Env → Mem → Out D} {ρ : Env} {m m' : Mem} {d : D} (h : chnF o p fa fb fc ρ m = .ok d m') : ∃ k, d = .bl k := by
  unfold chnF at h
  cases q1 : fa ρ m with
  | err _ _ => rw [q1] at h; cases h
  | stk => rw [q1] at h; cases h
  | ok x m1 =>
    rw [q1] at h
    simp only [Out.bind_ok] at h
    cases q2 : fb ρ m1 with
    | err _ _ => rw [q2] at h; cases h
    | stk => rw [q2] at h; cases h
    | ok y m2 =>
      rw [q2] at h
      simp only [Out.bind_ok] at h
      cases q3 : cmpS m2 o x y with
      | none => rw [q3] at h; cases h
      | some k =>
        rw [q3] at h
        cases k with
        | false => cases h; exact ⟨false, rfl⟩
        | true =>
          dsimp only at h
          cases q4 : fc ρ m2 with
          | err _ _ => rw [q4] at h; cases h
          | stk => rw [q4] at h; cases h
          | ok z m3 =>
            rw [q4] at h
            simp only [Out.bind_ok] at h
            cases q5 : cmpS m3 p y z with
            | none => rw [q5] at h; cases h
            | some j => rw [q5] at h; cases h; exact ⟨j, rfl⟩
theorem chn_read (hK : X.K = F.K) {o p : COp} {σ : L2.St} {H : Hp} {Q : VK} (h : LE F W (chnF o p fa fb fc) σ H Q) : tChain (rCmp X.K o) (rCmp X.K p) (LE F W fa) (LE F W fb) (LE F W fc) σ H Q := by
  obtain ⟨ρ, w, e, r, s, h⟩ := h
  subst e
  unfold chnF at h
  refine lft_bind r s h fun x w1 v e1 r1 s1 h1 p1 => ?_
  refine lft_bind r1 s1 p1 fun y w2 u e2 r2 s2 h2 p2 => ?_
  have hx := Rp.ex e2 _ _ h1
  cases q : cmpS w2.m o x y with
  | none => rw [q] at p2; exact p2.elim
  | some k =>
    rw [q] at p2
    rw [hK]
    refine cmp_ok r2 hx h2 q ⟨k, rfl, ?_⟩
    cases k with
    | false => exact p2.ok r2 (by simp only [RE, Rp])
    | true =>
      dsimp only at p2
      refine lft_bind (Q := Q) r2 s2 p2 fun z w3 v3 e3 r3 s3 h3 p3 => ?_
      obtain ⟨d, hd, p4⟩ := p3.of
      obtain ⟨j, hj, rfl⟩ := Option.map_eq_some_iff.mp hd
      exact cmp_ok r3 (Rp.ex e3 _ _ h2) h3 hj (p4.ok r3 (by simp only [RE, Rp]))
theorem p_chn (hK : X.K = F.K) (hu : X.A.units + 64 < cLine) {o p : COp} (hm : lastMarks [copOf o, copOf p] [b, c] = false) (ha : PE X a (LE F W fa)) (hb : PE X b (LE F W fb)) (hc : PE X c (LE F W fc)) : PE X (.Compare a [copOf o, copOf p] [b, c] pos) (LE F W (chnF o p fa fb fc)) :=
  PEi (pe_chain (cmp_opR hu o) (cmp_opR hu p) ha hb hc hm) fun σ H Q h => chn_read hK h
theorem pt_chn (hK : X.K = F.K) (hu : X.A.units + 64 < cLine) {o p : COp} (hm : lastMarks [copOf o, copOf p] [b, c] = false) (ha : PE X a (LE F W fa)) (hb : PE X b (LE F W fb)) (hc : PE X c (LE F W fc)) : PT X (.Compare a [copOf o, copOf p] [b, c] pos) (LT F W (evT (chnF o p fa fb fc))) := by
  refine PTi (pt_chain (cmp_opR hu o) (cmp_opR hu p) ha hb hc hm) fun σ H Q ⟨ρ, w, e, r, s, h⟩ => ?_
  refine chn_read hK ⟨ρ, w, e, r, s, ?_⟩
  unfold evT at h
  cases q : chnF o p fa fb fc ρ w.m with
  | ok d m =>
    rw [q] at h
    obtain ⟨k, rfl⟩ := chn_bl q
    intro w' v h1 h2 h3 h4
    simp only [RE, Rp] at h4
    exact ⟨k, h4, h w' k h1 h2 h3 rfl⟩
  | err x m => rw [q] at h; exact h
  | stk => rw [q] at h; exact h
theorem p_att (C : Cok T F Γ W X) {f : String} {fX : Str} (hf : fX = so f) (hs : noSup a = true) (ha : PE X a (LE F W fa)) :
    PE X (.Attribute a fX pos) (LE F W fun ρ m => (fa ρ m).bind fun x m => .of m (attS Γ m f x)) := by
  subst hf
  refine PEi (PLX.pe_fx ha (base_any hs _ _ _)) fun σ H Q ⟨ρ, w, e, r, s, h⟩ => ?_
  subst e
  refine lft_bind r s h fun x w1 v e1 r1 s1 h1 p1 => ?_
  obtain ⟨d, hd, p3⟩ := p1.of
  rw [C.hK]
  by_cases hx : ∃ c ns ds, x = .exc c ns ds
  · obtain ⟨c, ns, ds, rfl⟩ := hx
    simp only [RE, Rp] at h1
    obtain ⟨ad, A, dd, fs, xs, rfl, h2, h3, _, h4, _, h5, h6, h7⟩ := h1
    have q := C.ac.exc c A h2
    unfold attS at hd
    simp only at hd
    split at hd
    · rename_i hfld
      obtain ⟨y, hy, h8⟩ := look_rp h7 h6 hd
      exact .inr ⟨ad, A, dd, fs, y, rfl, h3, h4, q.xf, q.na f hfld, by rw [h5]; exact hy, p3.ok r1 h8⟩
    · cases hd
  have hc : ∃ c, clsOf w1.m x = some c ∧ Γ.fld c f = true := by
    unfold attS at hd
    split at hd
    · split at hd
      · exact ⟨_, rfl, by assumption⟩
      · cases hd
    · exact absurd ⟨_, _, _, rfl⟩ hx
    · split at hd
      · rename_i q
        split at hd
        · exact ⟨_, by simp only [clsOf, q]; rfl, by assumption⟩
        · cases hd
      · cases hd
    · cases hd
  obtain ⟨c, hc, hfld⟩ := hc
  obtain ⟨ad, A, dx, fs, rfl, h2, h3, h4⟩ := ins_of r1 h1 hc
  obtain ⟨h5, y, h6, h7⟩ := h4 Γ f d hd
  have q := C.ac.cls c A h2
  exact .inl ⟨ad, A, dx, fs, y, rfl, h3, q.cl, q.na f hfld, h6, p3.ok r1 h7⟩
/-! ### calls -/
theorem callWithG {k : Addr} (I : PySem.W.keepIn X.K (.ref k) = true) (hst : es.all noStar = true) (ha : PA X es (LA F W fs)) (hn : es = [] → fs = fun _ m => .ok (.tup []) m) {pins : List (Addr × Obj)} {s : Shared} {σ : L2.St} {H : Hp} {first : List Value} {Q : Value → Shared → Prop} (J : Inv X pins σ H s) {R : List V → Hp → Prop} (h : LA F W fs σ H R)
    (hr : ∀ us vs H1 s1, Inv X pins σ H1 s1 → Vals vs us → R vs H1 → wpAny (model X.prog X.w) X.A (call (.ref k) (first ++ us)) Q X.xe s1) :
    wpAny (model X.prog X.w) X.A (callWith pos (.ref k) first (backTo pos (starEach es X.env)) []) Q X.xe s := by
  cases es with
  | nil =>
    have hn := hn rfl
    subst hn
    obtain ⟨ρ, w, e, r, s0, h⟩ := h
    subst e
    exact PySem.W.callWith_K0 (first := first) J.kIn I (hr [] [] _ s J .nil (h.ok r ⟨[], rfl, RpL.nil⟩))
  | cons a as =>
    rw [List.all_cons, Bool.and_eq_true] at hst
    exact PySem.W.callWith_K (first := first) (h₀ := X.base) J.ok.mod.kin I (thn (ha.run pos pins s σ H R J h) fun us s2 ⟨vs, H2, I2, r, q2⟩ => ⟨I2.kIn, hr us vs H2 s2 I2 r q2⟩) (star_cons hst.1 as X.env) (star_any pos X.env as hst.2)
/-- what a callee's promise asks -/
theorem lsp_of {g : List D → Mem → Out D} {σ : L2.St} {w : Wo} {ds : List D} {vs : List V} {Q : VK} (r : Rel F w) (h : RpL F w ds vs) (p : Post F (RE F) W σ w (g ds w.m) Q) : LSp F g vs w.H Q (WE W σ) := by
  refine ⟨ds, w, rfl, r, h, ?_⟩
  cases q : g ds w.m with
  | ok d m => rw [q] at p; exact p
  | err x m => rw [q] at p; exact p
  | stk => rw [q] at p; exact p
theorem p_call (C : Cok T F Γ W X) {f : String} {lv : Nat} {x : Str} (hx : x = so f) (hf : T.fl f = some lv) (hg : glo X.env.scope x = true) (hd : (x == ("__debug__" : Str)) = false) (hst : es.all noStar = true) (ha : PA X es (LA F W fs)) (hn : es = [] → fs = fun _ m => .ok (.tup []) m) :
    PE X (.Call (.Name x p) es [] pos) (LE F W fun ρ m => (fs ρ m).bind fun y m => match y with
      | .tup ys => Γ.fn f ys m
      | _ => .stk) := by
  subst hx
  obtain ⟨hlv, a, hm, hfa, hk, a', fd, ps, hfa', _, G, B⟩ := C.glob f lv hf
  rw [hfa] at hfa'
  cases hfa'
  have hK := C.hK
  refine ⟨fun pins s σ H Q I h => ?_⟩
  refine wpAny_Call_Name_kw (ld_glob I (glo_ok hg) hm ?_ hd)
  refine callWithG (first := []) (R := fun vs H1 => LSp F (Γ.fn f) vs H1 Q (WE W σ)) hk hst ha hn I ?_ fun us vs H1 s1 I1 rv q => ?_
  · obtain ⟨ρ, w, e, r, s0, h⟩ := h
    subst e
    refine lft_bind r s0 h fun y w1 vs e1 r1 s1 h1 p1 => ?_
    obtain ⟨ds, rfl, h2⟩ := h1
    exact lsp_of r1 h2 p1
  · exact run_fnSD (dvs := []) (ds := []) (E := WE W) (hK ▸ G) (C.room.mono hlv) (hK ▸ B) .nil (passAt C.tk σ) I1 rv (by rw [List.append_nil]; exact q)
theorem noA {w : Wo} (r : Rel F w) {d : D} {a A dx : Addr} {fls : List (Str × V)} {n c : String} (h : Rp F w d (.ref a)) (hc : clsOf w.m d = some c) (e : w.H a = some (.ins A dx fls)) (hA : ¬ hasA w.m n d = true) : fls.lookup (so n) = none := by
  have look : ∀ (ns : List String) (xs : List V), ns.length = xs.length → ns.contains n = false → ((ns.map so).zip xs).lookup (so n) = none := by
    intro ns
    induction ns with
    | nil => intro xs _ _; rfl
    | cons m ns ih =>
      intro xs hl hcn
      cases xs with
      | nil => rfl
      | cons y ys =>
        simp only [List.contains_cons, Bool.or_eq_false_iff] at hcn
        simp only [List.map_cons, List.zip_cons_cons, List.lookup_cons]
        rw [beq_so, hcn.1]
        exact ih ys (by simpa using hl) hcn.2
  cases d with
  | obj C ns ds =>
    simp only [Rp] at h
    obtain ⟨b, B, dy, gs, xs, h1, h2, h3, h4, h5, h6, h7⟩ := h
    cases h1
    rw [h3] at e
    cases e
    rw [h5]
    exact look ns xs h6 (by simpa [hasA] using hA)
  | ref i =>
    simp only [Rp] at h
    obtain ⟨b, h1, h2⟩ := h
    cases h1
    simp only [clsOf] at hc
    split at hc
    · rename_i C' ns ds q
      obtain ⟨B, dy, gs, xs, g1, g2, g3, g4, g5⟩ := r.ob i a _ h2 q
      rw [g2] at e
      cases e
      rw [g3]
      exact look ns xs g4 (by simpa [hasA, q] using hA)
    · cases hc
  | _ => simp [clsOf] at hc
theorem p_meth (C : Cok T F Γ W X) {n : String} {lv : Nat} {nX : Str} (hx : nX = so n) (hf : T.ml n = some lv) (hs : noSup a = true) (hst : es.all noStar = true) (hl : es.length < 30) (hp : (apos.endLine == pos.line) = true) (ho : PE X a (LE F W fa)) (ha : PA X es (LA F W fs)) (hn : es = [] → fs = fun _ m => .ok (.tup []) m) :
    PE X (.Call (.Attribute a nX apos) es [] pos) (LE F W fun ρ m => (fa ρ m).bind fun x m => match (clsOf m x).bind fun C => Γ.meth C n with
      | some f => if hasA m n x then .stk else (fs ρ m).bind fun y m => match y with
        | .tup ys => Γ.fn f (x :: ys) m
        | _ => .stk
      | none => .stk) := by
  subst hx
  obtain ⟨hlv, hG⟩ := C.meth n lv hf
  have hK := C.hK
  refine ⟨fun pins s σ H Q I h => ?_⟩
  obtain ⟨ρ, w, e, r, s0, h⟩ := h
  subst e
  refine PySem.W.methodCall_KW (thn (ho.run pins s σ w.H (fun v H1 => ∃ w1 x, w1.H = H1 ∧ Rel F w1 ∧ SR F w1 ρ σ ∧ Rp F w1 x v ∧ Post F (RE F) W σ w1 (match (clsOf w1.m x).bind fun C => Γ.meth C n with
      | some f => if hasA w1.m n x then .stk else (fs ρ w1.m).bind fun y m => match y with
        | .tup ys => Γ.fn f (x :: ys) m
        | _ => .stk
      | none => .stk) Q) I ?_) fun u s1 hh => ?_) (meth_form hs hst hl hp)
  · exact lft_bind r s0 h fun x w1 v e1 r1 s1 h1 p1 => ⟨w1, x, rfl, r1, s1, h1, p1⟩
  obtain ⟨v, H1, I1, rv, w1, x, e1, r1, s01, h1, p1⟩ := hh
  subst e1
  split at p1
  · rename_i f q
    obtain ⟨c, hc, hm⟩ := Option.bind_eq_some_iff.mp q
    split at p1
    · exact p1.elim
    · rename_i hA
      obtain ⟨ad, A, dx, fls, rfl, h2, h3, h4⟩ := ins_of r1 h1 hc
      obtain rfl : u = Value.ref ad := rv
      have qc := C.ac.cls c A h2
      obtain ⟨g, hg, M⟩ := qc.me n f hm
      obtain ⟨g', fd, ps, hg', _, G, B⟩ := hG c f hm (by rw [h2]; simp)
      rw [hg] at hg'
      cases hg'
      have hno : fls.lookup (so n) = none := noA r1 h1 hc h3 hA
      refine getmeth_ok I1 h3 (hK ▸ qc.cl) (hK ▸ M) hno ?_
      refine callWithG (first := [.ref ad]) (R := fun vs H1 => LSp F (Γ.fn f) (.ref ad :: vs) H1 Q (WE W σ)) (hK ▸ M.kp) hst ha hn I1 ?_ fun us vs H2 s2 I2 rv q => ?_
      · refine lft_bind r1 s01 p1 fun y w2 vs e2 r2 s2 h5 p2 => ?_
        obtain ⟨ds, rfl, h6⟩ := h5
        exact lsp_of r2 (RpL.cons (Rp.ex e2 _ _ h1) h6) p2
      · exact run_fnSD (us := .ref ad :: us) (vs := .ref ad :: vs) (dvs := []) (ds := []) (E := WE W) (hK ▸ G) (C.room.mono hlv) (hK ▸ B) .nil (passAt C.tk σ) I2 (.cons rfl rv) (by rw [List.append_nil]; exact q)
  · exact p1.elim
end
end PL

set_option Elab.async false
set_option linter.all false
set_option maxRecDepth 100000
set_option maxHeartbeats 4000000
/-! PL.Eq: == and != by an own __eq__. -/
namespace PL
open PySem L2 PySem.Spec PyProof.Rows
section
open PySem.W
variable {prog : Program} {w : World} {A A₀ : Around} {E : Value → Shared → Prop} {s : Shared} {K : Frag} {x C L f : Addr} {h₀ : Heap} {m : Str → Option Value} {ox : Obj} {od : Option Obj} {name : Str} {b tb : Value}
theorem ifBound_ne {M : Model} {args : List Value} {Q : Option Value → Shared → Prop} (X : K.In s.heap) (I : InstAt s.heap x ox C od) (hs : findIn K (.ref C) "__ne__" = some (some (.builtin "object.__ne__")))
    (h : wpAny M A (call (.builtin "object.__ne__") (.ref x :: args)) (fun v => Q (some v)) E s) : wpAny M A (callSpecialIfBound? (.ref x) "__ne__" args) Q E s := by
  simp only [callSpecialIfBound?, bindSpecialIfBound?]
  refine wpAny_holding (wpAny_bind (wpAny_bind (wpAny_bind (I.type.here ((looks_findIn X hs).here ?_)))))
  simp only [PySem.F.cmp_object.ne.bind]
  refine wpAny_bind (wpAny_askSetting (wpAny_ite ?_))
  have fin : wpAny M A (call (.builtin "object.__ne__") ([.ref x] ++ args) >>= fun v => pure (some v)) Q E s := wpAny_bind (wpAny_mono h (fun v s' h' => wpAny_pure h') fun _ _ h' => h')
  split
  · exact wpAny_bind (wpAny_pure (wpAny_pure fin))
  · exact wpAny_tryCatch (wpAny_bind (wpAny_pure (wpAny_pure fin)))
theorem check_ne {M : Model} {rest : List Value} {Q : Unit → Shared → Prop} (X : K.In s.heap) (I : InstAt s.heap x ox C od) (hm : mroIn K C (.type "object") = some true) (ha : argsOk "object.__ne__" ⟨.ref x :: rest, []⟩) (hq : Q () s) :
    wpAny M A (checkBuiltinCall "object.__ne__" ⟨.ref x :: rest, []⟩) Q E s := by
  simp only [checkBuiltinCall, PySem.F.cmpKind_ne, PySem.F.cmpSplit_ne]
  refine wpAny_bind ?_
  · unfold isInstance
    refine wpAny_bind (I.type.here ?_)
    refine (looks_mroIn X hm).here ?_
    simp only [Bool.not_true, Bool.false_eq_true, if_false]
    cases hsig : Manifest.signature? "object.__ne__" with
    | none => exact wpAny_pure hq
    | some sig =>
      simp only [argsOk, hsig] at ha
      have h2 : Bind.checkArgs "object.__ne__" sig ⟨.ref x :: rest, []⟩ = pure () := ha
      show wpAny M A (Bind.checkArgs "object.__ne__" sig ⟨.ref x :: rest, []⟩) Q E _
      rw [h2]; exact wpAny_pure hq
theorem ne_body {Q : Fin → Shared → Prop} (hu : A.units < cLine) (X : K.In s.heap) (I : InstAt s.heap x ox C od) (he : findIn K (.ref C) "__eq__" = some (some (.ref f))) (hf : isFn K (.ref f) = true)
    (h : wpAny (model prog w) A (call (.ref f) [.ref x, b]) (fun v s' => ∃ r, v = .bool r ∧ Q (.done (.ret (.bool (!r)))) s') E s) : wpAny (model prog w) A (Builtin.«object.__ne__» ⟨[.ref x, b], []⟩) Q E s := by
  unfold Builtin.«object.__ne__»
  refine wpAny_bind ?_
  refine wpAny_of_eq (a := (Value.ref x, [b])) rfl ?_
  dsimp only
  refine wpAny_bind (wpAny_cRoomFor hu ?_)
  refine wpAny_bind (ifBound_K X I he hf (wpAny_mono h (fun v s' hv => ?_) fun _ _ e => e))
  obtain ⟨r, rfl, hq⟩ := hv
  exact wpAny_bind (wpAny_truthy_bool (wpAny_pure hq))
theorem cmp_ne_K {Q : Value → Shared → Prop} (hu : A.units + 1 < cLine) (F : Fr h₀ L s.heap m) (X₀ : K.In h₀) (I : InstAt s.heap x ox C od) (hb : Looks (model prog w) s.heap (typeOf b) tb) (hn : notFirst K C tb = true)
    (hs : findIn K (.ref C) "__ne__" = some (some (.builtin "object.__ne__"))) (hm : mroIn K C (.type "object") = some true) (he : findIn K (.ref C) "__eq__" = some (some (.ref f))) (hf : isFn K (.ref f) = true)
    (h : wpAny (model prog w) A.in1 (call (.ref f) [.ref x, b]) (fun v s' => ∃ r, v = .bool r ∧ Q (.bool (!r)) s') E s) : wpAny (model prog w) A (richCompare .NotEq (.ref x) b) Q E s := by
  have X := X₀.keeps F.keep
  have one : wpAny (model prog w) A (tryCompare (.ref x) "__ne__" b) (fun r s' => ∃ v, r = some v ∧ Q v s') E s := by
    unfold tryCompare
    refine wpAny_bind (ifBound_ne X I hs ?_)
    refine wpAny_call (codeAny_call_builtin PySem.F.cmp_object.ne.plain PySem.F.cmpEntry_ne (check_ne X I hm (PySem.F.cmpArgs_ne _ _) ?_))
    refine ne_body (A := A.in1) (by show A.units + 1 < cLine; exact hu) X I he hf ?_
    exact wpAny_mono h (fun v s' hv => by
      obtain ⟨r, rfl, hq⟩ := hv
      refine ⟨r, rfl, ?_⟩
      exact wpAny_pure ⟨_, rfl, hq⟩) fun _ _ e => e
  unfold richCompare
  simp only [oneThing_ref]
  refine wpAny_holding (wpAny_bind (wpAny_cRoomFor (by omega) ?_))
  refine wpAny_bind (I.type.here (wpAny_bind (hb.here ?_)))
  split
  · rename_i q
    have e : subIn K tb (.ref C) = some false := by
      rcases Bool.or_eq_true_iff.mp hn with e | e
      · rw [beq_iff_eq.mp e] at q; simp at q
      · exact beq_iff_eq.mp e
    refine wpAny_bind ((looks_subIn X e).here ?_)
    simp only [Bool.false_eq_true, if_false]
    refine wpAny_bind (wpAny_mono one (fun r s' z => ?_) fun _ _ e => e)
    obtain ⟨v, rfl, hq⟩ := z
    exact wpAny_pure hq
  · refine wpAny_bind (wpAny_pure ?_)
    simp only [Bool.false_eq_true, if_false]
    refine wpAny_bind (wpAny_mono one (fun r s' z => ?_) fun _ _ e => e)
    obtain ⟨v, rfl, hq⟩ := z
    exact wpAny_pure hq
end
section
variable {X : Cx} {F : Fx} {Γ : Gam}
/-- the type of a value, as the machine asks for it -/
def TyQ (K : PySem.W.Frag) (H : Hp) (y : V) (tb : Value) : Prop := (∃ t, tb = .type t ∧ TyX K H y tb) ∨ ∃ b A dx fls, y = .ref b ∧ H b = some (.ins A dx fls) ∧ tb = .ref A
theorem tyq_looks {pins : List (Addr × Obj)} {σ : L2.St} {H : Hp} {s : Shared} {y : V} {u tb : Value} (I : Inv X pins σ H s) (ry : RelV y u) (h : TyQ X.K H y tb) : PySem.W.Looks (model X.prog X.w) s.heap (typeOf u) tb := by
  rcases h with ⟨t, rfl, h⟩ | ⟨b, A, dx, fls, rfl, h, rfl⟩
  · obtain ⟨P, k, hp, _⟩ := kit_of I ry h
    exact k.ty _ _ I.kIn hp
  · obtain rfl : u = Value.ref b := ry
    obtain ⟨mA, J, _⟩ := ins_get I.hok h
    obtain ⟨od, J, _⟩ := J.look
    exact J.type
def rOwn (X : Cx) (neg : Bool) : R2 := fun x y H Q => ∃ (a A dx : Addr) (fls : List (Str × V)) (f : Addr) (fd : FuncData) (ps : List Str) (sp : Sp) (tb : Value) (lv : Nat), x = .ref a ∧ H a = some (.ins A dx fls) ∧ PySem.W.findIn X.K (.ref A) "__eq__" = some (some (.ref f)) ∧ PySem.W.isFn X.K (.ref f) = true ∧
  PySem.W.findIn X.K (.ref A) "__ne__" = some (some (.builtin "object.__ne__")) ∧ PySem.W.mroIn X.K A (.type "object") = some true ∧ TyQ X.K H y tb ∧ PySem.W.notFirst X.K A tb = true ∧ Room (lv + 1) X.A ∧ FnOk X.prog X.w X.K X.mg X.base (L2.CX X.prog X.w) lv f fd ps sp ∧ Binds X.K fd ps [] ∧
  sp [x, y] H (fun v H' => ∃ b, v = .bl b ∧ Q (.bl (b != neg)) H') L2.E0
theorem own_call {A : Around} {pins : List (Addr × Obj)} {σ : L2.St} {H : Hp} {s : Shared} {a f : Addr} {y : V} {u : Value} {lv : Nat} {fd : FuncData} {ps : List Str} {sp : Sp} {Q : V → Hp → Prop} (hfr : A.frames = X.A.frames) (hr : Room lv A) (I : Inv X pins σ H s) (ry : RelV y u) (G : FnOk X.prog X.w X.K X.mg X.base (L2.CX X.prog X.w) lv f fd ps sp) (hb : Binds X.K fd ps [])
    (h : sp [.ref a, y] H Q L2.E0) : wpAny (model X.prog X.w) A (call (.ref f) [.ref a, u]) (EP X pins σ Q) X.xe s := by
  have e0 : Env0 X.prog X.w X.K X.mg X.base A X.stack s H := by
    have e := I.env0
    exact ⟨by rw [hfr]; exact e.frames, e.mod, e.bs, e.bsz, e.funs, e.frf, e.hok, e.bare⟩
  have hl := G.len _ _ _ _ h
  have r2 : Vals [V.ref a, y] [Value.ref a, u] := .cons rfl (.cons ry .nil)
  refine wpAny_call (codeAny_mono (G.run A X.stack s H ⟨[.ref a, u], []⟩ [.ref a, u] [.ref a, y] _ L2.E0 hr e0 (by
    have := hb s [.ref a, u] I.kIn (by simpa using hl)
    simpa using this) r2 h) fun r s' hq => ?_)
  cases r with
  | error e => exact (passL (X := X) pins σ H s e s' I hq)
  | ok fl =>
    cases fl with
    | ret w => exact I.after hq
    | next => exact False.elim hq
    | brk => exact False.elim hq
    | cont => exact False.elim hq
theorem op_own : ∀ neg : Bool, OpR X (compareOp (if neg = true then .NotEq else .Eq)) (rOwn X neg)
  | false => by
    intro pins s σ H x y v u Q I rx ry ⟨a, A, dx, fls, f, fd, ps, sp, tb, lv, e1, e2, e3, e4, e5, e6, e7, e8, hr, G, B, h⟩
    subst e1
    obtain rfl : v = Value.ref a := rx
    obtain ⟨mA, J, _⟩ := ins_get I.hok e2
    obtain ⟨od, J, _⟩ := J.look
    obtain ⟨m, hF⟩ := I.fr
    show wpAny (model X.prog X.w) X.A (richCompare .Eq (.ref a) u) (EP X pins σ Q) X.xe s
    refine PySem.W.cmp_K (op := .Eq) (by have := hr.units; omega) hF I.ok.mod.kin J (tyq_looks I ry e7) e8 e3 e4 ?_
    refine wpAny_mono (own_call rfl (hr.mono (Nat.le_succ _)) I ry G B h) (fun r s' z => ?_) fun _ _ z => z
    obtain ⟨v, H', I', rv, b, rfl, q⟩ := z
    obtain rfl : r = Value.bool b := rv
    refine ⟨.bl b, H', I', rfl, ?_⟩
    have : (b != false) = b := by cases b <;> rfl
    rw [this] at q
    exact q
  | true => by
    intro pins s σ H x y v u Q I rx ry ⟨a, A, dx, fls, f, fd, ps, sp, tb, lv, e1, e2, e3, e4, e5, e6, e7, e8, hr, G, B, h⟩
    subst e1
    obtain rfl : v = Value.ref a := rx
    obtain ⟨mA, J, _⟩ := ins_get I.hok e2
    obtain ⟨od, J, _⟩ := J.look
    obtain ⟨m, hF⟩ := I.fr
    show wpAny (model X.prog X.w) X.A (richCompare .NotEq (.ref a) u) (EP X pins σ Q) X.xe s
    refine cmp_ne_K (by have := hr.units; omega) hF I.ok.mod.kin J (tyq_looks I ry e7) e8 e5 e6 e3 e4 ?_
    refine wpAny_mono (own_call (A := X.A.in1) rfl hr.in1 I ry G B h) (fun r s' z => ?_) fun _ _ z => z
    obtain ⟨v, H', I', rv, b, rfl, q⟩ := z
    obtain rfl : r = Value.bool b := rv
    refine ⟨b, rfl, .bl (!b), H', I', rfl, ?_⟩
    have : (b != true) = !b := by cases b <;> rfl
    rw [this] at q
    exact q
def rCmpX (X : Cx) (o : COp) : R2 := fun x y H Q => rCmp X.K o x y H Q ∨ match eqNe o with
  | some neg => rOwn X neg x y H Q
  | none => False
theorem cmpX_opR (hu : X.A.units + 64 < cLine) : ∀ o : COp, OpR X (compareOp (copOf o)) (rCmpX X o)
  | .eq => OpRor (cmp_opR hu .eq) (op_own false)
  | .ne => OpRor (cmp_opR hu .ne) (op_own true)
  | .lt => OpRor (cmp_opR hu .lt) opNo
  | .le => OpRor (cmp_opR hu .le) opNo
  | .gt => OpRor (cmp_opR hu .gt) opNo
  | .ge => OpRor (cmp_opR hu .ge) opNo
  | .is => OpRor (cmp_opR hu .is) opNo
  | .isn => OpRor (cmp_opR hu .isn) opNo
  | .in_ => OpRor (cmp_opR hu .in_) opNo
  | .nin => OpRor (cmp_opR hu .nin) opNo
end
section
variable {T : Tb} {F : Fx} {Γ : Gam} {W : WXX} {X : Cx} {a b : Expr} {fa fb : Env → Mem → Out D} {pos : Pos}
theorem ty_all {m : Mem} {y : D} {t : String} (h : tyOf m y = some t) : t ∈ ["NoneType", "bool", "int", "str", "tuple", "list", "dict"] := by
  unfold tyOf at h
  split at h <;> first | (cases h; decide) | cases h
theorem nfC_of (ac : AllC F Γ) {C0 C' : String} {A A' : Addr} (qc : ClsF F Γ C0 A) (h : F.cx C' = some A') (q : (Γ.mro C').contains C0 = false) (hA : F.cx C0 = some A) (qc' : ClsF F Γ C' A') : PySem.W.subIn F.K (.ref A') (.ref A) = some false := by
  have z := qc'.subC C0 A (ac.cc _ _ hA)
  rw [q] at z
  unfold PySem.W.kitOne at z
  split at z
  · cases z
  · unfold PySem.W.kitCls at z
    dsimp only at z
    split at z
    · exact z
    · cases z
theorem cmpX_ok (C : Cok T F Γ W X) {σ : L2.St} {w : Wo} (r : Rel F w) {o : COp} {x y : D} {v u : V} {Q : VK} (hx : Rp F w x v) (hy : Rp F w y u) (p : Post F (RE F) W σ w (cmpX Γ o x y w.m) Q) : rCmpX X o v u w.H Q := by
  have old : Post F (RE F) W σ w (.of w.m ((cmpS w.m o x y).map .bl)) Q → rCmpX X o v u w.H Q := fun p => by
    obtain ⟨d, hd, p3⟩ := p.of
    obtain ⟨k, hk, rfl⟩ := Option.map_eq_some_iff.mp hd
    refine .inl ?_
    rw [C.hK]
    exact cmp_ok r hx hy hk (p3.ok r (by simp only [RE, Rp]))
  unfold cmpX at p
  split at p
  rotate_left
  · exact old p
  rename_i neg C0 q1 q2
  split at p
  rotate_left
  · exact old p
  rename_i g q3
  split at p
  rotate_left
  · exact p.elim
  rename_i q4
  obtain ⟨ad, A, dx, fls, rfl, h2, h3, _⟩ := ins_of r hx q2
  have qc := C.ac.cls C0 A h2
  obtain ⟨f, hf, M⟩ := qc.me _ _ q3
  obtain ⟨lv, hlv, f', fd, ps, hf', _, G, B⟩ := C.eqm C0 g q3 (by rw [h2]; simp)
  rw [hf] at hf'
  cases hf'
  have hK := C.hK
  refine .inr ?_
  rw [q1]
  have ty : ∃ tb, TyQ F.K w.H u tb ∧ PySem.W.notFirst F.K A tb = true := by
    unfold eqSafe at q4
    split at q4
    · rename_i t q5
      exact ⟨.type t, .inl ⟨t, rfl, tyx_of r hy q5⟩, qc.nfT t (ty_all q5)⟩
    · split at q4
      · rename_i C' q6
        obtain ⟨b, A', dy, gls, rfl, k2, k3, _⟩ := ins_of r hy q6
        refine ⟨.ref A', .inr ⟨b, A', dy, gls, rfl, k3, rfl⟩, ?_⟩
        rw [Bool.or_eq_true, decide_eq_true_eq, Bool.not_eq_true'] at q4
        unfold PySem.W.notFirst
        rcases q4 with q4 | q4
        · subst q4
          rw [h2] at k2
          cases k2
          rw [beq_self_eq_true]; rfl
        · rw [nfC_of C.ac qc k2 q4 h2 (C.ac.cls C' A' k2)]
          simp
      · cases q4
  obtain ⟨tb, ht, hn⟩ := ty
  refine ⟨ad, A, dx, fls, f, fd, ps, LSp F (Γ.fn g), tb, lv, rfl, h3, hK ▸ M.at_, hK ▸ M.fn, hK ▸ qc.ne (by rw [q3]; rfl), hK ▸ qc.hm, hK ▸ ht, hK ▸ hn, C.room.mono (Nat.le_trans hlv C.kke), hK ▸ G, hK ▸ B, [x, y], w, rfl, r, RpL.cons hx (RpL.cons hy RpL.nil), ?_⟩
  cases q : Γ.fn g [x, y] w.m with
  | stk => rw [q] at p; exact p.elim
  | err _ _ => rw [q] at p; exact p.elim
  | ok d m' =>
    rw [q] at p
    split at p
    · rename_i b m1 e
      cases e
      intro w' v hm e r' hv
      simp only [RE, Rp] at hv
      subst hv
      exact ⟨b, rfl, p w' _ hm e r' (by simp only [RE, Rp])⟩
    · exact p.elim
theorem cmpX_bl {o : COp} {x y d : D} {m m' : Mem} (h : cmpX Γ o x y m = .ok d m') : ∃ b, d = .bl b := by
  have old : ∀ {z : Option Bool}, Out.of m (z.map D.bl) = .ok d m' → ∃ b, d = .bl b := fun {z} h => by
    cases z with
    | none => cases h
    | some b => cases h; exact ⟨b, rfl⟩
  unfold cmpX at h
  split at h
  · split at h
    · split at h
      · split at h
        · cases h; exact ⟨_, rfl⟩
        · cases h
      · cases h
    · exact old h
  · exact old h
theorem p_cmp (C : Cok T F Γ W X) {o : COp} (hm : behindInMarks (copOf o) b = false) (ha : PE X a (LE F W fa)) (hb : PE X b (LE F W fb)) :
    PE X (.Compare a [copOf o] [b] pos) (LE F W fun ρ m => (fa ρ m).bind fun x m => (fb ρ m).bind fun y m => cmpX Γ o x y m) := by
  refine PEi (pe_cmpR (cmpX_opR C.room.units o) ha hb hm) fun σ H Q ⟨ρ, w, e, r, s, h⟩ => ?_
  subst e
  refine lft_bind r s h fun x w1 v e1 r1 s1 h1 p1 => ?_
  refine lft_bind r1 s1 p1 fun y w2 u e2 r2 s2 h2 p2 => ?_
  exact cmpX_ok C r2 (Rp.ex e2 _ _ h1) h2 p2
theorem pt_cmp_ (C : Cok T F Γ W X) {o : COp} (hm : behindInMarks (copOf o) b = false) (ha : PE X a (LE F W fa)) (hb : PE X b (LE F W fb)) :
    PT X (.Compare a [copOf o] [b] pos) (LT F W (evT fun ρ m => (fa ρ m).bind fun x m => (fb ρ m).bind fun y m => cmpX Γ o x y m)) := by
  refine PTi (pt_cmpR (cmpX_opR C.room.units o) ha hb hm) fun σ H Q ⟨ρ, w, e, r, s, h⟩ => ?_
  subst e
  unfold evT at h
  dsimp only at h
  rw [bind_assoc] at h
  refine lft_bind (R2 := RT) (Q := Q) r s h fun x w1 v e1 r1 s1 h1 p1 => ?_
  rw [bind_assoc] at p1
  refine lft_bind (R2 := RT) (Q := Q) r1 s1 p1 fun y w2 u e2 r2 s2 h2 p2 => ?_
  refine cmpX_ok C r2 (Rp.ex e2 _ _ h1) h2 (σ := σ) ?_
  cases q : cmpX Γ o x y w2.m with
  | stk => rw [q] at p2; exact p2.elim
  | err x m => rw [q] at p2; exact p2
  | ok d m' =>
    obtain ⟨k, rfl⟩ := cmpX_bl q
    rw [q] at p2
    intro w' v' hm e r' hv
    subst hm
    simp only [RE, Rp] at hv
    subst hv
    exact ⟨k, rfl, p2 w' k rfl e r' rfl⟩
end
end PL

set_option Elab.async false
set_option linter.all false
set_option maxRecDepth 100000
set_option maxHeartbeats 4000000
/-! PL.Cut: the memory cut back behind a call. -/
namespace PL
open PySem L2 PySem.Spec PyProof.Rows
section
variable {F : Fx} {w w2 : Wo}
mutual
theorem Rp.rb : ∀ (d : D) (v : V), Rp F w d v → D.rb w.ι.length d = true
  | .non, _, _ => rfl
  | .bl _, _, _ => rfl
  | .int _, _, _ => rfl
  | .str _, _, _ => rfl
  | .ty _, _, _ => rfl
  | .cls _, _, _ => rfl
  | .tup ds, v, h => by
    simp only [Rp] at h
    obtain ⟨a, xs, _, _, h3⟩ := h
    simp only [D.rb]; exact RpL.rb ds xs h3
  | .lst ds, v, h => by
    simp only [Rp] at h
    obtain ⟨a, xs, _, _, h3⟩ := h
    simp only [D.rb]; exact RpL.rb ds xs h3
  | .dct ks vs, v, h => by
    simp only [Rp] at h
    obtain ⟨a, kvs, _, _, _, h4, h5⟩ := h
    simp only [D.rb, RpL.rb ks _ h4, RpL.rb vs _ h5, Bool.and_self]
  | .obj C ns ds, v, h => by
    simp only [Rp] at h
    obtain ⟨a, A, dx, fs, xs, _, _, _, _, _, _, h7⟩ := h
    simp only [D.rb]; exact RpL.rb ds xs h7
  | .exc C ns ds, v, h => by
    simp only [Rp] at h
    obtain ⟨a, A, dd, fs, xs, _, _, _, _, _, _, _, _, h7⟩ := h
    simp only [D.rb]; exact RpL.rb ds xs h7
  | .ref i, v, h => by
    simp only [Rp] at h
    obtain ⟨a, _, h2⟩ := h
    simp only [D.rb, decide_eq_true_eq]
    exact (List.getElem?_eq_some_iff.mp h2).1
theorem RpL.rb : ∀ (ds : List D) (vs : List V), RpL F w ds vs → D.rbL w.ι.length ds = true
  | [], _, _ => rfl
  | d :: ds, vs, h => by
    simp only [RpL] at h
    obtain ⟨x, xs, _, h2, h3⟩ := h
    simp only [D.rbL, Rp.rb d x h2, RpL.rb ds xs h3, Bool.and_self]
end
def wcut (w w2 : Wo) : Wo := ⟨w.ι, w2.m.take w.m.length, w2.H, w.pv⟩
theorem lvM_cut (r : Rel F w) (e : Ex w w2) {a : Addr} (h : LvM (wcut w w2) a) : LvM w2 a := by
  obtain ⟨i, o, h1, h2, h3⟩ := h
  have hi : i < w.m.length := by rw [← r.len]; exact (List.getElem?_eq_some_iff.mp h1).1
  refine ⟨i, o, e.ix h1, ?_, h3⟩
  have h2 : (w2.m.take w.m.length)[i]? = some o := h2
  rw [List.getElem?_take_of_lt hi] at h2
  exact h2
theorem lv_cut (r : Rel F w) (e : Ex w w2) {a : Addr} (h : Lv (wcut w w2) a) : Lv w2 a :=
  h.elim (fun h => .inl (lvM_cut r e h)) fun h => .inr (by rw [e.pvs]; exact h)
theorem FzL.cut {K : PySem.W.Frag} (r : Rel F w) (e : Ex w w2) {a : Addr} {xs : List V} (h : FzL K w2 a xs) : FzL K (wcut w w2) a xs := h.elim (fun h => .inl ⟨h.1, fun l => h.2 (lv_cut r e l)⟩) .inr
theorem FzT.cut {K : PySem.W.Frag} (r : Rel F w) (e : Ex w w2) {a : Addr} {xs : List V} (h : FzT K w2 a xs) : FzT K (wcut w w2) a xs := h.elim (fun h => .inl ⟨h.1, fun l => h.2 (lv_cut r e l)⟩) .inr
mutual
theorem Rp.cut (r : Rel F w) (e : Ex w w2) : ∀ (d : D) (v : V), D.rb w.m.length d = true → Rp F w2 d v → Rp F (wcut w w2) d v
  | .non, v, _, h => by simp only [Rp] at h ⊢; exact h
  | .bl _, v, _, h => by simp only [Rp] at h ⊢; exact h
  | .int _, v, _, h => by simp only [Rp] at h ⊢; exact h
  | .str _, v, _, h => by simp only [Rp] at h ⊢; exact h
  | .ty _, v, _, h => by simp only [Rp] at h ⊢; exact h
  | .cls _, v, _, h => by simp only [Rp] at h ⊢; exact h
  | .tup ds, v, b, h => by
    simp only [Rp] at h ⊢
    obtain ⟨a, xs, h1, h2, h3⟩ := h
    exact ⟨a, xs, h1, h2.cut r e, RpL.cut r e ds xs (by simpa [D.rb] using b) h3⟩
  | .lst ds, v, b, h => by
    simp only [Rp] at h ⊢
    obtain ⟨a, xs, h1, h2, h3⟩ := h
    exact ⟨a, xs, h1, h2.cut r e, RpL.cut r e ds xs (by simpa [D.rb] using b) h3⟩
  | .dct ks vs, v, b, h => by
    simp only [Rp] at h ⊢
    simp only [D.rb, Bool.and_eq_true] at b
    obtain ⟨a, kvs, h1, h2, h3, h4, h5⟩ := h
    exact ⟨a, kvs, h1, h2, fun l => h3 (lv_cut r e l), RpL.cut r e ks _ b.1 h4, RpL.cut r e vs _ b.2 h5⟩
  | .obj C ns ds, v, b, h => by
    simp only [Rp] at h ⊢
    obtain ⟨a, A, dx, fs, xs, h1, h2, h3, h4, h5, h6, h7⟩ := h
    exact ⟨a, A, dx, fs, xs, h1, h2, h3, fun l => h4 (lv_cut r e l), h5, h6, RpL.cut r e ds _ (by simpa [D.rb] using b) h7⟩
  | .exc C ns ds, v, b, h => by
    simp only [Rp] at h ⊢
    obtain ⟨a, A, dd, fs, xs, h1, h2, h3, h4, h5, h6, h7, h8, h9⟩ := h
    exact ⟨a, A, dd, fs, xs, h1, h2, h3, fun l => h4 (lv_cut r e l), h5, fun l => h6 (lv_cut r e l), h7, h8, RpL.cut r e ds _ (by simpa [D.rb] using b) h9⟩
  | .ref i, v, b, h => by
    simp only [Rp] at h ⊢
    simp only [D.rb, decide_eq_true_eq] at b
    obtain ⟨a, h1, h2⟩ := h
    obtain ⟨l, hl⟩ := e.pre
    rw [hl, List.getElem?_append_left (by rw [r.len]; exact b)] at h2
    exact ⟨a, h1, h2⟩
theorem RpL.cut (r : Rel F w) (e : Ex w w2) : ∀ (ds : List D) (vs : List V), D.rbL w.m.length ds = true → RpL F w2 ds vs → RpL F (wcut w w2) ds vs
  | [], vs, _, h => by simp only [RpL] at h ⊢; exact h
  | d :: ds, vs, b, h => by
    simp only [RpL] at h ⊢
    simp only [D.rbL, Bool.and_eq_true] at b
    obtain ⟨x, xs, h1, h2, h3⟩ := h
    exact ⟨x, xs, h1, Rp.cut r e d x b.1 h2, RpL.cut r e ds xs b.2 h3⟩
end
theorem RO.rb {a : Addr} : ∀ {o : MO}, RO F w a o → MO.rb w.ι.length o = true
  | .lst ds, h => by obtain ⟨xs, _, h⟩ := h; exact RpL.rb _ _ h
  | .dct ks vs, h => by obtain ⟨xs, _, h, h'⟩ := h; simp only [MO.rb, RpL.rb _ _ h, RpL.rb _ _ h', Bool.and_self]
  | .ins C ns ds, h => by obtain ⟨A, dx, fs, xs, _, _, _, _, h⟩ := h; exact RpL.rb _ _ h
  | .dead, _ => rfl
theorem cut_rel (r : Rel F w) (r2 : Rel F w2) (e : Ex w w2) (c : cutOk w.m w2.m) : Rel F (wcut w w2) ∧ Ex w (wcut w w2) := by
  obtain ⟨hl, hc⟩ := c
  have hb : ∀ (i : Nat) (a : Addr) (o : MO), w.ι[i]? = some a → (w2.m.take w.m.length)[i]? = some o → MO.rb w.m.length o = true := by
    intro i a o h1 h2
    rcases hc with hc | hc
    · rw [hc] at h2
      have q := (r.ob i a o h1 h2).rb
      rw [r.len] at q
      exact q
    · exact List.all_eq_true.mp hc o (List.mem_of_getElem? h2)
  refine ⟨⟨?_, fun i a o h1 h2 => ?_, fun i j a o u h1 h2 h3 h4 h5 h6 => ?_, fun a ha => ⟨?_, fun l => (r2.pvt a (by rw [e.pvs]; exact ha)).2 (lvM_cut r e l)⟩, r2.tabs⟩, ⟨⟨[], by simp [wcut]⟩, fun a o h n t => ⟨(e.keep a o h n t).1, fun l => (e.keep a o h n t).2 (lv_cut r e l)⟩⟩, rfl, fun a ha => e.pk a ha⟩
  · show w.ι.length = (w2.m.take w.m.length).length
    rw [List.length_take, r.len, Nat.min_eq_left hl]
  · have hi : i < w.m.length := by rw [← r.len]; exact (List.getElem?_eq_some_iff.mp h1).1
    have b := hb i a o h1 h2
    have h2' : w2.m[i]? = some o := by
      have h2 : (w2.m.take w.m.length)[i]? = some o := h2
      rwa [List.getElem?_take_of_lt hi] at h2
    have q := r2.ob i a o (e.ix h1) h2'
    cases o with
    | lst ds => obtain ⟨xs, q1, q2⟩ := q; exact ⟨xs, q1, RpL.cut r e _ _ b q2⟩
    | dct ks vs =>
      obtain ⟨xs, q1, q2, q3⟩ := q
      simp only [MO.rb, Bool.and_eq_true] at b
      exact ⟨xs, q1, RpL.cut r e _ _ b.1 q2, RpL.cut r e _ _ b.2 q3⟩
    | ins C ns ds => obtain ⟨A, dx, fs, xs, q1, q2, q3, q4, q5⟩ := q; exact ⟨A, dx, fs, xs, q1, q2, q3, q4, RpL.cut r e _ _ b q5⟩
    | dead => trivial
  · have hi : i < w.m.length := by rw [← r.len]; exact (List.getElem?_eq_some_iff.mp h1).1
    have hj : j < w.m.length := by rw [← r.len]; exact (List.getElem?_eq_some_iff.mp h4).1
    have h2 : (w2.m.take w.m.length)[i]? = some o := h2
    have h5 : (w2.m.take w.m.length)[j]? = some u := h5
    rw [List.getElem?_take_of_lt hi] at h2
    rw [List.getElem?_take_of_lt hj] at h5
    exact r2.inj i j a o u (e.ix h1) h2 h3 (e.ix h4) h5 h6
  · exact (r2.pvt a (by rw [e.pvs]; exact ha)).1
/-- what was live and new is fixed from now on -/
theorem nlv_cut (r : Rel F w) (r2 : Rel F w2) (e : Ex w w2) {i : Nat} {a : Addr} {o : MO} (hi : w.m.length ≤ i) (h1 : w2.ι[i]? = some a) (h2 : w2.m[i]? = some o) (h3 : o ≠ .dead) : ¬ Lv (wcut w w2) a := fun l => by
  rcases l with ⟨j, u, q1, q2, q3⟩ | l
  case inr => exact (r2.pvt a (by rw [e.pvs]; exact l)).2 ⟨i, o, h1, h2, h3⟩
  have hj : j < w.m.length := by rw [← r.len]; exact (List.getElem?_eq_some_iff.mp q1).1
  have q2 : (w2.m.take w.m.length)[j]? = some u := q2
  rw [List.getElem?_take_of_lt hj] at q2
  have := r2.inj i j a o u h1 h2 h3 (e.ix q1) q2 q3
  omega
end
section
variable {F : Fx} {W : WXX}
theorem cut_post {σ : L2.St} {w : Wo} {mode : Nat} {d : D} {Q : VK} (r : Rel F w) {w2 : Wo} (e : Ex w w2) (r2 : Rel F w2) {v : V} (h : Rp F w2 d v) (p : Post F (RE F) W σ w (cutS mode w.m d w2.m) Q) : Q v w2.H := by
  unfold cutS at p
  split at p
  · exact p w2 v rfl e r2 h
  · exact p w2 v rfl e r2 h
  · split at p
    · rename_i c
      obtain ⟨r3, e3⟩ := cut_rel r r2 e c.1
      exact p (wcut w w2) v rfl e3 r3 (Rp.cut r e _ _ c.2 h)
    · exact p.elim
  · split at p
    · rename_i i
      simp only [Rp] at h
      obtain ⟨a, rfl, ha⟩ := h
      split at p
      · rename_i ds q
        split at p
        · rename_i c
          obtain ⟨r3, e3⟩ := cut_rel r r2 e c.2.1
          obtain ⟨xs, q1, q2⟩ := r2.ob i a _ ha q
          refine p (wcut w w2) _ rfl e3 r3 ?_
          simp only [RE, Rp]
          exact ⟨a, xs, rfl, .inl ⟨.inl q1, nlv_cut r r2 e c.1 ha q (fun z => nomatch z)⟩, RpL.cut r e _ _ c.2.2 q2⟩
        · exact p.elim
      · rename_i ks vs q
        split at p
        · rename_i c
          obtain ⟨r3, e3⟩ := cut_rel r r2 e c.2.1
          obtain ⟨xs, q1, q2, q3⟩ := r2.ob i a _ ha q
          refine p (wcut w w2) _ rfl e3 r3 ?_
          simp only [RE, Rp]
          exact ⟨a, xs, rfl, .inl q1, nlv_cut r r2 e c.1 ha q (fun z => nomatch z), RpL.cut r e _ _ c.2.2.1 q2, RpL.cut r e _ _ c.2.2.2 q3⟩
        · exact p.elim
      · exact p.elim
    · exact p.elim
end
section
variable {T : Tb} {F : Fx} {Γ : Gam} {W : WXX} {X : Cx} {es : List Expr} {fs : Env → Mem → Out D} {pos p : Pos}
/-- a new place -/
def wadd (w : Wo) (x dx A : Addr) (C : String) : Wo := ⟨w.ι ++ [x], w.m ++ [.ins C [] []], upd (upd w.H dx (.own x)) x (.ins A dx []), w.pv⟩
theorem add_rel {w : Wo} (r : Rel F w) {x dx A : Addr} {C : String} (hx : w.H x = none) (hd : w.H dx = none) (hne : dx ≠ x) (hA : F.cx C = some A) : Rel F (wadd w x dx A C) ∧ Ex w (wadd w x dx A C) := by
  have lvm : ∀ a, LvM (wadd w x dx A C) a → LvM w a ∨ a = x := fun a ⟨i, o, h1, h2, h3⟩ => by
    have h1 : (w.ι ++ [x])[i]? = some a := h1
    have h2 : (w.m ++ [MO.ins C [] []])[i]? = some o := h2
    by_cases hi : i < w.ι.length
    · rw [List.getElem?_append_left hi] at h1
      rw [List.getElem?_append_left (by rw [← r.len]; exact hi)] at h2
      exact .inl ⟨i, o, h1, h2, h3⟩
    · rw [List.getElem?_append_right (by omega)] at h1
      have : i - w.ι.length = 0 := by
        have := (List.getElem?_eq_some_iff.mp h1).1
        simp at this
        omega
      rw [this] at h1
      exact .inr (by simpa using h1.symm)
  have lv : ∀ a, Lv (wadd w x dx A C) a → Lv w a ∨ a = x := fun a h => h.elim (fun h => (lvm a h).elim (fun h => .inl (.inl h)) .inr) fun h => .inl (.inr h)
  have pvH : ∀ a ∈ w.pv, upd (upd w.H dx (.own x)) x (.ins A dx []) a = w.H a := fun a ha => by
    obtain ⟨⟨xs, e⟩, _⟩ := r.pvt a ha
    rw [upd_ne (ne_of_none e hx), upd_ne (ne_of_none e hd)]
  have ex : Ex w (wadd w x dx A C) := by
    refine ⟨⟨⟨[x], rfl⟩, fun a o h n _ => ⟨?_, fun l => ?_⟩⟩, rfl, pvH⟩
    · refine .inl ?_
      show upd (upd w.H dx (.own x)) x (.ins A dx []) a = some o
      rw [upd_ne (ne_of_none h hx), upd_ne (ne_of_none h hd)]
      exact h
    · rcases lv a l with l | l
      · exact n l
      · subst l; rw [hx] at h; cases h
  refine ⟨⟨by show (w.ι ++ [x]).length = (w.m ++ [MO.ins C [] []]).length; simp [r.len], fun i a o h1 h2 => ?_, fun i j a o u h1 h2 h3 h4 h5 h6 => ?_, fun a ha => ?_, tabs_new (tabs_new r.tabs hd) (by rw [upd_ne hne.symm]; exact hx)⟩, ex⟩
  · have h1 : (w.ι ++ [x])[i]? = some a := h1
    have h2 : (w.m ++ [MO.ins C [] []])[i]? = some o := h2
    by_cases hi : i < w.ι.length
    · rw [List.getElem?_append_left hi] at h1
      rw [List.getElem?_append_left (by rw [← r.len]; exact hi)] at h2
      by_cases hdd : o = .dead
      · subst hdd; trivial
      · refine (r.ob i a o h1 h2).ext ex.toE0 ?_
        have l : Lv w a := .inl ⟨i, o, h1, h2, hdd⟩
        show upd (upd w.H dx (.own x)) x (.ins A dx []) a = _
        rw [upd_ne (fun z => by subst z; exact r.nlive hx l), upd_ne (fun z => by subst z; exact r.nlive hd l)]
    · rw [List.getElem?_append_right (by omega)] at h1
      rw [List.getElem?_append_right (by rw [← r.len]; omega)] at h2
      have h0 : i - w.ι.length = 0 := by
        have := (List.getElem?_eq_some_iff.mp h1).1
        simp at this
        omega
      rw [h0] at h1
      rw [← r.len, h0] at h2
      simp at h1 h2
      subst h1 h2
      exact ⟨A, dx, [], [], hA, upd_same, rfl, rfl, RpL.nil⟩
  · have split : ∀ (k : Nat) (v : MO), (w.ι ++ [x])[k]? = some a → (w.m ++ [MO.ins C [] []])[k]? = some v → v ≠ .dead → (k < w.ι.length ∧ w.ι[k]? = some a ∧ w.m[k]? = some v) ∨ (k = w.ι.length ∧ a = x) := by
      intro k v q1 q2 q3
      by_cases hi : k < w.ι.length
      · rw [List.getElem?_append_left hi] at q1
        rw [List.getElem?_append_left (by rw [← r.len]; exact hi)] at q2
        exact .inl ⟨hi, q1, q2⟩
      · rw [List.getElem?_append_right (by omega)] at q1
        have h0 : k - w.ι.length = 0 := by
          have := (List.getElem?_eq_some_iff.mp q1).1
          simp at this
          omega
        rw [h0] at q1
        exact .inr ⟨by omega, by simpa using q1.symm⟩
    rcases split i o h1 h2 h3 with ⟨a1, a2, a3⟩ | ⟨a1, a2⟩
    · rcases split j u h4 h5 h6 with ⟨b1, b2, b3⟩ | ⟨b1, b2⟩
      · exact r.inj i j a o u a2 a3 h3 b2 b3 h6
      · subst b2; exact absurd (.inl ⟨i, o, a2, a3, h3⟩) (r.nlive hx)
    · rcases split j u h4 h5 h6 with ⟨b1, b2, b3⟩ | ⟨b1, b2⟩
      · subst a2; exact absurd (.inl ⟨j, u, b2, b3, h6⟩) (r.nlive hx)
      · omega
  · obtain ⟨⟨xs, e⟩, n⟩ := r.pvt a ha
    refine ⟨⟨xs, (pvH a ha).trans e⟩, fun l => ?_⟩
    rcases lvm a l with l | l
    · exact n l
    · subst l; rw [hx] at e; cases e
/-- a new place for a list -/
def waddL (w : Wo) (x : Addr) (ds : List D) (xs : List V) : Wo := ⟨w.ι ++ [x], w.m ++ [.lst ds], upd w.H x (.lst xs), w.pv⟩
theorem addL_rel {w : Wo} (r : Rel F w) {x : Addr} {ds : List D} {xs : List V} (hx : w.H x = none) (hA : RpL F w ds xs) : Rel F (waddL w x ds xs) ∧ Ex w (waddL w x ds xs) ∧ Rp F (waddL w x ds xs) (.ref w.m.length) (.ref x) := by
  have lvm : ∀ a, LvM (waddL w x ds xs) a → LvM w a ∨ a = x := fun a ⟨i, o, h1, h2, h3⟩ => by
    have h1 : (w.ι ++ [x])[i]? = some a := h1
    have h2 : (w.m ++ [MO.lst ds])[i]? = some o := h2
    by_cases hi : i < w.ι.length
    · rw [List.getElem?_append_left hi] at h1
      rw [List.getElem?_append_left (by rw [← r.len]; exact hi)] at h2
      exact .inl ⟨i, o, h1, h2, h3⟩
    · rw [List.getElem?_append_right (by omega)] at h1
      have : i - w.ι.length = 0 := by
        have := (List.getElem?_eq_some_iff.mp h1).1
        simp at this
        omega
      rw [this] at h1
      exact .inr (by simpa using h1.symm)
  have lv : ∀ a, Lv (waddL w x ds xs) a → Lv w a ∨ a = x := fun a h => h.elim (fun h => (lvm a h).elim (fun h => .inl (.inl h)) .inr) fun h => .inl (.inr h)
  have pvH : ∀ a ∈ w.pv, upd w.H x (.lst xs) a = w.H a := fun a ha => by
    obtain ⟨⟨xs, e⟩, _⟩ := r.pvt a ha
    rw [upd_ne (ne_of_none e hx)]
  have ex : Ex w (waddL w x ds xs) := by
    refine ⟨⟨⟨[x], rfl⟩, fun a o h n _ => ⟨?_, fun l => ?_⟩⟩, rfl, pvH⟩
    · refine .inl ?_
      show upd w.H x (.lst xs) a = some o
      rw [upd_ne (ne_of_none h hx)]
      exact h
    · rcases lv a l with l | l
      · exact n l
      · subst l; rw [hx] at h; cases h
  refine ⟨⟨by show (w.ι ++ [x]).length = (w.m ++ [MO.lst ds]).length; simp [r.len], fun i a o h1 h2 => ?_, fun i j a o u h1 h2 h3 h4 h5 h6 => ?_, fun a ha => ?_, tabs_new r.tabs hx⟩, ex, ?_⟩
  · have h1 : (w.ι ++ [x])[i]? = some a := h1
    have h2 : (w.m ++ [MO.lst ds])[i]? = some o := h2
    by_cases hi : i < w.ι.length
    · rw [List.getElem?_append_left hi] at h1
      rw [List.getElem?_append_left (by rw [← r.len]; exact hi)] at h2
      by_cases hdd : o = .dead
      · subst hdd; trivial
      · refine (r.ob i a o h1 h2).ext ex.toE0 ?_
        have l : Lv w a := .inl ⟨i, o, h1, h2, hdd⟩
        show upd w.H x (.lst xs) a = _
        rw [upd_ne (fun z => by subst z; exact r.nlive hx l)]
    · rw [List.getElem?_append_right (by omega)] at h1
      rw [List.getElem?_append_right (by rw [← r.len]; omega)] at h2
      have h0 : i - w.ι.length = 0 := by
        have := (List.getElem?_eq_some_iff.mp h1).1
        simp at this
        omega
      rw [h0] at h1
      rw [← r.len, h0] at h2
      simp at h1 h2
      subst h1 h2
      exact ⟨xs, upd_same, RpL.ex ex _ _ hA⟩
  · have split : ∀ (k : Nat) (v : MO), (w.ι ++ [x])[k]? = some a → (w.m ++ [MO.lst ds])[k]? = some v → v ≠ .dead → (k < w.ι.length ∧ w.ι[k]? = some a ∧ w.m[k]? = some v) ∨ (k = w.ι.length ∧ a = x) := by
      intro k v q1 q2 q3
      by_cases hi : k < w.ι.length
      · rw [List.getElem?_append_left hi] at q1
        rw [List.getElem?_append_left (by rw [← r.len]; exact hi)] at q2
        exact .inl ⟨hi, q1, q2⟩
      · rw [List.getElem?_append_right (by omega)] at q1
        have h0 : k - w.ι.length = 0 := by
          have := (List.getElem?_eq_some_iff.mp q1).1
          simp at this
          omega
        rw [h0] at q1
        exact .inr ⟨by omega, by simpa using q1.symm⟩
    rcases split i o h1 h2 h3 with ⟨a1, a2, a3⟩ | ⟨a1, a2⟩
    · rcases split j u h4 h5 h6 with ⟨b1, b2, b3⟩ | ⟨b1, b2⟩
      · exact r.inj i j a o u a2 a3 h3 b2 b3 h6
      · subst b2; exact absurd (.inl ⟨i, o, a2, a3, h3⟩) (r.nlive hx)
    · rcases split j u h4 h5 h6 with ⟨b1, b2, b3⟩ | ⟨b1, b2⟩
      · subst a2; exact absurd (.inl ⟨j, u, b2, b3, h6⟩) (r.nlive hx)
      · omega
  · obtain ⟨⟨xs', e⟩, n⟩ := r.pvt a ha
    refine ⟨⟨xs', (pvH a ha).trans e⟩, fun l => ?_⟩
    rcases lvm a l with l | l
    · exact n l
    · subst l; rw [hx] at e; cases e
  · simp only [Rp]
    refine ⟨x, rfl, ?_⟩
    show (w.ι ++ [x])[w.m.length]? = some x
    rw [← r.len]
    simp
/-- a place is given up: what stands there is fixed from now on -/
theorem dead_rel {w : Wo} (r : Rel F w) {i : Nat} {a : Addr} {ds : List D} (h1 : w.ι[i]? = some a) (h2 : w.m[i]? = some (.lst ds)) : Rel F ⟨w.ι, w.m.set i .dead, w.H, w.pv⟩ ∧ Ex w ⟨w.ι, w.m.set i .dead, w.H, w.pv⟩ ∧ Rp F ⟨w.ι, w.m.set i .dead, w.H, w.pv⟩ (.lst ds) (.ref a) := by
  let w' : Wo := ⟨w.ι, w.m.set i .dead, w.H, w.pv⟩
  have hi : i < w.m.length := (List.getElem?_eq_some_iff.mp h2).1
  have at_ : ∀ j o, (w.m.set i .dead)[j]? = some o → o ≠ .dead → j ≠ i ∧ w.m[j]? = some o := fun j o q n => by
    by_cases hj : i = j
    · subst hj
      rw [List.getElem?_set_self hi] at q
      cases q
      exact absurd rfl n
    · rw [List.getElem?_set_ne hj] at q
      exact ⟨fun z => hj z.symm, q⟩
  have lvm : ∀ b, LvM w' b → LvM w b := fun b ⟨j, o, q1, q2, q3⟩ => ⟨j, o, q1, (at_ j o q2 q3).2, q3⟩
  have ex : Ex w w' := ⟨⟨⟨[], by simp [w']⟩, fun b o h n _ => ⟨.inl h, fun l => n (l.elim (fun l => .inl (lvm b l)) .inr)⟩⟩, rfl, fun _ _ => rfl⟩
  refine ⟨⟨by show w.ι.length = (w.m.set i .dead).length; rw [List.length_set, r.len], fun j b o q1 q2 => ?_, fun j k b o u q1 q2 q3 q4 q5 q6 => r.inj j k b o u q1 (at_ j o q2 q3).2 q3 q4 (at_ k u q5 q6).2 q6, fun b hb => ⟨(r.pvt b hb).1, fun l => (r.pvt b hb).2 (lvm b l)⟩, r.tabs⟩, ex, ?_⟩
  · by_cases hd : o = .dead
    · subst hd; trivial
    · exact (r.ob j b o q1 (at_ j o q2 hd).2).ext ex.toE0 rfl
  · obtain ⟨xs, e1, e2⟩ := r.ob i a _ h1 h2
    simp only [Rp]
    refine ⟨a, xs, rfl, .inl ⟨.inl e1, fun l => ?_⟩, RpL.ex ex _ _ e2⟩
    rcases l with ⟨j, o, q1, q2, q3⟩ | l
    · obtain ⟨n, q⟩ := at_ j o q2 q3
      exact n (r.inj j i a o _ q1 q q3 h1 h2 (fun z => nomatch z))
    · exact (r.pvt a l).2 ⟨i, _, h1, h2, fun z => nomatch z⟩
theorem run_makeS {CX : CXT} {k : Nat} {f C : Addr} {fd : FuncData} {ps : List Str} {sp : Sp} {E : XK} {pins : List (Addr × Obj)} {σ : L2.St} {H : Hp} {s : Shared} {Q : VK} {us : List Value} {vs : List V} (M : Mk X.K C f) (G : FnOk X.prog X.w X.K X.mg X.base CX k f fd ps sp) (hr : Room (k + 1) X.A) (hb : Binds X.K fd ps [])
    (hx : PassesAt CX X σ E) (I : Inv X pins σ H s) (r : Vals vs us)
    (h : ∀ x dx, H x = none → H dx = none → dx ≠ x → sp (.ref x :: vs) (upd (upd H dx (.own x)) x (.ins C dx [])) (fun v H2 => v = .non ∧ Q (.ref x) H2) E) :
    wpAny (model X.prog X.w) X.A (call (.ref C) us) (EP X pins σ Q) X.xe s := by
  have hq := h (s.heap.objs.size + 1) s.heap.objs.size (I.hok.fresh (Nat.le_succ _)) (I.hok.fresh (Nat.le_refl _)) (Nat.ne_of_lt (Nat.lt_succ_self _))
  have I2 := Inv.made (C := C) I
  have r2 : Vals (V.ref (s.heap.objs.size + 1) :: vs) (Value.ref (s.heap.objs.size + 1) :: us) := .cons rfl r
  have hl : ((Value.ref (s.heap.objs.size + 1) :: us) ++ []).length = ps.length := by
    have e := r2.length
    rw [G.len _ _ _ _ hq] at e
    rw [List.append_nil]
    exact e.symm
  have bb := hb _ (Value.ref (s.heap.objs.size + 1) :: us) I2.kIn hl
  rw [List.append_nil] at bb
  refine wpAny_call (make_map (f := f) I.kIn M.makes M.init (beq_iff_eq.mp M.fn) (codeAny_mono (G.run _ X.stack _ _ ⟨Value.ref (s.heap.objs.size + 1) :: us, []⟩ (Value.ref (s.heap.objs.size + 1) :: us) _ _ E (hr.make C us [])
    (I2.env0.make C us []) bb r2 hq) fun r s' hq' => ?_))
  cases r with
  | error e => exact hx pins _ _ e s' I2 hq'
  | ok fl =>
    cases fl with
    | ret u =>
      obtain ⟨v, H', I3, rv, ev, q3⟩ := I2.after hq'
      subst ev
      exact ⟨rv, ⟨V.ref (s.heap.objs.size + 1), H', I3, rfl, q3⟩⟩
    | next => exact False.elim hq'
    | brk => exact False.elim hq'
    | cont => exact False.elim hq'
theorem p_make (Co : Cok T F Γ W X) {C : String} {lv : Nat} {x : Str} (hx : x = so C) (hf : T.cl C = some lv) (hg : glo X.env.scope x = true) (hd : (x == ("__debug__" : Str)) = false) (hst : es.all noStar = true) (ha : PA X es (LA F W fs)) (hn : es = [] → fs = fun _ m => .ok (.tup []) m) :
    PE X (.Call (.Name x p) es [] pos) (LE F W fun ρ m => (fs ρ m).bind fun y m => match y with
      | .tup ys => match Γ.meth C "__init__" with
        | some f => (Γ.fn f (.ref m.length :: ys) (m ++ [.ins C [] []])).bind fun d m2 => match d, m2[m.length]? with
          | .non, some (.ins C' ns ds) => if C' = C ∧ cutOk m m2 ∧ D.rbL m.length ds = true then .ok (.obj C ns ds) (m2.take m.length) else .stk
          | _, _ => .stk
        | none => .stk
      | _ => .stk) := by
  subst hx
  obtain ⟨hlv, A, hA, hm, g, f, hi, hfa, M, a', fd, ps, hfa', _, G, B⟩ := Co.make C lv hf
  rw [hfa] at hfa'
  cases hfa'
  have hK := Co.hK
  refine ⟨fun pins s σ H Q I h => ?_⟩
  refine wpAny_Call_Name_kw (ld_glob I (glo_ok hg) hm ?_ hd)
  refine callWithG (first := []) (R := fun vs H1 => ∀ x dx, H1 x = none → H1 dx = none → dx ≠ x → LSp F (Γ.fn g) (.ref x :: vs) (upd (upd H1 dx (.own x)) x (.ins A dx [])) (fun v H2 => v = .non ∧ Q (.ref x) H2) (WE W σ)) M.kp hst ha hn I ?_ fun us vs H1 s1 I1 rv q => ?_
  · obtain ⟨ρ, w, e, r, s0, h⟩ := h
    subst e
    refine lft_bind r s0 h fun y w1 vs e1 r1 s1 h1 p1 => ?_
    obtain ⟨ds, rfl, h2⟩ := h1
    intro x dx hx hdx hne
    dsimp only at p1
    rw [hi] at p1
    dsimp only at p1
    obtain ⟨r2, e2⟩ := add_rel (C := C) r1 hx hdx hne hA
    have hself : Rp F (wadd w1 x dx A C) (.ref w1.m.length) (.ref x) := by
      simp only [Rp]
      refine ⟨x, rfl, ?_⟩
      show (w1.ι ++ [x])[w1.m.length]? = some x
      rw [← r1.len]
      simp
    refine lsp_of (w := wadd w1 x dx A C) r2 (RpL.cons hself (RpL.ex e2 _ _ h2)) ?_
    show Post F (RE F) W σ (wadd w1 x dx A C) (Γ.fn g (.ref w1.m.length :: ds) (w1.m ++ [.ins C [] []])) _
    cases q0 : Γ.fn g (.ref w1.m.length :: ds) (w1.m ++ [.ins C [] []]) with
    | stk => rw [q0] at p1; exact p1.elim
    | err x m =>
      rw [q0] at p1
      exact fun w' c dd h1 h2 h3 h4 => p1 w' c dd h1 (e2.trans h2) h3 h4
    | ok d m2 =>
      rw [q0] at p1
      intro w3 v hm3 e3 r3 h3
      subst hm3
      dsimp only [Out.bind] at p1
      split at p1
      · rename_i C' ns ds' q
        split at p1
        · rename_i c
          obtain ⟨c1, c2, c3⟩ := c
          subst c1
          simp only [RE, Rp] at h3
          subst h3
          refine ⟨rfl, ?_⟩
          have e13 : Ex w1 w3 := e2.trans e3
          obtain ⟨r4, e4⟩ := cut_rel r1 r3 e13 c2
          have hix : w3.ι[w1.m.length]? = some x := by
            refine e3.ix ?_
            show (w1.ι ++ [x])[w1.m.length]? = some x
            rw [← r1.len]
            simp
          obtain ⟨A', dx', fls, xs, q1, q2, q3, q4, q5⟩ := r3.ob _ _ _ hix q
          refine p1 (wcut w1 w3) _ rfl e4 r4 ?_
          simp only [RE, Rp]
          exact ⟨x, A', dx', fls, xs, rfl, q1, q2, nlv_cut r1 r3 e13 (Nat.le_refl _) hix q (fun z => nomatch z), q3, q4, RpL.cut r1 e13 _ _ c3 q5⟩
        · exact p1.elim
      · exact p1.elim
  · exact run_makeS (E := WE W σ) M (hK ▸ G) (Co.room.mono hlv) (hK ▸ B) (passAt Co.tk σ) I1 rv q
/-- a new list that will be changed -/
theorem p_nls (ha : PA X es (LA F W fs)) : PE X (.List es pos) (LE F W fun ρ m => (fs ρ m).bind fun y m => match y with
    | .tup ys => if ys.length ≤ 16777216 then .ok (.ref m.length) (m ++ [.lst ys]) else .stk
    | _ => .stk) := by
  refine PEi (pe_lst ha) fun σ H Q ⟨ρ, w, e, r, s, h⟩ => ?_
  subst e
  refine lft_bind r s h fun x w1 vs e1 r1 s1 h1 p1 => ?_
  obtain ⟨ds, rfl, h3⟩ := h1
  dsimp only at p1
  split at p1
  · rename_i hl
    refine ⟨by rw [← h3.length, sizeLine_eq]; exact hl, fun p hp => ?_⟩
    obtain ⟨a1, a2, a3⟩ := addL_rel r1 hp h3
    exact p1 (waddL w1 p ds vs) _ rfl a2 a1 a3
  · exact p1.elim
theorem p_frz {i : Nat} {x : Str} {pos : Pos} (hN : X.N[i]? = some x) (hv : vis X.env.scope x = true) (hd : (x == ("__debug__" : Str)) = false) (hcd : (x == ("__classdict__" : Str)) = false) : PE X (.Name x pos) (LE F W fun ρ m => match ρ[i]? with
    | some (some (.ref a)) => match m[a]? with
      | some (.lst ds) => .ok (.lst ds) (m.set a .dead)
      | _ => .stk
    | _ => .stk) := by
  refine PEi (pe_var hN (vis_ok hv) hd hcd) fun σ H Q ⟨ρ, w, e, r, s, h⟩ => ?_
  subst e
  dsimp only at h
  split at h
  · rename_i a q
    obtain ⟨v, h1, h2⟩ := s.at_ i _ q
    simp only [Rp] at h2
    obtain ⟨ad, rfl, h3⟩ := h2
    split at h
    · rename_i ds q2
      obtain ⟨a1, a2, a3⟩ := dead_rel r h3 q2
      exact ⟨_, h1, h ⟨w.ι, w.m.set a .dead, w.H, w.pv⟩ _ rfl a2 a1 a3⟩
    · exact h.elim
  · exact h.elim
end
end PL

set_option Elab.async false
set_option linter.all false
set_option maxRecDepth 100000
set_option maxHeartbeats 4000000
/-! PL.Zip0: zip of n lists and tuples, at the library's level. -/
namespace PLZ
open PySem RZ
structure Cp where
  it : Addr
  l : Addr
  kd : Bool
  xs : Array Value
def ItA (h : Heap) (c : Cp) (i : Nat) : Prop := match c.kd with
  | true => h.IsTupleIter c.it c.l i
  | false => h.IsListIter c.it c.l i
def SrcA (h : Heap) (c : Cp) : Prop := match c.kd with
  | true => h.IsTuple c.l c.xs
  | false => h.IsList c.l c.xs
theorem ItA.at {h h' : Heap} {c : Cp} {i : Nat} (x : ItA h c i) (k : ∀ o, h.get? c.it = some o → h'.get? c.it = some o) : ItA h' c i := by
  unfold ItA at *
  split <;> rename_i e <;> rw [e] at x
  · exact Heap.IsTupleIter.at x k
  · exact Heap.IsListIter.at x k
theorem SrcA.at {h h' : Heap} {c : Cp} (x : SrcA h c) (k : ∀ o, h.get? c.l = some o → h'.get? c.l = some o) : SrcA h' c := by
  unfold SrcA at *
  split <;> rename_i e <;> rw [e] at x
  · obtain ⟨o, ho, r⟩ := x; exact ⟨o, k o ho, r⟩
  · obtain ⟨o, ho, r⟩ := x; exact ⟨o, k o ho, r⟩
theorem ItA.lt {h : Heap} {c : Cp} {i : Nat} (x : ItA h c i) : c.it < h.objs.size := by
  unfold ItA at x
  split at x <;> (obtain ⟨_, e, _⟩ := x; exact Heap.lt_size e)
structure Ap (z TI TO : Addr) (cs : List Cp) : Prop where
  TIz : TI ≠ z
  TOz : TO ≠ z
  TITO : TI ≠ TO
  its : ∀ c ∈ cs, c.it ≠ z ∧ c.it ≠ TI ∧ c.it ≠ TO
  nd : (cs.map (·.it)).Nodup
  src : ∀ c ∈ cs, c.l ≠ z ∧ c.l ≠ TO ∧ ∀ d ∈ cs, c.l ≠ d.it
abbrev IsTup (h : Heap) (T : Addr) (a : Array Value) : Prop := h.get? T = some { cls := .type "tuple", data := .seq a }
section
variable {prog : Program} {w : World} {A : Around} {E : Value → Shared → Prop} {s : Shared}
theorem nextA_item {c : Cp} {i : Nat} {x : Value} {Q : Value → Shared → Prop} (hit : ItA s.heap c i) (hl : SrcA s.heap c) (hx : c.xs[i]? = some x)
    (hQ : ∀ h', ItA h' c (i + 1) → Heap.SameBut c.it s.heap h' → Q x { s with heap := h' }) : wpAny (model prog w) A (Builtin.SmallTypes.nextOf (.ref c.it)) Q E s := by
  obtain ⟨it, l, kd, xs⟩ := c
  cases kd with
  | true => exact nextOf_tuple_item hit hl hx hQ
  | false => exact wpAny_nextOf_list_item hit hl hx hQ
theorem nextA_end {c : Cp} {i : Nat} {Q : Value → Shared → Prop} (hh : A.handled = none) (hit : ItA s.heap c i) (hl : SrcA s.heap c) (hx : c.xs[i]? = none)
    (hE : ∀ h' e, Heap.ExtBut c.it s.heap h' → (∃ o, h'.get? e = some o ∧ o.cls = .type "StopIteration") → E (.ref e) { s with heap := h' }) : wpAny (model prog w) A (Builtin.SmallTypes.nextOf (.ref c.it)) Q E s := by
  obtain ⟨it, l, kd, xs⟩ := c
  cases kd with
  | true => exact nextOf_tuple_end hh hit hl hx hE
  | false => exact wpAny_nextOf_list_end hh hit hl hx hE
theorem wpAny_updateSeq_tup {T : Addr} {arr : Array Value} {x : Value} {k : Nat} {Q : Unit → Shared → Prop} (hT : IsTup s.heap T arr) (hn : arr.size ≤ 100)
    (h : ∀ h', IsTup h' T (arr.setIfInBounds k x) → Heap.SameBut T s.heap h' → Q () { s with heap := h' }) :
    wpAny (model prog w) A (updateSeq T (·.setIfInBounds k x)) Q E s := by
  have hs : (100 : Nat) ≤ sizeLine := by decide
  refine wpAny_updateSeq hT rfl (h _ ?_ (Heap.SameBut.update ..)) (by omega) (by simp only [Array.size_setIfInBounds]; omega)
  unfold IsTup
  rw [Heap.get?_update_self _ hT rfl]
  simp [Obj.mapSeq]
/-- behind the first components -/
structure Mid (h0 : Heap) (z TI TO : Addr) (cs cs1 cs2 : List Cp) (i : Nat) (h : Heap) : Prop where
  eq : cs = cs1 ++ cs2
  zp : IsZip h z TI TO .ellipsis
  to : ∃ arr : Array Value, IsTup h TO arr ∧ arr.size = cs.length ∧ ∀ (j : Nat) (c : Cp), cs1[j]? = some c → arr[j]? = c.xs[i]?
  it1 : ∀ c ∈ cs1, ItA h c (i + 1)
  it2 : ∀ c ∈ cs2, ItA h c i
  src : ∀ c ∈ cs, SrcA h c
  sz : h.objs.size = h0.objs.size
  fr : ∀ b o, b ≠ z → b ≠ TO → b ∉ cs.map (·.it) → h0.get? b = some o → h.get? b = some o
theorem zip_next_item {z TI TO : Addr} {cs : List Cp} {i : Nat} {arr0 : Array Value} {Q : Value → Shared → Prop} (D : Ap z TI TO cs) (hne : cs ≠ []) (hn : cs.length ≤ 30)
    (hz : IsZip s.heap z TI TO .none) (hTI : IsTup s.heap TI (cs.map fun c => Value.ref c.it).toArray) (hTO : IsTup s.heap TO arr0) (h0 : arr0.size = cs.length)
    (hit : ∀ c ∈ cs, ItA s.heap c i) (hl : ∀ c ∈ cs, SrcA s.heap c) (hx : ∀ c ∈ cs, i < c.xs.size)
    (hQ : ∀ h' arr, IsZip h' z TI TO (rawInt s.heap.objs.size) → IsTup h' TO arr → arr.size = cs.length → (∀ c ∈ cs, ItA h' c (i + 1)) → IsTup h' s.heap.objs.size arr → (∀ (j : Nat) (c : Cp), cs[j]? = some c → arr[j]? = c.xs[i]?) → h'.objs.size = s.heap.objs.size + 1 →
      (∀ b o, b ≠ z → b ≠ TO → b ∉ cs.map (·.it) → s.heap.get? b = some o → h'.get? b = some o) → Q (.ref s.heap.objs.size) { s with heap := h' }) :
    wpAny (model prog w) A (Builtin.«zip.__next__» ⟨[.ref z], []⟩) (fun fin s' => ∃ v, fin = .done (.ret v) ∧ Q v s') E s := by
  show wpAny _ _ (field (.ref z) 2 >>= _) _ _ _
  refine wpAny_bind (wpAny_field hz rfl (x := .bool false) rfl ?_)
  show wpAny _ _ (field (.ref z) 3 >>= _) _ _ _
  refine wpAny_bind (wpAny_field hz rfl (x := .ref TI) rfl ?_)
  refine wpAny_bind (wpAny_seqItems hTI rfl ?_)
  have hemp : (cs.map fun c => Value.ref c.it).toArray.isEmpty = false := by
    cases cs with
    | nil => exact absurd rfl hne
    | cons c cs => rfl
  dsimp only
  rw [hemp]
  refine wpAny_bind ?_
  unfold Builtin.SmallTypes.ownedTupleIsFree
  refine wpAny_bind (wpAny_field hz rfl (x := .none) rfl (wpAny_pure ?_))
  simp only [if_true]
  refine wpAny_bind (wpAny_rule ?_)
  refine wpAny_bind (wpAny_field hz rfl (x := .ref TO) rfl ?_)
  refine wpAny_bind (wpAny_setField_rec hz (by simp) fun h₁ hz₁ hs₁ => ?_)
  replace hz₁ : IsZip h₁ z TI TO .ellipsis := hz₁
  have k₁ : ∀ b o, b ≠ z → s.heap.get? b = some o → h₁.get? b = some o := fun b o hb e => hs₁.extBut _ _ hb e
  have M0 : Mid s.heap z TI TO cs [] cs i h₁ := by
    refine ⟨rfl, hz₁, ⟨arr0, k₁ _ _ D.TOz hTO, h0, fun j c h => by simp at h⟩, fun c h => by simp at h, fun c h => (hit c h).at fun o e => k₁ _ _ (D.its c h).1 e, fun c h => (hl c h).at fun o e => k₁ _ _ (D.src c h).1 e, hs₁.1, fun b o hb _ _ e => k₁ b o hb e⟩
  refine wpAny_bind (wpAny_forIn_list _ (fun rest b s' => b = (none, ()) ∧ ∃ h cs1 cs2, s' = { s with heap := h } ∧ rest = (cs2.map fun c => Value.ref c.it).zipIdx cs1.length ∧ Mid s.heap z TI TO cs cs1 cs2 i h) _ ?_ ?_ _ _ ⟨rfl, h₁, [], cs, rfl, rfl, M0⟩)
  · rintro ⟨x, k⟩ rest b s' ⟨rfl, h, cs1, cs2, rfl, hr, M⟩
    cases cs2 with
    | nil => simp at hr
    | cons c cs2 =>
      simp only [List.map_cons, List.zipIdx_cons, List.cons.injEq, Prod.mk.injEq] at hr
      obtain ⟨⟨rfl, rfl⟩, rfl⟩ := hr
      have hc : c ∈ cs := by rw [M.eq]; simp
      obtain ⟨x, hxc⟩ : ∃ x, c.xs[i]? = some x := ⟨_, Array.getElem?_eq_getElem (hx c hc)⟩
      refine wpAny_bind (wpAny_onRaise ?_)
      show wpAny _ _ (Builtin.SmallTypes.nextOf (.ref c.it) >>= _) _ _ _
      refine wpAny_bind (nextA_item (M.it2 c (by simp)) (M.src c hc) hxc fun h₂ hit₂ hs₂ => wpAny_pure ?_)
      obtain ⟨arr, a1, a2, a3⟩ := M.to
      have k₂ : ∀ b o, b ≠ c.it → h.get? b = some o → h₂.get? b = some o := fun b o hb e => hs₂.extBut _ _ hb e
      have hTO₂ : IsTup h₂ TO arr := k₂ _ _ (D.its c hc).2.2.symm a1
      refine wpAny_bind (wpAny_seqItems hTO₂ rfl ?_)
      refine wpAny_bind (wpAny_updateSeq_tup hTO₂ (by omega) fun h₃ hTO₃ hs₃ => ?_)
      refine wpAny_bind (wpAny_letGo (wpAny_pure ?_))
      have k₃ : ∀ b o, b ≠ TO → h₂.get? b = some o → h₃.get? b = some o := fun b o hb e => hs₃.extBut _ _ hb e
      have kk : ∀ b o, b ≠ c.it → b ≠ TO → h.get? b = some o → h₃.get? b = some o := fun b o h1 h2 e => k₃ _ _ h2 (k₂ _ _ h1 e)
      have hnd := D.nd
      rw [M.eq, List.map_append, List.map_cons, List.nodup_append] at hnd
      obtain ⟨n1, n2, n3⟩ := hnd
      rw [List.nodup_cons] at n2
      refine ⟨rfl, h₃, cs1 ++ [c], cs2, rfl, by rw [List.length_append]; rfl, ⟨by rw [M.eq]; simp, kk _ _ (D.its c hc).1.symm D.TOz.symm M.zp, ⟨_, hTO₃, by rw [Array.size_setIfInBounds]; exact a2, fun j d hj => ?_⟩, fun d hd => ?_, fun d hd => ?_, fun d hd => ?_, by rw [hs₃.1, hs₂.1]; exact M.sz, fun b o b1 b2 b3 e => ?_⟩⟩
      · have hsz : cs1.length < arr.size := by rw [a2, M.eq]; simp
        by_cases hj1 : j < cs1.length
        · rw [List.getElem?_append_left hj1] at hj
          rw [Array.getElem?_setIfInBounds_ne (by omega)]
          exact a3 j d hj
        · rw [List.getElem?_append_right (by omega)] at hj
          have : j - cs1.length = 0 := by
            have := (List.getElem?_eq_some_iff.mp hj).1
            simp at this
            omega
          rw [this] at hj
          simp at hj
          subst hj
          have : j = cs1.length := by omega
          subst this
          rw [hxc]
          simp [Array.getElem?_setIfInBounds, hsz]
      · rcases List.mem_append.mp hd with hd | hd
        · have hdc : d ∈ cs := by rw [M.eq]; simp [hd]
          exact (M.it1 d hd).at fun o e => kk _ _ (fun z => n3 d.it (List.mem_map_of_mem hd) c.it (by simp) z) (D.its d hdc).2.2 e
        · simp at hd
          subst hd
          exact hit₂.at fun o e => k₃ _ _ (D.its d hc).2.2 e
      · have hdc : d ∈ cs := by rw [M.eq]; simp [hd]
        exact (M.it2 d (by simp [hd])).at fun o e => kk _ _ (fun z => n2.1 (z ▸ List.mem_map_of_mem hd)) (D.its d hdc).2.2 e
      · exact (M.src d hd).at fun o e => kk _ _ ((D.src d hd).2.2 c hc) (D.src d hd).2.1 e
      · exact kk _ _ (fun z => b3 (z ▸ List.mem_map_of_mem hc)) b2 (M.fr b o b1 b2 b3 e)
  · rintro b s' ⟨rfl, h, cs1, cs2, rfl, hr, M⟩
    have hcs2 : cs2 = [] := by cases cs2 with
      | nil => rfl
      | cons c cs2 => simp at hr
    subst hcs2
    have e1 : cs1 = cs := by rw [M.eq]; simp
    subst e1
    obtain ⟨arr, hTO₅, a2, a3⟩ := M.to
    dsimp only
    refine wpAny_bind (wpAny_seqItems hTO₅ rfl ?_)
    have h100 : (100 : Nat) ≤ sizeLine := by decide
    refine wpAny_bind (wpAny_newTuple ?_ (by simp; omega))
    have hsz := M.sz
    have hz₅ := M.zp
    have hzlt : z < h.objs.size := Heap.lt_size hz₅
    have hTOlt : TO < h.objs.size := Heap.lt_size hTO₅
    show wpAny _ _ (Builtin.SmallTypes.ownedTupleHandOut (.ref z) (.ref h.objs.size) >>= _) _ _ _
    refine wpAny_bind ?_
    unfold Builtin.SmallTypes.ownedTupleHandOut
    have hz₆ : IsZip (h.push { cls := .type "tuple", data := .seq arr }) z TI TO .ellipsis := Heap.get?_push_of_some _ hz₅
    simp only [Array.toArray_toList]
    refine wpAny_bind (wpAny_setField_rec hz₆ (by simp) fun h₇ hz₇ hs₇ => ?_)
    replace hz₇ : IsZip h₇ z TI TO (rawInt h.objs.size) := hz₇
    refine wpAny_setField_rec hz₇ (by simp) fun h₈ hz₈ hs₈ => ?_
    replace hz₈ : IsZip h₈ z TI TO (rawInt h.objs.size) := hz₈
    have up : ∀ c o, c ≠ z → h.get? c = some o → h₈.get? c = some o := fun c o c1 e => hs₈.extBut _ _ c1 (hs₇.extBut _ _ c1 (Heap.get?_push_of_some _ e))
    have hT₈ : IsTup h₈ h.objs.size arr := hs₈.extBut _ _ (Nat.ne_of_gt hzlt) (hs₇.extBut _ _ (Nat.ne_of_gt hzlt) (Heap.get?_push_size _ rfl))
    have hz8 : h₈.objs.size = h.objs.size + 1 := by rw [hs₈.1, hs₇.1, Heap.size_push]
    rw [hsz] at hz₈ hT₈ hz8
    refine wpAny_pure ⟨_, rfl, ?_⟩
    show Q (.ref h.objs.size) _
    rw [hsz]
    exact hQ h₈ arr hz₈ (up _ _ D.TOz hTO₅) a2 (fun c hc => (M.it1 c hc).at fun o e => up _ o (D.its c hc).1 e) hT₈ a3 hz8 fun b o b1 b2 b3 e => up b o b1 (M.fr b o b1 b2 b3 e)
theorem zip_next_end {z TI TO : Addr} {cs : List Cp} {i : Nat} {arr0 : Array Value} {Q : Fin → Shared → Prop} (hh : A.handled = none) (D : Ap z TI TO cs) (hn : cs.length ≤ 30)
    (hz : IsZip s.heap z TI TO .none) (hTI : IsTup s.heap TI (cs.map fun c => Value.ref c.it).toArray) (hTO : IsTup s.heap TO arr0) (h0 : arr0.size = cs.length)
    (hit : ∀ c ∈ cs, ItA s.heap c i) (hl : ∀ c ∈ cs, SrcA s.heap c) (hend : ∃ c ∈ cs, c.xs[i]? = none)
    (hE : ∀ h' e, (∀ b o, b ≠ z → b ≠ TO → b ∉ cs.map (·.it) → s.heap.get? b = some o → h'.get? b = some o) → (∃ o, h'.get? e = some o ∧ o.cls = .type "StopIteration") → E (.ref e) { s with heap := h' }) :
    wpAny (model prog w) A (Builtin.«zip.__next__» ⟨[.ref z], []⟩) Q E s := by
  show wpAny _ _ (field (.ref z) 2 >>= _) _ _ _
  refine wpAny_bind (wpAny_field hz rfl (x := .bool false) rfl ?_)
  show wpAny _ _ (field (.ref z) 3 >>= _) _ _ _
  refine wpAny_bind (wpAny_field hz rfl (x := .ref TI) rfl ?_)
  refine wpAny_bind (wpAny_seqItems hTI rfl ?_)
  have hemp : (cs.map fun c => Value.ref c.it).toArray.isEmpty = false := by
    cases cs with
    | nil => obtain ⟨c, hc, _⟩ := hend; cases hc
    | cons c cs => rfl
  dsimp only
  rw [hemp]
  refine wpAny_bind ?_
  unfold Builtin.SmallTypes.ownedTupleIsFree
  refine wpAny_bind (wpAny_field hz rfl (x := .none) rfl (wpAny_pure ?_))
  simp only [if_true]
  refine wpAny_bind (wpAny_rule ?_)
  refine wpAny_bind (wpAny_field hz rfl (x := .ref TO) rfl ?_)
  refine wpAny_bind (wpAny_setField_rec hz (by simp) fun h₁ hz₁ hs₁ => ?_)
  replace hz₁ : IsZip h₁ z TI TO .ellipsis := hz₁
  have k₁ : ∀ b o, b ≠ z → s.heap.get? b = some o → h₁.get? b = some o := fun b o hb e => hs₁.extBut _ _ hb e
  have M0 : Mid s.heap z TI TO cs [] cs i h₁ := by
    refine ⟨rfl, hz₁, ⟨arr0, k₁ _ _ D.TOz hTO, h0, fun j c h => by simp at h⟩, fun c h => by simp at h, fun c h => (hit c h).at fun o e => k₁ _ _ (D.its c h).1 e, fun c h => (hl c h).at fun o e => k₁ _ _ (D.src c h).1 e, hs₁.1, fun b o hb _ _ e => k₁ b o hb e⟩
  refine wpAny_bind (wpAny_forIn_list _ (fun rest b s' => b = (none, ()) ∧ ∃ h cs1 cs2, s' = { s with heap := h } ∧ rest = (cs2.map fun c => Value.ref c.it).zipIdx cs1.length ∧ (∃ c ∈ cs2, c.xs[i]? = none) ∧ Mid s.heap z TI TO cs cs1 cs2 i h) _ ?_ ?_ _ _ ⟨rfl, h₁, [], cs, rfl, rfl, hend, M0⟩)
  · rintro ⟨x, k⟩ rest b s' ⟨rfl, h, cs1, cs2, rfl, hr, hend, M⟩
    cases cs2 with
    | nil => simp at hr
    | cons c cs2 =>
      simp only [List.map_cons, List.zipIdx_cons, List.cons.injEq, Prod.mk.injEq] at hr
      obtain ⟨⟨rfl, rfl⟩, rfl⟩ := hr
      have hc : c ∈ cs := by rw [M.eq]; simp
      refine wpAny_bind (wpAny_onRaise ?_)
      show wpAny _ _ (Builtin.SmallTypes.nextOf (.ref c.it) >>= _) _ _ _
      cases hxc : c.xs[i]? with
      | none =>
        refine wpAny_bind (nextA_end hh (M.it2 c (by simp)) (M.src c hc) hxc fun h₂ e hs₂ he => ?_)
        obtain ⟨oe, hoe, hce⟩ := he
        have hz₂ : IsZip h₂ z TI TO .ellipsis := hs₂ _ _ (D.its c hc).1.symm M.zp
        have hez : e ≠ z := fun x => by subst x; rw [hz₂] at hoe; cases hoe; simp at hce
        refine wpAny_setField_rec hz₂ (by simp) fun h₃ _ hs₃ => hE h₃ e (fun b o b1 b2 b3 x => hs₃.extBut _ _ b1 (hs₂ _ _ (fun z => b3 (z ▸ List.mem_map_of_mem hc)) (M.fr b o b1 b2 b3 x))) ⟨oe, hs₃.extBut _ _ hez hoe, hce⟩
      | some x =>
        have hend' : ∃ c ∈ cs2, c.xs[i]? = none := by
          obtain ⟨d, hd, q⟩ := hend
          rcases List.mem_cons.mp hd with e | hd
          · subst e; rw [hxc] at q; cases q
          · exact ⟨d, hd, q⟩
        refine wpAny_bind (nextA_item (M.it2 c (by simp)) (M.src c hc) hxc fun h₂ hit₂ hs₂ => wpAny_pure ?_)
        obtain ⟨arr, a1, a2, a3⟩ := M.to
        have k₂ : ∀ b o, b ≠ c.it → h.get? b = some o → h₂.get? b = some o := fun b o hb e => hs₂.extBut _ _ hb e
        have hTO₂ : IsTup h₂ TO arr := k₂ _ _ (D.its c hc).2.2.symm a1
        refine wpAny_bind (wpAny_seqItems hTO₂ rfl ?_)
        refine wpAny_bind (wpAny_updateSeq_tup hTO₂ (by omega) fun h₃ hTO₃ hs₃ => ?_)
        refine wpAny_bind (wpAny_letGo (wpAny_pure ?_))
        have k₃ : ∀ b o, b ≠ TO → h₂.get? b = some o → h₃.get? b = some o := fun b o hb e => hs₃.extBut _ _ hb e
        have kk : ∀ b o, b ≠ c.it → b ≠ TO → h.get? b = some o → h₃.get? b = some o := fun b o h1 h2 e => k₃ _ _ h2 (k₂ _ _ h1 e)
        have hnd := D.nd
        rw [M.eq, List.map_append, List.map_cons, List.nodup_append] at hnd
        obtain ⟨n1, n2, n3⟩ := hnd
        rw [List.nodup_cons] at n2
        refine ⟨rfl, h₃, cs1 ++ [c], cs2, rfl, by rw [List.length_append]; rfl, hend', ⟨by rw [M.eq]; simp, kk _ _ (D.its c hc).1.symm D.TOz.symm M.zp, ⟨_, hTO₃, by rw [Array.size_setIfInBounds]; exact a2, fun j d hj => ?_⟩, fun d hd => ?_, fun d hd => ?_, fun d hd => ?_, by rw [hs₃.1, hs₂.1]; exact M.sz, fun b o b1 b2 b3 e => ?_⟩⟩
        · have hsz : cs1.length < arr.size := by rw [a2, M.eq]; simp
          by_cases hj1 : j < cs1.length
          · rw [List.getElem?_append_left hj1] at hj
            rw [Array.getElem?_setIfInBounds_ne (by omega)]
            exact a3 j d hj
          · rw [List.getElem?_append_right (by omega)] at hj
            have : j - cs1.length = 0 := by
              have := (List.getElem?_eq_some_iff.mp hj).1
              simp at this
              omega
            rw [this] at hj
            simp at hj
            subst hj
            have : j = cs1.length := by omega
            subst this
            rw [hxc]
            simp [Array.getElem?_setIfInBounds, hsz]
        · rcases List.mem_append.mp hd with hd | hd
          · have hdc : d ∈ cs := by rw [M.eq]; simp [hd]
            exact (M.it1 d hd).at fun o e => kk _ _ (fun z => n3 d.it (List.mem_map_of_mem hd) c.it (by simp) z) (D.its d hdc).2.2 e
          · simp at hd
            subst hd
            exact hit₂.at fun o e => k₃ _ _ (D.its d hc).2.2 e
        · have hdc : d ∈ cs := by rw [M.eq]; simp [hd]
          exact (M.it2 d (by simp [hd])).at fun o e => kk _ _ (fun z => n2.1 (z ▸ List.mem_map_of_mem hd)) (D.its d hdc).2.2 e
        · exact (M.src d hd).at fun o e => kk _ _ ((D.src d hd).2.2 c hc) (D.src d hd).2.1 e
        · exact kk _ _ (fun z => b3 (z ▸ List.mem_map_of_mem hc)) b2 (M.fr b o b1 b2 b3 e)
  · rintro b s' ⟨rfl, h, cs1, cs2, rfl, hr, ⟨c, hc, _⟩, M⟩
    cases cs2 with
    | nil => cases hc
    | cons c cs2 => simp at hr
theorem pyNext_zip_item {z TI TO : Addr} {cs : List Cp} {i : Nat} {arr0 : Array Value} {Q : Option Value → Shared → Prop} (D : Ap z TI TO cs) (hne : cs ≠ []) (hn : cs.length ≤ 30)
    (hz : IsZip s.heap z TI TO .none) (hTI : IsTup s.heap TI (cs.map fun c => Value.ref c.it).toArray) (hTO : IsTup s.heap TO arr0) (h0 : arr0.size = cs.length)
    (hit : ∀ c ∈ cs, ItA s.heap c i) (hl : ∀ c ∈ cs, SrcA s.heap c) (hx : ∀ c ∈ cs, i < c.xs.size)
    (hQ : ∀ h' arr, IsZip h' z TI TO (rawInt s.heap.objs.size) → IsTup h' TO arr → arr.size = cs.length → (∀ c ∈ cs, ItA h' c (i + 1)) → IsTup h' s.heap.objs.size arr → (∀ (j : Nat) (c : Cp), cs[j]? = some c → arr[j]? = c.xs[i]?) → h'.objs.size = s.heap.objs.size + 1 →
      (∀ b o, b ≠ z → b ≠ TO → b ∉ cs.map (·.it) → s.heap.get? b = some o → h'.get? b = some o) → Q (some (.ref s.heap.objs.size)) { s with heap := h' }) :
    wpAny (model prog w) A (pyNext (.ref z)) Q E s := by
  have hT : s.TypeIs (.ref z) "zip" := ⟨_, hz, rfl⟩
  unfold pyNext
  exact wpAny_bind (wpAny_attempt (wpAny_callSpecial?_slot (name := Str.ofString "__next__") hT F.slot_zip_next
    (wpAny_call_entry F.slot_zip_next hT F.entry_zip_next
      (zip_next_item D hne hn hz hTI hTO h0 hit hl hx fun h' arr a1 a2 a3 a4 a5 a6 a7 a8 => wpAny_pure (hQ h' arr a1 a2 a3 a4 a5 a6 a7 a8)) (F.args_zip_next_1 _))))
theorem pyNext_zip_end {z TI TO : Addr} {cs : List Cp} {i : Nat} {arr0 : Array Value} {Q : Option Value → Shared → Prop} (hh : A.handled = none) (D : Ap z TI TO cs) (hn : cs.length ≤ 30)
    (hz : IsZip s.heap z TI TO .none) (hTI : IsTup s.heap TI (cs.map fun c => Value.ref c.it).toArray) (hTO : IsTup s.heap TO arr0) (h0 : arr0.size = cs.length)
    (hit : ∀ c ∈ cs, ItA s.heap c i) (hl : ∀ c ∈ cs, SrcA s.heap c) (hend : ∃ c ∈ cs, c.xs[i]? = none)
    (hQ : ∀ h', (∀ b o, b ≠ z → b ≠ TO → b ∉ cs.map (·.it) → s.heap.get? b = some o → h'.get? b = some o) → Q none { s with heap := h' }) : wpAny (model prog w) A (pyNext (.ref z)) Q E s := by
  have hT : s.TypeIs (.ref z) "zip" := ⟨_, hz, rfl⟩
  unfold pyNext
  refine wpAny_bind (wpAny_attempt (wpAny_callSpecial?_slot (name := Str.ofString "__next__") hT F.slot_zip_next
    (wpAny_call_entry F.slot_zip_next hT F.entry_zip_next (zip_next_end hh D hn hz hTI hTO h0 hit hl hend fun h' e hk he => ?_) (F.args_zip_next_1 _))))
  obtain ⟨o, ho, hc⟩ := he
  refine wpAny_bind (wpAny_isInstance (T := "StopIteration") (b := true) ⟨o, ho, hc⟩ isSubtype_stop ?_)
  exact wpAny_pure (hQ _ hk)
end
end PLZ

set_option Elab.async false
set_option linter.all false
set_option maxRecDepth 100000
set_option maxHeartbeats 4000000
/-! PL.Zip1: zip of n lists and tuples is made. -/
namespace PLZ
open PySem RZ
/-- a source: where, a tuple?, its items -/
abbrev Sr := Addr × Bool × Array Value
def SrcS (h : Heap) (b : Sr) : Prop := SrcA h ⟨0, b.1, b.2.1, b.2.2⟩
def cpsAt : Nat → List Sr → List Cp
  | _, [] => []
  | n, b :: r => ⟨n, b.1, b.2.1, b.2.2⟩ :: cpsAt (n + 1) r
theorem cpsAt_app : ∀ (n : Nat) (a b : List Sr), cpsAt n (a ++ b) = cpsAt n a ++ cpsAt (n + a.length) b
  | n, [], b => by simp [cpsAt]
  | n, x :: a, b => by
    simp only [List.cons_append, cpsAt, cpsAt_app (n + 1) a b, List.length_cons]
    rw [show n + 1 + a.length = n + (a.length + 1) by omega]
theorem cpsAt_len : ∀ (n : Nat) (a : List Sr), (cpsAt n a).length = a.length
  | n, [] => rfl
  | n, x :: a => by simp [cpsAt, cpsAt_len (n + 1) a]
theorem cpsAt_it : ∀ (n : Nat) (a : List Sr) (c : Cp), c ∈ cpsAt n a → n ≤ c.it ∧ c.it < n + a.length
  | n, [], c, h => by simp [cpsAt] at h
  | n, x :: a, c, h => by
    simp only [cpsAt, List.mem_cons] at h
    rcases h with rfl | h
    · simp
    · have q := cpsAt_it (n + 1) a c h
      have h1 : @LE.le Nat _ (n + 1) c.it := q.1
      have h2 : @LT.lt Nat _ c.it (n + 1 + a.length) := q.2
      have h3 : @LE.le Nat _ n c.it := by omega
      have h4 : @LT.lt Nat _ c.it (n + (a.length + 1)) := by omega
      exact ⟨h3, h4⟩
theorem cpsAt_src : ∀ (n : Nat) (a : List Sr) (c : Cp), c ∈ cpsAt n a → (c.l, c.kd, c.xs) ∈ a
  | n, [], c, h => by simp [cpsAt] at h
  | n, x :: a, c, h => by
    simp only [cpsAt, List.mem_cons] at h
    rcases h with rfl | h
    · simp
    · exact List.mem_cons_of_mem _ (cpsAt_src (n + 1) a c h)
theorem cpsAt_nd : ∀ (n : Nat) (a : List Sr), ((cpsAt n a).map (·.it)).Nodup
  | n, [] => by simp [cpsAt]
  | n, x :: a => by
    simp only [cpsAt, List.map_cons, List.nodup_cons]
    refine ⟨fun h => ?_, cpsAt_nd (n + 1) a⟩
    obtain ⟨c, hc, e⟩ := List.mem_map.mp h
    have h1 : @LE.le Nat _ (n + 1) c.it := (cpsAt_it (n + 1) a c hc).1
    have e : @Eq Nat c.it n := e
    omega
section
variable {prog : Program} {w : World} {A : Around} {E : Value → Shared → Prop} {s : Shared}
theorem pyIterA {b : Sr} {Q : Value → Shared → Prop} (hl : SrcS s.heap b) (hQ : ∀ h', ItA h' ⟨s.heap.objs.size, b.1, b.2.1, b.2.2⟩ 0 → h'.objs.size = s.heap.objs.size + 1 → (∀ a o, s.heap.get? a = some o → h'.get? a = some o) → Q (.ref s.heap.objs.size) { s with heap := h' }) :
    wpAny (model prog w) A (pyIter (.ref b.1)) Q E s := by
  obtain ⟨l, kd, xs⟩ := b
  cases kd with
  | true => exact wpAny_pyIter_tuple hl (hQ _ ⟨_, Heap.get?_push_size _ rfl, rfl, rfl⟩ (Heap.size_push ..) fun a o e => Heap.get?_push_of_some _ e)
  | false => exact wpAny_pyIter_list hl (hQ _ ⟨_, Heap.get?_push_size _ rfl, rfl, rfl⟩ (Heap.size_push ..) fun a o e => Heap.get?_push_of_some _ e)
theorem iterAll_n {bs : List Sr} {Q : List Value → Shared → Prop} (hl : ∀ b ∈ bs, SrcS s.heap b)
    (hQ : ∀ h', (∀ c ∈ cpsAt s.heap.objs.size bs, ItA h' c 0) → h'.objs.size = s.heap.objs.size + bs.length → (∀ a o, s.heap.get? a = some o → h'.get? a = some o) → Q ((cpsAt s.heap.objs.size bs).map fun c => Value.ref c.it) { s with heap := h' }) :
    wpAny (model prog w) A (Builtin.SmallTypes.iterAll (bs.map fun b => Value.ref b.1)) Q E s := by
  unfold Builtin.SmallTypes.iterAll
  refine wpAny_bind (wpAny_forIn_list _ (fun rest arr s' => ∃ h bs1 bs2, s' = { s with heap := h } ∧ rest = bs2.map (fun b : Sr => Value.ref b.1) ∧ bs = bs1 ++ bs2 ∧ arr = ((cpsAt s.heap.objs.size bs1).map fun c => Value.ref c.it).toArray ∧ (∀ c ∈ cpsAt s.heap.objs.size bs1, ItA h c 0) ∧ h.objs.size = s.heap.objs.size + bs1.length ∧ ∀ a o, s.heap.get? a = some o → h.get? a = some o) _ ?_ ?_ _ _ ⟨s.heap, [], bs, rfl, rfl, rfl, rfl, fun c h => by simp [cpsAt] at h, rfl, fun _ _ e => e⟩)
  · rintro x rest arr s' ⟨h, bs1, bs2, rfl, hr, e, rfl, hi, hsz, hk⟩
    cases bs2 with
    | nil => simp at hr
    | cons b bs2 =>
      simp only [List.map_cons, List.cons.injEq] at hr
      obtain ⟨rfl, rfl⟩ := hr
      have hb : b ∈ bs := by rw [e]; simp
      refine wpAny_bind (wpAny_holding (pyIterA (b := b) (SrcA.at (hl b hb) fun o q => hk _ o q) fun h' i1 z1 k1 => wpAny_pure ?_))
      refine ⟨h', bs1 ++ [b], bs2, rfl, rfl, by rw [e]; simp, ?_, fun c hc => ?_, by rw [z1, List.length_append, hsz]; rfl, fun a o q => k1 a o (hk a o q)⟩
      · rw [cpsAt_app]
        simp [cpsAt, hsz]
      · rw [cpsAt_app] at hc
        rcases List.mem_append.mp hc with hc | hc
        · exact (hi c hc).at fun o q => k1 _ o q
        · simp only [cpsAt, List.mem_singleton] at hc
          subst hc
          rw [← hsz]
          exact i1
  · rintro arr s' ⟨h, bs1, bs2, rfl, hr, e, rfl, hi, hsz, hk⟩
    cases bs2 with
    | cons b bs2 => simp at hr
    | nil =>
      have e1 : bs1 = bs := by rw [e]; simp
      subst e1
      exact wpAny_pure (hQ h hi hsz hk)
end
/-- what zip leaves -/
structure ZMade (h0 h' : Heap) (bs : List Sr) : Prop where
  zp : IsZip h' (h0.objs.size + bs.length + 2) (h0.objs.size + bs.length) (h0.objs.size + bs.length + 1) .none
  ti : IsTup h' (h0.objs.size + bs.length) ((cpsAt h0.objs.size bs).map fun c => Value.ref c.it).toArray
  to : IsTup h' (h0.objs.size + bs.length + 1) ((cpsAt h0.objs.size bs).map fun _ => Value.none).toArray
  its : ∀ c ∈ cpsAt h0.objs.size bs, ItA h' c 0
  keep : ∀ a o, h0.get? a = some o → h'.get? a = some o
  sz : h'.objs.size = h0.objs.size + bs.length + 3
theorem meets_zip_new (bs : List Sr) (hn : bs.length ≤ 30) :
    Meets (Builtin.«zip.__new__» ⟨.type "zip" :: bs.map (fun b => Value.ref b.1), []⟩) (fun _ R s => (∀ b ∈ bs, SrcS s.heap b) ∧ ∀ h', ZMade s.heap h' bs → R (.ok (.ret (.ref (s.heap.objs.size + bs.length + 2)))) { s with heap := h' }) :=
  .of_wp fun prog w A R s h => by
    obtain ⟨hl, hR⟩ := h
    have hsub := sub_zip
    have h100 : (100 : Nat) ≤ sizeLine := by decide
    unfold Builtin.«zip.__new__»
    refine wpAny_bind ?_
    refine wpAny_of_eq (a := (Value.type "zip", bs.map fun b => Value.ref b.1)) (by kernel_rfl) ?_
    dsimp only
    refine wpAny_ite_split (fun q => absurd q (by simp)) (fun _ => ?_)
    refine wpAny_bind (iterAll_n hl fun h1 hi hsz hk => ?_)
    have ln : (cpsAt s.heap.objs.size bs).length = bs.length := cpsAt_len _ _
    refine wpAny_bind (wpAny_newTuple ?_ (by simp [ln]; omega))
    refine wpAny_bind (wpAny_newTuple ?_ (by simp [ln]; omega))
    refine wpAny_bind ?_
    unfold Builtin.SmallTypes.newRecord
    dsimp only
    refine wpAny_newObj_type (wpAny_pure ⟨_, rfl, ?_⟩) (by show (5 : Nat) ≤ sizeLine + 2; decide)
    let T1 : Obj := { cls := .type "tuple", data := .seq ((cpsAt s.heap.objs.size bs).map fun c => Value.ref c.it).toArray }
    let T2 : Obj := { cls := .type "tuple", data := .seq (((cpsAt s.heap.objs.size bs).map fun c => Value.ref c.it).map fun _ => Value.none).toArray }
    let T3 : Obj := { cls := .type "zip", data := .fields #[.none, .bool false, .bool false, .ref h1.objs.size, .ref (h1.push T1).objs.size] }
    have g3 : (((h1.push T1).push T2).push T3).get? ((h1.push T1).push T2).objs.size = some T3 := Heap.get?_push_size _ rfl
    have g2 : (((h1.push T1).push T2).push T3).get? (h1.push T1).objs.size = some T2 := Heap.get?_push_of_some _ (Heap.get?_push_size _ rfl)
    have g1 : (((h1.push T1).push T2).push T3).get? h1.objs.size = some T1 := Heap.get?_push_of_some _ (Heap.get?_push_of_some _ (Heap.get?_push_size _ rfl))
    have z1 : (h1.push T1).objs.size = s.heap.objs.size + bs.length + 1 := by rw [Heap.size_push, hsz]
    have z2 : ((h1.push T1).push T2).objs.size = s.heap.objs.size + bs.length + 2 := by rw [Heap.size_push, z1]
    have up : ∀ a o, h1.get? a = some o → (((h1.push T1).push T2).push T3).get? a = some o := fun a o e => Heap.get?_push_of_some _ (Heap.get?_push_of_some _ (Heap.get?_push_of_some _ e))
    have hM : ZMade s.heap (((h1.push T1).push T2).push T3) bs := by
      refine ⟨?_, ?_, ?_, fun c hc => (hi c hc).at fun o e => up _ o e, fun a o e => up a o (hk a o e), by rw [Heap.size_push, z2]⟩
      · unfold IsZip
        rw [z2] at g3
        rw [g3]
        show some ({ cls := .type "zip", data := .fields #[.none, .bool false, .bool false, .ref h1.objs.size, .ref (h1.push T1).objs.size] } : Obj) = _
        rw [z1, hsz]
      · unfold IsTup
        rw [hsz] at g1
        exact g1
      · unfold IsTup
        rw [z1] at g2
        rw [g2]
        show some ({ cls := .type "tuple", data := .seq (((cpsAt s.heap.objs.size bs).map fun c => Value.ref c.it).map fun _ => Value.none).toArray } : Obj) = _
        rw [List.map_map]
        rfl
    have q := hR _ hM
    show R (.ok (.ret (.ref ((h1.push T1).push T2).objs.size))) _
    rw [z2]
    exact q
theorem args_init (bs : List Sr) (hn : bs.length = 2 ∨ bs.length = 3 ∨ bs.length = 4) (obj : Value) : argsOk "object.__init__" ⟨obj :: bs.map (fun b => Value.ref b.1), []⟩ := by
  unfold argsOk
  rw [signature?_of (id := "object.__init__") (n := ['_', '_', 't', 'i', 'n', 'i', '_', '_']) (o := ['t', 'c', 'e', 'j', 'b', 'o']) (by kernel_rfl) F.owner_object]
  match bs, hn with
  | [a, b], _ => kernel_rfl
  | [a, b, c], _ => kernel_rfl
  | [a, b, c, d], _ => kernel_rfl
theorem typ_call (bs : List Sr) (hn : bs.length = 2 ∨ bs.length = 3 ∨ bs.length = 4) : checkTypeCall "zip" ⟨bs.map (fun b => Value.ref b.1), []⟩ = pure () ∧ checkBuiltinCall "zip.__new__" ⟨.type "zip" :: bs.map (fun b => Value.ref b.1), []⟩ = pure () := by
  match bs, hn with
  | [a, b], _ => exact ⟨by kernel_rfl, by kernel_rfl⟩
  | [a, b, c], _ => exact ⟨by kernel_rfl, by kernel_rfl⟩
  | [a, b, c, d], _ => exact ⟨by kernel_rfl, by kernel_rfl⟩
section
variable {prog : Program} {w : World} {A : Around} {E : Value → Shared → Prop} {s : Shared}
theorem call_zip {bs : List Sr} (hn : bs.length = 2 ∨ bs.length = 3 ∨ bs.length = 4) {Q : Value → Shared → Prop} (hl : ∀ b ∈ bs, SrcS s.heap b)
    (h : ∀ h', ZMade s.heap h' bs → Q (.ref (s.heap.objs.size + bs.length + 2)) { s with heap := h' }) : wpAny (model prog w) A (call (.type "zip") (bs.map fun b => Value.ref b.1)) Q E s := by
  refine callType_new F.called_zip (by decide) (typ_call bs hn).1 (typ_call bs hn).2 (fun obj => args_init bs hn obj) F.entry_zip_new (meets_zip_new bs (by omega)) ⟨hl, fun h' M => ?_⟩
  exact ⟨⟨_, M.zp, rfl⟩, h h' M⟩
end
theorem ap_of (n : Nat) (bs : List Sr) (hb : ∀ b ∈ bs, @LT.lt Nat _ b.1 n) : Ap (n + bs.length + 2) (n + bs.length) (n + bs.length + 1) (cpsAt n bs) := by
  refine ⟨Nat.ne_of_lt (Nat.lt_succ_of_lt (Nat.lt_succ_self _)), Nat.ne_of_lt (Nat.lt_succ_self _), Nat.ne_of_lt (Nat.lt_succ_self _), fun c hc => ?_, cpsAt_nd _ _, fun c hc => ?_⟩
  · have h2 : @LT.lt Nat _ c.it (n + bs.length) := (cpsAt_it n bs c hc).2
    exact ⟨Nat.ne_of_lt (Nat.lt_succ_of_lt (Nat.lt_succ_of_lt h2)), Nat.ne_of_lt h2, Nat.ne_of_lt (Nat.lt_succ_of_lt h2)⟩
  · have h1 : @LT.lt Nat _ c.l n := hb _ (cpsAt_src n bs c hc)
    refine ⟨Nat.ne_of_lt (by omega), Nat.ne_of_lt (by omega), fun d hd => ?_⟩
    have h3 : @LE.le Nat _ n d.it := (cpsAt_it n bs d hd).1
    exact Nat.ne_of_lt (Nat.lt_of_lt_of_le h1 h3)
end PLZ

set_option Elab.async false
set_option linter.all false
set_option maxRecDepth 100000
set_option maxHeartbeats 4000000
/-! PL.Zip: a loop over zip of n lists and tuples. -/
namespace PLZ
open PySem PySem.Spec PyProof.Rows L2 RZ
/-- the sources hold the items -/
def Sqs (K : PySem.W.Frag) (H : Hp) : List (Addr × Bool) → List (List V) → Prop
  | [], [] => True
  | (a, k) :: r, xs :: q => (if k = true then SqT K H a xs else SqL K H a xs) ∧ Sqs K H r q
  | _, _ => False
def ItzN (K : PySem.W.Frag) (sr : List (Addr × Bool)) (xss : List (List V)) : It :=
  ⟨fun i H => Sqs K H sr xss ∧ ∀ xs ∈ xss, i < xs.length,
    fun i H v H' => ∃ T, v = .ref T ∧ H T = none ∧ H' = upd H T (.tup (xss.map fun xs => xs.getD i .non)),
    fun i H => Sqs K H sr xss ∧ ∃ xs ∈ xss, xs.length ≤ i⟩
theorem vals_of : ∀ {ys : List V} {us : List Value}, us.length = ys.length → (∀ (j : Nat) (x : V), ys[j]? = some x → ∃ u, us[j]? = some u ∧ RelV x u) → Vals ys us
  | [], [], _, _ => .nil
  | y :: ys, u :: us, hl, h => by
    obtain ⟨u', e, r⟩ := h 0 y rfl
    cases e
    exact .cons r (vals_of (by simpa using hl) fun j x hj => h (j + 1) x hj)
  | [], _ :: _, hl, _ => by simp at hl
  | _ :: _, [], hl, _ => by simp at hl
/-- the components with their sources' items of now -/
structure Now (cs cs' : List Cp) (xss : List (List V)) (h : Heap) : Prop where
  len : cs'.length = cs.length
  lenx : cs'.length = xss.length
  it : ∀ (j : Nat) (c : Cp), cs'[j]? = some c → ∃ d, cs[j]? = some d ∧ c.it = d.it ∧ c.l = d.l ∧ c.kd = d.kd
  src : ∀ c ∈ cs', SrcA h c
  vals : ∀ (j : Nat) (c : Cp) (xs : List V), cs'[j]? = some c → xss[j]? = some xs → Vals xs c.xs.toList
theorem now_of {X : Cx} {pins : List (Addr × Obj)} {σ : L2.St} {H : Hp} {s : Shared} (I : Inv X pins σ H s) : ∀ {cs : List Cp} {xss : List (List V)}, Sqs X.K H (cs.map fun c => (c.l, c.kd)) xss → ∃ cs', Now cs cs' xss s.heap
  | [], [], _ => ⟨[], rfl, rfl, fun j c h => by simp at h, fun c h => by simp at h, fun j c xs h => by simp at h⟩
  | c :: cs, xs :: xss, h => by
    simp only [List.map_cons, Sqs] at h
    obtain ⟨h1, h2⟩ := h
    obtain ⟨cs', N⟩ := now_of I h2
    have one : ∃ its : List Value, Vals xs its ∧ SrcA s.heap ⟨c.it, c.l, c.kd, its.toArray⟩ := by
      cases hk : c.kd with
      | true =>
        rw [hk, if_pos rfl] at h1
        obtain ⟨its, rv, p, _⟩ := I.tuple h1
        exact ⟨its, rv, p⟩
      | false =>
        rw [hk, if_neg (by simp)] at h1
        obtain ⟨its, rv, p, _⟩ := I.list h1
        exact ⟨its, rv, p.isList⟩
    obtain ⟨its, rv, hs⟩ := one
    refine ⟨⟨c.it, c.l, c.kd, its.toArray⟩ :: cs', by simp [N.len], by simp [N.lenx], fun j d hj => ?_, fun d hd => ?_, fun j d ys hj hy => ?_⟩
    · cases j with
      | zero => simp at hj; subst hj; exact ⟨c, rfl, rfl, rfl, rfl⟩
      | succ j => exact N.it j d hj
    · rcases List.mem_cons.mp hd with rfl | hd
      · exact hs
      · exact N.src d hd
    · cases j with
      | zero => simp at hj hy; subst hj hy; exact rv
      | succ j => exact N.vals j d ys hj hy
  | [], _ :: _, h => by simp [Sqs] at h
  | _ :: _, [], h => by simp [Sqs] at h
theorem Now.its {cs cs' : List Cp} {xss : List (List V)} {h : Heap} (N : Now cs cs' xss h) : cs'.map (·.it) = cs.map (·.it) := by
  apply List.ext_getElem?
  intro j
  rw [List.getElem?_map, List.getElem?_map]
  cases e : cs'[j]? with
  | none =>
    have : cs[j]? = none := by
      rw [List.getElem?_eq_none_iff] at e ⊢
      rw [← N.len]; exact e
    rw [this]
  | some c =>
    obtain ⟨d, hd, e1, _⟩ := N.it j c e
    rw [hd]
    simp [e1]
theorem Now.mem {cs cs' : List Cp} {xss : List (List V)} {h : Heap} (N : Now cs cs' xss h) {c : Cp} (hc : c ∈ cs') : ∃ d ∈ cs, c.it = d.it ∧ c.l = d.l ∧ c.kd = d.kd := by
  obtain ⟨j, hj⟩ := List.mem_iff_getElem?.mp hc
  obtain ⟨d, hd, r⟩ := N.it j c hj
  exact ⟨d, List.mem_of_getElem? hd, r⟩
theorem Now.back {cs cs' : List Cp} {xss : List (List V)} {h : Heap} (N : Now cs cs' xss h) {d : Cp} (hd : d ∈ cs) : ∃ c ∈ cs', c.it = d.it ∧ c.l = d.l ∧ c.kd = d.kd := by
  obtain ⟨j, hj⟩ := List.mem_iff_getElem?.mp hd
  have hl : j < cs'.length := by rw [N.len]; exact (List.getElem?_eq_some_iff.mp hj).1
  obtain ⟨d', hd', r⟩ := N.it j _ (List.getElem?_eq_getElem hl)
  rw [hj] at hd'
  cases hd'
  exact ⟨_, List.getElem_mem hl, r⟩
theorem ita_eq {h : Heap} {c d : Cp} {i : Nat} (e1 : c.it = d.it) (e2 : c.l = d.l) (e3 : c.kd = d.kd) (x : ItA h d i) : ItA h c i := by
  unfold ItA at *
  rw [e1, e2, e3]
  exact x
theorem Now.ap {cs cs' : List Cp} {xss : List (List V)} {h : Heap} (N : Now cs cs' xss h) {z TI TO : Addr} (D : Ap z TI TO cs) : Ap z TI TO cs' := by
  refine ⟨D.TIz, D.TOz, D.TITO, fun c hc => ?_, by rw [N.its]; exact D.nd, fun c hc => ?_⟩
  · obtain ⟨d, hd, e, _⟩ := N.mem hc
    rw [e]; exact D.its d hd
  · obtain ⟨d, hd, _, e, _⟩ := N.mem hc
    rw [e]
    refine ⟨(D.src d hd).1, (D.src d hd).2.1, fun g hg => ?_⟩
    obtain ⟨g', hg', e', _⟩ := N.mem hg
    rw [e']
    exact (D.src d hd).2.2 g' hg'
def Tn (z TI TO : Addr) (cs : List Cp) (i : Nat) (h : Heap) : Prop := IsZip h z TI TO .none ∧ IsTup h TI (cs.map fun c => Value.ref c.it).toArray ∧ (∃ arr : Array Value, IsTup h TO arr ∧ arr.size = cs.length) ∧ ∀ c ∈ cs, ItA h c i
theorem turn_zipN {P : Program} {w : World} {K : PySem.W.Frag} {elts : List Expr} {kk : Nat} {tpos : Pos} {z TI TO : Addr} {cs : List Cp} {xss : List (List V)} (D : Ap z TI TO cs) (hne : cs ≠ []) (hn : cs.length ≤ 30) :
    Turn P w K (.Tuple elts kk tpos) (ItzN K (cs.map fun c => (c.l, c.kd)) xss) (z :: TI :: TO :: cs.map (·.it)) z (Tn z TI TO cs) where
  mem := by simp
  obj := fun i h st c hc => by
    obtain ⟨hz, hTI, ⟨arr, hTO, _⟩, hit⟩ := st
    simp only [List.mem_cons] at hc
    rcases hc with rfl | rfl | rfl | hc
    · exact ⟨_, hz, fun v q => nomatch q⟩
    · exact ⟨_, hTI, fun v q => nomatch q⟩
    · exact ⟨_, hTO, fun v q => nomatch q⟩
    · obtain ⟨d, hd, rfl⟩ := List.mem_map.mp hc
      have x := hit d hd
      unfold ItA at x
      split at x <;> (obtain ⟨o1, e1, _, d1⟩ := x; exact ⟨o1, e1, fun v q => by rw [d1] at q; cases q⟩)
  keep := fun i h h' st k => by
    obtain ⟨hz, hTI, ⟨arr, hTO, hs⟩, hit⟩ := st
    exact ⟨k z (by simp) _ hz, k TI (by simp) _ hTI, ⟨arr, k TO (by simp) _ hTO, hs⟩, fun c hc => (hit c hc).at fun o q => k c.it (by simp only [List.mem_cons]; exact .inr (.inr (.inr (List.mem_map_of_mem hc)))) o q⟩
  item := by
    intro X hP hw hK hc i pins s σ H E I hf st hg
    subst hP hw hK
    obtain ⟨hz, hTI, ⟨arr0, hTO, h0⟩, hit⟩ := st
    obtain ⟨hq, hlt⟩ := hg
    obtain ⟨cs', N⟩ := now_of I hq
    have hzl : z < s.heap.objs.size := Heap.lt_size hz
    have eTI : (cs.map fun c => Value.ref c.it).toArray = (cs'.map fun c => Value.ref c.it).toArray := by
      have := congrArg (List.map Value.ref) N.its
      simp only [List.map_map] at this
      exact congrArg List.toArray this.symm
    have hxs : ∀ c ∈ cs', i < c.xs.size := fun c hc => by
      obtain ⟨j, hj⟩ := List.mem_iff_getElem?.mp hc
      have hl : j < xss.length := by rw [← N.lenx]; exact (List.getElem?_eq_some_iff.mp hj).1
      have v := N.vals j c _ hj (List.getElem?_eq_getElem hl)
      have := hlt _ (List.getElem_mem hl)
      have l := v.length
      simp at l
      omega
    refine pyNext_zip_item (cs := cs') (N.ap D) (fun z => by subst z; exact hne (List.eq_nil_of_length_eq_zero N.len.symm)) (by rw [N.len]; exact hn) hz (eTI ▸ hTI) hTO (by rw [N.len]; exact h0) (fun c hc => let ⟨d, hd, e1, e2, e3⟩ := N.mem hc; ita_eq e1 e2 e3 (hit d hd)) N.src hxs fun h' arr z' TO' asz its' hT ha hsz hk => ?_
    refine ⟨_, rfl, wpAny_letOwnedTupleGo_zip (s := { s with heap := h' }) z' fun h'' z'' sb => ?_⟩
    have hT2 : h''.get? s.heap.objs.size = some { cls := .type "tuple", data := .seq arr } := (sb.2 _ (Nat.ne_of_gt hzl)).trans hT
    have h100 : (100 : Nat) ≤ sizeLine := by decide
    have rv : Vals (xss.map fun xs => xs.getD i .non) arr.toList := by
      refine vals_of (by rw [List.length_map, ← N.lenx, ← asz]; simp) fun j x hj => ?_
      rw [List.getElem?_map] at hj
      obtain ⟨xs, hx, rfl⟩ := Option.map_eq_some_iff.mp hj
      have hl : j < cs'.length := by rw [N.lenx]; exact (List.getElem?_eq_some_iff.mp hx).1
      have v := N.vals j _ xs (List.getElem?_eq_getElem hl) hx
      have hi := hlt xs (List.mem_of_getElem? hx)
      obtain ⟨u, hu, ru⟩ := v.get (List.getElem?_eq_getElem hi)
      refine ⟨u, ?_, ?_⟩
      · have := ha j _ (List.getElem?_eq_getElem hl)
        rw [Array.getElem?_toList, this]
        rw [← Array.getElem?_toList]
        exact hu
      · rw [List.getD_eq_getElem?_getD, List.getElem?_eq_getElem hi]
        exact ru
    have new : ObjOk X.prog X.w (upd H s.heap.objs.size (.tup (xss.map fun xs => xs.getD i .non))) h'' s.heap.objs.size (.tup (xss.map fun xs => xs.getD i .non)) :=
      ⟨by rw [List.length_map, ← N.lenx, N.len]; omega, arr.toList, rv, ⟨_, hT2, rfl, _, rfl⟩⟩
    have I1 : Inv X pins σ (upd H s.heap.objs.size (.tup (xss.map fun xs => xs.getD i .non))) { s with heap := h'' } :=
      I.turnedNew (t' := s.toks) (ch := z :: TI :: TO :: cs.map (·.it)) (fun c o hb q => by
        simp only [List.mem_cons, not_or] at hb
        exact (sb.2 c hb.1).trans (hk c o hb.1 hb.2.2.1 (by rw [N.its]; exact hb.2.2.2) q)) hf (Nat.le_refl _) new
    refine ⟨.ref s.heap.objs.size, _, I1, rfl, ⟨_, rfl, I.hok.fresh (Nat.le_refl _), rfl⟩, ⟨z'', ?_, ⟨arr, ?_, by rw [asz, N.len]⟩, fun c hc => ?_⟩, fun c hcm => ?_⟩
    · refine (sb.2 _ D.TIz).trans (hk _ _ D.TIz D.TITO (fun q => ?_) hTI)
      rw [N.its] at q
      obtain ⟨d, hd, e⟩ := List.mem_map.mp q
      exact (D.its d hd).2.1 e
    · exact (sb.2 _ D.TOz).trans TO'
    · obtain ⟨c', hc', e1, e2, e3⟩ := N.back hc
      exact (ita_eq e1.symm e2.symm e3.symm (its' c' hc')).at fun o q => (sb.2 _ (D.its c hc).1).trans q
    · have hlt : c < s.heap.objs.size := by
        simp only [List.mem_cons] at hcm
        rcases hcm with rfl | rfl | rfl | q
        · exact hzl
        · exact Heap.lt_size hTI
        · exact Heap.lt_size hTO
        · obtain ⟨d, hd, rfl⟩ := List.mem_map.mp q
          exact (hit d hd).lt
      rw [upd_ne (Nat.ne_of_lt hlt)]
      exact (hf c hcm).1
  done := by
    intro X hP hw hK hc i pins s σ H E I hf st hg
    subst hP hw hK
    obtain ⟨hz, hTI, ⟨arr0, hTO, h0⟩, hit⟩ := st
    obtain ⟨hq, xs, hxs, hle⟩ := hg
    obtain ⟨cs', N⟩ := now_of I hq
    have eTI : (cs.map fun c => Value.ref c.it).toArray = (cs'.map fun c => Value.ref c.it).toArray := by
      have := congrArg (List.map Value.ref) N.its
      simp only [List.map_map] at this
      exact congrArg List.toArray this.symm
    have hend : ∃ c ∈ cs', c.xs[i]? = none := by
      obtain ⟨j, hj⟩ := List.mem_iff_getElem?.mp hxs
      have hl : j < cs'.length := by rw [N.lenx]; exact (List.getElem?_eq_some_iff.mp hj).1
      have v := N.vals j _ xs (List.getElem?_eq_getElem hl) hj
      have l := v.length
      refine ⟨_, List.getElem_mem hl, ?_⟩
      simp at l ⊢
      omega
    exact pyNext_zip_end (cs := cs') (I.ok.hd hc) (N.ap D) (by rw [N.len]; exact hn) hz (eTI ▸ hTI) hTO (by rw [N.len]; exact h0) (fun c hc => let ⟨d, hd, e1, e2, e3⟩ := N.mem hc; ita_eq e1 e2 e3 (hit d hd)) N.src hend fun h' hk => ⟨rfl, I.turnedL (t' := s.toks) (ch := z :: TI :: TO :: cs.map (·.it)) (fun c o hb q => by
      simp only [List.mem_cons, not_or] at hb
      exact hk c o hb.1 hb.2.2.1 (by rw [N.its]; exact hb.2.2.2) q) hf⟩
  self := fun A i s Q E st h => wpAny_pyIter_zip st.1 h
theorem cpsAt_lk : ∀ (n : Nat) (bs : List Sr), (cpsAt n bs).map (fun c => (c.l, c.kd)) = bs.map fun b => (b.1, b.2.1)
  | n, [] => rfl
  | n, b :: bs => by simp [cpsAt, cpsAt_lk (n + 1) bs]
def iZipN (K : PySem.W.Frag) (ta : TA) : TI := fun σ H R => ta σ H fun vs H1 => ∃ (sr : List (Addr × Bool)) (xss : List (List V)), vs = sr.map (fun b => V.ref b.1) ∧ (sr.length = 2 ∨ sr.length = 3 ∨ sr.length = 4) ∧ Sqs K H1 sr xss ∧ R (ItzN K sr xss) H1
theorem refs_of : ∀ {sr : List (Addr × Bool)} {us : List Value}, Vals (sr.map fun b => V.ref b.1) us → us = sr.map fun b => Value.ref b.1
  | [], us, h => by cases h; rfl
  | b :: sr, us, h => by
    cases h with
    | cons r rr =>
      cases r
      simp only [List.map_cons, List.cons.injEq, true_and]
      exact refs_of rr
theorem pi_zipN {X : Cx} {e : Expr} {es : List Expr} {ta : TA} {p pos tpos : Pos} {elts : List Expr} {kk : Nat} (hg : Gl X "zip") (hm : X.mg "zip" = none) (ha : PA X (e :: es) ta)
    (hs : starEach (e :: es) X.env = (false, eval e X.env) :: starEach es X.env) (hpl : (backTo pos (starEach es X.env)).any (·.1) = false) :
    PI X (.Tuple elts kk tpos) (.Call (.Name "zip" p) (e :: es) [] pos) (iZipN X.K ta) := by
  refine ⟨fun pins s σ H R I h => ?_⟩
  refine Call_ (ld_blt I hg hm PyProof.Rows.boot_zip (PyProof.Rows.callWith_type1 (thn (ha.run pos pins s σ H _ I h) fun us s1 ⟨vs, H1, I1, r1, q1⟩ => ?_) hs hpl))
  obtain ⟨sr, xss, rfl, hlen, hq, q⟩ := q1
  have eus := refs_of r1
  subst eus
  have e0 : ((sr.map fun b => (⟨0, b.1, b.2, #[]⟩ : Cp)).map fun c => (c.l, c.kd)) = sr := by
    rw [List.map_map]
    exact List.map_id' sr
  obtain ⟨cs', N⟩ := now_of (cs := sr.map fun b => (⟨0, b.1, b.2, #[]⟩ : Cp)) I1 (by rw [e0]; exact hq)
  let bs : List Sr := cs'.map fun c => (c.l, c.kd, c.xs)
  have hbs : (bs.map fun b => (b.1, b.2.1)) = sr := by
    show ((cs'.map fun c => (c.l, c.kd, c.xs)).map fun b : Sr => (b.1, b.2.1)) = sr
    rw [List.map_map]
    refine Eq.trans ?_ e0
    apply List.ext_getElem?
    intro j
    rw [List.getElem?_map, List.getElem?_map]
    cases ej : cs'[j]? with
    | none =>
      have : (sr.map fun b => (⟨0, b.1, b.2, #[]⟩ : Cp))[j]? = none := by
        rw [List.getElem?_eq_none_iff] at ej ⊢
        rw [← N.len]; exact ej
      rw [this]; rfl
    | some c =>
      obtain ⟨d, hd, _, e2, e3⟩ := N.it j c ej
      rw [hd]
      show some (c.l, c.kd) = some (d.l, d.kd)
      rw [e2, e3]
  have hbl : bs.length = sr.length := by
    have := congrArg List.length hbs
    rwa [List.length_map] at this
  have hsrc : ∀ b ∈ bs, SrcS s1.heap b := fun b hb => by
    obtain ⟨c, hc, rfl⟩ := List.mem_map.mp hb
    have x := N.src c hc
    unfold SrcS SrcA
    unfold SrcA at x
    exact x
  have hargs : (sr.map fun b => Value.ref b.1) = bs.map fun b => Value.ref b.1 := by
    conv => lhs; rw [← hbs]
    rw [List.map_map]
    rfl
  have hlt : ∀ b ∈ bs, @LT.lt Nat _ b.1 s1.heap.objs.size := fun b hb => by
    have x := hsrc b hb
    unfold SrcS SrcA at x
    split at x <;> (obtain ⟨o, ho, _⟩ := x; exact Heap.lt_size ho)
  have hne : cpsAt s1.heap.objs.size bs ≠ [] := fun z => by
    have := cpsAt_len s1.heap.objs.size bs
    rw [z] at this
    simp at this
    omega
  rw [hargs]
  refine call_zip (by omega) hsrc fun h' M => wpAny_pyIter_zip M.zp ?_
  have I2 : Inv X pins σ H1 { s1 with heap := h' } := I1.kept (t' := s1.toks) M.keep
  have T := turn_zipN (P := X.prog) (w := X.w) (K := X.K) (elts := elts) (kk := kk) (tpos := tpos) (xss := xss) (ap_of s1.heap.objs.size bs hlt) hne (by rw [cpsAt_len]; omega)
  rw [cpsAt_lk, hbs] at T
  refine ⟨_, _, _, _, H1, rfl, I2, T, ⟨M.zp, M.ti, ⟨_, M.to, by simp⟩, M.its⟩, fun c hc => ?_, q⟩
  have hle : @LE.le Nat _ s1.heap.objs.size c := by
    simp only [List.mem_cons] at hc
    rcases hc with rfl | rfl | rfl | hc
    · exact Nat.le_trans (Nat.le_add_right _ bs.length) (Nat.le_add_right _ 2)
    · exact Nat.le_add_right _ _
    · exact Nat.le_trans (Nat.le_add_right _ bs.length) (Nat.le_add_right _ 1)
    · obtain ⟨d, hd, rfl⟩ := List.mem_map.mp hc
      exact (cpsAt_it _ _ d hd).1
  exact I1.fpOk hle (I1.hok.fresh hle)
end PLZ

set_option Elab.async false
set_option linter.all false
set_option maxRecDepth 100000
set_option maxHeartbeats 4000000
/-! PL.Iter: built-in calls, what a loop walks over. -/
namespace PL
open PySem L2 PySem.Spec PyProof.Rows
section
variable {T : Tb} {F : Fx} {Γ : Gam} {W : WXX} {X : Cx} {a b c e : Expr} {es : List Expr} {fa fb fc fs : Env → Mem → Out D} {pos p apos : Pos}
theorem ne_name : ∀ b : Blt, so (bltName b) ≠ ("__name__" : Str) ∧ (so (bltName b) == ("__debug__" : Str)) = false := by
  intro b; cases b <;> decide +kernel
theorem p_blt (C : Cok T F Γ W X) {b : Blt} {x : Str} (hx : x = so (bltName b)) (hg : glo X.env.scope x = true) (hfl : b = .gcd → T.gc = true) (hst : (e :: es).all noStar = true) (ha : PA X (e :: es) (LA F W fs)) :
    PE X (.Call (.Name x p) (e :: es) [] pos) (LE F W fun ρ m => (fs ρ m).bind fun y m => match y with
      | .tup ys => .of m (bltS Γ m b ys)
      | _ => .stk) := by
  subst hx
  have hst' := hst
  rw [List.all_cons, Bool.and_eq_true] at hst'
  have h1 := star_cons hst'.1 es X.env
  have h2 := star_any pos X.env es hst'.2
  have imp : ∀ σ H Q, LE F W (fun ρ m => (fs ρ m).bind fun y m => match y with
      | .tup ys => .of m (bltS Γ m b ys)
      | _ => .stk) σ H Q → tCB (rBlt X.K b) (LA F W fs) σ H Q := by
    intro σ H Q ⟨ρ, w, e, r, s, h⟩
    subst e
    refine lft_bind r s h fun y w1 vs e1 r1 s1 h1 p1 => ?_
    obtain ⟨ds, rfl, h2⟩ := h1
    obtain ⟨d, hd, p2⟩ := p1.of
    rw [C.hK]
    exact blt_ok C.ac r1 h2 hd p2
  have R := blt_R (X := X) C.calm b
  obtain ⟨n1, n2⟩ := ne_name b
  cases b with
  | gcd => exact PEi (pe_callBfun R (glo_ok hg) (C.gcd (hfl rfl)) ha n2 h1 h2) imp
  | len => exact PEi (pe_callB R (glo_ok hg) (C.blt .len (by decide)) (by decide +kernel) ha n1 n2 h1 h2) imp
  | abs => exact PEi (pe_callB R (glo_ok hg) (C.blt .abs (by decide)) (by decide +kernel) ha n1 n2 h1 h2) imp
  | isi => exact PEi (pe_callB R (glo_ok hg) (C.blt .isi (by decide)) (by decide +kernel) ha n1 n2 h1 h2) imp
  | tup => exact PEi (pe_callTy R (glo_ok hg) (C.blt .tup (by decide)) (by decide +kernel) ha n1 n2 h1 h2) imp
  | lst => exact PEi (pe_callTy R (glo_ok hg) (C.blt .lst (by decide)) (by decide +kernel) ha n1 n2 h1 h2) imp
  | all => exact PEi (pe_callB R (glo_ok hg) (C.blt .all (by decide)) (by decide +kernel) ha n1 n2 h1 h2) imp
  | any => exact PEi (pe_callB R (glo_ok hg) (C.blt .any (by decide)) (by decide +kernel) ha n1 n2 h1 h2) imp
  | sum => exact PEi (pe_callB R (glo_ok hg) (C.blt .sum (by decide)) (by decide +kernel) ha n1 n2 h1 h2) imp
  | int => exact PEi (pe_callTy R (glo_ok hg) (C.blt .int (by decide)) (by decide +kernel) ha n1 n2 h1 h2) imp
/-! ### walks -/
/-- J walks the items ds, whatever goes on -/
def WalkD (F : Fx) (w : Wo) (J : It) (ds : List D) : Prop := ∃ (G : Hp → Prop) (Y : Nat → Hp → V → Hp → Prop), Walk J ds.length G Y ∧ (∀ w1, E0 w w1 → Rel F w1 → G w1.H) ∧
  ∀ i w1 x H', i < ds.length → E0 w w1 → Rel F w1 → Y i w1.H x H' → ∃ w2 d, w2.H = H' ∧ w2.m = w1.m ∧ Ex w1 w2 ∧ Rel F w2 ∧ ds[i]? = some d ∧ Rp F w2 d x
def RI (F : Fx) : Wo → D → It → Prop := fun w d J => ∃ ds, d = .lst ds ∧ WalkD F w J ds
abbrev LI (F : Fx) (W : WXX) (f : Env → Mem → Out D) : TI := Lft F W (RI F) f
theorem PIi {tg e : Expr} {t t' : TI} (h : PI X tg e t) (hi : ∀ σ H R, t' σ H R → t σ H R) : PI X tg e t' := ⟨fun pins s σ H R I q => h.run pins s σ H R I (hi σ H R q)⟩
theorem walk_of_list {w : Wo} {a : Addr} {xs : List V} {ds : List D} (hf : FzL F.K w a xs) (h : RpL F w ds xs) : WalkD F w (Itl F.K a) ds := by
  refine ⟨fun H => SqL F.K H a xs, YAt xs, ?_, fun w1 e r => (hf.ext e).sq, fun i w1 x H' hi e r y => ?_⟩
  · rw [h.length]; exact walk_list
  · obtain ⟨rfl, hx⟩ := y
    have hd : ds[i]? = some ds[i] := List.getElem?_eq_getElem hi
    obtain ⟨z, hz, rz⟩ := h.get hd
    rw [hx] at hz
    cases hz
    exact ⟨w1, _, rfl, rfl, Ex.refl _, r, hd, Rp.ext e _ _ rz⟩
theorem walk_of_tup {w : Wo} {a : Addr} {xs : List V} {ds : List D} (hf : FzT F.K w a xs) (h : RpL F w ds xs) : WalkD F w (Itt F.K a) ds := by
  refine ⟨fun H => SqT F.K H a xs, YAt xs, ?_, fun w1 e r => (hf.ext e).sq, fun i w1 x H' hi e r y => ?_⟩
  · rw [h.length]; exact walk_tup
  · obtain ⟨rfl, hx⟩ := y
    have hd : ds[i]? = some ds[i] := List.getElem?_eq_getElem hi
    obtain ⟨z, hz, rz⟩ := h.get hd
    rw [hx] at hz
    cases hz
    exact ⟨w1, _, rfl, rfl, Ex.refl _, r, hd, Rp.ext e _ _ rz⟩
/-- pi_list and pi_tup in one -/
theorem pi_seq {tg : Expr} {t : TE} (h : PE X e t) : PI X tg e (fun σ H R => t σ H fun x H1 => ∃ a, x = .ref a ∧ ((∃ xs, SqL X.K H1 a xs ∧ R (Itl X.K a) H1) ∨ (∃ xs, SqT X.K H1 a xs ∧ R (Itt X.K a) H1))) := by
  refine ⟨fun pins s σ H R I q => ?_⟩
  refine thn (h.run pins s σ H _ I q) fun v s1 ⟨x, H1, I1, rx, a, ex, q1⟩ => ?_
  subst ex
  obtain rfl : v = Value.ref a := rx
  rcases q1 with ⟨xs, hq, q1⟩ | ⟨xs, hq, q1⟩
  · obtain ⟨its, rv, p, hz⟩ := I1.list hq
    refine wpAny_pyIter_list p.isList ?_
    refine ⟨s1.heap.objs.size, [s1.heap.objs.size], _, _, H1, rfl, I1.kept (t' := s1.toks) fun b o e => Heap.get?_push_of_some _ e, turn_list a _, ⟨_, Heap.get?_push_size _ rfl, rfl, rfl⟩, fun b hb => ?_, q1⟩
    have e : b = s1.heap.objs.size := by simpa using hb
    subst e
    exact I1.fpOk (Nat.le_refl _) (I1.hok.fresh (Nat.le_refl _))
  · obtain ⟨its, rv, p, hz⟩ := I1.tuple hq
    refine wpAny_pyIter_tuple (show s1.heap.IsTuple a its.toArray from p) ?_
    refine ⟨s1.heap.objs.size, [s1.heap.objs.size], _, _, H1, rfl, I1.kept (t' := s1.toks) fun b o e => Heap.get?_push_of_some _ e, turn_tuple a _, ⟨_, Heap.get?_push_size _ rfl, rfl, rfl⟩, fun b hb => ?_, q1⟩
    have e : b = s1.heap.objs.size := by simpa using hb
    subst e
    exact I1.fpOk (Nat.le_refl _) (I1.hok.fresh (Nat.le_refl _))
theorem i_itv {tg : Expr} (hK : X.K = F.K) (ha : PE X a (LE F W fa)) : PI X tg a (LI F W fun ρ m => (fa ρ m).bind fun x m => match x with
    | .tup ds => .ok (.lst ds) m
    | .lst ds => .ok (.lst ds) m
    | _ => .stk) := by
  refine PIi (pi_seq ha) fun σ H R ⟨ρ, w, e, r, s, h⟩ => ?_
  subst e
  refine lft_bind r s h fun x w1 v e1 r1 s1 h1 p1 => ?_
  rw [hK]
  split at p1
  · rename_i ds
    simp only [RE, Rp] at h1
    obtain ⟨ad, xs, rfl, h2, h3⟩ := h1
    exact ⟨ad, rfl, .inr ⟨xs, h2.sq, p1.ok r1 ⟨ds, rfl, walk_of_tup h2 h3⟩⟩⟩
  · rename_i ds
    simp only [RE, Rp] at h1
    obtain ⟨ad, xs, rfl, h2, h3⟩ := h1
    exact ⟨ad, rfl, .inl ⟨xs, h2.sq, p1.ok r1 ⟨ds, rfl, walk_of_list h2 h3⟩⟩⟩
  · exact p1.elim
theorem walk_of_range {w : Wo} {lo : Int} {n : Nat} : WalkD F w (Itr lo n) (rngD lo n) := by
  refine ⟨fun _ => True, YFn fun i => .int (lo + i), ?_, fun _ _ _ => trivial, fun i w1 x H' hi e r y => ?_⟩
  · have : (rngD lo n).length = n := by simp [rngD]
    rw [this]; exact walk_range
  · obtain ⟨rfl, rfl⟩ := y
    have hn : i < n := by simpa [rngD] using hi
    refine ⟨w1, .int (lo + i), rfl, rfl, Ex.refl _, r, ?_, by simp only [Rp]⟩
    simp [rngD, hn]
theorem i_rng (C : Cok T F Γ W X) {tg : Expr} {x : Str} (hx : x = so "range") (hg : glo X.env.scope x = true) (hst : noStar a = true) (ha : PE X a (LE F W fa)) :
    PI X tg (.Call (.Name x p) [a] [] pos) (LI F W fun ρ m => (fa ρ m).bind fun x m => match x with
      | .int n => if n < 2 ^ 62 ∧ -(2 ^ 62) ≤ n then .ok (.lst (rngD 0 n.toNat)) m else .stk
      | _ => .stk) := by
  subst hx
  refine PIi (pi_range1 (glo_ok hg) C.rng (pa_cons ha pa_nil (star_cons hst [] X.env)) (star_cons hst [] X.env)) fun σ H R ⟨ρ, w, e, r, s, h⟩ => ?_
  subst e
  refine lft_bind r s h fun x w1 v e1 r1 s1 h1 p1 => ?_
  split at p1
  · rename_i n
    simp only [RE, Rp] at h1
    subst h1
    split at p1
    · rename_i hn
      exact ⟨n, rfl, hn.2, hn.1, p1.ok r1 ⟨_, rfl, walk_of_range⟩⟩
    · exact p1.elim
  · exact p1.elim
theorem i_rng2 (C : Cok T F Γ W X) {tg : Expr} {x : Str} (hx : x = so "range") (hg : glo X.env.scope x = true) (hst : noStar a = true) (hst2 : noStar b = true) (ha : PE X a (LE F W fa)) (hb : PE X b (LE F W fb)) :
    PI X tg (.Call (.Name x p) [a, b] [] pos) (LI F W fun ρ m => (fa ρ m).bind fun x m => (fb ρ m).bind fun y m => match x, y with
      | .int lo, .int hi => if hi < 2 ^ 62 ∧ -(2 ^ 62) ≤ lo ∧ lo < 2 ^ 62 ∧ -(2 ^ 62) ≤ hi then .ok (.lst (rngD lo (hi - lo).toNat)) m else .stk
      | _, _ => .stk) := by
  subst hx
  have e1 := star_cons hst2 [] X.env
  have e2 := star_cons hst [b] X.env
  refine PIi (pi_range2 (glo_ok hg) C.rng (pa_cons ha (pa_cons hb pa_nil e1) e2) (by rw [e2, e1]; rfl) e1) fun σ H R ⟨ρ, w, e, r, s, h⟩ => ?_
  subst e
  refine lft_bind r s h fun x w1 v e1 r1 s1 h1 p1 => ?_
  refine lft_bind r1 s1 p1 fun y w2 u e2 r2 s2 h2 p2 => ?_
  split at p2
  · simp only [RE, Rp] at h1 h2
    subst h1 h2
    split at p2
    · rename_i hn
      exact ⟨_, _, rfl, ⟨hn.2.1, hn.2.2.1, hn.2.2.2, hn.1⟩, p2.ok r2 ⟨_, rfl, walk_of_range⟩⟩
    · exact p2.elim
  · exact p2.elim
theorem enmD_get : ∀ (ds : List D) (n i : Nat), (enmD n ds)[i]? = (ds[i]?).map fun d => D.tup [.int ((n + i : Nat) : Int), d]
  | [], n, i => by simp [enmD]
  | d :: ds, n, 0 => by simp [enmD]
  | d :: ds, n, i + 1 => by
    simp only [enmD, List.getElem?_cons_succ]
    rw [enmD_get ds (n + 1) i]
    congr 1
    funext d
    rw [show n + 1 + i = n + (i + 1) by omega]
theorem enmD_len : ∀ (ds : List D) (n : Nat), (enmD n ds).length = ds.length
  | [], n => rfl
  | d :: ds, n => by simp [enmD, enmD_len ds (n + 1)]
/-- a new pair of the layer is a new tuple -/
theorem pair_new {w1 : Wo} (r : Rel F w1) {P : Addr} {x y : V} {d e : D} (hp : w1.H P = none) (h1 : Rp F w1 d x) (h2 : Rp F w1 e y) : ∃ w2, w2.H = upd w1.H P (.tup [x, y]) ∧ w2.m = w1.m ∧ Ex w1 w2 ∧ Rel F w2 ∧ Rp F w2 (.tup [d, e]) (.ref P) :=
  ⟨{ w1 with H := upd w1.H P (.tup [x, y]) }, rfl, rfl, Ex.new r hp, r.new hp, Rp.newTup r hp (RpL.cons h1 (RpL.cons h2 RpL.nil))⟩
theorem walk_of_enum {w : Wo} {a : Addr} {xs : List V} {ds : List D} (hf : FzL F.K w a xs) (h : RpL F w ds xs) : WalkD F w (Ite F.K a) (enmD 0 ds) := by
  refine ⟨fun H => SqL F.K H a xs, YPair (fun i => some (.int (i : Nat))) (fun i => xs[i]?), ?_, fun w1 e r => (hf.ext e).sq, fun i w1 x H' hi e r y => ?_⟩
  · rw [enmD_len, h.length]; exact walk_enum
  · obtain ⟨P, x1, y1, rfl, hp, rfl, q1, q2⟩ := y
    rw [enmD_len] at hi
    have hd : ds[i]? = some ds[i] := List.getElem?_eq_getElem hi
    obtain ⟨z, hz, rz⟩ := h.get hd
    replace q2 : xs[i]? = some y1 := q2
    rw [q2] at hz
    cases hz
    cases q1
    obtain ⟨w2, a1, a2, a3, a4, a5⟩ := pair_new r (x := .int ((i : Nat) : Int)) (y := y1) (d := .int ((i : Nat) : Int)) (e := ds[i]) hp (by simp only [Rp]) (Rp.ext e _ _ rz)
    refine ⟨w2, _, a1, a2, a3, a4, ?_, a5⟩
    rw [enmD_get, hd]
    simp
theorem i_enm (C : Cok T F Γ W X) {x : Str} {elts : List Expr} {kk : Nat} {tpos : Pos} (hx : x = so "enumerate") (hg : glo X.env.scope x = true) (hst : noStar a = true) (ha : PE X a (LE F W fa)) :
    PI X (.Tuple elts kk tpos) (.Call (.Name x p) [a] [] pos) (LI F W fun ρ m => (fa ρ m).bind fun x m => match x with
      | .lst l => .ok (.lst (enmD 0 l)) m
      | _ => .stk) := by
  subst hx
  refine PIi (pi_enum (glo_ok hg) C.enm (pa_cons ha pa_nil (star_cons hst [] X.env)) (star_cons hst [] X.env)) fun σ H R ⟨ρ, w, e, r, s, h⟩ => ?_
  subst e
  refine lft_bind r s h fun x w1 v e1 r1 s1 h1 p1 => ?_
  rw [C.hK]
  split at p1
  · rename_i ds
    simp only [RE, Rp] at h1
    obtain ⟨ad, xs, rfl, h2, h3⟩ := h1
    exact ⟨ad, xs, rfl, h2.sq, p1.ok r1 ⟨_, rfl, walk_of_enum h2 h3⟩⟩
  · exact p1.elim
theorem zipD_one (xs : List D) : zipD [xs] = xs.map fun x => .tup [x] := rfl
theorem zipD_cons (xs : List D) (r : List (List D)) (h : r ≠ []) : zipD (xs :: r) = List.zipWith (fun x t => match t with | .tup ts => .tup (x :: ts) | t => t) xs (zipD r) := by
  cases r with
  | nil => exact absurd rfl h
  | cons _ _ => rfl
theorem zipD_get : ∀ (dss : List (List D)) (i : Nat), dss ≠ [] → (∀ ds ∈ dss, i < ds.length) → (zipD dss)[i]? = some (.tup (dss.map fun ds => ds.getD i .non))
  | [], _, h, _ => absurd rfl h
  | [xs], i, _, h => by
    have hi := h xs (by simp)
    rw [zipD_one, List.getElem?_map, List.getElem?_eq_getElem hi]
    simp [List.getD_eq_getElem?_getD, hi]
  | xs :: y :: r, i, _, h => by
    have hi := h xs (by simp)
    have ih := zipD_get (y :: r) i (by simp) fun ds hd => h ds (List.mem_cons_of_mem _ hd)
    rw [zipD_cons xs (y :: r) (by simp), List.getElem?_zipWith, ih, List.getElem?_eq_getElem hi]
    simp [List.getD_eq_getElem?_getD, hi]
theorem zipD_lt : ∀ (dss : List (List D)) (i : Nat), i < (zipD dss).length → ∀ ds ∈ dss, i < ds.length
  | [], i, h, _, hd => by simp [zipD] at h
  | [xs], i, h, ds, hd => by
    rw [zipD_one, List.length_map] at h
    simp at hd
    subst hd
    exact h
  | xs :: y :: r, i, h, ds, hd => by
    rw [zipD_cons xs (y :: r) (by simp), List.length_zipWith] at h
    rcases List.mem_cons.mp hd with rfl | hd
    · omega
    · exact zipD_lt (y :: r) i (by omega) ds hd
theorem zipD_end : ∀ (dss : List (List D)), dss ≠ [] → ∃ ds ∈ dss, ds.length ≤ (zipD dss).length
  | [], h => absurd rfl h
  | [xs], _ => ⟨xs, by simp, by rw [zipD_one, List.length_map]; exact Nat.le_refl _⟩
  | xs :: y :: r, _ => by
    obtain ⟨ds, hd, hl⟩ := zipD_end (y :: r) (by simp)
    rw [zipD_cons xs (y :: r) (by simp), List.length_zipWith]
    by_cases h : xs.length ≤ (zipD (y :: r)).length
    · exact ⟨xs, by simp, by omega⟩
    · exact ⟨ds, List.mem_cons_of_mem _ hd, by omega⟩
/-- the sources: fixed lists, tuples -/
def SrD (F : Fx) (w : Wo) : List (List D) → List (Addr × Bool) → List (List V) → Prop
  | [], [], [] => True
  | ds :: dss, (a, k) :: sr, xs :: xss => (if k = true then FzT F.K w a xs else FzL F.K w a xs) ∧ RpL F w ds xs ∧ SrD F w dss sr xss
  | _, _, _ => False
theorem SrD.sqs {w : Wo} : ∀ {dss : List (List D)} {sr : List (Addr × Bool)} {xss : List (List V)}, SrD F w dss sr xss → PLZ.Sqs F.K w.H sr xss
  | [], [], [], _ => trivial
  | ds :: dss, (a, k) :: sr, xs :: xss, h => by
    simp only [SrD] at h
    refine ⟨?_, SrD.sqs h.2.2⟩
    cases k with
    | true => exact (show FzT F.K w a xs from h.1).sq
    | false => exact (show FzL F.K w a xs from h.1).sq
  | [], [], _ :: _, h => by simp [SrD] at h
  | [], _ :: _, _, h => by simp [SrD] at h
  | _ :: _, [], _, h => by simp [SrD] at h
  | _ :: _, _ :: _, [], h => by simp [SrD] at h
theorem SrD.ext {w w' : Wo} (e : E0 w w') : ∀ {dss : List (List D)} {sr : List (Addr × Bool)} {xss : List (List V)}, SrD F w dss sr xss → SrD F w' dss sr xss
  | [], [], [], _ => trivial
  | ds :: dss, (a, k) :: sr, xs :: xss, h => by
    simp only [SrD] at h ⊢
    refine ⟨?_, RpL.ext e _ _ h.2.1, SrD.ext e h.2.2⟩
    cases k with
    | true => exact (show FzT F.K w a xs from h.1).ext e
    | false => exact (show FzL F.K w a xs from h.1).ext e
  | [], [], _ :: _, h => by simp [SrD] at h
  | [], _ :: _, _, h => by simp [SrD] at h
  | _ :: _, [], _, h => by simp [SrD] at h
  | _ :: _, _ :: _, [], h => by simp [SrD] at h
theorem SrD.row {w : Wo} {i : Nat} : ∀ {dss : List (List D)} {sr : List (Addr × Bool)} {xss : List (List V)}, SrD F w dss sr xss → (∀ ds ∈ dss, i < ds.length) → RpL F w (dss.map fun ds => ds.getD i .non) (xss.map fun xs => xs.getD i .non) ∧ ∀ xs ∈ xss, i < xs.length
  | [], [], [], _, _ => ⟨RpL.nil, fun _ h => by simp at h⟩
  | ds :: dss, (a, k) :: sr, xs :: xss, h, hi => by
    simp only [SrD] at h
    obtain ⟨r1, r2⟩ := SrD.row h.2.2 fun d hd => hi d (List.mem_cons_of_mem _ hd)
    have h1 := hi ds (by simp)
    obtain ⟨v, hv, rv⟩ := h.2.1.get (List.getElem?_eq_getElem h1)
    refine ⟨RpL.cons ?_ r1, fun ys hy => ?_⟩
    · show Rp F w (ds.getD i .non) (xs.getD i .non)
      rw [List.getD_eq_getElem?_getD, List.getD_eq_getElem?_getD, hv, List.getElem?_eq_getElem h1]
      exact rv
    · rcases List.mem_cons.mp hy with rfl | hy
      · rw [← h.2.1.length]; exact h1
      · exact r2 ys hy
  | [], [], _ :: _, h, _ => by simp [SrD] at h
  | [], _ :: _, _, h, _ => by simp [SrD] at h
  | _ :: _, [], _, h, _ => by simp [SrD] at h
  | _ :: _, _ :: _, [], h, _ => by simp [SrD] at h
theorem SrD.stop {w : Wo} {n : Nat} : ∀ {dss : List (List D)} {sr : List (Addr × Bool)} {xss : List (List V)}, SrD F w dss sr xss → (∃ ds ∈ dss, ds.length ≤ n) → ∃ xs ∈ xss, xs.length ≤ n
  | [], [], [], _, h => by obtain ⟨_, h, _⟩ := h; cases h
  | ds :: dss, (a, k) :: sr, xs :: xss, h, hi => by
    simp only [SrD] at h
    obtain ⟨d, hd, hl⟩ := hi
    rcases List.mem_cons.mp hd with rfl | hd
    · exact ⟨xs, by simp, by rw [← h.2.1.length]; exact hl⟩
    · obtain ⟨ys, hy, hl⟩ := SrD.stop h.2.2 ⟨d, hd, hl⟩
      exact ⟨ys, List.mem_cons_of_mem _ hy, hl⟩
  | [], [], _ :: _, h, _ => by simp [SrD] at h
  | [], _ :: _, _, h, _ => by simp [SrD] at h
  | _ :: _, [], _, h, _ => by simp [SrD] at h
  | _ :: _, _ :: _, [], h, _ => by simp [SrD] at h
theorem srd_of {w : Wo} : ∀ {ys : List D} {vs : List V} {dss : List (List D)}, RpL F w ys vs → tupsOf ys = some dss → ∃ sr xss, vs = sr.map (fun b => V.ref b.1) ∧ sr.length = ys.length ∧ SrD F w dss sr xss
  | [], vs, dss, h, e => by
    simp only [RpL] at h
    simp only [tupsOf, Option.some.injEq] at e
    subst h e
    exact ⟨[], [], rfl, rfl, trivial⟩
  | y :: ys, vs, dss, h, e => by
    simp only [RpL] at h
    obtain ⟨v, vs', rfl, h1, h2⟩ := h
    simp only [tupsOf] at e
    split at e
    · rename_i ds dss' q1 q2
      cases e
      obtain ⟨sr, xss, rfl, hl, hS⟩ := srd_of h2 q2
      unfold fixd at q1
      split at q1
      · cases q1
        simp only [Rp] at h1
        obtain ⟨a, xs, rfl, g1, g2⟩ := h1
        exact ⟨(a, true) :: sr, xs :: xss, rfl, by simp [hl], g1, g2, hS⟩
      · cases q1
        simp only [Rp] at h1
        obtain ⟨a, xs, rfl, g1, g2⟩ := h1
        exact ⟨(a, false) :: sr, xs :: xss, rfl, by simp [hl], g1, g2, hS⟩
      · cases q1
    · cases e
theorem walk_of_zipN {w : Wo} {dss : List (List D)} {sr : List (Addr × Bool)} {xss : List (List V)} (hS : SrD F w dss sr xss) (hne : dss ≠ []) : WalkD F w (PLZ.ItzN F.K sr xss) (zipD dss) := by
  refine ⟨fun H => PLZ.Sqs F.K H sr xss, fun i H v H' => (PLZ.ItzN F.K sr xss).yld i H v H', ⟨fun i H hi q => ⟨q, (hS.row (zipD_lt dss i hi)).2⟩, fun H q => ⟨q, hS.stop (zipD_end dss hne)⟩, fun i H x H' _ _ y => y⟩, fun w1 e r => (hS.ext e).sqs, fun i w1 x H' hi e r y => ?_⟩
  obtain ⟨P, rfl, hp, rfl⟩ := y
  have hr := ((hS.ext e).row (zipD_lt dss i hi)).1
  refine ⟨{ w1 with H := upd w1.H P (.tup (xss.map fun xs => xs.getD i .non)) }, .tup (dss.map fun ds => ds.getD i .non), rfl, rfl, Ex.new r hp, r.new hp, zipD_get dss i hne (zipD_lt dss i hi), Rp.newTup r hp hr⟩
theorem i_zipN (C : Cok T F Γ W X) {x : Str} {elts : List Expr} {kk : Nat} {tpos : Pos} (hx : x = so "zip") (hg : glo X.env.scope x = true) (hst : (a :: es).all noStar = true) (ha : PA X (a :: es) (LA F W fs)) :
    PI X (.Tuple elts kk tpos) (.Call (.Name x p) (a :: es) [] pos) (LI F W fun ρ m => (fs ρ m).bind fun y m => match y with
      | .tup ys => if zipOk ys = true then .of m ((tupsOf ys).map fun l => .lst (zipD l)) else .stk
      | _ => .stk) := by
  subst hx
  have hst' := hst
  rw [List.all_cons, Bool.and_eq_true] at hst'
  refine PIi (PLZ.pi_zipN (glo_ok hg) C.zip ha (star_cons hst'.1 es X.env) (star_any pos X.env es hst'.2)) fun σ H R ⟨ρ, w, e, r, s, h⟩ => ?_
  subst e
  refine lft_bind r s h fun x w1 v e1 r1 s1 h1 p1 => ?_
  obtain ⟨ds, rfl, h2⟩ := h1
  dsimp only at p1
  split at p1
  rotate_left
  · exact p1.elim
  rename_i hz
  obtain ⟨d, hd, p2⟩ := p1.of
  obtain ⟨dss, q, rfl⟩ := Option.map_eq_some_iff.mp hd
  obtain ⟨sr, xss, rfl, hl, hS⟩ := srd_of h2 q
  unfold zipOk at hz
  simp only [Bool.or_eq_true, beq_iff_eq] at hz
  have hne : dss ≠ [] := fun z => by
    subst z
    cases ds with
    | nil => simp at hz
    | cons d ds => simp only [tupsOf] at q; split at q <;> cases q
  rw [C.hK]
  exact ⟨sr, xss, rfl, by omega, hS.sqs, Post.ok (R := RI F) p2 r1 ⟨_, rfl, walk_of_zipN hS hne⟩⟩
end
end PL

set_option Elab.async false
set_option linter.all false
set_option maxRecDepth 100000
set_option maxHeartbeats 4000000
/-! PL.Stm: targets, comprehensions, statements. -/
namespace PL
open PySem L2 PySem.Spec PyProof.Rows
/-- the slots that a target takes -/
def tsl : E → List Nat
  | .var i => [i]
  | .tup ts => tsl ts
  | .cons t ts => tsl t ++ tsl ts
  | _ => []
/-- σ2 is σ but for some slots -/
def But (l : List Nat) (σ σ2 : L2.St) : Prop := σ2.length = σ.length ∧ ∀ i, i ∉ l → σ2[i]? = σ[i]?
theorem But.refl (l : List Nat) (σ : L2.St) : But l σ σ := ⟨rfl, fun _ _ => rfl⟩
theorem But.trans {l1 l2 : List Nat} {a b c : L2.St} (h1 : But l1 a b) (h2 : But l2 b c) : But (l1 ++ l2) a c :=
  ⟨h2.1.trans h1.1, fun i hi => by rw [List.mem_append, not_or] at hi; rw [h2.2 i hi.2, h1.2 i hi.1]⟩
theorem But.mono {l1 l2 : List Nat} {a b : L2.St} (h : But l1 a b) (s : ∀ i ∈ l1, i ∈ l2) : But l2 a b := ⟨h.1, fun i hi => h.2 i fun z => hi (s i z)⟩
theorem wipe_get (σ : L2.St) : ∀ (vs : List Nat) (i : Nat), (wipe σ vs)[i]? = if i ∈ vs ∧ i < σ.length then some none else σ[i]?
  | [], i => by simp [wipe]
  | v :: vs, i => by
    unfold wipe
    by_cases h : v = i
    · subst h
      by_cases hl : v < σ.length
      · rw [List.getElem?_set_self (by rw [wipe_length]; exact hl)]
        simp [hl]
      · rw [List.getElem?_eq_none (by rw [List.length_set, wipe_length]; omega)]
        rw [if_neg (by simp [hl])]
        rw [List.getElem?_eq_none (by omega)]
    · rw [List.getElem?_set_ne h, wipe_get σ vs i]
      have : i ∈ v :: vs ↔ i ∈ vs := by simp [Ne.symm h]
      simp only [this]
theorem But.wipe {l : List Nat} {σ σ2 : L2.St} (h : But l σ σ2) {vs : List Nat} (s : ∀ i ∈ l, i ∈ vs) : wipe σ2 vs = wipe σ vs := by
  apply List.ext_getElem?
  intro i
  rw [wipe_get, wipe_get, h.1]
  by_cases hi : i ∈ vs
  · by_cases hl : i < σ.length
    · simp [hi, hl]
    · rw [if_neg (by simp [hl]), if_neg (by simp [hl]), List.getElem?_eq_none (by rw [h.1]; omega), List.getElem?_eq_none (by omega)]
  · rw [if_neg (by simp [hi]), if_neg (by simp [hi]), h.2 i fun z => hi (s i z)]
section
variable {T : Tb} {F : Fx} {Γ : Gam} {W : WXX} {X : Cx} {a b c e tg : Expr} {es : List Expr} {fa fb fc fs : Env → Mem → Out D} {pos p apos : Pos} {t : E}
/-- a target's reading -/
def LG (F : Fx) (t : E) : TG := fun v σ H Q => ∃ ρ ρ' w d, w.H = H ∧ Rel F w ∧ SR F w ρ σ ∧ Rp F w d v ∧ asgT t d ρ = some ρ' ∧ ∀ σ', SR F w ρ' σ' → But (tsl t) σ σ' → Q σ' H
def LGs (F : Fx) (t : E) : TGs := fun vs σ H Q => ∃ ρ ρ' w ds, w.H = H ∧ Rel F w ∧ SR F w ρ σ ∧ RpL F w ds vs ∧ asgT.asgL t ds ρ = some ρ' ∧ ∀ σ', SR F w ρ' σ' → But (tsl t) σ σ' → Q σ' H
theorem PGi {e : Expr} {t t' : TG} (h : PG X e t) (hi : ∀ v σ H Q, t' v σ H Q → t v σ H Q) : PG X e t' := ⟨fun pins s σ H v u Q I r q => h.run pins s σ H v u Q I r (hi v σ H Q q)⟩
theorem PGsi {e : List Expr} {t t' : TGs} (h : PGs X e t) (hi : ∀ v σ H Q, t' v σ H Q → t v σ H Q) : PGs X e t' := ⟨fun pins s σ H v u Q I r q => h.run pins s σ H v u Q I r (hi v σ H Q q)⟩
theorem asgn_cons {e : Expr} (h : noStar e = true) (es : List Expr) (env : PySem.Env) : assignEach (e :: es) env = (false, assign e env) :: assignEach es env := by
  cases e <;> first | rfl | (cases h; done)
theorem asgn_len (env : PySem.Env) : ∀ es : List Expr, es.all noStar = true → (assignEach es env).length = es.length ∧ (assignEach es env).findIdx? (·.1) = none
  | [], _ => ⟨rfl, rfl⟩
  | e :: es, h => by
    rw [List.all_cons, Bool.and_eq_true] at h
    obtain ⟨h1, h2⟩ := asgn_len env es h.2
    rw [asgn_cons h.1]
    refine ⟨by simp [h1], ?_⟩
    rw [List.findIdx?_cons]
    simp [h2]
theorem g_var (nd : X.N.Nodup) {i : Nat} {x : Str} (hN : X.N[i]? = some x) (hl : loc X.env.scope x = true) (hf : X.fn x = true ∨ X.env.scope.names.lookup x = some .local) : PG X (.Name x pos) (LG F (.var i)) := by
  refine PGi (pg_name nd hN (loc_ok hl) hf) fun v σ H Q ⟨ρ, ρ', w, d, e, r, s, h, ha, hq⟩ => ?_
  subst e
  simp only [asgT] at ha
  split at ha
  · cases ha
    refine hq _ (s.set i h) ⟨by simp, fun j hj => ?_⟩
    have : i ≠ j := fun z => hj (by simp [tsl, z])
    rw [List.getElem?_set_ne this]
  · cases ha
theorem gs_nil : PGs X [] (LGs F .nil) := by
  refine PGsi pgs_nil fun vs σ H Q ⟨ρ, ρ', w, ds, e, r, s, h, ha, hq⟩ => ?_
  subst e
  cases ds with
  | nil =>
    simp only [asgT.asgL, Option.some.injEq] at ha
    subst ha
    simp only [RpL] at h
    exact ⟨h, hq σ s (But.refl _ _)⟩
  | cons _ _ => simp [asgT.asgL] at ha
theorem gs_cons {t ts : E} (hst : noStar e = true) (h1 : PG X e (LG F t)) (h2 : PGs X es (LGs F ts)) : PGs X (e :: es) (LGs F (.cons t ts)) := by
  refine PGsi (pgs_cons h1 h2 (by rw [asgn_cons hst]; rfl)) fun vs σ H Q ⟨ρ, ρ', w, ds, e, r, s, h, ha, hq⟩ => ?_
  subst e
  cases ds with
  | nil => simp [asgT.asgL] at ha
  | cons d ds =>
    simp only [asgT.asgL] at ha
    obtain ⟨ρ1, a1, a2⟩ := Option.bind_eq_some_iff.mp ha
    simp only [RpL] at h
    obtain ⟨x, xs, rfl, h3, h4⟩ := h
    exact ⟨x, xs, rfl, ρ, ρ1, w, d, rfl, r, s, h3, a1, fun σ1 s1 b1 => ⟨ρ1, ρ', w, ds, rfl, r, s1, h4, a2, fun σ2 s2 b2 => hq σ2 s2 (b1.trans b2)⟩⟩
def spn : E → Nat
  | .cons _ r => spn r + 1
  | _ => 0
theorem asgL_len : ∀ {ts : E} {ds : List D} {ρ ρ' : Env}, asgT.asgL ts ds ρ = some ρ' → ds.length = spn ts
  | .nil, [], _, _, _ => rfl
  | .cons t ts, d :: ds, ρ, ρ', h => by
    simp only [asgT.asgL] at h
    obtain ⟨ρ1, _, a2⟩ := Option.bind_eq_some_iff.mp h
    simp only [List.length_cons, spn, asgL_len a2]
  | .nil, _ :: _, _, _, h => by simp [asgT.asgL] at h
  | .cons _ _, [], _, _, h => by simp [asgT.asgL] at h
  | .var _, ds, _, _, h => by cases ds <;> simp [asgT.asgL] at h
  | .cst _, ds, _, _, h => by cases ds <;> simp [asgT.asgL] at h
  | .bin _ _ _, ds, _, _, h => by cases ds <;> simp [asgT.asgL] at h
  | .neg _, ds, _, _, h => by cases ds <;> simp [asgT.asgL] at h
  | .cmp _ _ _, ds, _, _, h => by cases ds <;> simp [asgT.asgL] at h
  | .not _, ds, _, _, h => by cases ds <;> simp [asgT.asgL] at h
  | .and _ _, ds, _, _, h => by cases ds <;> simp [asgT.asgL] at h
  | .or _ _, ds, _, _, h => by cases ds <;> simp [asgT.asgL] at h
  | .ife _ _ _, ds, _, _, h => by cases ds <;> simp [asgT.asgL] at h
  | .tup _, ds, _, _, h => by cases ds <;> simp [asgT.asgL] at h
  | .lst _, ds, _, _, h => by cases ds <;> simp [asgT.asgL] at h
  | .ix _ _, ds, _, _, h => by cases ds <;> simp [asgT.asgL] at h
  | .sl _ _ _, ds, _, _, h => by cases ds <;> simp [asgT.asgL] at h
  | .att _ _, ds, _, _, h => by cases ds <;> simp [asgT.asgL] at h
  | .call _ _, ds, _, _, h => by cases ds <;> simp [asgT.asgL] at h
  | .meth _ _ _, ds, _, _, h => by cases ds <;> simp [asgT.asgL] at h
  | .make _ _, ds, _, _, h => by cases ds <;> simp [asgT.asgL] at h
  | .mkx _ _ _, ds, _, _, h => by cases ds <;> simp [asgT.asgL] at h
  | .blt _ _, ds, _, _, h => by cases ds <;> simp [asgT.asgL] at h
  | .itv _, ds, _, _, h => by cases ds <;> simp [asgT.asgL] at h
  | .rng _, ds, _, _, h => by cases ds <;> simp [asgT.asgL] at h
  | .rng2 _ _, ds, _, _, h => by cases ds <;> simp [asgT.asgL] at h
  | .zip _, ds, _, _, h => by cases ds <;> simp [asgT.asgL] at h
  | .enm _, ds, _, _, h => by cases ds <;> simp [asgT.asgL] at h
  | .lc _ _ _ _ _, ds, _, _, h => by cases ds <;> simp [asgT.asgL] at h
  | .lc2 _ _ _ _ _ _ _ _ _, ds, _, _, h => by cases ds <;> simp [asgT.asgL] at h
  | .frz _, ds, _, _, h => by cases ds <;> simp [asgT.asgL] at h
  | .nls _, ds, _, _, h => by cases ds <;> simp [asgT.asgL] at h
  | .callk _ _ _ _ _, ds, _, _, h => by cases ds <;> simp [asgT.asgL] at h
  | .makek _ _ _ _ _, ds, _, _, h => by cases ds <;> simp [asgT.asgL] at h
theorem PGor {e : Expr} {t1 t2 : TG} (h1 : PG X e t1) (h2 : PG X e t2) : PG X e (fun v σ H Q => t1 v σ H Q ∨ t2 v σ H Q) :=
  ⟨fun pins s σ H v u Q I r hw => hw.elim (fun hw => h1.run pins s σ H v u Q I r hw) fun hw => h2.run pins s σ H v u Q I r hw⟩
theorem g_tup (C : X.calm = true) (hK : X.K = F.K) {k : Nat} {ts : E} (hsp : spn ts = es.length) (hst : es.all noStar = true) (h : PGs X es (LGs F ts)) : PG X (.Tuple es k pos) (LG F (.tup ts)) := by
  obtain ⟨n1, n2⟩ := asgn_len X.env es hst
  refine PGi (PGor (pg_tup C h n1 n2) (pg_lst C h n1 n2)) fun v σ H Q ⟨ρ, ρ', w, d, e, r, s, h, ha, hq⟩ => ?_
  subst e
  cases d with
  | tup ds =>
    simp only [asgT] at ha
    simp only [Rp] at h
    obtain ⟨ad, xs, rfl, h2, h3⟩ := h
    refine .inl ⟨ad, xs, rfl, hK ▸ h2.sq, ?_, ρ, ρ', w, ds, rfl, r, s, h3, ha, hq⟩
    rw [← h3.length, asgL_len ha, hsp]
  | lst ds =>
    simp only [asgT] at ha
    simp only [Rp] at h
    obtain ⟨ad, xs, rfl, h2, h3⟩ := h
    refine .inr ⟨ad, xs, rfl, hK ▸ h2.sq, ?_, ρ, ρ', w, ds, rfl, r, s, h3, ha, hq⟩
    rw [← h3.length, asgL_len ha, hsp]
  | _ => simp [asgT] at ha
end
end PL

set_option Elab.async false
set_option linter.all false
set_option maxRecDepth 100000
set_option maxHeartbeats 4000000
/-! PL.Comp: list comprehensions. -/
namespace PL
open PySem L2 PySem.Spec PyProof.Rows
/-- one turn of a comprehension -/
def lcStep (fc fe : Env → Mem → Out D) (t : E) (ws : List Nat) (ρ : Env) (d : D) (m : Mem) : Out (List D) :=
  match asgT t d (wipeE ρ ws) with
  | some ρ1 => (fc ρ1 m).bind fun c m => match truth m c with
    | some true => (fe ρ1 m).bind fun y m => .ok [y] m
    | some false => .ok [] m
    | none => .stk
  | none => .stk
def lcFin (r : List D) (m : Mem) : Out D := if r.length ≤ 16777216 then .ok (.lst r) m else .stk
/-- the list at L is being made: what it has so far -/
structure AccI (F : Fx) (w1 : Wo) (L : Addr) (u : Wo) (acc : List D) (vs : List V) : Prop where
  pv : u.pv = L :: w1.pv
  rel : Rel F u
  e0 : E0 w1 u
  pk : ∀ a ∈ w1.pv, u.H a = w1.H a
  at_ : u.H L = some (.lst vs)
  rp : RpL F u acc vs
theorem Rel.plain {F : Fx} {w : Wo} (r : Rel F w) {a : Addr} (h : Lv w a) : ∀ u, w.H a = some u → Plain u := fun u e => by
  rcases r.live h with ⟨_, q⟩ | ⟨_, q⟩ | ⟨_, _, _, q⟩ <;> (rw [q] at e; cases e; exact ⟨fun _ z => (nomatch z), fun _ z => (nomatch z)⟩)
section
variable {F : Fx} {w1 u : Wo} {L : Addr} {acc : List D} {vs : List V}
theorem AccI.start (r : Rel F w1) (hL : w1.H L = none) : AccI F w1 L ⟨w1.ι, w1.m, upd w1.H L (.lst []), L :: w1.pv⟩ [] [] := by
  have nl := r.nlive hL
  have pvH : ∀ a ∈ w1.pv, upd w1.H L (.lst []) a = w1.H a := fun a ha => by
    obtain ⟨⟨xs, e⟩, _⟩ := r.pvt a ha
    rw [upd_ne (ne_of_none e hL)]
  have e0 : E0 w1 ⟨w1.ι, w1.m, upd w1.H L (.lst []), L :: w1.pv⟩ := by
    refine ⟨⟨[], by simp⟩, fun a o h n _ => ⟨.inl (by show upd w1.H L (.lst []) a = _; rw [upd_ne (ne_of_none h hL)]; exact h), fun l => ?_⟩⟩
    rcases l with l | l
    · exact n (.inl l)
    · rcases List.mem_cons.mp l with l | l
      · subst l; rw [hL] at h; cases h
      · exact n (.inr l)
  refine ⟨rfl, ⟨r.len, fun i a o h1 h2 => ?_, r.inj, fun a ha => ?_, tabs_new r.tabs hL⟩, e0, pvH, upd_same, RpL.nil⟩
  · by_cases hd : o = .dead
    · subst hd; trivial
    · refine (r.ob i a o h1 h2).ext e0 ?_
      show upd w1.H L (.lst []) a = _
      exact upd_ne fun z => by subst z; exact nl (.inl ⟨i, o, h1, h2, hd⟩)
  · rcases List.mem_cons.mp ha with ha | ha
    · subst ha
      exact ⟨⟨[], upd_same⟩, fun l => nl (.inl l)⟩
    · obtain ⟨⟨xs, e⟩, n⟩ := r.pvt a ha
      exact ⟨⟨xs, (pvH a ha).trans e⟩, n⟩
theorem AccI.ex (A : AccI F w1 L u acc vs) {u2 : Wo} (e : Ex u u2) (r : Rel F u2) : AccI F w1 L u2 acc vs :=
  ⟨e.pvs.trans A.pv, r, A.e0.trans e.toE0, fun a ha => (e.pk a (by rw [A.pv]; exact List.mem_cons_of_mem _ ha)).trans (A.pk a ha), (e.pk L (by rw [A.pv]; exact List.mem_cons_self)).trans A.at_, RpL.ex e _ _ A.rp⟩
theorem AccI.app (r1 : Rel F w1) (hL : w1.H L = none) (A : AccI F w1 L u acc vs) {y : D} {yv : V} (h : Rp F u y yv) : AccI F w1 L { u with H := upd u.H L (.lst (vs ++ [yv])) } (acc ++ [y]) (vs ++ [yv]) := by
  have hLp : L ∈ u.pv := by rw [A.pv]; exact List.mem_cons_self
  have e : E0 u { u with H := upd u.H L (.lst (vs ++ [yv])) } := by
    refine ⟨⟨[], by simp⟩, fun a o h n _ => ⟨?_, n⟩⟩
    refine .inl ?_
    show upd u.H L _ a = _
    rw [upd_ne fun z => by subst z; exact n (.inr hLp)]
    exact h
  have nL : ∀ a, LvM u a → a ≠ L := fun a l z => by subst z; exact (A.rel.pvt _ hLp).2 l
  refine ⟨A.pv, ⟨A.rel.len, fun i a o h1 h2 => ?_, A.rel.inj, fun a ha => ⟨?_, (A.rel.pvt a ha).2⟩, tabs_upd A.rel.tabs (A.rel.plain (.inr hLp))⟩, A.e0.trans e, fun a ha => ?_, upd_same, (RpL.ext e _ _ A.rp).app (RpL.cons (Rp.ext e _ _ h) RpL.nil)⟩
  · by_cases hd : o = .dead
    · subst hd; trivial
    · refine (A.rel.ob i a o h1 h2).ext e ?_
      show upd u.H L _ a = _
      exact upd_ne (nL a ⟨i, o, h1, h2, hd⟩)
  · by_cases hz : a = L
    · subst hz; exact ⟨_, upd_same⟩
    · obtain ⟨⟨xs, e⟩, n⟩ := A.rel.pvt a ha
      exact ⟨xs, by show upd u.H L _ a = _; rw [upd_ne hz]; exact e⟩
  · obtain ⟨⟨xs, e⟩, _⟩ := r1.pvt a ha
    show upd u.H L _ a = _
    rw [upd_ne (ne_of_none e hL)]
    exact A.pk a ha
theorem AccI.done (r1 : Rel F w1) (hL : w1.H L = none) (A : AccI F w1 L u acc vs) : Rel F { u with pv := w1.pv } ∧ Ex w1 { u with pv := w1.pv } ∧ Rp F { u with pv := w1.pv } (.lst acc) (.ref L) := by
  have sub : ∀ a, Lv { u with pv := w1.pv } a → Lv u a := fun a l => l.elim .inl fun l => .inr (by rw [A.pv]; exact List.mem_cons_of_mem _ l)
  have e : E0 u { u with pv := w1.pv } := ⟨⟨[], by simp⟩, fun a o h n _ => ⟨.inl h, fun l => n (sub a l)⟩⟩
  have r : Rel F { u with pv := w1.pv } := ⟨A.rel.len, fun i a o h1 h2 => (A.rel.ob i a o h1 h2).ext e rfl, A.rel.inj, fun a ha => A.rel.pvt a (by rw [A.pv]; exact List.mem_cons_of_mem _ ha), A.rel.tabs⟩
  refine ⟨r, ⟨A.e0.trans e, rfl, A.pk⟩, ?_⟩
  simp only [Rp]
  refine ⟨L, vs, rfl, .inl ⟨.inl A.at_, fun l => ?_⟩, RpL.ext e _ _ A.rp⟩
  rcases l with l | l
  · exact (A.rel.pvt L (by rw [A.pv]; exact List.mem_cons_self)).2 l
  · obtain ⟨⟨xs, z⟩, _⟩ := r1.pvt L l
    rw [hL] at z; cases z
theorem But_wipe (ws : List Nat) (σ : L2.St) : But ws σ (wipe σ ws) := ⟨wipe_length σ ws, fun i hi => by rw [wipe_get, if_neg (by simp [hi])]⟩
theorem but_wipe2 {l ws : List Nat} {σ σ2 : L2.St} (h : But l (wipe σ ws) σ2) (s : ∀ i ∈ l, i ∈ ws) : wipe σ2 ws = wipe σ ws := by
  rw [h.wipe s]
  exact (But_wipe ws σ).wipe fun i hi => hi
theorem lc_turn {fc fe : Env → Mem → Out D} {t : E} {ws : List Nat} {ρ : Env} {σ : L2.St} (r1 : Rel F w1) (hL : w1.H L = none) (A : AccI F w1 L u acc vs) (s : SR F u ρ σ) {d : D} {x : V} (rx : Rp F u d x) (hsub : ∀ i ∈ tsl t, i ∈ ws) {Kp : List D → Mem → Prop} (hlen : ∀ acc m, Kp acc m → acc.length ≤ 16777216)
    {xs : List D} {m1 : Mem} (hst : lcStep fc fe t ws ρ d u.m = .ok xs m1) (hK : Kp (acc ++ xs) m1) {Nx : Hp → Prop} (hNx : ∀ u2 acc vs, AccI F w1 L u2 acc vs → E0 u u2 → Kp acc u2.m → Nx u2.H) :
    LG F t x (wipe σ ws) u.H fun σ2 H2 => wipe σ2 ws = wipe σ ws ∧ LT F NoW (evT fc) σ2 H2 fun b H3 => if b = true then LE F NoW fe σ2 H3 fun y H4 => ∃ acc, H4 L = some (.lst acc) ∧ acc.length < sizeLine ∧ Nx (upd H4 L (.lst (acc ++ [y]))) else Nx H3 := by
  unfold lcStep at hst
  split at hst
  · rename_i ρ1 ha
    refine ⟨wipeE ρ ws, ρ1, u, d, rfl, A.rel, s.wipe ws, rx, ha, fun σ2 s2 b2 => ⟨but_wipe2 b2 hsub, ρ1, u, rfl, A.rel, s2, ?_⟩⟩
    unfold evT
    cases qc : fc ρ1 u.m with
    | err _ _ => rw [qc] at hst; cases hst
    | stk => rw [qc] at hst; cases hst
    | ok c m2 =>
      rw [qc] at hst
      simp only [Out.bind_ok] at hst ⊢
      split at hst
      · rename_i ht
        rw [ht]
        intro u2 b hm e2 r2 hb
        subst hm
        cases hb
        refine iteT ⟨ρ1, u2, rfl, r2, s2.ex e2, ?_⟩
        cases qe : fe ρ1 u2.m with
        | err _ _ => rw [qe] at hst; cases hst
        | stk => rw [qe] at hst; cases hst
        | ok y m3 =>
          rw [qe] at hst
          cases hst
          intro u3 yv hm e3 r3 hy
          have A3 := (A.ex e2 r2).ex e3 r3
          have A4 := A3.app r1 hL hy
          have hl := hlen _ _ hK
          have hl2 : acc.length < 16777216 := by simp at hl; omega
          refine ⟨vs, A3.at_, by rw [← A3.rp.length, sizeLine_eq]; exact hl2, hNx _ _ _ A4 ?_ (by show Kp _ u3.m; rw [hm]; exact hK)⟩
          refine (e2.trans e3).toE0.trans ⟨⟨[], by simp⟩, fun a o h n _ => ⟨?_, n⟩⟩
          refine .inl ?_
          show upd u3.H L _ a = _
          rw [upd_ne fun z => by subst z; exact n (.inr (by rw [A3.pv]; exact List.mem_cons_self))]
          exact h
      · rename_i ht
        cases hst
        rw [ht]
        intro u2 b hm e2 r2 hb
        subst hm
        cases hb
        exact iteF (hNx u2 acc vs (A.ex e2 r2) e2.toE0 (by rw [List.append_nil] at hK; exact hK))
      · cases hst
  · cases hst
theorem lcLoop_cons {f : D → Mem → Out (List D)} {d : D} {ds : List D} {m : Mem} {W : WXX} {σ : L2.St} {Q : VK} {k : List D → Mem → Out D} (h : Post F (RE F) W σ w1 ((lcLoop f (d :: ds) m).bind k) Q) :
    ∃ xs m1, f d m = .ok xs m1 ∧ Post F (RE F) W σ w1 ((lcLoop f ds m1).bind fun r m => k (xs ++ r) m) Q := by
  cases q : f d m with
  | ok xs m1 =>
    simp only [lcLoop, q] at h
    refine ⟨xs, m1, rfl, ?_⟩
    cases q2 : lcLoop f ds m1 with
    | ok r m2 => simp only [q2, Out.bind_ok] at h ⊢; exact h
    | err _ _ => simp only [q2, Out.bind_err] at h ⊢; exact h
    | stk => simp only [q2, Out.bind_stk] at h ⊢; exact h
  | err _ _ => simp only [lcLoop, q, Out.bind_stk] at h; exact h.elim
  | stk => simp only [lcLoop, q, Out.bind_stk] at h; exact h.elim
theorem lcLoop_noerr {f : D → Mem → Out (List D)} : ∀ (ds : List D) (m : Mem) (x : D) (m' : Mem), lcLoop f ds m ≠ .err x m'
  | [], m, x, m', h => by simp [lcLoop] at h
  | d :: ds, m, x, m', h => by
    simp only [lcLoop] at h
    split at h
    · rename_i a m1 q
      cases q2 : lcLoop f ds m1 with
      | ok r m2 => rw [q2] at h; cases h
      | err y m2 => exact lcLoop_noerr ds m1 y m2 q2
      | stk => rw [q2] at h; cases h
    · cases h
theorem drop_cons {α : Type} {l : List α} {i : Nat} {d : α} (h : l[i]? = some d) : l.drop i = d :: l.drop (i + 1) := by
  obtain ⟨hi, e⟩ := List.getElem?_eq_some_iff.mp h
  rw [List.drop_eq_getElem_cons hi, e]
end
def notSet : Expr → Bool
  | .Set _ _ _ => false
  | _ => true
theorem folded_ok {e : Expr} (h : notSet e = true) (env : PySem.Env) (x : Value) : foldedSetIterable e env x = pure x := by
  cases e <;> first | rfl | (cases h; done)
section
variable {T : Tb} {F : Fx} {Γ : Gam} {W : WXX} {X : Cx} {elt tg iter tg1 iter1 : Expr} {ifs ifs1 : List Expr} {scope : Scope} {own : List (Str × Nat)} {pos : Pos} {fi fc fe fi1 fc1 : Env → Mem → Out D} {t t1 : E}
theorem PTsi {X : Cx} {e : List Expr} {t t' : TT} (h : PTs X e t) (hi : ∀ σ H Q, t' σ H Q → t σ H Q) : PTs X e t' := ⟨fun pins s σ H Q I q => h.run pins s σ H Q I (hi σ H Q q)⟩
theorem ts_nil {W : WXX} : PTs X [] (LT F W (evT (ev Γ (.cst (.bl true))))) :=
  PTsi pts_nil fun σ H Q ⟨ρ, w, e, r, s, h⟩ => by
    subst e
    exact Post.ok (R := RT) h r rfl
theorem fin_len {w1 : Wo} {f : D → Mem → Out (List D)} {ds acc : List D} {m : Mem} {σ : L2.St} {Q : VK} (h : Post F (RE F) W σ w1 ((lcLoop f ds m).bind fun r m => lcFin (acc ++ r) m) Q) : acc.length ≤ 16777216 := by
  cases q : lcLoop f ds m with
  | ok r m2 =>
    simp only [q, Out.bind_ok, lcFin] at h
    split at h
    · rename_i hl
      simp at hl
      omega
    · exact h.elim
  | err x m2 => exact absurd q (lcLoop_noerr ds m x m2)
  | stk => simp only [q, Out.bind_stk] at h; exact h.elim
theorem lc_imp {ws : List Nat} (hsub : ∀ i ∈ tsl t, i ∈ ws) : ∀ σ H Q, LE F W (fun ρ m => (fi ρ m).bind fun x m => match x with
      | .lst ds => (lcLoop (lcStep fc fe t ws ρ) ds m).bind lcFin
      | _ => .stk) σ H Q → tLc (LI F W fi) (LG F t) (LT F NoW (evT fc)) (LE F NoW fe) ws σ H Q := by
  intro σ H Q ⟨ρ, w, e, r, s, h⟩
  subst e
  refine lft_bind r s h fun x w1 J e1 r1 s1 hJ p1 => ?_
  obtain ⟨ds, rfl, G, Y, wk, hG, hY⟩ := hJ
  intro L hL
  dsimp only at p1
  let f := lcStep fc fe t ws ρ
  refine lc_it wk (fun i H => ∃ u acc vs, u.H = H ∧ AccI F w1 L u acc vs ∧ Post F (RE F) W σ w1 ((lcLoop f (ds.drop i) u.m).bind fun r m => lcFin (acc ++ r) m) Q) ?_ ?_ ?_ ?_
  · exact ⟨_, [], [], rfl, AccI.start r1 hL, p1⟩
  · rintro i H _ ⟨u, acc, vs, rfl, A, _⟩
    exact hG u A.e0 A.rel
  · rintro i x H H' hi ⟨u, acc, vs, rfl, A, p⟩ y
    obtain ⟨u2, d, rfl, hm, e2, r2, hd, rx⟩ := hY i u x H' hi A.e0 A.rel y
    rw [drop_cons hd] at p
    obtain ⟨xs, m1, hf, p⟩ := lcLoop_cons p
    refine lc_turn (ρ := ρ) (Kp := fun acc m => Post F (RE F) W σ w1 ((lcLoop f (ds.drop (i + 1)) m).bind fun r m => lcFin (acc ++ r) m) Q) r1 hL (A.ex e2 r2) ((s1.ext A.e0).ex e2) rx hsub (fun acc m h => fin_len h) (by rw [hm]; exact hf) ?_ fun u3 acc vs A3 _ h3 => ⟨u3, acc, vs, rfl, A3, h3⟩
    simpa only [List.append_assoc] using p
  · rintro H ⟨u, acc, vs, rfl, A, p⟩
    rw [List.drop_length] at p
    simp only [lcLoop, Out.bind_ok, List.append_nil, lcFin] at p
    split at p
    · obtain ⟨a1, a2, a3⟩ := A.done r1 hL
      exact p { u with pv := w1.pv } _ rfl a2 a1 a3
    · exact p.elim
theorem p_lc (hc : X.calm = true) (nd : X.N.Nodup) (hi : PI X tg iter (LI F W fi)) (ok : BlkOk X.N X.env.scope scope own)
    (hg : ∀ (s : Shared) (H : Hp) (C : Addr) (cl : List (Str × Addr)) (fp : List Addr), PG (X.blk s H scope (compEnvC scope cl C X.env) fp) tg (LG F t)) (ht : ∀ (s : Shared) (H : Hp) (C : Addr) (cl : List (Str × Addr)) (fp : List Addr), PTs (X.blk s H scope (compEnvC scope cl C X.env) fp) ifs (LT F NoW (evT fc)))
    (he : ∀ (s : Shared) (H : Hp) (C : Addr) (cl : List (Str × Addr)) (fp : List Addr), PE (X.blk s H scope (compEnvC scope cl C X.env) fp) elt (LE F NoW fe)) (hs : notSet iter = true) (hsub : ∀ i ∈ tsl t, i ∈ own.map (·.2)) :
    PE X (.ListComp elt [⟨tg, iter, ifs, 0⟩] scope pos) (LE F W fun ρ m => (fi ρ m).bind fun x m => match x with
      | .lst ds => (lcLoop (lcStep fc fe t (own.map (·.2)) ρ) ds m).bind lcFin
      | _ => .stk) := by
  exact PEi (pe_lc hc nd hi ok hg ht he (folded_ok hs _)) (lc_imp hsub)
/-- a walk with any body -/
theorem it_any {J : It} {n : Nat} {G : Hp → Prop} {Y : Nat → Hp → V → Hp → Prop} {B : V → Hp → (Hp → Prop) → Prop} (wk : Walk J n G Y) (Pv : Nat → Hp → Prop) {H0 : Hp} (h0 : Pv 0 H0) (hG : ∀ i H, i ≤ n → Pv i H → G H) (hs : ∀ i x H H', i < n → Pv i H → Y i H x H' → B x H' (Pv (i + 1))) {Fin : Hp → Prop} (hd : ∀ H, Pv n H → Fin H) :
    ∃ W : Nat → Nat → Hp → Prop, (∃ m, W 0 m H0) ∧ ∀ i m H, W i m H → (J.stop i H ∧ Fin H) ∨ (J.go i H ∧ ∃ Nx : Hp → Prop, (∀ H', Nx H' → ∃ m', m' < m ∧ W (i + 1) m' H') ∧ ∀ x H', J.yld i H x H' → B x H' Nx) := by
  refine ⟨fun i m H => m = n - i ∧ i ≤ n ∧ Pv i H, ⟨n, by simp, Nat.zero_le _, h0⟩, ?_⟩
  rintro i m H ⟨rfl, hi, p⟩
  have q := hG i H hi p
  by_cases hlt : i < n
  · exact .inr ⟨wk.goes i H hlt q, Pv (i + 1), fun H' p' => ⟨n - (i + 1), by omega, rfl, hlt, p'⟩, fun x H' y => hs i x H H' hlt p (wk.yields i H x H' hlt q y)⟩
  · have e : i = n := by omega
    subst e
    exact .inl ⟨wk.stops H q, hd H p⟩
def lcStep2 (fc fi1 fc1 fe : Env → Mem → Out D) (t t1 : E) (ws ws1 : List Nat) (ρ : Env) (d : D) (m : Mem) : Out (List D) :=
  match asgT t d (wipeE ρ ws) with
  | some ρ1 => (fc ρ1 m).bind fun c m => match truth m c with
    | some true => (fi1 ρ1 m).bind fun x1 m => match x1 with
      | .lst ds1 => lcLoop (lcStep fc1 fe t1 ws1 ρ1) ds1 m
      | _ => .stk
    | some false => .ok [] m
    | none => .stk
  | none => .stk
theorem lcLoop_ok {f : D → Mem → Out (List D)} {d : D} {ds : List D} {m : Mem} {r : List D} {m2 : Mem} (h : lcLoop f (d :: ds) m = .ok r m2) : ∃ xs m1 r', f d m = .ok xs m1 ∧ lcLoop f ds m1 = .ok r' m2 ∧ r = xs ++ r' := by
  simp only [lcLoop] at h
  split at h
  · rename_i xs m1 q
    cases q2 : lcLoop f ds m1 with
    | ok r' m3 =>
      rw [q2] at h
      cases h
      exact ⟨xs, m1, r', q, q2, rfl⟩
    | err _ _ => rw [q2] at h; cases h
    | stk => rw [q2] at h; cases h
  · cases h
theorem lc2_imp {ws vs1 : List Nat} (hsub : ∀ i ∈ tsl t, i ∈ ws) (hsub1 : ∀ i ∈ tsl t1, i ∈ vs1) : ∀ σ H Q, LE F W (fun ρ m => (fi ρ m).bind fun x m => match x with
      | .lst ds => (lcLoop (lcStep2 fc fi1 fc1 fe t t1 ws vs1 ρ) ds m).bind lcFin
      | _ => .stk) σ H Q → tLc2 (LI F W fi) (LG F t) (LT F NoW (evT fc)) (LI F NoW fi1) (LG F t1) (LT F NoW (evT fc1)) (LE F NoW fe) ws vs1 σ H Q := by
  intro σ H Q ⟨ρ, w, e, r, s, h⟩
  subst e
  refine lft_bind r s h fun x w1 J e1 r1 s1 hJ p1 => ?_
  obtain ⟨ds, rfl, G, Y, wk, hG, hY⟩ := hJ
  intro L hL
  dsimp only at p1
  let f := lcStep2 fc fi1 fc1 fe t t1 ws vs1 ρ
  refine it_any wk (fun i H => ∃ u acc vs, u.H = H ∧ AccI F w1 L u acc vs ∧ Post F (RE F) W σ w1 ((lcLoop f (ds.drop i) u.m).bind fun r m => lcFin (acc ++ r) m) Q) ?_ ?_ ?_ ?_
  · exact ⟨_, [], [], rfl, AccI.start r1 hL, p1⟩
  · rintro i H _ ⟨u, acc, vs, rfl, A, _⟩
    exact hG u A.e0 A.rel
  · rintro i x H H' hi ⟨u, acc, vs, rfl, A, p⟩ y
    obtain ⟨u2, d, rfl, hm, e2, r2, hd, rx⟩ := hY i u x H' hi A.e0 A.rel y
    rw [drop_cons hd] at p
    obtain ⟨xs, m1, hf, p⟩ := lcLoop_cons p
    replace A := A.ex e2 r2
    have s2 := (s1.ext A.e0)
    rw [← hm] at hf
    have hf : lcStep2 fc fi1 fc1 fe t t1 ws vs1 ρ d u2.m = .ok xs m1 := hf
    unfold lcStep2 at hf
    split at hf
    · rename_i ρ1 ha
      refine ⟨wipeE ρ ws, ρ1, u2, d, rfl, A.rel, s2.wipe _, rx, ha, fun σ2 s3 b2 => ⟨but_wipe2 b2 hsub, ρ1, u2, rfl, A.rel, s3, ?_⟩⟩
      unfold evT
      cases qc : fc ρ1 u2.m with
      | err _ _ => rw [qc] at hf; cases hf
      | stk => rw [qc] at hf; cases hf
      | ok c m2 =>
        rw [qc] at hf
        simp only [Out.bind_ok] at hf ⊢
        split at hf
        · rename_i ht
          rw [ht]
          intro u3 b hm e3 r3 hb
          subst hm
          cases hb
          refine iteT ⟨ρ1, u3, rfl, r3, s3.ex e3, ?_⟩
          cases qe : fi1 ρ1 u3.m with
          | err _ _ => rw [qe] at hf; cases hf
          | stk => rw [qe] at hf; cases hf
          | ok x1 m3 =>
            rw [qe] at hf
            simp only [Out.bind_ok] at hf
            split at hf
            · rename_i ds1
              intro u4 J1 hm e4 r4 hJ1
              subst hm
              obtain ⟨ds1', hds, G1, Y1, wk1, hG1, hY1⟩ := hJ1
              cases hds
              have A4 := (A.ex e3 r3).ex e4 r4
              have s4 := (s3.ex e3).ex e4
              refine it_any wk1 (fun j H => ∃ u acc' vs, u.H = H ∧ AccI F w1 L u acc' vs ∧ E0 u4 u ∧ ∃ r m', lcLoop (lcStep fc1 fe t1 vs1 ρ1) (ds1.drop j) u.m = .ok r m' ∧ Post F (RE F) W σ w1 ((lcLoop f (ds.drop (i + 1)) m').bind fun r2 m => lcFin ((acc' ++ r) ++ r2) m) Q) ?_ ?_ ?_ ?_
              · refine ⟨u4, acc, vs, rfl, A4, E0.refl _, xs, m1, hf, ?_⟩
                simpa only [List.append_assoc] using p
              · rintro j H _ ⟨u, acc', vs, rfl, A5, e5, _⟩
                exact hG1 u e5 A5.rel
              · rintro j x H H' hj ⟨u, acc', vs, rfl, A5, e5, rr, m', hl, pp⟩ y
                obtain ⟨u6, d6, rfl, hm6, e6, r6, hd6, rx6⟩ := hY1 j u x H' hj e5 A5.rel y
                rw [drop_cons hd6, ← hm6] at hl
                obtain ⟨xs1, m7, r', q1, q2, rfl⟩ := lcLoop_ok hl
                refine lc_turn (ρ := ρ1) (Kp := fun acc m => ∃ r m', lcLoop (lcStep fc1 fe t1 vs1 ρ1) (ds1.drop (j + 1)) m = .ok r m' ∧ Post F (RE F) W σ w1 ((lcLoop f (ds.drop (i + 1)) m').bind fun r2 m => lcFin ((acc ++ r) ++ r2) m) Q) r1 hL (A5.ex e6 r6) ((s4.ext e5).ex e6) rx6 hsub1 (fun acc m ⟨r, m', _, h⟩ => ?_) q1 ⟨r', m', q2, by simpa only [List.append_assoc] using pp⟩ fun u3 acc vs A3 e03 h3 => ⟨u3, acc, vs, rfl, A3, e5.trans (e6.toE0.trans e03), h3⟩
                have := fin_len h
                simp at this
                omega
              · rintro H ⟨u, acc', vs, rfl, A5, e5, rr, m', hl, pp⟩
                rw [List.drop_length] at hl
                simp only [lcLoop] at hl
                cases hl
                exact ⟨u, acc', vs, rfl, A5, by simpa using pp⟩
            · cases hf
        · rename_i ht
          cases hf
          rw [ht]
          intro u3 b hm e3 r3 hb
          subst hm
          cases hb
          refine iteF ⟨u3, acc, vs, rfl, A.ex e3 r3, ?_⟩
          simpa using p
        · cases hf
    · cases hf
  · rintro H ⟨u, acc, vs, rfl, A, p⟩
    rw [List.drop_length] at p
    simp only [lcLoop, Out.bind_ok, List.append_nil, lcFin] at p
    split at p
    · obtain ⟨a1, a2, a3⟩ := A.done r1 hL
      exact p { u with pv := w1.pv } _ rfl a2 a1 a3
    · exact p.elim
theorem p_lc2 {vs1 : List Nat} (hc : X.calm = true) (nd : X.N.Nodup) (hi : PI X tg iter (LI F W fi)) (ok : BlkOk X.N X.env.scope scope own) (hv : ∀ i ∈ vs1, i ∈ own.map (·.2))
    (hg : ∀ (s : Shared) (H : Hp) (C : Addr) (cl : List (Str × Addr)) (fp : List Addr), PG (X.blk s H scope (compEnvC scope cl C X.env) fp) tg (LG F t)) (ht : ∀ (s : Shared) (H : Hp) (C : Addr) (cl : List (Str × Addr)) (fp : List Addr), PTs (X.blk s H scope (compEnvC scope cl C X.env) fp) ifs (LT F NoW (evT fc)))
    (hi1 : ∀ (s : Shared) (H : Hp) (C : Addr) (cl : List (Str × Addr)) (fp : List Addr), PI (X.blk s H scope (compEnvC scope cl C X.env) fp) tg1 iter1 (LI F NoW fi1))
    (hg1 : ∀ (s : Shared) (H : Hp) (C : Addr) (cl : List (Str × Addr)) (fp : List Addr), PG (X.blk s H scope (compEnvC scope cl C X.env) fp) tg1 (LG F t1)) (ht1 : ∀ (s : Shared) (H : Hp) (C : Addr) (cl : List (Str × Addr)) (fp : List Addr), PTs (X.blk s H scope (compEnvC scope cl C X.env) fp) ifs1 (LT F NoW (evT fc1)))
    (he : ∀ (s : Shared) (H : Hp) (C : Addr) (cl : List (Str × Addr)) (fp : List Addr), PE (X.blk s H scope (compEnvC scope cl C X.env) fp) elt (LE F NoW fe)) (hs : notSet iter = true) (hs1 : notSet iter1 = true) (hsub : ∀ i ∈ tsl t, i ∈ own.map (·.2)) (hsub1 : ∀ i ∈ tsl t1, i ∈ vs1) :
    PE X (.ListComp elt [⟨tg, iter, ifs, 0⟩, ⟨tg1, iter1, ifs1, 0⟩] scope pos) (LE F W fun ρ m => (fi ρ m).bind fun x m => match x with
      | .lst ds => (lcLoop (lcStep2 fc fi1 fc1 fe t t1 (own.map (·.2)) vs1 ρ) ds m).bind lcFin
      | _ => .stk) := by
  exact PEi (pe_lc2 hc nd hi ok hv hg ht hi1 hg1 ht1 he (folded_ok hs _) fun _ => folded_ok hs1 _) (lc2_imp hsub hsub1)
end
end PL

set_option Elab.async false
set_option linter.all false
set_option maxRecDepth 100000
set_option maxHeartbeats 4000000
/-! PL.Stm2: the rules for statements. -/
namespace PL
open PySem L2 PySem.Spec PyProof.Rows
/-- the wish behind a statement -/
def PostS (F : Fx) (W : WXX) (E : Ends) (w : Wo) : SO → Prop
  | .nx ρ m => ∀ w' σ', w'.m = m → Ex w w' → Rel F w' → SR F w' ρ σ' → E.nx σ' w'.H
  | .rt d m => ∀ w' v, w'.m = m → Ex w w' → Rel F w' → Rp F w' d v → E.rt v w'.H
  | .br ρ m => ∀ w' σ', w'.m = m → Ex w w' → Rel F w' → SR F w' ρ σ' → E.bk σ' w'.H
  | .ct ρ m => ∀ w' σ', w'.m = m → Ex w w' → Rel F w' → SR F w' ρ σ' → E.ct σ' w'.H
  | .er x ρ m => ∀ w' σ' c dd, w'.m = m → Ex w w' → Rel F w' → SR F w' ρ σ' → XR F w' x c dd → W c dd σ' w'.H
  | .stk => False
def LS (F : Fx) (W : WXX) (f : Env → Mem → SO) : TS := fun E σ H => ∃ ρ w, w.H = H ∧ Rel F w ∧ SR F w ρ σ ∧ PostS F W E w (f ρ w.m)
section
variable {T : Tb} {F : Fx} {Γ : Gam} {W : WXX} {X : Cx} {a b c e tg : Expr} {es : List Expr} {st : Stmt} {rest : List Stmt} {fa fb fc fs : Env → Mem → Out D} {f g : Env → Mem → SO} {pos p apos : Pos} {t : E}
theorem PostS.ext {E : Ends} {w w1 : Wo} {o : SO} (h : PostS F W E w o) (e : Ex w w1) : PostS F W E w1 o := by
  cases o with
  | nx ρ m => exact fun w' σ' h1 h2 h3 h4 => h w' σ' h1 (e.trans h2) h3 h4
  | rt d m => exact fun w' σ' h1 h2 h3 h4 => h w' σ' h1 (e.trans h2) h3 h4
  | br ρ m => exact fun w' σ' h1 h2 h3 h4 => h w' σ' h1 (e.trans h2) h3 h4
  | ct ρ m => exact fun w' σ' h1 h2 h3 h4 => h w' σ' h1 (e.trans h2) h3 h4
  | er x ρ m => exact fun w' σ' c dd h1 h2 h3 h4 h5 => h w' σ' c dd h1 (e.trans h2) h3 h4 h5
  | stk => exact h.elim
theorem ls_bind {β α : Type} {R : Wo → β → α → Prop} {h : Env → Mem → Out β} {E : Ends} {σ : L2.St} {ρ : Env} {w : Wo} {k : β → Mem → SO} {Q1 : α → Hp → Prop} (r : Rel F w) (s : SR F w ρ σ)
    (hp : PostS F W E w (SO.of ρ (h ρ w.m) k)) (hk : ∀ d w1 v, Ex w w1 → Rel F w1 → SR F w1 ρ σ → R w1 d v → PostS F W E w1 (k d w1.m) → Q1 v w1.H) : Lft F W R h σ w.H Q1 := by
  refine ⟨ρ, w, rfl, r, s, ?_⟩
  cases q : h ρ w.m with
  | ok d m =>
    rw [q] at hp
    intro w' v h1 h2 h3 h4
    subst h1
    exact hk d w' v h2 h3 (s.ex h2) h4 (hp.ext h2)
  | err x m =>
    rw [q] at hp
    exact fun w' c dd h1 h2 h3 h4 => hp w' σ c dd h1 h2 h3 (s.ex h2) h4
  | stk => rw [q] at hp; exact hp.elim
theorem ls_of {α : Type} {R : Wo → D → α → Prop} {h : Env → Mem → Out D} {E : Ends} {σ : L2.St} {ρ : Env} {w : Wo} {k : D → Mem → SO} {Q1 : α → Hp → Prop} (r : Rel F w) (s : SR F w ρ σ)
    (hp : PostS F W E w (SO.of ρ (h ρ w.m) k)) (hk : ∀ d w1 v, Ex w w1 → Rel F w1 → SR F w1 ρ σ → R w1 d v → PostS F W E w1 (k d w1.m) → Q1 v w1.H) : Lft F W R h σ w.H Q1 :=
  ls_bind r s hp hk
/-- a test ahead of two ways -/
theorem ls_test {h : Env → Mem → Out D} {E : Ends} {σ : L2.St} {ρ : Env} {w : Wo} {kt kf : Mem → SO} {Q1 : Bool → Hp → Prop} (r : Rel F w) (s : SR F w ρ σ)
    (hp : PostS F W E w (SO.of ρ (h ρ w.m) fun x m => match truth m x with
      | some true => kt m
      | some false => kf m
      | none => .stk)) (hk : ∀ b w1, Ex w w1 → Rel F w1 → SR F w1 ρ σ → PostS F W E w1 (if b = true then kt w1.m else kf w1.m) → Q1 b w1.H) : LT F W (evT h) σ w.H Q1 := by
  refine ls_bind (E := E) (R := RT) (h := evT h) (k := fun b m => if b = true then kt m else kf m) r s ?_ fun b w1 v e1 r1 s1 hb p1 => ?_
  · unfold evT
    cases q : h ρ w.m with
    | ok x m =>
      rw [q] at hp
      simp only [Out.bind_ok, SO.of] at hp ⊢
      cases ht : truth m x with
      | none => rw [ht] at hp; exact hp.elim
      | some b => cases b <;> (rw [ht] at hp; exact hp)
    | err x m => rw [q] at hp; exact hp
    | stk => rw [q] at hp; exact hp
  · cases hb
    exact hk b w1 e1 r1 s1 p1
theorem ss_nil : PSs X [] (LS F W fun ρ m => .nx ρ m) :=
  PSsi pss_nil fun E σ H ⟨ρ, w, e, r, s, h⟩ => by subst e; exact h w σ rfl (Ex.refl w) r s
theorem ss_one (h : PS X st (LS F W f)) : PSs X [st] (LS F W f) := pss_one h
theorem ss_cons (h1 : PS X st (LS F W f)) (h2 : PSs X rest (LS F W g)) : PSs X (st :: rest) (LS F W fun ρ m => match f ρ m with
    | .nx ρ m => g ρ m
    | o => o) := by
  refine PSsi (pss_cons h1 h2) fun E σ H ⟨ρ, w, e, r, s, h⟩ => ?_
  subst e
  dsimp only at h
  refine ⟨ρ, w, rfl, r, s, ?_⟩
  cases q : f ρ w.m with
  | nx ρ1 m1 =>
    rw [q] at h
    intro w' σ' h1 h2 h3 h4
    subst h1
    exact ⟨ρ1, w', rfl, h3, h4, PostS.ext h h2⟩
  | _ => rw [q] at h; exact h
theorem s_pass : PS X (.Pass pos) (LS F W fun ρ m => .nx ρ m) :=
  PSi ps_pass fun E σ H ⟨ρ, w, e, r, s, h⟩ => by subst e; exact h w σ rfl (Ex.refl w) r s
theorem s_brk : PS X (.Break pos) (LS F W fun ρ m => .br ρ m) :=
  PSi ps_break fun E σ H ⟨ρ, w, e, r, s, h⟩ => by subst e; exact h w σ rfl (Ex.refl w) r s
theorem s_cnt : PS X (.Continue pos) (LS F W fun ρ m => .ct ρ m) :=
  PSi ps_continue fun E σ H ⟨ρ, w, e, r, s, h⟩ => by subst e; exact h w σ rfl (Ex.refl w) r s
theorem s_nev : PS X st (LS F W fun _ _ => .stk) :=
  PSi ps_never fun E σ H ⟨ρ, w, e, r, s, h⟩ => h.elim
/-- no comprehension as a statement's own value -/
def noCmp : Expr → Bool
  | .ListComp _ _ _ _ => false
  | .SetComp _ _ _ _ => false
  | .DictComp _ _ _ _ _ => false
  | _ => true
theorem swap_no {e : Expr} (h : noCmp e = true) (tg : Option Expr) (l : Nat) (env : PySem.Env) : swapsWith e tg l env = pure false := by
  cases e <;> first | rfl | (cases h; done)
theorem s_exp (hn : noCmp e = true) (he : PE X e (LE F W fa)) : PS X (.Expr e pos) (LS F W fun ρ m => SO.of ρ (fa ρ m) fun _ m => .nx ρ m) := by
  refine PSi (ps_expr he (swap_no hn _ _ _)) fun E σ H ⟨ρ, w, e, r, s, h⟩ => ?_
  subst e
  exact ls_of r s h fun d w1 v e1 r1 s1 h1 p1 => p1 w1 σ rfl (Ex.refl w1) r1 s1
theorem s_ret (he : PE X e (LE F W fa)) : PS X (.Return (some e) pos) (LS F W fun ρ m => SO.of ρ (fa ρ m) fun x m => .rt x m) := by
  refine PSi (ps_ret he) fun E σ H ⟨ρ, w, e, r, s, h⟩ => ?_
  subst e
  exact ls_of r s h fun d w1 v e1 r1 s1 h1 p1 => p1 w1 v rfl (Ex.refl w1) r1 h1
theorem s_retN : PS X (.Return none pos) (LS F W fun _ m => .rt .non m) :=
  PSi ps_retN fun E σ H ⟨ρ, w, e, r, s, h⟩ => by subst e; exact h w .non rfl (Ex.refl w) r (by simp only [Rp])
theorem s_ife {sa sb : List Stmt} (hc : PT X c (LT F W (evT fc))) (ha : PSs X sa (LS F W f)) (hb : PSs X sb (LS F W g)) : PS X (.If c sa sb pos) (LS F W fun ρ m => SO.of ρ (fc ρ m) fun x m => match truth m x with
    | some true => f ρ m
    | some false => g ρ m
    | none => .stk) := by
  refine PSi (ps_if hc ha hb) fun E σ H ⟨ρ, w, e, r, s, h⟩ => ?_
  subst e
  refine ls_test (kt := fun m => f ρ m) (kf := fun m => g ρ m) r s h fun b w1 e1 r1 s1 p1 => ?_
  cases b with
  | true => exact iteT ⟨ρ, w1, rfl, r1, s1, p1⟩
  | false => exact iteF ⟨ρ, w1, rfl, r1, s1, p1⟩
/-! ### assignments -/
theorem asgn1 {tg : Expr} (h : noStar tg = true) (env : PySem.Env) : (assignEach [tg] env).map (·.2) = [assign tg env] := by
  rw [asgn_cons h]; rfl
theorem s_asg (hsw : swapsWith e (some tg) pos.line X.env = pure false) (hp : swappedStores [tg] e X.env = pure none) (hst : noStar tg = true) (he : PE X e (LE F W fa)) (hg : PG X tg (LG F t)) : PS X (.Assign [tg] e pos) (LS F W fun ρ m => SO.of ρ (fa ρ m) fun x m => match asgT t x ρ with
    | some ρ => .nx ρ m
    | none => .stk) := by
  refine PSi (ps_asg he hg hsw hp (asgn1 hst _)) fun E σ H ⟨ρ, w, e, r, s, h⟩ => ?_
  subst e
  refine ls_of r s h fun d w1 v e1 r1 s1 h1 p1 => ?_
  split at p1
  · rename_i ρ' q
    exact ⟨ρ, ρ', w1, d, rfl, r1, s1, h1, q, fun σ' s' _ => p1 w1 σ' rfl (Ex.refl w1) r1 s'⟩
  · exact p1.elim
/-- x = [.. for ..] where the model stores straight into x -/
theorem ls_asgvar {i : Nat} {te : TE} (h0 : ∀ σ H Q, LE F W fa σ H Q → te σ H Q) {E : Ends} {σ : L2.St} {H : Hp} (h : LS F W (fun ρ m => SO.of ρ (fa ρ m) fun x m => match asgT (.var i) x ρ with
    | some ρ => .nx ρ m
    | none => .stk) E σ H) : tAsg te (gName i) E σ H := by
  obtain ⟨ρ, w, e, r, s, h⟩ := h
  subst e
  refine h0 _ _ _ (ls_of r s h fun d w1 v e1 r1 s1 h1 p1 => ?_)
  split at p1
  · rename_i ρ' q
    simp only [asgT] at q
    split at q
    · cases q
      exact p1 w1 _ rfl (Ex.refl w1) r1 (s1.set i h1)
    · cases q
  · exact p1.elim
theorem two_of' {w : Wo} {ys : List D} {vs : List V} (h : RpL F w ys vs) (hl : ys.length = 2) : ∃ y z v u, ys = [y, z] ∧ vs = [v, u] ∧ Rp F w y v ∧ Rp F w z u := by
  match ys, hl with
  | [y, z], _ =>
    obtain ⟨v, u, rfl, h1, h2⟩ := two_of h
    exact ⟨y, z, v, u, rfl, rfl, h1, h2⟩
/-- a, b = x, y -/
theorem s_par {i j : Nat} {x y : Str} {px py pt : Pos} {kt k2 : Nat} {pt2 : Pos} (hc : X.calm = true) (nd : X.N.Nodup) (hi : X.N[i]? = some x) (hj : X.N[j]? = some y) (hij : i ≠ j)
    (hx : X.env.scope.names.lookup x = some .local) (hy : X.env.scope.names.lookup y = some .local) (ha : PA X [a, b] (LA F W fs))
    (hw : swappedStores [.Tuple [.Name x px, .Name y py] kt pt] (.Tuple [a, b] k2 pt2) X.env = pure (some [x, y])) :
    PS X (.Assign [.Tuple [.Name x px, .Name y py] kt pt] (.Tuple [a, b] k2 pt2) pos) (LS F W fun ρ m => SO.of ρ ((fs ρ m).bind fun y m => match y with
      | .tup ys => if ys.length ≤ 16777216 then .ok (.tup ys) m else .stk
      | _ => .stk) fun x m => match asgT (.tup (.cons (.var i) (.cons (.var j) .nil))) x ρ with
      | some ρ => .nx ρ m
      | none => .stk) := by
  refine PSi (ps_par hc nd hi hj hij hx hy ha hw rfl) fun E σ H ⟨ρ, w, e, r, s, h⟩ => ?_
  subst e
  refine ls_of (E := E) (k := fun y m => SO.of ρ (match y with
      | .tup ys => if ys.length ≤ 16777216 then .ok (.tup ys) m else .stk
      | _ => .stk) fun x m => match asgT (.tup (.cons (.var i) (.cons (.var j) .nil))) x ρ with
      | some ρ => .nx ρ m
      | none => .stk) (R := RA F) r s ?_ fun d w1 vs e1 r1 s1 h1 p1 => ?_
  · dsimp only at h
    cases q : fs ρ w.m with
    | ok x m => rw [q] at h; exact h
    | err x m => rw [q] at h; exact h
    | stk => rw [q] at h; exact h
  · obtain ⟨ds, rfl, h2⟩ := h1
    dsimp only at p1
    split at p1
    · simp only [SO.of] at p1
      split at p1
      · rename_i ρ' q
        simp only [asgT] at q
        have hl := asgL_len q
        obtain ⟨y1, z1, v, u, rfl, rfl, g1, g2⟩ := two_of' h2 hl
        simp only [asgT.asgL, asgT] at q
        split at q
        · simp only [Option.bind_some, List.length_set] at q
          split at q
          · simp only [Option.bind_some, Option.some.injEq] at q
            subst q
            exact ⟨v, u, rfl, p1 w1 _ rfl (Ex.refl w1) r1 ((s1.set i g1).set j g2)⟩
          · cases q
        · cases q
      · exact p1.elim
    · exact p1.elim
theorem three_of' {w : Wo} {ys : List D} {vs : List V} (h : RpL F w ys vs) (hl : ys.length = 3) : ∃ y z y' v u v', ys = [y, z, y'] ∧ vs = [v, u, v'] ∧ Rp F w y v ∧ Rp F w z u ∧ Rp F w y' v' := by
  match ys, hl with
  | [y, z, q], _ =>
    simp only [RpL] at h
    obtain ⟨v, _, rfl, h1, u, _, rfl, h2, v', _, rfl, h3, rfl⟩ := h
    exact ⟨y, z, q, v, u, v', rfl, rfl, h1, h2, h3⟩
theorem s_par3 {i j l : Nat} {x y z : Str} {px py pz pt : Pos} {kt k2 : Nat} {pt2 : Pos} (hc : X.calm = true) (nd : X.N.Nodup) (hi : X.N[i]? = some x) (hj : X.N[j]? = some y) (hl : X.N[l]? = some z) (hij : i ≠ j) (hil : i ≠ l) (hjl : j ≠ l)
    (hx : X.env.scope.names.lookup x = some .local) (hy : X.env.scope.names.lookup y = some .local) (hz : X.env.scope.names.lookup z = some .local) (ha : PA X [a, b, c] (LA F W fs))
    (hw : swappedStores [.Tuple [.Name x px, .Name y py, .Name z pz] kt pt] (.Tuple [a, b, c] k2 pt2) X.env = pure (some [x, y, z])) :
    PS X (.Assign [.Tuple [.Name x px, .Name y py, .Name z pz] kt pt] (.Tuple [a, b, c] k2 pt2) pos) (LS F W fun ρ m => SO.of ρ ((fs ρ m).bind fun y m => match y with
      | .tup ys => if ys.length ≤ 16777216 then .ok (.tup ys) m else .stk
      | _ => .stk) fun x m => match asgT (.tup (.cons (.var i) (.cons (.var j) (.cons (.var l) .nil)))) x ρ with
      | some ρ => .nx ρ m
      | none => .stk) := by
  refine PSi (ps_par3 hc nd hi hj hl hij hil hjl hx hy hz ha hw rfl) fun E σ H ⟨ρ, w, e, r, s, h⟩ => ?_
  subst e
  refine ls_of (E := E) (k := fun y m => SO.of ρ (match y with
      | .tup ys => if ys.length ≤ 16777216 then .ok (.tup ys) m else .stk
      | _ => .stk) fun x m => match asgT (.tup (.cons (.var i) (.cons (.var j) (.cons (.var l) .nil)))) x ρ with
      | some ρ => .nx ρ m
      | none => .stk) (R := RA F) r s ?_ fun d w1 vs e1 r1 s1 h1 p1 => ?_
  · dsimp only at h
    cases q : fs ρ w.m with
    | ok x m => rw [q] at h; exact h
    | err x m => rw [q] at h; exact h
    | stk => rw [q] at h; exact h
  · obtain ⟨ds, rfl, h2⟩ := h1
    dsimp only at p1
    split at p1
    · simp only [SO.of] at p1
      split at p1
      · rename_i ρ' q
        simp only [asgT] at q
        have hl := asgL_len q
        obtain ⟨y1, z1, q1, v, u, v', rfl, rfl, g1, g2, g3⟩ := three_of' h2 hl
        simp only [asgT.asgL, asgT] at q
        split at q
        · simp only [Option.bind_some, List.length_set] at q
          split at q
          · simp only [Option.bind_some, List.length_set] at q
            split at q
            · simp only [Option.bind_some, Option.some.injEq] at q
              subst q
              exact ⟨v, u, v', rfl, p1 w1 _ rfl (Ex.refl w1) r1 (((s1.set i g1).set j g2).set l g3)⟩
            · cases q
          · cases q
        · cases q
      · exact p1.elim
    · exact p1.elim
/-! ### loops -/
theorem s_for (pass : PassesOwn (model X.prog X.w) X.A X.env X.xe) (hc : X.calm = true) {iter : Expr} (hns : notSet iter = true) (hi : PI X tg iter (LI F W fa)) (hg : PG X tg (LG F t)) (hb : PSs X rest (LS F W f)) :
    PS X (.For tg iter rest [] pos) (LS F W fun ρ m => SO.of ρ (fa ρ m) fun x m => match x with
      | .lst ds => forLoop (fun d ρ m => match asgT t d ρ with
        | some ρ => f ρ m
        | none => .stk) ds ρ m
      | _ => .stk) := by
  refine PSi (ps_for pass hc hi hg hb (folded_ok hns _)) fun E σ H ⟨ρ, w, e, r, s, h⟩ => ?_
  subst e
  refine ls_of (R := RI F) r s h fun x w1 J e1 r1 s1 hJ p1 => ?_
  obtain ⟨ds, rfl, G, Y, wk, hG, hY⟩ := hJ
  dsimp only at p1
  let fb : D → Env → Mem → SO := fun d ρ m => match asgT t d ρ with
        | some ρ => f ρ m
        | none => .stk
  refine for_it wk (fun i σ H => ∃ ρ u, u.H = H ∧ Rel F u ∧ SR F u ρ σ ∧ Ex w1 u ∧ PostS F W E u (forLoop fb (ds.drop i) ρ u.m)) ?_ ?_ ?_ ?_
  · exact ⟨ρ, w1, rfl, r1, s1, Ex.refl _, p1⟩
  · rintro i σ H _ ⟨ρ, u, rfl, r2, _, e2, _⟩
    exact hG u e2.toE0 r2
  · rintro i x σ H H' hi ⟨ρ, u, rfl, r2, s2, e2, p2⟩ y
    obtain ⟨u3, d, rfl, hm, e3, r3, hd, rx⟩ := hY i u x H' hi e2.toE0 r2 y
    rw [drop_cons hd] at p2
    have p3 := p2.ext e3
    rw [← hm] at p3
    simp only [forLoop, fb] at p3
    cases ha : asgT t d ρ with
    | none => rw [ha] at p3; exact p3.elim
    | some ρ1 =>
      rw [ha] at p3
      refine ⟨ρ, ρ1, u3, d, rfl, r3, s2.ex e3, rx, ha, fun σ4 s4 _ => ⟨ρ1, u3, rfl, r3, s4, ?_⟩⟩
      cases q : f ρ1 u3.m with
      | nx ρ5 m5 =>
        simp only [q] at p3
        intro w' σ' h1 h2 h3 h4
        subst h1
        exact ⟨ρ5, w', rfl, h3, h4, (e2.trans e3).trans h2, PostS.ext p3 h2⟩
      | ct ρ5 m5 =>
        simp only [q] at p3
        intro w' σ' h1 h2 h3 h4
        subst h1
        exact ⟨ρ5, w', rfl, h3, h4, (e2.trans e3).trans h2, PostS.ext p3 h2⟩
      | br ρ5 m5 => simp only [q] at p3; exact p3
      | rt _ _ => simp only [q] at p3; exact p3
      | er _ _ _ => simp only [q] at p3; exact p3
      | stk => simp only [q] at p3; exact p3.elim
  · rintro σ H ⟨ρ, u, rfl, r2, s2, e2, p2⟩
    rw [List.drop_length] at p2
    exact p2 u σ rfl (Ex.refl u) r2 s2
theorem s_whl {n : Nat} (pass : PassesOwn (model X.prog X.w) X.A X.env X.xe) (hc : PT X c (LT F W (evT fc))) (hb : PSs X rest (LS F W f)) :
    PS X (.While c rest [] pos) (LS F W fun ρ m => whlLoop fc f n ρ m) := by
  refine PSi (ps_while pass hc hb) fun E σ H ⟨ρ, w, e, r, s, h⟩ => ?_
  subst e
  refine ⟨fun k σ H => ∃ ρ u, u.H = H ∧ Rel F u ∧ SR F u ρ σ ∧ PostS F W E u (whlLoop fc f k ρ u.m), ⟨n, ρ, w, rfl, r, s, h⟩, ?_⟩
  rintro k σ H ⟨ρ, u, rfl, r2, s2, p2⟩
  cases k with
  | zero => exact p2.elim
  | succ k =>
    simp only [whlLoop] at p2
    refine ls_test (kt := fun m => match f ρ m with
      | .nx ρ m => whlLoop fc f k ρ m
      | .ct ρ m => whlLoop fc f k ρ m
      | .br ρ m => .nx ρ m
      | o => o) (kf := fun m => .nx ρ m) r2 s2 p2 fun b w1 e1 r1 s1 p1 => ?_
    cases b with
    | true =>
      refine iteT ⟨fun σ H => ∃ ρ u, u.H = H ∧ Rel F u ∧ SR F u ρ σ ∧ PostS F W E u (whlLoop fc f k ρ u.m), fun σ' H' hN => ⟨k, Nat.lt_succ_self k, hN⟩, ρ, w1, rfl, r1, s1, ?_⟩
      simp only [if_true] at p1
      cases q : f ρ w1.m with
      | nx ρ5 m5 =>
        simp only [q] at p1
        intro w' σ' h1 h2 h3 h4
        subst h1
        exact ⟨ρ5, w', rfl, h3, h4, PostS.ext p1 h2⟩
      | ct ρ5 m5 =>
        simp only [q] at p1
        intro w' σ' h1 h2 h3 h4
        subst h1
        exact ⟨ρ5, w', rfl, h3, h4, PostS.ext p1 h2⟩
      | br ρ5 m5 => simp only [q] at p1; exact p1
      | rt _ _ => simp only [q] at p1; exact p1
      | er _ _ _ => simp only [q] at p1; exact p1
      | stk => simp only [q] at p1; exact p1.elim
    | false => exact iteF (p1 w1 σ rfl (Ex.refl w1) r1 s1)
end
end PL

set_option Elab.async false
set_option linter.all false
set_option maxRecDepth 100000
set_option maxHeartbeats 4000000
/-! PL.Mem: statements that change something. -/
namespace PL
open PySem L2 PySem.Spec PyProof.Rows
section
variable {F : Fx} {w : Wo}
def wset (w : Wo) (i : Nat) (a : Addr) (o : MO) (h : HO) : Wo := ⟨w.ι, w.m.set i o, upd w.H a h, w.pv⟩
theorem set_rel (r : Rel F w) {i : Nat} {a : Addr} {o o' : MO} {h : HO} (h1 : w.ι[i]? = some a) (h2 : w.m[i]? = some o) (hd : o ≠ .dead) (hnew : Ex w (wset w i a o' h) → RO F (wset w i a o' h) a o') : Rel F (wset w i a o' h) ∧ Ex w (wset w i a o' h) := by
  have hi : i < w.m.length := (List.getElem?_eq_some_iff.mp h2).1
  have hl : LvM w a := ⟨i, o, h1, h2, hd⟩
  have lvm : ∀ b, LvM (wset w i a o' h) b → LvM w b := fun b ⟨j, u, q1, q2, q3⟩ => by
    have q2 : (w.m.set i o')[j]? = some u := q2
    by_cases hj : i = j
    · subst hj
      have q1 : w.ι[i]? = some b := q1
      exact ⟨i, o, q1, h2, hd⟩
    · rw [List.getElem?_set_ne hj] at q2
      exact ⟨j, u, q1, q2, q3⟩
  have pvH : ∀ b ∈ w.pv, upd w.H a h b = w.H b := fun b hb => upd_ne fun z => by subst z; exact (r.pvt _ hb).2 hl
  have ex : Ex w (wset w i a o' h) := by
    refine ⟨⟨⟨[], by simp [wset]⟩, fun b u hb n _ => ⟨?_, fun l => n (l.elim (fun l => .inl (lvm b l)) .inr)⟩⟩, rfl, pvH⟩
    refine .inl ?_
    show upd w.H a h b = _
    rw [upd_ne fun z => by subst z; exact n (.inl hl)]
    exact hb
  refine ⟨⟨by show w.ι.length = (w.m.set i o').length; rw [List.length_set, r.len], fun j b u q1 q2 => ?_, fun j k b u v q1 q2 q3 q4 q5 q6 => ?_, fun b hb => ⟨?_, fun l => (r.pvt b hb).2 (lvm b l)⟩, tabs_upd r.tabs (r.plain (.inl hl))⟩, ex⟩
  · have q2 : (w.m.set i o')[j]? = some u := q2
    have q1 : w.ι[j]? = some b := q1
    by_cases hj : i = j
    · subst hj
      rw [List.getElem?_set_self hi] at q2
      cases q2
      rw [h1] at q1
      cases q1
      exact hnew ex
    · rw [List.getElem?_set_ne hj] at q2
      by_cases hdd : u = .dead
      · subst hdd; trivial
      · refine (r.ob j b u q1 q2).ext ex.toE0 ?_
        show upd w.H a h b = _
        exact upd_ne fun z => hj (r.inj i j _ o u (z ▸ h1) h2 hd (z ▸ q1) q2 hdd)
  · have q1 : w.ι[j]? = some b := q1
    have q4 : w.ι[k]? = some b := q4
    have q2 : (w.m.set i o')[j]? = some u := q2
    have q5 : (w.m.set i o')[k]? = some v := q5
    have f1 : ∃ u, w.m[j]? = some u ∧ u ≠ .dead := by
      by_cases hj : i = j
      · subst hj; exact ⟨o, h2, hd⟩
      · rw [List.getElem?_set_ne hj] at q2; exact ⟨u, q2, q3⟩
    have f2 : ∃ u, w.m[k]? = some u ∧ u ≠ .dead := by
      by_cases hj : i = k
      · subst hj; exact ⟨o, h2, hd⟩
      · rw [List.getElem?_set_ne hj] at q5; exact ⟨v, q5, q6⟩
    obtain ⟨u1, a1, a2⟩ := f1
    obtain ⟨u2, b1, b2⟩ := f2
    exact r.inj j k b u1 u2 q1 a1 a2 q4 b1 b2
  · obtain ⟨⟨xs, e⟩, _⟩ := r.pvt b hb
    exact ⟨xs, (pvH b hb).trans e⟩
theorem putF_zip {f : String} {v : D} {y : V} : ∀ {ns : List String} {ds : List D} {xs : List V}, ns.length = xs.length → RpL F w ds xs → Rp F w v y →
    ∃ xs', L2.putF (so f) y ((ns.map so).zip xs) = ((PL.putF f v ns ds).1.map so).zip xs' ∧ (PL.putF f v ns ds).1.length = xs'.length ∧ RpL F w (PL.putF f v ns ds).2 xs'
  | [], ds, xs, hl, h, hv => by
    cases xs with
    | nil =>
      simp only [List.map_nil, List.zip_nil_left]
      refine ⟨[y], ?_, ?_, ?_⟩
      · cases ds <;> rfl
      · cases ds <;> rfl
      · cases ds with
        | nil => exact RpL.cons hv RpL.nil
        | cons _ _ => exact RpL.cons hv RpL.nil
    | cons _ _ => simp at hl
  | n :: ns, ds, xs, hl, h, hv => by
    cases xs with
    | nil => simp at hl
    | cons z zs =>
      cases ds with
      | nil => simp only [RpL] at h; cases h
      | cons d ds =>
        simp only [RpL] at h
        obtain ⟨z', zs', e, h1, h2⟩ := h
        cases e
        by_cases hf : n = f
        · subst hf
          refine ⟨y :: zs, ?_, ?_, ?_⟩
          · simp only [PL.putF, if_true, List.map_cons, List.zip_cons_cons]
            show (if so n = so n then (so n, y) :: _ else _) = _
            rw [if_pos rfl]
          · simp only [PL.putF, if_true, List.length_cons]; simpa using hl
          · simp only [PL.putF, if_true]; exact RpL.cons hv h2
        · obtain ⟨xs', e1, e2, e3⟩ := putF_zip (ns := ns) (by simpa using hl) h2 hv
          refine ⟨z :: xs', ?_, ?_, ?_⟩
          · simp only [PL.putF, if_neg hf, List.map_cons, List.zip_cons_cons]
            show (if so n = so f then _ else (so n, z) :: L2.putF (so f) y ((ns.map so).zip zs)) = _
            rw [if_neg fun e => hf (so_inj e), e1]
          · simp only [PL.putF, if_neg hf, List.length_cons, e2]
          · simp only [PL.putF, if_neg hf]; exact RpL.cons h1 e3
end
section
variable {T : Tb} {F : Fx} {Γ : Gam} {W : WXX} {X : Cx} {a b c e o i0 : Expr} {es : List Expr} {st : Stmt} {rest : List Stmt} {fa fb fc fs fo fi : Env → Mem → Out D} {f g : Env → Mem → SO} {pos p pos' apos : Pos} {t : E}
theorem swap_sole {e tg : Expr} (h : noCmp e = true) {l : Nat} {env : PySem.Env} : swapsWithSole [tg] e l env = pure false := swap_no h (some tg) l env
theorem PGi0 {e : Expr} {t t' : TG} (h : PG X e t) (hi : ∀ v σ H Q, t' v σ H Q → t v σ H Q) : PG X e t' := PGi h hi
/-- what a store of an attribute asks, and leaves -/
theorem setAt_ok (C : Cok T F Γ W X) {w : Wo} (r : Rel F w) {i : Nat} {ad : Addr} {fn : String} {v : D} {y : V} {m' : Mem} (h1 : w.ι[i]? = some ad) (hv : Rp F w v y) (hs : setAt Γ w.m i fn v = some m') :
    ∃ A dx fls, w.H ad = some (.ins A dx fls) ∧ Cls X.K A ∧ NoAttr X.K A (so fn) ∧ fls.length < 1000 ∧ ∃ w', w'.H = upd w.H ad (.ins A dx (L2.putF (so fn) y fls)) ∧ w'.m = m' ∧ w'.ι = w.ι ∧ Rel F w' ∧ Ex w w' := by
  unfold setAt at hs
  split at hs
  · rename_i c ns ds q
    split at hs
    · rename_i hf
      cases hs
      obtain ⟨A, dx, fls, xs, g1, g2, g3, g4, g5⟩ := r.ob i ad _ h1 q
      have qc := C.ac.cls c A g1
      obtain ⟨xs', e1, e2, e3⟩ := putF_zip (f := fn) g4 g5 hv
      rw [← g3] at e1
      obtain ⟨r2, ex⟩ := set_rel (o' := .ins c (PL.putF fn v ns ds).1 (PL.putF fn v ns ds).2) (h := .ins A dx (L2.putF (so fn) y fls)) r h1 q (fun z => nomatch z) fun ex => ⟨A, dx, _, xs', g1, upd_same, e1, e2, RpL.ex ex _ _ e3⟩
      refine ⟨A, dx, fls, g2, C.hK ▸ qc.cl, C.hK ▸ qc.na fn hf.1, ?_, wset w i ad (.ins c (PL.putF fn v ns ds).1 (PL.putF fn v ns ds).2) (.ins A dx (L2.putF (so fn) y fls)), rfl, rfl, rfl, r2, ex⟩
      rw [g3]
      have : ((ns.map so).zip xs).length = ns.length := by simp [g4]
      rw [this]
      exact hf.2
    · cases hs
  · cases hs
theorem s_att (C : Cok T F Γ W X) {fn : String} {fX : Str} (hf : fX = so fn) (hn : noCmp e = true) (ho : PE X o (LE F W fo)) (he : PE X e (LE F W fa)) :
    PS X (.Assign [.Attribute o fX pos'] e pos) (LS F W fun ρ m => SO.of ρ (fa ρ m) fun v m => SO.of ρ (fo ρ m) fun x m => match x with
      | .ref i => match setAt Γ m i fn v with
        | some m => .nx ρ m
        | none => .stk
      | _ => .stk) := by
  subst hf
  refine PSi (ps_fld ho he (swap_no hn _ _ _)) fun E σ H ⟨ρ, w, e, r, s, h⟩ => ?_
  subst e
  refine ls_of r s h fun v w1 y e1 r1 s1 h1 p1 => ?_
  refine ls_of r1 s1 p1 fun x w2 u e2 r2 s2 h2 p2 => ?_
  split at p2
  · rename_i i
    split at p2
    · rename_i m' q
      simp only [RE, Rp] at h2
      obtain ⟨ad, rfl, h3⟩ := h2
      obtain ⟨A, dx, fls, g1, g2, g3, g4, w', g5, g6, g7, r3, ex⟩ := setAt_ok C r2 h3 (Rp.ex e2 _ _ h1) q
      refine ⟨ad, A, dx, fls, rfl, g1, g2, g3, g4, ?_⟩
      have := p2 w' σ g6 ex r3 (s2.ex ex)
      rw [g5] at this
      exact this
    · exact p2.elim
  · exact p2.elim
/-- o.f as a target -/
def gFld (K : PySem.W.Frag) (to : TE) (f : Str) : TG := fun v σ H Q => to σ H fun x H1 => ∃ a C dx fs, x = .ref a ∧ H1 a = some (.ins C dx fs) ∧ Cls K C ∧ NoAttr K C f ∧ fs.length < 1000 ∧ Q σ (upd H1 a (.ins C dx (L2.putF f v fs)))
theorem pg_fld {to : TE} {f : Str} (ho : PE X o to) : PG X (.Attribute o f pos) (gFld X.K to f) := by
  refine ⟨fun pins s σ H v u Q I r h => ?_⟩
  show wpAny _ _ (do
    let ov ← holding [u] (eval o X.env)
    standAt pos.atName
    holding [u, ov] (setAttr ov f u)
    release [u, ov] []) _ _ _
  refine wpAny_bind (wpAny_holding (thn (ho.run pins s σ H _ I h) fun ov s1 ⟨x, H1, I1, r1, a, C, dx, fls, ex, ea, c, n, l, q⟩ => ?_))
  subst ex
  obtain rfl : ov = Value.ref a := r1
  refine wpAny_bind (wpAny_standAt (wpAny_bind (wpAny_holding (setattr_ok I1 ea c n l r fun s3 I3 => ?_))))
  exact wpAny_release ⟨σ, _, I3, q⟩
/-- all targets are attributes of one name -/
def attTs (x : Str) : List Expr → List Str → Bool
  | [], [] => true
  | .Attribute (.Name y _) f _ :: es, g :: gs => decide (y = x) && decide (f = g) && attTs x es gs
  | _, _ => false
def LGa (F : Fx) (Γ : Gam) (i : Nat) (fns : List String) : TGs := fun vs σ H Q => ∃ ρ w ds a m', w.H = H ∧ Rel F w ∧ SR F w ρ σ ∧ RpL F w ds vs ∧ ρ[i]? = some (some (.ref a)) ∧ setAll Γ a w.m fns ds = some m' ∧ ∀ w', w'.m = m' → Ex w w' → Rel F w' → Q σ w'.H
theorem gs_att (C : Cok T F Γ W X) {i : Nat} {x : Str} (hN : X.N[i]? = some x) (hv : vis X.env.scope x = true) (hd : (x == ("__debug__" : Str)) = false) (hcd : (x == ("__classdict__" : Str)) = false) : ∀ (es : List Expr) (fns : List String), attTs x es (fns.map so) = true → es.all noStar = true ∧ es.length = fns.length ∧ PGs X es (LGa F Γ i fns)
  | [], [], _ => by
    refine ⟨rfl, rfl, PGsi pgs_nil fun vs σ H Q ⟨ρ, w, ds, a, m', e, r, s, h, ha, hs, hq⟩ => ?_⟩
    subst e
    cases ds with
    | nil =>
      simp only [setAll, Option.some.injEq] at hs
      simp only [RpL] at h
      exact ⟨h, hq w hs (Ex.refl w) r⟩
    | cons _ _ => simp [setAll] at hs
  | .Attribute (.Name y py) f pf :: es, fn :: fns, h => by
    simp only [List.map_cons, attTs, Bool.and_eq_true, decide_eq_true_eq] at h
    obtain ⟨⟨rfl, rfl⟩, h⟩ := h
    obtain ⟨n1, n2, ih⟩ := gs_att C hN hv hd hcd es fns h
    refine ⟨by simp [noStar, n1], by simp [n2], PGsi (pgs_cons (pg_fld (pe_var hN (vis_ok hv) hd hcd)) ih rfl) fun vs σ H Q ⟨ρ, w, ds, a, m', e, r, s, h, ha, hs, hq⟩ => ?_⟩
    subst e
    cases ds with
    | nil => simp [setAll] at hs
    | cons d ds =>
      simp only [setAll] at hs
      obtain ⟨m1, g1, g2⟩ := Option.bind_eq_some_iff.mp hs
      simp only [RpL] at h
      obtain ⟨y, ys, rfl, h1, h2⟩ := h
      obtain ⟨v, hv1, hv2⟩ := s.at_ i _ ha
      simp only [Rp] at hv2
      obtain ⟨ad, rfl, had⟩ := hv2
      obtain ⟨A, dx, fls, k1, k2, k3, k4, w', k5, k6, k7, r3, ex⟩ := setAt_ok C r had h1 g1
      refine ⟨y, ys, rfl, .ref ad, hv1, ad, A, dx, fls, rfl, k1, k2, k3, k4, ?_⟩
      rw [← k5]
      subst k6
      exact ⟨ρ, w', ds, a, m', rfl, r3, s.ex ex, RpL.ex ex _ _ h2, ha, g2, fun w'' z1 z2 z3 => hq w'' z1 (ex.trans z2) z3⟩
  | [], _ :: _, h => by simp [attTs] at h
  | .Attribute (.Name _ _) _ _ :: _, [], h => by simp [attTs] at h
  | .Attribute (.BoolOp _ _ _) _ _ :: _, _, h => by simp [attTs] at h
  | .Attribute (.NamedExpr _ _ _) _ _ :: _, _, h => by simp [attTs] at h
  | .Attribute (.BinOp _ _ _ _) _ _ :: _, _, h => by simp [attTs] at h
  | .Attribute (.UnaryOp _ _ _) _ _ :: _, _, h => by simp [attTs] at h
  | .Attribute (.Lambda _ _ _ _) _ _ :: _, _, h => by simp [attTs] at h
  | .Attribute (.IfExp _ _ _ _) _ _ :: _, _, h => by simp [attTs] at h
  | .Attribute (.Dict _ _ _) _ _ :: _, _, h => by simp [attTs] at h
  | .Attribute (.Set _ _ _) _ _ :: _, _, h => by simp [attTs] at h
  | .Attribute (.ListComp _ _ _ _) _ _ :: _, _, h => by simp [attTs] at h
  | .Attribute (.SetComp _ _ _ _) _ _ :: _, _, h => by simp [attTs] at h
  | .Attribute (.DictComp _ _ _ _ _) _ _ :: _, _, h => by simp [attTs] at h
  | .Attribute (.GeneratorExp _ _ _ _) _ _ :: _, _, h => by simp [attTs] at h
  | .Attribute (.Await _ _) _ _ :: _, _, h => by simp [attTs] at h
  | .Attribute (.Yield _ _) _ _ :: _, _, h => by simp [attTs] at h
  | .Attribute (.YieldFrom _ _) _ _ :: _, _, h => by simp [attTs] at h
  | .Attribute (.Compare _ _ _ _) _ _ :: _, _, h => by simp [attTs] at h
  | .Attribute (.Call _ _ _ _) _ _ :: _, _, h => by simp [attTs] at h
  | .Attribute (.FormattedValue _ _ _ _) _ _ :: _, _, h => by simp [attTs] at h
  | .Attribute (.JoinedStr _ _) _ _ :: _, _, h => by simp [attTs] at h
  | .Attribute (.Constant _ _ _) _ _ :: _, _, h => by simp [attTs] at h
  | .Attribute (.Attribute _ _ _) _ _ :: _, _, h => by simp [attTs] at h
  | .Attribute (.Subscript _ _ _) _ _ :: _, _, h => by simp [attTs] at h
  | .Attribute (.Starred _ _) _ _ :: _, _, h => by simp [attTs] at h
  | .Attribute (.List _ _) _ _ :: _, _, h => by simp [attTs] at h
  | .Attribute (.Tuple _ _ _) _ _ :: _, _, h => by simp [attTs] at h
  | .Attribute (.Slice _ _ _ _) _ _ :: _, _, h => by simp [attTs] at h
  | .BoolOp _ _ _ :: _, _, h => by simp [attTs] at h
  | .NamedExpr _ _ _ :: _, _, h => by simp [attTs] at h
  | .BinOp _ _ _ _ :: _, _, h => by simp [attTs] at h
  | .UnaryOp _ _ _ :: _, _, h => by simp [attTs] at h
  | .Lambda _ _ _ _ :: _, _, h => by simp [attTs] at h
  | .IfExp _ _ _ _ :: _, _, h => by simp [attTs] at h
  | .Dict _ _ _ :: _, _, h => by simp [attTs] at h
  | .Set _ _ _ :: _, _, h => by simp [attTs] at h
  | .ListComp _ _ _ _ :: _, _, h => by simp [attTs] at h
  | .SetComp _ _ _ _ :: _, _, h => by simp [attTs] at h
  | .DictComp _ _ _ _ _ :: _, _, h => by simp [attTs] at h
  | .GeneratorExp _ _ _ _ :: _, _, h => by simp [attTs] at h
  | .Await _ _ :: _, _, h => by simp [attTs] at h
  | .Yield _ _ :: _, _, h => by simp [attTs] at h
  | .YieldFrom _ _ :: _, _, h => by simp [attTs] at h
  | .Compare _ _ _ _ :: _, _, h => by simp [attTs] at h
  | .Call _ _ _ _ :: _, _, h => by simp [attTs] at h
  | .FormattedValue _ _ _ _ :: _, _, h => by simp [attTs] at h
  | .JoinedStr _ _ :: _, _, h => by simp [attTs] at h
  | .Constant _ _ _ :: _, _, h => by simp [attTs] at h
  | .Subscript _ _ _ :: _, _, h => by simp [attTs] at h
  | .Starred _ _ :: _, _, h => by simp [attTs] at h
  | .Name _ _ :: _, _, h => by simp [attTs] at h
  | .List _ _ :: _, _, h => by simp [attTs] at h
  | .Tuple _ _ _ :: _, _, h => by simp [attTs] at h
  | .Slice _ _ _ _ :: _, _, h => by simp [attTs] at h
theorem setAll_len {i : Nat} : ∀ {fns : List String} {ds : List D} {m m' : Mem}, setAll Γ i m fns ds = some m' → ds.length = fns.length
  | [], [], _, _, _ => rfl
  | f :: fs, d :: ds, m, m', h => by
    simp only [setAll] at h
    obtain ⟨m1, _, g2⟩ := Option.bind_eq_some_iff.mp h
    simp only [List.length_cons, setAll_len g2]
  | [], _ :: _, _, _, h => by simp [setAll] at h
  | _ :: _, [], _, _, h => by simp [setAll] at h
/-- self.a, self.b, .. = e -/
theorem s_ats (C : Cok T F Γ W X) {i k : Nat} {x : Str} {fns : List String} (hN : X.N[i]? = some x) (hv : vis X.env.scope x = true) (hd : (x == ("__debug__" : Str)) = false) (hcd : (x == ("__classdict__" : Str)) = false) (ht : attTs x es (fns.map so) = true) (hn : noCmp e = true) (hw : swappedStores [.Tuple es k p] e X.env = pure none) (he : PE X e (LE F W fa)) :
    PS X (.Assign [.Tuple es k p] e pos) (LS F W fun ρ m => SO.of ρ (fa ρ m) fun v m => match v, ρ[i]? with
      | .tup ds, some (some (.ref a)) => match setAll Γ a m fns ds with
        | some m => .nx ρ m
        | none => .stk
      | _, _ => .stk) := by
  obtain ⟨n1, n2, G⟩ := gs_att C hN hv hd hcd es fns ht
  obtain ⟨l1, l2⟩ := asgn_len X.env es n1
  refine PSi (ps_asg he (pg_tup C.calm G l1 l2) (swap_sole hn) hw rfl) fun E σ H ⟨ρ, w, e, r, s, h⟩ => ?_
  subst e
  refine ls_of r s h fun v w1 y e1 r1 s1 h1 p1 => ?_
  split at p1
  · rename_i ds a q
    split at p1
    · rename_i m' q2
      simp only [RE, Rp] at h1
      obtain ⟨ad, xs, rfl, h2, h3⟩ := h1
      refine ⟨ad, xs, rfl, C.hK ▸ h2.sq, by rw [← h3.length, setAll_len q2, n2], ρ, w1, ds, a, m', rfl, r1, s1, h3, q, q2, fun w' z1 z2 z3 => p1 w' σ z1 z2 z3 (s1.ex z2)⟩
    · exact p1.elim
  · exact p1.elim
/-- o[i] = e of a list -/
theorem s_sub (hn : noCmp e = true) (hi0 : plIx i0 = true) (ho : PE X o (LE F W fo)) (hi : PE X i0 (LE F W fi)) (he : PE X e (LE F W fa)) :
    PS X (.Assign [.Subscript o i0 p] e pos) (LS F W fun ρ m => SO.of ρ (fa ρ m) fun v m => SO.of ρ (fo ρ m) fun x m => SO.of ρ (fi ρ m) fun k m => match x, k with
      | .ref a, .int k => match m[a]? with
        | some (.lst ds) => match pyIx ds.length k with
          | some j => .nx ρ (m.set a (.lst (ds.set j v)))
          | none => .stk
        | _ => .stk
      | _, _ => .stk) := by
  have ha : ∀ v, assign (.Subscript o i0 p) X.env v = (do
      let ov ← holding [v] (eval o X.env)
      let iv ← holding [v, ov] (eval i0 X.env)
      standAt p
      holding [v, ov, iv] (setItem ov iv v)
      release [v, ov, iv] []) := by
    intro v
    cases i0 <;> first | rfl | (cases hi0; done)
  refine PSi (ps_asg he (pg_sub ho hi set_list ha) (swap_sole hn) rfl rfl) fun E σ H ⟨ρ, w, e, r, s, h⟩ => ?_
  subst e
  refine ls_of r s h fun v w1 y e1 r1 s1 h1 p1 => ?_
  refine ls_of r1 s1 p1 fun x w2 u e2 r2 s2 h2 p2 => ?_
  refine ls_of r2 s2 p2 fun k w3 z e3 r3 s3 h3 p3 => ?_
  split at p3
  · rename_i a k
    split at p3
    · rename_i ds q
      split at p3
      · rename_i j hj
        simp only [RE, Rp] at h3
        subst h3
        have h2 := Rp.ex e3 _ _ h2
        simp only [Rp] at h2
        obtain ⟨ad, rfl, h4⟩ := h2
        obtain ⟨xs, g1, g2⟩ := r3.ob a ad _ h4 q
        refine ⟨ad, xs, k, j, rfl, rfl, g1, by rw [← g2.length, ← pyIx_eq]; exact hj, ?_⟩
        have hy := Rp.ex (e2.trans e3) _ _ h1
        obtain ⟨r4, ex⟩ := set_rel (o' := .lst (ds.set j v)) (h := .lst (xs.set j y)) r3 h4 q (fun z => nomatch z) fun ex => ⟨_, upd_same, RpL.set (Rp.ex ex _ _ hy) j (RpL.ex ex _ _ g2)⟩
        exact p3 _ σ rfl ex r4 (s3.ex ex)
      · exact p3.elim
    · exact p3.elim
  · exact p3.elim
/-- x.append(e) of a list -/
theorem s_app (C : Cok T F Γ W X) {i : Nat} {x : Str} {px : Pos} (hN : X.N[i]? = some x) (hv : vis X.env.scope x = true) (hd : (x == ("__debug__" : Str)) = false) (hcd : (x == ("__classdict__" : Str)) = false) (hst : noStar e = true) (hl : (apos.endLine == pos.line) = true) (he : PE X e (LE F W fa)) :
    PS X (.Expr (.Call (.Attribute (.Name x px) "append" apos) [e] [] pos) pos') (LS F W fun ρ m => match ρ[i]? with
      | some (some (.ref a)) => match m[a]? with
       | some (.lst _) => SO.of ρ (fa ρ m) fun v m => match m[a]? with
        | some (.lst ds) => if ds.length < 16777216 then .nx ρ (m.set a (.lst (ds ++ [v]))) else .stk
        | _ => .stk
       | _ => .stk
      | _ => .stk) := by
  have e1 := star_cons hst [] X.env
  refine PSi (ps_expr (pe_bm PySem.F.plainAttrs_list PySem.F.slot_list_append PySem.F.type_list_append mt_append (pe_var hN (vis_ok hv) hd hcd) (pa_cons he pa_nil e1) rfl (by rw [e1]; rfl) hl e1 rfl) rfl) fun E σ H ⟨ρ, w, e, r, s, h⟩ => ?_
  subst e
  dsimp only at h
  split at h
  · rename_i a q
    obtain ⟨v, h1, h2⟩ := s.at_ i _ q
    simp only [Rp] at h2
    obtain ⟨ad, rfl, h3⟩ := h2
    split at h
    rotate_left
    · exact h.elim
    rename_i ds0 q0
    obtain ⟨xs0, g0, g0'⟩ := r.ob a ad _ h3 q0
    refine ⟨.ref ad, h1, ?_, ?_⟩
    · exact .inl ⟨rfl, xs0, SqL.of g0⟩
    · refine ls_of r s h fun v w1 y e1 r1 s1 h4 p1 => ?_
      split at p1
      · rename_i ds q2
        split at p1
        · rename_i hlen
          have h5 := e1.ix h3
          obtain ⟨xs, g1, g2⟩ := r1.ob a ad _ h5 q2
          refine ⟨ad, xs, y, rfl, rfl, g1, by rw [← g2.length, sizeLine_eq]; exact hlen, ?_⟩
          obtain ⟨r4, ex⟩ := set_rel (o' := .lst (ds ++ [v])) (h := .lst (xs ++ [y])) r1 h5 q2 (fun z => nomatch z) fun ex => ⟨_, upd_same, (RpL.ex ex _ _ g2).app (RpL.cons (Rp.ex ex _ _ h4) RpL.nil)⟩
          exact p1 _ σ rfl ex r4 (s1.ex ex)
        · exact p1.elim
      · exact p1.elim
  · exact h.elim
/-- x += e -/
theorem s_aug {o : BOp} {i : Nat} {x : Str} {px : Pos} (nd : X.N.Nodup) (hN : X.N[i]? = some x) (hl : Loc X.env.scope x) (hf : X.fn x = true ∨ X.env.scope.names.lookup x = some .local) (ho : o = .add ∨ o = .sub) (he : PE X e (LE F W fa)) :
    PS X (.AugAssign (.Name x px) (bopOf o) e pos) (LS F W fun ρ m => match ρ[i]? with
      | some (some (.int x)) => SO.of ρ (fa ρ m) fun v m => match augS o x v with
        | some d => .nx (ρ.set i (some d)) m
        | none => .stk
      | _ => .stk) := by
  have core : ∀ (f : Int → Int → Int), (∀ x v d, augS o x v = some d → ∃ y, v = .int y ∧ d = .int (f x y)) → ∀ E σ H, LS F W (fun ρ m => match ρ[i]? with
      | some (some (.int x)) => SO.of ρ (fa ρ m) fun v m => match augS o x v with
        | some d => .nx (ρ.set i (some d)) m
        | none => .stk
      | _ => .stk) E σ H → tAug i (LE F W fa) (ipI f) E σ H := by
    rintro f hf E σ H ⟨ρ, w, rfl, r, s, h⟩
    dsimp only at h
    split at h
    · rename_i k q
      obtain ⟨v, h1, h2⟩ := s.at_ i _ q
      simp only [Rp] at h2
      subst h2
      refine ⟨.int k, h1, ls_of r s h fun d w1 y e1 r1 s1 h3 p1 => ?_⟩
      split at p1
      · rename_i d' q2
        obtain ⟨z, rfl, rfl⟩ := hf _ _ _ q2
        simp only [RE, Rp] at h3
        subst h3
        exact ⟨_, _, rfl, rfl, p1 w1 _ rfl (Ex.refl w1) r1 (s1.set i (by simp only [Rp]))⟩
      · exact p1.elim
    · exact h.elim
  rcases ho with rfl | rfl
  · exact PSi (ps_aug nd hN hl he ip_add hf) (core _ fun x v d h => by cases v <;> simp [augS] at h; exact ⟨_, rfl, h.symm⟩)
  · exact PSi (ps_aug nd hN hl he ip_sub hf) (core _ fun x v d h => by cases v <;> simp [augS] at h; exact ⟨_, rfl, h.symm⟩)
end
end PL

set_option Elab.async false
set_option linter.all false
set_option maxRecDepth 100000
set_option maxHeartbeats 4000000
/-! PL.Kw: calls with keywords, with defaults. -/
namespace PL
open PySem L2 PySem.Spec PyProof.Rows
theorem plan_rel {F : Fx} {w : Wo} {ys : List D} {vs zs : List V} (h : RpL F w ys (vs ++ zs)) : ∀ {p : List (Nat ⊕ D)} {args : List D}, appPlan p ys = some args → RpL F w args (gPl p vs zs)
  | [], args, e => by simp only [appPlan, Option.some.injEq] at e; subst e; exact RpL.nil
  | .inl i :: p, args, e => by
    simp only [appPlan] at e
    split at e
    · rename_i y r q1 q2
      cases e
      obtain ⟨v, hv, rv⟩ := h.get q1
      refine RpL.cons ?_ (plan_rel h q2)
      show Rp F w y ((vs ++ zs).getD i .non)
      rw [List.getD_eq_getElem?_getD, hv]
      exact rv
    · cases e
  | .inr d :: p, args, e => by
    simp only [appPlan] at e
    split at e
    · obtain ⟨r, q, rfl⟩ := Option.map_eq_some_iff.mp e
      exact RpL.cons (by simp only [Rp]; rfl) (plan_rel h q)
    · obtain ⟨r, q, rfl⟩ := Option.map_eq_some_iff.mp e
      exact RpL.cons (by simp only [Rp]; rfl) (plan_rel h q)
    · cases e
section
variable {X : Cx} {CX : CXT} {k n : Nat} {f C : Addr} {fd : FuncData} {ps ks : List Str} {sp : Sp} {E : XK} {g : List Value → List Value → List Value} {gV : List V → List V → List V}
theorem run_fnKS {pins : List (Addr × Obj)} {σ : L2.St} {H : Hp} {s : Shared} {Q : VK} {us ws : List Value} {vs zs : List V} (G : FnOk X.prog X.w X.K X.mg X.base CX k f fd ps sp) (hr : Room k X.A) (hb : KBn X.K fd ps n ks g gV) (hx : PassesAt CX X σ E)
    (I : Inv X pins σ H s) (r : Vals vs us) (rz : Vals zs ws) (l1 : vs.length = n) (l2 : zs.length = ks.length) (h : sp (gV vs zs) H Q E) : wpAny (model X.prog X.w) X.A (call (.ref f) us (ks.zip ws)) (EP X pins σ Q) X.xe s := by
  have r2 := hb.rel r rz
  refine wpAny_call (codeAny_mono (G.run X.A X.stack s H ⟨us, ks.zip ws⟩ (g us ws) (gV vs zs) Q E hr I.env0 (hb.to s us ws I.kIn (r.length.symm.trans l1) (rz.length.symm.trans l2)) r2 h) fun r s' hq => ?_)
  cases r with
  | error e => exact hx pins H s e s' I hq
  | ok fl =>
    cases fl with
    | ret u => exact I.after hq
    | next => exact False.elim hq
    | brk => exact False.elim hq
    | cont => exact False.elim hq
theorem run_makeKS {pins : List (Addr × Obj)} {σ : L2.St} {H : Hp} {s : Shared} {Q : VK} {us ws : List Value} {vs zs : List V} (M : Mk X.K C f) (G : FnOk X.prog X.w X.K X.mg X.base CX k f fd ps sp) (hr : Room (k + 1) X.A) (hb : KBn X.K fd ps (n + 1) ks g gV) (hx : PassesAt CX X σ E)
    (I : Inv X pins σ H s) (r : Vals vs us) (rz : Vals zs ws) (l1 : vs.length = n) (l2 : zs.length = ks.length)
    (h : ∀ x dx, H x = none → H dx = none → dx ≠ x → sp (gV (.ref x :: vs) zs) (upd (upd H dx (.own x)) x (.ins C dx [])) (fun v H2 => v = .non ∧ Q (.ref x) H2) E) :
    wpAny (model X.prog X.w) X.A (call (.ref C) us (ks.zip ws)) (EP X pins σ Q) X.xe s := by
  have hq := h (s.heap.objs.size + 1) s.heap.objs.size (I.hok.fresh (Nat.le_succ _)) (I.hok.fresh (Nat.le_refl _)) (Nat.ne_of_lt (Nat.lt_succ_self _))
  have I2 := Inv.made (C := C) I
  have r1 : Vals (V.ref (s.heap.objs.size + 1) :: vs) (Value.ref (s.heap.objs.size + 1) :: us) := .cons rfl r
  have r2 := hb.rel r1 rz
  have n1 : (Value.ref (s.heap.objs.size + 1) :: us).length = n + 1 := by
    rw [List.length_cons, ← r.length, l1]
  refine wpAny_call (make_map (f := f) I.kIn M.makes M.init (beq_iff_eq.mp M.fn) (codeAny_mono (G.run _ X.stack _ _ ⟨Value.ref (s.heap.objs.size + 1) :: us, ks.zip ws⟩ (g (Value.ref (s.heap.objs.size + 1) :: us) ws) _ _ E (hr.make C us (ks.zip ws))
    (I2.env0.make C us (ks.zip ws)) (hb.to _ (Value.ref (s.heap.objs.size + 1) :: us) ws I2.kIn n1 (rz.length.symm.trans l2)) r2 hq) fun r s' hq' => ?_))
  cases r with
  | error e => exact hx pins _ _ e s' I2 hq'
  | ok fl =>
    cases fl with
    | ret u =>
      obtain ⟨v, H', I3, rv, ev, q3⟩ := I2.after hq'
      subst ev
      exact ⟨rv, ⟨V.ref (s.heap.objs.size + 1), H', I3, rfl, q3⟩⟩
    | next => exact False.elim hq'
    | brk => exact False.elim hq'
    | cont => exact False.elim hq'
theorem PKi {kws : List Keyword} {t t' : TA} (h : PK X kws t) (hi : ∀ σ H Q, t' σ H Q → t σ H Q) : PK X kws t' := ⟨fun pos pins s σ H Q I q => h.run pos pins s σ H Q I (hi σ H Q q)⟩
end
section
variable {T : Tb} {F : Fx} {Γ : Gam} {W : WXX} {X : Cx} {e : Expr} {es : List Expr} {kws : List Keyword} {fa fs fz : Env → Mem → Out D} {pos p kp : Pos} {nm : Option Str}
theorem k_nil : PK X [] (LA F W fun _ m => .ok (.tup []) m) :=
  PKi pk_nil fun σ H Q ⟨ρ, w, e, r, s, h⟩ => by subst e; exact h.ok r ⟨[], rfl, RpL.nil⟩
theorem k_cons (ha : PE X e (LE F W fa)) (hr : PK X kws (LA F W fs)) : PK X (⟨nm, e, kp⟩ :: kws) (LA F W fun ρ m => (fa ρ m).bind fun x m => (fs ρ m).bind fun y m => match y with
    | .tup ys => .ok (.tup (x :: ys)) m
    | _ => .stk) := by
  refine PKi (pk_cons ha hr) fun σ H Q ⟨ρ, w, e, r, s, h⟩ => ?_
  subst e
  refine lft_bind r s h fun x w1 v e1 r1 s1 h1 p1 => ?_
  refine lft_bind r1 s1 p1 fun y w2 vs e2 r2 s2 h2 p2 => ?_
  obtain ⟨ds, rfl, h3⟩ := h2
  exact Post.ok (R := RA F) p2 r2 ⟨_, rfl, RpL.cons (Rp.ex e2 _ _ h1) h3⟩
/-- the names of the keywords, none of them ** -/
def kwNames (ks : List String) : List Keyword → Bool
  | [] => ks.isEmpty
  | ⟨some x, _, _⟩ :: r => match ks with
    | k :: ks => decide (x = so k) && kwNames ks r
    | [] => false
  | ⟨none, _, _⟩ :: _ => false
theorem kwN_ok (pos : Pos) (env : PySem.Env) : ∀ {ks : List String} {kws : List Keyword}, kwNames ks kws = true → (backToKw pos (keywordEach kws env)).all (·.1.isSome) = true ∧ (backToKw pos (keywordEach kws env)).filterMap (·.1) = ks.map so ∧ (backToKw pos (keywordEach kws env)).any (·.1.isNone) = false
  | ks, [], h => by
    simp only [kwNames, List.isEmpty_iff] at h
    subst h
    exact ⟨rfl, rfl, rfl⟩
  | k :: ks, ⟨some x, v, p⟩ :: r, h => by
    simp only [kwNames, Bool.and_eq_true, decide_eq_true_eq] at h
    obtain ⟨rfl, h⟩ := h
    obtain ⟨h1, h2, h3⟩ := kwN_ok pos env h
    refine ⟨?_, ?_, ?_⟩
    · show (true && (backToKw pos (keywordEach r env)).all (·.1.isSome)) = true
      rw [h1]; rfl
    · show so k :: (backToKw pos (keywordEach r env)).filterMap (·.1) = _
      rw [h2]; rfl
    · show (false || (backToKw pos (keywordEach r env)).any (·.1.isNone)) = false
      rw [h3]; rfl
  | [], ⟨some x, v, p⟩ :: r, h => by simp [kwNames] at h
  | _, ⟨none, v, p⟩ :: r, h => by simp [kwNames] at h
theorem callWithK {k : Addr} {ks : List String} (I : PySem.W.keepIn X.K (.ref k) = true) (hst : es.all noStar = true) (hks : kwNames ks kws = true) (ha : PA X es (LA F W fs)) (hz : PK X kws (LA F W fz)) (hn : es = [] → fs = fun _ m => .ok (.tup []) m) {pins : List (Addr × Obj)} {s : Shared} {σ : L2.St} {H : Hp} {Q : Value → Shared → Prop} (J : Inv X pins σ H s) {R : List V → List V → Hp → Prop} (h : LA F W fs σ H fun vs H1 => LA F W fz σ H1 fun zs H2 => R vs zs H2)
    (hr : ∀ us vs ws zs H1 s1, Inv X pins σ H1 s1 → Vals vs us → Vals zs ws → R vs zs H1 → wpAny (model X.prog X.w) X.A (call (.ref k) us ((ks.map so).zip ws)) Q X.xe s1) :
    wpAny (model X.prog X.w) X.A (callWith pos (.ref k) [] (backTo pos (starEach es X.env)) (backToKw pos (keywordEach kws X.env))) Q X.xe s := by
  obtain ⟨k1, k2, k3⟩ := kwN_ok pos X.env hks
  have two : ∀ us vs H1 s1, Inv X pins σ H1 s1 → Vals vs us → LA F W fz σ H1 (fun zs H2 => R vs zs H2) → wpAny (model X.prog X.w) X.A (evalAll ((backToKw pos (keywordEach kws X.env)).map (·.2))) (fun ws s₂ => X.K.In s₂.heap ∧ wpAny (model X.prog X.w) X.A (call (.ref k) ([] ++ us) (((backToKw pos (keywordEach kws X.env)).filterMap (·.1)).zip ws)) Q X.xe s₂) X.xe s1 := fun us vs H1 s1 I1 rv q => by
    refine thn (hz.run pos pins s1 σ H1 _ I1 q) fun ws s2 ⟨zs, H2, I2, rz, q2⟩ => ⟨I2.kIn, ?_⟩
    rw [k2]
    exact hr us vs ws zs H2 s2 I2 rv rz q2
  cases es with
  | nil =>
    have hn := hn rfl
    subst hn
    obtain ⟨ρ, w, e, r, s0, h⟩ := h
    subst e
    refine PySem.W.callWith_KW0 (h₀ := X.base) J.ok.mod.kin I k1 ?_ (by rw [k3]; rfl)
    exact two [] [] _ s J .nil (h.ok r ⟨[], rfl, RpL.nil⟩)
  | cons a as =>
    have hst' := hst
    rw [List.all_cons, Bool.and_eq_true] at hst
    have hany := star_any pos X.env (a :: as) hst'
    refine PySem.W.callWith_KW (h₀ := X.base) J.ok.mod.kin I k1 (thn (ha.run pos pins s σ H _ J h) fun us s1 ⟨vs, H1, I1, rv, q⟩ => two us vs H1 s1 I1 rv q) (by rw [hany, k3]; rfl) (star_cons hst.1 as X.env)
theorem callWithKF {k : Addr} {ks : List String} {first : List Value} (I : PySem.W.keepIn X.K (.ref k) = true) (hst : es.all noStar = true) (hks : kwNames ks kws = true) (ha : PA X es (LA F W fs)) (hz : PK X kws (LA F W fz)) (hn : es = [] → fs = fun _ m => .ok (.tup []) m) {pins : List (Addr × Obj)} {s : Shared} {σ : L2.St} {H : Hp} {Q : Value → Shared → Prop} (J : Inv X pins σ H s) {R : List V → List V → Hp → Prop} (h : LA F W fs σ H fun vs H1 => LA F W fz σ H1 fun zs H2 => R vs zs H2)
    (hr : ∀ us vs ws zs H1 s1, Inv X pins σ H1 s1 → Vals vs us → Vals zs ws → R vs zs H1 → wpAny (model X.prog X.w) X.A (call (.ref k) (first ++ us) ((ks.map so).zip ws)) Q X.xe s1) :
    wpAny (model X.prog X.w) X.A (callWith pos (.ref k) first (backTo pos (starEach es X.env)) (backToKw pos (keywordEach kws X.env))) Q X.xe s := by
  obtain ⟨k1, k2, k3⟩ := kwN_ok pos X.env hks
  have behind : ∀ us vs H1 s1, Inv X pins σ H1 s1 → Vals vs us → LA F W fz σ H1 (fun zs H2 => R vs zs H2) → wpAny (model X.prog X.w) X.A (evalAll ((backToKw pos (keywordEach kws X.env)).map (·.2))) (fun ws s₂ => X.K.In s₂.heap ∧ wpAny (model X.prog X.w) X.A (call (.ref k) (first ++ us) (((backToKw pos (keywordEach kws X.env)).filterMap (·.1)).zip ws)) Q X.xe s₂) X.xe s1 := fun us vs H1 s1 I1 rv q => by
    rw [k2]
    exact thn (hz.run pos pins s1 σ H1 _ I1 q) fun ws s2 ⟨zs, H2, I2, rz, q2⟩ => ⟨I2.kIn, hr us vs ws zs H2 s2 I2 rv rz q2⟩
  cases es with
  | nil =>
    obtain rfl := hn rfl
    obtain ⟨ρ, w, e, r, s0, h⟩ := h
    subst e
    have b0 := behind [] [] _ s J .nil (h.ok r ⟨[], rfl, RpL.nil⟩)
    exact PySem.W.callWith_KW0 (first := first) (h₀ := X.base) J.ok.mod.kin I k1 (by simpa using b0) (by rw [k3]; rfl)
  | cons a as =>
    have hany := star_any pos X.env (a :: as) hst
    rw [List.all_cons, Bool.and_eq_true] at hst
    exact PySem.W.callWith_KW (first := first) (h₀ := X.base) J.ok.mod.kin I k1 (thn (ha.run pos pins s σ H _ J h) fun us s1 ⟨vs, H1, I1, rv, q⟩ => behind us vs H1 s1 I1 rv q) (by rw [hany, k3]; rfl) (star_cons hst.1 as X.env)
theorem meth_formK {o : Expr} {m : Str} {apos : Pos} {env : PySem.Env} (h1 : noSup o = true ∧ (es ≠ [] ∨ kws ≠ [] ∨ True)) (h2 : es.all noStar = true) {ks : List String} (hk : kwNames ks kws = true) (h3 : es.length + kws.length + 1 < 30) (h4 : (apos.endLine == pos.line) = true) :
    eval (.Call (.Attribute o m apos) es kws pos) env = (do
      let ov ← eval o env
      standAt apos.atName
      let (f, first) ← holding [ov] (getMethod ov m (do return (← importBound o env).getD true))
      callWith pos f first (backTo pos (starEach es env)) (backToKw pos (keywordEach kws env))) := by
  obtain ⟨k1, _, _⟩ := kwN_ok pos env hk
  show (do
    let ov ← attributeBase o m env (eval o env)
    standAt apos.atName
    methodCall o m apos pos env ov (es.length + kws.length) (backTo pos (starEach es env)) (backToKw pos (keywordEach kws env))) = _
  rw [base_any h1.1]
  have hf : methodCallForm (es.length + kws.length) (backTo pos (starEach es env)) (backToKw pos (keywordEach kws env)) = true := by
    unfold methodCallForm
    rw [star_all pos env es h2, k1]
    simp only [Bool.and_self, Bool.true_and, decide_eq_true_eq]
    split <;> omega
  unfold methodCall
  rw [hf]
  unfold calleeOf methodCallPos
  simp only [h4, Bool.not_true, Bool.false_or, if_true]
  rfl
theorem p_methk (C : Cok T F Γ W X) {n : String} {j lv : Nat} {ks : List String} {nX : Str} {apos : Pos} (hx : nX = so n) (hf : T.ml n = some lv) (hs : noSup e = true) (hst : es.all noStar = true) (hl : es.length + kws.length + 1 < 30) (hp : (apos.endLine == pos.line) = true) (hks : kwNames ks kws = true) (ho : PE X e (LE F W fa)) (ha : PA X es (LA F W fs)) (hz : PK X kws (LA F W fz)) (hn : es = [] → fs = fun _ m => .ok (.tup []) m) :
    PE X (.Call (.Attribute e nX apos) es kws pos) (LE F W fun ρ m => (fa ρ m).bind fun x m => match (clsOf m x).bind fun C => Γ.meth C n with
      | some f => if hasA m n x then .stk else (fs ρ m).bind fun y m => (fz ρ m).bind fun z m => match y, z with
        | .tup ys, .tup zs => match (Γ.plan f (j + 1) ks).bind fun p => appPlan p (x :: (ys ++ zs)) with
          | some args => if ys.length = j ∧ zs.length = ks.length then Γ.fn f args m else .stk
          | none => .stk
        | _, _ => .stk
      | none => .stk) := by
  subst hx
  obtain ⟨hlv, hG⟩ := C.meth n lv hf
  have hK := C.hK
  refine ⟨fun pins s σ H Q I h => ?_⟩
  obtain ⟨ρ, w, e0, r, s0, h⟩ := h
  subst e0
  refine PySem.W.methodCall_KW (thn (ho.run pins s σ w.H (fun v H1 => ∃ w1 x, w1.H = H1 ∧ Rel F w1 ∧ SR F w1 ρ σ ∧ Rp F w1 x v ∧ Post F (RE F) W σ w1 (match (clsOf w1.m x).bind fun C => Γ.meth C n with
      | some f => if hasA w1.m n x then .stk else (fs ρ w1.m).bind fun y m => (fz ρ m).bind fun z m => match y, z with
        | .tup ys, .tup zs => match (Γ.plan f (j + 1) ks).bind fun p => appPlan p (x :: (ys ++ zs)) with
          | some args => if ys.length = j ∧ zs.length = ks.length then Γ.fn f args m else .stk
          | none => .stk
        | _, _ => .stk
      | none => .stk) Q) I (lft_bind r s0 h fun x w1 v e1 r1 s1 h1 p1 => ⟨w1, x, rfl, r1, s1, h1, p1⟩)) fun u s1 hh => ?_) (meth_formK ⟨hs, .inr (.inr trivial)⟩ hst hks hl hp)
  obtain ⟨v, H1, I1, rv, w1, x, e1, r1, s01, h1, p1⟩ := hh
  subst e1
  split at p1
  · rename_i f q
    obtain ⟨c, hc, hm⟩ := Option.bind_eq_some_iff.mp q
    split at p1
    · exact p1.elim
    · rename_i hA
      obtain ⟨ad, A, dx, fls, rfl, h2, h3, h4⟩ := ins_of r1 h1 hc
      obtain rfl : u = Value.ref ad := rv
      have qc := C.ac.cls c A h2
      obtain ⟨g, hg, M⟩ := qc.me n f hm
      obtain ⟨g', fd, ps, hg', hfd, G, B⟩ := hG c f hm (by rw [h2]; simp)
      rw [hg] at hg'
      cases hg'
      refine getmeth_ok I1 h3 (hK ▸ qc.cl) (hK ▸ M) (noA r1 h1 hc h3 hA) ?_
      refine callWithKF (first := [.ref ad]) (R := fun vs zs H2 => ∃ p, Γ.plan f (j + 1) ks = some p ∧ vs.length = j ∧ zs.length = ks.length ∧ LSp F (Γ.fn f) (gPl p (.ref ad :: vs) zs) H2 Q (WE W σ)) (hK ▸ M.kp) hst hks ha hz hn I1 ?_ fun us vs ws zs H2 s2 I2 rv rz ⟨pl, b1, b2, b3, b4⟩ => ?_
      · refine lft_bind r1 s01 p1 fun y w2 vs e2 r2 s2 h5 p2 => ?_
        refine lft_bind r2 s2 p2 fun z w3 zs e3 r3 s3 h6 p3 => ?_
        obtain ⟨ds, rfl, h7⟩ := h5
        obtain ⟨es, rfl, h8⟩ := h6
        dsimp only at p3
        split at p3
        · rename_i args qa
          obtain ⟨pl, q1, q2⟩ := Option.bind_eq_some_iff.mp qa
          split at p3
          · rename_i hlen
            have h9 := RpL.ex e3 _ _ h7
            exact ⟨pl, q1, by rw [← h9.length]; exact hlen.1, by rw [← h8.length]; exact hlen.2, lsp_of r3 (plan_rel (RpL.cons (Rp.ex (e2.trans e3) _ _ h1) (h9.app h8)) q2) p3⟩
          · exact p3.elim
        · exact p3.elim
      · obtain ⟨fd', ps', g2, e5, KB⟩ := C.plan f (j + 1) ks pl b1
        rw [hfd] at e5
        cases e5
        exact run_fnKS (E := WE W σ) (us := .ref ad :: us) (vs := .ref ad :: vs) (hK ▸ G) (C.room.mono hlv) (hK ▸ KB) (passAt C.tk σ) I2 (.cons rfl rv) rz (by rw [List.length_cons, b2]) (by rw [List.length_map]; exact b3) b4
  · exact p1.elim
theorem p_callk (C : Cok T F Γ W X) {f : String} {n lv : Nat} {ks : List String} {x : Str} (hx : x = so f) (hf : T.fl f = some lv) (hg : glo X.env.scope x = true) (hd : (x == ("__debug__" : Str)) = false) (hst : es.all noStar = true) (hks : kwNames ks kws = true) (ha : PA X es (LA F W fs)) (hz : PK X kws (LA F W fz)) (hn : es = [] → fs = fun _ m => .ok (.tup []) m) :
    PE X (.Call (.Name x p) es kws pos) (LE F W fun ρ m => (fs ρ m).bind fun y m => (fz ρ m).bind fun z m => match y, z with
      | .tup ys, .tup zs => match (Γ.plan f n ks).bind fun p => appPlan p (ys ++ zs) with
        | some args => if ys.length = n ∧ zs.length = ks.length then Γ.fn f args m else .stk
        | none => .stk
      | _, _ => .stk) := by
  subst hx
  obtain ⟨hlv, a, hm, hfa, hk, a', fd, ps, hfa', hfd, G, B⟩ := C.glob f lv hf
  rw [hfa] at hfa'
  cases hfa'
  have hK := C.hK
  refine ⟨fun pins s σ H Q I h => ?_⟩
  refine wpAny_Call_Name_kw (ld_glob I (glo_ok hg) hm ?_ hd)
  refine callWithK (R := fun vs zs H2 => ∃ p, Γ.plan f n ks = some p ∧ vs.length = n ∧ zs.length = ks.length ∧ LSp F (Γ.fn f) (gPl p vs zs) H2 Q (WE W σ)) hk hst hks ha hz hn I ?_ fun us vs ws zs H1 s1 I1 rv rz ⟨pl, h1, h2, h3, h4⟩ => ?_
  · obtain ⟨ρ, w, e, r, s0, h⟩ := h
    subst e
    refine lft_bind r s0 h fun y w1 vs e1 r1 s1 h1 p1 => ?_
    refine lft_bind r1 s1 p1 fun z w2 zs e2 r2 s2 h2 p2 => ?_
    obtain ⟨ds, rfl, h3⟩ := h1
    obtain ⟨es, rfl, h4⟩ := h2
    dsimp only at p2
    split at p2
    · rename_i args q
      obtain ⟨pl, q1, q2⟩ := Option.bind_eq_some_iff.mp q
      split at p2
      · rename_i hl
        have h3 := RpL.ex e2 _ _ h3
        exact ⟨pl, q1, by rw [← h3.length]; exact hl.1, by rw [← h4.length]; exact hl.2, lsp_of r2 (plan_rel (h3.app h4) q2) p2⟩
      · exact p2.elim
    · exact p2.elim
  · obtain ⟨fd', ps', g, e1, KB⟩ := C.plan f n ks pl h1
    rw [hfd] at e1
    cases e1
    exact run_fnKS (E := WE W σ) (hK ▸ G) (C.room.mono hlv) (hK ▸ KB) (passAt C.tk σ) I1 rv rz h2 (by rw [List.length_map]; exact h3) h4
theorem p_makek (Co : Cok T F Γ W X) {C : String} {n lv : Nat} {ks : List String} {x : Str} (hx : x = so C) (hf : T.cl C = some lv) (hg : glo X.env.scope x = true) (hd : (x == ("__debug__" : Str)) = false) (hst : es.all noStar = true) (hks : kwNames ks kws = true) (ha : PA X es (LA F W fs)) (hz : PK X kws (LA F W fz)) (hn : es = [] → fs = fun _ m => .ok (.tup []) m) :
    PE X (.Call (.Name x p) es kws pos) (LE F W fun ρ m => (fs ρ m).bind fun y m => (fz ρ m).bind fun z m => match y, z with
      | .tup ys, .tup zs => match Γ.meth C "__init__" with
       | some f => match (Γ.plan f (n + 1) ks).bind fun p => appPlan p (.ref m.length :: (ys ++ zs)) with
        | some args => if ys.length = n ∧ zs.length = ks.length then (Γ.fn f args (m ++ [.ins C [] []])).bind fun d m2 => match d, m2[m.length]? with
          | .non, some (.ins C' ns ds) => if C' = C ∧ cutOk m m2 ∧ D.rbL m.length ds = true then .ok (.obj C ns ds) (m2.take m.length) else .stk
          | _, _ => .stk
         else .stk
        | none => .stk
       | none => .stk
      | _, _ => .stk) := by
  subst hx
  obtain ⟨hlv, A, hA, hm, g, f, hi, hfa, M, a', fd, ps, hfa', hfd, G, B⟩ := Co.make C lv hf
  rw [hfa] at hfa'
  cases hfa'
  have hK := Co.hK
  refine ⟨fun pins s σ H Q I h => ?_⟩
  refine wpAny_Call_Name_kw (ld_glob I (glo_ok hg) hm ?_ hd)
  refine callWithK (R := fun vs zs H1 => ∃ p, Γ.plan g (n + 1) ks = some p ∧ vs.length = n ∧ zs.length = ks.length ∧ ∀ x dx, H1 x = none → H1 dx = none → dx ≠ x → LSp F (Γ.fn g) (gPl p (.ref x :: vs) zs) (upd (upd H1 dx (.own x)) x (.ins A dx [])) (fun v H2 => v = .non ∧ Q (.ref x) H2) (WE W σ)) M.kp hst hks ha hz hn I ?_ fun us vs ws zs H1 s1 I1 rv rz ⟨pl, h1, h2, h3, h4⟩ => ?_
  · obtain ⟨ρ, w, e, r, s0, h⟩ := h
    subst e
    refine lft_bind r s0 h fun y w0 vs e0 r0 s00 h1 p1 => ?_
    refine lft_bind r0 s00 p1 fun z w1 zs e1 r1 s1 h2 p1 => ?_
    obtain ⟨ds, rfl, h3⟩ := h1
    obtain ⟨es, rfl, h4⟩ := h2
    have h3 := RpL.ex e1 _ _ h3
    dsimp only at p1
    rw [hi] at p1
    dsimp only at p1
    split at p1
    rotate_left
    · exact p1.elim
    rename_i args q
    obtain ⟨pl, q1, q2⟩ := Option.bind_eq_some_iff.mp q
    split at p1
    rotate_left
    · exact p1.elim
    rename_i hl
    refine ⟨pl, q1, by rw [← h3.length]; exact hl.1, by rw [← h4.length]; exact hl.2, ?_⟩
    intro x dx hx hdx hne
    obtain ⟨r2, e2⟩ := add_rel (C := C) r1 hx hdx hne hA
    have hself : Rp F (wadd w1 x dx A C) (.ref w1.m.length) (.ref x) := by
      simp only [Rp]
      refine ⟨x, rfl, ?_⟩
      show (w1.ι ++ [x])[w1.m.length]? = some x
      rw [← r1.len]
      simp
    refine lsp_of (w := wadd w1 x dx A C) r2 (plan_rel (ys := .ref w1.m.length :: (ds ++ es)) (RpL.cons hself (RpL.ex e2 _ _ (h3.app h4))) q2) ?_
    show Post F (RE F) W σ (wadd w1 x dx A C) (Γ.fn g args (w1.m ++ [.ins C [] []])) _
    cases q0 : Γ.fn g args (w1.m ++ [.ins C [] []]) with
    | stk => rw [q0] at p1; exact p1.elim
    | err x m =>
      rw [q0] at p1
      exact fun w' c dd h1 h2 h3 h4 => p1 w' c dd h1 (e2.trans h2) h3 h4
    | ok d m2 =>
      rw [q0] at p1
      intro w3 v hm3 e3 r3 h3
      subst hm3
      dsimp only [Out.bind] at p1
      split at p1
      · rename_i C' ns ds' q
        split at p1
        · rename_i c
          obtain ⟨c1, c2, c3⟩ := c
          subst c1
          simp only [RE, Rp] at h3
          subst h3
          refine ⟨rfl, ?_⟩
          have e13 : Ex w1 w3 := e2.trans e3
          obtain ⟨r4, e4⟩ := cut_rel r1 r3 e13 c2
          have hix : w3.ι[w1.m.length]? = some x := by
            refine e3.ix ?_
            show (w1.ι ++ [x])[w1.m.length]? = some x
            rw [← r1.len]
            simp
          obtain ⟨A', dx', fls, xs, q1, q2, q3, q4, q5⟩ := r3.ob _ _ _ hix q
          refine p1 (wcut w1 w3) _ rfl e4 r4 ?_
          simp only [RE, Rp]
          exact ⟨x, A', dx', fls, xs, rfl, q1, q2, nlv_cut r1 r3 e13 (Nat.le_refl _) hix q (fun z => nomatch z), q3, q4, RpL.cut r1 e13 _ _ c3 q5⟩
        · exact p1.elim
      · exact p1.elim
  · obtain ⟨fd', ps', g', e1, KB⟩ := Co.plan g (n + 1) ks pl h1
    rw [hfd] at e1
    cases e1
    exact run_makeKS (E := WE W σ) M (hK ▸ G) (Co.room.mono hlv) (hK ▸ KB) (passAt Co.tk σ) I1 rv rz h2 (by rw [List.length_map]; exact h3) h4
end
end PL

set_option Elab.async false
set_option linter.all false
set_option maxRecDepth 100000
set_option maxHeartbeats 4000000
/-! SX5: try/except that keeps the exception as a value. -/
namespace PLX
open PySem PySem.Spec PyProof.Rows L2 PL
section
variable {X : Cx} {pins : List (Addr × Obj)} {σ : L2.St} {H : Hp} {t r : Shared}
/-- what is new and lies there is known from now on -/
theorem inv_hold {G : Heap} {a C dd : Addr} {oe : Obj} {vs : Array Value} (J : Inv X pins σ H t) (I : Inv X pins σ H r) (ng : ∀ b o, t.heap.get? b = some o → b ∉ frs X.stack → G.get? b = some o) (ga : G.get? a = none) (na : H a = none) (nf : a ∉ frs X.stack)
    (he : r.heap.get? a = some oe) (hz : Zc (.ref C) (some dd) oe) (hv : oe.data = .fields vs) : Inv X pins σ (upd H a (ExcO a C dd)) r := by
  have nt : ∀ o, ¬ t.heap.get? a = some o := fun o q => by
    have z := ng a o q nf
    rw [ga] at z
    cases z
  have n0 : ∀ b o, X.s_0.heap.get? b = some o → b ∉ X.ex → b ≠ a := fun b o q hx z => by
    obtain ⟨o', q'⟩ := J.base.there b o q hx
    exact nt o' (z ▸ q')
  have sm : ∀ b u, H b = some u → b ≠ a := fun b u q => ne_of_none q na
  have nL : X.env.locals ≠ a := fun z => by
    obtain ⟨m, ⟨o, _, _, ho, _⟩, _⟩ := J.loc
    exact nt o (z ▸ ho)
  have nC : ∀ x c, X.env.cells.lookup x = some c → c ≠ a := fun x c q z => by
    obtain ⟨v, o, ho, _⟩ := J.cell x c q
    exact nt o (z ▸ ho)
  refine ⟨I.ok, I.os, I.bare, ⟨I.base.keep, I.base.slot, fun b o q n hx => ?_, I.base.there, fun b xs q => ?_, fun b o u q => ?_, fun b ps q => ?_⟩, I.loc, I.cell, ?_, fun x c q => ?_, fun p hp => ?_, fun b u q => ?_, I.len⟩
  · rw [upd_ne (n0 b o q hx)]; exact I.base.free b o q n hx
  · have z := I.base.tups b xs q
    rw [upd_ne (sm b _ z)]; exact z
  · have z := I.base.frzs b o u q
    rw [upd_ne (sm b _ z)]; exact z
  · obtain ⟨more, z⟩ := I.base.tbls b ps q
    exact ⟨more, by rw [upd_ne (sm b _ z)]; exact z⟩
  · rw [upd_ne nL]; exact I.free
  · rw [upd_ne (nC x c q)]; exact I.freeC x c q
  · obtain ⟨e1, e2, e3⟩ := I.pin p hp
    have np : p.1 ≠ a := fun z => nt _ (z ▸ (J.pin p hp).1)
    exact ⟨e1, by rw [upd_ne np]; exact e2, e3⟩
  · by_cases hb : b = a
    · rw [hb, upd_same] at q
      cases q
      rw [hb]
      exact ⟨⟨oe, vs, he, hz.1, hz.2, hv⟩, ⟨oe, he⟩, fun h1 h2 ⟨o, ws, z1, z2, z3, z4⟩ st => ⟨o, ws, st _ z1, z2, z3, z4⟩⟩
    · rw [upd_ne hb] at q
      exact (I.hok b u q).stay (fun _ _ _ z => z) (fun d z => by rw [upd_ne (sm d _ z)]; exact z) fun d xs z => by rw [upd_ne (sm d _ z)]; exact z
theorem inv_suite (I : Inv X pins σ H r) (a : Addr) : Inv (X.suite a (X.pn ++ pins)) [] σ H r :=
  ⟨I.ok.suite _ _, I.os, I.bare, I.base, I.loc, I.cell, I.free, I.freeC, fun p hp => by rw [List.append_nil] at hp; exact I.pin p hp, I.hok, I.len⟩
theorem inv_back {a : Addr} {pn' : List (Addr × Obj)} (I : Inv (X.suite a (X.pn ++ pins)) pn' σ H r) (ok : X.Ok) : Inv X pins σ H r :=
  ⟨ok, I.os, I.bare, I.base, I.loc, I.cell, I.free, I.freeC, fun p hp => I.pin p (List.mem_append_left _ hp), I.hok, I.len⟩
end
/-- except c as n: .. : the exception is kept in slot i -/
def wHold (K : PySem.W.Frag) (n : Nat) (c : Value) (i : Nat) (ts : Addr → TS) (D : Ends) : WX := fun cls d σ H => σ.length = n →
  PySem.W.exmOne K cls c = some true ∧ ∃ C dd, cls = .ref C ∧ d = some dd ∧ ∀ a, H a = none → ts a { nx := fun σ' H' => D.nx (σ'.set i none) H', rt := D.rt, bk := fun σ' H' => D.bk (σ'.set i none) H', ct := fun σ' H' => D.ct (σ'.set i none) H' } (σ.set i (some (.ref a))) (upd H a (ExcO a C dd))
section
variable {X : Cx} {x n : Str} {c : Value} {i : Nat} {body more : List Stmt} {b0 : Stmt} {np pos pos' : Pos} {tb : WX → TS} {ts : Addr → TS}
theorem ps_try_hold (hs : X.stack = X.env :: X.outer) (hf : X.env.frame = some X.env.locals) (nd : X.N.Nodup) (hi : X.N[i]? = some n) (hln : X.env.kindOf n = some .local) (hc : Names X x c)
    (hb : ∀ (W : WX) (pn : List (Addr × Obj)) (xe : Value → Shared → Prop), Takes (X.tr pn xe) W → PassesOwn (model X.prog X.w) X.A X.env xe → PSs (X.tr pn xe) body (tb W))
    (hsu : ∀ (a : Addr) (pn : List (Addr × Obj)), PSs (X.suite a pn) (b0 :: more) (ts a)) :
    PS X (.Try body [.ExceptHandler (some (.Name x np)) (some n) (b0 :: more) pos'] [] [] pos) (fun D σ H => tb (wHold X.K X.N.length c i ts D) D σ H) := by
  refine ⟨fun pins s σ H D I h => ?_⟩
  have ok := I.ok
  have af : X.A.frames = some (X.env :: X.outer) := by rw [ok.frames, hs]
  refine wpAny_Try_except (wpAny_mono ((hb (wHold X.K X.N.length c i ts D) (X.pn ++ pins) (fun e q1 => wpAny (model X.prog X.w) X.A (noteFrame e X.env) (fun _ q2 => wpAny (model X.prog X.w) X.A (setFlight e none) (fun _ q3 =>
    wpAny (model X.prog X.w) X.A (handleBy e X.env [.ExceptHandler (some (.Name x np)) (some n) (b0 :: more) pos']) (SP X pins D) X.xe q3) X.xe q2) X.xe q1) (fun u r z => ?_) PassesOwn.looking).run [] s σ H D (I.toTry _) h) (fun f r hf' => ?_) (fun e r z => z))
  · obtain ⟨a, G, t, pins', σ', H', cls, d, rfl, J', ng, up, sky, na, os, ag, hw⟩ := z
    have J : Inv X pins σ' H' t := J'.ofTry ok
    obtain ⟨hex, C, dd, rfl, rfl, hq⟩ := hw J.len
    show wpAny (model X.prog X.w) X.A (noteFrame (.ref a) X.env) _ _ _
    refine Sky.land Zc.steady af hf (by rw [← hs]; exact sky) fun h3 fl3 up3 => ?_
    have J3 : Inv X pins σ' H' { r with heap := h3 } := J.landed ng fl3.1 (up.trans up3) os ag
    obtain ⟨o3, v3, e3, z3, d3⟩ := fl3.there
    have nfr : a ∉ frs X.stack := fun hm => by
      rw [hs] at hm
      obtain ⟨_, o', e', hnf⟩ := fl3.2.2.1.mem hm
      rw [e3] at e'
      cases e'
      exact hnf _ d3
    refine wpAny_handleBy_cons (codeAny_handlers_test ?_) (by intro q; cases q)
    have look : PySem.W.Looks (model X.prog X.w) h3 (typeOf (.ref a)) (.ref C) := fun A' Q' E' s' k q => wpAny_typeOf_ref (k _ _ e3) (by rw [z3.1]; exact q)
    have S3 := inv_suite J3 a
    have hit := PySem.W.exm_one (M := model X.prog X.w) J3.kIn look hex
    have test : ∀ {Q' : Value → Shared → Prop} {E' : Value → Shared → Prop}, Q' c { r with heap := h3 } → wpAny (model X.prog X.w) (X.A.mark (some (.ref a))) (eval (.Name x np) X.env) Q' E' { r with heap := h3 } := fun {Q' E'} q => by
      obtain ⟨hg, hdbg, hm | ⟨hm, hv, hnn⟩⟩ := hc
      · exact ld_glob (X := X.suite a (X.pn ++ pins)) S3 hg hm q hdbg
      · exact ld_blt (X := X.suite a (X.pn ++ pins)) S3 hg hm hv q hnn hdbg
    refine test (hit.here (codeAny_handlers_suite_as (HandSPX.lands_againZ fl3 fun h4 fl4 up4 => ?_)))
    have J4 : Inv X pins σ' H' { r with heap := h4 } := J.landed ng fl4.1 ((up.trans up3).trans up4) os ag
    obtain ⟨o4, v4, e4, z4, d4⟩ := fl4.there
    have S4 := inv_suite (inv_hold J J4 ng fl4.2.1 na nfr e4 z4 d4) a
    refine store_ok (X := X.suite a (X.pn ++ pins)) (v := .ref a) S4 nd hi (.inl hln) rfl (fun s5 S5 => ?_) (.inr hln)
    refine wpAny_mono ((hsu a (X.pn ++ pins)).run [] s5 _ _ _ S5 (hq a na)) (fun f s6 q6 => ?_) (fun _ _ z => False.elim z)
    have fin : ∀ {σ6 : L2.St} {H6 : Hp} {Q' : Shared → Prop}, Inv (X.suite a (X.pn ++ pins)) [] σ6 H6 s6 → (∀ s7, Inv X pins (σ6.set i none) H6 s7 → Q' s7) → wpAny (model X.prog X.w) X.A (do bindName X.env n .none; unbindBehindTheSuite X.env n pos') (fun _ s7 => Q' s7) X.xe s6 :=
      fun {σ6 H6 Q'} S6 hq => gone_ok (inv_back S6 ok) nd hi hln hq
    cases f with
    | ret u => obtain ⟨v6, σ6, H6, S6, r6, q6⟩ := q6; exact fin S6 fun s7 J7 => ⟨_, _, _, J7, r6, q6⟩
    | next => obtain ⟨σ6, H6, S6, q6⟩ := q6; exact fin S6 fun s7 J7 => ⟨_, _, J7, q6⟩
    | brk => obtain ⟨σ6, H6, S6, q6⟩ := q6; exact fin S6 fun s7 J7 => ⟨_, _, J7, q6⟩
    | cont => obtain ⟨σ6, H6, S6, q6⟩ := q6; exact fin S6 fun s7 J7 => ⟨_, _, J7, q6⟩
  · cases f with
    | ret u => obtain ⟨v, σ', H', J', rv, q⟩ := hf'; exact ⟨v, σ', H', J'.ofTry ok, rv, q⟩
    | next => obtain ⟨σ', H', J', q⟩ := hf'; exact wpAny_execs_nil ⟨σ', H', J'.ofTry ok, q⟩
    | brk => obtain ⟨σ', H', J', q⟩ := hf'; exact ⟨σ', H', J'.ofTry ok, q⟩
    | cont => obtain ⟨σ', H', J', q⟩ := hf'; exact ⟨σ', H', J'.ofTry ok, q⟩
end
end PLX

set_option Elab.async false
set_option linter.all false
set_option maxRecDepth 100000
set_option maxHeartbeats 4000000
/-! PL.Lam: a lambda with one parameter that has a default, handed to a def that calls it. -/
namespace LamD
open PySem PySem.Spec PyProof.Rows L2 LamX
/-- its parameters -/
abbrev parD (a1 : Str) (z : Int) (j : Nat) (pa pz : Pos) : Arguments := ⟨[], [⟨a1, none, pa⟩], none, [], [], none, [.Constant (.int z) j pz]⟩
/-- its scope: the parameter, captured names, globals -/
structure ScD (sc scope : Scope) (a1 : Str) : Prop where
  kind : scope.kind = .function
  co : scope.isCoroutine = false
  gen : scope.isGenerator = false
  own : ∀ y ∈ scope.names, y.2 ≠ .cell ∧ (y.2 = .local → y.1 = a1)
  par : scope.names.lookup a1 = some .local
  free : ∀ y ∈ scope.names, y.2 = .free → sc.names.lookup y.1 = some .cell ∨ sc.names.lookup y.1 = some .free
def scDB (sc scope : Scope) (a1 : Str) : Bool :=
  decide (scope.kind = .function) && !scope.isCoroutine && !scope.isGenerator && decide (scope.names.lookup a1 = some .local) &&
  scope.names.all fun y => !decide (y.2 = .cell) && (!decide (y.2 = .local) || decide (y.1 = a1)) && (!decide (y.2 = .free) || (decide (sc.names.lookup y.1 = some .cell) || decide (sc.names.lookup y.1 = some .free)))
theorem scD_by {sc scope : Scope} {a1 : Str} (h : scDB sc scope a1 = true) : ScD sc scope a1 := by
  unfold scDB at h
  simp only [Bool.and_eq_true, Bool.or_eq_true, Bool.not_eq_true', decide_eq_true_eq, decide_eq_false_iff_not, List.all_eq_true] at h
  obtain ⟨⟨⟨⟨k1, k2⟩, k3⟩, k4⟩, k5⟩ := h
  exact ⟨k1, k2, k3, fun y hy => ⟨(k5 y hy).1.1, fun e => (k5 y hy).1.2.resolve_left fun n => n e⟩, k4, fun y hy e => (k5 y hy).2.resolve_left fun n => n e⟩
theorem ScD.has {X : Cx} {scope : Scope} {a1 : Str} (L : ScD X.env.scope scope a1) (ok : X.Ok) : ∀ y ∈ scope.names, y.2 = .free → ∃ c, X.env.cells.lookup y.1 = some c := fun y hy e => ok.has _ (L.free y hy e)
section
variable {X : Cx} {pins : List (Addr × Obj)} {σ : L2.St} {H HZ : Hp} {s s1 : Shared}
/-- the table that got one more code object still tells what it told -/
theorem tabs_more {T : List (Addr × Str)} {P c : Addr} {x : Str} {ps more : Array Value} {p1 p2 : Value} (hT : Tabs T H) (hu : ∀ p ∈ T, p.1 = P → p.2 = x) (hP : H P = some (.tbl ps)) (hc : H c = none) (tr : TriplesOk ps.toList) {pos : Pos} (em : more = #[rawInt pos.line, rawInt pos.col, .ref c]) :
    Tabs T (upd (upd H P (.tbl (ps ++ more))) c (CodeO c x)) ∧ ExtN H (upd (upd H P (.tbl (ps ++ more))) c (CodeO c x)) := by
  subst em
  have old : ExtN H (upd (upd H P (.tbl (ps ++ #[rawInt pos.line, rawInt pos.col, .ref c]))) c (CodeO c x)) := fun b o e n => by
    have h1 : b ≠ c := ne_of_none e hc
    have h2 : b ≠ P := fun z => n ps (by rw [z, hP] at e; exact (Option.some.inj e).symm)
    rw [upd_ne h1, upd_ne h2]; exact e
  refine ⟨fun p hp => ?_, old⟩
  obtain ⟨qs, b1, b2, b3⟩ := hT p hp
  by_cases hb : p.1 = P
  · have hx := hu p hp hb
    rw [hb] at b1 ⊢
    rw [hP] at b1
    cases b1
    refine ⟨_, by rw [upd_ne (ne_of_none hP hc), upd_same], by rw [show (ps ++ #[rawInt pos.line, rawInt pos.col, Value.ref c]).toList = ps.toList ++ [rawInt pos.line, rawInt pos.col, .ref c] by simp]; exact PySem.TriplesOk_snoc _ _ _ _ tr, fun p' cv hcv => ?_⟩
    rw [show (ps ++ #[rawInt pos.line, rawInt pos.col, Value.ref c]).toList = ps.toList ++ [rawInt pos.line, rawInt pos.col, .ref c] by simp] at hcv
    rcases among_app _ tr hcv with k | k
    · obtain ⟨d, k1, k2⟩ := b3 p' cv k
      exact ⟨d, k1, old _ _ k2 codeO_ne⟩
    · exact ⟨c, k, by rw [hx, upd_same]⟩
  · refine ⟨qs, by rw [upd_ne (ne_of_none b1 hc), upd_ne hb]; exact b1, b2, fun p' cv hcv => ?_⟩
    obtain ⟨d, k1, k2⟩ := b3 p' cv hcv
    exact ⟨d, k1, old _ _ k2 codeO_ne⟩
/-- the lambda is made -/
theorem lam_makeD {T : List (Addr × Str)} {c P : Addr} {a1 : Str} {z : Int} {j : Nat} {pa pz : Pos} {body : Expr} {scope : Scope} {pos : Pos} {E : Value → Shared → Prop} {Q : Value → Shared → Prop} (hE : E = X.xe) (I : Inv X pins σ H s) (TB : TabB X.base X.mg c P) (hcode : X.env.code = .ref c)
    (hm : (P, X.env.qual ++ "<lambda>") ∈ T) (hu : ∀ p ∈ T, p.1 = P → p.2 = X.env.qual ++ "<lambda>") (hT : Tabs T H) (hfree : ∀ y ∈ scope.names, y.2 = .free → ∃ c, X.env.cells.lookup y.1 = some c)
    (h : ∀ (f t0 c' : Addr) (v pm ctv doc : Value) (H1 : Hp) (s' : Shared), Inv X pins σ H1 s' → ExtN H H1 → Tabs T H1 →
      s'.heap.get? f = some (PySem.W.kdv_obj "<lambda>" (X.env.qual ++ "<lambda>") (parD a1 z j pa pz) (.expr body) scope (cloFrom X.env.cells scope.names []) (.ref t0) doc pm c' ctv) → H1 f = none → f ∉ frs X.stack →
      s'.heap.get? t0 = some (PySem.W.kdv_tup [v]) → H1 t0 = none → t0 ∉ frs X.stack → H1 c' = some (CodeO c' (X.env.qual ++ "<lambda>")) → Q (.ref f) s') :
    wpAny (model X.prog X.w) X.A (eval (.Lambda (parD a1 z j pa pz) body scope pos) X.env) Q E s := by
  subst hE
  refine PySem.W.kdv_lam rfl rfl (PySem.W.kdv_all1 (thn ((pe_int (i := z) (j := j) (pos := pz)).run pins s σ H (fun _ H1 => H1 = H) I rfl) fun u s2 ⟨v, H2, I2, rv, q2⟩ => PySem.W.kdv_all0 ?_))
  subst q2
  rw [makeFunction_eq]
  simp only [List.zip_nil_right, List.filterMap_nil, List.isEmpty_nil, if_true, pure_bind, List.isEmpty_cons, Bool.false_eq_true, if_false]
  refine wpAny_bind (wpAny_newTextTuple ?_)
  have I3 : Inv X pins σ H2 { s2 with heap := s2.heap.push (PySem.W.kdv_tup [u]) } := I2.kept (t' := s2.toks) fun b o e => Heap.get?_push_of_some _ e
  have g3 : (s2.heap.push (PySem.W.kdv_tup [u])).get? s2.heap.objs.size = some (PySem.W.kdv_tup [u]) := Heap.get?_push_size _ rfl
  have n3 : H2 s2.heap.objs.size = none := I2.hok.fresh (Nat.le_refl _)
  have sz3 : s2.heap.objs.size < (s2.heap.push (PySem.W.kdv_tup [u])).objs.size := by rw [Heap.size_push]; omega
  have nofr : ∀ f, s2.heap.objs.size ≤ f → f ∉ frs X.stack := fun f hf hz => by
    rcases List.mem_cons.mp (I2.stkSub _ hz) with e | e
    · rw [e] at hf
      exact absurd (Nat.lt_of_lt_of_le I2.lt hf) (Nat.lt_irrefl _)
    · exact I2.nofs hf e
  generalize (s2.heap.push (PySem.W.kdv_tup [u])) = hp3 at I3 g3 sz3
  obtain ⟨ps, hP, tr, ha⟩ := hT _ hm
  have bP : hp3.BuiltinsAt X.mg P := TB.bm.keeps I3.bk
  have hP' : hp3.get? P = some { cls := .none, data := .fields ps } := I3.hok P _ hP
  cases hc : codeAmong pos ps.toList with
  | some cv =>
    obtain ⟨c', ec, hco⟩ := ha pos cv hc
    subst ec
    refine PySem.W.kdv_makeTailHit (mg := X.mg) (closure_ok hfree) I3.ok.glob (I3.mod.glob.keeps I3.bk) hcode (TB.code.keeps I3.bk) hP' tr hc bP fun ctv doc h' tk hx hsz => ?_
    have hsz : hp3.objs.size ≤ h'.objs.size := hsz
    refine h h'.objs.size s2.heap.objs.size c' u ((X.mg "__name__").getD .none) ctv doc H2 _ (I3.kept (t' := tk) fun b o e => Heap.get?_push_of_some _ (hx b o e)) (ExtN.refl H2) hT (Heap.get?_push_size _ rfl) (I3.hok.fresh hsz) (nofr _ (by omega)) (Heap.get?_push_of_some _ (hx _ _ g3)) n3 (nofr _ (Nat.le_refl _)) hco
  | none =>
    refine PySem.W.kdv_makeTail (mg := X.mg) (closure_ok hfree) I3.ok.glob (I3.mod.glob.keeps I3.bk) hcode (TB.code.keeps I3.bk) hP' tr hc TB.gP bP fun c' ctv doc h' tk hx hge hlt hrec htb => ?_
    have hge : hp3.objs.size ≤ c' := hge
    obtain ⟨c2, oc, vs, t, e2, hoc, hd, hv⟩ := hrec
    cases e2
    have nC : H2 c' = none := I3.hok.fresh hge
    have I4 := inv_table (t' := tk) (more := #[rawInt pos.line, rawInt pos.col, .ref c']) (h' := h'.push (PySem.W.kdv_obj "<lambda>" (X.env.qual ++ "<lambda>") (parD a1 z j pa pz) (.expr body) scope (cloFrom X.env.cells scope.names []) (.ref s2.heap.objs.size) doc ((X.mg "__name__").getD .none) c' ctv)) I3 hP
      (fun b o hb e => Heap.get?_push_of_some _ (hx b o hb e)) (Heap.get?_push_of_some _ htb) hge ⟨oc, vs, t, Heap.get?_push_of_some _ hoc, hd, hv⟩
    obtain ⟨t4, x4⟩ := tabs_more (p1 := .none) (p2 := .none) hT hu hP nC tr (pos := pos) rfl
    have nP : s2.heap.objs.size ≠ P := fun e => by rw [e, hP] at n3; cases n3
    have key : ∀ b, b ≠ c' → b ≠ P → H2 b = none → upd (upd H2 P (.tbl (ps ++ #[rawInt pos.line, rawInt pos.col, .ref c']))) c' (CodeO c' (X.env.qual ++ "<lambda>")) b = none := fun b k1 k2 k3 => by rw [upd_ne k1, upd_ne k2]; exact k3
    have hl : P < hp3.objs.size := Heap.lt_size hP'
    have hlt : c' < h'.objs.size := hlt
    have q1 : h'.objs.size ≠ c' := Nat.ne_of_gt hlt
    have q2 : P < h'.objs.size := Nat.lt_trans (Nat.lt_of_lt_of_le hl hge) hlt
    have q3 : s2.heap.objs.size ≠ c' := Nat.ne_of_lt (Nat.lt_of_lt_of_le sz3 hge)
    have q4 : hp3.objs.size ≤ h'.objs.size := Nat.le_trans hge (Nat.le_of_lt hlt)
    refine h h'.objs.size s2.heap.objs.size c' u ((X.mg "__name__").getD .none) ctv doc _ _ I4 x4 t4 (Heap.get?_push_size _ rfl) (key _ q1 (Nat.ne_of_gt q2) (I3.hok.fresh q4)) (nofr _ (Nat.le_trans (Nat.le_of_lt sz3) q4)) (Heap.get?_push_of_some _ (hx _ _ nP g3)) (key _ q3 nP n3) (nofr _ (Nat.le_refl _)) upd_same
theorem lam_startD {A : Around} {outer : List Env} {E : XK} {scope : Scope} {f c' : Addr} {a1 : Str} {v : Value} {h₁ : Heap} {tk : Nat} (I : Inv X pins σ H s) (L : ScD X.env.scope scope a1) (hN : a1 ∉ X.N) (e0 : Env0 X.prog X.w X.K X.mg X.base A outer s1 HZ) (hd : A.handled = none)
    (un : Un (frs X.stack) [] H HZ s.heap s1.heap) (hns : h₁.Ns s1.heap.objs.size fun y => ([(a1, v)] : List (Str × Value)).reverse.lookup y) (kp : ∀ b o, s1.heap.get? b = some o → h₁.get? b = some o) :
    Inv (lamCx X A outer s1 HZ E scope f c') [] σ HZ { s1 with heap := h₁, toks := tk } := by
  have up : ∀ {y c}, (cloFrom X.env.cells scope.names []).lookup y = some c → X.env.cells.lookup y = some c := fun {y c} q => by
    rcases cloFrom_mem (PySem.mem_of_lookup q) with k | ⟨k1, k2⟩
    · cases k
    · obtain ⟨d, hd⟩ := L.has I.ok _ k1 rfl
      have hd : X.env.cells.lookup y = some d := hd
      have k2 : c = (X.env.cells.lookup y).getD 0 := by first | exact k2 | simpa using k2
      rw [k2, hd]; rfl
  have dn : ∀ {y}, scope.names.lookup y = some .free → ∃ c, (cloFrom X.env.cells scope.names []).lookup y = some c := fun {y} q =>
    mem_lookup (cloFrom_has (cells := X.env.cells) (acc := []) (show (y, NameKind.free) ∈ scope.names from PySem.mem_of_lookup q))
  have cellK : ∀ {c : Addr} {u : Option Value}, H c = none → s.heap.IsCell c u → h₁.IsCell c u := fun {c u} n ⟨o, ho, k⟩ => by
    obtain ⟨sl, q⟩ := un.any ho n (by simp)
    exact ⟨_, kp _ _ q, k⟩
  have noA : ∀ b : Addr, b ∉ (lamCx X A outer s1 HZ E scope f c').ex := fun b z => nomatch (show b ∈ ([] : List Addr) from z)
  have noCell : ∀ {y}, scope.names.lookup y ≠ some .cell := fun {y} q => (L.own _ (PySem.mem_of_lookup q)).1 rfl
  refine { ok := { mod := e0.mod, kind := L.kind, glob := rfl, blt := rfl, above := Nat.le_refl _, inj := fun y z c q1 q2 => I.ok.inj y z c (up q1) (up q2), has := fun y hy => ?_, cab := fun y c z _ => (nomatch z), hd := fun _ => hd, frames := Around.frames_deeper e0.frames, stk := .inr ⟨rfl, rfl⟩, exf := fun b z => absurd z (noA b), bs := e0.bs, bsz := e0.bsz, noex := fun b _ _ => noA b, exfs := fun b z => absurd z (noA b), funs := e0.funs, frf := e0.frf }, os := rfl, bare := e0.bare, base := Un.kept kp, loc := ⟨_, hns, fun i y u q1 q2 q3 => ?_⟩, cell := fun y c q => ?_, free := e0.hok.fresh (Nat.le_refl _), freeC := fun y c q => ?_, pin := fun p hp => absurd (show p ∈ ([] : List (Addr × Obj)) ++ [] from hp) (by simp), hok := e0.hok.kept kp, len := I.len }
  · have hy : scope.names.lookup y = some .cell ∨ scope.names.lookup y = some .free := hy
    exact hy.elim (fun k => absurd k noCell) dn
  · have q3 : Vis scope y := q3
    rcases q3 with k | k | k
    · have ey : y = a1 := (L.own (y, .local) (PySem.mem_of_lookup k)).2 rfl
      exact absurd (List.mem_of_getElem? (show X.N[i]? = some y from q1)) (by rw [ey]; exact hN)
    · exact absurd k noCell
    · obtain ⟨m, _, hl⟩ := I.loc
      have kf := L.free _ (PySem.mem_of_lookup k) rfl
      obtain ⟨w', r, q⟩ := hl i y u q1 q2 (kf.elim (fun z => .inr (.inl z)) fun z => .inr (.inr z))
      obtain ⟨c2, h2⟩ := dn k
      refine ⟨w', r, .inr ⟨.inr k, c2, h2, ?_⟩⟩
      rcases q with ⟨z, _⟩ | ⟨_, c3, z1, z2⟩
      · have z : X.env.scope.names.lookup y = some .local := z
        exact (kf.elim (fun z' => by rw [show X.env.scope.names.lookup y = _ from z'] at z; cases z) fun z' => by rw [show X.env.scope.names.lookup y = _ from z'] at z; cases z)
      · rw [up h2] at z1
        cases z1
        exact cellK (I.freeC y _ (up h2)) z2
  · obtain ⟨w', z⟩ := I.cell y c (up q)
    exact ⟨w', cellK (I.freeC y c (up q)) z⟩
  · obtain ⟨u, o, ho, _⟩ := I.cell y c (up q)
    exact un.free c o ho (I.freeC y c (up q)) (by simp)
/-- how its call without arguments binds -/
def BindD (a1 : Str) (z : Int) (j : Nat) (pa pz : Pos) (body : Expr) (scope : Scope) : Prop := ∀ (q : Str) (cl : List (Str × Addr)) (dV doc pm cv ctv : Value), ∃ k : Option (Array Value) → Sem (List (Str × Value)),
  bindArgs (PySem.W.kdv_fn "<lambda>" q (parD a1 z j pa pz) (.expr body) scope cl dV doc pm cv ctv) ⟨[], []⟩ = seqItems? dV >>= k ∧ ∀ v, k (some #[v]) = pure [(a1, v)]
theorem bindD_1 {z : Int} {j : Nat} {pa pz : Pos} {body : Expr} {scope : Scope} : BindD "a1" z j pa pz body scope := fun q cl dV doc pm cv ctv => ⟨_, rfl, fun v => rfl⟩
theorem bindD_2 {z : Int} {j : Nat} {pa pz : Pos} {body : Expr} {scope : Scope} : BindD "a2" z j pa pz body scope := fun q cl dV doc pm cv ctv => ⟨_, rfl, fun v => rfl⟩
theorem bindD_3 {z : Int} {j : Nat} {pa pz : Pos} {body : Expr} {scope : Scope} : BindD "a3" z j pa pz body scope := fun q cl dV doc pm cv ctv => ⟨_, rfl, fun v => rfl⟩
/-- x(), in the def that got it -/
theorem pe_actD {CXg : CXT} {Eg : XK} {Ng : List Str} {qg : Str} {sg : Scope} {g f t0 c' : Addr} {cdg pm ctv doc dv : Value} {a1 : Str} {z : Int} {j : Nat} {pa pz : Pos} {body : Expr} {scope : Scope} {k i : Nat} {a : Str} {pn : List (Addr × Obj)} {xe : Value → Shared → Prop} {W : WX} {E : XK} {tb : TE} {p1 p2 : Pos}
    (I : Inv X pins σ H s) (L : ScD X.env.scope scope a1) (hNa : a1 ∉ X.N) (hf : s.heap.get? f = some (PySem.W.kdv_obj "<lambda>" (X.env.qual ++ "<lambda>") (parD a1 z j pa pz) (.expr body) scope (cloFrom X.env.cells scope.names []) (.ref t0) doc pm c' ctv)) (hfn : H f = none) (hfr : f ∉ frs X.stack)
    (ht : s.heap.get? t0 = some (PySem.W.kdv_tup [dv])) (htn : H t0 = none) (htr : t0 ∉ frs X.stack) (hbind : BindD a1 z j pa pz body scope)
    (tk : Takes ((cxOf CXg X.prog X.w X.K X.mg X.base Ng qg sg g cdg X.A X.stack s H Eg).tr pn xe) W) (hW : ∀ cls d σ' H', E cls d H' → W cls d σ' H') (hr : Room (k + 1) (X.A.deeper (envOfC qg sg s.heap.objs.size g cdg)))
    (hbody : ∀ (A : Around) (outer : List Env) (s : Shared) (H : Hp), Room k (A.deeper (lamEnv X scope s.heap.objs.size f c')) → PE (lamCx X A outer s H E scope f c') body tb)
    (hN : Ng[i]? = some a) (hv : Vis sg a) (hd : (a == ("__debug__" : Str)) = false) (hcd : (a == ("__classdict__" : Str)) = false) :
    PE ((cxOf CXg X.prog X.w X.K X.mg X.base Ng qg sg g cdg X.A X.stack s H Eg).tr pn xe) (.Call (.Name a p1) [] [] p2)
      (fun σZ HZ Q => σZ[i]? = some (some (.ref f)) ∧ HZ c' = some (CodeO c' (X.env.qual ++ "<lambda>")) ∧ tb σ HZ Q) := by
  refine ⟨fun pinsZ sZ σZ HZ Q IZ ⟨hs, hc, hq0⟩ => ?_⟩
  refine wpAny_Call_Name_kw (thn ((pe_var (pos := p1) (i := i) hN hv hd hcd).run pinsZ sZ σZ HZ (fun v H1 => v = .ref f ∧ H1 = HZ) IZ ⟨.ref f, hs, rfl, rfl⟩) fun u s2 ⟨v, H1, I1, r1, ev, eH⟩ => ?_)
  subst ev eH
  obtain rfl : u = Value.ref f := r1
  have stay : ∀ b o, s.heap.get? b = some o → H b = none → b ∉ frs X.stack → s2.heap.get? b = some o := fun b o e1 e2 e3 => I1.base.keep b o e1 e2 e3 (fun y => nomatch (show b ∈ ([] : List Addr) from y))
  have of1 := stay f _ hf hfn hfr
  have ot1 := stay t0 _ ht htn htr
  refine PySem.W.callWith_F0 ⟨_, _, _, _, of1⟩ ?_
  have un : Un (frs X.stack) [] H H1 s.heap s2.heap := I1.base
  obtain ⟨⟨oc, vs, t, hoc, hdc, hvc⟩, _, _⟩ := I1.hok c' _ hc
  have run : codeAny (model X.prog X.w) (X.A.deeper (envOfC qg sg s.heap.objs.size g cdg)) (.call (.ref f) ⟨[], []⟩) (CR (L2.CX X.prog X.w) (envOfC qg sg s.heap.objs.size g cdg :: X.stack) X.prog X.w H1 s2 Q E) s2 := by
    obtain ⟨kk, b1, b2⟩ := hbind (X.env.qual ++ "<lambda>") (cloFrom X.env.cells scope.names []) (.ref t0) doc pm (.ref c') ctv
    refine PySem.W.kla_callFunE hr.depth of1 rfl L.co L.gen rfl ⟨c', oc, vs, t, rfl, hoc, hdc, hvc⟩ (BindsTo.of_defaults (binds := [(a1, dv)]) rfl ot1 rfl b1 (b2 dv) _ _ _ _ ?_)
    refine wpAny_newFunctionEnv (fun y hy => (L.own y hy).1) (fun y hy => by rw [List.mem_singleton.mp hy]; exact L.par) (fun h₁ hns hsb => ⟨I1.nolimit.fresh _ hsb, ?_⟩) L.kind
    show codeAny _ _ (.expr body (lamEnv X scope s2.heap.objs.size f c')) _ _
    have J := lam_startD (A := X.A.deeper (envOfC qg sg s.heap.objs.size g cdg)) (outer := envOfC qg sg s.heap.objs.size g cdg :: X.stack) (E := E) (f := f) (c' := c') (tk := s2.toks + 1) I L hNa I1.env0 hr.hd un hns fun b o e => hsb.extBut b o (Nat.ne_of_lt (Heap.lt_size e)) (Heap.get?_push_of_some _ e)
    refine PySem.W.kla_codeExpr (wpAny_mono ((hbody _ _ s2 H1 (hr.deeper _)).run [] _ _ H1 Q J hq0) (fun v s' ⟨w', H', J', rv, q⟩ => ?_) fun e s' q => q)
    exact ⟨w', H', J'.os, J'.bare, J'.base, J'.hok, rv, q⟩
  have hx : Passes (L2.CX X.prog X.w) ((cxOf CXg X.prog X.w X.K X.mg X.base Ng qg sg g cdg X.A X.stack s H Eg).tr pn xe) E := passes_call tk hW
  refine wpAny_call (codeAny_mono run fun r s' q => ?_)
  cases r with
  | error e => exact hx pinsZ σZ H1 s2 e s' I1 q
  | ok fl =>
    cases fl with
    | ret u => exact I1.after q
    | next => exact q.elim
    | brk => exact q.elim
    | cont => exact q.elim
/-- x(lambda a1=z: body) -/
theorem pe_lamD {T : List (Addr × Str)} {TT : (XK → Hp → VK → Prop) → Hp → VK → Prop} {x a a1 : Str} {z : Int} {j : Nat} {pa pz : Pos} {g c P : Addr} {k : Nat} {pg : Arguments} {bg : List Stmt} {sg : Scope} {dV kV doc pm cdv ct oc : Value} {an od : Option Addr} {osl : Array (Option Value)} {Ng : List Str}
    {body : Expr} {scope : Scope} {t : XK → TE} {p lpos pos : Pos} (hg : Gl X x) (hm : X.mg x = some (.ref g)) (hk : PySem.W.keepIn X.K (.ref g) = true)
    (lk : X.K.lookup g = some ⟨oc, od, .func (PySem.W.fnOf x x pg bg sg dV kV doc pm an cdv ct), osl⟩) (hcg : PySem.W.codeIn X.K cdv x = true) (hb : L2.Binds X.K (PySem.W.fnOf x x pg bg sg dV kV doc pm an cdv ct) [a] []) (Sg : FnScope Ng [a] sg) (hNg : Ng[0]? = some a) (hva : Vis sg a)
    (hG : GivesTo X Ng x sg g cdv bg a (X.env.qual ++ "<lambda>") TT) (TB : TabB X.base X.mg c P) (hcode : X.env.code = .ref c) (hmT : (P, X.env.qual ++ "<lambda>") ∈ T) (hu : ∀ p ∈ T, p.1 = P → p.2 = X.env.qual ++ "<lambda>") (hr : Room (k + 2) X.A)
    (L : ScD X.env.scope scope a1) (hNa : a1 ∉ X.N) (hbind : BindD a1 z j pa pz body scope)
    (hbody : ∀ (A : Around) (outer : List Env) (s : Shared) (H : Hp) (E : XK) (f c' : Addr), Room k (A.deeper (lamEnv X scope s.heap.objs.size f c')) → PE (lamCx X A outer s H E scope f c') body (t E))
    (hdb : (x == ("__debug__" : Str)) = false) (hd : (a == ("__debug__" : Str)) = false) (hcd : (a == ("__classdict__" : Str)) = false) :
    PE X (.Call (.Name x p) [.Lambda (parD a1 z j pa pz) body scope lpos] [] pos) (tLam T TT t) := by
  refine ⟨fun pins s σ H Q I ⟨hT, h⟩ => ?_⟩
  refine wpAny_Call_Name_kw (ld_glob I hg hm ?_ hdb)
  refine PySem.W.callWith_K (h₀ := X.base) I.ok.mod.kin hk (show wpAny _ _ (spliced ((false, eval (.Lambda (parD a1 z j pa pz) body scope lpos) X.env) :: backTo pos (starEach [] X.env))) _ _ s from
    Calls.spliced_cons (lam_makeD rfl I TB hcode hmT hu hT (L.has I.ok) fun f t0 c' dv pm' ctv doc' H1 s2 I1 eN T1 hf hfn hfr ht htn htr hco => Calls.spliced_nil ⟨I1.kIn, ?_⟩)) (by rfl) (by rfl)
  have run : codeAny (model X.prog X.w) X.A (.call (.ref g) ⟨[.ref f], []⟩) (CR C8.CX0 X.stack X.prog X.w H1 s2 Q C8.E0) s2 := by
    refine run_ofS (N := Ng) (ps := [a]) (us := [.ref f]) (vs := [.ref f]) lk hcg Sg hr I1.env0 (hb s2 [.ref f] I1.kIn rfl) (.cons rfl .nil) rfl fun hr2 => ?_
    obtain ⟨t', q1, q2⟩ := hG f c' s2 H1 Q (fun E H' Q' => t E σ H' Q') (fun W pn xe E p1 p2 tk hW => pe_actD (i := 0) I1 L hNa hf hfn hfr ht htn htr hbind tk hW hr2 (fun A outer s H hr3 => hbody A outer s H E f c' hr3) hNg hva hd hcd) hco (h H1 eN T1)
    exact ⟨t', q1.nox, q2⟩
  refine wpAny_call (codeAny_mono run fun r s3 q => ?_)
  cases r with
  | error e => exact (show False from q).elim
  | ok fl =>
    cases fl with
    | ret u => exact I1.after q
    | next => exact q.elim
    | brk => exact q.elim
    | cont => exact q.elim
end
end LamD

set_option Elab.async false
set_option linter.all false
set_option maxRecDepth 100000
set_option maxHeartbeats 4000000
/-! PL.Cau: raise of an own exception; a lambda handed to the def that catches. -/
namespace PL
open PySem L2 PySem.Spec PyProof.Rows
section
variable {T : Tb} {F : Fx} {Γ : Gam} {W : WXX} {X : Cx} {a b c e : Expr} {es : List Expr} {fa fb fs : Env → Mem → Out D} {pos p apos lpos : Pos}
theorem s_rse (C : Cok T F Γ W X) {Cn : String} {ns : List String} {x : Str} (hx : x = so Cn) (hT : T.xc Cn = some ns) (hg : glo X.env.scope x = true) (hd : (x == ("__debug__" : Str)) = false) (hst : (e :: es).all noStar = true) (hl : ns.length ≤ 1000)
    (ha : PA X (e :: es) (LA F W fs)) :
    PS X (.Raise (some (.Call (.Name x p) (e :: es) [] apos)) none pos) (LS F W fun ρ m => SO.of ρ ((fs ρ m).bind fun y m => match y with
      | D.tup ys => if ys.length = ns.length then .ok (D.exc Cn ns ys) m else .stk
      | _ => .stk) fun x m => match x with
        | D.exc C ns ds => .er (.exc C ns ds) ρ m
        | _ => .stk) := by
  subst hx
  obtain ⟨h2, A, Dc, fI, fd, ps, hA, hm, Xo⟩ := C.exc Cn ns hT
  have hK := C.hK
  rw [List.all_cons, Bool.and_eq_true] at hst
  have mk := pmk_oex (X := X) (p := p) (pos := apos) (e := e) (es := es) (x := so Cn) (C := A) (dvs := []) (ds := []) (hK ▸ Xo.xm.ox) (hK ▸ Xo.ini) (hK ▸ Xo.ty) (hK ▸ Xo.fn) (C.room.mono h2) (hK ▸ Xo.bd) .nil
    (passes_call (X := X) (W := fun _ _ _ _ => False) (fun _ _ z => by obtain ⟨_, _, _, _, _, _, _, _, _, _, _, _, _, _, _, _, z⟩ := z; exact z.elim) (fun _ _ _ _ z => z)) (glo_ok hg) hm ha hd (star_cons hst.1 es X.env) (star_any _ _ _ hst.2)
  refine PSi (ps_raise C.calm C.tk mk) fun E σ H ⟨ρ, w, e0, r, s, h⟩ => ?_
  subst e0
  refine ls_of (E := E) (R := RA F) (k := fun y m => SO.of ρ (match y with
      | D.tup ys => if ys.length = ns.length then .ok (D.exc Cn ns ys) m else .stk
      | _ => .stk) fun x m => match x with
        | D.exc C ns ds => .er (.exc C ns ds) ρ m
        | _ => .stk) r s ?_ fun d w1 vs e1 r1 s1 h1 p1 => ?_
  · dsimp only at h
    cases q : fs ρ w.m with
    | ok x m => rw [q] at h; exact h
    | err x m => rw [q] at h; exact h
    | stk => rw [q] at h; exact h
  · obtain ⟨ds, rfl, h2⟩ := h1
    dsimp only at p1
    split at p1
    · rename_i hlen
      have hv : vs.length = ns.length := h2.length.symm.trans hlen
      refine ⟨by omega, fun ad hx => ⟨ad, A, vs, by rw [List.append_nil], by rw [List.length_map]; exact hv, hK ▸ Xo.xm, upd_same, fun dx fs' hdx hne hlk => ?_⟩⟩
      rw [upd_ne hne] at hdx
      refine ⟨rfl, dx, fs', upd_same, by rw [upd_ne hne, upd_same], hdx, ?_⟩
      have eH : upd (del (upd (upd (upd w1.H ad (exo ad A none)) dx (exd dx fs')) ad (exo ad A (some dx))) ad) dx (.xd fs') = upd w1.H dx (.xd fs') := by
        funext b
        by_cases hb : b = dx
        · rw [hb, upd_same, upd_same]
        · rw [upd_ne hb, upd_ne hb]
          by_cases h3 : b = ad
          · rw [h3, del_same, hx]
          · rw [del_ne h3, upd_ne h3, upd_ne hb, upd_ne h3]
      rw [eH]
      have eN := Ex.new r1 (o := .xd fs') hdx
      refine p1 { w1 with H := upd w1.H dx (.xd fs') } σ (.ref A) (some dx) rfl eN (r1.new hdx) (s1.ex eN) ?_
      exact ⟨A, dx, fs', vs, hA, rfl, rfl, upd_same, r1.nlive_new hdx, hlk, hv.symm, RpL.ex eN _ _ h2⟩
    · exact p1.elim
/-- a lambda without parameters -/
def noPar (p : Arguments) : Bool := p.posonlyargs.isEmpty && p.args.isEmpty && p.vararg.isNone && p.kwonlyargs.isEmpty && p.kw_defaults.isEmpty && p.kwarg.isNone && p.defaults.isEmpty
theorem noPar_ok {p : Arguments} (h : noPar p = true) : p = ⟨[], [], none, [], [], none, []⟩ := by
  obtain ⟨a, b, c, d, e, f, g⟩ := p
  unfold noPar at h
  simp only [Bool.and_eq_true, List.isEmpty_iff, Option.isNone_iff_eq_none] at h
  obtain ⟨⟨⟨⟨⟨⟨rfl, rfl⟩, rfl⟩, rfl⟩, rfl⟩, rfl⟩, rfl⟩ := h
  rfl
theorem Cok.lam (C : Cok T F Γ W X) (hk : T.ke + 2 ≤ T.k) {A : Around} {outer : List PySem.Env} {s : Shared} {H : Hp} {E : XK} {scope : Scope} {f c' : Addr} (hr : Room (T.k - 2) (A.deeper (LamX.lamEnv X scope s.heap.objs.size f c'))) :
    Cok T.low F Γ (fun cls d _ H => E cls d H) (LamX.lamCx X A outer s H E scope f c') where
  hK := C.hK
  calm := rfl
  nd := C.nd
  tk := takes_of rfl rfl rfl rfl
  ac := C.ac
  room := hr
  glob := fun f lv h => by
    obtain ⟨h1, h2⟩ := Option.filter_eq_some_iff.mp (show (T.fl f).filter _ = some lv from h)
    obtain ⟨_, a, q⟩ := C.glob f lv h1
    exact ⟨by show lv ≤ T.k - 2; have := of_decide_eq_true h2; omega, a, q⟩
  blt := C.blt
  rng := C.rng
  zip := C.zip
  enm := C.enm
  bool := C.bool
  str := C.str
  dict := C.dict
  gcd := C.gcd
  meth := fun n lv h => by
    obtain ⟨h1, h2⟩ := Option.filter_eq_some_iff.mp (show (T.ml n).filter _ = some lv from h)
    obtain ⟨_, q⟩ := C.meth n lv h1
    exact ⟨by show lv ≤ T.k - 2; have := of_decide_eq_true h2; omega, q⟩
  make := fun n lv h => by
    obtain ⟨h1, h2⟩ := Option.filter_eq_some_iff.mp (show (T.cl n).filter _ = some lv from h)
    obtain ⟨_, q⟩ := C.make n lv h1
    exact ⟨by show lv + 1 ≤ T.k - 2; have := of_decide_eq_true h2; omega, q⟩
  plan := C.plan
  clk := C.clk
  kke := by show T.ke ≤ T.k - 2; omega
  cnI := C.cnI
  cnS := C.cnS
  eqm := C.eqm
  exc := fun n ns h => by
    have h : (if 4 ≤ T.k then T.xc n else none) = some ns := h
    split at h
    · obtain ⟨_, q⟩ := C.exc n ns h
      exact ⟨by show 2 ≤ T.k - 2; omega, q⟩
    · cases h
  cau := fun n lv h => nomatch h
  tab := fun h => nomatch h
  clv := C.clv
  nb := C.nb
  gd := fun h => nomatch h
def cauF (Γ : Gam) (f : String) (fb : Env → Mem → Out D) : Env → Mem → Out D := fun ρ m => match fb ρ m with
      | .ok x m => (Γ.fn f [.non, x] m).calm
      | .err (.exc C ns ds) m => if (Γ.mro C).contains "RulerError" = true then (Γ.fn f [.exc C ns ds] m).calm else .stk
      | _ => .stk
theorem cau_lam {f : String} {σ : L2.St} {H : Hp} {Q : VK} (hh : LE F W (cauF Γ f fb) σ H Q) : LamX.tLam F.tabs (TTc F Γ.mro (Γ.fn f)) (fun E => LE F (fun cls d _ H => E cls d H) fb) σ H Q := by
  obtain ⟨ρ, w, e, r, s, h⟩ := hh
  unfold cauF at h
  subst e
  refine ⟨r.tabs, fun H1 eN t1 => ?_⟩
  let w1 : Wo := ⟨w.ι, w.m, H1, w.pv⟩
  have e0 : Ex w w1 := ⟨⟨⟨[], by simp [w1]⟩, fun a o ha n t => ⟨.inl (eN a o ha t), fun l => n (l.elim (fun l => .inl l) .inr)⟩⟩, rfl, fun a ha => by
    obtain ⟨⟨xs, e⟩, _⟩ := r.pvt a ha
    rw [e]
    exact eN a _ e fun _ z => nomatch z⟩
  have r1 : Rel F w1 := by
    refine ⟨r.len, fun i a o h1 h2 => ?_, r.inj, fun a ha => ⟨?_, (r.pvt a ha).2⟩, t1⟩
    · have q := r.ob i a o h1 h2
      have up : ∀ u, w.H a = some u → (∀ ps, u ≠ .tbl ps) → H1 a = w.H a := fun u e t => by rw [e]; exact eN a u e t
      cases o with
      | lst ds =>
        obtain ⟨xs, e, q⟩ := q
        exact ⟨xs, (up _ e fun _ z => nomatch z).trans e, RpL.ex e0 _ _ q⟩
      | dct ks vs =>
        obtain ⟨xs, e, q, q'⟩ := q
        exact ⟨xs, (up _ e fun _ z => nomatch z).trans e, RpL.ex e0 _ _ q, RpL.ex e0 _ _ q'⟩
      | ins C ns ds =>
        obtain ⟨A, dx, fs, xs, h1, e, h2, h3, q⟩ := q
        exact ⟨A, dx, fs, xs, h1, (up _ e fun _ z => nomatch z).trans e, h2, h3, RpL.ex e0 _ _ q⟩
      | dead => trivial
    · obtain ⟨⟨xs, e⟩, _⟩ := r.pvt a ha
      exact ⟨xs, eN a _ e fun _ z => nomatch z⟩
  refine ⟨w1, rfl, r1, fun w1' E1 R1 e1' r1' hm1 hE hR => ?_⟩
  have e01 := e0.trans e1'
  have go : ∀ {w2 : Wo} {o : Out D}, Ex w1' w2 → Post F (RE F) W σ w o.calm Q → Post F (RE F) NoW [] w2 o Q := fun {w2 o} e2 hh => by
    cases o with
    | ok d m => exact fun w' v h1 h2 h3 h4 => hh w' v h1 ((e01.trans e2).trans h2) h3 h4
    | err d m => exact hh.elim
    | stk => exact hh.elim
  refine ⟨ρ, w1', rfl, r1', s.ex e01, ?_⟩
  have hm1 : w1'.m = w.m := hm1
  rw [hm1]
  cases q : fb ρ w.m with
  | ok x m =>
    rw [q] at h
    intro w2 v hm2 e2 r2 h2
    subst hm2
    exact hR x w2 v e2 r2 h2 (go e2 h)
  | err x m =>
    rw [q] at h
    intro w2 cls dd hm2 e2 r2 h2
    subst hm2
    cases x with
    | exc C ns ds =>
      dsimp only at h
      split at h
      · rename_i hR
        exact hE C ns ds w2 cls dd e2 r2 h2 hR (go e2 h)
      · exact h.elim
    | _ => exact h.elim
  | stk => rw [q] at h; exact h.elim
theorem p_cau (C : Cok T F Γ W X) {f : String} {lv : Nat} {x : Str} {params : Arguments} {scope : Scope} (hx : x = so f) (hf : T.ca f = some lv) (hg : glo X.env.scope x = true) (hd : (x == ("__debug__" : Str)) = false) (htb : T.tb = true) (hk : T.ke + 2 ≤ T.k) (hL : LamX.lamSB X.env.scope scope = true) (hp : noPar params = true)
    (hb : ∀ (W' : WXX) (X' : Cx), Cok T.low F Γ W' X' → X'.N = X.N → X'.env.scope = scope → PE X' b (LE F W' fb)) :
    PE X (.Call (.Name x p) [.Lambda params b scope lpos] [] pos) (LE F W (cauF Γ f fb)) := by
  subst hx
  obtain ⟨hlv, g, x0, pg, bg, sg, dV, kV, doc, pm, cdv, ct, oc, an, od, osl, Ng, hm, hkp, lk, hcg, hbd, Sg, hN0, hv0, hd0, hG⟩ := C.cau f lv hf
  obtain ⟨c, P, hc, TB, hmem, huni⟩ := C.tab htb
  obtain ⟨e1, e2⟩ := isD_ok hd0
  have hK := C.hK
  have hpar := noPar_ok hp
  have R : Room (T.k - 2 + 2) X.A := C.room.mono (by omega)
  have L := LamX.lamS_by hL
  exact PEi (LamX.pe_lamcall (k := T.k - 2) (T := F.tabs) (TT := TTc F Γ.mro (Γ.fn f)) (t := fun E => LE F (fun cls d _ H => E cls d H) fb) (glo_ok hg) hm (hK ▸ hkp) (hK ▸ lk) (hK ▸ hcg) (hK ▸ hbd) Sg hN0 hv0
    (hG X _ hK rfl rfl rfl rfl (C.room.mono hlv)) TB hc hmem huni R L (by subst hpar; rfl) (fun q cl pm cv ctv => by subst hpar; rfl)
    (fun A outer s H E f c' hr => hb _ _ (Cok.lam C hk hr) rfl rfl) hd e1 e2) fun σ H Q h => cau_lam h
theorem p_cauD (C : Cok T F Γ W X) {f : String} {lv : Nat} {x a1 : Str} {z : Int} {j : Nat} {pa pz : Pos} {scope : Scope} (hx : x = so f) (hf : T.ca f = some lv) (hg : glo X.env.scope x = true) (hd : (x == ("__debug__" : Str)) = false) (htb : T.tb = true) (hk : T.ke + 2 ≤ T.k) (hL : LamD.scDB X.env.scope scope a1 = true) (hNa : a1 ∉ X.N)
    (ha : a1 = "a1" ∨ a1 = "a2" ∨ a1 = "a3")
    (hb : ∀ (W' : WXX) (X' : Cx), Cok T.low F Γ W' X' → X'.N = X.N → X'.env.scope = scope → PE X' b (LE F W' fb)) :
    PE X (.Call (.Name x p) [.Lambda (LamD.parD a1 z j pa pz) b scope lpos] [] pos) (LE F W (cauF Γ f fb)) := by
  subst hx
  obtain ⟨hlv, g, x0, pg, bg, sg, dV, kV, doc, pm, cdv, ct, oc, an, od, osl, Ng, hm, hkp, lk, hcg, hbd, Sg, hN0, hv0, hd0, hG⟩ := C.cau f lv hf
  obtain ⟨c, P, hc, TB, hmem, huni⟩ := C.tab htb
  obtain ⟨e1, e2⟩ := isD_ok hd0
  have hK := C.hK
  have R : Room (T.k - 2 + 2) X.A := C.room.mono (by omega)
  have L := LamD.scD_by hL
  have bd : LamD.BindD a1 z j pa pz b scope := by
    rcases ha with rfl | rfl | rfl
    · exact LamD.bindD_1
    · exact LamD.bindD_2
    · exact LamD.bindD_3
  exact PEi (LamD.pe_lamD (k := T.k - 2) (T := F.tabs) (TT := TTc F Γ.mro (Γ.fn f)) (t := fun E => LE F (fun cls d _ H => E cls d H) fb) (glo_ok hg) hm (hK ▸ hkp) (hK ▸ lk) (hK ▸ hcg) (hK ▸ hbd) Sg hN0 hv0
    (hG X _ hK rfl rfl rfl rfl (C.room.mono hlv)) TB hc hmem huni R L hNa bd (fun A outer s H E f c' hr => hb _ _ (Cok.lam C hk hr) rfl rfl) hd e1 e2) fun σ H Q h => cau_lam h
/-- the parameter of a lambda: none, or one with a default -/
def parOf : Arguments → Option (Str × Int × Nat × Pos × Pos)
  | ⟨[], [⟨a1, none, pa⟩], none, [], [], none, [.Constant (.int z) j pz]⟩ => some (a1, z, j, pa, pz)
  | _ => none
theorem parOf_ok {p : Arguments} {a1 : Str} {z : Int} {j : Nat} {pa pz : Pos} (h : parOf p = some (a1, z, j, pa, pz)) : p = LamD.parD a1 z j pa pz := by
  unfold parOf at h
  split at h
  · cases h; rfl
  · cases h
end
end PL

set_option Elab.async false
set_option linter.all false
set_option maxRecDepth 100000
set_option maxHeartbeats 4000000
/-! PL.Rep: repr of plain data, where the guards around are known. -/
namespace PLX
open PySem PySem.Spec PyProof.Rows L2
/-- repr(v), v a list or a tuple of plain data -/
def rRepD (K : PySem.W.Frag) : List V → Hp → VK → Prop := fun xs H Q => ∃ (a : Addr) (d : PyData), xs = [.ref a] ∧ Dp K H (.ref a) d ∧ d.showable = true ∧ d.hasDict = false ∧ d.shown.length ≤ sizeLine ∧ d.depth ≤ 62 ∧ Q (.str d.shown) H
theorem call_repD {X : Cx} (hg : X.A.guards = some []) (hu : X.A.units + 64 < cLine) : CallR X (.builtin "repr") (rRepD X.K) := by
  intro pins s σ H xs us Q I r h
  obtain ⟨a, d, rfl, hd, h1, h2, h3, h4, q⟩ := h
  cases r with
  | cons r1 r2 =>
    cases r2
    cases r1
    obtain ⟨as, hr⟩ := Dp.reads I d _ (.ref a) hd rfl
    exact repr_of_reads' hr h1 (fun z => by rw [h2] at z; cases z) hg (by omega) (fun _ _ e => e) (fun h' u tk k => ⟨.str d.shown, H, I.kept (t' := tk) k, ⟨u, rfl⟩, q⟩) h3
end PLX

set_option Elab.async false
set_option linter.all false
set_option maxRecDepth 100000
set_option maxHeartbeats 4000000
/-! PL.Txt: how long the text of plain data is at most. -/
namespace PLX
open PySem PySem.Spec PyProof.Rows L2 PL
theorem list_len (ts : List Str) : (listText ts).length ≤ piled ts + 3 := by
  have hX : (listText ts).length = (textFrom 0 "[" ts).length + 1 := by
    show (textFrom 0 "[" ts ++ "]").length = _
    rw [strLen_append]; rfl
  rw [hX]
  cases ts with
  | nil => show (Str.ofString "[").length + 1 ≤ _; decide +kernel
  | cons t r =>
    have h := textFrom_length_pos r 1 ("[" ++ (if 0 > 0 then ", " else "" : String) ++ t) (by omega)
    have e : textFrom 0 "[" (t :: r) = textFrom 1 ("[" ++ (if 0 > 0 then ", " else "" : String) ++ t) r := rfl
    rw [e, h, piled_cons, strLen_append, strLen_append]
    have e1 : ((("[" : String) : Str)).length = 1 := rfl
    have e2 : (((if 0 > 0 then ", " else "" : String) : Str)).length = 0 := rfl
    omega
theorem tup_len (ts : List Str) : (tupleText ts).length ≤ piled ts + 3 := by
  have e3 : (((if ts.length == 1 then ",)" else ")" : String) : Str)).length ≤ 2 := by split <;> decide +kernel
  have e1 : ((("(" : String) : Str)).length = 1 := rfl
  unfold tupleText
  rw [strLen_append, strLen_append, e1]
  by_cases h : ts = []
  · subst h
    decide +kernel
  · have := join_length_add ts h
    omega
theorem none_len : (PyData.shown .none).length ≤ 5 := by decide +kernel
mutual
theorem shown_len : ∀ d : D, (toPy d).showable = true → ((toPy d).shown).length ≤ txtN d
  | .int i, h => by
    have h : i.natAbs.log2 < 1920 := by simpa [toPy, PyData.showable] using h
    have := int_text_length_le (k := 1920) (by decide) h
    simp only [toPy, PyData.shown, txtN]
    rw [show (Str.ofString (toString i)).length = (toString i).length from len_so _]
    omega
  | .str x, _ => by
    simp only [toPy, PyData.shown, txtN]
    have := StrLaws.reprText_len (so x) (fun c hc => by
      have hs := strOk_so x
      have hs : (so x).cps.all _ = true := hs
      rw [Array.all_eq_true] at hs
      obtain ⟨i, hi, rfl⟩ := List.getElem_of_mem hc
      have q := hs i (by simpa using hi)
      simp only [decide_eq_true_eq] at q
      have : (so x).cps.toList[i] = (so x).cps[i]'(by simpa using hi) := by simp
      omega)
    rw [len_so] at this
    exact this
  | .tup ds, h => by
    simp only [toPy, PyData.shown, txtN]
    have := shownL_len ds (by simpa [toPy, PyData.showable] using h)
    have := tup_len (PyData.shownAll (toPyL ds))
    omega
  | .lst ds, h => by
    simp only [toPy, PyData.shown, txtN]
    have := shownL_len ds (by simpa [toPy, PyData.showable] using h)
    have := list_len (PyData.shownAll (toPyL ds))
    omega
  | .bl b, _ => by cases b <;> (show (Str.length _) ≤ 5; decide +kernel)
  | .non, _ => by show (Str.length _) ≤ 5; decide +kernel
  | .ty _, _ => none_len
  | .dct _ _, _ => none_len
  | .obj _ _ _, _ => none_len
  | .exc _ _ _, _ => none_len
  | .ref _, _ => none_len
  | .cls _, _ => none_len
theorem shownL_len : ∀ ds : List D, PyData.showableAll (toPyL ds) = true → piled (PyData.shownAll (toPyL ds)) ≤ txtL ds
  | [], _ => by simp [toPyL, PyData.shownAll, piled_nil, txtL]
  | d :: ds, h => by
    simp only [toPyL, PyData.showableAll, Bool.and_eq_true] at h
    simp only [toPyL, PyData.shownAll, piled_cons, txtL]
    have := shown_len d h.1
    have := shownL_len ds h.2
    omega
end
end PLX

set_option Elab.async false
set_option linter.all false
set_option maxRecDepth 100000
set_option maxHeartbeats 4000000
/-! PL.Ops: built-in operations on values. -/
namespace PL
open PySem L2 PySem.Spec PyProof.Rows
section
variable {T : Tb} {F : Fx} {Γ : Gam} {W : WXX} {X : Cx} {a b c e : Expr} {fa fb fc : Env → Mem → Out D} {pos : Pos}
mutual
theorem showB_ok : ∀ d : D, D.showB d = true → (toPy d).showable = true ∧ (toPy d).hasDict = false
  | .non, _ => ⟨rfl, rfl⟩
  | .bl _, _ => ⟨rfl, rfl⟩
  | .int i, h => ⟨by simpa [toPy, PyData.showable, D.showB] using h, rfl⟩
  | .str _, _ => ⟨by simp [toPy, PyData.showable], rfl⟩
  | .tup ds, h => by
    have := showBL_ok ds (by simpa [D.showB] using h)
    exact ⟨by simpa [toPy, PyData.showable] using this.1, by simpa [toPy, PyData.hasDict] using this.2⟩
  | .lst ds, h => by
    have := showBL_ok ds (by simpa [D.showB] using h)
    exact ⟨by simpa [toPy, PyData.showable] using this.1, by simpa [toPy, PyData.hasDict] using this.2⟩
  | .ty _, h => by simp [D.showB] at h
  | .dct _ _, h => by simp [D.showB] at h
  | .obj _ _ _, h => by simp [D.showB] at h
  | .exc _ _ _, h => by simp [D.showB] at h
  | .ref _, h => by simp [D.showB] at h
  | .cls _, h => by simp [D.showB] at h
theorem showBL_ok : ∀ ds : List D, D.showBL ds = true → PyData.showableAll (toPyL ds) = true ∧ PyData.hasDictAll (toPyL ds) = false
  | [], _ => ⟨rfl, rfl⟩
  | d :: ds, h => by
    simp only [D.showBL, Bool.and_eq_true] at h
    have h1 := showB_ok d h.1
    have h2 := showBL_ok ds h.2
    simp only [toPyL, PyData.showableAll, PyData.hasDictAll, h1.1, h1.2, h2.1, h2.2]
    exact ⟨rfl, rfl⟩
end
/-- repr(v), v plain data -/
def rRepV (K : PySem.W.Frag) : List V → Hp → VK → Prop := fun xs H Q => ∃ (v : V) (d : PyData), xs = [v] ∧ Dp K H v d ∧ d.showable = true ∧ d.hasDict = false ∧ d.shown.length ≤ sizeLine ∧ d.depth ≤ 62 ∧ Q (.str d.shown) H
theorem call_repV (hg : X.A.guards = some []) (hu : X.A.units + 64 < cLine) : CallR X (.builtin "repr") (rRepV X.K) := by
  intro pins s σ H xs us Q I r h
  obtain ⟨v, d, rfl, hd, h1, h2, h3, h4, q⟩ := h
  by_cases hr : ∃ a, v = .ref a
  · obtain ⟨a, rfl⟩ := hr
    exact PLX.call_repD hg hu pins s σ H _ us Q I r ⟨a, d, rfl, hd, h1, h2, h3, h4, q⟩
  · cases r with
    | cons r1 r2 =>
      cases r2
      cases hd with
      | non => cases r1; exact PySem.P.repr_of_none ⟨.str _, H, I.tok _, ⟨_, rfl⟩, q⟩
      | bl b => cases r1; exact PySem.P.repr_of_bool ⟨.str _, H, I.tok _, ⟨_, rfl⟩, q⟩
      | int i => 
        obtain ⟨t, rfl⟩ := r1
        exact PySem.P.repr_of_int (by simpa [PyData.showable] using h1) ⟨.str _, H, I.tok _, ⟨_, rfl⟩, q⟩
      | str x =>
        obtain ⟨t, rfl⟩ := r1
        exact PySem.P.repr_of_str ⟨.str _, H, I.tok _, ⟨_, rfl⟩, q⟩ h3
      | lst _ _ => exact absurd ⟨_, rfl⟩ hr
      | tup _ _ => exact absurd ⟨_, rfl⟩ hr
def negO (neg : Bool) : COp := if neg then .ne else .eq
/-- the parts of an operation's text -/
def mo1 (T : Tb) (sc : Scope) : O1 → Expr → Option Expr
  | _, _ => none
def mo2 (T : Tb) (sc : Scope) : O2 → Expr → Option (Expr × Expr)
  | .cmr neg, .Compare (.Call (.Name x _) [a] [] _) [o] [.Call (.Name y _) [b] [] _] _ => if T.gd = true ∧ x = so "repr" ∧ y = so "repr" ∧ glo sc x = true ∧ o = copOf (negO neg) ∧ noStar a = true ∧ noStar b = true then some (a, b) else none
  | _, _ => none
def mo3 (T : Tb) (sc : Scope) : O3 → Expr → Option (Expr × Expr × Expr)
  | _, _ => none
abbrev op1F (Γ : Gam) (o : O1) (fa : Env → Mem → Out D) : Env → Mem → Out D := fun ρ m => (fa ρ m).bind fun x m => .of m (op1S Γ m o x)
abbrev op2F (Γ : Gam) (o : O2) (fa fb : Env → Mem → Out D) : Env → Mem → Out D := fun ρ m => (fa ρ m).bind fun x m => if pre2 o x = true then (fb ρ m).bind fun y m => .of m (op2S Γ m o x y) else .stk
abbrev op3F (Γ : Gam) (o : O3) (fa fb fc : Env → Mem → Out D) : Env → Mem → Out D := fun ρ m => (fa ρ m).bind fun x m => (fb ρ m).bind fun y m => (fc ρ m).bind fun z m => .of m (op3S Γ m o x y z)
theorem rep_ok {w : Wo} (r : Rel F w) {d : D} {v : V} (h : reprOk (rd w.m d) = true) (hv : Rp F w d v) {Q : VK} (q : Q (.str (toPy (rd w.m d)).shown) w.H) : rRepV F.K [v] w.H Q := by
  unfold reprOk at h
  simp only [Bool.and_eq_true, decide_eq_true_eq] at h
  obtain ⟨⟨h1, h2⟩, h3⟩ := h
  obtain ⟨k1, k2⟩ := showB_ok _ h2
  have := PLX.shown_len (rd w.m d) k1
  have k4 := (plain_shape 60 _ h1).2
  exact ⟨v, _, rfl, toDpR r 60 d v h1 hv, k1, k2, by rw [sizeLine_eq]; omega, by omega, q⟩
theorem rd_plain {m : Mem} {x : D} (h : D.plain 60 x = true) : rd m x = x := by
  cases x with
  | ref i => simp [D.plain] at h
  | _ => rfl
theorem RpL.one {w : Wo} {d : D} {vs : List V} (h : RpL F w [d] vs) : ∃ v, vs = [v] ∧ Rp F w d v := by
  simp only [RpL] at h
  obtain ⟨v, vs', rfl, h1, rfl⟩ := h
  exact ⟨v, rfl, h1⟩
/-- repr(a) as the layer reads it -/
abbrev tRep (F : Fx) (W : WXX) (K : PySem.W.Frag) (f : Env → Mem → Out D) : TE := tCB (rRepV K) (LA F W fun ρ m => (f ρ m).bind fun x m => .ok (.tup [x]) m)
theorem p_rep (C : Cok T F Γ W X) (hgd : T.gd = true) {p1 p2 : Pos} (hg : glo X.env.scope (so "repr") = true) (h0 : noStar e = true) {f : Env → Mem → Out D} (he : PE X e (LE F W f)) : PE X (.Call (.Name (so "repr") p1) [e] [] p2) (tRep F W X.K f) :=
  pe_callB (call_repV (X := X) (C.gd hgd) C.room.units) (glo_ok hg) (C.nb "repr" (by decide)) (by decide +kernel) (PAi (a_cons h0 he a_nil) fun σ H Q ⟨ρ, w, e', r, s, h⟩ => ⟨ρ, w, e', r, s, by simpa using h⟩) (by decide +kernel) (by decide +kernel) (star_cons h0 [] X.env) (star_any p2 X.env [] rfl)
def rSame (neg : Bool) : R2 := fun x y H Q => ∃ i, x = .str i ∧ y = .str i ∧ Q (.bl (!neg)) H
theorem op_same (neg : Bool) : OpR X (compareOp (copOf (negO neg))) (rSame neg) := by
  cases neg
  · intro pins s σ H x y v u Q I rx ry ⟨i, e1, e2, q⟩
    exact op_eq pins s σ H x y v u Q I rx ry (by subst e1 e2; exact ⟨rfl, by simpa using q⟩)
  · intro pins s σ H x y v u Q I rx ry ⟨i, e1, e2, q⟩
    exact op_ne pins s σ H x y v u Q I rx ry (by subst e1 e2; exact ⟨rfl, by simpa using q⟩)
theorem cmr_read (hK : X.K = F.K) {neg : Bool} {σ : L2.St} {H : Hp} {Q : VK} (h : LE F W (op2F Γ (.cmr neg) fa fb) σ H Q) : tOp (rSame neg) (tRep F W X.K fa) (tRep F W X.K fb) σ H Q := by
  obtain ⟨ρ, w, e, r, s, h⟩ := h
  subst e
  refine lft_bind (R := RA F) (f := fun ρ m => (fa ρ m).bind fun x m => .ok (.tup [x]) m) (k := fun d m => match d with | .tup [x] => if pre2 (.cmr neg) x = true then (fb ρ m).bind fun y m => .of m (op2S Γ m (.cmr neg) x y) else .stk | _ => .stk) r s (by
    rw [bind_assoc]; exact h) fun x w1 vs e1 r1 s1 h1 p1 => ?_
  obtain ⟨ds, rfl, h1⟩ := h1
  split at p1
  rotate_left
  · exact p1.elim
  rename_i x q
  cases q
  obtain ⟨v, rfl, k1⟩ := RpL.one h1
  split at p1
  rotate_left
  · exact p1.elim
  rename_i hx
  have hx : reprOk x = true := hx
  have hp : D.plain 60 x = true := by unfold reprOk at hx; simp only [Bool.and_eq_true] at hx; exact hx.1.1
  rw [hK]
  refine rep_ok r1 (by rw [rd_plain hp]; exact hx) k1 ?_
  rw [rd_plain hp]
  refine lft_bind (R := RA F) (f := fun ρ m => (fb ρ m).bind fun x m => .ok (.tup [x]) m) (k := fun d m => match d with | .tup [y] => .of m (op2S Γ m (.cmr neg) x y) | _ => .stk) r1 s1 (by
    rw [bind_assoc]; exact p1) fun y w2 us e2 r2 s2 h2 p2 => ?_
  obtain ⟨ds, rfl, h2⟩ := h2
  split at p2
  rotate_left
  · exact p2.elim
  rename_i y q
  cases q
  obtain ⟨u, rfl, k2⟩ := RpL.one h2
  obtain ⟨d, hd, p3⟩ := p2.of
  simp only [op2S] at hd
  split at hd
  rotate_left
  · cases hd
  rename_i hc
  cases hd
  refine rep_ok r2 hc.1 k2 ?_
  rw [← hc.2]
  exact ⟨_, rfl, rfl, p3.ok r2 (by simp only [RE, Rp])⟩
theorem p_cmr (C : Cok T F Γ W X) (hgd : T.gd = true) {neg : Bool} {p1 p2 p3 p4 : Pos} (hg : glo X.env.scope (so "repr") = true) (ha0 : noStar a = true) (hb0 : noStar b = true) (ha : PE X a (LE F W fa)) (hb : PE X b (LE F W fb)) :
    PE X (.Compare (.Call (.Name (so "repr") p1) [a] [] p2) [copOf (negO neg)] [.Call (.Name (so "repr") p3) [b] [] p4] pos) (LE F W (op2F Γ (.cmr neg) fa fb)) :=
  PEi (pe_cmpR (op_same neg) (p_rep C hgd hg ha0 ha) (p_rep C hgd hg hb0 hb) (by cases neg <;> rfl)) fun σ H Q h => cmr_read C.hK h
theorem bl_read {f : Env → Mem → Out D} (hb : ∀ ρ m d m', f ρ m = .ok d m' → ∃ k, d = .bl k) {σ : L2.St} {H : Hp} {Q : Bool → Hp → Prop} (h : LT F W (evT f) σ H Q) : LE F W f σ H fun v H' => ∃ k, v = .bl k ∧ Q k H' := by
  obtain ⟨ρ, w, e', r, s, h⟩ := h
  refine ⟨ρ, w, e', r, s, ?_⟩
  unfold evT at h
  cases q : f ρ w.m with
  | ok d m =>
    obtain ⟨k, rfl⟩ := hb _ _ _ _ q
    rw [q] at h
    intro w' v h1 h2 h3 h4
    simp only [RE, Rp] at h4
    exact ⟨k, h4, h w' k h1 h2 h3 rfl⟩
  | err x m => rw [q] at h; exact h
  | stk => rw [q] at h; exact h
/-- a test whose truth is looked at as a value -/
def plT : Expr → Bool
  | .UnaryOp .Not _ _ => false
  | .BoolOp _ _ _ => false
  | .IfExp _ _ _ _ => false
  | .Compare _ _ _ _ => false
  | _ => true
theorem plT_ok {a : Expr} (h : plT a = true) (env : PySem.Env) : ∀ whole, isTrue a env whole = (do let v ← whole; standAt a.pos; holding [v] (truthy v)) := by
  intro whole
  cases a with
  | UnaryOp op e p => cases op <;> first | rfl | (cases h; done)
  | _ => first | rfl | (cases h; done)
/-- what gives True or False -/
def isT1 : O1 → Bool
  | .boolC => true
  | _ => false
def isT2 : O2 → Bool
  | .cmr _ => true
  | _ => false
theorem op1_bl {o : O1} (ht : isT1 o = true) {x d : D} {m : Mem} (h : op1S Γ m o x = some d) : ∃ k, d = .bl k := by
  cases o <;> first | (cases ht; done) | (simp [op1S] at h; done)
theorem op2_bl {o : O2} (ht : isT2 o = true) {x y d : D} {m : Mem} (h : op2S Γ m o x y = some d) : ∃ k, d = .bl k := by
  cases o <;> first | (cases ht; done) | skip
  simp only [op2S] at h
  split at h
  · cases h; exact ⟨_, rfl⟩
  · cases h
/-- a test by its value, which is True or False -/
theorem pt_bl {f : Env → Mem → Out D} (hp : plT e = true) (he : PE X e (LE F W f)) (hb : ∀ ρ m d m', f ρ m = .ok d m' → ∃ k, d = .bl k) : PT X e (LT F W (evT f)) := PTi (pt_val he (plT_ok hp _)) fun σ H Q h => bl_read hb h
theorem op1F_bl {o : O1} (ht : isT1 o = true) (ρ : Env) (m : Mem) (d : D) (m' : Mem) (h : op1F Γ o fa ρ m = .ok d m') : ∃ k, d = .bl k := by
  unfold op1F at h
  cases q : fa ρ m with
  | ok x m1 =>
    rw [q] at h
    simp only [Out.bind_ok] at h
    cases q2 : op1S Γ m1 o x with
    | none => rw [q2] at h; cases h
    | some z => rw [q2] at h; cases h; exact op1_bl ht q2
  | err _ _ => rw [q] at h; cases h
  | stk => rw [q] at h; cases h
theorem op2F_bl {o : O2} (ht : isT2 o = true) (ρ : Env) (m : Mem) (d : D) (m' : Mem) (h : op2F Γ o fa fb ρ m = .ok d m') : ∃ k, d = .bl k := by
  unfold op2F at h
  cases q : fa ρ m with
  | ok x m1 =>
    rw [q] at h
    simp only [Out.bind_ok] at h
    split at h
    · cases q3 : fb ρ m1 with
      | ok y m2 =>
        rw [q3] at h
        simp only [Out.bind_ok] at h
        cases q2 : op2S Γ m2 o x y with
        | none => rw [q2] at h; cases h
        | some z => rw [q2] at h; cases h; exact op2_bl ht q2
      | err _ _ => rw [q3] at h; cases h
      | stk => rw [q3] at h; cases h
    · cases h
  | err _ _ => rw [q] at h; cases h
  | stk => rw [q] at h; cases h
theorem p_op1 (C : Cok T F Γ W X) {o : O1} (hm : mo1 T X.env.scope o e = some a) (ha : PE X a (LE F W fa)) : PE X e (LE F W (op1F Γ o fa)) := by
  unfold mo1 at hm
  cases hm
theorem p_op2 (C : Cok T F Γ W X) {o : O2} (hm : mo2 T X.env.scope o e = some (a, b)) (ha : PE X a (LE F W fa)) (hb : PE X b (LE F W fb)) : PE X e (LE F W (op2F Γ o fa fb)) := by
  unfold mo2 at hm
  split at hm
  · split at hm
    · rename_i h
      obtain ⟨h1, rfl, rfl, h2, rfl, h3, h4⟩ := h
      cases hm
      exact p_cmr C h1 h2 h3 h4 ha hb
    · cases hm
  · cases hm
theorem pt_op2 (C : Cok T F Γ W X) {o : O2} (ht : isT2 o = true) (hm : mo2 T X.env.scope o e = some (a, b)) (ha : PE X a (LE F W fa)) (hb : PE X b (LE F W fb)) : PT X e (LT F W (evT (op2F Γ o fa fb))) := by
  unfold mo2 at hm
  split at hm
  · split at hm
    · rename_i neg _ _ _ _ _ _ _ _ _ _ _ h
      obtain ⟨h1, rfl, rfl, h2, rfl, h3, h4⟩ := h
      cases hm
      exact PTi (pt_cmpR (op_same _) (p_rep C h1 h2 h3 ha) (p_rep C h1 h2 h4 hb) (by cases neg <;> rfl)) fun σ H Q h => cmr_read C.hK (bl_read (op2F_bl ht) h)
    · cases hm
  · cases hm
theorem p_op3 (C : Cok T F Γ W X) {o : O3} (hm : mo3 T X.env.scope o e = some (a, b, c)) (ha : PE X a (LE F W fa)) (hb : PE X b (LE F W fb)) (hc : PE X c (LE F W fc)) : PE X e (LE F W (op3F Γ o fa fb fc)) := by
  unfold mo3 at hm
  cases hm
end
end PL

set_option Elab.async false
set_option linter.all false
set_option maxRecDepth 100000
set_option maxHeartbeats 4000000
/-! PL.Mt: a text is what a tree says: the look, and what follows. -/
namespace PL
open PySem L2 PySem.Spec PyProof.Rows
def isDbg (x : Str) : Bool := x == ("__debug__" : Str)
def isCdt (x : Str) : Bool := x == ("__classdict__" : Str)
def tstB (pl : Bool) (e t : Bool) : Bool := (pl && e) || t
def isNil : E → Bool
  | .nil => true
  | _ => false
def isYes : E → Bool
  | .cst (.bl true) => true
  | _ => false
def mtC (T : Tb) (sc : Scope) : D → Expr → Bool
  | .int i, .Constant (.int j) _ _ => decide (i = j)
  | .bl i, .Constant (.bool j) _ _ => decide (i = j)
  | .non, .Constant .none _ _ => true
  | .str s, .Constant (.str x) _ _ => decide (x = so s)
  | .ty n, .Name x _ => decide (x = so n) && glo sc x && tyNames.contains n
  | .cls n, .Name x _ => decide (x = so n) && glo sc x && T.kc n && !isDbg x
  | .int i, .Name x _ => glo sc x && !isDbg x && (match T.cn x with | some (.int j) => decide (j = i) | _ => false)
  | .dct [] [], .Dict [] [] _ => true
  | .str i, .Name x _ => glo sc x && !isDbg x && (match T.cn x with | some (.str j) => decide (j = i) | _ => false)
  | _, _ => false
mutual
def mtE (T : Tb) (N : List Str) (sc wr : Scope) : E → Expr → Bool
  | .var i => fun e => match e with
    | .Name x _ => decide (N[i]? = some x) && vis sc x && !isDbg x && !isCdt x
    | _ => false
  | .cst d => fun e => mtC T sc d e
  | .bin o a b => fun e => match e with
    | .BinOp a' o' b' _ => decide (o' = bopOf o) && mtE T N sc wr a a' && mtE T N sc wr b b'
    | _ => false
  | .neg a => fun e => match e with
    | .UnaryOp .USub a' _ => mtE T N sc wr a a'
    | _ => false
  | .cmp o a b => fun e => match e with
    | .Compare a' [o'] [b'] _ => decide (o' = copOf o) && !(behindInMarks (copOf o) b') && mtE T N sc wr a a' && mtE T N sc wr b b'
    | _ => false
  | .not a => fun e => match e with
    | .UnaryOp .Not a' _ => mtE T N sc wr a a'
    | _ => false
  | .and a b => fun e => match e with
    | .BoolOp .And (a' :: b' :: r) _ => mtE T N sc wr a a' && (match r with | [] => mtE T N sc wr b b' | _ => mtB T N sc wr .And b (b' :: r))
    | _ => false
  | .or a b => fun e => match e with
    | .BoolOp .Or (a' :: b' :: r) _ => mtE T N sc wr a a' && (match r with | [] => mtE T N sc wr b b' | _ => mtB T N sc wr .Or b (b' :: r))
    | _ => false
  | .ife c a b => fun e => match e with
    | .IfExp c' a' b' _ => tstB (plT c') (mtE T N sc wr c c') (mtT T N sc wr c c') && mtE T N sc wr a a' && mtE T N sc wr b b'
    | _ => false
  | .nil => fun _ => false
  | .cons _ _ => fun _ => false
  | .tup es => fun e => match e with
    | .Tuple es' _ _ => mtA T N sc wr es es'
    | _ => false
  | .lst es => fun e => match e with
    | .List es' _ => mtA T N sc wr es es'
    | _ => false
  | .ix a i => fun e => match e with
    | .Subscript a' i' _ => plIx i' && mtE T N sc wr a a' && mtE T N sc wr i i'
    | _ => false
  | .sl a lo hi => fun e => match e with
    | .Subscript a' (.Slice l h none _) _ => mtE T N sc wr a a' && (match l with | none => isNil lo | some l' => mtE T N sc wr lo l') && (match h with | none => isNil hi | some h' => mtE T N sc wr hi h')
    | _ => false
  | .att a f => fun e => match e with
    | .Attribute a' f' _ => decide (f' = so f) && noSup a' && mtE T N sc wr a a'
    | _ => false
  | .call f as => fun e => match e with
    | .Call (.Name x _) es [] _ => decide (x = so f) && (T.fl f).isSome && glo sc x && !isDbg x && mtA T N sc wr as es
    | _ => false
  | .meth m a as => fun e => match e with
    | .Call (.Attribute a' n apos) es [] pos => decide (n = so m) && (T.ml m).isSome && noSup a' && decide (es.length < 30) && (apos.endLine == pos.line) && mtE T N sc wr a a' && mtA T N sc wr as es
    | _ => false
  | .make C as => fun e => match e with
    | .Call (.Name x _) es [] _ => decide (x = so C) && (T.cl C).isSome && glo sc x && !isDbg x && mtA T N sc wr as es
    | _ => false
  | .mkx _ _ _ => fun _ => false
  | .op1 o a => fun e => match mo1 T sc o e with
    | some a' => mtE T N sc wr a a'
    | none => false
  | .op2 o a b => fun e => match mo2 T sc o e with
    | some (a', b') => mtE T N sc wr a a' && mtE T N sc wr b b'
    | none => false
  | .op3 o a b c => fun e => match mo3 T sc o e with
    | some (a', b', c') => mtE T N sc wr a a' && mtE T N sc wr b b' && mtE T N sc wr c c'
    | none => false
  | .chn o p a b c => fun e => match e with
    | .Compare a' [o', p'] [b', c'] _ => decide (o' = copOf o) && decide (p' = copOf p) && !(lastMarks [copOf o, copOf p] [b', c']) && mtE T N sc wr a a' && mtE T N sc wr b b' && mtE T N sc wr c c'
    | _ => false
  | .methk m j ks a as bs => fun e => match e with
    | .Call (.Attribute a' n apos) es kws pos => decide (n = so m) && (T.ml m).isSome && noSup a' && decide (es.length + kws.length + 1 < 30) && (apos.endLine == pos.line) && kwNames ks kws && mtE T N sc wr a a' && mtA T N sc wr as es && mtK T N sc wr bs kws
    | _ => false
  | .cau f b => fun e => match e with
    | .Call (.Name x _) [.Lambda params body scope _] [] _ => decide (x = so f) && (T.ca f).isSome && glo sc x && !isDbg x && T.tb && decide (T.ke + 2 ≤ T.k) && ((LamX.lamSB sc scope && noPar params) || (match parOf params with | some q => LamD.scDB sc scope q.1 && N.all (fun y => !decide (y = q.1)) && (decide (q.1 = "a1") || decide (q.1 = "a2") || decide (q.1 = "a3")) | none => false)) && mtE T.low N scope scope b body
    | _ => false
  | .blt b as => fun e => match e with
    | .Call (.Name x _) (e :: es) [] _ => decide (x = so (bltName b)) && glo sc x && (!decide (b = .gcd) || T.gc) && mtA T N sc wr as (e :: es)
    | _ => false
  | .itv _ => fun _ => false
  | .rng _ => fun _ => false
  | .rng2 _ _ => fun _ => false
  | .zip _ => fun _ => false
  | .enm _ => fun _ => false
  | .lc ws t it cs el => fun e => match e with
    | .ListComp elt [⟨tg, iter, ifs, 0⟩] scope _ => mtI T N sc wr it tg iter && blkC N sc scope (ws.map fun i => (N.getD i Str.empty, i)) && notSet iter && (tsl t).all (ws.contains ·) &&
        mtG T N (relS scope sc) scope t tg && (match ifs with | [] => isYes cs | [c] => tstB (plT c) (mtE T N (relS scope sc) scope cs c) (mtT T N (relS scope sc) scope cs c) | _ => false) && mtE T N (relS scope sc) scope el elt
    | _ => false
  | .lc2 ws t it cs ws1 t1 it1 cs1 el => fun e => match e with
    | .ListComp elt [⟨tg, iter, ifs, 0⟩, ⟨tg1, iter1, ifs1, 0⟩] scope _ => mtI T N sc wr it tg iter && blkC N sc scope (ws.map fun i => (N.getD i Str.empty, i)) && notSet iter && notSet iter1 && ws1.all (ws.contains ·) && (tsl t).all (ws.contains ·) && (tsl t1).all (ws1.contains ·) &&
        mtG T N (relS scope sc) scope t tg && (match ifs with | [] => isYes cs | [c] => tstB (plT c) (mtE T N (relS scope sc) scope cs c) (mtT T N (relS scope sc) scope cs c) | _ => false) &&
        mtI T N (relS scope sc) scope it1 tg1 iter1 && mtG T N (relS scope sc) scope t1 tg1 && (match ifs1 with | [] => isYes cs1 | [c] => tstB (plT c) (mtE T N (relS scope sc) scope cs1 c) (mtT T N (relS scope sc) scope cs1 c) | _ => false) && mtE T N (relS scope sc) scope el elt
    | _ => false
  | .frz i => fun e => match e with
    | .Name x _ => decide (N[i]? = some x) && vis sc x && !isDbg x && !isCdt x
    | _ => false
  | .nls es => fun e => match e with
    | .List es' _ => mtA T N sc wr es es'
    | _ => false
  | .callk f n ks as bs => fun e => match e with
    | .Call (.Name x _) es kws _ => decide (x = so f) && (T.fl f).isSome && glo sc x && !isDbg x && kwNames ks kws && mtA T N sc wr as es && mtK T N sc wr bs kws
    | _ => false
  | .makek C n ks as bs => fun e => match e with
    | .Call (.Name x _) es kws _ => decide (x = so C) && (T.cl C).isSome && glo sc x && !isDbg x && kwNames ks kws && mtA T N sc wr as es && mtK T N sc wr bs kws
    | _ => false
/-- keywords -/
def mtK (T : Tb) (N : List Str) (sc wr : Scope) : E → List Keyword → Bool
  | .nil => fun e => match e with
    | [] => true
    | _ => false
  | .cons a r => fun e => match e with
    | ⟨_, e, _⟩ :: es => mtE T N sc wr a e && mtK T N sc wr r es
    | _ => false
  | _ => fun _ => false
/-- an argument list -/
def mtA (T : Tb) (N : List Str) (sc wr : Scope) : E → List Expr → Bool
  | .nil => fun e => match e with
    | [] => true
    | _ => false
  | .cons a r => fun e => match e with
    | e :: es => noStar e && mtE T N sc wr a e && mtA T N sc wr r es
    | _ => false
  | _ => fun _ => false
/-- the rest of an and, an or -/
def mtB (T : Tb) (N : List Str) (sc wr : Scope) (o : PySem.BoolOp) : E → List Expr → Bool
  | .and a b => fun e => match o, e with
    | .And, a' :: b' :: r => mtE T N sc wr a a' && (match r with | [] => mtE T N sc wr b b' | _ => mtB T N sc wr .And b (b' :: r))
    | _, _ => false
  | .or a b => fun e => match o, e with
    | .Or, a' :: b' :: r => mtE T N sc wr a a' && (match r with | [] => mtE T N sc wr b b' | _ => mtB T N sc wr .Or b (b' :: r))
    | _, _ => false
  | _ => fun _ => false
/-- a test of its own kind -/
def mtT (T : Tb) (N : List Str) (sc wr : Scope) : E → Expr → Bool
  | .op1 o a => fun e => plT e && isT1 o && match mo1 T sc o e with
    | some a' => mtE T N sc wr a a'
    | none => false
  | .op2 o a b => fun e => isT2 o && match mo2 T sc o e with
    | some (a', b') => mtE T N sc wr a a' && mtE T N sc wr b b'
    | none => false
  | .cmp o a b => fun e => match e with
    | .Compare a' [o'] [b'] _ => decide (o' = copOf o) && !(behindInMarks (copOf o) b') && mtE T N sc wr a a' && mtE T N sc wr b b'
    | _ => false
  | .chn o p a b c => fun e => match e with
    | .Compare a' [o', p'] [b', c'] _ => decide (o' = copOf o) && decide (p' = copOf p) && !(lastMarks [copOf o, copOf p] [b', c']) && mtE T N sc wr a a' && mtE T N sc wr b b' && mtE T N sc wr c c'
    | _ => false
  | .not a => fun e => match e with
    | .UnaryOp .Not a' _ => tstB (plT a') (mtE T N sc wr a a') (mtT T N sc wr a a')
    | _ => false
  | .and a b => fun e => match e with
    | .BoolOp .And (a' :: b' :: r) _ => tstB (plT a') (mtE T N sc wr a a') (mtT T N sc wr a a') && (match r with | [] => tstB (plT b') (mtE T N sc wr b b') (mtT T N sc wr b b') | _ => mtW T N sc wr .And b (b' :: r))
    | _ => false
  | .or a b => fun e => match e with
    | .BoolOp .Or (a' :: b' :: r) _ => tstB (plT a') (mtE T N sc wr a a') (mtT T N sc wr a a') && (match r with | [] => tstB (plT b') (mtE T N sc wr b b') (mtT T N sc wr b b') | _ => mtW T N sc wr .Or b (b' :: r))
    | _ => false
  | _ => fun _ => false
def mtW (T : Tb) (N : List Str) (sc wr : Scope) (o : PySem.BoolOp) : E → List Expr → Bool
  | .and a b => fun e => match o, e with
    | .And, a' :: b' :: r => tstB (plT a') (mtE T N sc wr a a') (mtT T N sc wr a a') && (match r with | [] => tstB (plT b') (mtE T N sc wr b b') (mtT T N sc wr b b') | _ => mtW T N sc wr .And b (b' :: r))
    | _, _ => false
  | .or a b => fun e => match o, e with
    | .Or, a' :: b' :: r => tstB (plT a') (mtE T N sc wr a a') (mtT T N sc wr a a') && (match r with | [] => tstB (plT b') (mtE T N sc wr b b') (mtT T N sc wr b b') | _ => mtW T N sc wr .Or b (b' :: r))
    | _, _ => false
  | _ => fun _ => false
/-- what is walked over -/
def mtI (T : Tb) (N : List Str) (sc wr : Scope) : E → Expr → Expr → Bool
  | .itv a => fun _ e => mtE T N sc wr a e
  | .rng a => fun _ e => match e with
    | .Call (.Name x _) [e] [] _ => decide (x = so "range") && glo sc x && noStar e && mtE T N sc wr a e
    | _ => false
  | .rng2 a b => fun _ e => match e with
    | .Call (.Name x _) [e, e2] [] _ => decide (x = so "range") && glo sc x && noStar e && noStar e2 && mtE T N sc wr a e && mtE T N sc wr b e2
    | _ => false
  | .zip es => fun tg e => match tg, e with
    | .Tuple _ _ _, .Call (.Name x _) (a :: r) [] _ => decide (x = so "zip") && glo sc x && mtA T N sc wr es (a :: r)
    | _, _ => false
  | .enm a => fun tg e => match tg, e with
    | .Tuple _ _ _, .Call (.Name x _) [e] [] _ => decide (x = so "enumerate") && glo sc x && noStar e && mtE T N sc wr a e
    | _, _ => false
  | _ => fun _ _ => false
/-- a target -/
def mtG (T : Tb) (N : List Str) (sc wr : Scope) : E → Expr → Bool
  | .var i => fun e => match e with
    | .Name x _ => decide (N[i]? = some x) && loc wr x
    | _ => false
  | .tup ts => fun e => match e with
    | .Tuple es _ _ => decide (spn ts = es.length) && mtGs T N sc wr ts es
    | _ => false
  | _ => fun _ => false
def mtGs (T : Tb) (N : List Str) (sc wr : Scope) : E → List Expr → Bool
  | .nil => fun e => match e with
    | [] => true
    | _ => false
  | .cons a r => fun e => match e with
    | e :: es => noStar e && mtG T N sc wr a e && mtGs T N sc wr r es
    | _ => false
  | _ => fun _ => false
end
end PL

set_option Elab.async false
set_option linter.all false
set_option maxRecDepth 100000
set_option maxHeartbeats 4000000
/-! PL.Mt2: what the look at expressions gives. -/
namespace PL
open PySem L2 PySem.Spec PyProof.Rows
structure Sc (X : Cx) (N : List Str) (sc wr : Scope) : Prop where
  hN : X.N = N
  hs : X.env.scope = sc
  wr : ∀ x, loc wr x = true → Loc X.env.scope x ∧ (X.fn x = true ∨ X.env.scope.names.lookup x = some .local)
theorem Cok.blk {T : Tb} {F : Fx} {Γ : Gam} {W : WXX} {X : Cx} (C : Cok T F Γ W X) (s : Shared) (H : Hp) (scope : Scope) (env : PySem.Env) (fp : List Addr) (hq : env.qual = X.env.qual := by rfl) (hc : env.code = X.env.code := by rfl) : Cok T F Γ NoW (X.blk s H scope env fp) :=
  { hK := C.hK, calm := C.calm, nd := C.nd, tk := fun _ _ ⟨_, _, _, _, _, _, _, _, _, _, _, _, _, _, _, _, w⟩ => w.elim, ac := C.ac, room := C.room, glob := C.glob, blt := C.blt, rng := C.rng, zip := C.zip, enm := C.enm, bool := C.bool, str := C.str, dict := C.dict, gcd := C.gcd, meth := C.meth, make := C.make, plan := C.plan, clk := C.clk, kke := C.kke, cnI := C.cnI, cnS := C.cnS, eqm := C.eqm, clv := C.clv, exc := C.exc, cau := C.cau, nb := C.nb, gd := C.gd, tab := fun h => by
      obtain ⟨c, P, h1, h2, h3, h4⟩ := C.tab h
      exact ⟨c, P, hc.trans h1, h2, by show (P, env.qual ++ _) ∈ _; rw [hq]; exact h3, by show ∀ p : Addr × Str, p ∈ F.tabs → p.1 = P → p.2 = env.qual ++ _; rw [hq]; exact h4⟩ }
theorem lookup_rel_cell {sc : Scope} : ∀ {names : List (Str × NameKind)} {x : Str}, names.lookup x = some .cell →
    (names.map fun (n, k) => if (k == NameKind.free && sc.kind == .function && sc.names.lookup n == some .cell) then (n, NameKind.cell) else (n, k)).lookup x = some .cell
  | [], _, h => by simp at h
  | (n, k) :: r, x, h => by
    have ih := @lookup_rel_cell sc r x
    show List.lookup x ((if (k == NameKind.free && sc.kind == .function && sc.names.lookup n == some .cell) = true then (n, NameKind.cell) else (n, k)) :: _) = _
    cases hx : x == n with
    | true =>
      simp only [List.lookup_cons, hx] at h
      cases h
      simp [List.lookup_cons, hx]
    | false =>
      simp only [List.lookup_cons, hx] at h
      by_cases hc : (k == NameKind.free && sc.kind == .function && sc.names.lookup n == some .cell) = true
      · rw [if_pos hc]; simp only [List.lookup_cons, hx]; exact ih h
      · rw [if_neg hc]; simp only [List.lookup_cons, hx]; exact ih h
theorem Sc.blk {X : Cx} {N : List Str} {sc wr : Scope} (S : Sc X N sc wr) (s : Shared) (H : Hp) (scope : Scope) (cl : List (Str × Addr)) (C : Addr) (fp : List Addr) : Sc (X.blk s H scope (compEnvC scope cl C X.env) fp) N (relS scope sc) scope := by
  refine ⟨S.hN, by rw [← S.hs]; rfl, fun x h => ?_⟩
  show Loc (relabel scope X.env) x ∧ ((scope.names.lookup x == some .cell) = true ∨ (relabel scope X.env).names.lookup x = some .local)
  rcases loc_ok h with h | h
  · have q := lookup_relabel_local (env := X.env) h
    exact ⟨.inl q, .inr q⟩
  · have q := lookup_rel_cell (sc := X.env.scope) h
    exact ⟨.inr q, .inl (by rw [h]; rfl)⟩
section
variable (T : Tb) (N : List Str) (F : Fx) (Γ : Gam)
structure Good (t : E) : Prop where
  pe : ∀ (W : WXX) (X : Cx) (sc wr : Scope) (e : Expr), Cok T F Γ W X → Sc X N sc wr → mtE T N sc wr t e = true → PE X e (LE F W (ev Γ t)) := by intros; rename_i h; exact (Bool.false_ne_true h).elim
  pa : ∀ (W : WXX) (X : Cx) (sc wr : Scope) (es : List Expr), Cok T F Γ W X → Sc X N sc wr → mtA T N sc wr t es = true → PA X es (LA F W (ev Γ t)) ∧ es.all noStar = true ∧ (es = [] → ev Γ t = fun _ m => .ok (.tup []) m) := by intros; rename_i h; exact (Bool.false_ne_true h).elim
  pb : ∀ (W : WXX) (X : Cx) (sc wr : Scope) (o : PySem.BoolOp) (es : List Expr) (p : Pos), Cok T F Γ W X → Sc X N sc wr → mtB T N sc wr o t es = true → PE X (.BoolOp o es p) (LE F W (ev Γ t)) := by intros; rename_i h; exact (Bool.false_ne_true h).elim
  pt : ∀ (W : WXX) (X : Cx) (sc wr : Scope) (e : Expr), Cok T F Γ W X → Sc X N sc wr → mtT T N sc wr t e = true → PT X e (LT F W (evT (ev Γ t))) := by intros; rename_i h; exact (Bool.false_ne_true h).elim
  pw : ∀ (W : WXX) (X : Cx) (sc wr : Scope) (o : PySem.BoolOp) (es : List Expr) (p : Pos), Cok T F Γ W X → Sc X N sc wr → mtW T N sc wr o t es = true → PW X (.BoolOp o es p) (LT F W (evT (ev Γ t))) := by intros; rename_i h; exact (Bool.false_ne_true h).elim
  pi : ∀ (W : WXX) (X : Cx) (sc wr : Scope) (tg e : Expr), Cok T F Γ W X → Sc X N sc wr → mtI T N sc wr t tg e = true → PI X tg e (LI F W (ev Γ t)) := by intros; rename_i h; exact (Bool.false_ne_true h).elim
  pg : ∀ (W : WXX) (X : Cx) (sc wr : Scope) (e : Expr), Cok T F Γ W X → Sc X N sc wr → mtG T N sc wr t e = true → PG X e (LG F t) := by intros; rename_i h; exact (Bool.false_ne_true h).elim
  pk : ∀ (W : WXX) (X : Cx) (sc wr : Scope) (es : List Keyword), Cok T F Γ W X → Sc X N sc wr → mtK T N sc wr t es = true → PK X es (LA F W (ev Γ t)) := by intros; rename_i h; exact (Bool.false_ne_true h).elim
  pgs : ∀ (W : WXX) (X : Cx) (sc wr : Scope) (es : List Expr), Cok T F Γ W X → Sc X N sc wr → mtGs T N sc wr t es = true → PGs X es (LGs F t) ∧ es.all noStar = true := by intros; rename_i h; exact (Bool.false_ne_true h).elim
end
section
variable {T : Tb} {N : List Str} {F : Fx} {Γ : Gam}
/-- a test, of its own kind or by its value -/
theorem Good.tst {t : E} (G : Good T N F Γ t) {W : WXX} {X : Cx} {sc wr : Scope} {e : Expr} (C : Cok T F Γ W X) (S : Sc X N sc wr) (h : tstB (plT e) (mtE T N sc wr t e) (mtT T N sc wr t e) = true) : PT X e (LT F W (evT (ev Γ t))) := by
  unfold tstB at h
  rw [Bool.or_eq_true, Bool.and_eq_true] at h
  rcases h with h | h
  · exact p_truth C.hK (G.pe W X sc wr e C S h.2) (plT_ok h.1 _)
  · exact G.pt W X sc wr e C S h
theorem dbg_ok {x : Str} (h : isDbg x = false) : (x == ("__debug__" : Str)) = false := h
theorem so_ne : ∀ n ∈ tyNames, so n ≠ ("__name__" : Str) ∧ (so n == ("__debug__" : Str)) = false ∧ bootBuiltins (so n) = some (.type n) := by
  unfold tyNames
  simp only [List.mem_cons, List.not_mem_nil, or_false, forall_eq_or_imp, forall_eq]
  refine ⟨?_, ?_, ?_, ?_, ?_, ?_⟩ <;> exact ⟨by decide +kernel, by decide +kernel, by decide +kernel⟩
theorem ty_mg {W : WXX} {X : Cx} (C : Cok T F Γ W X) {n : String} (h : tyNames.contains n = true) : X.mg (so n) = none := by
  have h : n ∈ tyNames := by simpa using h
  simp only [tyNames, List.mem_cons, List.not_mem_nil, or_false] at h
  rcases h with rfl | rfl | rfl | rfl | rfl | rfl
  · exact C.bool
  · exact C.blt .int (by decide)
  · exact C.str
  · exact C.blt .tup (by decide)
  · exact C.blt .lst (by decide)
  · exact C.dict
theorem good_cst (d : D) : Good T N F Γ (.cst d) where
  pe := by
    intro W X sc wr e C S h
    obtain ⟨hN, hs, _⟩ := S
    subst hN hs
    have h : mtC T X.env.scope d e = true := h
    unfold mtC at h
    split at h
    · rw [decide_eq_true_eq] at h; subst h; exact p_int
    · rw [decide_eq_true_eq] at h; subst h; exact p_bl
    · exact p_non
    · rw [decide_eq_true_eq] at h; exact p_str h
    · simp only [Bool.and_eq_true, decide_eq_true_eq] at h
      obtain ⟨⟨rfl, h2⟩, h3⟩ := h
      obtain ⟨n1, n2, n3⟩ := so_ne _ (by simpa using h3)
      exact p_ty h2 (ty_mg C h3) n3 n1 n2
    · simp only [Bool.and_eq_true, decide_eq_true_eq, Bool.not_eq_true'] at h
      obtain ⟨⟨⟨rfl, h2⟩, h3⟩, h4⟩ := h
      obtain ⟨A, hA⟩ := C.clk _ h3
      exact p_cls h2 (C.clv _ _ hA) hA h4
    · simp only [Bool.and_eq_true, Bool.not_eq_true'] at h
      obtain ⟨⟨h2, h3⟩, h4⟩ := h
      split at h4
      · rename_i j q
        rw [decide_eq_true_eq] at h4
        subst h4
        exact p_cint C h2 q h3
      · cases h4
    · exact p_d0
    · simp only [Bool.and_eq_true, Bool.not_eq_true'] at h
      obtain ⟨⟨h2, h3⟩, h4⟩ := h
      split at h4
      · rename_i j q
        rw [decide_eq_true_eq] at h4
        subst h4
        exact p_cstr C h2 q h3
      · cases h4
    · cases h
theorem good_var (i : Nat) : Good T N F Γ (.var i) where
  pe := by
    intro W X sc wr e C S h
    obtain ⟨hN, hs, _⟩ := S
    subst hN hs
    simp only [mtE] at h
    split at h
    · simp only [Bool.and_eq_true, decide_eq_true_eq, Bool.not_eq_true'] at h
      obtain ⟨⟨⟨h1, h2⟩, h3⟩, h4⟩ := h
      exact p_var h1 h2 h3 h4
    · cases h
  pg := by
    intro W X sc wr e C S h
    have hw := S.wr
    obtain ⟨hN, hs, _⟩ := S
    subst hN hs
    simp only [mtG] at h
    split at h
    · simp only [Bool.and_eq_true, decide_eq_true_eq] at h
      obtain ⟨h1, h2⟩ := h
      obtain ⟨w1, w2⟩ := hw _ h2
      refine g_var C.nd h1 ?_ w2
      rcases w1 with w1 | w1 <;> (unfold loc; rw [w1])
    · cases h
theorem good_bin (o : BOp) {a b : E} (ga : Good T N F Γ a) (gb : Good T N F Γ b) : Good T N F Γ (.bin o a b) where
  pe := by
    intro W X sc wr e C S h
    simp only [mtE] at h
    split at h
    · simp only [Bool.and_eq_true, decide_eq_true_eq] at h
      obtain ⟨⟨rfl, h2⟩, h3⟩ := h
      exact p_bin C.ac C.hK (ga.pe _ _ _ _ _ C S h2) (gb.pe _ _ _ _ _ C S h3)
    · cases h
theorem good_neg {a : E} (ga : Good T N F Γ a) : Good T N F Γ (.neg a) where
  pe := by
    intro W X sc wr e C S h
    simp only [mtE] at h
    split at h
    · exact p_neg (ga.pe _ _ _ _ _ C S h)
    · cases h
theorem hu_room {k : Nat} {A : Around} (h : Room k A) : A.units + 64 < cLine := h.units
theorem good_cmp (o : COp) {a b : E} (ga : Good T N F Γ a) (gb : Good T N F Γ b) : Good T N F Γ (.cmp o a b) where
  pe := by
    intro W X sc wr e C S h
    simp only [mtE] at h
    split at h
    · simp only [Bool.and_eq_true, decide_eq_true_eq, Bool.not_eq_true'] at h
      obtain ⟨⟨⟨rfl, h1⟩, h2⟩, h3⟩ := h
      exact p_cmp C h1 (ga.pe _ _ _ _ _ C S h2) (gb.pe _ _ _ _ _ C S h3)
    · cases h
  pt := by
    intro W X sc wr e C S h
    simp only [mtT] at h
    split at h
    · simp only [Bool.and_eq_true, decide_eq_true_eq, Bool.not_eq_true'] at h
      obtain ⟨⟨⟨rfl, h1⟩, h2⟩, h3⟩ := h
      exact pt_cmp_ C h1 (ga.pe _ _ _ _ _ C S h2) (gb.pe _ _ _ _ _ C S h3)
    · cases h
theorem good_not {a : E} (ga : Good T N F Γ a) : Good T N F Γ (.not a) where
  pe := by
    intro W X sc wr e C S h
    simp only [mtE] at h
    split at h
    · exact p_not C.hK (ga.pe _ _ _ _ _ C S h)
    · cases h
  pt := by
    intro W X sc wr e C S h
    simp only [mtT] at h
    split at h
    · exact pt_not_ (ga.tst C S h)
    · cases h
theorem pe_one' {X : Cx} {op} {a : Expr} {t : TE} {pos : Pos} (h : PE X a t) : PE X (.BoolOp op [a] pos) t := pe_one h
theorem good_and {a b : E} (ga : Good T N F Γ a) (gb : Good T N F Γ b) : Good T N F Γ (.and a b) where
  pe := by
    intro W X sc wr e C S h
    simp only [mtE] at h
    split at h
    · rename_i a' b' r p
      rw [Bool.and_eq_true] at h
      refine p_and C.hK (ga.pe _ _ _ _ _ C S h.1) ?_
      cases r with
      | nil => exact pe_one' (gb.pe _ _ _ _ _ C S h.2)
      | cons c r => exact gb.pb _ _ _ _ _ _ _ C S h.2
    · cases h
  pb := by
    intro W X sc wr o es p C S h
    simp only [mtB] at h
    split at h
    · rename_i a' b' r
      rw [Bool.and_eq_true] at h
      refine p_and C.hK (ga.pe _ _ _ _ _ C S h.1) ?_
      cases r with
      | nil => exact pe_one' (gb.pe _ _ _ _ _ C S h.2)
      | cons c r => exact gb.pb _ _ _ _ _ _ _ C S h.2
    · cases h
  pt := by
    intro W X sc wr e C S h
    simp only [mtT] at h
    split at h
    · rename_i a' b' r p
      rw [Bool.and_eq_true] at h
      refine (pw_and_ (ga.tst C S h.1) ?_).pt
      cases r with
      | nil => exact pw_and1 (gb.tst C S h.2)
      | cons c r => exact gb.pw _ _ _ _ _ _ _ C S h.2
    · cases h
  pw := by
    intro W X sc wr o es p C S h
    simp only [mtW] at h
    split at h
    · rename_i a' b' r
      rw [Bool.and_eq_true] at h
      refine pw_and_ (ga.tst C S h.1) ?_
      cases r with
      | nil => exact pw_and1 (gb.tst C S h.2)
      | cons c r => exact gb.pw _ _ _ _ _ _ _ C S h.2
    · cases h
theorem good_or {a b : E} (ga : Good T N F Γ a) (gb : Good T N F Γ b) : Good T N F Γ (.or a b) where
  pe := by
    intro W X sc wr e C S h
    simp only [mtE] at h
    split at h
    · rename_i a' b' r p
      rw [Bool.and_eq_true] at h
      refine p_or C.hK (ga.pe _ _ _ _ _ C S h.1) ?_
      cases r with
      | nil => exact pe_one' (gb.pe _ _ _ _ _ C S h.2)
      | cons c r => exact gb.pb _ _ _ _ _ _ _ C S h.2
    · cases h
  pb := by
    intro W X sc wr o es p C S h
    simp only [mtB] at h
    split at h
    · rename_i a' b' r
      rw [Bool.and_eq_true] at h
      refine p_or C.hK (ga.pe _ _ _ _ _ C S h.1) ?_
      cases r with
      | nil => exact pe_one' (gb.pe _ _ _ _ _ C S h.2)
      | cons c r => exact gb.pb _ _ _ _ _ _ _ C S h.2
    · cases h
  pt := by
    intro W X sc wr e C S h
    simp only [mtT] at h
    split at h
    · rename_i a' b' r p
      rw [Bool.and_eq_true] at h
      refine (pw_or_ (ga.tst C S h.1) ?_).pt
      cases r with
      | nil => exact pw_or1 (gb.tst C S h.2)
      | cons c r => exact gb.pw _ _ _ _ _ _ _ C S h.2
    · cases h
  pw := by
    intro W X sc wr o es p C S h
    simp only [mtW] at h
    split at h
    · rename_i a' b' r
      rw [Bool.and_eq_true] at h
      refine pw_or_ (ga.tst C S h.1) ?_
      cases r with
      | nil => exact pw_or1 (gb.tst C S h.2)
      | cons c r => exact gb.pw _ _ _ _ _ _ _ C S h.2
    · cases h
theorem good_ife {c a b : E} (gc : Good T N F Γ c) (ga : Good T N F Γ a) (gb : Good T N F Γ b) : Good T N F Γ (.ife c a b) where
  pe := by
    intro W X sc wr e C S h
    simp only [mtE] at h
    split at h
    · simp only [Bool.and_eq_true] at h
      exact p_ife (gc.tst C S h.1.1) (ga.pe _ _ _ _ _ C S h.1.2) (gb.pe _ _ _ _ _ C S h.2)
    · cases h
theorem good_nil : Good T N F Γ .nil where
  pa := by
    intro W X sc wr es C S h
    simp only [mtA] at h
    split at h
    · exact ⟨a_nil, rfl, fun _ => rfl⟩
    · cases h
  pgs := by
    intro W X sc wr es C S h
    simp only [mtGs] at h
    split at h
    · exact ⟨gs_nil, rfl⟩
    · cases h
  pk := by
    intro W X sc wr es C S h
    simp only [mtK] at h
    split at h
    · exact k_nil
    · cases h
theorem good_cons {a b : E} (ga : Good T N F Γ a) (gb : Good T N F Γ b) : Good T N F Γ (.cons a b) where
  pa := by
    intro W X sc wr es C S h
    simp only [mtA] at h
    split at h
    · simp only [Bool.and_eq_true] at h
      obtain ⟨h2, h3, _⟩ := gb.pa _ _ _ _ _ C S h.2
      exact ⟨a_cons h.1.1 (ga.pe _ _ _ _ _ C S h.1.2) h2, by simp [h.1.1, h3], fun z => nomatch z⟩
    · cases h
  pgs := by
    intro W X sc wr es C S h
    simp only [mtGs] at h
    split at h
    · simp only [Bool.and_eq_true] at h
      obtain ⟨h2, h3⟩ := gb.pgs _ _ _ _ _ C S h.2
      exact ⟨gs_cons h.1.1 (ga.pg _ _ _ _ _ C S h.1.2) h2, by simp [h.1.1, h3]⟩
    · cases h
  pk := by
    intro W X sc wr es C S h
    simp only [mtK] at h
    split at h
    · rw [Bool.and_eq_true] at h
      exact k_cons (ga.pe _ _ _ _ _ C S h.1) (gb.pk _ _ _ _ _ C S h.2)
    · cases h
theorem good_tup {a : E} (ga : Good T N F Γ a) : Good T N F Γ (.tup a) where
  pe := by
    intro W X sc wr e C S h
    simp only [mtE] at h
    split at h
    · exact p_tup (ga.pa _ _ _ _ _ C S h).1
    · cases h
  pg := by
    intro W X sc wr e C S h
    simp only [mtG] at h
    split at h
    · simp only [Bool.and_eq_true, decide_eq_true_eq] at h
      obtain ⟨h2, h3⟩ := ga.pgs _ _ _ _ _ C S h.2
      exact g_tup C.calm C.hK h.1 h3 h2
    · cases h
theorem good_lst {a : E} (ga : Good T N F Γ a) : Good T N F Γ (.lst a) where
  pe := by
    intro W X sc wr e C S h
    simp only [mtE] at h
    split at h
    · exact p_lst (ga.pa _ _ _ _ _ C S h).1
    · cases h
theorem good_ix {a b : E} (ga : Good T N F Γ a) (gb : Good T N F Γ b) : Good T N F Γ (.ix a b) where
  pe := by
    intro W X sc wr e C S h
    simp only [mtE] at h
    split at h
    · simp only [Bool.and_eq_true] at h
      exact p_ix C.hK h.1.1 (ga.pe _ _ _ _ _ C S h.1.2) (gb.pe _ _ _ _ _ C S h.2)
    · cases h
theorem good_att {a : E} (f : String) (ga : Good T N F Γ a) : Good T N F Γ (.att a f) where
  pe := by
    intro W X sc wr e C S h
    simp only [mtE] at h
    split at h
    · simp only [Bool.and_eq_true, decide_eq_true_eq] at h
      exact p_att C h.1.1 h.1.2 (ga.pe _ _ _ _ _ C S h.2)
    · cases h
theorem good_call {a : E} (f : String) (ga : Good T N F Γ a) : Good T N F Γ (.call f a) where
  pe := by
    intro W X sc wr e C S h
    simp only [mtE] at h
    split at h
    · simp only [Bool.and_eq_true, decide_eq_true_eq, Bool.not_eq_true'] at h
      obtain ⟨⟨⟨⟨h1, h2⟩, h3⟩, h4⟩, h5⟩ := h
      obtain ⟨lv, hlv⟩ := Option.isSome_iff_exists.mp h2
      obtain ⟨g1, g2, g3⟩ := ga.pa _ _ _ _ _ C S h5
      exact p_call C h1 hlv (by rw [S.hs]; exact h3) h4 g2 g1 g3
    · cases h
theorem good_meth {a b : E} (f : String) (ga : Good T N F Γ a) (gb : Good T N F Γ b) : Good T N F Γ (.meth f a b) where
  pe := by
    intro W X sc wr e C S h
    simp only [mtE] at h
    split at h
    · simp only [Bool.and_eq_true, decide_eq_true_eq, Bool.not_eq_true'] at h
      obtain ⟨⟨⟨⟨⟨⟨h1, h2⟩, h3⟩, h4⟩, h5⟩, h6⟩, h7⟩ := h
      obtain ⟨lv, hlv⟩ := Option.isSome_iff_exists.mp h2
      obtain ⟨g1, g2, g3⟩ := gb.pa _ _ _ _ _ C S h7
      exact p_meth C h1 hlv h3 g2 h4 h5 (ga.pe _ _ _ _ _ C S h6) g1 g3
    · cases h
theorem good_make {a : E} (f : String) (ga : Good T N F Γ a) : Good T N F Γ (.make f a) where
  pe := by
    intro W X sc wr e C S h
    simp only [mtE] at h
    split at h
    · simp only [Bool.and_eq_true, decide_eq_true_eq, Bool.not_eq_true'] at h
      obtain ⟨⟨⟨⟨h1, h2⟩, h3⟩, h4⟩, h5⟩ := h
      obtain ⟨lv, hlv⟩ := Option.isSome_iff_exists.mp h2
      obtain ⟨g1, g2, g3⟩ := ga.pa _ _ _ _ _ C S h5
      exact p_make C h1 hlv (by rw [S.hs]; exact h3) h4 g2 g1 g3
    · cases h
theorem good_blt {a : E} (f : Blt) (ga : Good T N F Γ a) : Good T N F Γ (.blt f a) where
  pe := by
    intro W X sc wr e C S h
    simp only [mtE] at h
    split at h
    · simp only [Bool.and_eq_true, decide_eq_true_eq, Bool.or_eq_true, Bool.not_eq_true', decide_eq_false_iff_not] at h
      obtain ⟨⟨⟨h1, h2⟩, h3⟩, h4⟩ := h
      obtain ⟨g1, g2, g3⟩ := ga.pa _ _ _ _ _ C S h4
      refine p_blt C h1 (by rw [S.hs]; exact h2) (fun e => ?_) g2 g1
      rcases h3 with h3 | h3
      · exact absurd e h3
      · exact h3
    · cases h
theorem good_itv {a : E} (ga : Good T N F Γ a) : Good T N F Γ (.itv a) where
  pi := by
    intro W X sc wr tg e C S h
    simp only [mtI] at h
    exact i_itv C.hK (ga.pe _ _ _ _ _ C S h)
theorem good_rng {a : E} (ga : Good T N F Γ a) : Good T N F Γ (.rng a) where
  pi := by
    intro W X sc wr tg e C S h
    simp only [mtI] at h
    split at h
    · simp only [Bool.and_eq_true, decide_eq_true_eq] at h
      exact i_rng C h.1.1.1 (by rw [S.hs]; exact h.1.1.2) h.1.2 (ga.pe _ _ _ _ _ C S h.2)
    · cases h
theorem good_rng2 {a b : E} (ga : Good T N F Γ a) (gb : Good T N F Γ b) : Good T N F Γ (.rng2 a b) where
  pi := by
    intro W X sc wr tg e C S h
    simp only [mtI] at h
    split at h
    · simp only [Bool.and_eq_true, decide_eq_true_eq] at h
      exact i_rng2 C h.1.1.1.1.1 (by rw [S.hs]; exact h.1.1.1.1.2) h.1.1.1.2 h.1.1.2 (ga.pe _ _ _ _ _ C S h.1.2) (gb.pe _ _ _ _ _ C S h.2)
    · cases h
theorem good_enm {a : E} (ga : Good T N F Γ a) : Good T N F Γ (.enm a) where
  pi := by
    intro W X sc wr tg e C S h
    simp only [mtI] at h
    split at h
    · simp only [Bool.and_eq_true, decide_eq_true_eq] at h
      exact i_enm C h.1.1.1 (by rw [S.hs]; exact h.1.1.2) h.1.2 (ga.pe _ _ _ _ _ C S h.2)
    · cases h
theorem good_zip {a : E} (ga : Good T N F Γ a) : Good T N F Γ (.zip a) where
  pi := by
    intro W X sc wr tg e C S h
    simp only [mtI] at h
    split at h
    · simp only [Bool.and_eq_true, decide_eq_true_eq] at h
      obtain ⟨g1, g2, _⟩ := ga.pa _ _ _ _ _ C S h.2
      exact i_zipN C h.1.1 (by rw [S.hs]; exact h.1.2) g2 g1
    · cases h
theorem own_snd (ws : List Nat) (N : List Str) : ((ws.map fun i => (N.getD i Str.empty, i)).map (·.2)) = ws := by
  induction ws with
  | nil => rfl
  | cons w ws ih => simp only [List.map_cons, ih]
theorem all_mem {l ws : List Nat} (h : l.all (ws.contains ·) = true) : ∀ i ∈ l, i ∈ ws := fun i hi => by
  have := List.all_eq_true.mp h i hi
  simpa using this
/-- the tests of a clause -/
theorem good_ifs {cs : E} (gc : Good T N F Γ cs) {W : WXX} {X : Cx} {sc wr : Scope} {ifs : List Expr} (C : Cok T F Γ W X) (S : Sc X N sc wr)
    (h : (match ifs with | [] => isYes cs | [c] => tstB (plT c) (mtE T N sc wr cs c) (mtT T N sc wr cs c) | _ => false) = true) : PTs X ifs (LT F W (evT (ev Γ cs))) := by
  split at h
  · unfold isYes at h
    split at h
    · exact ts_nil
    · cases h
  · exact pts_one (gc.tst C S h)
  · cases h
theorem good_lc {ws : List Nat} {t it cs el : E} (gt : Good T N F Γ t) (gi : Good T N F Γ it) (gc : Good T N F Γ cs) (ge : Good T N F Γ el) : Good T N F Γ (.lc ws t it cs el) where
  pe := by
    intro W X sc wr e C S h
    simp only [mtE] at h
    split at h
    · rename_i elt tg iter ifs scope p
      rw [Bool.and_eq_true, Bool.and_eq_true, Bool.and_eq_true, Bool.and_eq_true, Bool.and_eq_true, Bool.and_eq_true] at h
      obtain ⟨⟨⟨⟨⟨⟨h1, h2⟩, h3⟩, h4⟩, h5⟩, h6⟩, h7⟩ := h
      have q := p_lc (W := W) (fi := ev Γ it) (fc := ev Γ cs) (fe := ev Γ el) (t := t) (elt := elt) (tg := tg) (iter := iter) (ifs := ifs) (pos := p) C.calm C.nd (gi.pi _ _ _ _ _ _ C S h1) (blkOk_by (by rw [S.hN, S.hs]; exact h2)) (fun s H Cc cl fp => gt.pg _ _ _ _ _ (C.blk s H scope _ fp) (S.blk s H scope cl Cc fp) h5)
        (fun s H Cc cl fp => good_ifs gc (C.blk s H scope _ fp) (S.blk s H scope cl Cc fp) h6) (fun s H Cc cl fp => ge.pe _ _ _ _ _ (C.blk s H scope _ fp) (S.blk s H scope cl Cc fp) h7) h3 (by rw [own_snd]; exact all_mem h4)
      rw [own_snd] at q
      exact q
    · cases h
theorem good_lc2 {ws ws1 : List Nat} {t it cs t1 it1 cs1 el : E} (gt : Good T N F Γ t) (gi : Good T N F Γ it) (gc : Good T N F Γ cs) (gt1 : Good T N F Γ t1) (gi1 : Good T N F Γ it1) (gc1 : Good T N F Γ cs1) (ge : Good T N F Γ el) : Good T N F Γ (.lc2 ws t it cs ws1 t1 it1 cs1 el) where
  pe := by
    intro W X sc wr e C S h
    simp only [mtE] at h
    split at h
    · rename_i elt tg iter ifs tg1 iter1 ifs1 scope p
      iterate 12 rw [Bool.and_eq_true] at h
      obtain ⟨⟨⟨⟨⟨⟨⟨⟨⟨⟨⟨⟨h1, h2⟩, h3⟩, h3'⟩, hv⟩, h4⟩, h4'⟩, h5⟩, h6⟩, h7⟩, h8⟩, h9⟩, h10⟩ := h
      have q := p_lc2 (W := W) (fi := ev Γ it) (fc := ev Γ cs) (fe := ev Γ el) (t := t) (t1 := t1) (fi1 := ev Γ it1) (fc1 := ev Γ cs1) (vs1 := ws1) (elt := elt) (tg := tg) (iter := iter) (ifs := ifs) (tg1 := tg1) (iter1 := iter1) (ifs1 := ifs1) (pos := p) C.calm C.nd (gi.pi _ _ _ _ _ _ C S h1) (blkOk_by (by rw [S.hN, S.hs]; exact h2)) (by rw [own_snd]; exact all_mem hv) (fun s H Cc cl fp => gt.pg _ _ _ _ _ (C.blk s H scope _ fp) (S.blk s H scope cl Cc fp) h5)
        (fun s H Cc cl fp => good_ifs gc (C.blk s H scope _ fp) (S.blk s H scope cl Cc fp) h6) (fun s H Cc cl fp => gi1.pi _ _ _ _ _ _ (C.blk s H scope _ fp) (S.blk s H scope cl Cc fp) h7)
        (fun s H Cc cl fp => gt1.pg _ _ _ _ _ (C.blk s H scope _ fp) (S.blk s H scope cl Cc fp) h8) (fun s H Cc cl fp => good_ifs gc1 (C.blk s H scope _ fp) (S.blk s H scope cl Cc fp) h9)
        (fun s H Cc cl fp => ge.pe _ _ _ _ _ (C.blk s H scope _ fp) (S.blk s H scope cl Cc fp) h10) h3 h3' (by rw [own_snd]; exact all_mem h4) (all_mem h4')
      rw [own_snd] at q
      exact q
    · cases h
theorem good_frz (i : Nat) : Good T N F Γ (.frz i) where
  pe := by
    intro W X sc wr e C S h
    obtain ⟨hN, hs, _⟩ := S
    subst hN hs
    simp only [mtE] at h
    split at h
    · simp only [Bool.and_eq_true, decide_eq_true_eq, Bool.not_eq_true'] at h
      obtain ⟨⟨⟨h1, h2⟩, h3⟩, h4⟩ := h
      exact p_frz h1 h2 h3 h4
    · cases h
theorem good_nls {a : E} (ga : Good T N F Γ a) : Good T N F Γ (.nls a) where
  pe := by
    intro W X sc wr e C S h
    simp only [mtE] at h
    split at h
    · exact p_nls (ga.pa _ _ _ _ _ C S h).1
    · cases h
theorem good_callk {a b : E} (f : String) (n : Nat) (ks : List String) (ga : Good T N F Γ a) (gb : Good T N F Γ b) : Good T N F Γ (.callk f n ks a b) where
  pe := by
    intro W X sc wr e C S h
    simp only [mtE] at h
    split at h
    · simp only [Bool.and_eq_true, decide_eq_true_eq, Bool.not_eq_true'] at h
      obtain ⟨⟨⟨⟨⟨⟨h1, h2⟩, h3⟩, h4⟩, h5⟩, h6⟩, h7⟩ := h
      obtain ⟨lv, hlv⟩ := Option.isSome_iff_exists.mp h2
      obtain ⟨g1, g2, g3⟩ := ga.pa _ _ _ _ _ C S h6
      exact p_callk C h1 hlv (by rw [S.hs]; exact h3) h4 g2 h5 g1 (gb.pk _ _ _ _ _ C S h7) g3
    · cases h
theorem good_makek {a b : E} (f : String) (n : Nat) (ks : List String) (ga : Good T N F Γ a) (gb : Good T N F Γ b) : Good T N F Γ (.makek f n ks a b) where
  pe := by
    intro W X sc wr e C S h
    simp only [mtE] at h
    split at h
    · simp only [Bool.and_eq_true, decide_eq_true_eq, Bool.not_eq_true'] at h
      obtain ⟨⟨⟨⟨⟨⟨h1, h2⟩, h3⟩, h4⟩, h5⟩, h6⟩, h7⟩ := h
      obtain ⟨lv, hlv⟩ := Option.isSome_iff_exists.mp h2
      obtain ⟨g1, g2, g3⟩ := ga.pa _ _ _ _ _ C S h6
      exact p_makek C h1 hlv (by rw [S.hs]; exact h3) h4 g2 h5 g1 (gb.pk _ _ _ _ _ C S h7) g3
    · cases h
theorem good_part {t : E} (G : Good T N F Γ t) {W : WXX} {X : Cx} {sc wr : Scope} {l : Option Expr} (C : Cok T F Γ W X) (S : Sc X N sc wr) (h : (match l with | none => isNil t | some l' => mtE T N sc wr t l') = true) : PO X l (LP F W (evP t (ev Γ t))) := by
  cases l with
  | none =>
    cases t with
    | nil => exact po_no
    | _ => cases h
  | some e =>
    refine po_yes (fun z => ?_) (G.pe W X sc wr e C S h)
    subst z
    simp [mtE] at h
theorem good_sl {a b c : E} (ga : Good T N F Γ a) (gb : Good T N F Γ b) (gc : Good T N F Γ c) : Good T N F Γ (.sl a b c) where
  pe := by
    intro W X sc wr e C S h
    simp only [mtE] at h
    split at h
    · rw [Bool.and_eq_true, Bool.and_eq_true] at h
      exact p_sl C.hK (ga.pe _ _ _ _ _ C S h.1.1) (good_part gb C S h.1.2) (good_part gc C S h.2)
    · cases h
theorem good_chn (o p : COp) {a b c : E} (ga : Good T N F Γ a) (gb : Good T N F Γ b) (gc : Good T N F Γ c) : Good T N F Γ (.chn o p a b c) where
  pe := by
    intro W X sc wr e C S h
    simp only [mtE] at h
    split at h
    · simp only [Bool.and_eq_true, decide_eq_true_eq, Bool.not_eq_true'] at h
      obtain ⟨⟨⟨⟨⟨rfl, rfl⟩, h1⟩, h2⟩, h3⟩, h4⟩ := h
      exact p_chn C.hK C.room.units h1 (ga.pe _ _ _ _ _ C S h2) (gb.pe _ _ _ _ _ C S h3) (gc.pe _ _ _ _ _ C S h4)
    · cases h
  pt := by
    intro W X sc wr e C S h
    simp only [mtT] at h
    split at h
    · simp only [Bool.and_eq_true, decide_eq_true_eq, Bool.not_eq_true'] at h
      obtain ⟨⟨⟨⟨⟨rfl, rfl⟩, h1⟩, h2⟩, h3⟩, h4⟩ := h
      exact pt_chn C.hK C.room.units h1 (ga.pe _ _ _ _ _ C S h2) (gb.pe _ _ _ _ _ C S h3) (gc.pe _ _ _ _ _ C S h4)
    · cases h
theorem good_methk (n : String) (j : Nat) (ks : List String) {a b c : E} (ga : Good T N F Γ a) (gb : Good T N F Γ b) (gc : Good T N F Γ c) : Good T N F Γ (.methk n j ks a b c) where
  pe := by
    intro W X sc wr e C S h
    simp only [mtE] at h
    split at h
    · simp only [Bool.and_eq_true, decide_eq_true_eq] at h
      obtain ⟨⟨⟨⟨⟨⟨⟨⟨h1, h2⟩, h3⟩, h4⟩, h5⟩, h6⟩, h7⟩, h8⟩, h9⟩ := h
      obtain ⟨lv, hlv⟩ := Option.isSome_iff_exists.mp h2
      obtain ⟨g1, g2, g3⟩ := gb.pa _ _ _ _ _ C S h8
      exact p_methk C h1 hlv h3 g2 h4 h5 h6 (ga.pe _ _ _ _ _ C S h7) g1 (gc.pk _ _ _ _ _ C S h9) g3
    · cases h
theorem good_op1 (o : O1) {a : E} (ga : Good T N F Γ a) : Good T N F Γ (.op1 o a) where
  pe := by
    intro W X sc wr e C S h
    simp only [mtE] at h
    split at h
    · rename_i a' q
      exact p_op1 C (by rw [S.hs]; exact q) (ga.pe _ _ _ _ _ C S h)
    · cases h
  pt := by
    intro W X sc wr e C S h
    simp only [mtT] at h
    rw [Bool.and_eq_true, Bool.and_eq_true] at h
    obtain ⟨⟨hp, ht⟩, h⟩ := h
    split at h
    · rename_i a' q
      exact pt_bl hp (p_op1 C (by rw [S.hs]; exact q) (ga.pe _ _ _ _ _ C S h)) (op1F_bl ht)
    · cases h
theorem good_op2 (o : O2) {a b : E} (ga : Good T N F Γ a) (gb : Good T N F Γ b) : Good T N F Γ (.op2 o a b) where
  pe := by
    intro W X sc wr e C S h
    simp only [mtE] at h
    split at h
    · rename_i a' b' q
      rw [Bool.and_eq_true] at h
      exact p_op2 C (by rw [S.hs]; exact q) (ga.pe _ _ _ _ _ C S h.1) (gb.pe _ _ _ _ _ C S h.2)
    · cases h
  pt := by
    intro W X sc wr e C S h
    simp only [mtT] at h
    rw [Bool.and_eq_true] at h
    obtain ⟨ht, h⟩ := h
    split at h
    · rename_i a' b' q
      rw [Bool.and_eq_true] at h
      exact pt_op2 C ht (by rw [S.hs]; exact q) (ga.pe _ _ _ _ _ C S h.1) (gb.pe _ _ _ _ _ C S h.2)
    · cases h
theorem good_op3 (o : O3) {a b c : E} (ga : Good T N F Γ a) (gb : Good T N F Γ b) (gc : Good T N F Γ c) : Good T N F Γ (.op3 o a b c) where
  pe := by
    intro W X sc wr e C S h
    simp only [mtE] at h
    split at h
    · rename_i a' b' c' q
      rw [Bool.and_eq_true, Bool.and_eq_true] at h
      exact p_op3 C (by rw [S.hs]; exact q) (ga.pe _ _ _ _ _ C S h.1.1) (gb.pe _ _ _ _ _ C S h.1.2) (gc.pe _ _ _ _ _ C S h.2)
    · cases h
theorem good_cau {a : E} (f : String) (ga : ∀ T' : Tb, Good T' N F Γ a) : Good T N F Γ (.cau f a) where
  pe := by
    intro W X sc wr e C S h
    simp only [mtE] at h
    split at h
    · simp only [Bool.and_eq_true, decide_eq_true_eq, Bool.not_eq_true'] at h
      obtain ⟨⟨⟨⟨⟨⟨⟨h1, h2⟩, h3⟩, h4⟩, h5⟩, h6⟩, h7⟩, h9⟩ := h
      obtain ⟨lv, hlv⟩ := Option.isSome_iff_exists.mp h2
      rw [Bool.or_eq_true] at h7
      rcases h7 with h7 | h7
      · rw [Bool.and_eq_true] at h7
        refine p_cau (fb := ev Γ a) C h1 hlv (by rw [S.hs]; exact h3) h4 h5 h6 (by rw [S.hs]; exact h7.1) h7.2 fun W' X' C' hN' hs' => ?_
        refine (ga T.low).pe W' X' _ _ _ C' ⟨hN'.trans S.hN, hs', fun x hx => ?_⟩ h9
        have L := LamX.lamS_by h7.1
        rcases loc_ok hx with k | k
        · exact absurd rfl (L.own _ (PySem.mem_of_lookup k)).1
        · exact absurd rfl (L.own _ (PySem.mem_of_lookup k)).2
      · split at h7
        · rename_i q eq
          obtain ⟨a1, z, j, pa, pz⟩ := q
          have ep := parOf_ok eq
          subst ep
          simp only [Bool.and_eq_true, Bool.or_eq_true, decide_eq_true_eq] at h7
          obtain ⟨⟨k1, k2⟩, k3⟩ := h7
          have hna : a1 ∉ X.N := fun hm => by
            rw [S.hN] at hm
            have := List.all_eq_true.mp k2 _ hm
            simp at this
          refine p_cauD (fb := ev Γ a) C h1 hlv (by rw [S.hs]; exact h3) h4 h5 h6 (by rw [S.hs]; exact k1) hna (k3.elim (fun k => k.elim .inl fun k => .inr (.inl k)) fun k => .inr (.inr k)) fun W' X' C' hN' hs' => ?_
          refine (ga T.low).pe W' X' _ _ _ C' ⟨hN'.trans S.hN, hs', fun x hx => ⟨by rw [hs']; exact loc_ok hx, .inr ?_⟩⟩ h9
          have L := LamD.scD_by k1
          rcases loc_ok hx with k | k
          · rw [hs']; exact k
          · exact absurd rfl (L.own _ (PySem.mem_of_lookup k)).1
        · cases h7
    · cases h
theorem good (t : E) : Good T N F Γ t := by
  induction t generalizing T with
  | var i => exact good_var i
  | cst d => exact good_cst d
  | bin o a b iha ihb => exact good_bin o iha ihb
  | neg a ih => exact good_neg ih
  | cmp o a b iha ihb => exact good_cmp o iha ihb
  | not a ih => exact good_not ih
  | and a b iha ihb => exact good_and iha ihb
  | or a b iha ihb => exact good_or iha ihb
  | ife c a b ihc iha ihb => exact good_ife ihc iha ihb
  | nil => exact good_nil
  | cons a r iha ihr => exact good_cons iha ihr
  | tup a ih => exact good_tup ih
  | lst a ih => exact good_lst ih
  | ix a b iha ihb => exact good_ix iha ihb
  | sl a b c iha ihb ihc => exact good_sl iha ihb ihc
  | att a f ih => exact good_att f ih
  | call f a ih => exact good_call f ih
  | meth f a b iha ihb => exact good_meth f iha ihb
  | make f a ih => exact good_make f ih
  | mkx _ _ _ _ => exact {}
  | blt f a ih => exact good_blt f ih
  | itv a ih => exact good_itv ih
  | rng a ih => exact good_rng ih
  | rng2 a b iha ihb => exact good_rng2 iha ihb
  | zip a ih => exact good_zip ih
  | enm a ih => exact good_enm ih
  | lc ws t it cs el h1 h2 h3 h4 => exact good_lc h1 h2 h3 h4
  | lc2 ws t it cs ws1 t1 it1 cs1 el h1 h2 h3 h4 h5 h6 h7 => exact good_lc2 h1 h2 h3 h4 h5 h6 h7
  | frz i => exact good_frz i
  | nls a ih => exact good_nls ih
  | callk f n ks a b iha ihb => exact good_callk f n ks iha ihb
  | makek f n ks a b iha ihb => exact good_makek f n ks iha ihb
  | cau f b ih => exact good_cau f fun _ => ih
  | methk n j ks a as bs iha ihb ihc => exact good_methk n j ks iha ihb ihc
  | chn o p a b c iha ihb ihc => exact good_chn o p iha ihb ihc
  | op1 o a ih => exact good_op1 o ih
  | op2 o a b iha ihb => exact good_op2 o iha ihb
  | op3 o a b c iha ihb ihc => exact good_op3 o iha ihb ihc
end
end PL

set_option Elab.async false
set_option linter.all false
set_option maxRecDepth 100000
set_option maxHeartbeats 4000000
/-! PL.Mt3: the look at statements, and what it gives. -/
namespace PL
open PySem L2 PySem.Spec PyProof.Rows
def blkK (sc : Scope) : ScopeKind := if sc.kind.isAnnotationScope then .function else sc.kind
/-- displays that face each other: in which order they are stored -/
def swpC (tg e : Expr) (sc : Scope) : Option (Option (List Str)) :=
  match tg, e with
  | .Tuple ts _ _, .Tuple vs _ _ =>
    if (!(ts.length == 2 || ts.length == 3) || vs.length != ts.length || blkK sc != .function) = true then some none
    else if (vs.any fun | .Starred .. => true | _ => false) = true then some none
    else
      let line := (ts.head?.map (·.pos.line)).getD 0
      let names := ts.filterMap fun
        | .Name id pos => if sc.names.lookup id == some .local && pos.line == line then some id else none
        | _ => none
      if (names.length != ts.length || names.eraseDups.length != names.length) = true then some none
      else if vs.all (foldedForSure 8) = true then some none
      else if vs.all (constantsAlone 8) = true then none
      else some (some names)
  | .List _ _, _ => none
  | _, _ => some none
theorem swp_ok {tg e : Expr} {env : PySem.Env} {r : Option (List Str)} (h : swpC tg e env.scope = some r) : swappedStores [tg] e env = pure r := by
  unfold swpC at h
  split at h
  · rename_i ts _ _ vs _ _
    unfold swappedStores
    have hb : env.blockKind = blkK env.scope := rfl
    have hk : ∀ id, env.kindOf id = env.scope.names.lookup id := fun _ => rfl
    simp only [hb, hk]
    dsimp only at h
    split at h
    · rename_i c
      rw [if_pos c]
      cases h
      rfl
    · rename_i c
      rw [if_neg c]
      split at h
      · rename_i c2
        cases h
        show (if (vs.any fun | .Starred .. => true | _ => false) = true then _ else _) = _
        rw [if_pos c2]
      · rename_i c2
        show (if (vs.any fun | .Starred .. => true | _ => false) = true then _ else _) = _
        rw [if_neg c2]
        split at h
        · rename_i c3
          cases h
          exact if_pos c3
        · rename_i c3
          refine (if_neg c3).trans ?_
          split at h
          · rename_i c4
            cases h
            exact if_pos c4
          · rename_i c4
            refine (if_neg c4).trans ?_
            split at h
            · cases h
            · rename_i c5
              refine (if_neg c5).trans ?_
              cases h
              rfl
  · cases h
  · rename_i h1 h2
    cases h
    cases tg with
    | Tuple ts k p =>
      cases e with
      | Tuple vs k2 p2 => first | exact (h1 _ _ _ _ _ _ rfl rfl).elim | exact (h2 _ _ _ _ _ _ rfl rfl).elim
      | _ => rfl
    | List ts p => first | exact (h1 _ _ rfl).elim | exact (h2 _ _ rfl).elim
    | _ => rfl
/-- a comprehension whose list goes straight into the name -/
def swB (e tg : Expr) (sc : Scope) : Bool :=
  match e, tg with
  | .ListComp _ _ s p, .Name t pos => blkK sc == .function && sc.names.lookup t == some .local && pos.line == p.line && !(s.names.any fun (n, k) => n == t && (k == .local || k == .cell))
  | .SetComp _ _ s p, .Name t pos => blkK sc == .function && sc.names.lookup t == some .local && pos.line == p.line && !(s.names.any fun (n, k) => n == t && (k == .local || k == .cell))
  | .DictComp _ _ _ s p, .Name t pos => blkK sc == .function && sc.names.lookup t == some .local && pos.line == p.line && !(s.names.any fun (n, k) => n == t && (k == .local || k == .cell))
  | _, _ => false
theorem swB_ok {e tg : Expr} {env : PySem.Env} {l : Nat} : swapsWith e (some tg) l env = pure (swB e tg env.scope) := by
  cases e with
  | ListComp a b s p => cases tg <;> rfl
  | SetComp a b s p => cases tg <;> rfl
  | DictComp a b c s p => cases tg <;> rfl
  | _ => rfl
/-- x = [.. for ..], straight -/
def mtL (T : Tb) (N : List Str) (sc wr : Scope) (i : Nat) (t : E) (tg e : Expr) : Bool :=
  match t, tg, e with
  | .lc _ _ _ _ _, .Name x _, .ListComp _ _ _ _ => decide (N[i]? = some x) && decide (sc.names.lookup x = some .local) && swB e tg sc && mtE T N sc wr t e
  | .lc2 _ _ _ _ _ _ _ _ _, .Name x _, .ListComp _ _ _ _ => decide (N[i]? = some x) && decide (sc.names.lookup x = some .local) && swB e tg sc && mtE T N sc wr t e
  | _, _, _ => false
/-- a, b = x, y; a, b, c = x, y, z: stored from the right -/
def mtP (T : Tb) (N : List Str) (sc wr : Scope) (t e : E) (tg v : Expr) : Bool :=
  match t, e, tg, v with
  | .tup (.cons (.var i) (.cons (.var j) .nil)), .tup es, .Tuple [.Name x px, .Name y py] kt pt, .Tuple [a, b] k2 p2 =>
    decide (swpC tg v sc = some (some [x, y])) && decide (N[i]? = some x) && decide (N[j]? = some y) && !decide (i = j) && decide (sc.names.lookup x = some .local) && decide (sc.names.lookup y = some .local) && mtA T N sc wr es [a, b]
  | .tup (.cons (.var i) (.cons (.var j) (.cons (.var l) .nil))), .tup es, .Tuple [.Name x px, .Name y py, .Name z pz] kt pt, .Tuple [a, b, c] k2 p2 =>
    decide (swpC tg v sc = some (some [x, y, z])) && decide (N[i]? = some x) && decide (N[j]? = some y) && decide (N[l]? = some z) && !decide (i = j) && !decide (i = l) && !decide (j = l) && decide (sc.names.lookup x = some .local) && decide (sc.names.lookup y = some .local) && decide (sc.names.lookup z = some .local) && mtA T N sc wr es [a, b, c]
  | _, _, _, _ => false
mutual
def mtS (T : Tb) (N : List Str) (sc wr : Scope) : S → Stmt → Bool
  | .skip => fun st => match st with
    | .Pass _ => true
    | _ => false
  | .seq _ _ => fun _ => false
  | .asg t e => fun st => match st with
    | .Assign [tg] v _ => (!(swB v tg sc) && decide (swpC tg v sc = some none) && noStar tg && mtE T N sc wr e v && mtG T N sc wr t tg) || (match t with | .var i => mtL T N sc wr i e tg v | _ => false) || mtP T N sc wr t e tg v
    | _ => false
  | .exp e => fun st => match st with
    | .Expr v _ => noCmp v && mtE T N sc wr e v
    | _ => false
  | .ret e => fun st => match st with
    | .Return (some v) _ => mtE T N sc wr e v
    | _ => false
  | .retN => fun st => match st with
    | .Return none _ => true
    | _ => false
  | .ife c a b => fun st => match st with
    | .If c' sa sb _ => tstB (plT c') (mtE T N sc wr c c') (mtT T N sc wr c c') && mtSs T N sc wr a sa && mtSs T N sc wr b sb
    | _ => false
  | .for_ t it b => fun st => match st with
    | .For tg iter body [] _ => notSet iter && mtI T N sc wr it tg iter && mtG T N sc wr t tg && mtSs T N sc wr b body
    | _ => false
  | .whl c b => fun st => match st with
    | .While c' body [] _ => tstB (plT c') (mtE T N sc wr c c') (mtT T N sc wr c c') && mtSs T N sc wr b body
    | _ => false
  | .brk => fun st => match st with
    | .Break _ => true
    | _ => false
  | .cnt => fun st => match st with
    | .Continue _ => true
    | _ => false
  | .rse e => fun st => match st, e with
    | .Raise (some (.Call (.Name x _) (a :: as) [] _)) none _, .mkx C ns es => decide (x = so C) && decide (T.xc C = some ns) && glo sc x && !isDbg x && decide (ns.length ≤ 1000) && mtA T N sc wr es (a :: as)
    | _, _ => false
  | .nev => fun _ => true
  | .att o f e => fun st => match st with
    | .Assign [.Attribute o' f' _] v _ => decide (f' = so f) && noCmp v && mtE T N sc wr o o' && mtE T N sc wr e v
    | _ => false
  | .ats i fs e => fun st => match st with
    | .Assign [.Tuple es k p] v _ => (match N[i]? with | some x => vis sc x && !isDbg x && !isCdt x && attTs x es (fs.map so) | none => false) && noCmp v && decide (swpC (.Tuple es k p) v sc = some none) && mtE T N sc wr e v
    | _ => false
  | .sub o i e => fun st => match st with
    | .Assign [.Subscript o' i' _] v _ => noCmp v && plIx i' && mtE T N sc wr o o' && mtE T N sc wr i i' && mtE T N sc wr e v
    | _ => false
  | .app i e => fun st => match st with
    | .Expr (.Call (.Attribute (.Name x _) m apos) [v] [] pos) _ => decide (m = so "append") && decide (N[i]? = some x) && vis sc x && !isDbg x && !isCdt x && noStar v && (apos.endLine == pos.line) && mtE T N sc wr e v
    | _ => false
  | .aug i o e => fun st => match st with
    | .AugAssign (.Name x _) o' v _ => decide (o' = bopOf o) && (decide (o = .add) || decide (o = .sub)) && decide (N[i]? = some x) && loc wr x && mtE T N sc wr e v
    | _ => false
def mtSs (T : Tb) (N : List Str) (sc wr : Scope) : S → List Stmt → Bool
  | .skip => fun st => match st with
    | [] => true
    | _ => false
  | .seq a b => fun st => match st with
    | st :: sts => mtS T N sc wr a st && mtSs T N sc wr b sts
    | _ => false
  | _ => fun _ => false
end
section
variable (T : Tb) (N : List Str) (F : Fx) (Γ : Gam)
structure GoodS (t : S) : Prop where
  ps : ∀ (W : WXX) (X : Cx) (sc wr : Scope) (st : Stmt), Cok T F Γ W X → Sc X N sc wr → PassesOwn (model X.prog X.w) X.A X.env X.xe → mtS T N sc wr t st = true → PS X st (LS F W (ex Γ t)) := by intros; rename_i h; exact (Bool.false_ne_true h).elim
  pss : ∀ (W : WXX) (X : Cx) (sc wr : Scope) (st : List Stmt), Cok T F Γ W X → Sc X N sc wr → PassesOwn (model X.prog X.w) X.A X.env X.xe → mtSs T N sc wr t st = true → PSs X st (LS F W (ex Γ t)) := by intros; rename_i h; exact (Bool.false_ne_true h).elim
end
section
variable {T : Tb} {N : List Str} {F : Fx} {Γ : Gam}
theorem goodE {W : WXX} {X : Cx} {sc wr : Scope} {t : E} {e : Expr} (C : Cok T F Γ W X) (S : Sc X N sc wr) (h : mtE T N sc wr t e = true) : PE X e (LE F W (ev Γ t)) := (good t).pe W X sc wr e C S h
theorem goodL {W : WXX} {X : Cx} {sc wr : Scope} {t : E} {i : Nat} {tg e : Expr} {q0 : Pos} (C : Cok T F Γ W X) (S : Sc X N sc wr) (h : mtL T N sc wr i t tg e = true) : PS X (.Assign [tg] e q0) (LS F W (ex Γ (.asg (.var i) t))) := by
  unfold mtL at h
  split at h
  · rename_i ws t it cs el x px elt gs scope pos
    simp only [Bool.and_eq_true, decide_eq_true_eq] at h
    obtain ⟨⟨⟨h1, h2⟩, h3⟩, h⟩ := h
    simp only [mtE] at h
    split at h
    · rename_i elt tg iter ifs scope p e
      cases e
      rw [Bool.and_eq_true, Bool.and_eq_true, Bool.and_eq_true, Bool.and_eq_true, Bool.and_eq_true, Bool.and_eq_true] at h
      obtain ⟨⟨⟨⟨⟨⟨g1, g2⟩, g3⟩, g4⟩, g5⟩, g6⟩, g7⟩ := h
      have q := ps_setLc (i := i) (y := x) (py := px) (elt := elt) (tg := tg) (iter := iter) (ifs := ifs) (pos := pos) (spos := q0) (wi := LI F W (ev Γ it)) (g := LG F t) (tt := LT F NoW (evT (ev Γ cs))) (te := LE F NoW (ev Γ el)) C.calm C.nd (by rw [S.hN]; exact h1) (by rw [S.hs]; exact h2) (by rw [swB_ok, S.hs, h3]) ((good it).pi _ _ _ _ _ _ C S g1) (blkOk_by (by rw [S.hN, S.hs]; exact g2)) (fun s H Cc cl fp => (good t).pg _ _ _ _ _ (C.blk s H scope _ fp) (S.blk s H scope cl Cc fp) g5)
        (fun s H Cc cl fp => good_ifs (good cs) (C.blk s H scope _ fp) (S.blk s H scope cl Cc fp) g6) (fun s H Cc cl fp => (good el).pe _ _ _ _ _ (C.blk s H scope _ fp) (S.blk s H scope cl Cc fp) g7) (folded_ok g3 _)
      rw [own_snd] at q
      exact PSi q fun E σ H hh => ls_asgvar (lc_imp (all_mem g4)) hh
    · cases h
  · rename_i ws t it cs ws1 t1 it1 cs1 el x px elt gs scope pos
    simp only [Bool.and_eq_true, decide_eq_true_eq] at h
    obtain ⟨⟨⟨h1, h2⟩, h3⟩, h⟩ := h
    simp only [mtE] at h
    split at h
    · rename_i elt tg iter ifs tg1 iter1 ifs1 scope p e
      cases e
      iterate 12 rw [Bool.and_eq_true] at h
      obtain ⟨⟨⟨⟨⟨⟨⟨⟨⟨⟨⟨⟨g1, g2⟩, g3⟩, g3'⟩, gv⟩, g4⟩, g4'⟩, g5⟩, g6⟩, g7⟩, g8⟩, g9⟩, g10⟩ := h
      have q := ps_setLc2 (i := i) (y := x) (py := px) (vs1 := ws1) (elt := elt) (tg := tg) (iter := iter) (ifs := ifs) (tg1 := tg1) (iter1 := iter1) (ifs1 := ifs1) (pos := pos) (spos := q0) (wi := LI F W (ev Γ it)) (g := LG F t) (tt := LT F NoW (evT (ev Γ cs))) (wi1 := LI F NoW (ev Γ it1)) (g1 := LG F t1) (tt1 := LT F NoW (evT (ev Γ cs1))) (te := LE F NoW (ev Γ el)) C.calm C.nd (by rw [S.hN]; exact h1) (by rw [S.hs]; exact h2) (by rw [swB_ok, S.hs, h3]) ((good it).pi _ _ _ _ _ _ C S g1) (blkOk_by (by rw [S.hN, S.hs]; exact g2)) (by rw [own_snd]; exact all_mem gv) (fun s H Cc cl fp => (good t).pg _ _ _ _ _ (C.blk s H scope _ fp) (S.blk s H scope cl Cc fp) g5)
        (fun s H Cc cl fp => good_ifs (good cs) (C.blk s H scope _ fp) (S.blk s H scope cl Cc fp) g6) (fun s H Cc cl fp => (good it1).pi _ _ _ _ _ _ (C.blk s H scope _ fp) (S.blk s H scope cl Cc fp) g7)
        (fun s H Cc cl fp => (good t1).pg _ _ _ _ _ (C.blk s H scope _ fp) (S.blk s H scope cl Cc fp) g8) (fun s H Cc cl fp => good_ifs (good cs1) (C.blk s H scope _ fp) (S.blk s H scope cl Cc fp) g9)
        (fun s H Cc cl fp => (good el).pe _ _ _ _ _ (C.blk s H scope _ fp) (S.blk s H scope cl Cc fp) g10) (folded_ok g3 _) (fun _ => folded_ok g3' _)
      rw [own_snd] at q
      exact PSi q fun E σ H hh => ls_asgvar (lc2_imp (all_mem g4) (all_mem g4')) hh
    · cases h
  · cases h
theorem goodP {W : WXX} {X : Cx} {sc wr : Scope} {t e : E} {tg v : Expr} {p : Pos} (C : Cok T F Γ W X) (S : Sc X N sc wr) (h : mtP T N sc wr t e tg v = true) : PS X (.Assign [tg] v p) (LS F W (ex Γ (.asg t e))) := by
  obtain ⟨hN, hs, _⟩ := id S
  unfold mtP at h
  split at h
  · simp only [Bool.and_eq_true, decide_eq_true_eq, Bool.not_eq_true', decide_eq_false_iff_not] at h
    obtain ⟨⟨⟨⟨⟨⟨h1, h2⟩, h3⟩, h4⟩, h5⟩, h6⟩, h7⟩ := h
    exact s_par C.calm C.nd (by rw [hN]; exact h2) (by rw [hN]; exact h3) h4 (by rw [hs]; exact h5) (by rw [hs]; exact h6) ((good _).pa _ _ _ _ _ C S h7).1 (swp_ok (by rw [hs]; exact h1))
  · simp only [Bool.and_eq_true, decide_eq_true_eq, Bool.not_eq_true', decide_eq_false_iff_not] at h
    obtain ⟨⟨⟨⟨⟨⟨⟨⟨⟨⟨h1, h2⟩, h3⟩, h3'⟩, h4⟩, h4'⟩, h4''⟩, h5⟩, h6⟩, h6'⟩, h7⟩ := h
    exact s_par3 C.calm C.nd (by rw [hN]; exact h2) (by rw [hN]; exact h3) (by rw [hN]; exact h3') h4 h4' h4'' (by rw [hs]; exact h5) (by rw [hs]; exact h6) (by rw [hs]; exact h6') ((good _).pa _ _ _ _ _ C S h7).1 (swp_ok (by rw [hs]; exact h1))
  · cases h
theorem goods (t : S) : GoodS T N F Γ t := by
  induction t with
  | skip =>
    refine ⟨fun W X sc wr st C S P h => ?_, fun W X sc wr st C S P h => ?_⟩
    · simp only [mtS] at h
      split at h
      · exact s_pass
      · cases h
    · simp only [mtSs] at h
      split at h
      · exact ss_nil
      · cases h
  | seq a b iha ihb =>
    refine { pss := fun W X sc wr st C S P h => ?_ }
    · skip
      simp only [mtSs] at h
      split at h
      · rw [Bool.and_eq_true] at h
        exact ss_cons (iha.ps _ _ _ _ _ C S P h.1) (ihb.pss _ _ _ _ _ C S P h.2)
      · cases h
  | asg t e =>
    refine { ps := fun W X sc wr st C S P h => ?_ }
    · skip
      simp only [mtS] at h
      split at h
      · rename_i tg v p
        rw [Bool.or_eq_true, Bool.or_eq_true] at h
        rcases h with (h | h) | h
        · simp only [Bool.and_eq_true, decide_eq_true_eq, Bool.not_eq_true'] at h
          obtain ⟨⟨⟨⟨h1, h2⟩, h3⟩, h4⟩, h5⟩ := h
          exact s_asg (by rw [swB_ok, S.hs, h1]) (swp_ok (by rw [S.hs]; exact h2)) h3 (goodE C S h4) ((good t).pg _ _ _ _ _ C S h5)
        · split at h
          · exact goodL C S h
          · cases h
        · exact goodP C S h
      · cases h
  | exp e =>
    refine { ps := fun W X sc wr st C S P h => ?_ }
    · skip
      simp only [mtS] at h
      split at h
      · rw [Bool.and_eq_true] at h
        exact s_exp h.1 (goodE C S h.2)
      · cases h
  | ret e =>
    refine { ps := fun W X sc wr st C S P h => ?_ }
    · skip
      simp only [mtS] at h
      split at h
      · exact s_ret (goodE C S h)
      · cases h
  | retN =>
    refine { ps := fun W X sc wr st C S P h => ?_ }
    · skip
      simp only [mtS] at h
      split at h
      · exact s_retN
      · cases h
  | ife c a b iha ihb =>
    refine { ps := fun W X sc wr st C S P h => ?_ }
    · skip
      simp only [mtS] at h
      split at h
      · simp only [Bool.and_eq_true] at h
        exact s_ife ((good c).tst C S h.1.1) (iha.pss _ _ _ _ _ C S P h.1.2) (ihb.pss _ _ _ _ _ C S P h.2)
      · cases h
  | for_ t it b ih =>
    refine { ps := fun W X sc wr st C S P h => ?_ }
    · skip
      simp only [mtS] at h
      split at h
      · simp only [Bool.and_eq_true] at h
        exact s_for P C.calm h.1.1.1 ((good it).pi _ _ _ _ _ _ C S h.1.1.2) ((good t).pg _ _ _ _ _ C S h.1.2) (ih.pss _ _ _ _ _ C S P h.2)
      · cases h
  | whl c b ih =>
    refine { ps := fun W X sc wr st C S P h => ?_ }
    · skip
      simp only [mtS] at h
      split at h
      · simp only [Bool.and_eq_true] at h
        exact s_whl P ((good c).tst C S h.1) (ih.pss _ _ _ _ _ C S P h.2)
      · cases h
  | brk =>
    refine { ps := fun W X sc wr st C S P h => ?_ }
    · skip
      simp only [mtS] at h
      split at h
      · exact s_brk
      · cases h
  | cnt =>
    refine { ps := fun W X sc wr st C S P h => ?_ }
    · skip
      simp only [mtS] at h
      split at h
      · exact s_cnt
      · cases h
  | rse e =>
    refine { ps := fun W X sc wr st C S P h => ?_ }
    · skip
      simp only [mtS] at h
      split at h
      · simp only [Bool.and_eq_true, decide_eq_true_eq, Bool.not_eq_true'] at h
        obtain ⟨⟨⟨⟨⟨h1, h2⟩, h3⟩, h4⟩, h5⟩, h6⟩ := h
        obtain ⟨g1, g2, _⟩ := (good _).pa _ _ _ _ _ C S h6
        exact s_rse C h1 h2 (by rw [S.hs]; exact h3) h4 g2 h5 g1
      · cases h
  | nev => exact { ps := fun W X sc wr st C S P h => s_nev }
  | att o f e =>
    refine { ps := fun W X sc wr st C S P h => ?_ }
    · skip
      simp only [mtS] at h
      split at h
      · simp only [Bool.and_eq_true, decide_eq_true_eq] at h
        exact s_att C h.1.1.1 h.1.1.2 (goodE C S h.1.2) (goodE C S h.2)
      · cases h
  | ats i fs e =>
    refine { ps := fun W X sc wr st C S P h => ?_ }
    · skip
      simp only [mtS] at h
      split at h
      · rw [Bool.and_eq_true, Bool.and_eq_true, Bool.and_eq_true] at h
        obtain ⟨⟨⟨h1, h2⟩, h3⟩, h4⟩ := h
        split at h1
        · rename_i x q
          simp only [Bool.and_eq_true, Bool.not_eq_true'] at h1
          exact s_ats C (by rw [S.hN]; exact q) (by rw [S.hs]; exact h1.1.1.1) h1.1.1.2 h1.1.2 h1.2 h2 (swp_ok (by rw [S.hs]; simpa using h3)) (goodE C S h4)
        · cases h1
      · cases h
  | sub o i e =>
    refine { ps := fun W X sc wr st C S P h => ?_ }
    · skip
      simp only [mtS] at h
      split at h
      · simp only [Bool.and_eq_true] at h
        exact s_sub h.1.1.1.1 h.1.1.1.2 (goodE C S h.1.1.2) (goodE C S h.1.2) (goodE C S h.2)
      · cases h
  | app i e =>
    refine { ps := fun W X sc wr st C S P h => ?_ }
    · skip
      simp only [mtS] at h
      split at h
      · simp only [Bool.and_eq_true, decide_eq_true_eq, Bool.not_eq_true'] at h
        obtain ⟨⟨⟨⟨⟨⟨⟨h1, h2⟩, h3⟩, h4⟩, h5⟩, h6⟩, h7⟩, h8⟩ := h
        subst h1
        exact s_app C (by rw [S.hN]; exact h2) (by rw [S.hs]; exact h3) h4 h5 h6 h7 (goodE C S h8)
      · cases h
  | aug i o e =>
    refine { ps := fun W X sc wr st C S P h => ?_ }
    · skip
      simp only [mtS] at h
      split at h
      · simp only [Bool.and_eq_true, decide_eq_true_eq, Bool.or_eq_true] at h
        obtain ⟨⟨⟨⟨h1, h2⟩, h3⟩, h4⟩, h5⟩ := h
        subst h1
        obtain ⟨w1, w2⟩ := S.wr _ h4
        exact s_aug C.nd (by rw [S.hN]; exact h3) w1 w2 h2 (goodE C S h5)
      · cases h
end
end PL

set_option Elab.async false
set_option linter.all false
set_option maxRecDepth 100000
set_option maxHeartbeats 4000000
/-! PL.Fn: a def keeps what its tree says. -/
namespace PL
open PySem L2 PySem.Spec PyProof.Rows
/-- what a def's text may lean on -/
structure Sta (T : Tb) (F : Fx) (Γ : Gam) (P : Program) (wd : World) (mg : Str → Option Value) (base : Heap) : Prop where
  ac : AllC F Γ
  glob : ∀ f lv, T.fl f = some lv → lv ≤ T.k ∧ ∃ a, mg (so f) = some (.ref a) ∧ F.fa f = some a ∧ PySem.W.keepIn F.K (.ref a) = true ∧ CallOk F P wd mg base lv f (Γ.fn f)
  blt : ∀ b : Blt, b ≠ .gcd → mg (so (bltName b)) = none
  rng : mg (so "range") = none
  zip : mg (so "zip") = none
  enm : mg (so "enumerate") = none
  bool : mg (so "bool") = none
  str : mg (so "str") = none
  dict : mg (so "dict") = none
  gcd : T.gc = true → mg (so "gcd") = some (.builtin "math.gcd")
  meth : ∀ n lv, T.ml n = some lv → lv ≤ T.k ∧ ∀ C g, Γ.meth C n = some g → F.cx C ≠ none → CallOk F P wd mg base lv g (Γ.fn g)
  make : ∀ C lv, T.cl C = some lv → lv + 1 ≤ T.k ∧ ∃ A, F.cx C = some A ∧ mg (so C) = some (.ref A) ∧ ∃ g f, Γ.meth C "__init__" = some g ∧ F.fa g = some f ∧ Mk F.K A f ∧ CallOk F P wd mg base lv g (Γ.fn g)
  plan : ∀ f n ks p, Γ.plan f n ks = some p → PlanOk F f n ks p
  clk : ∀ C, T.kc C = true → ∃ A, F.ca C = some A
  kke : T.ke ≤ T.k
  cnI : ∀ x i, T.cn x = some (.int i) → ∃ t, mg x = some (.int i t)
  cnS : ∀ x y, T.cn x = some (.str y) → ∃ t, mg x = some (.str (so y) t)
  eqm : ∀ C g, Γ.meth C "__eq__" = some g → F.cx C ≠ none → ∃ lv, lv + 1 ≤ T.ke ∧ CallOk F P wd mg base lv g (Γ.fn g)
  exc : ∀ C ns, T.xc C = some ns → 2 ≤ T.k ∧ ∃ A D fI fd ps, F.xx C = some A ∧ mg (so C) = some (.ref A) ∧ XcOk F P wd mg base A D fI fd ps (ns.map so)
  cau : ∀ f lv, T.ca f = some lv → lv + 1 ≤ T.k ∧ CauOk F P wd mg base lv Γ.mro f (Γ.fn f)
  clv : ∀ C A, F.ca C = some A → mg (so C) = some (.ref A)
  nb : ∀ n ∈ moreNames, mg (so n) = none
theorem Sta.gd {T : Tb} {F : Fx} {Γ : Gam} {P : Program} {wd : World} {mg : Str → Option Value} {base : Heap} {b : Bool} (S : Sta T F Γ P wd mg base) : Sta { T with gd := b } F Γ P wd mg base :=
  { ac := S.ac, glob := S.glob, blt := S.blt, rng := S.rng, zip := S.zip, enm := S.enm, bool := S.bool, str := S.str, dict := S.dict, gcd := S.gcd, meth := S.meth, make := S.make, plan := S.plan, clk := S.clk, kke := S.kke, cnI := S.cnI, cnS := S.cnS, eqm := S.eqm, exc := S.exc, cau := S.cau, clv := S.clv, nb := S.nb }
theorem Sta.cok {T : Tb} {F : Fx} {Γ : Gam} {W : WXX} {X : Cx} (S : Sta T F Γ X.prog X.w X.mg X.base) (hK : X.K = F.K) (calm : X.calm = true) (nd : X.N.Nodup) (tk : Takes X W) (room : Room T.k X.A) (tab : T.tb = true → ∃ c P, X.env.code = .ref c ∧ LamX.TabB X.base X.mg c P ∧ (P, X.env.qual ++ "<lambda>") ∈ F.tabs ∧ ∀ p ∈ F.tabs, p.1 = P → p.2 = X.env.qual ++ "<lambda>") (gd : T.gd = true → X.A.guards = some []) : Cok T F Γ W X := by
  exact { hK := hK, calm := calm, nd := nd, tk := tk, ac := S.ac, room := room, glob := by rw [hK]; exact S.glob, blt := S.blt, rng := S.rng, zip := S.zip, enm := S.enm, bool := S.bool, str := S.str, dict := S.dict, gcd := S.gcd, meth := S.meth, make := by rw [hK]; exact S.make, plan := S.plan, clk := S.clk, kke := S.kke, cnI := S.cnI, cnS := S.cnS, eqm := S.eqm, clv := S.clv, exc := S.exc, cau := S.cau, tab := tab, nb := S.nb, gd := gd }
section
variable {T : Tb} {F : Fx} {Γ : Gam} {P : Program} {wd : World} {mg : Str → Option Value} {base : Heap}
/-- a def's code object, its table of code objects -/
def TabR (F : Fx) (mg : Str → Option Value) (base : Heap) (fd : FuncData) (qual : Str) : Prop :=
  ∃ c P, fd.code = .ref c ∧ LamX.TabB base mg c P ∧ (P, (qual ++ ".<locals>.") ++ "<lambda>") ∈ F.tabs ∧ ∀ p ∈ F.tabs, p.1 = P → p.2 = (qual ++ ".<locals>.") ++ "<lambda>"
theorem LSp.len {t : FD} {ps : List Str} (hn : t.np = ps.length) {vs : List V} {H : Hp} {Q : VK} {E : XK} (h : LSp F (runF Γ t) vs H Q E) : vs.length = ps.length := by
  obtain ⟨ds, w, rfl, r, h, p⟩ := h
  rw [← h.length, ← hn]
  unfold runF at p
  split at p
  · assumption
  · exact p.elim
/-- a def's body, at any place -/
theorem fn_core {qual : Str} {st : Stmt} {f : Addr} {cdv : Value} {N ps : List Str} {t : FD} (sta : Sta T F Γ P wd mg base) (S : FnScope N ps (defScope st))
    (hn : t.np = ps.length) (hl : t.nl = N.length) (hm : mtSs T N (defScope st) (defScope st) t.body (defBody st) = true) (htab : T.tb = true → ∃ c P, cdv = .ref c ∧ LamX.TabB base mg c P ∧ (P, (qual ++ ".<locals>.") ++ "<lambda>") ∈ F.tabs ∧ ∀ p ∈ F.tabs, p.1 = P → p.2 = (qual ++ ".<locals>.") ++ "<lambda>")
    {A : Around} {outer : List PySem.Env} {s : Shared} {H : Hp} {vs : List V} {Q : VK} {E : XK} (hr : Room T.k (A.deeper (envOfC qual (defScope st) s.heap.objs.size f cdv))) (hgd : T.gd = true → A.guards = some []) (hsp : LSp F (runF Γ t) vs H Q E) :
    ∃ t', PSs (cxOf (L2.CX P wd) P wd F.K mg base N qual (defScope st) f cdv A outer s H E) (defBody st) t' ∧ t' { nx := fun _ H' => Q .non H', rt := Q } (L2.start N vs) H := by
  have hlen := LSp.len hn hsp
  obtain ⟨ds, w, rfl, r, h, p⟩ := hsp
  have dl : ds.length = ps.length := h.length.trans hlen
  let X := cxOf (L2.CX P wd) P wd F.K mg base N qual (defScope st) f cdv A outer s w.H E
  let W : WXX := fun cls d _ H => E cls d H
  have C : Cok T F Γ W X := Sta.cok (X := X) sta rfl rfl S.nd (takes_of rfl rfl rfl rfl) hr (fun h => htab h) hgd
  have Sx : Sc X N (defScope st) (defScope st) := ⟨rfl, rfl, fun x h => ⟨loc_ok h, .inl rfl⟩⟩
  refine ⟨_, (goods t.body).pss W X _ _ _ C Sx (passes_of rfl) hm, ?_⟩
  unfold runF at p
  rw [if_pos (dl.trans hn.symm)] at p
  have sr : SR F w (ds.map some ++ List.replicate (t.nl - ds.length) none) (L2.start N vs) := by
    refine ⟨?_, fun i d hd => ?_⟩
    · unfold L2.start
      simp only [List.length_append, List.length_map, List.length_replicate, h.length, hl]
    · by_cases hi : i < ds.length
      · rw [List.getElem?_append_left (by simpa using hi), List.getElem?_map] at hd
        rw [List.getElem?_eq_getElem hi] at hd
        cases hd
        obtain ⟨v, hv, rv⟩ := h.get (List.getElem?_eq_getElem hi)
        refine ⟨v, ?_, rv⟩
        unfold L2.start
        rw [List.getElem?_append_left (by rw [List.length_map, ← h.length]; exact hi), List.getElem?_map, hv]
        rfl
      · rw [List.getElem?_append_right (by simpa using hi)] at hd
        rw [List.getElem?_replicate] at hd
        split at hd <;> cases hd
  refine ⟨_, w, rfl, r, sr, ?_⟩
  cases q : ex Γ t.body (ds.map some ++ List.replicate (t.nl - ds.length) none) w.m with
  | nx ρ m' =>
    rw [q] at p
    intro w' σ' h1 h2 h3 h4
    subst h1
    exact cut_post (v := V.non) r h2 h3 (by simp only [Rp]) p
  | rt d m' =>
    rw [q] at p
    intro w' v h1 h2 h3 h4
    subst h1
    exact cut_post r h2 h3 h4 p
  | er x ρ m' =>
    rw [q] at p
    exact fun w' σ' c dd h1 h2 h3 _ h5 => p w' c dd h1 h2 h3 h5
  | br _ _ => rw [q] at p; exact p.elim
  | ct _ _ => rw [q] at p; exact p.elim
  | stk => rw [q] at p; exact p.elim
theorem fn_ok {name : String} {x qual : Str} {st : Stmt} {f : Addr} {fd : FuncData} {N ps : List Str} {t : FD} (sta : Sta T F Γ P wd mg base) (hg0 : T.gd = false) (hf : Fun F.K x qual st f fd) (hb : Binds F.K fd ps []) (hfa : F.fa name = some f) (hfd : F.fd name = some (fd, ps)) (S : FnScope N ps (defScope st))
    (hn : t.np = ps.length) (hl : t.nl = N.length) (hm : mtSs T N (defScope st) (defScope st) t.body (defBody st) = true) (htab : T.tb = true → TabR F mg base fd qual) : CallOk F P wd mg base (T.k + 1) name (runF Γ t) := by
  obtain ⟨oc, od, kV, doc, pm, an, cdv, ct, osl, rfl, lk, hcd⟩ := hf.ex
  exact ⟨f, _, ps, hfa, hfd, fn_of lk hcd S (fun vs H Q E h => LSp.len hn h) fun A outer s H vs Q E hr hsp => fn_core sta S hn hl hm htab hr (fun h => by rw [hg0] at h; cases h) hsp, hb⟩
/-- a def's run at one place -/
def RunAt (CX : CXT) (P : Program) (wd : World) (K : PySem.W.Frag) (mg : Str → Option Value) (base : Heap) (A : Around) (f : Addr) (fd : FuncData) (ps : List Str) (sp : Sp) : Prop :=
  ∀ (outer : List PySem.Env) (s : Shared) (H : Hp) (args : Args) (us : List Value) (vs : List V) (Q : VK) (E : XK), Env0 P wd K mg base A outer s H → BindsTo s fd args (ps.zip us) → Vals vs us → sp vs H Q E →
    codeAny (model P wd) A (.call (.ref f) args) (CR CX outer P wd H s Q E) s
theorem fn_run {x qual : Str} {st : Stmt} {f : Addr} {fd : FuncData} {N ps : List Str} {t : FD} (sta : Sta T F Γ P wd mg base) (hf : Fun F.K x qual st f fd) (S : FnScope N ps (defScope st))
    (hn : t.np = ps.length) (hl : t.nl = N.length) (hm : mtSs T N (defScope st) (defScope st) t.body (defBody st) = true) (htab : T.tb = true → TabR F mg base fd qual) {A : Around} (hr : Room (T.k + 1) A) (hgd : A.guards = some []) : RunAt (L2.CX P wd) P wd F.K mg base A f fd ps (LSp F (runF Γ t)) := by
  obtain ⟨oc, od, kV, doc, pm, an, cdv, ct, osl, rfl, lk, hcd⟩ := hf.ex
  intro outer s H args us vs Q E e0 hb rv hsp
  have hv := LSp.len hn hsp
  refine StX.run_bnd (G := fun vs' H' => vs' = vs ∧ H' = H) lk hcd S hr e0 (fun A' Ex Q' hq => ?_) fun s2 H2 vs2 hg hr2 => ?_
  · exact hb _ A' Ex Q' (hq s H vs us e0 Un.refl rfl (fun _ _ z => z) rv hv ⟨rfl, rfl⟩)
  · obtain ⟨rfl, rfl⟩ := hg
    exact fn_core sta S hn hl hm htab hr2 (fun _ => hgd) hsp
theorem CallOk.weak {lv : Nat} {name : String} {g g' : List D → Mem → Out D} (h : CallOk F P wd mg base lv name g) (hw : ∀ ds m, g' ds m = .stk ∨ g' ds m = g ds m) : CallOk F P wd mg base lv name g' := by
  obtain ⟨a, fd, ps, h1, h1', h2, h3⟩ := h
  refine ⟨a, fd, ps, h1, h1', h2.imp fun vs H Q E ⟨ds, w, e, r, hr, p⟩ => ⟨ds, w, e, r, hr, ?_⟩, h3⟩
  rcases hw ds w.m with z | z
  · rw [z] at p; exact p.elim
  · rw [← z]; exact p
theorem CallOk.up {lv lv' : Nat} {name : String} {g : List D → Mem → Out D} (h : CallOk F P wd mg base lv name g) (hl : lv ≤ lv') : CallOk F P wd mg base lv' name g := by
  obtain ⟨a, fd, ps, h1, h1', h2, h3⟩ := h
  exact ⟨a, fd, ps, h1, h1', h2.mono hl, h3⟩
/-- a law's promise: it answers True -/
theorem law_sp {g : List D → Mem → Out D} {H : Hp} (ht : LamX.Tabs F.tabs H) {a : Addr} {ns : List Int} (hS : SqL F.K H a (ns.map V.int)) {m : Mem} (hg : g [.lst (ns.map D.int)] [] = .ok (.bl true) m) : LSp F g [.ref a] H (fun v _ => v = .bl true) fun _ _ _ => False := by
  let w : Wo := ⟨[], [], H, []⟩
  have nl : ∀ b, ¬ Lv w b := fun b l => by
    rcases l with ⟨i, o, h1, _⟩ | l
    · simp [w] at h1
    · simp [w] at l
  have r : Rel F w := ⟨rfl, fun i a o h => by simp [w] at h, fun i j a o u h => by simp [w] at h, fun a h => by simp [w] at h, ht⟩
  have rl : RpL F w (ns.map D.int) (ns.map V.int) := by
    clear hS hg
    induction ns with
    | nil => exact RpL.nil
    | cons n ns ih => exact RpL.cons (by simp only [Rp]) ih
  refine ⟨[.lst (ns.map D.int)], w, rfl, r, RpL.cons ?_ RpL.nil, ?_⟩
  · simp only [Rp]
    refine ⟨a, ns.map V.int, rfl, ?_, rl⟩
    rcases hS with h | h
    · exact .inl ⟨h, nl a⟩
    · exact .inr h
  · show Post F (RE F) _ [] w (g [.lst (ns.map D.int)] []) _
    rw [hg]
    intro w' v _ _ _ h
    simpa only [RE, Rp] using h
/-- the def that catches what its lambda lets out: caught, found = (None, None); try: found = ask() / except RulerError as error: caught = error; the rest -/
def cauB (T : Tb) (N : List Str) (sc : Scope) (x0 : Str) (tail : S) (bg : List Stmt) : Bool :=
  match bg with
  | .Assign [tg] v _ :: .Try [.Assign [.Name y2 q2] (.Call (.Name y0 _) [] [] q0) q3] [.ExceptHandler (some (.Name ex _)) (some n) [.Assign [.Name y1 q1] (.Name n' qn) q4] _] [] [] _ :: rest =>
    mtE T N sc sc (.tup (.cons (.cst .non) (.cons (.cst .non) .nil))) v && mtG T N sc sc (.tup (.cons (.var 1) (.cons (.var 2) .nil))) tg && !(swB v tg sc) && decide (swpC tg v sc = some none) && noStar tg &&
    decide (N[0]? = some x0) && decide (y0 = x0) && decide (N[1]? = some y1) && decide (N[2]? = some y2) && decide (N[3]? = some n) && decide (n' = n) && decide (ex = so "RulerError") && glo sc ex && T.kc "RulerError" && !isDbg ex &&
    decide (sc.names.lookup y1 = some .local) && decide (sc.names.lookup y2 = some .local) && decide (sc.names.lookup n = some .local) && vis sc x0 && isD x0 && isD n && mtSs T N sc sc tail rest
  | _ => false
theorem cau_ok {name : String} {x0 : Str} {st : Stmt} {f : Addr} {fd : FuncData} {N : List Str} {t : FD} (sta : Sta T F Γ P wd mg base) (hf : Fun F.K (so name) (so name) st f fd) (hb : Binds F.K fd [x0] []) (hmg : mg (so name) = some (.ref f)) (S : FnScope N [x0] (defScope st))
    (hn : t.np = 2) (hl : t.nl = N.length) (htb : T.tb = false) (hgd : T.gd = false) (hm : cauB T N (defScope st) x0 t.body (defBody st) = true) : CauOk F P wd mg base (T.k + 1) Γ.mro name (runC Γ t) := by
  obtain ⟨oc, od, kV, doc, pm, an, cdv, ct, osl, rfl, lk, hcd⟩ := hf.ex
  unfold cauB at hm
  split at hm
  rotate_left
  · cases hm
  rename_i tg v pa y2 q2 y0 pc q0 q3 ex pe n y1 q1 n' qn q4 ph pt rest hbd
  simp only [Bool.and_eq_true, decide_eq_true_eq, Bool.not_eq_true'] at hm
  obtain ⟨⟨⟨⟨⟨⟨⟨⟨⟨⟨⟨⟨⟨⟨⟨⟨⟨⟨⟨⟨⟨m1, m2⟩, m3⟩, m4⟩, m5⟩, n0⟩, rfl⟩, n1⟩, n2⟩, n3⟩, rfl⟩, rfl⟩, hgl⟩, hkc⟩, hdb⟩, l1⟩, l2⟩, l3⟩, v0⟩, d0⟩, dn⟩, hmt⟩ := hm
  obtain ⟨AR, hAR⟩ := sta.clk _ hkc
  have mR := sta.clv _ _ hAR
  obtain ⟨dn1, dn2⟩ := isD_ok dn
  refine ⟨f, y0, _, _, _, _, _, _, _, _, _, _, _, _, _, N, hmg, hf.kp, lk, hcd, hb, S, n0, vis_ok v0, d0, ?_⟩
  rintro X q hK rfl rfl rfl rfl hr f' c' s H Q tl act hc h
  have hln : 4 ≤ N.length := by
    have := (List.getElem?_eq_some_iff.mp n3).1
    omega
  obtain ⟨w0, hw0, r0, hh⟩ := h
  subst hw0
  have hc0 : ¬ Lv w0 c' := fun l => by
    rcases r0.live l with ⟨_, z⟩ | ⟨_, z⟩ | ⟨_, _, _, z⟩ <;> (rw [hc] at z; cases z)
  let Y := (cxOf C8.CX0 X.prog X.w X.K X.mg X.base N (so name) (defScope st) f cdv X.A X.stack s w0.H C8.E0).nox
  have Cy : Cok T F Γ NoW Y := Sta.cok (X := Y) sta hK rfl S.nd (fun _ _ z => by obtain ⟨_, _, _, _, _, _, _, _, _, _, _, _, _, _, _, _, z⟩ := z; exact z.elim) ((hr.deeper _).mono (Nat.le_succ _)) (fun h => by rw [htb] at h; cases h) fun h => by rw [hgd] at h; cases h
  have Sy : Sc Y N (defScope st) (defScope st) := ⟨rfl, rfl, fun x h => ⟨loc_ok h, .inl rfl⟩⟩
  have g1 := (good _).pe _ _ _ _ _ Cy Sy m1
  have g2 := (good _).pg _ _ _ _ _ Cy Sy m2
  have s1 := ps_asg (X := Y) (pos := pa) g1 g2 (show swapsWith v (some tg) pa.line Y.env = pure false by rw [swB_ok]; show pure (swB v tg (defScope st)) = _; rw [m3]) (swp_ok m4) (asgn1 m5 _)
  have gl : Gl Y (so "RulerError") := glo_ok hgl
  have s2 := PLX.ps_try_hold (X := Y) (np := pe) (pos := pt) (pos' := ph) (c := .ref AR) (n := n') (i := 3) (tb := fun W D σ H => ∃ Ech : XK, (∀ cls d σ' H', Ech cls d H' → W cls d σ' H') ∧ σ[0]? = some (some (.ref f')) ∧ H c' = some (LamX.CodeO c' q) ∧ tl Ech H fun v H' => D.nx (σ.set 2 (some v)) H')
    (body := [.Assign [.Name y2 q2] (.Call (.Name y0 pc) [] [] q0) q3]) (b0 := .Assign [.Name y1 q1] (.Name n' qn) q4) (more := []) (ts := fun _ => tAsg (tVar 3) (gName 1)) rfl rfl S.nd n3 l3 ⟨gl, hdb, .inl mR⟩
    (fun W pn xe tk _ => ⟨fun pins s' σ H' D I h' => by
      obtain ⟨Ech, hW, h1, h2, h3⟩ := h'
      have hp := act W pn xe Ech pc q0 tk hW
      exact (pss_one (ps_set (pos := q3) S.nd n2 (.inl l2) hp)).run pins s' σ H' D I ⟨h1, h2, h3⟩⟩)
    (fun a pn => pss_one (ps_set (pos := q4) S.nd n1 (.inl l1) (pe_var n3 (.inl l3) dn1 dn2) rfl (.inr l1)))
  have s3 := (goods t.body).pss NoW Y _ _ _ Cy Sy PassesOwn.never hmt
  rw [hbd]
  refine ⟨_, pss_cons s1 (pss_cons s2 s3), ?_⟩
  have fin : ∀ {w2 : Wo} {o : SO}, Post F (RE F) NoW [] w2 (match o with
      | .nx _ m' => .ok .non m'
      | .rt d m' => .ok d m'
      | .er x _ m' => .err x m'
      | _ => .stk) Q → PostS F NoW { nx := fun _ H' => Q .non H', rt := Q } w2 o := fun {w2 o} p => by
    cases o with
    | nx ρ m => exact fun w' σ' h1 h2 h3 h4 => p w' .non h1 h2 h3 (by simp only [RE, Rp])
    | rt d m => exact fun w' v h1 h2 h3 h4 => p w' v h1 h2 h3 h4
    | er x ρ m => exact fun w' σ' c dd h1 h2 h3 _ h5 => p w' c dd h1 h2 h3 h5
    | br _ _ => exact p.elim
    | ct _ _ => exact p.elim
    | stk => exact p.elim
  let ρ0 : Env := List.replicate N.length none
  have sr0 : ∀ (w : Wo) (σ : L2.St), σ.length = N.length → SR F w ρ0 σ := fun w σ hl => ⟨by simp [ρ0, hl], fun i d hd => by
    simp only [ρ0, List.getElem?_replicate] at hd
    split at hd <;> cases hd⟩
  have l0 : (L2.start N [V.ref f']).length = N.length := by
    unfold L2.start
    simp only [List.length_append, List.length_map, List.length_replicate, List.length_cons, List.length_nil]
    omega
  refine ⟨ρ0, w0, rfl, r0, sr0 _ _ l0, ?_⟩
  show Post F (RE F) NoW _ w0 (.ok (.tup [.non, .non]) w0.m) _
  intro w1 v1 hm1 e1 r1 h1
  have ha : asgT (.tup (.cons (.var 1) (.cons (.var 2) .nil))) (.tup [.non, .non]) ρ0 = some ((ρ0.set 1 (some .non)).set 2 (some .non)) := by
    have z1 : 1 < ρ0.length := by simp [ρ0]; omega
    have z2 : 2 < (ρ0.set 1 (some D.non)).length := by simp [ρ0]; omega
    have z3 : 2 < ρ0.length := by simpa using z2
    simp [asgT, asgT.asgL, z1, z3]
  refine ⟨ρ0, _, w1, _, rfl, r1, sr0 _ _ l0, h1, ha, fun σ1 hs1 hb1 => ?_⟩
  have l1' : σ1.length = N.length := by rw [hb1.1, l0]
  have h01 : σ1[0]? = some (some (.ref f')) := (hb1.2 0 (by simp [tsl])).trans rfl
  refine ⟨fun cls d H' => ∀ σ', PLX.wHold Y.K N.length (.ref AR) 3 (fun _ => tAsg (tVar 3) (gName 1)) _ cls d σ' H', fun cls d σ' H' h => h σ', h01, (e1.kp hc hc0 (noDk_of (fun _ z => by unfold LamX.CodeO at z; cases z) (fun _ z => by unfold LamX.CodeO at z; cases z) fun _ _ z => by unfold LamX.CodeO at z; cases z) LamX.codeO_ne).1, hh w1 _ _ e1 r1 hm1 ?_ ?_⟩
  · intro C ns ds w2 cls d e2 r2 hx hR hp σ' hlen
    obtain ⟨A', d', fs, xs, hA', rfl, rfl, hd', hl', hlk, hlen2, hrp⟩ := hx
    refine ⟨(show PySem.W.exmOne X.K _ _ = _ by rw [hK]; exact ((sta.ac.exc C A' hA').exm AR hAR).trans (congrArg some hR)), A', d', rfl, rfl, fun a ha => ⟨.ref a, ?_, ?_⟩⟩
    · rw [List.getElem?_set_self (by omega)]
    · have eN := Ex.new r2 (o := ExcO a A' d') ha
      have nd : d' ≠ a := fun z => by rw [z, ha] at hd'; cases hd'
      unfold runC at hp
      rw [if_pos (by rw [hl]; simp; omega)] at hp
      refine ⟨_, { w2 with H := upd w2.H a (ExcO a A' d') }, rfl, r2.new ha, ⟨?_, fun i d hd => ?_⟩, fin (hp.ext eN)⟩
      · simp [hl, hlen]; omega
      · have hi : i = 1 ∧ d = .exc C ns ds := by
          rcases i with _ | _ | i
          · simp at hd
          · simp at hd; exact ⟨rfl, hd.symm⟩
          · simp [List.getElem?_replicate] at hd
        obtain ⟨rfl, rfl⟩ := hi
        refine ⟨.ref a, ?_, ?_⟩
        · rw [List.getElem?_set_ne (by omega), List.getElem?_set_self (by simp; omega)]
        · simp only [Rp]
          have k := eN.kp hd' hl' (noDk_of (fun _ z => nomatch z) (fun _ z => nomatch z) fun _ _ z => nomatch z) fun _ z => nomatch z
          exact ⟨a, A', d', fs, xs, rfl, hA', upd_same, r2.nlive_new ha, k.1, k.2, hlk, hlen2, RpL.ex eN _ _ hrp⟩
  · intro x w2 v e2 r2 hx hp
    unfold runC at hp
    rw [if_pos (by rw [hl]; simp; omega)] at hp
    refine ⟨_, w2, rfl, r2, ⟨?_, fun i d hd => ?_⟩, fin hp⟩
    · simp [hl, l1']; omega
    · rcases i with _ | _ | _ | i
      · simp at hd
      · simp at hd
        subst hd
        obtain ⟨v0, z1, z2⟩ := hs1.at_ 1 .non (by rw [List.getElem?_set_ne (by omega), List.getElem?_set_self (by simp [ρ0]; omega)])
        exact ⟨v0, by rw [List.getElem?_set_ne (by omega)]; exact z1, Rp.ex e2 _ _ z2⟩
      · simp at hd
        subst hd
        exact ⟨v, by rw [List.getElem?_set_self (by omega)], hx⟩
      · simp [List.getElem?_replicate] at hd
end
end PL

set_option Elab.async false
set_option linter.all false
set_option maxRecDepth 100000
set_option maxHeartbeats 4000000
/-! PL.Law: a program as a table of rows; every row keeps its promise. -/
namespace PL
open PySem L2 PySem.Spec PyProof.Rows
structure Row where
  name : String
  x : Str
  qual : Str
  st : Stmt
  lv : Nat
  N : List Str
  ps : List Str
  fd : FD
  own : Option (String × String)
  tab : Bool := false
/-- an own class of exceptions: its own bases, its fields, the class whose __init__ it has -/
structure XKls where
  mro : List String
  flds : List String
  own : Option String
/-- an own class: its own bases, its methods, its fields -/
structure Kls where
  mro : List String
  meth : List (String × String)
  flds : List String
structure Pg where
  rows : List Row
  fn : String → List D → Mem → Out D
  cls : List (String × Kls)
  plans : List ((String × Nat × List String) × List (Nat ⊕ D))
  fuel : Nat
  gc : Bool
  xs : List (String × XKls) := []
  cons : List (Str × D) := []
namespace Pg
variable (p : Pg)
def row (f : String) : Option Row := p.rows.find? fun r => r.name == f
def gOf (C n : String) : Option String := (p.cls.lookup C).bind fun c => c.meth.lookup n
def mro (C : String) : List String := match p.cls.lookup C with
  | some c => c.mro
  | none => ((p.xs.lookup C).map (·.mro)).getD []
def fld (C f : String) : Bool := match p.cls.lookup C with
  | some c => c.flds.contains f
  | none => match p.xs.lookup C with
    | some c => c.flds.contains f
    | none => false
def Γ (k : Nat) : Gam :=
  { fn := p.fn, mro := p.mro,
    meth := fun C n => (p.gOf C n).filter fun g => match p.row g with
      | some r => n != "__eq__" || decide (r.lv + 3 ≤ k)
      | none => false,
    fld := p.fld, fuel := p.fuel, plan := fun f n ks => p.plans.lookup (f, n, ks) }
/-- l is as high as each method of that name -/
def mAll (n : String) (l : Nat) : Bool := p.cls.all fun c => match c.2.meth.lookup n with
  | some g => (match p.row g with | some r => decide (r.lv ≤ l) | none => true)
  | none => true
def T (k : Nat) (tb : Bool) : Tb :=
  { k := k, fl := fun f => match p.row f with
      | some r => if r.own.isNone = true ∧ r.lv ≤ k ∧ r.fd.mode < 8 then some r.lv else none
      | none => none,
    ml := fun n => if (p.cls.any fun c => (c.2.meth.lookup n).isSome) = true then (List.range (k + 1)).find? (p.mAll n) else none,
    cl := fun C => match (p.gOf C "__init__").bind p.row with
      | some r => if r.lv + 1 ≤ k then some r.lv else none
      | none => none,
    kc := fun C => (p.cls.lookup C).isSome || (p.xs.lookup C).isSome, gc := p.gc, ke := k - 2,
    xc := fun C => if 2 ≤ k then (p.xs.lookup C).bind fun c => if c.own.isSome = true then some c.flds else none else none,
    ca := fun f => match p.row f with
      | some r => if r.fd.mode = 9 ∧ r.lv + 1 ≤ k then some r.lv else none
      | none => none,
    tb := tb, cn := fun x => p.cons.lookup x }
end Pg
section
variable {p : Pg} {F : Fx} {P : Program} {wd : World} {mg : Str → Option Value} {base : Heap}
/-- what the top has written -/
structure Fac (p : Pg) (F : Fx) (mg : Str → Option Value) : Prop where
  fn : ∀ r ∈ p.rows, ∃ f fdd, F.fa r.name = some f ∧ F.fd r.name = some (fdd, r.ps) ∧ Fun F.K r.x r.qual r.st f fdd ∧ Binds F.K fdd r.ps [] ∧ (r.own.isNone = true → mg (so r.name) = some (.ref f))
  blt : ∀ b : Blt, b ≠ .gcd → mg (so (bltName b)) = none
  rng : mg (so "range") = none
  zip : mg (so "zip") = none
  enm : mg (so "enumerate") = none
  bool : mg (so "bool") = none
  str : mg (so "str") = none
  dict : mg (so "dict") = none
  gcd : p.gc = true → mg (so "gcd") = some (.builtin "math.gcd")
  ac : ∀ k, AllC F (p.Γ k)
  cmg : ∀ C A, F.ca C = some A → mg (so C) = some (.ref A)
  cdom : ∀ C, (p.cls.lookup C).isSome = true → ∃ A, F.cx C = some A
  xdom : ∀ C, (p.xs.lookup C).isSome = true → ∃ A, F.ca C = some A
  mki : ∀ C A g, F.cx C = some A → p.gOf C "__init__" = some g → (p.row g).isSome = true → ∃ f, F.fa g = some f ∧ Mk F.K A f
  plan : ∀ f n ks pl, p.plans.lookup (f, n, ks) = some pl → PlanOk F f n ks pl
  cnI : ∀ x i, p.cons.lookup x = some (.int i) → ∃ t, mg x = some (.int i t)
  cnS : ∀ x y, p.cons.lookup x = some (.str y) → ∃ t, mg x = some (.str (so y) t)
  nb : ∀ n ∈ moreNames, mg (so n) = none
structure Chk (p : Pg) : Prop where
  sc : ∀ r ∈ p.rows, FnScope r.N r.ps (defScope r.st)
  mt : ∀ r ∈ p.rows, (if r.fd.mode = 9 then (match r.ps with | [x0] => cauB (p.T (r.lv - 1) false) r.N (defScope r.st) x0 r.fd.body (defBody r.st) | _ => false) else mtSs { p.T (r.lv - 1) r.tab with gd := decide (r.fd.mode = 8) } r.N (defScope r.st) (defScope r.st) r.fd.body (defBody r.st)) = true
  nu : ∀ r ∈ p.rows, (if r.fd.mode = 9 then r.fd.np = 2 ∧ r.x = so r.name ∧ r.qual = so r.name ∧ r.own = none else r.fd.np = r.ps.length) ∧ r.fd.nl = r.N.length ∧ 1 ≤ r.lv
  sem : ∀ r ∈ p.rows, ∀ ds m, p.fn r.name ds m = .stk ∨ p.fn r.name ds m = runR (p.Γ (r.lv - 1)) r.fd ds m
/-- the own exceptions are made as they say -/
def XAll (p : Pg) (F : Fx) (P : Program) (wd : World) (mg : Str → Option Value) (base : Heap) : Prop := ∀ C c, p.xs.lookup C = some c → c.own.isSome = true → ∃ A D fI fd ps, F.xx C = some A ∧ XcOk F P wd mg base A D fI fd ps (c.flds.map so)
/-- the tables of code objects -/
def TabAll (p : Pg) (F : Fx) (mg : Str → Option Value) (base : Heap) : Prop := ∀ r ∈ p.rows, r.tab = true → ∀ fdd, F.fd r.name = some (fdd, r.ps) → TabR F mg base fdd r.qual
def AllOk (p : Pg) (F : Fx) (P : Program) (wd : World) (mg : Str → Option Value) (base : Heap) (k : Nat) : Prop := ∀ r ∈ p.rows, r.lv ≤ k →
  (r.fd.mode < 8 → CallOk F P wd mg base r.lv r.name (p.fn r.name)) ∧ (r.fd.mode = 9 → CauOk F P wd mg base r.lv p.mro r.name (p.fn r.name))
theorem CauOk.weak {mro : String → List String} {lv : Nat} {name : String} {g g' : List D → Mem → Out D} (h : CauOk F P wd mg base lv mro name g) (hw : ∀ ds m, g' ds m = .stk ∨ g' ds m = g ds m) : CauOk F P wd mg base lv mro name g' := by
  obtain ⟨a, x0, pg, bg, sg, dV, kV, doc, pm, cdv, ct, oc, an, od, osl, Ng, h1, h2, h3, h4, h5, h6, h7, h8, h9, hG⟩ := h
  refine ⟨a, x0, pg, bg, sg, dV, kV, doc, pm, cdv, ct, oc, an, od, osl, Ng, h1, h2, h3, h4, h5, h6, h7, h8, h9, fun X q e1 e2 e3 e4 e5 hr f c' s H Q tl act hc ht => hG X q e1 e2 e3 e4 e5 hr f c' s H Q tl act hc ?_⟩
  obtain ⟨w0, k1, k2, k3⟩ := ht
  refine ⟨w0, k1, k2, fun w1 E1 R1 q1 q2 q3 hE hR => k3 w1 E1 R1 q1 q2 q3 (fun C ns ds w2 cls d a1 a2 a3 a4 a5 => ?_) fun x w2 v a1 a2 a3 a4 => ?_⟩
  · rcases hw [.exc C ns ds] w2.m with z | z
    · rw [z] at a5; exact a5.elim
    · rw [z] at a5; exact hE C ns ds w2 cls d a1 a2 a3 a4 a5
  · rcases hw [.non, x] w2.m with z | z
    · rw [z] at a4; exact a4.elim
    · rw [z] at a4; exact hR x w2 v a1 a2 a3 a4
theorem row_mem {f : String} {r : Row} (h : p.row f = some r) : r ∈ p.rows ∧ r.name = f := by
  unfold Pg.row at h
  exact ⟨List.mem_of_find?_eq_some h, by simpa using List.find?_some h⟩
theorem lk_mem {C : String} {c : Kls} : ∀ {l : List (String × Kls)}, l.lookup C = some c → (C, c) ∈ l
  | [], h => by simp at h
  | (a, b) :: l, h => by
    rw [List.lookup_cons] at h
    split at h
    · rename_i e
      cases h
      have : C = a := by simpa using e
      rw [this]
      exact List.mem_cons_self
    · exact List.mem_cons_of_mem _ (lk_mem h)
theorem meth_row {k : Nat} {C n g : String} (hg : (p.Γ k).meth C n = some g) : p.gOf C n = some g ∧ ∃ r, p.row g = some r ∧ (n = "__eq__" → r.lv + 3 ≤ k) := by
  have hg : (p.gOf C n).filter (fun g => match p.row g with
    | some r => n != "__eq__" || decide (r.lv + 3 ≤ k)
    | none => false) = some g := hg
  rw [Option.filter_eq_some_iff] at hg
  obtain ⟨h1, h2⟩ := hg
  split at h2
  · rename_i r q
    refine ⟨h1, r, q, fun e => ?_⟩
    subst e
    simpa using h2
  · cases h2
theorem sta_of {k : Nat} {tb : Bool} (Fc : Fac p F mg) (hx : XAll p F P wd mg base) (hm9 : ∀ C n g r, p.gOf C n = some g → p.row g = some r → r.fd.mode < 8) (A : AllOk p F P wd mg base k) : Sta (p.T k tb) F (p.Γ k) P wd mg base where
  ac := Fc.ac k
  glob := fun f lv h => by
    have h : (match p.row f with
      | some r => if r.own.isNone = true ∧ r.lv ≤ k ∧ r.fd.mode < 8 then some r.lv else none
      | none => none) = some lv := h
    split at h
    · rename_i r q
      split at h
      · rename_i c
        cases h
        obtain ⟨hm, rfl⟩ := row_mem q
        obtain ⟨a, fdd, h1, h2, h3, h4, h5⟩ := Fc.fn r hm
        exact ⟨c.2.1, a, h5 c.1, h1, h3.kp, (A r hm c.2.1).1 c.2.2⟩
      · cases h
    · cases h
  blt := Fc.blt
  rng := Fc.rng
  zip := Fc.zip
  enm := Fc.enm
  bool := Fc.bool
  str := Fc.str
  dict := Fc.dict
  gcd := Fc.gcd
  meth := fun n lv h => by
    have h : (if (p.cls.any fun c => (c.2.meth.lookup n).isSome) = true then (List.range (k + 1)).find? (p.mAll n) else none) = some lv := h
    split at h
    · have hl := List.mem_range.mp (List.mem_of_find?_eq_some h)
      have ha : p.mAll n lv = true := List.find?_some h
      refine ⟨by show lv ≤ k; omega, fun C g hg _ => ?_⟩
      obtain ⟨h1, r, q, _⟩ := meth_row hg
      have h1' := h1
      unfold Pg.gOf at h1'
      obtain ⟨c0, h3, h4⟩ := Option.bind_eq_some_iff.mp h1'
      have := List.all_eq_true.mp ha _ (lk_mem h3)
      simp only [h4, q, decide_eq_true_eq] at this
      obtain ⟨hm, rfl⟩ := row_mem q
      exact ((A r hm (by omega)).1 (hm9 C n _ r h1 q)).up this
    · cases h
  make := fun C lv h => by
    have h : (match (p.gOf C "__init__").bind p.row with
      | some r => if r.lv + 1 ≤ k then some r.lv else none
      | none => none) = some lv := h
    split at h
    · rename_i r q
      split at h
      · rename_i c
        cases h
        obtain ⟨g, hg, hr⟩ := Option.bind_eq_some_iff.mp q
        obtain ⟨hm, rfl⟩ := row_mem hr
        have hc : (p.cls.lookup C).isSome = true := by
          unfold Pg.gOf at hg
          obtain ⟨c0, h3, _⟩ := Option.bind_eq_some_iff.mp hg
          rw [h3]; rfl
        obtain ⟨a, ha⟩ := Fc.cdom C hc
        obtain ⟨f, hf, M⟩ := Fc.mki C a r.name ha hg (by rw [hr]; rfl)
        refine ⟨c, a, ha, Fc.cmg C a ((Fc.ac k).cc C a ha), r.name, f, ?_, hf, M, (A r hm (by omega)).1 (hm9 C _ _ r hg hr)⟩
        show (p.gOf C "__init__").filter _ = _
        rw [hg]
        simp [Option.filter, hr]
      · cases h
    · cases h
  plan := Fc.plan
  clk := fun C h => by
    have h : ((p.cls.lookup C).isSome || (p.xs.lookup C).isSome) = true := h
    rw [Bool.or_eq_true] at h
    rcases h with h | h
    · obtain ⟨a, ha⟩ := Fc.cdom C h
      exact ⟨a, (Fc.ac k).cc C a ha⟩
    · exact Fc.xdom C h
  kke := Nat.sub_le _ _
  cnI := Fc.cnI
  cnS := Fc.cnS
  eqm := fun C g h _ => by
    obtain ⟨h1, r, q, h2⟩ := meth_row h
    obtain ⟨hm, rfl⟩ := row_mem q
    have h2 := h2 rfl
    exact ⟨r.lv, by show r.lv + 1 ≤ k - 2; omega, (A r hm (by omega)).1 (hm9 C _ _ r h1 q)⟩
  exc := fun C ns h => by
    have h : (if 2 ≤ k then (p.xs.lookup C).bind fun c => if c.own.isSome = true then some c.flds else none else none) = some ns := h
    split at h
    · rename_i hk
      obtain ⟨c, hc, h⟩ := Option.bind_eq_some_iff.mp h
      split at h
      · rename_i ho
        cases h
        obtain ⟨A', D, fI, fd, ps, z1, z2⟩ := hx C c hc ho
        obtain ⟨A2, z3⟩ := Fc.xdom C (by rw [hc]; rfl)
        have z4 := (Fc.ac k).xc C A' z1
        exact ⟨hk, A', D, fI, fd, ps, z1, Fc.cmg C A' z4, z2⟩
      · cases h
    · cases h
  cau := fun f lv h => by
    have h : (match p.row f with
      | some r => if r.fd.mode = 9 ∧ r.lv + 1 ≤ k then some r.lv else none
      | none => none) = some lv := h
    split at h
    · rename_i r q
      split at h
      · rename_i c
        cases h
        obtain ⟨hm, rfl⟩ := row_mem q
        exact ⟨c.2, (A r hm (by omega)).2 c.1⟩
      · cases h
    · cases h
  clv := Fc.cmg
  nb := Fc.nb
theorem all_ok (Fc : Fac p F mg) (hx : XAll p F P wd mg base) (hm9 : ∀ C n g r, p.gOf C n = some g → p.row g = some r → r.fd.mode < 8) (ht : TabAll p F mg base) (Ck : Chk p) : ∀ k, AllOk p F P wd mg base k
  | 0 => fun r hm hl => by have := (Ck.nu r hm).2.2; omega
  | k + 1 => fun r hm hl => by
    by_cases h : r.lv ≤ k
    · exact all_ok Fc hx hm9 ht Ck k r hm h
    · have e : r.lv = k + 1 := by omega
      have ih := all_ok Fc hx hm9 ht Ck k
      obtain ⟨f, fdd, h1, h2, h3, h4, h5⟩ := Fc.fn r hm
      have hmt := Ck.mt r hm
      have hsem := Ck.sem r hm
      have hnu := Ck.nu r hm
      rw [e, Nat.add_sub_cancel] at hmt hsem
      refine ⟨fun h9 => ?_, fun h9 => ?_⟩
      · have n9 : r.fd.mode ≠ 9 := by omega
        rw [if_neg n9, show decide (r.fd.mode = 8) = false by simp; omega] at hmt
        have q := fn_ok (name := r.name) (sta_of (P := P) (wd := wd) (base := base) (tb := r.tab) Fc hx hm9 ih) rfl h3 h4 h1 h2 (Ck.sc r hm) (by have := hnu.1; rw [if_neg n9] at this; exact this) hnu.2.1 hmt fun hb => ht r hm hb fdd h2
        rw [e]
        refine q.weak fun ds m => ?_
        have := hsem ds m
        unfold runR at this
        rw [if_neg n9] at this
        exact this
      · rw [if_pos h9] at hmt
        obtain ⟨n1, n2, n3, n4⟩ : r.fd.np = 2 ∧ r.x = so r.name ∧ r.qual = so r.name ∧ r.own = none := by have := hnu.1; rw [if_pos h9] at this; exact this
        split at hmt
        · rename_i x0 hps
          rw [n2, n3] at h3
          rw [hps] at h4
          have S := Ck.sc r hm
          rw [hps] at S
          have q := cau_ok (name := r.name) (sta_of (P := P) (wd := wd) (base := base) (tb := false) Fc hx hm9 ih) h3 h4 (h5 (by rw [n4]; rfl)) S n1 hnu.2.1 rfl rfl hmt
          rw [e]
          refine q.weak fun ds m => ?_
          have := hsem ds m
          unfold runR at this
          rw [if_pos h9] at this
          exact this
        · cases hmt
end
end PL

set_option Elab.async false
set_option linter.all false
set_option maxRecDepth 100000
set_option maxHeartbeats 4000000
/-! PL.End: what the top has written, as a Bool over the written part. -/
namespace PL
open PySem L2 PySem.Spec PyProof.Rows
theorem lk_mem' {α : Type} {C : String} {c : α} : ∀ {l : List (String × α)}, l.lookup C = some c → (C, c) ∈ l
  | [], h => by simp at h
  | (a, b) :: l, h => by
    rw [List.lookup_cons] at h
    split at h
    · rename_i e
      cases h
      have : C = a := by simpa using e
      rw [this]
      exact List.mem_cons_self
    · exact List.mem_cons_of_mem _ (lk_mem' h)
theorem map_at {α β : Type} {f g : α → β} : ∀ {l : List α}, l.map f = l.map g → ∀ x ∈ l, f x = g x
  | [], _, x, hx => by cases hx
  | a :: l, h, x, hx => by
    simp only [List.map_cons, List.cons.injEq] at h
    rcases List.mem_cons.mp hx with rfl | hx
    · exact h.1
    · exact map_at h.2 x hx
def refOf : Option (Option Value) → Option Addr
  | some (some (.ref a)) => some a
  | _ => none
def fnData (K : PySem.W.Frag) (a : Addr) : Option FuncData := match K.lookup a with
  | some ⟨_, _, .func fd, _⟩ => some fd
  | _ => none
theorem fnData_ok {K : PySem.W.Frag} {a : Addr} {fd : FuncData} (h : fnData K a = some fd) : ∃ oc od osl, K.lookup a = some ⟨oc, od, .func fd, osl⟩ := by
  unfold fnData at h
  split at h
  · rename_i q
    cases h
    exact ⟨_, _, _, q⟩
  · cases h
abbrev FKey := Str × Str × Arguments × FuncBody × Scope × Addr × List (Str × Addr) × Value × Addr
def fkey (fd : FuncData) : FKey := (fd.name, fd.qualname, fd.params, fd.body, fd.scope, fd.globals, fd.closure, fd.defaults, fd.builtins)
theorem fkey_ok {fd : FuncData} {x qual : Str} {st : Stmt} (h : fkey fd = (x, qual, defArgs st, .stmts (defBody st), defScope st, mainGlobals, [], .none, builtinsNs)) :
    fd = PySem.W.fnOf x qual (defArgs st) (defBody st) (defScope st) .none fd.kwdefaults fd.doc fd.pyModule fd.annotations fd.code fd.closureTuple := by
  obtain ⟨a, b, c, d, e, f, g, h', i, j, k, l, m, n, o⟩ := fd
  simp only [fkey, Prod.mk.injEq] at h
  obtain ⟨rfl, rfl, rfl, rfl, rfl, rfl, rfl, rfl, rfl⟩ := h
  rfl
namespace Pg
variable (p : Pg)
def cxK (K : PySem.W.Frag) (C : String) : Option Addr := if (p.cls.lookup C).isSome = true then refOf (PySem.W.nsIn K mainGlobals (so C)) else none
def faK (K : PySem.W.Frag) (f : String) : Option Addr := (p.row f).bind fun r => match r.own with
  | none => refOf (PySem.W.nsIn K mainGlobals (so r.name))
  | some (C, m) => (p.cxK K C).bind fun A => refOf (PySem.W.findIn K (.ref A) (so m))
def fdK (K : PySem.W.Frag) (f : String) : Option (FuncData × List Str) := (p.row f).bind fun r => ((p.faK K f).bind fun a => fnData K a).map fun fd => (fd, r.ps)
def caK (K : PySem.W.Frag) (C : String) : Option Addr := if ((p.cls.lookup C).isSome || (p.xs.lookup C).isSome) = true then refOf (PySem.W.nsIn K mainGlobals (so C)) else none
def xxK (K : PySem.W.Frag) (C : String) : Option Addr := if (p.xs.lookup C).isSome = true then p.caK K C else none
def tabsK (K : PySem.W.Frag) : List (Addr × Str) := p.rows.filterMap fun r => if r.tab = true then (PySem.W.tabIn K (so r.name)).map fun q => (q.2, (r.qual ++ ".<locals>.") ++ "<lambda>") else none
def names : List String := p.cls.map (·.1) ++ p.xs.map (·.1)
def fx (K : PySem.W.Frag) : Fx := { K := K, cx := p.cxK K, fa := p.faK K, fd := p.fdK K, ca := p.caK K, xx := p.xxK K, tabs := p.tabsK K }
theorem names_mem {K : PySem.W.Frag} {C : String} {A : Addr} (h : p.caK K C = some A) : C ∈ p.names := by
  unfold caK at h
  split at h
  · rename_i q
    rw [Bool.or_eq_true] at q
    rcases q with q | q
    · obtain ⟨c, hc⟩ := Option.isSome_iff_exists.mp q
      exact List.mem_append_left _ (List.mem_map.mpr ⟨(C, c), lk_mem' hc, rfl⟩)
    · obtain ⟨c, hc⟩ := Option.isSome_iff_exists.mp q
      exact List.mem_append_right _ (List.mem_map.mpr ⟨(C, c), lk_mem' hc, rfl⟩)
  · cases h
end Pg
end PL

set_option Elab.async false
set_option linter.all false
set_option maxRecDepth 100000
set_option maxHeartbeats 4000000
/-! PL.Xc: own exceptions, as Bools over the written part. -/
namespace PL
open PySem L2 PySem.Spec PyProof.Rows
/-- the class object -/
def oexB (K : PySem.W.Frag) (C : Addr) : Bool :=
  match K.lookup C with
  | some ⟨.type ty, dd, .cls cd, sl⟩ => ty == "type" && (match cd.mro, sl.toList with
    | .ref C' :: bm, [k0, k1, k2, k3, some (.builtin nw), k5] => C' == C && nw == "ValueError.__new__" && cd.hasDict && !cd.hasDel && PySem.HandSPX.refsVE bm
    | _, _ => false)
  | _ => false
theorem oexB_ok {K : PySem.W.Frag} {C : Addr} (h : oexB K C = true) : ∃ nm q N bs bm sn sub ab col dd k0 k1 k2 k3 k5, K.lookup C = some (excClassObj nm q C N bs bm true sn sub ab col dd k0 k1 k2 k3 k5 "ValueError.__new__") ∧ PySem.HandSPX.refsVE bm = true := by
  unfold oexB at h
  split at h
  · rename_i ty dd cd sl e
    rw [Bool.and_eq_true] at h
    obtain ⟨h1, h2⟩ := h
    split at h2
    · rename_i C' bm k0 k1 k2 k3 nw k5 e1 e2
      simp only [Bool.and_eq_true, beq_iff_eq, Bool.not_eq_true'] at h1 h2
      obtain ⟨⟨⟨⟨rfl, rfl⟩, h3⟩, h4⟩, h5⟩ := h2
      subst h1
      obtain ⟨nm, bs, mro, N, q, hd, sn, sub, ab, col, hdel⟩ := cd
      obtain rfl : sl = #[k0, k1, k2, k3, some (.builtin "ValueError.__new__"), k5] := Array.toList_inj.mp e2
      dsimp only at e1 h3 h4
      subst e1 h3 h4
      exact ⟨nm, q, N, bs, bm, sn, sub, ab, col, dd, k0, k1, k2, k3, k5, e, h5⟩
    · cases h2
  · cases h
def excB (K : PySem.W.Frag) (A : Addr) : Bool :=
  (PySem.W.findIn K (.ref A) "__getattribute__" == some (some (.builtin "BaseException.__getattribute__"))) && (PySem.W.findIn K (.ref A) "__getattr__" == some none) && (PySem.W.subIn K (.ref A) (.type "BaseException") == some true) && PySem.W.hasDictIn K A &&
  (PySem.W.findIn K (.ref A) "__class__" == some (some (.builtin "object.__class__"))) && (PySem.W.mroIn K A (.type "object") == some true)
/-- an own class of exceptions, at A -/
def xsB1 (p : Pg) (K : PySem.W.Frag) (c : XKls) (A : Addr) : Bool :=
  excB K A && tyNames.all (fun n => PySem.W.kitOne K (.ref A) (.type n) == some false) &&
  p.names.all (fun d => match p.caK K d with | some A' => PySem.W.kitOne K (.ref A) (.ref A') == some (c.mro.contains d) | none => false) &&
  (match p.caK K "RulerError" with | some A' => PySem.W.exmOne K (.ref A) (.ref A') == some (c.mro.contains "RulerError") | none => true) &&
  c.flds.all (fun f => PySem.W.findIn K (.ref A) (so f) == some none) && ((PySem.W.clsIn K A).isSome && PySem.W.typeIn K (.ref A) == some (.type "type"))
def xsB (p : Pg) (K : PySem.W.Frag) : Bool := p.xs.all fun d => (p.cls.lookup d.1).isNone && (match p.xs.lookup d.1 with | some c => (match p.caK K d.1 with | some A => xsB1 p K c A | none => false) | none => false)
section
variable {p : Pg} {K : PySem.W.Frag}
theorem xs_at (hB : xsB p K = true) {C : String} {A : Addr} (h : p.xxK K C = some A) : ∃ c, p.xs.lookup C = some c ∧ p.cls.lookup C = none ∧ p.caK K C = some A ∧ xsB1 p K c A = true := by
  have hc : (p.xs.lookup C).isSome = true := by
    unfold Pg.xxK at h
    split at h
    · assumption
    · cases h
  have hA : p.caK K C = some A := by
    unfold Pg.xxK at h
    rw [if_pos hc] at h
    exact h
  obtain ⟨c, hc⟩ := Option.isSome_iff_exists.mp hc
  have b := List.all_eq_true.mp hB (C, c) (lk_mem' hc)
  simp only [hc, hA, Bool.and_eq_true, Option.isNone_iff_eq_none] at b
  exact ⟨c, hc, b.1, hA, b.2⟩
theorem xs_ok (hB : xsB p K = true) (hg : PySem.W.specialIn K (.builtin "object.__class__") "__get__" = some (some (.builtin "getset_descriptor.__get__"))) (htk : PySem.W.takesIn K (.builtin "object.__class__") = some true) (k : Nat) {C : String} {A : Addr} (h : p.xxK K C = some A) : ExcF (p.fx K) (p.Γ k) C A := by
  obtain ⟨c, hc, hn, hA, b⟩ := xs_at hB h
  unfold xsB1 excB at b
  simp only [Bool.and_eq_true, beq_iff_eq] at b
  obtain ⟨⟨⟨⟨⟨⟨⟨⟨⟨⟨b1, b2⟩, b3⟩, b4⟩, b5⟩, b6⟩, b7⟩, b8⟩, b9⟩, b10⟩, b11⟩ := b
  have hm : (p.Γ k).mro C = c.mro := by
    show p.mro C = c.mro
    unfold Pg.mro
    rw [hn, hc]; rfl
  refine { ec := ⟨b1, b2, b3, b4, b5, hg, htk, b6⟩, sub := fun n hn => ?_, subC := fun C' A' h' => ?_, exm := fun A' h' => ?_, xf := ⟨b1, b2, b3, b4⟩, na := fun f hf => ?_ }
  · show PySem.W.kitOne K _ _ = _
    have := List.all_eq_true.mp b7 n (by simpa using hn)
    simpa using this
  · have h' : p.caK K C' = some A' := h'
    have q := List.all_eq_true.mp b8 C' (p.names_mem h')
    rw [h'] at q
    rw [hm]
    show PySem.W.kitOne K _ _ = _
    simpa using q
  · have h' : p.caK K "RulerError" = some A' := h'
    rw [h'] at b9
    rw [hm]
    show PySem.W.exmOne K _ _ = _
    simpa using b9
  · have hf : p.fld C f = true := hf
    unfold Pg.fld at hf
    rw [hn, hc] at hf
    have q := List.all_eq_true.mp b10 f (by simpa using hf)
    show PySem.W.findIn K _ _ = _
    simpa using q
end
/-- the context of such an __init__ -/
def csB (N : List Str) (sc : Scope) : Bool :=
  decide (sc.kind = .function) && !sc.isCoroutine && !sc.isGenerator && decide N.Nodup && N.all (fun x => decide (sc.names.lookup x = some .local)) && sc.names.all (fun y => decide (y.2 ≠ .cell) && (!decide (y.2 = .free) || decide (y.1 = "__class__"))) &&
  decide (sc.names.lookup ("__class__" : Str) = some .free) && decide (sc.names.lookup ("super" : Str) = some .globalImplicit)
theorem csB_ok {N : List Str} {sc : Scope} (h : csB N sc = true) : SX.CScope N N sc := by
  unfold csB at h
  simp only [Bool.and_eq_true, decide_eq_true_eq, Bool.not_eq_true', List.all_eq_true, Bool.or_eq_true, decide_eq_false_iff_not] at h
  obtain ⟨⟨⟨⟨⟨⟨⟨h1, h2⟩, h3⟩, h4⟩, h5⟩, h6⟩, h7⟩, h8⟩ := h
  exact ⟨h1, h2, h3, h4, by simp, h5, fun y hy => (h6 y hy).1, fun y hy e => by
    rcases (h6 y hy).2 with z | z
    · exact absurd e z
    · exact z, h7, h8⟩
def supB (P : Program) (K : PySem.W.Frag) (cda cc D : Addr) (params : Arguments) (x0 : Str) : Bool :=
  (match K.lookup cda with
    | some ⟨_, _, .fields vs, _⟩ => (match (vs[2]? : Option Value) with | some (.str file _) => (P.main.file : Str) == file | _ => false)
    | _ => false) &&
  (match K.lookup cc with
    | some ⟨_, _, .cell (some (.ref D')), _⟩ => D' == D
    | _ => false) &&
  (PySem.W.clsIn K D).isSome && (PySem.W.nsIn K mainGlobals "super" == some none) && (P.main.scope.names.lookup ("super" : Str)).isNone && (match (params.posonlyargs ++ params.args).head? with | some ar => ar.arg == x0 | none => false) && (PySem.W.nsIn K cStatics "thirdparty.any" == some none)
theorem supB_ok {P : Program} {K : PySem.W.Frag} {cda cc D : Addr} {params : Arguments} {x0 : Str} (h : supB P K cda cc D params x0 = true) : SX.SupF P K cda cc D params x0 := by
  unfold supB at h
  simp only [Bool.and_eq_true, beq_iff_eq] at h
  obtain ⟨⟨⟨⟨⟨⟨h1, h2⟩, h3⟩, h4⟩, h5⟩, h6⟩, h7⟩ := h
  refine ⟨?_, ?_, Option.isSome_iff_exists.mp h3, h4, by rw [Option.isNone_iff_eq_none.mp h5]; rfl, ?_, h7⟩
  · split at h1
    · rename_i a b vs d e
      split at h1
      · rename_i file tf e2
        exact ⟨a, b, vs, d, file, tf, e, e2, by simpa using h1⟩
      · cases h1
    · cases h1
  · split at h2
    · rename_i a b D' d e
      simp only [beq_iff_eq] at h2
      subst h2
      exact ⟨a, b, d, e⟩
    · cases h2
  · split at h6
    · rename_i ar e
      simp only [beq_iff_eq] at h6
      exact ⟨ar, e, h6⟩
    · cases h6
end PL

set_option Elab.async false
set_option linter.all false
set_option maxRecDepth 100000
set_option maxHeartbeats 4000000
/-! PL.Xd: how the own exceptions are made. -/
namespace PL
open PySem L2 PySem.Spec PyProof.Rows
/-- an __init__ of exceptions: its class, its text, its fields -/
structure XDef where
  cls : String
  qual : Str
  st : Stmt
  N : List Str
  flds : List String
def xkey (fd : FuncData) : Str × Str × Arguments × FuncBody × Scope × Addr × Value × Addr := (fd.name, fd.qualname, fd.params, fd.body, fd.scope, fd.globals, fd.defaults, fd.builtins)
theorem xkey_ok {fd : FuncData} {x qual : Str} {st : Stmt} {cc : Addr} (h : xkey fd = (x, qual, defArgs st, .stmts (defBody st), defScope st, mainGlobals, .none, builtinsNs)) (hc : fd.closure = [(("__class__" : Str), cc)]) :
    fd = PySem.W.ksFn x qual (defArgs st) (defBody st) (defScope st) .none fd.kwdefaults fd.doc fd.pyModule fd.annotations fd.code fd.closureTuple cc := by
  obtain ⟨a, b, c, d, e, f, g, h', i, j, k, l, m, n, o⟩ := fd
  simp only [xkey, Prod.mk.injEq] at h
  dsimp only at hc
  obtain ⟨rfl, rfl, rfl, rfl, rfl, rfl, rfl, rfl⟩ := h
  subst hc
  rfl
def Pg.xiK (p : Pg) (K : PySem.W.Frag) (C : String) : Option Addr := (p.caK K C).bind fun A => refOf (PySem.W.findIn K (.ref A) "__init__")
def XFnsEq (p : Pg) (xd : List XDef) (K : PySem.W.Frag) : Prop := (xd.map fun d => ((p.xiK K d.cls).bind fun a => fnData K a).map xkey) = xd.map fun d => some (("__init__" : Str), d.qual, defArgs d.st, FuncBody.stmts (defBody d.st), defScope d.st, mainGlobals, Value.none, builtinsNs)
def BindX (xd : List XDef) : Prop := ∀ d ∈ xd, ∀ (kV doc pm : Value) (an : Option Addr) (cdv ct : Value) (cc : Addr) (us : List Value), us.length = d.N.length → bindArgs (PySem.W.ksFn "__init__" d.qual (defArgs d.st) (defBody d.st) (defScope d.st) .none kV doc pm an cdv ct cc) ⟨us, []⟩ = pure (d.N.zip us)
/-- super().__init__(a, ..); self.f = a; .. -/
def xbody (N flds : List Str) (body : List Stmt) : Bool :=
  match body with
  | [.Expr (.Call (.Attribute (.Call (.Name sup _) [] [] _) ini apos) [.Name a1 _] [] pos) _, .Assign [.Attribute (.Name b0 _) g1 _] (.Name b1 _) _] =>
    sup == "super" && ini == "__init__" && (match N, flds with | [x0, x1], [f1] => a1 == x1 && b0 == x0 && b1 == x1 && g1 == f1 && isD x0 && isD x1 | _, _ => false) && (apos.endLine == pos.line)
  | [.Expr (.Call (.Attribute (.Call (.Name sup _) [] [] _) ini apos) [.Name a1 _, .Name a2 _] [] pos) _, .Assign [.Attribute (.Name b0 _) g1 _] (.Name b1 _) _, .Assign [.Attribute (.Name c0 _) g2 _] (.Name c2 _) _] =>
    sup == "super" && ini == "__init__" && (match N, flds with | [x0, x1, x2], [f1, f2] => a1 == x1 && a2 == x2 && b0 == x0 && b1 == x1 && g1 == f1 && c0 == x0 && c2 == x2 && g2 == f2 && !(f1 == f2) && isD x0 && isD x1 && isD x2 | _, _ => false) && (apos.endLine == pos.line)
  | _ => false
def xfnB (P : Program) (K : PySem.W.Frag) (d : XDef) (fd : FuncData) (AD : Addr) : Bool :=
  match fd.code, fd.closure with
  | .ref cda, [(cn, cc)] => cn == "__class__" && PySem.W.codeIn K (.ref cda) d.qual && csB d.N (defScope d.st) && (match d.N with | x0 :: _ => supB P K cda cc AD (defArgs d.st) x0 | [] => false) && xbody d.N (d.flds.map so) (defBody d.st)
  | _, _ => false
def xdB (p : Pg) (P : Program) (K : PySem.W.Frag) (xd : List XDef) : Bool := xd.all fun d => match p.caK K d.cls, p.xiK K d.cls with
  | some AD, some fI => (match fnData K fI with | some fd => xfnB P K d fd AD | none => false)
  | _, _ => false
theorem xfn_ok {P : Program} {wd : World} {K : PySem.W.Frag} {mg : Str → Option Value} {base : Heap} {d : XDef} {fd : FuncData} {fI AD : Addr} (hfd : fnData K fI = some fd) (hk : xkey fd = (("__init__" : Str), d.qual, defArgs d.st, .stmts (defBody d.st), defScope d.st, mainGlobals, .none, builtinsNs))
    (hA : ∀ (kV doc pm : Value) (an : Option Addr) (cdv ct : Value) (cc : Addr) (us : List Value), us.length = d.N.length → bindArgs (PySem.W.ksFn "__init__" d.qual (defArgs d.st) (defBody d.st) (defScope d.st) .none kV doc pm an cdv ct cc) ⟨us, []⟩ = pure (d.N.zip us)) (h : xfnB P K d fd AD = true) :
    FnOk P wd K mg base (L2.CX P wd) 1 fI fd d.N (SX.spX K AD (d.flds.map so)) ∧ Binds K fd d.N [] := by
  obtain ⟨oc, od, osl, lk⟩ := fnData_ok hfd
  unfold xfnB at h
  split at h
  rotate_left
  · cases h
  rename_i cda cn cc ecode eclos
  simp only [Bool.and_eq_true, beq_iff_eq] at h
  obtain ⟨⟨⟨⟨rfl, hcd⟩, hcs⟩, hsup⟩, hb⟩ := h
  have hfn := xkey_ok hk eclos
  rw [ecode] at hfn
  have S := csB_ok hcs
  have bd : Binds K fd d.N [] := by
    rw [hfn]
    exact .all (hA _ _ _ _ _ _ _)
  refine ⟨?_, bd⟩
  split at hsup
  rotate_left
  · cases hsup
  rename_i x0 xs eN
  have F := supB_ok hsup
  obtain ⟨cl, cld, csl, lc⟩ := F.cell
  rw [hfn] at lk ⊢
  unfold xbody at hb
  split at hb
  · rename_i sup z1 z2 ini apos a1 z3 pos z4 b0 z5 g1 z6 b1 z7 z8 eb
    simp only [Bool.and_eq_true, beq_iff_eq] at hb
    obtain ⟨⟨⟨rfl, rfl⟩, hb⟩, hp⟩ := hb
    split at hb
    rotate_left
    · cases hb
    rename_i y0 y1 f1 e1 e2
    simp only [Bool.and_eq_true, beq_iff_eq] at hb
    obtain ⟨⟨⟨⟨⟨rfl, rfl⟩, rfl⟩, rfl⟩, d0⟩, d1⟩ := hb
    rw [e1] at eN S ⊢
    rw [e2]
    rw [eb] at lk ⊢
    cases eN
    exact SX.exc_fn1 lk hcd S F lc (by simpa using hp) d0 d1 (fun _ => rfl)
  · rename_i sup z1 z2 ini apos a1 z3 a2 z3' pos z4 b0 z5 g1 z6 b1 z7 z8 c0 z9 g2 z10 c2 z11 z12 eb
    simp only [Bool.and_eq_true, beq_iff_eq] at hb
    obtain ⟨⟨⟨rfl, rfl⟩, hb⟩, hp⟩ := hb
    split at hb
    rotate_left
    · cases hb
    rename_i y0 y1 y2 f1 f2 e1 e2
    simp only [Bool.and_eq_true, beq_iff_eq, Bool.not_eq_true', beq_eq_false_iff_ne] at hb
    obtain ⟨⟨⟨⟨⟨⟨⟨⟨⟨⟨⟨rfl, rfl⟩, rfl⟩, rfl⟩, rfl⟩, rfl⟩, rfl⟩, rfl⟩, hne⟩, d0⟩, d1⟩, d2⟩ := hb
    rw [e1] at eN S ⊢
    rw [e2]
    rw [eb] at lk ⊢
    cases eN
    exact SX.exc_fn2 lk hcd S F lc (by simpa using hp) hne d0 d1 d2 (fun _ => rfl) (fun _ => rfl)
  · cases hb
/-- each own exception class that is raised -/
def xaB (p : Pg) (K : PySem.W.Frag) (xd : List XDef) : Bool := p.xs.all fun e => match e.2.own with
  | none => true
  | some D => (match xd.find? fun d => d.cls == D with
    | some d => (match p.caK K e.1, p.caK K D, p.xiK K D with
      | some A, some AD, some fI => decide (d.flds = e.2.flds) && oexB K A && (PySem.W.findIn K (.ref A) "__setattr__" == some (some (.builtin "object.__setattr__"))) && (PySem.W.subIn K (.ref A) (.type "BaseException") == some true) && (PySem.W.typeIn K (.ref A) == some (.type "type")) && PySem.W.keepIn K (.ref A) &&
        (PySem.W.mroIn K A (.ref AD) == some true) && (PySem.W.ks_superIn K A AD "__init__" == some (some (.builtin "ValueError.__init__"))) && (PySem.W.subIn K (.ref A) (.type "ValueError") == some true) && e.2.flds.all (fun f => PySem.W.findIn K (.ref A) (so f) == some none) &&
        (PySem.W.findIn K (.ref A) "__init__" == some (some (.ref fI))) && (PySem.W.typeIn K (.ref fI) == some (.type "function"))
      | _, _, _ => false)
    | none => false)
theorem xall_of {p : Pg} {P : Program} {wd : World} {K : PySem.W.Frag} {mg : Str → Option Value} {base : Heap} {xd : List XDef} (hE : XFnsEq p xd K) (hB : xdB p P K xd = true) (hA : BindX xd) (hX : xaB p K xd = true) : XAll p (p.fx K) P wd mg base := by
  intro C c hc ho
  obtain ⟨D, hD⟩ := Option.isSome_iff_exists.mp ho
  have b := List.all_eq_true.mp hX (C, c) (lk_mem' hc)
  simp only [hD] at b
  split at b
  rotate_left
  · cases b
  rename_i d hd
  split at b
  rotate_left
  · cases b
  rename_i A AD fI eA eD eI
  have dm := List.mem_of_find?_eq_some hd
  obtain rfl : d.cls = D := by simpa using List.find?_some hd
  have e := map_at hE d dm
  have b2 := List.all_eq_true.mp hB d dm
  simp only [eD, eI] at b2
  rw [eI] at e
  simp only [Option.bind_some] at e
  obtain ⟨fd, hfd, hk⟩ := Option.map_eq_some_iff.mp e
  rw [hfd] at b2
  obtain ⟨q1, q2⟩ := xfn_ok (P := P) (wd := wd) (mg := mg) (base := base) hfd hk (hA d dm) b2
  simp only [Bool.and_eq_true, beq_iff_eq, decide_eq_true_eq] at b
  obtain ⟨⟨⟨⟨⟨⟨⟨⟨⟨⟨⟨c1, c2⟩, c3⟩, c4⟩, c5⟩, c6⟩, c7⟩, c8⟩, c9⟩, c10⟩, c11⟩, c12⟩ := b
  rw [c1] at q1
  refine ⟨A, AD, fI, fd, d.N, ?_, ⟨⟨oexB_ok c2, c3, c4, c5, c6⟩, c7, c8, c9, fun f hf => ?_⟩, c11, c12, q1, q2⟩
  · show p.xxK K C = some A
    unfold Pg.xxK
    rw [hc]
    exact eA
  · obtain ⟨f', hf', rfl⟩ := List.mem_map.mp hf
    have := List.all_eq_true.mp c10 f' hf'
    show PySem.W.findIn K _ _ = _
    simpa using this
end PL

set_option Elab.async false
set_option linter.all false
set_option maxRecDepth 100000
set_option maxHeartbeats 4000000
/-! PL.End: what the top has written, as a Bool over the written part. -/
namespace PL
open PySem L2 PySem.Spec PyProof.Rows
section
variable {p : Pg} {K : PySem.W.Frag} {mg : Str → Option Value} {h : Heap}
theorem refOf_ok {o : Option (Option Value)} {a : Addr} (h : refOf o = some a) : o = some (some (.ref a)) := by
  unfold refOf at h
  split at h
  · cases h; rfl
  · cases h
/-- the shape of the function objects -/
def FnsEq (p : Pg) (K : PySem.W.Frag) : Prop := (p.rows.map fun r => ((p.faK K r.name).bind fun a => fnData K a).map fkey) = p.rows.map fun r => some (r.x, r.qual, defArgs r.st, FuncBody.stmts (defBody r.st), defScope r.st, mainGlobals, [], Value.none, builtinsNs)
/-- their code, and that they may be kept -/
def fnsB (p : Pg) (K : PySem.W.Frag) : Bool := p.rows.all fun r => match p.faK K r.name with
  | some a => PySem.W.keepIn K (.ref a) && (match fnData K a with | some fd => PySem.W.codeIn K fd.code r.qual | none => false)
  | none => false
/-- how they bind -/
def BindAll (p : Pg) : Prop := ∀ r ∈ p.rows, ∀ (kV doc pm : Value) (an : Option Addr) (cdv ct : Value) (us : List Value), us.length = r.ps.length → bindArgs (PySem.W.fnOf r.x r.qual (defArgs r.st) (defBody r.st) (defScope r.st) .none kV doc pm an cdv ct) ⟨us, []⟩ = pure (r.ps.zip us)
theorem fns_ok (hrow : ∀ r ∈ p.rows, p.row r.name = some r) (hE : FnsEq p K) (hB : fnsB p K = true) (hA : BindAll p) (X : K.In h) (G : h.Ns mainGlobals mg) :
    ∀ r ∈ p.rows, ∃ f fdd, (p.fx K).fa r.name = some f ∧ (p.fx K).fd r.name = some (fdd, r.ps) ∧ Fun (p.fx K).K r.x r.qual r.st f fdd ∧ Binds (p.fx K).K fdd r.ps [] ∧ (r.own.isNone = true → mg (so r.name) = some (.ref f)) := by
  intro r hr
  have e := map_at hE r hr
  have b := List.all_eq_true.mp hB r hr
  cases hfa : p.faK K r.name with
  | none => rw [hfa] at b; cases b
  | some a =>
    rw [hfa] at e b
    simp only [Option.bind_some, Bool.and_eq_true] at e b
    obtain ⟨fd, hfd, hk⟩ := Option.map_eq_some_iff.mp e
    rw [hfd] at b
    obtain ⟨oc, od, osl, hl⟩ := fnData_ok hfd
    have hfn := fkey_ok hk
    have F0 : Fun K r.x r.qual r.st a fd := ⟨⟨oc, od, fd.kwdefaults, fd.doc, fd.pyModule, fd.annotations, fd.code, fd.closureTuple, osl, hfn, hl, b.2⟩, b.1⟩
    refine ⟨a, fd, hfa, ?_, F0, ?_, fun ho => ?_⟩
    · show (p.row r.name).bind _ = _
      rw [hrow r hr]
      simp only [Option.bind_some, hfa, hfd, Option.map_some]
    · rw [hfn]
      exact .all (hA r hr _ _ _ _ _ _)
    · unfold Pg.faK at hfa
      rw [hrow r hr] at hfa
      simp only [Option.bind_some] at hfa
      split at hfa
      · exact PySem.W.mg_of X G (refOf_ok hfa)
      · rename_i q
        rw [q] at ho
        cases ho
/-- an own class, at A -/
def clsB1 (p : Pg) (K : PySem.W.Frag) (c : Kls) (A : Addr) : Bool :=
  PySem.W.plainGet K A Str.empty && PySem.W.hasDictIn K A && PySem.W.plainOver K A && (PySem.W.findIn K (.ref A) "__setattr__" == some (some (.builtin "object.__setattr__"))) &&
  (PySem.W.findIn K (.ref A) "__class__" == some (some (.builtin "object.__class__"))) && (PySem.W.mroIn K A (.type "object") == some true) && tyNames.all (fun n => PySem.W.mroIn K A (.type n) == some false) &&
  p.names.all (fun d => match p.caK K d with | some A' => PySem.W.kitOne K (.ref A) (.ref A') == some (c.mro.contains d) | none => false) &&
  ((PySem.W.clsIn K A).isSome && PySem.W.typeIn K (.ref A) == some (.type "type")) && ["NoneType", "bool", "int", "str", "tuple", "list", "dict"].all (fun t => PySem.W.notFirst K A (.type t)) &&
  ((c.meth.lookup "__eq__").isNone || (PySem.W.findIn K (.ref A) "__ne__" == some (some (.builtin "object.__ne__")))) && c.flds.all (fun f => PySem.W.findIn K (.ref A) (so f) == some none) &&
  c.meth.all (fun d => (p.row d.2).isNone || (match p.faK K d.2 with | some f => (PySem.W.findIn K (.ref A) (so d.1) == some (some (.ref f))) && PySem.W.isFn K (.ref f) && PySem.W.keepIn K (.ref f) | none => false)) &&
  ((c.meth.lookup "__init__").isNone || (PySem.W.makesIn K A && PySem.W.keepIn K (.ref A)))
def clsB (p : Pg) (K : PySem.W.Frag) : Bool := p.cls.all fun d => (match p.cls.lookup d.1 with | some c => (match p.cxK K d.1 with | some A => clsB1 p K c A | none => false) | none => false)
theorem cls_at (hB : clsB p K = true) {C : String} {A : Addr} (h : p.cxK K C = some A) : ∃ c, p.cls.lookup C = some c ∧ clsB1 p K c A = true := by
  have hc : (p.cls.lookup C).isSome = true := by
    unfold Pg.cxK at h
    split at h
    · assumption
    · cases h
  obtain ⟨c, hc⟩ := Option.isSome_iff_exists.mp hc
  have b := List.all_eq_true.mp hB _ (lk_mem' hc)
  simp only [hc, h] at b
  exact ⟨c, hc, b⟩
theorem cls_ok (hB : clsB p K = true) (k : Nat) {C : String} {A : Addr} (h : p.cxK K C = some A) : ClsF (p.fx K) (p.Γ k) C A := by
  obtain ⟨c, hc, b⟩ := cls_at hB h
  unfold clsB1 at b
  simp only [Bool.and_eq_true, beq_iff_eq] at b
  obtain ⟨⟨⟨⟨⟨⟨⟨⟨⟨⟨⟨⟨⟨b1, b2⟩, b3⟩, b4⟩, b5⟩, b6⟩, b7⟩, b8⟩, b9⟩, b10⟩, b11⟩, b12⟩, b13⟩, b14⟩ := b
  refine { cl := ⟨b1, b2, b3, b4⟩, ha := b5, hm := b6, sub := fun n hn => ?_, subC := fun C' A' h' => ?_, nfT := fun t ht => List.all_eq_true.mp b10 t ht, ne := fun hs => ?_, na := fun f hf => ?_, me := fun n g hg => ?_ }
  · show PySem.W.mroIn K A (.type n) = some false
    have := List.all_eq_true.mp b7 n (by simpa using hn)
    simpa using this
  · show PySem.W.kitOne K (.ref A) (.ref A') = some (((p.Γ k).mro C).contains C')
    have h' : p.caK K C' = some A' := h'
    have q := List.all_eq_true.mp b8 C' (p.names_mem h')
    rw [h'] at q
    simp only [beq_iff_eq] at q
    rw [q]
    show some (c.mro.contains C') = some ((p.mro C).contains C')
    unfold Pg.mro
    rw [hc]
  · show PySem.W.findIn K (.ref A) "__ne__" = some (some (.builtin "object.__ne__"))
    rw [Bool.or_eq_true] at b11
    rcases b11 with b11 | b11
    · have hs : ((p.gOf C "__eq__").filter (fun g => match p.row g with
        | some r => "__eq__" != "__eq__" || decide (r.lv + 3 ≤ k)
        | none => false)).isSome = true := hs
      unfold Pg.gOf at hs
      rw [hc] at hs
      simp only [Option.bind_some] at hs
      rw [Option.isNone_iff_eq_none.mp b11] at hs
      simp at hs
    · simpa using b11
  · show PySem.W.findIn K (.ref A) (so f) = some none
    have hf : p.fld C f = true := hf
    unfold Pg.fld at hf
    rw [hc] at hf
    have q := List.all_eq_true.mp b12 f (by simpa using hf)
    simpa using q
  · have hg : (p.gOf C n).filter (fun g => match p.row g with
        | some r => n != "__eq__" || decide (r.lv + 3 ≤ k)
        | none => false) = some g := hg
    rw [Option.filter_eq_some_iff] at hg
    obtain ⟨h1, h2⟩ := hg
    unfold Pg.gOf at h1
    rw [hc] at h1
    simp only [Option.bind_some] at h1
    have q := List.all_eq_true.mp b13 _ (lk_mem' h1)
    split at h2
    · rename_i r hr
      simp only [hr, Option.isNone_some, Bool.false_or] at q
      split at q
      · rename_i f hf
        simp only [Bool.and_eq_true, beq_iff_eq] at q
        exact ⟨f, hf, q.1.1, q.1.2, q.2⟩
      · cases q
    · cases h2
theorem cx_ca {C : String} {A : Addr} (h : p.cxK K C = some A) : p.caK K C = some A := by
  unfold Pg.cxK at h
  split at h
  · rename_i q
    unfold Pg.caK
    rw [if_pos (by rw [q]; rfl)]
    exact h
  · cases h
theorem ca_mt (hB : clsB p K = true) (hX : xsB p K = true) {C : String} {A : Addr} (h : p.caK K C = some A) : ((PySem.W.clsIn K A).isSome && PySem.W.typeIn K (.ref A) == some (.type "type")) = true := by
  have h0 := h
  unfold Pg.caK at h
  split at h
  · rename_i q
    rw [Bool.or_eq_true] at q
    by_cases q1 : (p.cls.lookup C).isSome = true
    · have hx : p.cxK K C = some A := by unfold Pg.cxK; rw [if_pos q1]; exact h
      obtain ⟨c, hc, b⟩ := cls_at hB hx
      unfold clsB1 at b
      simp only [Bool.and_eq_true] at b
      obtain ⟨⟨⟨⟨⟨⟨_, b9⟩, _⟩, _⟩, _⟩, _⟩, _⟩ := b
      rw [b9.1, b9.2]; rfl
    · have q2 := q.resolve_left q1
      have hx : p.xxK K C = some A := by unfold Pg.xxK; rw [if_pos q2]; exact h0
      obtain ⟨c, hc, _, _, b⟩ := xs_at hX hx
      unfold xsB1 at b
      simp only [Bool.and_eq_true] at b
      rw [b.2.1, b.2.2]; rfl
  · cases h
theorem mki_ok (hB : clsB p K = true) {C g : String} {A : Addr} (h : p.cxK K C = some A) (hg : p.gOf C "__init__" = some g) (hr : (p.row g).isSome = true) : ∃ f, p.faK K g = some f ∧ Mk K A f := by
  obtain ⟨c, hc, b⟩ := cls_at hB h
  unfold clsB1 at b
  simp only [Bool.and_eq_true, beq_iff_eq] at b
  obtain ⟨⟨_, b13⟩, b14⟩ := b
  unfold Pg.gOf at hg
  rw [hc] at hg
  simp only [Option.bind_some] at hg
  have q := List.all_eq_true.mp b13 _ (lk_mem' hg)
  obtain ⟨r, hr⟩ := Option.isSome_iff_exists.mp hr
  simp only [hr, Option.isNone_some, Bool.false_or] at q
  rw [hg] at b14
  simp only [Option.isNone_some, Bool.false_or, Bool.and_eq_true] at b14
  split at q
  · rename_i f hf
    simp only [Bool.and_eq_true, beq_iff_eq] at q
    exact ⟨f, hf, b14.1, q.1.1, q.1.2, b14.2⟩
  · cases q
end
end PL

set_option Elab.async false
set_option linter.all false
set_option maxRecDepth 100000
set_option maxHeartbeats 4000000
namespace PL
open PySem L2 PySem.Spec PyProof.Rows
section
variable {p : Pg} {K : PySem.W.Frag} {mg : Str → Option Value} {h : Heap}
def namesB (p : Pg) (K : PySem.W.Frag) : Bool :=
  ["len", "abs", "isinstance", "tuple", "list", "all", "any", "sum", "int", "range", "zip", "enumerate", "bool", "str", "dict", "repr", "sorted", "max", "min", "set", "reversed", "super", "map", "ord", "chr"].all (fun n => PySem.W.nsIn K mainGlobals (so n) == some none) && (!p.gc || PySem.W.nsIn K mainGlobals (so "gcd") == some (some (.builtin "math.gcd"))) &&
  (PySem.W.specialIn K (.builtin "object.__class__") "__get__" == some (some (.builtin "getset_descriptor.__get__"))) && (PySem.W.takesIn K (.builtin "object.__class__") == some true) && K.all (fun q => !(q.2.cls == .type "list"))
def rowsB (p : Pg) : Bool := p.rows.all fun r => match p.row r.name with | some r' => decide (r'.name = r.name) | none => false
theorem name_none (hN : namesB p K = true) (X : K.In h) (G : h.Ns mainGlobals mg) {n : String} (hn : n ∈ ["len", "abs", "isinstance", "tuple", "list", "all", "any", "sum", "int", "range", "zip", "enumerate", "bool", "str", "dict", "repr", "sorted", "max", "min", "set", "reversed", "super", "map", "ord", "chr"]) : mg (so n) = none := by
  unfold namesB at hN
  simp only [Bool.and_eq_true] at hN
  have := List.all_eq_true.mp hN.1.1.1.1 n hn
  simp only [beq_iff_eq] at this
  exact PySem.W.mg_none_of X G this
theorem lk_memA {a : Addr} {o : Obj} : ∀ {l : List (Addr × Obj)}, l.lookup a = some o → (a, o) ∈ l
  | [], h => by simp at h
  | (b, c) :: l, h => by
    rw [List.lookup_cons] at h
    split at h
    · rename_i e
      cases h
      have e : a = b := eq_of_beq e
      rw [e]
      exact List.mem_cons_self
    · exact List.mem_cons_of_mem _ (lk_memA h)
theorem nokl (hN : namesB p K = true) : NoKL (p.fx K) := by
  unfold namesB at hN
  simp only [Bool.and_eq_true] at hN
  rintro a xs ⟨o, its, n, h1, h2, _⟩
  have h1 : K.lookup a = some o := h1
  have := List.all_eq_true.mp hN.2 (a, o) (lk_memA h1)
  simp [h2] at this
/-- the module's constants -/
def consB (p : Pg) (K : PySem.W.Frag) : Bool := p.cons.all fun c => match c.2, PySem.W.nsIn K mainGlobals c.1 with
  | .int i, some (some (.int j _)) => decide (j = i)
  | .str y, some (some (.str z _)) => decide (z = so y)
  | _, _ => false
theorem lk_memS {α : Type} {x : Str} {c : α} : ∀ {l : List (Str × α)}, l.lookup x = some c → (x, c) ∈ l
  | [], h => by simp at h
  | (a, b) :: l, h => by
    rw [List.lookup_cons] at h
    split at h
    · rename_i e
      cases h
      rw [eq_of_beq e]
      exact List.mem_cons_self
    · exact List.mem_cons_of_mem _ (lk_memS h)
theorem fac_of (hrow : ∀ r ∈ p.rows, p.row r.name = some r) (hE : FnsEq p K) (hB : fnsB p K = true) (hA : BindAll p) (hC : clsB p K = true) (hX : xsB p K = true) (hN : namesB p K = true) (hK : consB p K = true) (hP : ∀ f n ks pl, p.plans.lookup (f, n, ks) = some pl → PlanOk (p.fx K) f n ks pl) (X : K.In h) (G : h.Ns mainGlobals mg) : Fac p (p.fx K) mg where
  fn := fns_ok hrow hE hB hA X G
  blt := fun b hb => name_none hN X G (by cases b <;> first | exact absurd rfl hb | (unfold bltName; decide))
  rng := name_none hN X G (by decide)
  zip := name_none hN X G (by decide)
  enm := name_none hN X G (by decide)
  bool := name_none hN X G (by decide)
  str := name_none hN X G (by decide)
  dict := name_none hN X G (by decide)
  nb := fun n hn => name_none hN X G (by revert n; decide)
  gcd := fun hg => by
    unfold namesB at hN
    simp only [Bool.and_eq_true, hg, Bool.not_true, Bool.false_or, beq_iff_eq] at hN
    exact PySem.W.mg_of X G hN.1.1.1.2
  ac := fun k => by
    have hN' := hN
    unfold namesB at hN'
    simp only [Bool.and_eq_true, beq_iff_eq] at hN'
    exact ⟨fun C A hc => cls_ok hC k hc, fun C A hc => xs_ok hX hN'.1.1.2 hN'.1.2 k hc, fun C A hc => cx_ca hc, fun C A hc => (xs_at hX hc).choose_spec.2.2.1, fun C A hc => ca_mt hC hX hc, hN'.1.1.2, hN'.1.2, nokl hN⟩
  cmg := fun C A hc => by
    have hc : p.caK K C = some A := hc
    unfold Pg.caK at hc
    split at hc
    · exact PySem.W.mg_of X G (refOf_ok hc)
    · cases hc
  xdom := fun C hc => by
    obtain ⟨c, hc⟩ := Option.isSome_iff_exists.mp hc
    have b := List.all_eq_true.mp hX (C, c) (lk_mem' hc)
    simp only [hc, Bool.and_eq_true] at b
    obtain ⟨_, b⟩ := b
    split at b
    · rename_i A q
      exact ⟨A, q⟩
    · cases b
  cdom := fun C hc => by
    obtain ⟨c, hc⟩ := Option.isSome_iff_exists.mp hc
    have b := List.all_eq_true.mp hC _ (lk_mem' hc)
    simp only [hc] at b
    split at b
    · rename_i A q
      exact ⟨A, q⟩
    · cases b
  mki := fun C A g hc hg hr => mki_ok hC hc hg hr
  plan := hP
  cnI := fun x i h => by
    have q := List.all_eq_true.mp hK _ (lk_memS h)
    dsimp only at q
    split at q
    · rename_i i' j t e1 e2
      cases e1
      rw [decide_eq_true_eq] at q
      subst q
      exact ⟨t, PySem.W.mg_of X G e2⟩
    · rename_i e1 _
      cases e1
    · cases q
  cnS := fun x y h => by
    have q := List.all_eq_true.mp hK _ (lk_memS h)
    dsimp only at q
    split at q
    · rename_i e1 _
      cases e1
    · rename_i y' z t e1 e2
      cases e1
      rw [decide_eq_true_eq] at q
      subst q
      exact ⟨t, PySem.W.mg_of X G e2⟩
    · cases q
end
end PL

set_option Elab.async false
set_option linter.all false
set_option maxRecDepth 100000
set_option maxHeartbeats 4000000
/-! PL.Top: the law's own call, where nothing is shown around. -/
namespace PL
open PySem L2 PySem.Spec PyProof.Rows LamX
section
variable {P : Program} {w : World} {K : PySem.W.Frag} {mg mb : Str → Option Value} {fa a : Addr} {cs : List (Addr × Addr)} {fd : FuncData} {x : Str} {sp : Sp} {s1 : Shared} {vs : List Value} {ns : List Int}
/-- the abstract heap at the top: the script, if it is none of the written part; the tables -/
def topH (K : PySem.W.Frag) (a : Addr) (vs : List Value) (ns : List Int) (ts : List Addr) : Hp := fun b =>
  if b ∈ ts then some (.tbl #[])
  else if b = a ∧ K.lookup a = none then some (.frz { cls := .type "list", data := .seq vs.toArray } (.lst (ns.map V.int)))
  else none
abbrev tabO : Obj := { cls := .none, data := .fields #[] }
structure TopF (K : PySem.W.Frag) (s1 : Shared) (a : Addr) (vs : List Value) (ns : List Int) (ts : List Addr) : Prop where
  kin : K.In s1.heap
  tab : ∀ b ∈ ts, s1.heap.get? b = some tabO ∧ K.lookup b = none
  lst : s1.heap.get? a = some { cls := .type "list", data := .seq vs.toArray }
  its : IntsAre vs ns
  len : ns.length ≤ sizeLine
theorem TopF.out {ts : List Addr} (t : TopF K s1 a vs ns ts) : a ∉ ts := fun h => by
  have e := (t.tab a h).1
  rw [t.lst] at e
  have := congrArg Obj.data (Option.some.inj e)
  cases this
theorem TopF.cases {ts : List Addr} (t : TopF K s1 a vs ns ts) {b : Addr} {u : HO} (h : topH K a vs ns ts b = some u) : (b ∈ ts ∧ u = .tbl #[]) ∨ (b = a ∧ K.lookup a = none ∧ u = .frz { cls := .type "list", data := .seq vs.toArray } (.lst (ns.map V.int))) := by
  unfold topH at h
  split at h
  · cases h; exact .inl ⟨by assumption, rfl⟩
  · split at h
    · rename_i q
      cases h
      exact .inr ⟨q.1, q.2, rfl⟩
    · cases h
theorem TopF.ok {ts : List Addr} (t : TopF K s1 a vs ns ts) : HOk P w (topH K a vs ns ts) s1.heap := fun b u h => by
  rcases t.cases h with ⟨hb, rfl⟩ | ⟨rfl, _, rfl⟩
  · exact (t.tab b hb).1
  · exact ⟨t.lst, by rw [List.length_map]; exact t.len, vs, _, vals_ints t.its, t.lst⟩
/-- what is of another shape is not tracked -/
theorem TopF.free {ts : List Addr} (t : TopF K s1 a vs ns ts) {b : Addr} {o : Obj} (h : s1.heap.get? b = some o) (h1 : o.data ≠ .seq vs.toArray) (h2 : o.data ≠ .fields #[]) : topH K a vs ns ts b = none := by
  cases q : topH K a vs ns ts b with
  | none => rfl
  | some u =>
    rcases t.cases q with ⟨hb, _⟩ | ⟨rfl, _, _⟩
    · rw [(t.tab b hb).1] at h
      exact absurd (congrArg Obj.data (Option.some.inj h)).symm h2
    · rw [t.lst] at h
      exact absurd (congrArg Obj.data (Option.some.inj h)).symm h1
theorem TopF.freeK {ts : List Addr} (t : TopF K s1 a vs ns ts) {b : Addr} {o : Obj} (h : K.lookup b = some o) : topH K a vs ns ts b = none := by
  cases q : topH K a vs ns ts b with
  | none => rfl
  | some u =>
    rcases t.cases q with ⟨hb, _⟩ | ⟨rfl, hk, _⟩
    · rw [(t.tab b hb).2] at h; cases h
    · rw [hk] at h; cases h
theorem TopF.nsp {ts : List Addr} (t : TopF K s1 a vs ns ts) {b : Addr} {m : Str → Option Value} (h : s1.heap.Ns b m) : (hidT s1.heap (topH K a vs ns ts)).Ns b m := by
  obtain ⟨o, es, ep, e, hd, q⟩ := h
  exact ⟨o, es, ep, hidT_get e (t.free e (by rw [hd]; exact fun z => by cases z) (by rw [hd]; exact fun z => by cases z)), hd, q⟩
theorem TopF.sq {ts : List Addr} (t : TopF K s1 a vs ns ts) : SqL K (topH K a vs ns ts) a (ns.map V.int) := by
  cases hk : K.lookup a with
  | some o =>
    have e := t.kin a o hk
    rw [t.lst] at e
    cases e
    have hv := vals_ints t.its
    exact .inr ⟨_, vs.toArray, _, hk, rfl, rfl, rfl, by rw [List.size_toArray, t.its.length]; exact t.len, by simpa using hv⟩
  | none =>
    refine .inl (.inr ⟨{ cls := .type "list", data := .seq vs.toArray }, ?_⟩)
    unfold topH
    rw [if_neg t.out, if_pos ⟨rfl, hk⟩]
theorem TopF.tb {ts : List Addr} (t : TopF K s1 a vs ns ts) {b : Addr} (h : b ∈ ts) : topH K a vs ns ts b = some (.tbl #[]) := if_pos h
theorem law_top {k : Nat} (t : TopF K s1 a vs ns (cs.map (·.2))) (hns : s1.heap.Ns mainGlobals mg) (hb : s1.heap.Ns builtinsNs mb) (hbb : ∀ y : Str, y ≠ "__name__" → mb y = bootBuiltins y) (hlim : s1.heap.NoLimit) (hgen : s1.gens = #[])
    (hcd : ∀ p ∈ cs, PySem.W.CodeHd s1.heap p.1 p.2) (hbm : ∃ (bm : Addr) (ob : Obj), mg "__builtins__" = some (.ref bm) ∧ bm ≠ builtinsNs ∧ s1.heap.get? bm = some ob ∧ ob.cls = .type "module" ∧ ob.dict = some builtinsNs ∧ ob.data = .plain)
    (hrun : ∀ base : Heap, K.In base → base.Ns mainGlobals mg → (∀ p ∈ cs, TabB base mg p.1 p.2) → RunAt (L2.CX P w) P w K mg base callerA fa fd [x] sp) (hbind : ∀ (s : Shared) (u : Value), BindsTo s fd ⟨[u], []⟩ [(x, u)])
    (hsp : ∀ H : Hp, (∀ p ∈ cs, H p.2 = some (.tbl #[])) → SqL K H a (ns.map V.int) → sp [.ref a] H (fun v _ => v = .bl true) fun _ _ _ => False) (hno : ∀ H e s', L2.CX P w [] H s1 (fun _ _ _ => False) e s' → False) :
    codeAny (model P w) callerA (.call (.ref fa) ⟨[.ref a], []⟩) (fun r s' => r = .ok (.ret (.bool true)) ∧ OldK s1.heap s'.heap ∧ s'.os = s1.os ∧ AllBare s'.gens) s1 := by
  have mem : ∀ {p : Addr × Addr}, p ∈ cs → p.2 ∈ cs.map (·.2) := fun hp => List.mem_map.mpr ⟨_, hp, rfl⟩
  let H0 := topH K a vs ns (cs.map (·.2))
  have kb : K.In (hidT s1.heap H0) := fun b o e => hidT_get (t.kin b o e) (t.freeK e)
  have md : L2.Mod K mg (hidT s1.heap H0) := by
    obtain ⟨mc, c1, c2⟩ := hlim
    exact ⟨kb, t.nsp hns, ⟨mb, t.nsp hb, hbb⟩, mc, t.nsp c1, c2⟩
  have tb : ∀ p ∈ cs, TabB (hidT s1.heap H0) mg p.1 p.2 := by
    intro p hp
    have hT := (t.tab p.2 (mem hp)).1
    obtain ⟨bm, ob, b1, b2, b3, b4, b5, b6⟩ := hbm
    refine ⟨?_, ⟨bm, ob, b1, b2, fun q => ?_, fun q => ?_, hidT_get b3 (t.free b3 (by rw [b6]; exact fun z => by cases z) (by rw [b6]; exact fun z => by cases z)), b4, b5, b6⟩, fun q => ?_⟩
    · obtain ⟨o, us, file, tf, flags, tg, inF, text, tt, e1, r1, r2, r3, r⟩ := hcd p hp
      refine ⟨o, us, file, tf, flags, tg, inF, text, tt, hidT_get e1 (t.free e1 (by rw [r2]; exact fun z => by cases z) fun z => ?_), r1, r2, r3, r⟩
      rw [r2] at z
      cases z
      simp at r3
    · obtain ⟨o, es, ep, e, hd, _⟩ := hns
      rw [q, e] at b3
      cases b3
      rw [hd] at b6
      cases b6
    · rw [q, hT] at b3
      cases b3
      cases b6
    · obtain ⟨o, es, ep, e, hd, _⟩ := hns
      rw [q, hT] at e
      cases e
      cases hd
  have e0 : Env0 P w K mg (hidT s1.heap H0) callerA [] s1 H0 :=
    { frames := rfl, mod := md, bs := fun b o e => of_hidT e, bsz := Nat.le_of_eq (hidT_size _ _), funs := trivial, frf := fun b hb => absurd (show b ∈ ([] : List Addr) from hb) (by simp), hok := t.ok, bare := .of_eq hgen }
  refine codeAny_mono (hrun _ kb (t.nsp hns) tb [] s1 H0 ⟨[.ref a], []⟩ [.ref a] [.ref a] _ _ e0 (hbind s1 (.ref a)) (.cons rfl .nil) (hsp H0 (fun p hp => t.tb (mem hp)) t.sq)) fun r s' h => ?_
  match r, h with
  | .error e, h => exact (hno H0 e s' h).elim
  | .ok .next, h => exact False.elim h
  | .ok .brk, h => exact False.elim h
  | .ok .cont, h => exact False.elim h
  | .ok (.ret u), h =>
    obtain ⟨v, H', os, bare, un, ok', r', q⟩ := h
    have q : v = .bl true := q
    subst q
    obtain rfl : u = Value.bool true := r'
    have stay : ∀ b o, b ∉ cs.map (·.2) → s1.heap.get? b = some o → s'.heap.get? b = some o := by
      intro b o nb e
      cases q : H0 b with
      | none => exact un.keep b o e q (fun z => by cases z) (by simp)
      | some u =>
        rcases t.cases q with ⟨z, _⟩ | ⟨_, _, rfl⟩
        · exact absurd z nb
        · have e1 : s1.heap.get? b = some _ := ((t.ok (P := P) (w := w)) b _ q).1
          rw [e] at e1
          cases e1
          exact (ok' b _ (un.frzs b _ _ q)).1
    have more : ∀ b, b ∈ cs.map (·.2) → ∃ m : Array Value, s'.heap.get? b = some { cls := .none, data := .fields m } := fun b hb => by
      obtain ⟨m, z⟩ := un.tbls b #[] (t.tb hb)
      exact ⟨_, ok' b _ z⟩
    refine ⟨rfl, ⟨fun b o e => ?_, fun b o e => ?_⟩, os, bare⟩
    · by_cases hb : b ∈ cs.map (·.2)
      · obtain ⟨m, hm⟩ := more b hb
        obtain ⟨p, hp, rfl⟩ := List.mem_map.mp hb
        have hT := (t.tab p.2 hb).1
        rw [hT] at e
        cases e
        exact .inr (.inl ⟨((hcd p hp).tab hT).isCodeTable, rfl, #[], m, rfl, by rw [Array.empty_append]; exact hm⟩)
      · exact .inl (stay b o hb e)
    · by_cases hb : b ∈ cs.map (·.2)
      · obtain ⟨m, hm⟩ := more b hb
        exact ⟨_, hm⟩
      · exact ⟨o, stay b o hb e⟩
end
end PL

set_option Elab.async false
set_option linter.all false
set_option maxRecDepth 100000
set_option maxHeartbeats 4000000
namespace PL
open PySem L2 PySem.Spec PyProof.Rows
namespace Pg
/-- the code objects of the defs with lambdas, their tables -/
def csK (p : Pg) (K : PySem.W.Frag) : List (Addr × Addr) := p.rows.filterMap fun r => if r.tab = true then PySem.W.tabIn K (so r.name) else none
end Pg
def tabsB (p : Pg) (K : PySem.W.Frag) (q : Program) : Bool :=
  p.rows.all (fun r => !r.tab || (r.own.isNone && (match PySem.W.tabIn K (so r.name) with
    | some cP => (K.lookup cP.2).isNone && ((PyProof.Rows.recsOf q).find? fun e => e.name == so r.name).isSome
    | none => false))) &&
  (p.tabsK K).all fun a => (p.tabsK K).all fun b => !(a.1 == b.1) || a.2 == b.2
section
variable {p : Pg} {K : PySem.W.Frag} {q : Program}
theorem tab_mem {P : Addr} {x : Str} (h : (P, x) ∈ p.tabsK K) : ∃ c, (c, P) ∈ p.csK K := by
  obtain ⟨r, hr, e⟩ := List.mem_filterMap.mp h
  split at e
  · rename_i ht
    obtain ⟨cP, h1, h2⟩ := Option.map_eq_some_iff.mp e
    cases h2
    exact ⟨cP.1, List.mem_filterMap.mpr ⟨r, hr, by rw [if_pos ht, h1]⟩⟩
  · cases e
theorem tab_all {mg : Str → Option Value} {base : Heap} (hrow : ∀ r ∈ p.rows, p.row r.name = some r) (h : tabsB p K q = true) (hT : ∀ cP ∈ p.csK K, LamX.TabB base mg cP.1 cP.2) : TabAll p (p.fx K) mg base := by
  intro r hr ht fdd hfd
  unfold tabsB at h
  rw [Bool.and_eq_true] at h
  have b := List.all_eq_true.mp h.1 r hr
  rw [ht, Bool.not_true, Bool.false_or, Bool.and_eq_true] at b
  obtain ⟨b1, b2⟩ := b
  split at b2
  rotate_left
  · cases b2
  rename_i cP e
  obtain ⟨c, P⟩ := cP
  have m1 : (c, P) ∈ p.csK K := List.mem_filterMap.mpr ⟨r, hr, by rw [if_pos ht, e]⟩
  have m2 : (P, (r.qual ++ ".<locals>.") ++ "<lambda>") ∈ p.tabsK K := List.mem_filterMap.mpr ⟨r, hr, by rw [if_pos ht, e]; rfl⟩
  have hc : fdd.code = .ref c := by
    have hfd : p.fdK K r.name = some (fdd, r.ps) := hfd
    unfold Pg.fdK Pg.faK at hfd
    rw [hrow r hr] at hfd
    simp only [Option.bind_some, Option.isNone_iff_eq_none.mp b1] at hfd
    obtain ⟨fd2, h1, h2⟩ := Option.map_eq_some_iff.mp hfd
    cases h2
    obtain ⟨f, h3, h4⟩ := Option.bind_eq_some_iff.mp h1
    have h5 := refOf_ok h3
    obtain ⟨oc, od, osl, h6⟩ := fnData_ok h4
    unfold PySem.W.tabIn at e
    rw [h5] at e
    dsimp only at e
    rw [h6] at e
    dsimp only at e
    split at e
    · rename_i c' hc'
      split at e
      · split at e
        · cases e
          exact hc'
        · cases e
      · cases e
    · cases e
  refine ⟨c, P, hc, hT _ m1, m2, fun a ha e1 => ?_⟩
  have z := List.all_eq_true.mp (List.all_eq_true.mp h.2 a ha) _ m2
  simp only [e1, beq_self_eq_true, Bool.not_true, Bool.false_or, beq_iff_eq] at z
  exact z
theorem hm9_of (h : (p.cls.all fun c => c.2.meth.all fun m => match p.row m.2 with | some r => decide (r.fd.mode < 8) | none => true) = true) : ∀ C n g r, p.gOf C n = some g → p.row g = some r → r.fd.mode < 8 := by
  intro C n g r h1 h2
  unfold Pg.gOf at h1
  obtain ⟨c, h3, h4⟩ := Option.bind_eq_some_iff.mp h1
  have q := List.all_eq_true.mp (List.all_eq_true.mp h _ (lk_mem' h3)) _ (lk_mem' h4)
  dsimp only at q
  rw [h2] at q
  exact of_decide_eq_true q
theorem pl_walk {l : PySem.W.OpenLaw} {q : Program} {loose : List Str} {XP : (Str → Option Value) → Heap → Prop} {YP : World → Heap → Prop} {d : DefRec} {K : Params → PySem.W.Frag} {p : Pg} {r : Row} {xd : List XDef}
    (hn : l.most = some 63) (hdf : d.params.defaults = []) (hdn : d.name = so "law") (hY : ∀ (w : World) (h : Heap), YP w h → (K w.params).In h)
    (hrow : ∀ r ∈ p.rows, p.row r.name = some r) (hE : ∀ w : World, FnsEq p (K w.params)) (hB : ∀ w : World, fnsB p (K w.params) = true) (hA : BindAll p) (hC : ∀ w : World, clsB p (K w.params) = true) (hN : ∀ w : World, namesB p (K w.params) = true) (hK : ∀ w : World, consB p (K w.params) = true)
    (hX : ∀ w : World, xsB p (K w.params) = true) (hT : ∀ w : World, tabsB p (K w.params) q = true) (hXE : ∀ w : World, XFnsEq p xd (K w.params)) (hXB : ∀ w : World, xdB p l.prog (K w.params) xd = true) (hXA : BindX xd) (hXX : ∀ w : World, xaB p (K w.params) xd = true)
    (hP : ∀ (w : World) f n ks pl, p.plans.lookup (f, n, ks) = some pl → PlanOk (p.fx (K w.params)) f n ks pl) (hm9 : ∀ C n g r, p.gOf C n = some g → p.row g = some r → r.fd.mode < 8) (Ck : Chk p)
    (hr : p.row "law" = some r) (ho : r.own = none) (h8 : r.fd.mode = 8) (hps : r.ps = [so "script"]) (hroom : Room r.lv callerA)
    (hlaw : ∀ ns : List Int, ns.length ≤ 63 → ∃ m, p.fn "law" [.lst (ns.map D.int)] [] = .ok (.bl true) m) :
    PySem.W.WalkO q loose XP YP l.row.toRowW d [] (fun f vs => PySem.call f vs) := by
  obtain ⟨hm, hname⟩ := row_mem hr
  refine Att.attach_callB hn hdf fun w s₀ s₁ mg mb fa o pm cd doc a vs ns G Y _ _ _ hmg hobj hints hlen hbits hg => ?_
  have KX := hY w _ Y
  have Fc := fac_of (p := p) (K := K w.params) (mg := mg) hrow (hE w) (hB w) hA (hC w) (hX w) (hN w) (hK w) (hP w) KX G.T.g
  obtain ⟨f, fdd, h1, h2, h3, h4, h5⟩ := Fc.fn r hm
  have e := h5 (by rw [ho]; rfl)
  rw [hname, ← hdn, hmg] at e
  cases e
  have cs := fun cP (hc : cP ∈ p.csK (K w.params)) => show PySem.W.CodeHd s₁.heap cP.1 cP.2 ∧ s₁.heap.get? cP.2 = some (PySem.W.tabObj #[]) ∧ (K w.params).lookup cP.2 = none by
    obtain ⟨r', hr', e⟩ := List.mem_filterMap.mp hc
    have ht := hT w
    unfold tabsB at ht
    rw [Bool.and_eq_true] at ht
    have b := List.all_eq_true.mp ht.1 r' hr'
    split at e
    · rename_i htab
      rw [htab, e] at b
      simp only [Bool.not_true, Bool.false_or, Bool.and_eq_true, Option.isNone_iff_eq_none] at b
      obtain ⟨_, b1, b2⟩ := b
      obtain ⟨d', hd'⟩ := Option.isSome_iff_exists.mp b2
      obtain ⟨k1, k2⟩ := PySem.W.tab_of G.T KX hd' (show PySem.W.tabIn (K w.params) (so r'.name) = some (cP.1, cP.2) from e)
      exact ⟨k1, k2, b1⟩
    · cases e
  have n9 : r.fd.mode ≠ 9 := by omega
  have hnu := Ck.nu r hm
  have hmt := Ck.mt r hm
  rw [if_neg n9, show decide (r.fd.mode = 8) = true by simp [h8]] at hmt
  have h1n := hnu.1
  rw [if_neg n9] at h1n
  refine law_top (k := r.lv) (cs := p.csK (K w.params)) (fd := fdd) (x := so "script") (sp := LSp (p.fx (K w.params)) (runF (p.Γ (r.lv - 1)) r.fd)) (ns := ns) ⟨KX, fun b hb => ?_, hobj, hints, Nat.le_trans hlen (by decide)⟩ G.T.g G.T.b G.T.builtins G.T.nolimit hg (fun cP h => (cs cP h).1) G.T.bmain (fun base hb hns hTB => ?_) (fun s u => ?_) (fun H hH hS => ?_) (fun H e s' z => ?_)
  · obtain ⟨cP, hc, rfl⟩ := List.mem_map.mp hb
    exact (cs cP hc).2
  · have ih := all_ok (P := l.prog) (wd := w) (base := base) Fc (xall_of (hXE w) (hXB w) hXA (hXX w)) hm9 (tab_all hrow (hT w) hTB) Ck (r.lv - 1)
    have S := sta_of (tb := r.tab) Fc (xall_of (hXE w) (hXB w) hXA (hXX w)) hm9 ih
    have lv : r.lv - 1 + 1 = r.lv := by have := hnu.2.2; omega
    have q := fn_run (T := { p.T (r.lv - 1) r.tab with gd := true }) S.gd h3 (Ck.sc r hm) h1n hnu.2.1 hmt (fun hb => tab_all hrow (hT w) hTB r hm hb fdd h2) (A := callerA) (by show Room (r.lv - 1 + 1) callerA; rw [lv]; exact hroom) rfl
    rw [hps] at q
    exact q
  · obtain ⟨oc, od, kV, doc, pm, an, cdv, ct, osl, rfl, _, _⟩ := h3.ex
    have := hA r hm kV doc pm an cdv ct [u] (by rw [hps]; rfl)
    rw [hps] at this
    exact .of_eq this
  · obtain ⟨m, hm'⟩ := hlaw ns hlen
    have e1 : runF (p.Γ (r.lv - 1)) r.fd [.lst (ns.map D.int)] [] = .ok (.bl true) m := by
      have := Ck.sem r hm [.lst (ns.map D.int)] []
      rw [hname, hm'] at this
      unfold runR at this
      rw [if_neg n9] at this
      rcases this with z | z
      · cases z
      · exact z.symm
    refine law_sp (F := p.fx (K w.params)) (fun t ht => ?_) hS e1
    obtain ⟨c, hc⟩ := tab_mem (show (t.1, t.2) ∈ p.tabsK (K w.params) from ht)
    exact LamX.TabS.nil (hH _ hc)
  · obtain ⟨_, _, _, _, _, _, _, _, _, _, _, _, z⟩ := z
    exact z
end
end PL

set_option Elab.async false
set_option linter.all false
set_option maxRecDepth 100000
set_option maxHeartbeats 4000000
/-! PL.End4: plans of keyword calls. -/
namespace PL
open PySem L2 PySem.Spec PyProof.Rows
/-- how a call by keywords binds -/
def KBindOk (r : Row) (n : Nat) (ks : List String) (ns : List Nat) : Prop := ∀ (kV doc pm : Value) (an : Option Addr) (cdv ct : Value) (us ws : List Value), us.length = n → ws.length = ks.length →
  bindArgs (PySem.W.fnOf r.x r.qual (defArgs r.st) (defBody r.st) (defScope r.st) .none kV doc pm an cdv ct) ⟨us, (ks.map so).zip ws⟩ = pure (r.ps.zip (ns.map fun i => (us ++ ws).getD i .none))
theorem vals_get : ∀ {vs : List V} {us : List Value} (i : Nat), Vals vs us → L2.RelV (vs.getD i .non) (us.getD i .none)
  | [], [], i, .nil => by simp; rfl
  | v :: vs, u :: us, 0, .cons h _ => by simpa using h
  | v :: vs, u :: us, i + 1, .cons _ h => by simpa using vals_get i h
theorem lk_memG {α β : Type} [BEq α] [LawfulBEq α] {a : α} {c : β} : ∀ {l : List (α × β)}, l.lookup a = some c → (a, c) ∈ l
  | [], h => by simp at h
  | (x, b) :: l, h => by
    rw [List.lookup_cons] at h
    split at h
    · rename_i e
      cases h
      rw [eq_of_beq e]
      exact List.mem_cons_self
    · exact List.mem_cons_of_mem _ (lk_memG h)
theorem plan_ok {p : Pg} {K : PySem.W.Frag} (hrow : ∀ r ∈ p.rows, p.row r.name = some r) (hE : FnsEq p K) (hB : fnsB p K = true) {r : Row} (hr : r ∈ p.rows) {n : Nat} {ks : List String} {ns : List Nat} (hk : KBindOk r n ks ns) : PlanOk (p.fx K) r.name n ks (ns.map .inl) := by
  have e := map_at hE r hr
  have b := List.all_eq_true.mp hB r hr
  cases hfa : p.faK K r.name with
  | none => rw [hfa] at b; cases b
  | some a =>
    rw [hfa] at e b
    simp only [Option.bind_some, Bool.and_eq_true] at e b
    obtain ⟨fd, hfd, hk'⟩ := Option.map_eq_some_iff.mp e
    have hfn := fkey_ok hk'
    refine ⟨fd, r.ps, fun us ws => ns.map fun i => (us ++ ws).getD i .none, ?_, ⟨fun s us ws X l1 l2 => ?_, fun {vs us zs ws} h1 h2 => ?_⟩⟩
    · show (p.row r.name).bind _ = _
      rw [hrow r hr]
      simp only [Option.bind_some, hfa, hfd, Option.map_some]
    · rw [hfn]
      exact .of_eq (hk _ _ _ _ _ _ us ws l1 (by simpa using l2))
    · have h3 := h1.append h2
      unfold gPl
      rw [List.map_map]
      clear hk
      induction ns with
      | nil => exact .nil
      | cons i ns ih => exact .cons (vals_get i h3) ih
end PL

set_option linter.all false
set_option maxHeartbeats 4000000
/-! PL.Mono: what more is known of the defs, the more is known of what is run. -/
namespace PL
def Out.le {α : Type} (a b : Out α) : Prop := a = .stk ∨ a = b
def SO.le (a b : SO) : Prop := a = .stk ∨ a = b
theorem Out.le_rfl {α : Type} {a : Out α} : a.le a := .inr (Eq.refl _)
theorem SO.le_rfl {a : SO} : a.le a := .inr (Eq.refl _)
theorem Out.stk_le {α : Type} {a : Out α} : (Out.stk : Out α).le a := .inl (Eq.refl _)
theorem SO.stk_le {a : SO} : SO.stk.le a := .inl (Eq.refl _)
theorem Out.calm_le {α : Type} {a b : Out α} (h : a.le b) : a.calm.le b.calm := by
  rcases h with rfl | rfl
  · exact .inl rfl
  · exact .inr rfl
theorem Out.bind_le {α β : Type} {a b : Out α} {f g : α → Mem → Out β} (h : a.le b) (k : ∀ x m, (f x m).le (g x m)) : (a.bind f).le (b.bind g) := by
  rcases h with rfl | rfl
  · exact .inl rfl
  · cases a with
    | ok x m => exact k x m
    | err x m => exact .inr rfl
    | stk => exact .inl rfl
theorem SO.of_le {β : Type} {ρ : Env} {a b : Out β} {f g : β → Mem → SO} (h : a.le b) (k : ∀ x m, (f x m).le (g x m)) : (SO.of ρ a f).le (SO.of ρ b g) := by
  rcases h with rfl | rfl
  · exact .inl rfl
  · cases a with
    | ok x m => exact k x m
    | err x m => exact .inr rfl
    | stk => exact .inl rfl
theorem lcLoop_le {f g : D → Mem → Out (List D)} (h : ∀ d m, (f d m).le (g d m)) : ∀ ds m, (lcLoop f ds m).le (lcLoop g ds m)
  | [], m => .inr rfl
  | d :: ds, m => by
    unfold lcLoop
    rcases h d m with e | e
    · rw [e]; exact .inl rfl
    · rw [← e]
      cases f d m with
      | ok x m1 => exact Out.bind_le (lcLoop_le h ds m1) fun _ _ => Out.le_rfl
      | err _ _ => exact .inl rfl
      | stk => exact .inl rfl
theorem forLoop_le {f g : D → Env → Mem → SO} (h : ∀ d ρ m, (f d ρ m).le (g d ρ m)) : ∀ ds ρ m, (forLoop f ds ρ m).le (forLoop g ds ρ m)
  | [], ρ, m => .inr rfl
  | d :: ds, ρ, m => by
    unfold forLoop
    rcases h d ρ m with e | e
    · rw [e]; exact .inl rfl
    · rw [← e]
      cases f d ρ m with
      | nx ρ m => exact forLoop_le h ds ρ m
      | ct ρ m => exact forLoop_le h ds ρ m
      | _ => exact .inr rfl
theorem whlLoop_le {c c' : Env → Mem → Out D} {f g : Env → Mem → SO} (hc : ∀ ρ m, (c ρ m).le (c' ρ m)) (h : ∀ ρ m, (f ρ m).le (g ρ m)) : ∀ n ρ m, (whlLoop c f n ρ m).le (whlLoop c' g n ρ m)
  | 0, ρ, m => .inl rfl
  | n + 1, ρ, m => by
    unfold whlLoop
    refine SO.of_le (hc ρ m) fun x m => ?_
    split
    · rcases h ρ m with e | e
      · rw [e]; exact .inl rfl
      · rw [← e]
        cases f ρ m with
        | nx ρ m => exact whlLoop_le hc h n ρ m
        | ct ρ m => exact whlLoop_le hc h n ρ m
        | _ => exact .inr rfl
    · exact .inr rfl
    · exact .inl rfl
section
variable {Γ : Gam} {g : String → List D → Mem → Out D}
theorem isAny_fn (m : Mem) (x : D) : ∀ cs, isAny { Γ with fn := g } m x cs = isAny Γ m x cs
  | [] => rfl
  | c :: cs => by
    show (match isOne { Γ with fn := g } m x c, isAny { Γ with fn := g } m x cs with
    | some a, some b => some (a || b)
    | _, _ => none) = _
    rw [isAny_fn m x cs]
    rfl
theorem bltS_fn (m : Mem) (b : Blt) (ds : List D) : bltS { Γ with fn := g } m b ds = bltS Γ m b ds := by
  unfold bltS
  split <;> first | rfl | (rw [isAny_fn]) | skip
theorem cmpX_le (h : ∀ f ds m, (Γ.fn f ds m).le (g f ds m)) (o : COp) (x y : D) (m : Mem) : (cmpX Γ o x y m).le (cmpX { Γ with fn := g } o x y m) := by
  unfold cmpX
  have q : eqSafe { Γ with fn := g } m = eqSafe Γ m := rfl
  rw [q]
  cases h1 : eqNe o <;> cases h2 : clsOf m x <;> dsimp only <;> try exact .inr rfl
  rename_i neg C
  cases h3 : Γ.meth C "__eq__" <;> dsimp only <;> try exact .inr rfl
  rename_i f
  split
  · rcases h f [x, y] m with e | e
    · rw [e]; exact .inl rfl
    · rw [e]; exact .inr rfl
  · exact .inr rfl
theorem ev_le (h : ∀ f ds m, (Γ.fn f ds m).le (g f ds m)) : ∀ e ρ m, (ev Γ e ρ m).le (ev { Γ with fn := g } e ρ m) := by
  intro e
  induction e with
  | var i => intro ρ m; exact .inr rfl
  | cst d => intro ρ m; exact .inr rfl
  | nil => intro ρ m; exact .inr rfl
  | sl a b c ha hb hc => intro ρ m; exact Out.bind_le (ha ρ m) fun x m => Out.bind_le (Out.bind_le (hb ρ m) fun _ _ => Out.le_rfl) fun l m => Out.bind_le (Out.bind_le (hc ρ m) fun _ _ => Out.le_rfl) fun u m => Out.le_rfl
  | frz i => intro ρ m; exact .inr rfl
  | bin o a b ha hb => intro ρ m; exact Out.bind_le (ha ρ m) fun x m => Out.bind_le (hb ρ m) fun y m => Out.le_rfl
  | neg a ha => intro ρ m; exact Out.bind_le (ha ρ m) fun x m => Out.le_rfl
  | cmp o a b ha hb => intro ρ m; exact Out.bind_le (ha ρ m) fun x m => Out.bind_le (hb ρ m) fun y m => cmpX_le h o x y m
  | not a ha => intro ρ m; exact Out.bind_le (ha ρ m) fun x m => Out.le_rfl
  | and a b ha hb => intro ρ m; refine Out.bind_le (ha ρ m) fun x m => ?_; split; exact hb ρ m; exact .inr rfl; exact .inl rfl
  | or a b ha hb => intro ρ m; refine Out.bind_le (ha ρ m) fun x m => ?_; split; exact .inr rfl; exact hb ρ m; exact .inl rfl
  | ife c a b hc ha hb => intro ρ m; refine Out.bind_le (hc ρ m) fun x m => ?_; split; exact ha ρ m; exact hb ρ m; exact .inl rfl
  | cons a r ha hr => intro ρ m; exact Out.bind_le (ha ρ m) fun x m => Out.bind_le (hr ρ m) fun y m => Out.le_rfl
  | tup a ha => intro ρ m; exact Out.bind_le (ha ρ m) fun x m => Out.le_rfl
  | lst a ha => intro ρ m; exact Out.bind_le (ha ρ m) fun x m => Out.le_rfl
  | ix a b ha hb => intro ρ m; exact Out.bind_le (ha ρ m) fun x m => Out.bind_le (hb ρ m) fun y m => Out.le_rfl
  | att a f ha => intro ρ m; exact Out.bind_le (ha ρ m) fun x m => Out.le_rfl
  | call f a ha => intro ρ m; refine Out.bind_le (ha ρ m) fun x m => ?_; split; exact h _ _ _; exact .inl rfl
  | meth n a as ha has => 
    intro ρ m; refine Out.bind_le (ha ρ m) fun x m => ?_
    dsimp only
    cases h1 : (clsOf m x).bind fun C => Γ.meth C n <;> dsimp only
    · exact .inl rfl
    · split
      · exact .inl rfl
      · refine Out.bind_le (has ρ m) fun y m => ?_
        split
        · exact h _ _ _
        · exact .inl rfl
  | make C as ha =>
    intro ρ m; refine Out.bind_le (ha ρ m) fun x m => ?_
    split
    · dsimp only
      cases h1 : Γ.meth C "__init__" <;> dsimp only
      · exact .inl rfl
      · exact Out.bind_le (h _ _ _) fun _ _ => Out.le_rfl
    · exact .inl rfl
  | mkx C ns a ha => intro ρ m; exact Out.bind_le (ha ρ m) fun x m => Out.le_rfl
  | blt b a ha =>
    intro ρ m; refine Out.bind_le (ha ρ m) fun x m => ?_
    split
    · exact .inr (congrArg (Out.of m) (bltS_fn m b _).symm)
    · exact .inl rfl
  | itv a ha => intro ρ m; exact Out.bind_le (ha ρ m) fun x m => Out.le_rfl
  | rng a ha => intro ρ m; exact Out.bind_le (ha ρ m) fun x m => Out.le_rfl
  | rng2 a b ha hb => intro ρ m; exact Out.bind_le (ha ρ m) fun x m => Out.bind_le (hb ρ m) fun y m => Out.le_rfl
  | zip a ha => intro ρ m; exact Out.bind_le (ha ρ m) fun x m => Out.le_rfl
  | enm a ha => intro ρ m; exact Out.bind_le (ha ρ m) fun x m => Out.le_rfl
  | nls a ha => intro ρ m; exact Out.bind_le (ha ρ m) fun x m => Out.le_rfl
  | lc ws t it cs el ht hit hcs hel =>
    intro ρ m; refine Out.bind_le (hit ρ m) fun x m => ?_
    split
    · refine Out.bind_le (lcLoop_le (fun d m => ?_) _ _) fun _ _ => Out.le_rfl
      split
      · refine Out.bind_le (hcs _ m) fun c m => ?_
        split
        · exact Out.bind_le (hel _ m) fun _ _ => Out.le_rfl
        · exact .inr rfl
        · exact .inl rfl
      · exact .inl rfl
    · exact .inl rfl
  | lc2 ws t it cs ws1 t1 it1 cs1 el ht hit hcs ht1 hit1 hcs1 hel =>
    intro ρ m; refine Out.bind_le (hit ρ m) fun x m => ?_
    split
    · refine Out.bind_le (lcLoop_le (fun d m => ?_) _ _) fun _ _ => Out.le_rfl
      split
      · refine Out.bind_le (hcs _ m) fun c m => ?_
        split
        · refine Out.bind_le (hit1 _ m) fun x m => ?_
          split
          · refine lcLoop_le (fun d m => ?_) _ _
            split
            · refine Out.bind_le (hcs1 _ m) fun c m => ?_
              split
              · exact Out.bind_le (hel _ m) fun _ _ => Out.le_rfl
              · exact .inr rfl
              · exact .inl rfl
            · exact .inl rfl
          · exact .inl rfl
        · exact .inr rfl
        · exact .inl rfl
      · exact .inl rfl
    · exact .inl rfl
  | op1 o a ha => intro ρ m; exact Out.bind_le (ha ρ m) fun x m => Out.le_rfl
  | op2 o a b ha hb =>
    intro ρ m
    refine Out.bind_le (ha ρ m) fun x m => ?_
    by_cases hp : pre2 o x = true
    · rw [if_pos hp, if_pos hp]; exact Out.bind_le (hb ρ m) fun y m => Out.le_rfl
    · rw [if_neg hp]; exact .inl rfl
  | op3 o a b c ha hb hc => intro ρ m; exact Out.bind_le (ha ρ m) fun x m => Out.bind_le (hb ρ m) fun y m => Out.bind_le (hc ρ m) fun z m => Out.le_rfl
  | chn o p a b c ha hb hc =>
    intro ρ m; refine Out.bind_le (ha ρ m) fun x m => Out.bind_le (hb ρ m) fun y m => ?_
    cases cmpS m o x y with
    | none => exact .inl rfl
    | some k => cases k with
      | true => exact Out.bind_le (hc ρ m) fun _ _ => Out.le_rfl
      | false => exact .inr rfl
  | methk n j ks a as bs ha hb hc =>
    intro ρ m; refine Out.bind_le (ha ρ m) fun x m => ?_
    cases (clsOf m x).bind fun C => Γ.meth C n with
    | none => exact .inl rfl
    | some f =>
      dsimp only
      split
      · exact .inl rfl
      · refine Out.bind_le (hb ρ m) fun y m => Out.bind_le (hc ρ m) fun z m => ?_
        split
        · split
          · split
            · exact h _ _ _
            · exact .inl rfl
          · exact .inl rfl
        · exact .inl rfl
  | cau f b hb =>
    intro ρ m
    rcases hb ρ m with e | e
    · exact .inl (by unfold ev; rw [e])
    · unfold ev
      rw [← e]
      cases ev Γ b ρ m with
      | ok x m => exact Out.calm_le (h _ _ _)
      | err x m =>
        cases x with
        | exc C ns ds =>
          dsimp only
          split
          · exact Out.calm_le (h _ _ _)
          · exact .inl rfl
        | _ => exact .inl rfl
      | stk => exact .inl rfl
  | callk f n ks as bs ha hb =>
    intro ρ m; refine Out.bind_le (ha ρ m) fun x m => Out.bind_le (hb ρ m) fun y m => ?_
    split
    · dsimp only
      split
      · split
        · exact h _ _ _
        · exact .inl rfl
      · exact .inl rfl
    · exact .inl rfl
  | makek C n ks as bs ha hb =>
    intro ρ m; refine Out.bind_le (ha ρ m) fun x m => Out.bind_le (hb ρ m) fun y m => ?_
    split
    · dsimp only
      cases h1 : Γ.meth C "__init__" <;> dsimp only
      · exact .inl rfl
      · split
        · split
          · exact Out.bind_le (h _ _ _) fun _ _ => Out.le_rfl
          · exact .inl rfl
        · exact .inl rfl
    · exact .inl rfl
theorem ex_le (h : ∀ f ds m, (Γ.fn f ds m).le (g f ds m)) : ∀ s ρ m, (ex Γ s ρ m).le (ex { Γ with fn := g } s ρ m) := by
  intro s
  induction s with
  | skip => intro ρ m; exact .inr rfl
  | retN => intro ρ m; exact .inr rfl
  | brk => intro ρ m; exact .inr rfl
  | cnt => intro ρ m; exact .inr rfl
  | nev => intro ρ m; exact .inr rfl
  | seq a b ha hb =>
    intro ρ m
    unfold ex
    rcases ha ρ m with e | e
    · rw [e]; exact .inl rfl
    · rw [← e]
      cases ex Γ a ρ m <;> first | exact hb _ _ | exact .inr rfl
  | asg t e => intro ρ m; exact SO.of_le (ev_le h e ρ m) fun x m => SO.le_rfl
  | exp e => intro ρ m; exact SO.of_le (ev_le h e ρ m) fun x m => SO.le_rfl
  | ret e => intro ρ m; exact SO.of_le (ev_le h e ρ m) fun x m => SO.le_rfl
  | ife c a b ha hb => intro ρ m; refine SO.of_le (ev_le h c ρ m) fun x m => ?_; split; exact ha ρ m; exact hb ρ m; exact .inl rfl
  | for_ t it b hb =>
    intro ρ m; refine SO.of_le (ev_le h it ρ m) fun x m => ?_
    split
    · refine forLoop_le (fun d ρ m => ?_) _ _ _
      split
      · exact hb _ _
      · exact .inl rfl
    · exact .inl rfl
  | whl c b hb => intro ρ m; exact whlLoop_le (ev_le h c) hb _ ρ m
  | rse e => intro ρ m; exact SO.of_le (ev_le h e ρ m) fun x m => SO.le_rfl
  | att o f e => intro ρ m; exact SO.of_le (ev_le h e ρ m) fun v m => SO.of_le (ev_le h o ρ m) fun x m => SO.le_rfl
  | ats i fs e => 
    intro ρ m; refine SO.of_le (ev_le h e ρ m) fun v m => ?_
    have : ∀ fs ds a m, setAll { Γ with fn := g } a m fs ds = setAll Γ a m fs ds := by
      intro fs
      induction fs with
      | nil => intro ds a m; cases ds <;> rfl
      | cons f fs ih => intro ds a m; cases ds with
        | nil => rfl
        | cons d ds =>
          show ((setAt Γ m a f d).bind fun m => setAll { Γ with fn := g } a m fs ds) = (setAt Γ m a f d).bind fun m => setAll Γ a m fs ds
          congr 1; funext m; exact ih ds a m
    simp only [this]
    exact SO.le_rfl
  | sub o i e => intro ρ m; exact SO.of_le (ev_le h e ρ m) fun v m => SO.of_le (ev_le h o ρ m) fun x m => SO.of_le (ev_le h i ρ m) fun k m => SO.le_rfl
  | app i e =>
    intro ρ m
    unfold ex
    split
    · split
      · exact SO.of_le (ev_le h e ρ m) fun v m => SO.le_rfl
      · exact .inl rfl
    · exact .inl rfl
  | aug i o e =>
    intro ρ m
    unfold ex
    split
    · exact SO.of_le (ev_le h e ρ m) fun v m => SO.le_rfl
    · exact .inl rfl
theorem runF_le (h : ∀ f ds m, (Γ.fn f ds m).le (g f ds m)) (fd : FD) (ds : List D) (m : Mem) : (runF Γ fd ds m).le (runF { Γ with fn := g } fd ds m) := by
  unfold runF
  split
  · rcases ex_le h fd.body (ds.map some ++ List.replicate (fd.nl - ds.length) none) m with e | e
    · rw [e]; exact .inl rfl
    · rw [← e]; exact .inr rfl
  · exact .inl rfl
theorem runC_le (h : ∀ f ds m, (Γ.fn f ds m).le (g f ds m)) (fd : FD) (ds : List D) (m : Mem) : (runC Γ fd ds m).le (runC { Γ with fn := g } fd ds m) := by
  unfold runC
  split
  · rcases ex_le h fd.body (none :: ds.map some ++ List.replicate (fd.nl - (ds.length + 1)) none) m with e | e
    · rw [e]; exact .inl rfl
    · rw [← e]; exact .inr rfl
  · exact .inl rfl
theorem runR_le (h : ∀ f ds m, (Γ.fn f ds m).le (g f ds m)) (fd : FD) (ds : List D) (m : Mem) : (runR Γ fd ds m).le (runR { Γ with fn := g } fd ds m) := by
  unfold runR
  split
  · exact runC_le h fd ds m
  · exact runF_le h fd ds m
end
end PL

set_option Elab.async false
set_option linter.all false
set_option maxHeartbeats 4000000
/-! PL.Fix: the defs of a table, level by level. -/
namespace PL
def fnL (p : Pg) : Nat → String → List D → Mem → Out D
  | 0, _, _, _ => .stk
  | k + 1, f, ds, m => match p.row f with
    | some r => if r.lv = k + 1 then runR { p.Γ k with fn := fnL p k } r.fd ds m else fnL p k f ds m
    | none => .stk
def Pg.full (p : Pg) (L : Nat) : Pg := { p with fn := fnL p L }
section
variable {p : Pg}
theorem fnL_hi {f : String} {r : Row} (h : p.row f = some r) : ∀ k, k < r.lv → ∀ ds m, fnL p k f ds m = .stk
  | 0, _, _, _ => rfl
  | k + 1, hk, ds, m => by
    unfold fnL
    rw [h]
    dsimp only
    rw [if_neg (by omega)]
    exact fnL_hi h k (by omega) ds m
theorem fnL_step (k : Nat) (f : String) (ds : List D) (m : Mem) : (fnL p k f ds m).le (fnL p (k + 1) f ds m) := by
  show Out.le _ (match p.row f with
    | some r => if r.lv = k + 1 then runR { p.Γ k with fn := fnL p k } r.fd ds m else fnL p k f ds m
    | none => .stk)
  cases h : p.row f with
  | none =>
    dsimp only
    cases k with
    | zero => exact .inl rfl
    | succ k => unfold fnL; rw [h]; exact .inl rfl
  | some r =>
    dsimp only
    split
    · rename_i e
      exact .inl (fnL_hi h k (by omega) ds m)
    · exact .inr rfl
theorem Out.le_trans {α : Type} {a b c : Out α} (h : a.le b) (k : b.le c) : a.le c := by
  rcases h with h | rfl
  · exact .inl h
  · exact k
theorem fnL_le {k K : Nat} (hk : k ≤ K) (f : String) (ds : List D) (m : Mem) : (fnL p k f ds m).le (fnL p K f ds m) := by
  induction hk with
  | refl => exact Out.le_rfl
  | step _ ih => exact Out.le_trans ih (fnL_step _ f ds m)
theorem fnL_eq {f : String} {r : Row} (h : p.row f = some r) {l : Nat} (e : r.lv = l + 1) : ∀ K, l + 1 ≤ K → fnL p K f = runR { p.Γ l with fn := fnL p l } r.fd := by
  intro K hK
  induction hK with
  | refl =>
    funext ds m
    conv => lhs; unfold fnL
    rw [h]
    dsimp only
    rw [if_pos e]
  | step hl ih =>
    rw [← ih]
    funext ds m
    rename_i K
    conv => lhs; unfold fnL
    rw [h]
    dsimp only
    rw [if_neg (by have : l + 1 ≤ K := hl; omega)]
theorem full_row (L : Nat) (f : String) : (p.full L).row f = p.row f := rfl
theorem full_sem {L : Nat} (hrow : ∀ r ∈ p.rows, p.row r.name = some r) (hlv : ∀ r ∈ p.rows, 1 ≤ r.lv ∧ r.lv ≤ L) : ∀ r ∈ (p.full L).rows, ∀ ds m, (p.full L).fn r.name ds m = .stk ∨ (p.full L).fn r.name ds m = runR ((p.full L).Γ (r.lv - 1)) r.fd ds m := by
  intro r hr ds m
  have h := hrow r hr
  obtain ⟨h1, h2⟩ := hlv r hr
  have e : fnL p L r.name = runR { p.Γ (r.lv - 1) with fn := fnL p (r.lv - 1) } r.fd := fnL_eq h (l := r.lv - 1) (by omega) L (by omega)
  show fnL p L r.name ds m = .stk ∨ fnL p L r.name ds m = _
  rw [e]
  have := runR_le (Γ := { p.Γ (r.lv - 1) with fn := fnL p (r.lv - 1) }) (g := fnL p L) (fun f ds m => fnL_le (by omega) f ds m) r.fd ds m
  exact this
end
end PL

set_option linter.all false
/-! PL.Pk: the trees of defs that stand in many laws. -/
namespace PL
namespace Pk
def fd_Eye_du_equ : FD := ⟨2, 2, (.seq (.ret (.and (.blt .isi (.cons (.var 1) (.cons (.cst (.cls "Eye")) .nil))) (.cmp .eq (.att (.var 0) "parts") (.att (.var 1) "parts")))) .skip), 0⟩
def fd_Eye_du_initu : FD := ⟨5, 7, (.seq (.for_ (.tup (.cons (.var 5) (.cons (.var 6) .nil))) (.zip (.cons (.tup (.cons (.var 1) (.cons (.var 2) (.cons (.var 3) (.cons (.var 4) .nil))))) (.cons (.tup (.cons (.cst (.str "place")) (.cons (.cst (.str "origin")) (.cons (.cst (.str "along")) (.cons (.cst (.str "up")) .nil))))) .nil))) (.seq (.ife (.not (.call "are_integers" (.cons (.var 5) (.cons (.cst (.int 3)) .nil)))) (.seq (.rse (.mkx "BadValue" ["part"] (.cons (.var 6) .nil))) .skip) .skip) .skip)) (.seq (.ats 0 ["place", "origin", "along", "up"] (.tup (.cons (.blt .tup (.cons (.var 1) .nil)) (.cons (.blt .tup (.cons (.var 2) .nil)) (.cons (.blt .tup (.cons (.var 3) .nil)) (.cons (.blt .tup (.cons (.var 4) .nil)) .nil)))))) (.seq (.att (.var 0) "parts" (.tup (.cons (.att (.var 0) "place") (.cons (.att (.var 0) "origin") (.cons (.att (.var 0) "along") (.cons (.att (.var 0) "up") .nil)))))) (.seq (.ife (.cmp .eq (.ix (.att (.var 0) "place") (.cst (.int 2))) (.cst (.int 0))) (.seq (.rse (.mkx "Misfit" ["part"] (.cons (.cst (.str "floor")) .nil))) .skip) .skip) (.seq (.ife (.cmp .eq (.call "determinant" (.cons (.att (.var 0) "along") (.cons (.att (.var 0) "up") (.cons (.call "less" (.cons (.att (.var 0) "place") (.cons (.att (.var 0) "origin") .nil))) .nil)))) (.cst (.int 0))) (.seq (.rse (.mkx "Misfit" ["part"] (.cons (.cst (.str "sheet")) .nil))) .skip) .skip) .skip))))), 0⟩
def fd_Map_du_equ : FD := ⟨2, 2, (.seq (.ret (.and (.blt .isi (.cons (.var 1) (.cons (.cst (.cls "Map")) .nil))) (.cmp .eq (.att (.var 0) "rows") (.att (.var 1) "rows")))) .skip), 0⟩
def fd_Map_du_initu : FD := ⟨2, 2, (.seq (.ife (.not (.call "are_rows" (.cons (.var 1) .nil))) (.seq (.rse (.mkx "BadMap" ["part"] (.cons (.cst (.str "rows")) .nil))) .skip) .skip) (.seq (.att (.var 0) "rows" (.call "lowest" (.cons (.var 1) .nil))) .skip)), 0⟩
def fd_Map_d_after : FD := ⟨2, 5, (.seq (.exp (.call "need_map" (.cons (.var 1) (.cons (.cst (.str "other")) .nil)))) (.seq (.asg (.var 2) (.call "transposed" (.cons (.att (.var 1) "rows") .nil))) (.seq (.ret (.make "Map" (.cons (.lc [3] (.var 3) (.itv (.att (.var 0) "rows")) (.cst (.bl true)) (.lc [4] (.var 4) (.itv (.var 2)) (.cst (.bl true)) (.call "dot" (.cons (.var 3) (.cons (.var 4) .nil))))) .nil))) .skip))), 0⟩
def fd_Map_d_back : FD := ⟨1, 1, (.seq (.ret (.make "Map" (.cons (.call "transposed" (.cons (.call "cofactors" (.cons (.att (.var 0) "rows") .nil)) .nil)) .nil))) .skip), 0⟩
def fd_Map_d_line : FD := ⟨2, 4, (.seq (.asg (.var 2) (.call "need_triple" (.cons (.var 1) (.cons (.cst (.str "triple")) .nil)))) (.seq (.ret (.call "normal" (.cons (.lc [3] (.var 3) (.itv (.call "cofactors" (.cons (.att (.var 0) "rows") .nil))) (.cst (.bl true)) (.call "dot" (.cons (.var 3) (.cons (.var 2) .nil)))) .nil))) .skip)), 0⟩
def fd_Map_d_point : FD := ⟨2, 4, (.seq (.asg (.var 2) (.call "need_triple" (.cons (.var 1) (.cons (.cst (.str "triple")) .nil)))) (.seq (.ret (.call "normal" (.cons (.lc [3] (.var 3) (.itv (.att (.var 0) "rows")) (.cst (.bl true)) (.call "dot" (.cons (.var 3) (.cons (.var 2) .nil)))) .nil))) .skip)), 0⟩
def fd__law_caught : FD := ⟨2, 7, (.seq (.ife (.cmp .is (.var 1) (.cst .non)) (.seq (.ret (.lst (.cons (.var 2) .nil))) .skip) .skip) (.seq (.ife (.blt .isi (.cons (.var 1) (.cons (.cst (.cls "BadText")) .nil))) (.seq (.ret (.tup (.cons (.cst (.str "text")) (.cons (.att (.var 1) "line") (.cons (.att (.var 1) "word") .nil))))) .skip) .skip) (.seq (.ife (.blt .isi (.cons (.var 1) (.cons (.cst (.cls "TooMany")) .nil))) (.seq (.ret (.tup (.cons (.cst (.str "many")) (.cons (.att (.var 1) "what") (.cons (.att (.var 1) "most") .nil))))) .skip) .skip) (.seq (.ife (.blt .isi (.cons (.var 1) (.cons (.cst (.cls "OfPart")) .nil))) (.seq (.asg (.var 4) (.lst (.cons (.tup (.cons (.cst (.str "triple")) (.cons (.blt .isi (.cons (.var 1) (.cons (.cst (.cls "BadTriple")) .nil))) .nil))) (.cons (.tup (.cons (.cst (.str "map")) (.cons (.blt .isi (.cons (.var 1) (.cons (.cst (.cls "BadMap")) .nil))) .nil))) (.cons (.tup (.cons (.cst (.str "plan")) (.cons (.blt .isi (.cons (.var 1) (.cons (.cst (.cls "BadPlan")) .nil))) .nil))) (.cons (.tup (.cons (.cst (.str "program")) (.cons (.blt .isi (.cons (.var 1) (.cons (.cst (.cls "BadProgram")) .nil))) .nil))) .nil)))))) (.seq (.asg (.var 4) (.bin .add (.var 4) (.lst (.cons (.tup (.cons (.cst (.str "claim")) (.cons (.blt .isi (.cons (.var 1) (.cons (.cst (.cls "BadClaim")) .nil))) .nil))) (.cons (.tup (.cons (.cst (.str "taken")) (.cons (.blt .isi (.cons (.var 1) (.cons (.cst (.cls "BadTaken")) .nil))) .nil))) (.cons (.tup (.cons (.cst (.str "number")) (.cons (.blt .isi (.cons (.var 1) (.cons (.cst (.cls "BadNumber")) .nil))) .nil))) (.cons (.tup (.cons (.cst (.str "value")) (.cons (.blt .isi (.cons (.var 1) (.cons (.cst (.cls "BadValue")) .nil))) .nil))) .nil))))))) (.seq (.asg (.var 4) (.bin .add (.var 4) (.lst (.cons (.tup (.cons (.cst (.str "paper")) (.cons (.blt .isi (.cons (.var 1) (.cons (.cst (.cls "BadPaper")) .nil))) .nil))) (.cons (.tup (.cons (.cst (.str "misfit")) (.cons (.blt .isi (.cons (.var 1) (.cons (.cst (.cls "Misfit")) .nil))) .nil))) (.cons (.tup (.cons (.cst (.str "nothing")) (.cons (.blt .isi (.cons (.var 1) (.cons (.cst (.cls "Nothing")) .nil))) .nil))) .nil)))))) (.seq (.ret (.tup (.cons (.ix (.bin .add (.lc [5, 6] (.tup (.cons (.var 5) (.cons (.var 6) .nil))) (.itv (.var 4)) (.var 6) (.var 5)) (.lst (.cons (.cst (.str "part")) .nil))) (.cst (.int 0))) (.cons (.att (.var 1) "part") .nil)))) .skip)))) .skip) (.seq (.ife (.blt .isi (.cons (.var 1) (.cons (.cst (.cls "BadRow")) .nil))) (.seq (.ret (.tup (.cons (.cst (.str "row")) (.cons (.att (.var 1) "at") .nil)))) .skip) .skip) (.seq (.ret (.ife (.blt .isi (.cons (.var 1) (.cons (.cst (.cls "NoName")) .nil))) (.tup (.cons (.cst (.str "noname")) (.cons (.att (.var 1) "name") .nil))) (.ife (.blt .isi (.cons (.var 1) (.cons (.cst (.cls "Nought")) .nil))) (.tup (.cons (.cst (.str "nought")) (.cons (.att (.var 1) "name") .nil))) (.tup (.cons (.cst (.str "other")) .nil))))) .skip)))))), 9⟩
def fd__law_cross : FD := ⟨2, 2, (.seq (.ret (.tup (.cons (.bin .sub (.bin .mul (.ix (.var 0) (.cst (.int 1))) (.ix (.var 1) (.cst (.int 2)))) (.bin .mul (.ix (.var 0) (.cst (.int 2))) (.ix (.var 1) (.cst (.int 1))))) (.cons (.bin .sub (.bin .mul (.ix (.var 0) (.cst (.int 2))) (.ix (.var 1) (.cst (.int 0)))) (.bin .mul (.ix (.var 0) (.cst (.int 0))) (.ix (.var 1) (.cst (.int 2))))) (.cons (.bin .sub (.bin .mul (.ix (.var 0) (.cst (.int 0))) (.ix (.var 1) (.cst (.int 1)))) (.bin .mul (.ix (.var 0) (.cst (.int 1))) (.ix (.var 1) (.cst (.int 0))))) .nil))))) .skip), 0⟩
def fd__law_det : FD := ⟨3, 4, (.seq (.asg (.var 3) (.bin .add (.bin .add (.bin .mul (.bin .mul (.ix (.var 0) (.cst (.int 0))) (.ix (.var 1) (.cst (.int 1)))) (.ix (.var 2) (.cst (.int 2)))) (.bin .mul (.bin .mul (.ix (.var 0) (.cst (.int 1))) (.ix (.var 1) (.cst (.int 2)))) (.ix (.var 2) (.cst (.int 0))))) (.bin .mul (.bin .mul (.ix (.var 0) (.cst (.int 2))) (.ix (.var 1) (.cst (.int 0)))) (.ix (.var 2) (.cst (.int 1)))))) (.seq (.ret (.bin .sub (.bin .sub (.bin .sub (.var 3) (.bin .mul (.bin .mul (.ix (.var 0) (.cst (.int 2))) (.ix (.var 1) (.cst (.int 1)))) (.ix (.var 2) (.cst (.int 0))))) (.bin .mul (.bin .mul (.ix (.var 0) (.cst (.int 1))) (.ix (.var 1) (.cst (.int 0)))) (.ix (.var 2) (.cst (.int 2))))) (.bin .mul (.bin .mul (.ix (.var 0) (.cst (.int 0))) (.ix (.var 1) (.cst (.int 2)))) (.ix (.var 2) (.cst (.int 1)))))) .skip)), 0⟩
def fd__law_dot : FD := ⟨2, 2, (.seq (.ret (.bin .add (.bin .add (.bin .mul (.ix (.var 0) (.cst (.int 0))) (.ix (.var 1) (.cst (.int 0)))) (.bin .mul (.ix (.var 0) (.cst (.int 1))) (.ix (.var 1) (.cst (.int 1))))) (.bin .mul (.ix (.var 0) (.cst (.int 2))) (.ix (.var 1) (.cst (.int 2)))))) .skip), 0⟩
def fd__law_draw : FD := ⟨2, 2, (.seq (.ife (.cmp .lt (.var 1) (.cst (.int 1))) (.seq (.ret (.cst (.int 0))) .skip) .skip) (.seq (.sub (.var 0) (.cst (.int 0)) (.bin .mod (.blt .int (.cons (.bin .add (.bin .mul (.ix (.var 0) (.cst (.int 0))) (.cst (.int 6364136223846793005))) (.cst (.int 1442695040888963407))) .nil)) (.bin .pow (.cst (.int 2)) (.cst (.int 64))))) (.seq (.ret (.bin .mod (.blt .int (.cons (.bin .fdiv (.ix (.var 0) (.cst (.int 0))) (.cst (.int 65537))) .nil)) (.var 1))) .skip))), 0⟩
def fd__law_gcd : FD := ⟨2, 2, (.seq (.asg (.tup (.cons (.var 0) (.cons (.var 1) .nil))) (.tup (.cons (.blt .abs (.cons (.var 0) .nil)) (.cons (.blt .abs (.cons (.var 1) .nil)) .nil)))) (.seq (.whl (.cmp .gt (.var 1) (.cst (.int 0))) (.seq (.asg (.tup (.cons (.var 0) (.cons (.var 1) .nil))) (.tup (.cons (.var 1) (.cons (.bin .mod (.blt .int (.cons (.var 0) .nil)) (.var 1)) .nil)))) .skip)) (.seq (.ret (.var 0)) .skip))), 0⟩
def fd__law_led : FD := ⟨2, 3, (.seq (.ret (.call "_law_normal" (.cons (.lc [2] (.var 2) (.itv (.var 0)) (.cst (.bl true)) (.call "_law_dot" (.cons (.var 2) (.cons (.var 1) .nil)))) .nil))) .skip), 0⟩
def fd__law_normal : FD := ⟨1, 4, (.seq (.asg (.var 1) (.call "_law_gcd" (.cons (.call "_law_gcd" (.cons (.ix (.var 0) (.cst (.int 0))) (.cons (.ix (.var 0) (.cst (.int 1))) .nil))) (.cons (.ix (.var 0) (.cst (.int 2))) .nil)))) (.seq (.asg (.var 2) (.ix (.lc [3] (.var 3) (.itv (.var 0)) (.cmp .ne (.var 3) (.cst (.int 0))) (.var 3)) (.cst (.int 0)))) (.seq (.ret (.blt .tup (.cons (.lc [3] (.var 3) (.itv (.var 0)) (.cst (.bl true)) (.ife (.cmp .gt (.var 2) (.cst (.int 0))) (.bin .fdiv (.blt .int (.cons (.var 3) .nil)) (.var 1)) (.bin .sub (.cst (.int 0)) (.bin .fdiv (.blt .int (.cons (.var 3) .nil)) (.var 1))))) .nil))) .skip))), 0⟩
def fd__law_number : FD := ⟨1, 1, (.seq (.ret (.ife (.cmp .gt (.call "_law_draw" (.cons (.var 0) (.cons (.cst (.int 6)) .nil))) (.cst (.int 0))) (.bin .sub (.call "_law_draw" (.cons (.var 0) (.cons (.cst (.int 9)) .nil))) (.cst (.int 4))) (.call "_law_pick" (.cons (.var 0) (.cons (.lst (.cons (.cst (.int 10)) (.cons (.neg (.cst (.int 12))) (.cons (.cst (.int 97)) (.cons (.cst (.int 1000)) (.cons (.neg (.bin .pow (.cst (.int 10)) (.cst (.int 6)))) (.cons (.bin .pow (.cst (.int 10)) (.cst (.int 20))) .nil))))))) .nil))))) .skip), 0⟩
def fd__law_pick : FD := ⟨2, 2, (.seq (.ret (.ix (.var 1) (.call "_law_draw" (.cons (.var 0) (.cons (.blt .len (.cons (.var 1) .nil)) .nil))))) .skip), 0⟩
def fd__law_rows : FD := ⟨1, 5, (.seq (.for_ (.var 1) (.rng (.cst (.int 20))) (.seq (.asg (.var 2) (.lc [3] (.var 3) (.rng (.cst (.int 3))) (.cst (.bl true)) (.lc [4] (.var 4) (.rng (.cst (.int 3))) (.cst (.bl true)) (.call "_law_number" (.cons (.var 0) .nil))))) (.seq (.ife (.cmp .ne (.call "_law_det" (.cons (.ix (.var 2) (.cst (.int 0))) (.cons (.ix (.var 2) (.cst (.int 1))) (.cons (.ix (.var 2) (.cst (.int 2))) .nil)))) (.cst (.int 0))) (.seq (.ret (.var 2)) .skip) .skip) .skip))) (.seq (.ret (.lst (.cons (.lst (.cons (.cst (.int 1)) (.cons (.cst (.int 2)) (.cons (.cst (.int 0)) .nil)))) (.cons (.lst (.cons (.cst (.int 0)) (.cons (.cst (.int 1)) (.cons (.cst (.int 5)) .nil)))) (.cons (.lst (.cons (.cst (.int 0)) (.cons (.cst (.int 0)) (.cons (.cst (.int 3)) .nil)))) .nil))))) .skip)), 0⟩
def fd__law_s_eye : FD := ⟨1, 5, (.seq (.for_ (.var 1) (.rng (.cst (.int 40))) (.seq (.asg (.var 2) (.lc [3] (.var 3) (.rng (.cst (.int 4))) (.cst (.bl true)) (.blt .tup (.cons (.lc [4] (.var 4) (.rng (.cst (.int 3))) (.cst (.bl true)) (.bin .sub (.call "_law_draw" (.cons (.var 0) (.cons (.cst (.int 13)) .nil))) (.cst (.int 6)))) .nil)))) (.seq (.ife (.and (.cmp .ne (.ix (.ix (.var 2) (.cst (.int 0))) (.cst (.int 2))) (.cst (.int 0))) (.cmp .ne (.call "_law_det" (.cons (.ix (.var 2) (.cst (.int 2))) (.cons (.ix (.var 2) (.cst (.int 3))) (.cons (.call "_law_s_less" (.cons (.ix (.var 2) (.cst (.int 0))) (.cons (.ix (.var 2) (.cst (.int 1))) .nil))) .nil)))) (.cst (.int 0)))) (.seq (.ret (.var 2)) .skip) .skip) .skip))) (.seq (.ret (.lst (.cons (.tup (.cons (.cst (.int 0)) (.cons (.cst (.int 0)) (.cons (.cst (.int 3)) .nil)))) (.cons (.tup (.cons (.cst (.int 0)) (.cons (.cst (.int 5)) (.cons (.cst (.int 0)) .nil)))) (.cons (.tup (.cons (.cst (.int 1)) (.cons (.cst (.int 0)) (.cons (.cst (.int 0)) .nil)))) (.cons (.tup (.cons (.cst (.int 0)) (.cons (.cst (.int 0)) (.cons (.cst (.int 1)) .nil)))) .nil)))))) .skip)), 0⟩
def fd__law_s_is_seen : FD := ⟨3, 13, (.seq (.asg (.tup (.cons (.var 3) (.cons (.var 4) (.cons (.var 5) (.cons (.var 6) .nil))))) (.var 0)) (.seq (.asg (.var 7) (.tup (.cons (.bin .sub (.ix (.var 1) (.cst (.int 0))) (.bin .mul (.ix (.var 1) (.cst (.int 2))) (.ix (.var 3) (.cst (.int 0))))) (.cons (.bin .sub (.ix (.var 1) (.cst (.int 1))) (.bin .mul (.ix (.var 1) (.cst (.int 2))) (.ix (.var 3) (.cst (.int 1))))) (.cons (.bin .sub (.cst (.int 0)) (.bin .mul (.ix (.var 1) (.cst (.int 2))) (.ix (.var 3) (.cst (.int 2))))) .nil))))) (.seq (.asg (.var 8) (.blt .tup (.cons (.lc [9, 10, 11, 12] (.tup (.cons (.var 9) (.cons (.var 10) (.cons (.var 11) (.cons (.var 12) .nil))))) (.zip (.cons (.var 5) (.cons (.var 6) (.cons (.var 4) (.cons (.var 3) .nil))))) (.cst (.bl true)) (.bin .add (.bin .add (.bin .mul (.ix (.var 2) (.cst (.int 0))) (.var 9)) (.bin .mul (.ix (.var 2) (.cst (.int 1))) (.var 10))) (.bin .mul (.ix (.var 2) (.cst (.int 2))) (.bin .sub (.var 11) (.var 12))))) .nil))) (.seq (.ret (.and (.cmp .ne (.var 8) (.tup (.cons (.cst (.int 0)) (.cons (.cst (.int 0)) (.cons (.cst (.int 0)) .nil))))) (.cmp .eq (.call "_law_cross" (.cons (.var 7) (.cons (.var 8) .nil))) (.tup (.cons (.cst (.int 0)) (.cons (.cst (.int 0)) (.cons (.cst (.int 0)) .nil))))))) .skip)))), 0⟩
def fd__law_s_less : FD := ⟨2, 4, (.seq (.ret (.blt .tup (.cons (.lc [2, 3] (.tup (.cons (.var 2) (.cons (.var 3) .nil))) (.zip (.cons (.var 0) (.cons (.var 1) .nil))) (.cst (.bl true)) (.bin .sub (.var 2) (.var 3))) .nil))) .skip), 0⟩
def fd__law_triple : FD := ⟨1, 2, (.seq (.asg (.var 1) (.tup (.cons (.call "_law_number" (.cons (.var 0) .nil)) (.cons (.call "_law_number" (.cons (.var 0) .nil)) (.cons (.call "_law_pick" (.cons (.var 0) (.cons (.lst (.cons (.cst (.int 1)) (.cons (.cst (.int 1)) (.cons (.cst (.int 1)) (.cons (.cst (.int 2)) (.cons (.cst (.int 0)) (.cons (.neg (.cst (.int 3))) .nil))))))) .nil))) .nil))))) (.seq (.ret (.ife (.cmp .ne (.var 1) (.tup (.cons (.cst (.int 0)) (.cons (.cst (.int 0)) (.cons (.cst (.int 0)) .nil))))) (.var 1) (.tup (.cons (.cst (.int 1)) (.cons (.cst (.int 2)) (.cons (.cst (.int 0)) .nil)))))) .skip)), 0⟩
def fd_are_integers : FD := ⟨2, 3, (.seq (.ret (.and (.call "is_listed" (.cons (.var 0) .nil)) (.and (.cmp .eq (.blt .len (.cons (.var 0) .nil)) (.var 1)) (.blt .all (.cons (.lc [2] (.var 2) (.itv (.var 0)) (.cst (.bl true)) (.call "is_integer" (.cons (.var 2) .nil))) .nil))))) .skip), 0⟩
def fd_are_rows : FD := ⟨1, 2, (.seq (.ife (.or (.not (.call "is_listed" (.cons (.var 0) .nil))) (.or (.cmp .ne (.blt .len (.cons (.var 0) .nil)) (.cst (.int 3))) (.not (.blt .all (.cons (.lc [1] (.var 1) (.itv (.var 0)) (.cst (.bl true)) (.call "are_integers" (.cons (.var 1) (.cons (.cst (.int 3)) .nil)))) .nil))))) (.seq (.ret (.cst (.bl false))) .skip) .skip) (.seq (.ret (.cmp .ne (.call "determinant" (.cons (.ix (.var 0) (.cst (.int 0))) (.cons (.ix (.var 0) (.cst (.int 1))) (.cons (.ix (.var 0) (.cst (.int 2))) .nil)))) (.cst (.int 0)))) .skip)), 0⟩
def fd_cofactors : FD := ⟨1, 1, (.seq (.ret (.lst (.cons (.call "cross" (.cons (.ix (.var 0) (.cst (.int 1))) (.cons (.ix (.var 0) (.cst (.int 2))) .nil))) (.cons (.call "cross" (.cons (.ix (.var 0) (.cst (.int 2))) (.cons (.ix (.var 0) (.cst (.int 0))) .nil))) (.cons (.call "cross" (.cons (.ix (.var 0) (.cst (.int 0))) (.cons (.ix (.var 0) (.cst (.int 1))) .nil))) .nil))))) .skip), 0⟩
def fd_cross : FD := ⟨2, 8, (.seq (.asg (.tup (.cons (.var 2) (.cons (.var 3) (.cons (.var 4) .nil)))) (.var 0)) (.seq (.asg (.tup (.cons (.var 5) (.cons (.var 6) (.cons (.var 7) .nil)))) (.var 1)) (.seq (.ret (.tup (.cons (.bin .sub (.bin .mul (.var 3) (.var 7)) (.bin .mul (.var 4) (.var 6))) (.cons (.bin .sub (.bin .mul (.var 4) (.var 5)) (.bin .mul (.var 2) (.var 7))) (.cons (.bin .sub (.bin .mul (.var 2) (.var 6)) (.bin .mul (.var 3) (.var 5))) .nil))))) .skip))), 0⟩
def fd_determinant : FD := ⟨3, 3, (.seq (.ret (.call "dot" (.cons (.call "cross" (.cons (.var 0) (.cons (.var 1) .nil))) (.cons (.var 2) .nil)))) .skip), 0⟩
def fd_dot : FD := ⟨2, 4, (.seq (.ret (.blt .sum (.cons (.lc [2, 3] (.tup (.cons (.var 2) (.cons (.var 3) .nil))) (.zip (.cons (.var 0) (.cons (.var 1) .nil))) (.cst (.bl true)) (.bin .mul (.var 2) (.var 3))) .nil))) .skip), 0⟩
def fd_eye_map : FD := ⟨1, 5, (.seq (.exp (.call "need_eye" (.cons (.var 0) .nil))) (.seq (.asg (.var 1) (.nls .nil)) (.seq (.for_ (.var 2) (.itv (.call "ways_of" (.cons (.var 0) .nil))) (.seq (.app 1 (.tup (.cons (.ix (.var 2) (.cst (.int 0))) (.cons (.ix (.var 2) (.cst (.int 1))) (.cons (.neg (.blt .sum (.cons (.lc [3, 4] (.tup (.cons (.var 3) (.cons (.var 4) .nil))) (.zip (.cons (.var 2) (.cons (.att (.var 0) "place") .nil))) (.cst (.bl true)) (.bin .mul (.var 3) (.var 4))) .nil))) .nil))))) .skip)) (.seq (.ret (.make "Map" (.cons (.frz 1) .nil))) .skip)))), 1⟩
def fd_is_integer : FD := ⟨1, 1, (.seq (.ret (.and (.blt .isi (.cons (.var 0) (.cons (.cst (.ty "int")) .nil))) (.not (.blt .isi (.cons (.var 0) (.cons (.cst (.ty "bool")) .nil)))))) .skip), 0⟩
def fd_is_listed : FD := ⟨1, 1, (.seq (.ret (.blt .isi (.cons (.var 0) (.cons (.tup (.cons (.cst (.ty "list")) (.cons (.cst (.ty "tuple")) .nil))) .nil)))) .skip), 0⟩
def fd_is_nought : FD := ⟨1, 2, (.seq (.ret (.not (.blt .any (.cons (.lc [1] (.var 1) (.itv (.var 0)) (.cst (.bl true)) (.cmp .ne (.var 1) (.cst (.int 0)))) .nil)))) .skip), 0⟩
def fd_is_triple : FD := ⟨1, 2, (.seq (.ret (.and (.call "are_integers" (.cons (.var 0) (.cons (.cst (.int 3)) .nil))) (.blt .any (.cons (.lc [1] (.var 1) (.itv (.var 0)) (.cst (.bl true)) (.cmp .ne (.var 1) (.cst (.int 0)))) .nil)))) .skip), 0⟩
def fd_joined : FD := ⟨2, 5, (.seq (.asg (.tup (.cons (.var 2) (.cons (.var 3) .nil))) (.tup (.cons (.call "need_triple" (.cons (.var 0) (.cons (.cst (.str "one")) .nil))) (.cons (.call "need_triple" (.cons (.var 1) (.cons (.cst (.str "other")) .nil))) .nil)))) (.seq (.asg (.var 4) (.call "cross" (.cons (.var 2) (.cons (.var 3) .nil)))) (.seq (.ife (.call "is_nought" (.cons (.var 4) .nil)) (.seq (.rse (.mkx "BadTriple" ["part"] (.cons (.cst (.str "both")) .nil))) .skip) .skip) (.seq (.ret (.call "normal" (.cons (.var 4) .nil))) .skip)))), 0⟩
def fd_less : FD := ⟨2, 4, (.seq (.ret (.blt .tup (.cons (.lc [2, 3] (.tup (.cons (.var 2) (.cons (.var 3) .nil))) (.zip (.cons (.var 0) (.cons (.var 1) .nil))) (.cst (.bl true)) (.bin .sub (.var 2) (.var 3))) .nil))) .skip), 0⟩
def fd_lies_on : FD := ⟨2, 2, (.seq (.ret (.cmp .eq (.call "dot" (.cons (.call "need_triple" (.cons (.var 0) (.cons (.cst (.str "point")) .nil))) (.cons (.call "need_triple" (.cons (.var 1) (.cons (.cst (.str "line")) .nil))) .nil))) (.cst (.int 0)))) .skip), 0⟩
def fd_lowest : FD := ⟨1, 6, (.seq (.asg (.tup (.cons (.var 1) (.cons (.var 2) .nil))) (.tup (.cons (.cst (.int 0)) (.cons (.lc2 [3, 5] (.var 5) (.itv (.var 0)) (.cst (.bl true)) [3] (.var 3) (.itv (.var 5)) (.cst (.bl true)) (.var 3)) .nil)))) (.seq (.for_ (.var 3) (.itv (.var 2)) (.seq (.asg (.var 1) (.blt .gcd (.cons (.var 1) (.cons (.var 3) .nil)))) .skip)) (.seq (.asg (.var 4) (.ife (.cmp .gt (.ix (.lc [3] (.var 3) (.itv (.var 2)) (.cmp .ne (.var 3) (.cst (.int 0))) (.var 3)) (.cst (.int 0))) (.cst (.int 0))) (.cst (.int 1)) (.neg (.cst (.int 1))))) (.seq (.ret (.blt .tup (.cons (.lc [5] (.var 5) (.itv (.var 0)) (.cst (.bl true)) (.blt .tup (.cons (.lc [3] (.var 3) (.itv (.var 5)) (.cst (.bl true)) (.bin .fdiv (.bin .mul (.var 4) (.var 3)) (.var 1))) .nil))) .nil))) .skip)))), 0⟩
def fd_need_eye : FD := ⟨1, 1, (.seq (.ife (.not (.blt .isi (.cons (.var 0) (.cons (.cst (.cls "Eye")) .nil)))) (.seq (.rse (.mkx "BadValue" ["part"] (.cons (.cst (.str "eye")) .nil))) .skip) .skip) .skip), 0⟩
def fd_need_map : FD := ⟨2, 2, (.seq (.ife (.not (.blt .isi (.cons (.var 0) (.cons (.cst (.cls "Map")) .nil)))) (.seq (.rse (.mkx "BadMap" ["part"] (.cons (.var 1) .nil))) .skip) .skip) .skip), 0⟩
def fd_need_triple : FD := ⟨2, 2, (.seq (.ife (.not (.call "is_triple" (.cons (.var 0) .nil))) (.seq (.rse (.mkx "BadTriple" ["part"] (.cons (.var 1) .nil))) .skip) .skip) (.seq (.ret (.call "normal" (.cons (.var 0) .nil))) .skip)), 0⟩
def fd_normal : FD := ⟨1, 4, (.seq (.asg (.var 1) (.blt .gcd (.cons (.blt .gcd (.cons (.ix (.var 0) (.cst (.int 0))) (.cons (.ix (.var 0) (.cst (.int 1))) .nil))) (.cons (.ix (.var 0) (.cst (.int 2))) .nil)))) (.seq (.asg (.var 2) (.ife (.cmp .gt (.ix (.lc [3] (.var 3) (.itv (.var 0)) (.cmp .ne (.var 3) (.cst (.int 0))) (.var 3)) (.cst (.int 0))) (.cst (.int 0))) (.cst (.int 1)) (.neg (.cst (.int 1))))) (.seq (.ret (.blt .tup (.cons (.lc [3] (.var 3) (.itv (.var 0)) (.cst (.bl true)) (.bin .fdiv (.bin .mul (.var 2) (.var 3)) (.var 1))) .nil))) .skip))), 0⟩
def fd_placed : FD := ⟨1, 1, (.seq (.ret (.call "need_triple" (.cons (.var 0) (.cons (.cst (.str "triple")) .nil)))) .skip), 0⟩
def fd_transposed : FD := ⟨1, 3, (.seq (.ret (.lc [1] (.var 1) (.rng (.cst (.int 3))) (.cst (.bl true)) (.blt .tup (.cons (.lc [2] (.var 2) (.itv (.var 0)) (.cst (.bl true)) (.ix (.var 2) (.var 1))) .nil)))) .skip), 0⟩
def fd_ways_of : FD := ⟨1, 2, (.seq (.asg (.var 1) (.call "less" (.cons (.att (.var 0) "place") (.cons (.att (.var 0) "origin") .nil)))) (.seq (.ret (.tup (.cons (.call "cross" (.cons (.var 1) (.cons (.att (.var 0) "up") .nil))) (.cons (.call "cross" (.cons (.att (.var 0) "along") (.cons (.var 1) .nil))) (.cons (.call "cross" (.cons (.att (.var 0) "along") (.cons (.att (.var 0) "up") .nil))) .nil))))) .skip)), 0⟩
end Pk
end PL

set_option linter.all false
/-! PL.Sim: the small Python run by simp. -/
namespace PL
@[simp] theorem SO.of_ok {β : Type} (ρ : Env) (d : β) (m : Mem) (f : β → Mem → SO) : SO.of ρ (.ok d m) f = f d m := rfl
@[simp] theorem SO.of_err {β : Type} (ρ : Env) (d : D) (m : Mem) (f : β → Mem → SO) : SO.of ρ (.err d m) f = .er d ρ m := rfl
@[simp] theorem SO.of_stk {β : Type} (ρ : Env) (f : β → Mem → SO) : SO.of ρ .stk f = .stk := rfl
/-! what hangs on a value, by names: a name that lacks its last arguments is left alone -/
def kBin2 (o : BOp) (x : D) : D → Mem → Out D := fun y m => .of m (binS o (rd m x) (rd m y))
@[simp] theorem kBin2_ap (o : BOp) (x y : D) (m : Mem) : kBin2 o x y m = .of m (binS o (rd m x) (rd m y)) := rfl
def kBin1 (Γ : Gam) (o : BOp) (b : E) (ρ : Env) : D → Mem → Out D := fun x m => (ev Γ b ρ m).bind (kBin2 o x)
@[simp] theorem kBin1_ap (Γ : Gam) (o : BOp) (b : E) (ρ : Env) (x : D) (m : Mem) : kBin1 Γ o b ρ x m = (ev Γ b ρ m).bind (kBin2 o x) := rfl
def kNeg : D → Mem → Out D := fun x m => match x with | .int i => .ok (.int (-i)) m | _ => .stk
@[simp] theorem kNeg_ap (i : Int) (m : Mem) : kNeg (.int i) m = .ok (.int (-i)) m := rfl
def kCmp1 (Γ : Gam) (o : COp) (b : E) (ρ : Env) : D → Mem → Out D := fun x m => (ev Γ b ρ m).bind (cmpX Γ o x)
@[simp] theorem kCmp1_ap (Γ : Gam) (o : COp) (b : E) (ρ : Env) (x : D) (m : Mem) : kCmp1 Γ o b ρ x m = (ev Γ b ρ m).bind (cmpX Γ o x) := rfl
def kNot : D → Mem → Out D := fun x m => .of m ((truth m x).map fun c => .bl (!c))
@[simp] theorem kNot_ap (x : D) (m : Mem) : kNot x m = .of m ((truth m x).map fun c => .bl (!c)) := rfl
/-- two ways by a test -/
def brE (t : Option Bool) (Γ : Gam) (a b : E) (ρ : Env) (m : Mem) : Out D := match t with
    | some true => ev Γ a ρ m
    | some false => ev Γ b ρ m
    | none => .stk
@[simp] theorem brE_some (c : Bool) (Γ : Gam) (a b : E) (ρ : Env) (m : Mem) : brE (some c) Γ a b ρ m = if c = true then ev Γ a ρ m else ev Γ b ρ m := by cases c <;> rfl
def brA (t : Option Bool) (Γ : Gam) (b : E) (ρ : Env) (x : D) (m : Mem) : Out D := match t with
    | some true => ev Γ b ρ m
    | some false => .ok x m
    | none => .stk
@[simp] theorem brA_some (c : Bool) (Γ : Gam) (b : E) (ρ : Env) (x : D) (m : Mem) : brA (some c) Γ b ρ x m = if c = true then ev Γ b ρ m else .ok x m := by cases c <;> rfl
def brR (t : Option Bool) (Γ : Gam) (b : E) (ρ : Env) (x : D) (m : Mem) : Out D := match t with
    | some true => .ok x m
    | some false => ev Γ b ρ m
    | none => .stk
@[simp] theorem brR_some (c : Bool) (Γ : Gam) (b : E) (ρ : Env) (x : D) (m : Mem) : brR (some c) Γ b ρ x m = if c = true then .ok x m else ev Γ b ρ m := by cases c <;> rfl
def brS (t : Option Bool) (Γ : Gam) (a b : S) (ρ : Env) (m : Mem) : SO := match t with
    | some true => ex Γ a ρ m
    | some false => ex Γ b ρ m
    | none => .stk
@[simp] theorem brS_some (c : Bool) (Γ : Gam) (a b : S) (ρ : Env) (m : Mem) : brS (some c) Γ a b ρ m = if c = true then ex Γ a ρ m else ex Γ b ρ m := by cases c <;> rfl
def kAnd (Γ : Gam) (b : E) (ρ : Env) : D → Mem → Out D := fun x m => brA (truth m x) Γ b ρ x m
@[simp] theorem kAnd_ap (Γ : Gam) (b : E) (ρ : Env) (x : D) (m : Mem) : kAnd Γ b ρ x m = brA (truth m x) Γ b ρ x m := rfl
def kOr (Γ : Gam) (b : E) (ρ : Env) : D → Mem → Out D := fun x m => brR (truth m x) Γ b ρ x m
@[simp] theorem kOr_ap (Γ : Gam) (b : E) (ρ : Env) (x : D) (m : Mem) : kOr Γ b ρ x m = brR (truth m x) Γ b ρ x m := rfl
def kIfe (Γ : Gam) (a b : E) (ρ : Env) : D → Mem → Out D := fun x m => brE (truth m x) Γ a b ρ m
@[simp] theorem kIfe_ap (Γ : Gam) (a b : E) (ρ : Env) (x : D) (m : Mem) : kIfe Γ a b ρ x m = brE (truth m x) Γ a b ρ m := rfl
def kCons2 (x : D) : D → Mem → Out D := fun y m => match y with
    | .tup ys => .ok (.tup (x :: ys)) m
    | _ => .stk
@[simp] theorem kCons2_ap (x : D) (ys : List D) (m : Mem) : kCons2 x (.tup ys) m = .ok (.tup (x :: ys)) m := rfl
def kCons1 (Γ : Gam) (r : E) (ρ : Env) : D → Mem → Out D := fun x m => (ev Γ r ρ m).bind (kCons2 x)
@[simp] theorem kCons1_ap (Γ : Gam) (r : E) (ρ : Env) (x : D) (m : Mem) : kCons1 Γ r ρ x m = (ev Γ r ρ m).bind (kCons2 x) := rfl
def kTup : D → Mem → Out D := fun y m => match y with
    | .tup ys => if ys.length ≤ 16777216 then .ok (.tup ys) m else .stk
    | _ => .stk
@[simp] theorem kTup_ap (ys : List D) (m : Mem) : kTup (.tup ys) m = if ys.length ≤ 16777216 then .ok (.tup ys) m else .stk := rfl
def kLst : D → Mem → Out D := fun y m => match y with
    | .tup ys => if ys.length ≤ 16777216 then .ok (.lst ys) m else .stk
    | _ => .stk
@[simp] theorem kLst_ap (ys : List D) (m : Mem) : kLst (.tup ys) m = if ys.length ≤ 16777216 then .ok (.lst ys) m else .stk := rfl
def kIx2 (x : D) : D → Mem → Out D := fun y m => .of m (ixS m x y)
@[simp] theorem kIx2_ap (x y : D) (m : Mem) : kIx2 x y m = .of m (ixS m x y) := rfl
def kIx1 (Γ : Gam) (i : E) (ρ : Env) : D → Mem → Out D := fun x m => (ev Γ i ρ m).bind (kIx2 x)
@[simp] theorem kIx1_ap (Γ : Gam) (i : E) (ρ : Env) (x : D) (m : Mem) : kIx1 Γ i ρ x m = (ev Γ i ρ m).bind (kIx2 x) := rfl
def kAtt (Γ : Gam) (f : String) : D → Mem → Out D := fun x m => .of m (attS Γ m f x)
@[simp] theorem kAtt_ap (Γ : Gam) (f : String) (x : D) (m : Mem) : kAtt Γ f x m = .of m (attS Γ m f x) := rfl
def kCall (Γ : Gam) (f : String) : D → Mem → Out D := fun y m => match y with
    | .tup ys => Γ.fn f ys m
    | _ => .stk
@[simp] theorem kCall_ap (Γ : Gam) (f : String) (ys : List D) (m : Mem) : kCall Γ f (.tup ys) m = Γ.fn f ys m := rfl
def kMeth2 (Γ : Gam) (f : String) (x : D) : D → Mem → Out D := fun y m => match y with
      | .tup ys => Γ.fn f (x :: ys) m
      | _ => .stk
@[simp] theorem kMeth2_ap (Γ : Gam) (f : String) (x : D) (ys : List D) (m : Mem) : kMeth2 Γ f x (.tup ys) m = Γ.fn f (x :: ys) m := rfl
def methB (Γ : Gam) (g : Option String) (n : String) (as : E) (ρ : Env) (x : D) (m : Mem) : Out D := match g with
    | some f => if hasA m n x then .stk else (ev Γ as ρ m).bind (kMeth2 Γ f x)
    | none => .stk
@[simp] theorem methB_some (Γ : Gam) (f n : String) (as : E) (ρ : Env) (x : D) (m : Mem) : methB Γ (some f) n as ρ x m = if hasA m n x then .stk else (ev Γ as ρ m).bind (kMeth2 Γ f x) := rfl
def kMeth (Γ : Gam) (n : String) (as : E) (ρ : Env) : D → Mem → Out D := fun x m => methB Γ ((clsOf m x).bind fun C => Γ.meth C n) n as ρ x m
@[simp] theorem kMeth_ap (Γ : Gam) (n : String) (as : E) (ρ : Env) (x : D) (m : Mem) : kMeth Γ n as ρ x m = methB Γ ((clsOf m x).bind fun C => Γ.meth C n) n as ρ x m := rfl
/-- what an instance is when it is made -/
def mkI (m : Mem) (C : String) (o : Out D) : Out D := o.bind fun d m2 => match d, m2[m.length]? with
      | .non, some (.ins C' ns ds) => if C' = C ∧ cutOk m m2 ∧ D.rbL m.length ds = true then .ok (.obj C ns ds) (m2.take m.length) else .stk
      | _, _ => .stk
/-- an instance is made -/
def mkM (Γ : Gam) (C : String) (ys : List D) (m : Mem) : Out D := match Γ.meth C "__init__" with
     | some f => mkI m C (Γ.fn f (.ref m.length :: ys) (m ++ [.ins C [] []]))
     | none => .stk
def kMake (Γ : Gam) (C : String) : D → Mem → Out D := fun y m => match y with
    | .tup ys => mkM Γ C ys m
    | _ => .stk
@[simp] theorem kMake_ap (Γ : Gam) (C : String) (ys : List D) (m : Mem) : kMake Γ C (.tup ys) m = mkM Γ C ys m := rfl
theorem mkM_of {Γ : Gam} {C f : String} (h : Γ.meth C "__init__" = some f) (ys : List D) (m : Mem) : mkM Γ C ys m = mkI m C (Γ.fn f (.ref m.length :: ys) (m ++ [.ins C [] []])) := by unfold mkM; rw [h]
def kBlt (Γ : Gam) (b : Blt) : D → Mem → Out D := fun y m => match y with
    | .tup ys => .of m (bltS Γ m b ys)
    | _ => .stk
@[simp] theorem kBlt_ap (Γ : Gam) (b : Blt) (ys : List D) (m : Mem) : kBlt Γ b (.tup ys) m = .of m (bltS Γ m b ys) := rfl
def kItv : D → Mem → Out D := fun x m => match x with
    | .tup ds => .ok (.lst ds) m
    | .lst ds => .ok (.lst ds) m
    | _ => .stk
@[simp] theorem kItv_tup (ds : List D) (m : Mem) : kItv (.tup ds) m = .ok (.lst ds) m := rfl
@[simp] theorem kItv_lst (ds : List D) (m : Mem) : kItv (.lst ds) m = .ok (.lst ds) m := rfl
def kRng : D → Mem → Out D := fun x m => match x with
    | .int n => if n < 2 ^ 62 ∧ -(2 ^ 62) ≤ n then .ok (.lst (rngD 0 n.toNat)) m else .stk
    | _ => .stk
@[simp] theorem kRng_ap (n : Int) (m : Mem) : kRng (.int n) m = if n < 2 ^ 62 ∧ -(2 ^ 62) ≤ n then .ok (.lst (rngD 0 n.toNat)) m else .stk := rfl
def kRng22 (x : D) : D → Mem → Out D := fun y m => match x, y with
    | .int lo, .int hi => if hi < 2 ^ 62 ∧ -(2 ^ 62) ≤ lo ∧ lo < 2 ^ 62 ∧ -(2 ^ 62) ≤ hi then .ok (.lst (rngD lo (hi - lo).toNat)) m else .stk
    | _, _ => .stk
@[simp] theorem kRng22_ap (lo hi : Int) (m : Mem) : kRng22 (.int lo) (.int hi) m = if hi < 2 ^ 62 ∧ -(2 ^ 62) ≤ lo ∧ lo < 2 ^ 62 ∧ -(2 ^ 62) ≤ hi then .ok (.lst (rngD lo (hi - lo).toNat)) m else .stk := rfl
def kRng21 (Γ : Gam) (b : E) (ρ : Env) : D → Mem → Out D := fun x m => (ev Γ b ρ m).bind (kRng22 x)
@[simp] theorem kRng21_ap (Γ : Gam) (b : E) (ρ : Env) (x : D) (m : Mem) : kRng21 Γ b ρ x m = (ev Γ b ρ m).bind (kRng22 x) := rfl
def kZip : D → Mem → Out D := fun y m => match y with
    | .tup ys => if zipOk ys = true then .of m ((tupsOf ys).map fun l => .lst (zipD l)) else .stk
    | _ => .stk
@[simp] theorem kZip_ap (ys : List D) (m : Mem) : kZip (.tup ys) m = if zipOk ys = true then .of m ((tupsOf ys).map fun l => .lst (zipD l)) else .stk := rfl
def kEnm : D → Mem → Out D := fun x m => match x with
    | .lst l => .ok (.lst (enmD 0 l)) m
    | _ => .stk
@[simp] theorem kEnm_ap (l : List D) (m : Mem) : kEnm (.lst l) m = .ok (.lst (enmD 0 l)) m := rfl
def kOne : D → Mem → Out (List D) := fun y m => .ok [y] m
@[simp] theorem kOne_ap (y : D) (m : Mem) : kOne y m = .ok [y] m := rfl
def lcB (t : Option Bool) (Γ : Gam) (el : E) (ρ : Env) (m : Mem) : Out (List D) := match t with
    | some true => (ev Γ el ρ m).bind kOne
    | some false => .ok [] m
    | none => .stk
@[simp] theorem lcB_some (c : Bool) (Γ : Gam) (el : E) (ρ : Env) (m : Mem) : lcB (some c) Γ el ρ m = if c = true then (ev Γ el ρ m).bind kOne else .ok [] m := by cases c <;> rfl
def kLc (Γ : Gam) (el : E) (ρ : Env) : D → Mem → Out (List D) := fun c m => lcB (truth m c) Γ el ρ m
@[simp] theorem kLc_ap (Γ : Gam) (el : E) (ρ : Env) (c : D) (m : Mem) : kLc Γ el ρ c m = lcB (truth m c) Γ el ρ m := rfl
/-- a comprehension's turn -/
def lcT (Γ : Gam) (ws : List Nat) (t cs el : E) (ρ : Env) (d : D) (m : Mem) : Out (List D) := match asgT t d (wipeE ρ ws) with
        | some ρ1 => (ev Γ cs ρ1 m).bind (kLc Γ el ρ1)
        | none => .stk
def kLcE : List D → Mem → Out D := fun r m => if r.length ≤ 16777216 then .ok (.lst r) m else .stk
@[simp] theorem kLcE_ap (r : List D) (m : Mem) : kLcE r m = if r.length ≤ 16777216 then .ok (.lst r) m else .stk := rfl
def kLcI (f : D → Mem → Out (List D)) : D → Mem → Out D := fun x m => match x with
    | .lst ds => (lcLoop f ds m).bind kLcE
    | _ => .stk
@[simp] theorem kLcI_ap (f : D → Mem → Out (List D)) (ds : List D) (m : Mem) : kLcI f (.lst ds) m = (lcLoop f ds m).bind kLcE := rfl
def kLcJ (f : D → Mem → Out (List D)) : D → Mem → Out (List D) := fun x m => match x with
    | .lst ds => lcLoop f ds m
    | _ => .stk
@[simp] theorem kLcJ_ap (f : D → Mem → Out (List D)) (ds : List D) (m : Mem) : kLcJ f (.lst ds) m = lcLoop f ds m := rfl
def lcB2 (t : Option Bool) (Γ : Gam) (ws1 : List Nat) (t1 it1 cs1 el : E) (ρ : Env) (m : Mem) : Out (List D) := match t with
    | some true => (ev Γ it1 ρ m).bind (kLcJ (lcT Γ ws1 t1 cs1 el ρ))
    | some false => .ok [] m
    | none => .stk
@[simp] theorem lcB2_some (c : Bool) (Γ : Gam) (ws1 : List Nat) (t1 it1 cs1 el : E) (ρ : Env) (m : Mem) : lcB2 (some c) Γ ws1 t1 it1 cs1 el ρ m = if c = true then (ev Γ it1 ρ m).bind (kLcJ (lcT Γ ws1 t1 cs1 el ρ)) else .ok [] m := by cases c <;> rfl
def kLc2 (Γ : Gam) (ws1 : List Nat) (t1 it1 cs1 el : E) (ρ : Env) : D → Mem → Out (List D) := fun c m => lcB2 (truth m c) Γ ws1 t1 it1 cs1 el ρ m
@[simp] theorem kLc2_ap (Γ : Gam) (ws1 : List Nat) (t1 it1 cs1 el : E) (ρ : Env) (c : D) (m : Mem) : kLc2 Γ ws1 t1 it1 cs1 el ρ c m = lcB2 (truth m c) Γ ws1 t1 it1 cs1 el ρ m := rfl
def lcT2 (Γ : Gam) (ws : List Nat) (t cs : E) (ws1 : List Nat) (t1 it1 cs1 el : E) (ρ : Env) (d : D) (m : Mem) : Out (List D) := match asgT t d (wipeE ρ ws) with
        | some ρ1 => (ev Γ cs ρ1 m).bind (kLc2 Γ ws1 t1 it1 cs1 el ρ1)
        | none => .stk
def kNls : D → Mem → Out D := fun y m => match y with
    | .tup ys => if ys.length ≤ 16777216 then .ok (.ref m.length) (m ++ [.lst ys]) else .stk
    | _ => .stk
@[simp] theorem kNls_ap (ys : List D) (m : Mem) : kNls (.tup ys) m = if ys.length ≤ 16777216 then .ok (.ref m.length) (m ++ [.lst ys]) else .stk := rfl
def kCk2 (Γ : Gam) (f : String) (n : Nat) (ks : List String) (y : D) : D → Mem → Out D := fun z m => match y, z with
    | .tup ys, .tup zs => match (Γ.plan f n ks).bind fun p => appPlan p (ys ++ zs) with
      | some args => if ys.length = n ∧ zs.length = ks.length then Γ.fn f args m else .stk
      | none => .stk
    | _, _ => .stk
@[simp] theorem kCk2_ap (Γ : Gam) (f : String) (n : Nat) (ks : List String) (ys zs : List D) (m : Mem) : kCk2 Γ f n ks (.tup ys) (.tup zs) m = match (Γ.plan f n ks).bind fun p => appPlan p (ys ++ zs) with
      | some args => if ys.length = n ∧ zs.length = ks.length then Γ.fn f args m else .stk
      | none => .stk := rfl
def kCk1 (Γ : Gam) (f : String) (n : Nat) (ks : List String) (bs : E) (ρ : Env) : D → Mem → Out D := fun y m => (ev Γ bs ρ m).bind (kCk2 Γ f n ks y)
@[simp] theorem kCk1_ap (Γ : Gam) (f : String) (n : Nat) (ks : List String) (bs : E) (ρ : Env) (y : D) (m : Mem) : kCk1 Γ f n ks bs ρ y m = (ev Γ bs ρ m).bind (kCk2 Γ f n ks y) := rfl
/-- an instance is made, by keywords -/
def mkK (Γ : Gam) (C : String) (n : Nat) (ks : List String) (ys zs : List D) (m : Mem) : Out D := match Γ.meth C "__init__" with
     | some f => match (Γ.plan f (n + 1) ks).bind fun p => appPlan p (.ref m.length :: (ys ++ zs)) with
      | some args => if ys.length = n ∧ zs.length = ks.length then mkI m C (Γ.fn f args (m ++ [.ins C [] []])) else .stk
      | none => .stk
     | none => .stk
theorem mkK_of {Γ : Gam} {C f : String} {n : Nat} {ks : List String} {p : List (Nat ⊕ D)} {ys zs args : List D} (h1 : Γ.meth C "__init__" = some f) (h2 : Γ.plan f (n + 1) ks = some p) (h3 : ∀ x, appPlan p (x :: (ys ++ zs)) = some (x :: args)) (h4 : ys.length = n) (h5 : zs.length = ks.length) (m : Mem) : mkK Γ C n ks ys zs m = mkM Γ C args m := by
  unfold mkK mkM
  rw [h1]
  simp [h2, h3, h4, h5]
def kMk2 (Γ : Gam) (C : String) (n : Nat) (ks : List String) (y : D) : D → Mem → Out D := fun z m => match y, z with
    | .tup ys, .tup zs => mkK Γ C n ks ys zs m
    | _, _ => .stk
@[simp] theorem kMk2_ap (Γ : Gam) (C : String) (n : Nat) (ks : List String) (ys zs : List D) (m : Mem) : kMk2 Γ C n ks (.tup ys) (.tup zs) m = mkK Γ C n ks ys zs m := rfl
def kMk1 (Γ : Gam) (C : String) (n : Nat) (ks : List String) (bs : E) (ρ : Env) : D → Mem → Out D := fun y m => (ev Γ bs ρ m).bind (kMk2 Γ C n ks y)
@[simp] theorem kMk1_ap (Γ : Gam) (C : String) (n : Nat) (ks : List String) (bs : E) (ρ : Env) (y : D) (m : Mem) : kMk1 Γ C n ks bs ρ y m = (ev Γ bs ρ m).bind (kMk2 Γ C n ks y) := rfl
section
variable {Γ : Gam} {ρ : Env} {m : Mem}
@[simp] theorem ev_var (i : Nat) : ev Γ (.var i) ρ m = (match ρ[i]? with | some (some d) => .ok d m | _ => .stk) := rfl
@[simp] theorem ev_cst (d : D) : ev Γ (.cst d) ρ m = .ok d m := rfl
@[simp] theorem ev_bin (o : BOp) (a b : E) : ev Γ (.bin o a b) ρ m = (ev Γ a ρ m).bind (kBin1 Γ o b ρ) := rfl
@[simp] theorem ev_neg (a : E) : ev Γ (.neg a) ρ m = (ev Γ a ρ m).bind kNeg := rfl
@[simp] theorem ev_cmp (o : COp) (a b : E) : ev Γ (.cmp o a b) ρ m = (ev Γ a ρ m).bind (kCmp1 Γ o b ρ) := rfl
@[simp] theorem ev_not (a : E) : ev Γ (.not a) ρ m = (ev Γ a ρ m).bind kNot := rfl
@[simp] theorem ev_and (a b : E) : ev Γ (.and a b) ρ m = (ev Γ a ρ m).bind (kAnd Γ b ρ) := rfl
@[simp] theorem ev_or (a b : E) : ev Γ (.or a b) ρ m = (ev Γ a ρ m).bind (kOr Γ b ρ) := rfl
@[simp] theorem ev_ife (c a b : E) : ev Γ (.ife c a b) ρ m = (ev Γ c ρ m).bind (kIfe Γ a b ρ) := rfl
@[simp] theorem ev_nil : ev Γ .nil ρ m = .ok (.tup []) m := rfl
@[simp] theorem ev_cons (a r : E) : ev Γ (.cons a r) ρ m = (ev Γ a ρ m).bind (kCons1 Γ r ρ) := rfl
@[simp] theorem ev_tup (es : E) : ev Γ (.tup es) ρ m = (ev Γ es ρ m).bind kTup := rfl
@[simp] theorem ev_lst (es : E) : ev Γ (.lst es) ρ m = (ev Γ es ρ m).bind kLst := rfl
@[simp] theorem ev_ix (a i : E) : ev Γ (.ix a i) ρ m = (ev Γ a ρ m).bind (kIx1 Γ i ρ) := rfl
@[simp] theorem ev_att (a : E) (f : String) : ev Γ (.att a f) ρ m = (ev Γ a ρ m).bind (kAtt Γ f) := rfl
@[simp] theorem ev_call (f : String) (as : E) : ev Γ (.call f as) ρ m = (ev Γ as ρ m).bind (kCall Γ f) := rfl
@[simp] theorem ev_meth (n : String) (a as : E) : ev Γ (.meth n a as) ρ m = (ev Γ a ρ m).bind (kMeth Γ n as ρ) := rfl
@[simp] theorem ev_make (C : String) (as : E) : ev Γ (.make C as) ρ m = (ev Γ as ρ m).bind (kMake Γ C) := rfl
@[simp] theorem ev_blt (b : Blt) (as : E) : ev Γ (.blt b as) ρ m = (ev Γ as ρ m).bind (kBlt Γ b) := rfl
@[simp] theorem ev_itv (a : E) : ev Γ (.itv a) ρ m = (ev Γ a ρ m).bind kItv := rfl
@[simp] theorem ev_rng (a : E) : ev Γ (.rng a) ρ m = (ev Γ a ρ m).bind kRng := rfl
@[simp] theorem ev_rng2 (a b : E) : ev Γ (.rng2 a b) ρ m = (ev Γ a ρ m).bind (kRng21 Γ b ρ) := rfl
@[simp] theorem ev_zip (es : E) : ev Γ (.zip es) ρ m = (ev Γ es ρ m).bind kZip := rfl
@[simp] theorem ev_enm (a : E) : ev Γ (.enm a) ρ m = (ev Γ a ρ m).bind kEnm := rfl
@[simp] theorem ev_lc (ws : List Nat) (t it cs el : E) : ev Γ (.lc ws t it cs el) ρ m = (ev Γ it ρ m).bind (kLcI (lcT Γ ws t cs el ρ)) := rfl
@[simp] theorem ev_lc2 (ws : List Nat) (t it cs : E) (ws1 : List Nat) (t1 it1 cs1 el : E) : ev Γ (.lc2 ws t it cs ws1 t1 it1 cs1 el) ρ m = (ev Γ it ρ m).bind (kLcI (lcT2 Γ ws t cs ws1 t1 it1 cs1 el ρ)) := rfl
@[simp] theorem ev_frz (i : Nat) : ev Γ (.frz i) ρ m = (match ρ[i]? with
    | some (some (.ref a)) => match m[a]? with
      | some (.lst ds) => .ok (.lst ds) (m.set a .dead)
      | _ => .stk
    | _ => .stk) := rfl
@[simp] theorem ev_nls (es : E) : ev Γ (.nls es) ρ m = (ev Γ es ρ m).bind kNls := rfl
@[simp] theorem ev_callk (f : String) (n : Nat) (ks : List String) (as bs : E) : ev Γ (.callk f n ks as bs) ρ m = (ev Γ as ρ m).bind (kCk1 Γ f n ks bs ρ) := rfl
@[simp] theorem ev_makek (C : String) (n : Nat) (ks : List String) (as bs : E) : ev Γ (.makek C n ks as bs) ρ m = (ev Γ as ρ m).bind (kMk1 Γ C n ks bs ρ) := rfl
/-! statements -/
def kAsg (t : E) (ρ : Env) : D → Mem → SO := fun x m => match asgT t x ρ with
    | some ρ => .nx ρ m
    | none => .stk
@[simp] theorem kAsg_ap (t : E) (ρ : Env) (x : D) (m : Mem) : kAsg t ρ x m = match asgT t x ρ with
    | some ρ => .nx ρ m
    | none => .stk := rfl
def kExp (ρ : Env) : D → Mem → SO := fun _ m => .nx ρ m
@[simp] theorem kExp_ap (ρ : Env) (x : D) (m : Mem) : kExp ρ x m = .nx ρ m := rfl
def kRet : D → Mem → SO := fun x m => .rt x m
@[simp] theorem kRet_ap (x : D) (m : Mem) : kRet x m = .rt x m := rfl
def kIf (Γ : Gam) (a b : S) (ρ : Env) : D → Mem → SO := fun x m => brS (truth m x) Γ a b ρ m
@[simp] theorem kIf_ap (Γ : Gam) (a b : S) (ρ : Env) (x : D) (m : Mem) : kIf Γ a b ρ x m = brS (truth m x) Γ a b ρ m := rfl
def kFor (f : D → Env → Mem → SO) (ρ : Env) : D → Mem → SO := fun x m => match x with
    | .lst ds => forLoop f ds ρ m
    | _ => .stk
@[simp] theorem kFor_ap (f : D → Env → Mem → SO) (ρ : Env) (ds : List D) (m : Mem) : kFor f ρ (.lst ds) m = forLoop f ds ρ m := rfl
def kAttS2 (Γ : Gam) (f : String) (v : D) (ρ : Env) : D → Mem → SO := fun x m => match x with
    | .ref i => match setAt Γ m i f v with
      | some m => .nx ρ m
      | none => .stk
    | _ => .stk
@[simp] theorem kAttS2_ap (Γ : Gam) (f : String) (v : D) (ρ : Env) (i : Nat) (m : Mem) : kAttS2 Γ f v ρ (.ref i) m = match setAt Γ m i f v with
      | some m => .nx ρ m
      | none => .stk := rfl
def kAttS1 (Γ : Gam) (o : E) (f : String) (ρ : Env) : D → Mem → SO := fun v m => SO.of ρ (ev Γ o ρ m) (kAttS2 Γ f v ρ)
@[simp] theorem kAttS1_ap (Γ : Gam) (o : E) (f : String) (ρ : Env) (v : D) (m : Mem) : kAttS1 Γ o f ρ v m = SO.of ρ (ev Γ o ρ m) (kAttS2 Γ f v ρ) := rfl
def kAts (Γ : Gam) (i : Nat) (fs : List String) (ρ : Env) : D → Mem → SO := fun v m => match v, ρ[i]? with
    | .tup ds, some (some (.ref a)) => match setAll Γ a m fs ds with
      | some m => .nx ρ m
      | none => .stk
    | _, _ => .stk
@[simp] theorem kAts_ap (Γ : Gam) (i : Nat) (fs : List String) (ρ : Env) (ds : List D) (m : Mem) : kAts Γ i fs ρ (.tup ds) m = match ρ[i]? with
    | some (some (.ref a)) => match setAll Γ a m fs ds with
      | some m => .nx ρ m
      | none => .stk
    | _ => .stk := by
  unfold kAts
  cases ρ[i]? with
  | none => rfl
  | some o => cases o with
    | none => rfl
    | some d => cases d <;> rfl
def kSub3 (v x : D) (ρ : Env) : D → Mem → SO := fun k m => match x, k with
    | .ref a, .int k => match m[a]? with
      | some (.lst ds) => match pyIx ds.length k with
        | some j => .nx ρ (m.set a (.lst (ds.set j v)))
        | none => .stk
      | _ => .stk
    | _, _ => .stk
@[simp] theorem kSub3_ap (v : D) (a : Nat) (ρ : Env) (k : Int) (m : Mem) : kSub3 v (.ref a) ρ (.int k) m = match m[a]? with
      | some (.lst ds) => match pyIx ds.length k with
        | some j => .nx ρ (m.set a (.lst (ds.set j v)))
        | none => .stk
      | _ => .stk := rfl
def kSub2 (Γ : Gam) (i : E) (v : D) (ρ : Env) : D → Mem → SO := fun x m => SO.of ρ (ev Γ i ρ m) (kSub3 v x ρ)
@[simp] theorem kSub2_ap (Γ : Gam) (i : E) (v : D) (ρ : Env) (x : D) (m : Mem) : kSub2 Γ i v ρ x m = SO.of ρ (ev Γ i ρ m) (kSub3 v x ρ) := rfl
def kSub1 (Γ : Gam) (o i : E) (ρ : Env) : D → Mem → SO := fun v m => SO.of ρ (ev Γ o ρ m) (kSub2 Γ i v ρ)
@[simp] theorem kSub1_ap (Γ : Gam) (o i : E) (ρ : Env) (v : D) (m : Mem) : kSub1 Γ o i ρ v m = SO.of ρ (ev Γ o ρ m) (kSub2 Γ i v ρ) := rfl
def kApp (a : Nat) (ρ : Env) : D → Mem → SO := fun v m => match m[a]? with
      | some (.lst ds) => if ds.length < 16777216 then .nx ρ (m.set a (.lst (ds ++ [v]))) else .stk
      | _ => .stk
@[simp] theorem kApp_ap (a : Nat) (ρ : Env) (v : D) (m : Mem) : kApp a ρ v m = match m[a]? with
      | some (.lst ds) => if ds.length < 16777216 then .nx ρ (m.set a (.lst (ds ++ [v]))) else .stk
      | _ => .stk := rfl
def kAug (o : BOp) (x : Int) (i : Nat) (ρ : Env) : D → Mem → SO := fun v m => match augS o x v with
      | some d => .nx (ρ.set i (some d)) m
      | none => .stk
@[simp] theorem kAug_ap (o : BOp) (x : Int) (i : Nat) (ρ : Env) (v : D) (m : Mem) : kAug o x i ρ v m = match augS o x v with
      | some d => .nx (ρ.set i (some d)) m
      | none => .stk := rfl
@[simp] theorem ex_skip : ex Γ .skip ρ m = .nx ρ m := rfl
/-- one after the other -/
def SO.then (o : SO) (f : Env → Mem → SO) : SO := match o with
    | .nx ρ m => f ρ m
    | o => o
@[simp] theorem SO.then_nx (f : Env → Mem → SO) : (SO.nx ρ m).then f = f ρ m := rfl
@[simp] theorem SO.then_rt (d : D) (f : Env → Mem → SO) : (SO.rt d m).then f = .rt d m := rfl
@[simp] theorem SO.then_br (f : Env → Mem → SO) : (SO.br ρ m).then f = .br ρ m := rfl
@[simp] theorem SO.then_ct (f : Env → Mem → SO) : (SO.ct ρ m).then f = .ct ρ m := rfl
@[simp] theorem SO.then_er (d : D) (f : Env → Mem → SO) : (SO.er d ρ m).then f = .er d ρ m := rfl
@[simp] theorem SO.then_stk (f : Env → Mem → SO) : SO.stk.then f = .stk := rfl
@[simp] theorem ex_seq (a b : S) : ex Γ (.seq a b) ρ m = (ex Γ a ρ m).then (ex Γ b) := by
  show (match ex Γ a ρ m with | .nx ρ m => ex Γ b ρ m | o => o) = _
  cases ex Γ a ρ m <;> rfl
@[simp] theorem ex_asg (t e : E) : ex Γ (.asg t e) ρ m = SO.of ρ (ev Γ e ρ m) (kAsg t ρ) := rfl
@[simp] theorem ex_exp (e : E) : ex Γ (.exp e) ρ m = SO.of ρ (ev Γ e ρ m) (kExp ρ) := rfl
@[simp] theorem ex_ret (e : E) : ex Γ (.ret e) ρ m = SO.of ρ (ev Γ e ρ m) kRet := rfl
@[simp] theorem ex_retN : ex Γ .retN ρ m = .rt .non m := rfl
@[simp] theorem ex_ife (c : E) (a b : S) : ex Γ (.ife c a b) ρ m = SO.of ρ (ev Γ c ρ m) (kIf Γ a b ρ) := rfl
/-- a loop's turn -/
def forT (Γ : Gam) (t : E) (b : S) (d : D) (ρ : Env) (m : Mem) : SO := match asgT t d ρ with
        | some ρ => ex Γ b ρ m
        | none => .stk
@[simp] theorem ex_for (t it : E) (b : S) : ex Γ (.for_ t it b) ρ m = SO.of ρ (ev Γ it ρ m) (kFor (forT Γ t b) ρ) := rfl
@[simp] theorem ex_whl (c : E) (b : S) : ex Γ (.whl c b) ρ m = whlLoop (ev Γ c) (ex Γ b) Γ.fuel ρ m := rfl
@[simp] theorem ex_brk : ex Γ .brk ρ m = .br ρ m := rfl
@[simp] theorem ex_cnt : ex Γ .cnt ρ m = .ct ρ m := rfl
@[simp] theorem ex_nev : ex Γ .nev ρ m = .stk := rfl
@[simp] theorem ex_att (o : E) (f : String) (e : E) : ex Γ (.att o f e) ρ m = SO.of ρ (ev Γ e ρ m) (kAttS1 Γ o f ρ) := rfl
@[simp] theorem ex_ats (i : Nat) (fs : List String) (e : E) : ex Γ (.ats i fs e) ρ m = SO.of ρ (ev Γ e ρ m) (kAts Γ i fs ρ) := rfl
@[simp] theorem ex_sub (o i e : E) : ex Γ (.sub o i e) ρ m = SO.of ρ (ev Γ e ρ m) (kSub1 Γ o i ρ) := rfl
@[simp] theorem ex_app (i : Nat) (e : E) : ex Γ (.app i e) ρ m = (match ρ[i]? with
    | some (some (.ref a)) => match m[a]? with
     | some (.lst _) => SO.of ρ (ev Γ e ρ m) (kApp a ρ)
     | _ => .stk
    | _ => .stk) := rfl
@[simp] theorem ex_aug (i : Nat) (o : BOp) (e : E) : ex Γ (.aug i o e) ρ m = (match ρ[i]? with
    | some (some (.int x)) => SO.of ρ (ev Γ e ρ m) (kAug o x i ρ)
    | _ => .stk) := rfl
end
@[simp] theorem lcLoop_nil (f : D → Mem → Out (List D)) (m : Mem) : lcLoop f [] m = .ok [] m := rfl
def kApl (x : List D) : List D → Mem → Out (List D) := fun r m => .ok (x ++ r) m
@[simp] theorem kApl_ap (x r : List D) (m : Mem) : kApl x r m = .ok (x ++ r) m := rfl
/-- a turn and those behind it -/
def lcCons (o : Out (List D)) (k : Mem → Out (List D)) : Out (List D) := match o with
    | .ok x m1 => (k m1).bind (kApl x)
    | _ => .stk
@[simp] theorem lcCons_ok (x : List D) (m : Mem) (k : Mem → Out (List D)) : lcCons (.ok x m) k = (k m).bind (kApl x) := rfl
theorem lcLoop_cs (f : D → Mem → Out (List D)) (d : D) (ds : List D) (m : Mem) : lcLoop f (d :: ds) m = lcCons (f d m) (lcLoop f ds) := by
  show (match f d m with | .ok x m1 => (lcLoop f ds m1).bind fun r m2 => .ok (x ++ r) m2 | _ => .stk) = _
  cases f d m <;> rfl
/-- a turn and those behind it -/
def forCons (o : SO) (k : Env → Mem → SO) : SO := match o with
    | .nx ρ m => k ρ m
    | .ct ρ m => k ρ m
    | .br ρ m => .nx ρ m
    | o => o
@[simp] theorem forCons_nx (ρ : Env) (m : Mem) (k : Env → Mem → SO) : forCons (.nx ρ m) k = k ρ m := rfl
@[simp] theorem forCons_ct (ρ : Env) (m : Mem) (k : Env → Mem → SO) : forCons (.ct ρ m) k = k ρ m := rfl
@[simp] theorem forCons_br (ρ : Env) (m : Mem) (k : Env → Mem → SO) : forCons (.br ρ m) k = .nx ρ m := rfl
@[simp] theorem forCons_rt (d : D) (m : Mem) (k : Env → Mem → SO) : forCons (.rt d m) k = .rt d m := rfl
@[simp] theorem forCons_er (d : D) (ρ : Env) (m : Mem) (k : Env → Mem → SO) : forCons (.er d ρ m) k = .er d ρ m := rfl
@[simp] theorem forLoop_nil (f : D → Env → Mem → SO) (ρ : Env) (m : Mem) : forLoop f [] ρ m = .nx ρ m := rfl
theorem forLoop_cons (f : D → Env → Mem → SO) (d : D) (ds : List D) (ρ : Env) (m : Mem) : forLoop f (d :: ds) ρ m = forCons (f d ρ m) (forLoop f ds) := by
  show (match f d ρ m with | .nx ρ m => forLoop f ds ρ m | .ct ρ m => forLoop f ds ρ m | .br ρ m => .nx ρ m | o => o) = _
  cases f d ρ m <;> rfl
/-- a while loop's turn -/
def whlB (t : Option Bool) (f : Env → Mem → SO) (k : Env → Mem → SO) (ρ : Env) (m : Mem) : SO := match t with
    | some true => forCons (f ρ m) k
    | some false => .nx ρ m
    | none => .stk
@[simp] theorem whlB_some (c : Bool) (f : Env → Mem → SO) (k : Env → Mem → SO) (ρ : Env) (m : Mem) : whlB (some c) f k ρ m = if c = true then forCons (f ρ m) k else .nx ρ m := by cases c <;> rfl
def kWhl (f : Env → Mem → SO) (k : Env → Mem → SO) (ρ : Env) : D → Mem → SO := fun x m => whlB (truth m x) f k ρ m
@[simp] theorem kWhl_ap (f : Env → Mem → SO) (k : Env → Mem → SO) (ρ : Env) (x : D) (m : Mem) : kWhl f k ρ x m = whlB (truth m x) f k ρ m := rfl
theorem whlLoop_succ (c : Env → Mem → Out D) (f : Env → Mem → SO) (n : Nat) (ρ : Env) (m : Mem) : whlLoop c f (n + 1) ρ m = SO.of ρ (c ρ m) (kWhl f (whlLoop c f n) ρ) := by
  show SO.of ρ (c ρ m) (fun x m => match truth m x with
    | some true => match f ρ m with
      | .nx ρ m => whlLoop c f n ρ m
      | .ct ρ m => whlLoop c f n ρ m
      | .br ρ m => .nx ρ m
      | o => o
    | some false => .nx ρ m
    | none => .stk) = _
  have : ∀ (x : D) (m : Mem), (match truth m x with
    | some true => match f ρ m with
      | .nx ρ m => whlLoop c f n ρ m
      | .ct ρ m => whlLoop c f n ρ m
      | .br ρ m => .nx ρ m
      | o => o
    | some false => .nx ρ m
    | none => .stk) = kWhl f (whlLoop c f n) ρ x m := by
    intro x m
    unfold kWhl
    cases truth m x with
    | none => rfl
    | some b => cases b with
      | false => rfl
      | true => show _ = forCons (f ρ m) (whlLoop c f n); cases hq : f ρ m <;> simp [forCons, hq]
  cases c ρ m with
  | ok d m1 => exact this d m1
  | err x m => rfl
  | stk => rfl
/-- a comprehension that changes nothing -/
theorem lcLoop_pure {f : D → Mem → Out (List D)} {m : Mem} {g : D → List D} : ∀ {ds : List D}, (∀ d ∈ ds, f d m = .ok (g d) m) → lcLoop f ds m = .ok (ds.flatMap g) m
  | [], _ => rfl
  | d :: ds, h => by
    rw [lcLoop_cs, h d List.mem_cons_self, lcCons_ok, lcLoop_pure (fun x hx => h x (List.mem_cons_of_mem _ hx))]
    rfl
theorem lcLoop_map {f : D → Mem → Out (List D)} {m : Mem} {g : D → D} : ∀ {ds : List D}, (∀ d ∈ ds, f d m = .ok [g d] m) → lcLoop f ds m = .ok (ds.map g) m
  | [], _ => rfl
  | d :: ds, h => by
    rw [lcLoop_cs, h d List.mem_cons_self, lcCons_ok, lcLoop_map (fun x hx => h x (List.mem_cons_of_mem _ hx))]
    rfl
/-- a loop by its invariant -/
theorem forLoop_inv {f : D → Env → Mem → SO} (I : List D → Env → Mem → Prop) (R : SO → Prop) (done : ∀ ρ m, I [] ρ m → R (.nx ρ m))
    (step : ∀ d ds ρ m, I (d :: ds) ρ m → (∃ ρ' m', f d ρ m = .nx ρ' m' ∧ I ds ρ' m') ∨ (∃ ρ' m', f d ρ m = .ct ρ' m' ∧ I ds ρ' m') ∨ (∃ ρ' m', f d ρ m = .br ρ' m' ∧ R (.nx ρ' m')) ∨ (∃ x m', f d ρ m = .rt x m' ∧ R (.rt x m')) ∨ (∃ x ρ' m', f d ρ m = .er x ρ' m' ∧ R (.er x ρ' m'))) :
    ∀ ds ρ m, I ds ρ m → R (forLoop f ds ρ m)
  | [], ρ, m, h => done ρ m h
  | d :: ds, ρ, m, h => by
    rw [forLoop_cons]
    rcases step d ds ρ m h with ⟨ρ', m', e, h'⟩ | ⟨ρ', m', e, h'⟩ | ⟨ρ', m', e, h'⟩ | ⟨x, m', e, h'⟩ | ⟨x, ρ', m', e, h'⟩
    · rw [e]; exact forLoop_inv I R done step ds ρ' m' h'
    · rw [e]; exact forLoop_inv I R done step ds ρ' m' h'
    · rw [e]; exact h'
    · rw [e]; exact h'
    · rw [e]; exact h'
@[simp] theorem asgT_var (i : Nat) (d : D) (ρ : Env) : asgT (.var i) d ρ = if i < ρ.length then some (ρ.set i (some d)) else none := by simp [asgT]
@[simp] theorem asgT_tup (ts : E) (ds : List D) (ρ : Env) : asgT (.tup ts) (.tup ds) ρ = asgT.asgL ts ds ρ := by simp [asgT]
@[simp] theorem asgT_lst (ts : E) (ds : List D) (ρ : Env) : asgT (.tup ts) (.lst ds) ρ = asgT.asgL ts ds ρ := by simp [asgT]
@[simp] theorem asgL_nil (ρ : Env) : asgT.asgL .nil [] ρ = some ρ := by simp [asgT.asgL]
@[simp] theorem asgL_cons (t ts : E) (d : D) (ds : List D) (ρ : Env) : asgT.asgL (.cons t ts) (d :: ds) ρ = (asgT t d ρ).bind (asgT.asgL ts ds) := by simp [asgT.asgL]
/-- a def's answer -/
def outF (mode : Nat) (m : Mem) (o : SO) : Out D := match o with
    | .nx _ m' => cutS mode m .non m'
    | .rt d m' => cutS mode m d m'
    | .er x _ m' => .err x m'
    | _ => .stk
@[simp] theorem outF_nx (mode : Nat) (m : Mem) (ρ : Env) (m' : Mem) : outF mode m (.nx ρ m') = cutS mode m .non m' := rfl
@[simp] theorem outF_rt (mode : Nat) (m : Mem) (d : D) (m' : Mem) : outF mode m (.rt d m') = cutS mode m d m' := rfl
@[simp] theorem outF_er (mode : Nat) (m : Mem) (d : D) (ρ : Env) (m' : Mem) : outF mode m (.er d ρ m') = .err d m' := rfl
theorem runF_eq (Γ : Gam) (np nl : Nat) (b : S) (mode : Nat) (args : List D) (m : Mem) (h : args.length = np) : runF Γ ⟨np, nl, b, mode⟩ args m = outF mode m (ex Γ b (args.map some ++ List.replicate (nl - args.length) none) m) := by
  unfold runF
  rw [if_pos h]
  rfl
@[simp] theorem cutS_0 (m m2 : Mem) (d : D) : cutS 0 m d m2 = .ok d m2 := rfl
@[simp] theorem wipeE_nil (ρ : Env) : wipeE ρ [] = ρ := rfl
@[simp] theorem wipeE_cons (ρ : Env) (v : Nat) (vs : List Nat) : wipeE ρ (v :: vs) = (wipeE ρ vs).set v none := rfl
@[simp] theorem rdS_int (m : Mem) (i : Int) : rd m (.int i) = .int i := rfl
@[simp] theorem rdS_tup (m : Mem) (i : List D) : rd m (.tup i) = .tup i := rfl
@[simp] theorem rdS_lst (m : Mem) (i : List D) : rd m (.lst i) = .lst i := rfl
@[simp] theorem rdS_bl (m : Mem) (b : Bool) : rd m (.bl b) = .bl b := rfl
@[simp] theorem rdS_non (m : Mem) : rd m .non = .non := rfl
@[simp] theorem rdS_str (m : Mem) (x : String) : rd m (.str x) = .str x := rfl
section
variable {Γ : Gam} {m : Mem}
@[simp] theorem blt_len_tup (ds : List D) : bltS Γ m .len [.tup ds] = some (.int ds.length) := rfl
@[simp] theorem blt_len_lst (ds : List D) : bltS Γ m .len [.lst ds] = some (.int ds.length) := rfl
@[simp] theorem blt_len_str (x : String) : bltS Γ m .len [.str x] = if x.length ≤ 16777216 then some (.int x.length) else none := rfl
@[simp] theorem blt_abs (i : Int) : bltS Γ m .abs [.int i] = some (.int (if i < 0 then -i else i)) := rfl
@[simp] theorem blt_isi_tup (x : D) (cs : List D) : bltS Γ m .isi [x, .tup cs] = (isAny Γ m x cs).map .bl := rfl
@[simp] theorem blt_isi_ty (x : D) (n : String) : bltS Γ m .isi [x, .ty n] = (isOne Γ m x (.ty n)).map .bl := rfl
@[simp] theorem blt_isi_cls (x : D) (n : String) : bltS Γ m .isi [x, .cls n] = (isOne Γ m x (.cls n)).map .bl := rfl
@[simp] theorem blt_tup_tup (ds : List D) : bltS Γ m .tup [.tup ds] = some (.tup ds) := rfl
@[simp] theorem blt_tup_lst (ds : List D) : bltS Γ m .tup [.lst ds] = some (.tup ds) := rfl
@[simp] theorem blt_lst_tup (ds : List D) : bltS Γ m .lst [.tup ds] = some (.lst ds) := rfl
@[simp] theorem blt_lst_lst (ds : List D) : bltS Γ m .lst [.lst ds] = some (.lst ds) := rfl
@[simp] theorem blt_all (ds : List D) : bltS Γ m .all [.lst ds] = (boolsD ds).map fun bs => .bl (bs.all id) := rfl
@[simp] theorem blt_any (ds : List D) : bltS Γ m .any [.lst ds] = (boolsD ds).map fun bs => .bl (bs.any id) := rfl
@[simp] theorem blt_sum (ds : List D) : bltS Γ m .sum [.lst ds] = (intsD ds).map fun ns => .int ns.sum := rfl
@[simp] theorem blt_int (i : Int) : bltS Γ m .int [.int i] = some (.int i) := rfl
@[simp] theorem blt_gcd (i j : Int) : bltS Γ m .gcd [.int i, .int j] = some (.int ((Nat.gcd i.natAbs j.natAbs : Nat) : Int)) := rfl
@[simp] theorem ix_tup (ds : List D) (k : Int) : ixS m (.tup ds) (.int k) = (pyIx ds.length k).bind fun j => ds[j]? := rfl
@[simp] theorem ix_lst (ds : List D) (k : Int) : ixS m (.lst ds) (.int k) = (pyIx ds.length k).bind fun j => ds[j]? := rfl
@[simp] theorem bin_add (i j : Int) : binS .add (.int i) (.int j) = some (.int (i + j)) := rfl
@[simp] theorem bin_sub (i j : Int) : binS .sub (.int i) (.int j) = some (.int (i - j)) := rfl
@[simp] theorem bin_mul (i j : Int) : binS .mul (.int i) (.int j) = if mulOk i j = true then some (.int (i * j)) else none := rfl
@[simp] theorem bin_fdiv (i j : Int) : binS .fdiv (.int i) (.int j) = if divOk j = true then some (.int (i / j)) else if divOk2 i j = true then some (.int (i.fdiv j)) else none := rfl
@[simp] theorem bin_mod (i j : Int) : binS .mod (.int i) (.int j) = if 0 < j then some (.int (i % j)) else if j ≠ 0 then some (.int (i.fmod j)) else none := rfl
@[simp] theorem bin_pow (i j : Int) : binS .pow (.int i) (.int j) = if 0 ≤ j ∧ j ≤ 1000000 ∧ i.natAbs < 2 ^ 64 then some (.int (i ^ j.toNat)) else if powOk i j = true then some (.int (i ^ j.toNat)) else none := rfl
@[simp] theorem bin_lrep (xs : List D) (k : Int) : binS .mul (.lst xs) (.int k) = if -(2 ^ 63) ≤ k ∧ k < 2 ^ 63 ∧ xs.length * k.toNat ≤ 16777216 then some (.lst (List.replicate k.toNat xs).flatten) else none := rfl
@[simp] theorem bin_trep (xs : List D) (k : Int) : binS .mul (.tup xs) (.int k) = if xs ≠ [] ∧ 2 ≤ k ∧ k ≤ 1000 ∧ xs.length ≤ 1000 then some (.tup (List.replicate k.toNat xs).flatten) else none := rfl
@[simp] theorem bin_tcat (xs ys : List D) : binS .add (.tup xs) (.tup ys) = if xs.length + ys.length ≤ 16777216 then some (.tup (xs ++ ys)) else none := rfl
@[simp] theorem bin_scat (x y : String) : binS .add (.str x) (.str y) = if x.length + y.length ≤ 16777216 then some (.str (x ++ y)) else none := rfl
@[simp] theorem bin_lst (xs ys : List D) : binS .add (.lst xs) (.lst ys) = if xs.length + ys.length ≤ 16777216 then some (.lst (xs ++ ys)) else none := rfl
end
theorem clsX_cls {m : Mem} {d : D} {c : String} (h : clsOf m d = some c) : clsX m d = some c := by
  cases d <;> first | exact h | (simp [clsOf] at h; done)
@[simp] theorem clsX_obj (m : Mem) (C : String) (ns : List String) (ds : List D) : clsX m (.obj C ns ds) = some C := rfl
@[simp] theorem clsX_exc (m : Mem) (C : String) (ns : List String) (ds : List D) : clsX m (.exc C ns ds) = some C := rfl
@[simp] theorem clsX_ref (m : Mem) (i : Nat) : clsX m (.ref i) = clsOf m (.ref i) := rfl
/-- what the catching def makes of its lambda -/
def kCau (Γ : Gam) (f : String) : Out D → Out D := fun o => match o with
    | .ok x m => (Γ.fn f [.non, x] m).calm
    | .err (.exc C ns ds) m => if (Γ.mro C).contains "RulerError" = true then (Γ.fn f [.exc C ns ds] m).calm else .stk
    | _ => .stk
@[simp] theorem ev_cau (Γ : Gam) (f : String) (b : E) (ρ : Env) (m : Mem) : ev Γ (.cau f b) ρ m = kCau Γ f (ev Γ b ρ m) := rfl
@[simp] theorem kCau_ok (Γ : Gam) (f : String) (x : D) (m : Mem) : kCau Γ f (.ok x m) = (Γ.fn f [.non, x] m).calm := rfl
@[simp] theorem kCau_exc (Γ : Gam) (f : String) (C : String) (ns : List String) (ds : List D) (m : Mem) : kCau Γ f (.err (.exc C ns ds) m) = if (Γ.mro C).contains "RulerError" = true then (Γ.fn f [.exc C ns ds] m).calm else .stk := rfl
theorem runC_eq (Γ : Gam) (np nl : Nat) (b : S) (mode : Nat) (args : List D) (m : Mem) (h : args.length + 1 ≤ nl) : runC Γ ⟨np, nl, b, mode⟩ args m = outF 0 m (ex Γ b (none :: args.map some ++ List.replicate (nl - (args.length + 1)) none) m) := by
  unfold runC
  rw [if_pos h]
  rfl
@[simp] theorem ev_sl (Γ : Gam) (a lo hi : E) (ρ : Env) (m : Mem) : ev Γ (.sl a lo hi) ρ m = (ev Γ a ρ m).bind fun x m => ((ev Γ lo ρ m).bind fun d m => .of m (partD lo d)).bind fun l m => ((ev Γ hi ρ m).bind fun d m => .of m (partD hi d)).bind fun u m => .of m (slS l u (rd m x)) := rfl
@[simp] theorem ev_chn (Γ : Gam) (o p : COp) (a b c : E) (ρ : Env) (m : Mem) : ev Γ (.chn o p a b c) ρ m = (ev Γ a ρ m).bind fun x m => (ev Γ b ρ m).bind fun y m => match cmpS m o x y with
    | some true => (ev Γ c ρ m).bind fun z m => .of m ((cmpS m p y z).map .bl)
    | some false => .ok (.bl false) m
    | none => .stk := rfl
@[simp] theorem ev_methk (Γ : Gam) (n : String) (j : Nat) (ks : List String) (a as bs : E) (ρ : Env) (m : Mem) : ev Γ (.methk n j ks a as bs) ρ m = (ev Γ a ρ m).bind fun x m => match (clsOf m x).bind fun C => Γ.meth C n with
    | some f => if hasA m n x then .stk else (ev Γ as ρ m).bind fun y m => (ev Γ bs ρ m).bind fun z m => match y, z with
      | .tup ys, .tup zs => match (Γ.plan f (j + 1) ks).bind fun p => appPlan p (x :: (ys ++ zs)) with
        | some args => if ys.length = j ∧ zs.length = ks.length then Γ.fn f args m else .stk
        | none => .stk
      | _, _ => .stk
    | none => .stk := rfl
def kOp1 (Γ : Gam) (o : O1) : D → Mem → Out D := fun x m => .of m (op1S Γ m o x)
@[simp] theorem kOp1_ap (Γ : Gam) (o : O1) (x : D) (m : Mem) : kOp1 Γ o x m = .of m (op1S Γ m o x) := rfl
@[simp] theorem ev_op1 (Γ : Gam) (o : O1) (a : E) (ρ : Env) (m : Mem) : ev Γ (.op1 o a) ρ m = (ev Γ a ρ m).bind (kOp1 Γ o) := rfl
def kOp22 (Γ : Gam) (o : O2) (x : D) : D → Mem → Out D := fun y m => .of m (op2S Γ m o x y)
@[simp] theorem kOp22_ap (Γ : Gam) (o : O2) (x y : D) (m : Mem) : kOp22 Γ o x y m = .of m (op2S Γ m o x y) := rfl
def kOp21 (Γ : Gam) (o : O2) (b : E) (ρ : Env) : D → Mem → Out D := fun x m => if pre2 o x = true then (ev Γ b ρ m).bind (kOp22 Γ o x) else .stk
@[simp] theorem kOp21_ap (Γ : Gam) (o : O2) (b : E) (ρ : Env) (x : D) (m : Mem) : kOp21 Γ o b ρ x m = if pre2 o x = true then (ev Γ b ρ m).bind (kOp22 Γ o x) else .stk := rfl
@[simp] theorem ev_op2 (Γ : Gam) (o : O2) (a b : E) (ρ : Env) (m : Mem) : ev Γ (.op2 o a b) ρ m = (ev Γ a ρ m).bind (kOp21 Γ o b ρ) := rfl
def kOp33 (Γ : Gam) (o : O3) (x y : D) : D → Mem → Out D := fun z m => .of m (op3S Γ m o x y z)
@[simp] theorem kOp33_ap (Γ : Gam) (o : O3) (x y z : D) (m : Mem) : kOp33 Γ o x y z m = .of m (op3S Γ m o x y z) := rfl
def kOp32 (Γ : Gam) (o : O3) (c : E) (ρ : Env) (x : D) : D → Mem → Out D := fun y m => (ev Γ c ρ m).bind (kOp33 Γ o x y)
@[simp] theorem kOp32_ap (Γ : Gam) (o : O3) (c : E) (ρ : Env) (x y : D) (m : Mem) : kOp32 Γ o c ρ x y m = (ev Γ c ρ m).bind (kOp33 Γ o x y) := rfl
def kOp31 (Γ : Gam) (o : O3) (b c : E) (ρ : Env) : D → Mem → Out D := fun x m => (ev Γ b ρ m).bind (kOp32 Γ o c ρ x)
@[simp] theorem kOp31_ap (Γ : Gam) (o : O3) (b c : E) (ρ : Env) (x : D) (m : Mem) : kOp31 Γ o b c ρ x m = (ev Γ b ρ m).bind (kOp32 Γ o c ρ x) := rfl
@[simp] theorem ev_op3 (Γ : Gam) (o : O3) (a b c : E) (ρ : Env) (m : Mem) : ev Γ (.op3 o a b c) ρ m = (ev Γ a ρ m).bind (kOp31 Γ o b c ρ) := rfl
@[simp] theorem op2_cmr (Γ : Gam) (m : Mem) (neg : Bool) (x y : D) : op2S Γ m (.cmr neg) x y = if reprOk (rd m y) = true ∧ x = rd m y then some (.bl (!neg)) else none := rfl
def kMkx (C : String) (ns : List String) : D → Mem → Out D := fun y m => match y with
    | .tup ys => if ys.length = ns.length then .ok (.exc C ns ys) m else .stk
    | _ => .stk
@[simp] theorem kMkx_ap (C : String) (ns : List String) (ys : List D) (m : Mem) : kMkx C ns (.tup ys) m = if ys.length = ns.length then .ok (.exc C ns ys) m else .stk := rfl
@[simp] theorem ev_mkx (Γ : Gam) (C : String) (ns : List String) (a : E) (ρ : Env) (m : Mem) : ev Γ (.mkx C ns a) ρ m = (ev Γ a ρ m).bind (kMkx C ns) := rfl
def kRse (ρ : Env) : D → Mem → SO := fun x m => match x with
    | .exc C ns ds => .er (.exc C ns ds) ρ m
    | _ => .stk
@[simp] theorem kRse_ap (ρ : Env) (C : String) (ns : List String) (ds : List D) (m : Mem) : kRse ρ (.exc C ns ds) m = .er (.exc C ns ds) ρ m := rfl
@[simp] theorem ex_rse (Γ : Gam) (e : E) (ρ : Env) (m : Mem) : ex Γ (.rse e) ρ m = SO.of ρ (ev Γ e ρ m) (kRse ρ) := rfl
/-- is it None -/
def isNon : D → Bool
  | .non => true
  | _ => false
@[simp] theorem isNon_non : isNon .non = true := rfl
@[simp] theorem isNon_bl (b : Bool) : isNon (.bl b) = false := rfl
@[simp] theorem isNon_int (i : Int) : isNon (.int i) = false := rfl
@[simp] theorem isNon_str (x : String) : isNon (.str x) = false := rfl
@[simp] theorem isNon_tup (ds : List D) : isNon (.tup ds) = false := rfl
@[simp] theorem isNon_lst (ds : List D) : isNon (.lst ds) = false := rfl
@[simp] theorem isNon_dct (ks vs : List D) : isNon (.dct ks vs) = false := rfl
@[simp] theorem isNon_obj (C : String) (ns : List String) (ds : List D) : isNon (.obj C ns ds) = false := rfl
@[simp] theorem isNon_exc (C : String) (ns : List String) (ds : List D) : isNon (.exc C ns ds) = false := rfl
@[simp] theorem isNon_ref (i : Nat) : isNon (.ref i) = false := rfl
@[simp] theorem cmp_is_non (Γ : Gam) (x : D) (m : Mem) : cmpX Γ .is x .non m = .ok (.bl (isNon x)) m := by cases x <;> rfl
@[simp] theorem cmp_isn_non (Γ : Gam) (x : D) (m : Mem) : cmpX Γ .isn x .non m = .ok (.bl (!isNon x)) m := by cases x <;> rfl
@[simp] theorem cmp_is_bl (Γ : Gam) (a b : Bool) (m : Mem) : cmpX Γ .is (.bl a) (.bl b) m = .ok (.bl (decide (a = b))) m := rfl
@[simp] theorem cmp_isn_bl (Γ : Gam) (a b : Bool) (m : Mem) : cmpX Γ .isn (.bl a) (.bl b) m = .ok (.bl (!decide (a = b))) m := rfl
end PL

set_option linter.all false
/-! triples of integers, their lowest terms; plain mathematics -/
namespace Tri
@[ext] structure V3 where
  x : Int
  y : Int
  z : Int
  deriving DecidableEq
namespace V3
def sm (k : Int) (v : V3) : V3 := ⟨k * v.x, k * v.y, k * v.z⟩
def add (u v : V3) : V3 := ⟨u.x + v.x, u.y + v.y, u.z + v.z⟩
def sub (u v : V3) : V3 := ⟨u.x - v.x, u.y - v.y, u.z - v.z⟩
def cross (u v : V3) : V3 := ⟨u.y * v.z - u.z * v.y, u.z * v.x - u.x * v.z, u.x * v.y - u.y * v.x⟩
def dot (u v : V3) : Int := u.x * v.x + u.y * v.y + u.z * v.z
def zero : V3 := ⟨0, 0, 0⟩
def l (v : V3) : List Int := [v.x, v.y, v.z]
end V3
open V3
def det (u v w : V3) : Int := dot (cross u v) w
structure M3 where
  a : V3
  b : V3
  c : V3
  deriving DecidableEq
namespace M3
def mv (m : M3) (v : V3) : V3 := ⟨dot m.a v, dot m.b v, dot m.c v⟩
def cof (m : M3) : M3 := ⟨cross m.b m.c, cross m.c m.a, cross m.a m.b⟩
def tr (m : M3) : M3 := ⟨⟨m.a.x, m.b.x, m.c.x⟩, ⟨m.a.y, m.b.y, m.c.y⟩, ⟨m.a.z, m.b.z, m.c.z⟩⟩
def dt (m : M3) : Int := det m.a m.b m.c
def sm (k : Int) (m : M3) : M3 := ⟨m.a.sm k, m.b.sm k, m.c.sm k⟩
def mul (m n : M3) : M3 := ⟨⟨dot m.a n.tr.a, dot m.a n.tr.b, dot m.a n.tr.c⟩, ⟨dot m.b n.tr.a, dot m.b n.tr.b, dot m.b n.tr.c⟩, ⟨dot m.c n.tr.a, dot m.c n.tr.b, dot m.c n.tr.c⟩⟩
def l (m : M3) : List Int := m.a.l ++ m.b.l ++ m.c.l
end M3
theorem cross_mv (m : M3) (u v : V3) : cross (m.mv u) (m.mv v) = m.cof.mv (cross u v) := by
  obtain ⟨⟨a, b, c⟩, ⟨d, e, f⟩, ⟨g, h, i⟩⟩ := m
  obtain ⟨p, q, r⟩ := u
  obtain ⟨s, t, w⟩ := v
  simp only [cross, M3.mv, M3.cof, dot, V3.mk.injEq]
  refine ⟨?_, ?_, ?_⟩ <;> grind
theorem dt_cof (m : M3) : m.cof.dt = m.dt * m.dt := by
  obtain ⟨⟨a, b, c⟩, ⟨d, e, f⟩, ⟨g, h, i⟩⟩ := m
  simp only [cross, M3.cof, dot, M3.dt, det]
  grind
theorem dt_mul (m n : M3) : (m.mul n).dt = m.dt * n.dt := by
  obtain ⟨⟨a, b, c⟩, ⟨d, e, f⟩, ⟨g, h, i⟩⟩ := m
  obtain ⟨⟨a', b', c'⟩, ⟨d', e', f'⟩, ⟨g', h', i'⟩⟩ := n
  simp only [cross, M3.mul, M3.tr, dot, M3.dt, det]
  grind
/-! ### lowest terms -/
def gl (l : List Int) : Nat := l.foldl (fun g x => Nat.gcd g x.natAbs) 0
def hd0 (l : List Int) : Int := (l.filter (fun x => x != 0)).headD 0
def sgn (l : List Int) : Int := if 0 < hd0 l then 1 else -1
def low (l : List Int) : List Int := l.map fun x => sgn l * x / (gl l : Int)
def NZ (l : List Int) : Prop := ∃ x ∈ l, x ≠ 0
theorem foldl_gcd_dvd : ∀ (l : List Int) (g : Nat), l.foldl (fun g x => Nat.gcd g x.natAbs) g ∣ g ∧ ∀ x ∈ l, l.foldl (fun g x => Nat.gcd g x.natAbs) g ∣ x.natAbs
  | [], g => ⟨Nat.dvd_refl _, fun _ h => nomatch h⟩
  | a :: l, g => by
    obtain ⟨h1, h2⟩ := foldl_gcd_dvd l (Nat.gcd g a.natAbs)
    refine ⟨Nat.dvd_trans h1 (Nat.gcd_dvd_left _ _), fun x hx => ?_⟩
    rcases List.mem_cons.mp hx with rfl | hx
    · exact Nat.dvd_trans h1 (Nat.gcd_dvd_right _ _)
    · exact h2 x hx
theorem dvd_foldl_gcd {d : Nat} : ∀ (l : List Int) (g : Nat), d ∣ g → (∀ x ∈ l, d ∣ x.natAbs) → d ∣ l.foldl (fun g x => Nat.gcd g x.natAbs) g
  | [], g, h, _ => h
  | a :: l, g, h, k => dvd_foldl_gcd l _ (Nat.dvd_gcd h (k a List.mem_cons_self)) fun x hx => k x (List.mem_cons_of_mem _ hx)
theorem gl_dvd {l : List Int} {x : Int} (h : x ∈ l) : (gl l : Int) ∣ x := Int.ofNat_dvd_left.mpr ((foldl_gcd_dvd l 0).2 x h)
theorem dvd_gl {l : List Int} {d : Nat} (h : ∀ x ∈ l, d ∣ x.natAbs) : d ∣ gl l := dvd_foldl_gcd l 0 (Nat.dvd_zero d) h
theorem gl_pos {l : List Int} (h : NZ l) : 0 < gl l := by
  obtain ⟨x, hx, h0⟩ := h
  refine Nat.pos_of_ne_zero fun z => ?_
  have := gl_dvd hx
  rw [z] at this
  exact h0 (Int.zero_dvd.mp this)
theorem gl_le {l : List Int} {x : Int} (h : x ∈ l) (h0 : x ≠ 0) : gl l ≤ x.natAbs := Nat.le_of_dvd (by omega) ((foldl_gcd_dvd l 0).2 x h)
theorem gl_scale (k : Int) (l : List Int) : gl (l.map (k * ·)) = k.natAbs * gl l := by
  have : ∀ (l : List Int) (g : Nat), (l.map (k * ·)).foldl (fun g x => Nat.gcd g x.natAbs) (k.natAbs * g) = k.natAbs * l.foldl (fun g x => Nat.gcd g x.natAbs) g := by
    intro l
    induction l with
    | nil => intro g; rfl
    | cons a l ih => intro g; simp only [List.map_cons, List.foldl_cons, Int.natAbs_mul, Nat.gcd_mul_left]; exact ih _
  have := this l 0
  simpa [gl] using this
theorem sgn_or (l : List Int) : sgn l = 1 ∨ sgn l = -1 := by unfold sgn; split <;> simp
theorem sgn_sq (l : List Int) : sgn l * sgn l = 1 := by rcases sgn_or l with h | h <;> rw [h] <;> rfl
theorem hd0_scale {k : Int} (hk : k ≠ 0) (l : List Int) : hd0 (l.map (k * ·)) = k * hd0 l := by
  unfold hd0
  induction l with
  | nil => simp
  | cons a l ih =>
    simp only [List.map_cons, List.filter_cons]
    by_cases h : a = 0
    · subst h; simpa using ih
    · have : k * a ≠ 0 := Int.mul_ne_zero hk h
      simp [h, this]
theorem hd0_ne {l : List Int} (h : NZ l) : hd0 l ≠ 0 := by
  unfold hd0
  induction l with
  | nil => obtain ⟨x, hx, _⟩ := h; cases hx
  | cons a l ih =>
    simp only [List.filter_cons]
    by_cases h0 : a = 0
    · subst h0
      obtain ⟨x, hx, h1⟩ := h
      rcases List.mem_cons.mp hx with rfl | hx
      · exact absurd rfl h1
      · simpa using ih ⟨x, hx, h1⟩
    · simp [h0]
theorem sgn_scale {k : Int} (hk : k ≠ 0) {l : List Int} (h : NZ l) : sgn (l.map (k * ·)) = (if 0 < k then 1 else -1) * sgn l := by
  unfold sgn
  rw [hd0_scale hk]
  have := hd0_ne h
  by_cases a : 0 < k <;> by_cases b : 0 < hd0 l
  · simp [a, b, Int.mul_pos a b]
  · have : ¬ 0 < k * hd0 l := fun z => by
      have := Int.mul_neg_of_pos_of_neg a (show hd0 l < 0 by omega)
      omega
    simp [a, b, this]
  · have : ¬ 0 < k * hd0 l := fun z => by
      have := Int.mul_neg_of_neg_of_pos (show k < 0 by omega) b
      omega
    simp [a, b, this]
  · have : 0 < k * hd0 l := Int.mul_pos_of_neg_of_neg (by omega) (by omega)
    simp [a, b, this]
theorem low_scale {k : Int} (hk : k ≠ 0) {l : List Int} (h : NZ l) : low (l.map (k * ·)) = low l := by
  unfold low
  rw [List.map_map, gl_scale, sgn_scale hk h]
  apply List.map_congr_left
  intro x hx
  simp only [Function.comp]
  have e : (if 0 < k then 1 else -1 : Int) * sgn l * (k * x) = (k.natAbs : Int) * (sgn l * x) := by
    by_cases a : 0 < k
    · rw [if_pos a, show (k.natAbs : Int) = k by omega]; grind
    · rw [if_neg a, show (k.natAbs : Int) = -k by omega]; grind
  rw [e]
  push_cast
  exact Int.mul_ediv_mul_of_pos _ _ (by omega)
theorem low_mul {l : List Int} {x : Int} (h : x ∈ l) : x = sgn l * (gl l : Int) * (sgn l * x / (gl l : Int)) := by
  obtain ⟨c, hc⟩ := gl_dvd h
  by_cases g : (gl l : Int) = 0
  · rw [g] at hc ⊢; simp at hc ⊢; exact hc
  · have : sgn l * x / (gl l : Int) = sgn l * c := by
      conv => lhs; rw [hc]
      rw [show sgn l * ((gl l : Int) * c) = sgn l * c * (gl l : Int) by grind]
      exact Int.mul_ediv_cancel _ g
    rw [this]
    have := sgn_sq l
    conv => lhs; rw [hc]
    grind
theorem low_prop {u v : List Int} {p q : Int} (hp : p ≠ 0) (hq : q ≠ 0) (h : u.map (p * ·) = v.map (q * ·)) (hu : NZ u) (hv : NZ v) : low u = low v := by
  rw [← low_scale hp hu, h, low_scale hq hv]
namespace V3
def nz (v : V3) : Prop := v ≠ zero
instance (v : V3) : Decidable (nz v) := by unfold nz; infer_instance
theorem nz_iff (v : V3) : nz v ↔ NZ v.l := by
  obtain ⟨x, y, z⟩ := v
  simp only [nz, NZ, l, zero, ne_eq, V3.mk.injEq, List.mem_cons, List.not_mem_nil, or_false, exists_eq_or_imp, exists_eq_left, not_and]
  constructor
  · intro h
    by_cases a : x = 0
    · by_cases b : y = 0
      · exact .inr (.inr (h a b))
      · exact .inr (.inl b)
    · exact .inl a
  · rintro (h | h | h) a b
    · exact absurd a h
    · exact absurd b h
    · exact h
/-- in lowest terms -/
def nrm (v : V3) : V3 := ⟨sgn v.l * v.x / (gl v.l : Int), sgn v.l * v.y / (gl v.l : Int), sgn v.l * v.z / (gl v.l : Int)⟩
/-- the number by which it is that -/
def by_ (v : V3) : Int := sgn v.l * (gl v.l : Int)
theorem nrm_l (v : V3) : v.nrm.l = low v.l := rfl
theorem by_ne {v : V3} (h : nz v) : v.by_ ≠ 0 := by
  have := gl_pos ((nz_iff v).mp h)
  unfold by_
  rcases sgn_or v.l with e | e <;> rw [e] <;> omega
theorem nrm_by (v : V3) : v = v.nrm.sm v.by_ := by
  ext
  · exact low_mul (l := v.l) (x := v.x) (by simp [l])
  · exact low_mul (l := v.l) (x := v.y) (by simp [l])
  · exact low_mul (l := v.l) (x := v.z) (by simp [l])
theorem nrm_nz {v : V3} (h : nz v) : nz v.nrm := fun z => h (by rw [nrm_by v, z]; simp [sm, zero])
theorem l_inj {u v : V3} (h : u.l = v.l) : u = v := by
  simp only [l, List.cons.injEq, and_true] at h
  ext
  · exact h.1
  · exact h.2.1
  · exact h.2.2
theorem sm_l (k : Int) (v : V3) : (v.sm k).l = v.l.map (k * ·) := rfl
theorem sm_nz {k : Int} {v : V3} (hk : k ≠ 0) (h : nz v) : nz (v.sm k) := by
  intro z
  apply h
  simp only [sm, zero, V3.mk.injEq, Int.mul_eq_zero] at z
  obtain ⟨a, b, c⟩ := z
  ext
  · exact a.resolve_left hk
  · exact b.resolve_left hk
  · exact c.resolve_left hk
theorem nrm_prop {u v : V3} {p q : Int} (hp : p ≠ 0) (hq : q ≠ 0) (h : u.sm p = v.sm q) (hu : nz u) : u.nrm = v.nrm := by
  have hv : nz v := by
    intro z
    have := sm_nz hp hu
    rw [h, z] at this
    exact this (by simp [sm, zero])
  apply l_inj
  rw [nrm_l, nrm_l]
  exact low_prop hp hq (by rw [← sm_l, ← sm_l, h]) ((nz_iff u).mp hu) ((nz_iff v).mp hv)
theorem nrm_sm {v : V3} {k : Int} (hk : k ≠ 0) (h : nz v) : (v.sm k).nrm = v.nrm := by
  refine (nrm_prop (p := k) (q := 1) hk (by decide) ?_ h).symm
  simp [sm]
theorem nrm_nrm {v : V3} (h : nz v) : v.nrm.nrm = v.nrm := by
  conv => rhs; rw [nrm_by v]
  rw [nrm_sm (by_ne h) (nrm_nz h)]
theorem cross_sm (p q : Int) (u v : V3) : cross (u.sm p) (v.sm q) = (cross u v).sm (p * q) := by
  simp only [cross, sm, V3.mk.injEq]
  refine ⟨?_, ?_, ?_⟩ <;> grind
theorem dot_sm (p q : Int) (u v : V3) : dot (u.sm p) (v.sm q) = p * q * dot u v := by
  simp only [dot, sm]; grind
theorem sm_sm (p q : Int) (v : V3) : (v.sm q).sm p = v.sm (p * q) := by
  simp only [sm, V3.mk.injEq]
  refine ⟨?_, ?_, ?_⟩ <;> grind
theorem sm_one (v : V3) : v.sm 1 = v := by simp [sm]
end V3
theorem M3.mv_sm (m : M3) (p q : Int) (v : V3) : (m.sm p).mv (v.sm q) = (m.mv v).sm (p * q) := by
  simp only [M3.mv, M3.sm, V3.dot_sm]
  rfl
namespace M3
/-- a map in lowest terms -/
def nrm (m : M3) : M3 := ⟨⟨sgn m.l * m.a.x / (gl m.l : Int), sgn m.l * m.a.y / (gl m.l : Int), sgn m.l * m.a.z / (gl m.l : Int)⟩, ⟨sgn m.l * m.b.x / (gl m.l : Int), sgn m.l * m.b.y / (gl m.l : Int), sgn m.l * m.b.z / (gl m.l : Int)⟩, ⟨sgn m.l * m.c.x / (gl m.l : Int), sgn m.l * m.c.y / (gl m.l : Int), sgn m.l * m.c.z / (gl m.l : Int)⟩⟩
def by_ (m : M3) : Int := sgn m.l * (gl m.l : Int)
theorem nrm_l (m : M3) : m.nrm.l = low m.l := rfl
theorem nrm_by (m : M3) : m = m.nrm.sm m.by_ := by
  have h : ∀ x ∈ m.l, x = m.by_ * (sgn m.l * x / (gl m.l : Int)) := fun x hx => low_mul hx
  obtain ⟨⟨a, b, c⟩, ⟨d, e, f⟩, ⟨g, p, q⟩⟩ := m
  simp only [M3.l, V3.l, List.cons_append, List.nil_append, List.mem_cons, List.not_mem_nil, or_false, forall_eq_or_imp, forall_eq] at h
  obtain ⟨h1, h2, h3, h4, h5, h6, h7, h8, h9⟩ := h
  simp only [M3.sm, V3.sm, M3.nrm, M3.l, V3.l, List.cons_append, List.nil_append, M3.mk.injEq, V3.mk.injEq]
  exact ⟨⟨h1, h2, h3⟩, ⟨h4, h5, h6⟩, ⟨h7, h8, h9⟩⟩
theorem sm_l (k : Int) (m : M3) : (m.sm k).l = m.l.map (k * ·) := rfl
theorem dt_sm (k : Int) (m : M3) : (m.sm k).dt = k * k * k * m.dt := by
  simp only [dt, det, M3.sm, V3.cross_sm, V3.dot_sm]
theorem l_inj {u v : M3} (h : u.l = v.l) : u = v := by
  obtain ⟨⟨a, b, c⟩, ⟨d, e, f⟩, ⟨g, p, q⟩⟩ := u
  obtain ⟨⟨a', b', c'⟩, ⟨d', e', f'⟩, ⟨g', p', q'⟩⟩ := v
  simp only [M3.l, V3.l, List.cons_append, List.nil_append, List.cons.injEq, and_true] at h
  obtain ⟨rfl, rfl, rfl, rfl, rfl, rfl, rfl, rfl, rfl⟩ := h
  rfl
theorem nz_of_dt {m : M3} (h : m.dt ≠ 0) : NZ m.l := by
  apply Classical.byContradiction
  intro hn
  have h' : ∀ x ∈ m.l, x = 0 := fun x hx => Classical.byContradiction fun q => hn ⟨x, hx, q⟩
  obtain ⟨⟨a, b, c⟩, ⟨d, e, f⟩, ⟨g, p, q⟩⟩ := m
  simp only [M3.l, V3.l, List.cons_append, List.nil_append, List.mem_cons, List.not_mem_nil, or_false, forall_eq_or_imp, forall_eq] at h'
  obtain ⟨rfl, rfl, rfl, rfl, rfl, rfl, rfl, rfl, rfl⟩ := h'
  exact h rfl
theorem by_ne {m : M3} (h : m.dt ≠ 0) : m.by_ ≠ 0 := by
  have := gl_pos (nz_of_dt h)
  unfold by_
  rcases sgn_or m.l with e | e <;> rw [e] <;> omega
theorem nrm_dt {m : M3} (h : m.dt ≠ 0) : m.nrm.dt ≠ 0 := by
  intro z
  apply h
  rw [nrm_by m, dt_sm, z]
  simp
theorem nrm_prop {u v : M3} {p q : Int} (hp : p ≠ 0) (hq : q ≠ 0) (h : u.sm p = v.sm q) (hu : u.dt ≠ 0) (hv : v.dt ≠ 0) : u.nrm = v.nrm := by
  apply l_inj
  rw [nrm_l, nrm_l]
  exact low_prop hp hq (by rw [← sm_l, ← sm_l, h]) (nz_of_dt hu) (nz_of_dt hv)
/-- a map of a determinant that is not 0 leads nothing to nought -/
theorem cof_tr (m : M3) (v : V3) : m.cof.tr.mv (m.mv v) = v.sm m.dt := by
  obtain ⟨⟨a, b, c⟩, ⟨d, e, f⟩, ⟨g, p, q⟩⟩ := m
  obtain ⟨x, y, z⟩ := v
  simp only [cross, M3.cof, M3.tr, M3.mv, dot, M3.dt, det, V3.sm, V3.mk.injEq]
  refine ⟨?_, ?_, ?_⟩ <;> grind
theorem mv_nz {m : M3} (h : m.dt ≠ 0) {v : V3} (hv : v.nz) : (m.mv v).nz := by
  intro z
  have := cof_tr m v
  rw [z] at this
  have e : v.sm m.dt = V3.zero := by rw [← this]; simp [M3.mv, dot, V3.zero]
  exact V3.sm_nz h hv e
end M3
end Tri

set_option linter.all false
set_option maxHeartbeats 1000000
/-! contracts of the small defs -/
namespace PL
namespace Pk
open Tri
abbrev vD (v : V3) : D := .tup [.int v.x, .int v.y, .int v.z]
abbrev mD (m : M3) : D := .tup [vD m.a, vD m.b, vD m.c]
theorem mulOk_of {i j : Int} (k l : Nat) (hi : i.natAbs < 2 ^ k) (hj : j.natAbs < 2 ^ l) (h : k + l < 1000000) : mulOk i j = true := by
  have a : i.natAbs.log2 ≤ k := by
    by_cases z : i.natAbs = 0
    · rw [z]; simp
    · exact Nat.le_of_lt ((Nat.log2_lt z).2 hi)
  have b : j.natAbs.log2 ≤ l := by
    by_cases z : j.natAbs = 0
    · rw [z]; simp
    · exact Nat.le_of_lt ((Nat.log2_lt z).2 hj)
  unfold mulOk
  exact decide_eq_true (by omega)
/-- not too great -/
def Bd (k : Nat) (i : Int) : Prop := i.natAbs < 2 ^ k
instance (k : Nat) (i : Int) : Decidable (Bd k i) := by unfold Bd; infer_instance
theorem Bd.mono {k l : Nat} {i : Int} (h : Bd k i) (hl : k ≤ l) : Bd l i := Nat.lt_of_lt_of_le h (Nat.pow_le_pow_right (by decide) hl)
theorem Bd.mul {k l : Nat} {i j : Int} (h : Bd k i) (h' : Bd l j) : Bd (k + l) (i * j) := by
  unfold Bd at *
  rw [Int.natAbs_mul, Nat.pow_add]
  exact Nat.mul_lt_mul'' h h'
theorem Bd.add {k : Nat} {i j : Int} (h : Bd k i) (h' : Bd k j) : Bd (k + 1) (i + j) := by
  unfold Bd at *
  rw [Nat.pow_succ]
  omega
theorem Bd.sub {k : Nat} {i j : Int} (h : Bd k i) (h' : Bd k j) : Bd (k + 1) (i - j) := by
  unfold Bd at *
  rw [Nat.pow_succ]
  omega
theorem Bd.neg {k : Nat} {i : Int} (h : Bd k i) : Bd k (-i) := by
  unfold Bd at *
  omega
theorem Bd.zero {k : Nat} : Bd k 0 := by unfold Bd; simp; exact Nat.pow_pos (by decide)
theorem Bd.mulOk {k : Nat} {i j : Int} (h : Bd k i) (h' : Bd k j) (hk : k < 500000) : PL.mulOk i j = true := mulOk_of k k h h' (by omega)
theorem divOk_of {g : Nat} {k : Nat} (h0 : 0 < g) (h : g < 2 ^ k) (hk : k ≤ 9000) : divOk (g : Int) = true := by
  unfold divOk
  apply decide_eq_true
  refine ⟨by omega, ?_⟩
  rw [Int.natAbs_natCast]
  exact Nat.lt_of_lt_of_le ((Nat.log2_lt (by omega)).2 h) hk
structure VB (k : Nat) (v : V3) : Prop where
  x : Bd k v.x
  y : Bd k v.y
  z : Bd k v.z
theorem VB.mono {k l : Nat} {v : V3} (h : VB k v) (hl : k ≤ l) : VB l v := ⟨h.x.mono hl, h.y.mono hl, h.z.mono hl⟩
theorem VB.cross {k : Nat} {u v : V3} (h : VB k u) (h' : VB k v) : VB (k + k + 1) (V3.cross u v) := ⟨.sub (.mul h.y h'.z) (.mul h.z h'.y), .sub (.mul h.z h'.x) (.mul h.x h'.z), .sub (.mul h.x h'.y) (.mul h.y h'.x)⟩
theorem VB.dot {k : Nat} {u v : V3} (h : VB k u) (h' : VB k v) : Bd (k + k + 2) (V3.dot u v) := .add (.add (.mul h.x h'.x) (.mul h.y h'.y)) ((Bd.mul h.z h'.z).mono (by omega))
theorem VB.sub {k : Nat} {u v : V3} (h : VB k u) (h' : VB k v) : VB (k + 1) (V3.sub u v) := ⟨h.x.sub h'.x, h.y.sub h'.y, h.z.sub h'.z⟩
structure MB (k : Nat) (m : M3) : Prop where
  a : VB k m.a
  b : VB k m.b
  c : VB k m.c
theorem MB.mono {k l : Nat} {v : M3} (h : MB k v) (hl : k ≤ l) : MB l v := ⟨h.a.mono hl, h.b.mono hl, h.c.mono hl⟩
theorem MB.cof {k : Nat} {m : M3} (h : MB k m) : MB (k + k + 1) m.cof := ⟨h.b.cross h.c, h.c.cross h.a, h.a.cross h.b⟩
theorem MB.mv {k : Nat} {m : M3} {v : V3} (h : MB k m) (h' : VB k v) : VB (k + k + 2) (m.mv v) := ⟨h.a.dot h', h.b.dot h', h.c.dot h'⟩
theorem Bd.low {k : Nat} {l : List Int} {x : Int} (hx : x ∈ l) (h : Bd k x) : Bd k (sgn l * x / (gl l : Int)) := by
  by_cases h0 : gl l = 0
  · rw [h0]; simp [Bd.zero]
  · unfold Bd at *
    have e : (sgn l * x).natAbs = x.natAbs := by rcases sgn_or l with e | e <;> rw [e] <;> simp
    obtain ⟨c, hc⟩ := gl_dvd hx
    have e2 : sgn l * x / (gl l : Int) = sgn l * c := by
      conv => lhs; rw [hc]
      rw [show sgn l * ((gl l : Int) * c) = sgn l * c * (gl l : Int) by grind]
      exact Int.mul_ediv_cancel _ (by omega)
    have e3 : (sgn l * c).natAbs = c.natAbs := by rcases sgn_or l with e | e <;> rw [e] <;> simp
    rw [e2, e3]
    have : c.natAbs ≤ x.natAbs := by
      rw [hc, Int.natAbs_mul, Int.natAbs_natCast]
      exact Nat.le_mul_of_pos_left _ (by omega)
    omega
theorem VB.nrm {k : Nat} {v : V3} (h : VB k v) : VB k v.nrm := ⟨h.x.low (by simp [V3.l]), h.y.low (by simp [V3.l]), h.z.low (by simp [V3.l])⟩
theorem MB.nrm {k : Nat} {m : M3} (h : MB k m) : MB k m.nrm := by
  obtain ⟨⟨h1, h2, h3⟩, ⟨h4, h5, h6⟩, ⟨h7, h8, h9⟩⟩ := h
  refine ⟨⟨?_, ?_, ?_⟩, ⟨?_, ?_, ?_⟩, ⟨?_, ?_, ?_⟩⟩ <;> exact Bd.low (by simp [M3.l, V3.l]) (by assumption)
theorem gl_bd {k : Nat} {l : List Int} (hn : NZ l) (h : ∀ x ∈ l, Bd k x) : gl l < 2 ^ k := by
  obtain ⟨x, hx, h0⟩ := hn
  exact Nat.lt_of_le_of_lt (gl_le hx h0) (h x hx)
/-! ### comparisons -/
section
variable {Γ : Gam} {m : Mem}
@[simp] theorem cmp_eqi (a b : Int) : cmpX Γ .eq (.int a) (.int b) m = .ok (.bl (a == b)) m := rfl
@[simp] theorem cmp_nei (a b : Int) : cmpX Γ .ne (.int a) (.int b) m = .ok (.bl (!(a == b))) m := rfl
@[simp] theorem cmp_lti (a b : Int) : cmpX Γ .lt (.int a) (.int b) m = .ok (.bl (decide (a < b))) m := rfl
@[simp] theorem cmp_lei (a b : Int) : cmpX Γ .le (.int a) (.int b) m = .ok (.bl (decide (a ≤ b))) m := rfl
@[simp] theorem cmp_gti (a b : Int) : cmpX Γ .gt (.int a) (.int b) m = .ok (.bl (decide (b < a))) m := rfl
@[simp] theorem cmp_gei (a b : Int) : cmpX Γ .ge (.int a) (.int b) m = .ok (.bl (decide (b ≤ a))) m := rfl
@[simp] theorem truth_bl (b : Bool) : truth m (.bl b) = some b := rfl
@[simp] theorem truth_int (i : Int) : truth m (.int i) = some (i != 0) := rfl
@[simp] theorem out_of {α : Type} (a : α) : Out.of m (some a) = .ok a m := rfl
end
/-! ### checks -/
def Kn (m : Mem) (d : D) : Prop := ((tyOf m d).isSome || (clsOf m d).isSome) = true
def isI : D → Bool
  | .int _ => true
  | _ => false
theorem tyOf_bool {m : Mem} {d : D} {t : String} (h : tyOf m d = some t) : (t == "int" || t == "bool") = true ↔ (∃ i, d = .int i) ∨ ∃ b, d = .bl b := by
  cases d with
  | ref i =>
    cases q : m[i]? with
    | none => simp [tyOf, rd, q] at h
    | some o => cases o <;> simp [tyOf, rd, q] at h <;> (subst h; simp)
  | _ => simp [tyOf, rd] at h <;> (subst h; simp)
def C_is_integer (f : List D → Mem → Out D) : Prop := ∀ (d : D) (m : Mem), Kn m d → f [d] m = .ok (.bl (isI d)) m
theorem isOne_int (Γ : Gam) {m : Mem} {d : D} (h : Kn m d) : isOne Γ m d (.ty "int") = some (match d with | .int _ => true | .bl _ => true | _ => false) ∧ isOne Γ m d (.ty "bool") = some (match d with | .bl _ => true | _ => false) := by
  unfold Kn at h
  cases q : tyOf m d with
  | some t =>
    simp only [isOne, q]
    cases d with
    | ref i =>
      cases q' : m[i]? with
      | none => simp [tyOf, rd, q'] at q
      | some o => cases o <;> simp [tyOf, rd, q'] at q <;> (subst q; exact ⟨rfl, rfl⟩)
    | _ => simp [tyOf, rd] at q <;> (subst q; exact ⟨rfl, rfl⟩)
  | none =>
    cases q' : clsOf m d with
    | none => rw [q, q'] at h; simp at h
    | some c =>
      simp only [isOne, q, clsX_cls q']
      cases d <;> simp [tyOf, rd, clsOf] at q q' <;> exact ⟨rfl, rfl⟩
theorem is_integer_ok (Γ : Gam) : C_is_integer (runF Γ fd_is_integer) := by
  intro d m h
  obtain ⟨h1, h2⟩ := isOne_int Γ h
  unfold fd_is_integer
  rw [runF_eq _ _ _ _ _ _ _ (by rfl)]
  simp [h1, h2]
  cases d <;> simp [isI]
/-- the items of what is fixed -/
def its : D → Option (List D)
  | .tup ds => some ds
  | .lst ds => some ds
  | _ => none
def noRef : D → Bool
  | .ref _ => false
  | _ => true
def C_is_listed (f : List D → Mem → Out D) : Prop := ∀ (d : D) (m : Mem), Kn m d → noRef d = true → f [d] m = .ok (.bl (its d).isSome) m
theorem is_listed_ok (Γ : Gam) : C_is_listed (runF Γ fd_is_listed) := by
  intro d m h hr
  unfold fd_is_listed
  rw [runF_eq _ _ _ _ _ _ _ (by rfl)]
  unfold Kn at h
  have e : isAny Γ m d [.ty "list", .ty "tuple"] = some (its d).isSome := by
    cases q : tyOf m d with
    | some t =>
      cases d with
      | ref i => simp [noRef] at hr
      | _ => simp [tyOf, rd] at q <;> (subst q; simp [isAny, isOne, tyOf, rd, its, tyNames])
    | none =>
      cases q' : clsOf m d with
      | none => rw [q, q'] at h; simp at h
      | some c =>
        cases d <;> simp [tyOf, rd, clsOf, noRef] at q q' hr <;> simp [isAny, isOne, tyOf, rd, its, tyNames, clsOf, clsX]
  simp [e]
def areI (d : D) (n : Nat) : Bool := match its d with
  | some ds => ds.length == n && ds.all isI
  | none => false
theorem boolsD_map (p : D → Bool) : ∀ ds : List D, boolsD (ds.map fun d => .bl (p d)) = some (ds.map p)
  | [] => rfl
  | d :: ds => by simp [boolsD, boolsD_map p ds]
def C_are_integers (f : List D → Mem → Out D) : Prop := ∀ (d : D) (n : Nat) (m : Mem), Kn m d → noRef d = true → (∀ ds, its d = some ds → ds.length ≤ 16777216 ∧ ∀ x ∈ ds, Kn m x) → f [d, .int n] m = .ok (.bl (areI d n)) m
theorem its_some {d : D} {ds : List D} (h : its d = some ds) : d = .tup ds ∨ d = .lst ds := by
  cases d <;> simp [its] at h <;> simp [h]
theorem beq_nn (a b : Nat) : ((a : Int) == (b : Int)) = (a == b) := by
  rw [Bool.eq_iff_iff]; simp only [beq_iff_eq]; omega
theorem are_integers_ok (Γ : Gam) (h1 : C_is_integer (Γ.fn "is_integer")) (h2 : C_is_listed (Γ.fn "is_listed")) : C_are_integers (runF Γ fd_are_integers) := by
  intro d n m hk hr hd
  unfold fd_are_integers
  rw [runF_eq _ _ _ _ _ _ _ (by rfl)]
  cases q : its d with
  | none => simp [h2 d m hk hr, q, areI]
  | some ds =>
    obtain ⟨hl, hx⟩ := hd ds q
    have L : lcLoop (lcT Γ [2] (.var 2) (.cst (.bl true)) (.call "is_integer" (.cons (.var 2) .nil)) [some d, some (.int n), none]) ds m = .ok (ds.map fun x => .bl (isI x)) m := lcLoop_map fun x hx' => by
      simp [lcT, h1 x m (hx x hx')]
    have e := boolsD_map isI ds
    rcases its_some q with rfl | rfl <;>
    by_cases hn2 : ds.length = n <;> (try subst hn2) <;> simp [h2 _ m hk hr, its, areI, beq_nn, *]
theorem Kn_int (m : Mem) (i : Int) : Kn m (.int i) := rfl
theorem Kn_tup (m : Mem) (i : List D) : Kn m (.tup i) := rfl
theorem Kn_lst (m : Mem) (i : List D) : Kn m (.lst i) := rfl
/-- a triple, as a tuple or as a list -/
def IsT (d : D) (v : V3) : Prop := its d = some [.int v.x, .int v.y, .int v.z]
theorem IsT.tup (v : V3) : IsT (vD v) v := rfl
theorem IsT.areI {d : D} {v : V3} (h : IsT d v) : areI d 3 = true := by unfold Pk.areI; rw [h]; rfl
theorem IsT.kn {d : D} {v : V3} (h : IsT d v) (m : Mem) : Kn m d ∧ noRef d = true ∧ ∀ ds, its d = some ds → ds.length ≤ 16777216 ∧ ∀ x ∈ ds, Kn m x := by
  rcases its_some h with rfl | rfl <;> (refine ⟨rfl, rfl, fun ds e => ?_⟩; cases e; simp [Kn_int])
def C_cross (f : List D → Mem → Out D) : Prop := ∀ (k : Nat) (u v : V3) (m : Mem), k < 400000 → VB k u → VB k v → f [vD u, vD v] m = .ok (vD (V3.cross u v)) m
theorem cross_ok (Γ : Gam) : C_cross (runF Γ fd_cross) := by
  intro k u v m hk hu hv
  have M : ∀ i j, Bd k i → Bd k j → mulOk i j = true := fun i j hi hj => hi.mulOk hj (by omega)
  unfold fd_cross
  rw [runF_eq _ _ _ _ _ _ _ (by rfl)]
  simp [M, hu.x, hu.y, hu.z, hv.x, hv.y, hv.z, V3.cross]
def C_dot (f : List D → Mem → Out D) : Prop := ∀ (k : Nat) (u v : V3) (m : Mem), k < 400000 → VB k u → VB k v → f [vD u, vD v] m = .ok (.int (V3.dot u v)) m
theorem dot_ok (Γ : Gam) : C_dot (runF Γ fd_dot) := by
  intro k u v m hk hu hv
  have M : ∀ i j, Bd k i → Bd k j → mulOk i j = true := fun i j hi hj => hi.mulOk hj (by omega)
  unfold fd_dot
  rw [runF_eq _ _ _ _ _ _ _ (by rfl)]
  simp [M, zipOk, tupsOf, fixd, zipD, lcLoop_cs, lcT, intsD, hu.x, hu.y, hu.z, hv.x, hv.y, hv.z, V3.dot]
  omega
def C_det (f : List D → Mem → Out D) : Prop := ∀ (k : Nat) (u v w : V3) (m : Mem), k < 100000 → VB k u → VB k v → VB k w → f [vD u, vD v, vD w] m = .ok (.int (Tri.det u v w)) m
theorem determinant_ok (Γ : Gam) (h1 : C_cross (Γ.fn "cross")) (h2 : C_dot (Γ.fn "dot")) : C_det (runF Γ fd_determinant) := by
  intro k u v w m hk hu hv hw
  unfold fd_determinant
  rw [runF_eq _ _ _ _ _ _ _ (by rfl)]
  simp [h1 k u v m (by omega) hu hv, h2 (k + k + 1) (V3.cross u v) w m (by omega) (hu.cross hv) (hw.mono (by omega)), Tri.det]
def C_normal (f : List D → Mem → Out D) : Prop := ∀ (k : Nat) (d : D) (v : V3) (m : Mem), k ≤ 9000 → VB k v → v.nz → IsT d v → f [d] m = .ok (vD v.nrm) m
/-- the numbers that are not 0 -/
theorem lc_nz {m : Mem} {f : D → Mem → Out (List D)} (h : ∀ i : Int, f (.int i) m = .ok (if i = 0 then [] else [.int i]) m) : ∀ l : List Int, lcLoop f (l.map .int) m = .ok ((l.filter (fun x => x != 0)).map .int) m
  | [] => rfl
  | a :: l => by
    rw [List.map_cons, lcLoop_cs, h, lcCons_ok, lc_nz h l]
    by_cases e : a = 0 <;> simp [e]
theorem hd0_cons {l : List Int} (h : NZ l) : ∃ r, l.filter (fun x => x != 0) = hd0 l :: r := by
  have := hd0_ne h
  unfold hd0 at *
  cases q : l.filter (fun x => x != 0) with
  | nil => rw [q] at this; simp at this
  | cons a r => exact ⟨r, rfl⟩
theorem gl3 (a b c : Int) : gl [a, b, c] = Nat.gcd (Nat.gcd a.natAbs b.natAbs) c.natAbs := by simp [gl]
theorem normal_ok (Γ : Gam) : C_normal (runF Γ fd_normal) := by
  intro k d v m hk hv hn ht
  obtain ⟨x, y, z⟩ := v
  have hN := (V3.nz_iff _).mp hn
  obtain ⟨r, hr⟩ := hd0_cons hN
  have L := lc_nz (m := m) (f := lcT Γ [3] (.var 3) (.cmp .ne (.var 3) (.cst (.int 0))) (.var 3) [some d, some (.int (gl [x, y, z] : Nat)), none, none]) (fun i => by
    by_cases e : i = 0 <;> simp [lcT, e, beq_eq_false_iff_ne.mpr]) [x, y, z]
  have hg := gl_pos hN
  have hb := gl_bd (k := k) hN (by simp [V3.l]; exact ⟨hv.x, hv.y, hv.z⟩)
  have D := divOk_of hg hb hk
  have M : ∀ j, Bd k j → mulOk 1 j = true ∧ mulOk (-1) j = true := fun j hj => ⟨mulOk_of 1 k (by decide) hj (by omega), mulOk_of 1 k (by decide) hj (by omega)⟩
  simp only [V3.l] at hr D hg
  rw [hr] at L
  have hrl : r.length ≤ 16777215 := by
    have := List.length_filter_le (fun x => x != 0) [x, y, z]
    rw [hr] at this
    simp at this
    omega
  unfold fd_normal
  rw [runF_eq _ _ _ _ _ _ _ (by rfl)]
  have e3 := gl3 x y z
  rcases its_some ht with rfl | rfl <;>
  simp only [List.map_cons, List.map_nil] at L <;>
  by_cases hs : 0 < hd0 [x, y, z] <;>
  simp [pyIx, ← e3, L, hrl, hs, lcLoop_cs, lcT, M, hv.x, hv.y, hv.z, D, V3.nrm, V3.l, sgn]
end Pk
end PL

set_option linter.all false
set_option maxHeartbeats 1000000
namespace PL
namespace Pk
open Tri
theorem divOk_gl {k : Nat} {l : List Int} (hn : NZ l) (h : ∀ x ∈ l, Bd k x) (hk : k ≤ 9000) : divOk (gl l : Int) = true := divOk_of (gl_pos hn) (gl_bd hn h) hk
/-- a value that reads as a triple of integers, not all 0 -/
def isTri (d : D) : Bool := match its d with
  | some [.int a, .int b, .int c] => decide (V3.nz ⟨a, b, c⟩)
  | _ => false
theorem areI3 {d : D} (h : areI d 3 = true) : ∃ v, IsT d v := by
  unfold areI at h
  cases q : its d with
  | none => simp [q] at h
  | some ds =>
    simp only [q, Bool.and_eq_true, beq_iff_eq] at h
    match ds, h.1 with
    | [a, b, c], _ =>
      have h := h.2
      simp only [List.all_cons, List.all_nil, Bool.and_true, Bool.and_eq_true] at h
      have I : ∀ x : D, isI x = true → ∃ i, x = .int i := fun x hx => by cases x <;> simp [isI] at hx; exact ⟨_, rfl⟩
      obtain ⟨x, rfl⟩ := I a h.1
      obtain ⟨y, rfl⟩ := I b h.2.1
      obtain ⟨z, rfl⟩ := I c h.2.2
      exact ⟨⟨x, y, z⟩, q⟩
theorem isTri_iff {d : D} {v : V3} (h : IsT d v) : isTri d = decide v.nz := by unfold isTri; rw [h]
theorem isTri_some {d : D} (h : isTri d = true) : ∃ v, IsT d v ∧ v.nz := by
  unfold isTri at h
  split at h
  · rename_i a b c e
    exact ⟨⟨a, b, c⟩, e, of_decide_eq_true h⟩
  · cases h
theorem isTri_areI {d : D} (h : areI d 3 = false) : isTri d = false := by
  cases q : isTri d with
  | false => rfl
  | true => obtain ⟨v, h1, _⟩ := isTri_some q; rw [h1.areI] at h; cases h
def Fine (m : Mem) (d : D) : Prop := Kn m d ∧ noRef d = true ∧ ∀ ds, its d = some ds → ds.length ≤ 16777216 ∧ ∀ x ∈ ds, Kn m x
def C_is_triple (f : List D → Mem → Out D) : Prop := ∀ (d : D) (m : Mem), Fine m d → f [d] m = .ok (.bl (isTri d)) m
theorem is_triple_ok (Γ : Gam) (h1 : C_are_integers (Γ.fn "are_integers")) : C_is_triple (runF Γ fd_is_triple) := by
  intro d m ⟨hk, hr, hd⟩
  unfold fd_is_triple
  rw [runF_eq _ _ _ _ _ _ _ (by rfl)]
  have e := h1 d 3 m hk hr hd
  cases q : areI d 3 with
  | false => rw [q] at e; simp [show ((3 : Nat) : Int) = 3 from rfl] at e; simp [e, isTri_areI q]
  | true =>
    rw [q] at e
    simp [show ((3 : Nat) : Int) = 3 from rfl] at e
    obtain ⟨v, hv⟩ := areI3 q
    rw [isTri_iff hv]
    obtain ⟨x, y, z⟩ := v
    rcases its_some hv with rfl | rfl <;> simp [e, lcLoop_cs, lcT, boolsD, V3.nz, V3.zero] <;> (rw [Bool.eq_iff_iff]; simp <;> omega)
def C_need_triple (f : List D → Mem → Out D) : Prop := ∀ (k : Nat) (d p : D) (v : V3) (m : Mem), k ≤ 9000 → VB k v → v.nz → IsT d v → f [d, p] m = .ok (vD v.nrm) m
theorem need_triple_ok (Γ : Gam) {fd : FD} (hfd : fd = ⟨2, 2, (.seq (.ife (.not (.call "is_triple" (.cons (.var 0) .nil))) (.seq .nev .skip) .skip) (.seq (.ret (.call "normal" (.cons (.var 0) .nil))) .skip)), 0⟩) (h1 : C_is_triple (Γ.fn "is_triple")) (h2 : C_normal (Γ.fn "normal")) : C_need_triple (runF Γ fd) := by
  intro k d p v m hk hv hn ht
  subst hfd
  rw [runF_eq _ _ _ _ _ _ _ (by rfl)]
  simp [h1 d m (ht.kn m), isTri_iff ht, hn, h2 k d v m hk hv hn ht]
/-- rows of a map -/
def IsM (d : D) (m : M3) : Prop := ∃ a b c, its d = some [a, b, c] ∧ IsT a m.a ∧ IsT b m.b ∧ IsT c m.c
theorem IsM.tup (m : M3) : IsM (mD m) m := ⟨_, _, _, rfl, .tup _, .tup _, .tup _⟩
def C_cofactors (f : List D → Mem → Out D) : Prop := ∀ (k : Nat) (n : M3) (m : Mem), k < 400000 → MB k n → f [mD n] m = .ok (.lst [vD n.cof.a, vD n.cof.b, vD n.cof.c]) m
theorem cofactors_ok (Γ : Gam) (h1 : C_cross (Γ.fn "cross")) : C_cofactors (runF Γ fd_cofactors) := by
  intro k n m hk hn
  unfold fd_cofactors
  rw [runF_eq _ _ _ _ _ _ _ (by rfl)]
  simp [pyIx, h1 k n.b n.c m hk hn.b hn.c, h1 k n.c n.a m hk hn.c hn.a, h1 k n.a n.b m hk hn.a hn.b, M3.cof]
def C_less (f : List D → Mem → Out D) : Prop := ∀ (u v : V3) (m : Mem), f [vD u, vD v] m = .ok (vD (V3.sub u v)) m
theorem less_ok (Γ : Gam) : C_less (runF Γ fd_less) := by
  intro u v m
  unfold fd_less
  rw [runF_eq _ _ _ _ _ _ _ (by rfl)]
  simp [zipOk, tupsOf, fixd, zipD, lcLoop_cs, lcT, V3.sub]
def C_are_rows (f : List D → Mem → Out D) : Prop := ∀ (k : Nat) (n : M3) (d : D) (m : Mem), k < 100000 → MB k n → its d = some [vD n.a, vD n.b, vD n.c] → f [d] m = .ok (.bl (decide (n.dt ≠ 0))) m
theorem are_rows_ok (Γ : Gam) (h0 : C_is_listed (Γ.fn "is_listed")) (h1 : C_are_integers (Γ.fn "are_integers")) (h2 : C_det (Γ.fn "determinant")) : C_are_rows (runF Γ fd_are_rows) := by
  intro k n d m hk hn hd
  unfold fd_are_rows
  rw [runF_eq _ _ _ _ _ _ _ (by rfl)]
  have e : ∀ v, Γ.fn "are_integers" [vD v, .int 3] m = .ok (.bl true) m := fun v => by
    obtain ⟨a, b, c⟩ := (IsT.tup v).kn m
    have := h1 (vD v) 3 m a b c
    rw [(IsT.tup v).areI] at this
    exact this
  have ea := e n.a
  have eb := e n.b
  have ec := e n.c
  rcases its_some hd with rfl | rfl
  · have el := h0 (.tup [vD n.a, vD n.b, vD n.c]) m rfl rfl
    simp [el, its, ea, eb, ec, lcLoop_cs, lcT, boolsD, pyIx, h2 k n.a n.b n.c m hk hn.a hn.b hn.c, M3.dt]
    by_cases z : Tri.det n.a n.b n.c = 0 <;> simp [z]
  · have el := h0 (.lst [vD n.a, vD n.b, vD n.c]) m rfl rfl
    simp [el, its, ea, eb, ec, lcLoop_cs, lcT, boolsD, pyIx, h2 k n.a n.b n.c m hk hn.a hn.b hn.c, M3.dt]
    by_cases z : Tri.det n.a n.b n.c = 0 <;> simp [z]
theorem nzLoop (Γ : Gam) (i : Nat) (ρ : Env) (h : i < ρ.length) (l : List Int) (m : Mem) : lcLoop (lcT Γ [i] (.var i) (.cmp .ne (.var i) (.cst (.int 0))) (.var i) ρ) (l.map .int) m = .ok ((l.filter (fun x => x != 0)).map .int) m := lc_nz (fun j => by
    by_cases e : j = 0 <;> simp [lcT, h, e, beq_eq_false_iff_ne.mpr]) l
def C_lowest (f : List D → Mem → Out D) : Prop := ∀ (k : Nat) (n : M3) (d : D) (m : Mem), k ≤ 9000 → MB k n → NZ n.l → its d = some [vD n.a, vD n.b, vD n.c] → f [d] m = .ok (mD n.nrm) m
theorem lowest_ok (Γ : Gam) : C_lowest (runF Γ fd_lowest) := by
  intro k n d m hk hb hN hd
  obtain ⟨⟨a, b, c⟩, ⟨e, g, h⟩, ⟨p, q, s⟩⟩ := n
  obtain ⟨r, hr⟩ := hd0_cons hN
  obtain ⟨⟨h1, h2, h3⟩, ⟨h4, h5, h6⟩, ⟨h7, h8, h9⟩⟩ := hb
  simp only [M3.l, V3.l, List.cons_append, List.nil_append] at hN hr
  have D := divOk_gl hN (by simp only [List.mem_cons, List.not_mem_nil, or_false, forall_eq_or_imp, forall_eq]; exact ⟨h1, h2, h3, h4, h5, h6, h7, h8, h9⟩) hk
  have M : ∀ j, Bd k j → mulOk 1 j = true ∧ mulOk (-1) j = true := fun j hj => ⟨mulOk_of 1 k (by decide) hj (by omega), mulOk_of 1 k (by decide) hj (by omega)⟩
  have hrl : r.length ≤ 16777215 := by
    have := List.length_filter_le (fun x => x != 0) [a, b, c, e, g, h, p, q, s]
    rw [hr] at this
    simp at this
    omega
  have G : gl [a, b, c, e, g, h, p, q, s] = (((((((a.natAbs.gcd b.natAbs).gcd c.natAbs).gcd e.natAbs).gcd g.natAbs).gcd h.natAbs).gcd p.natAbs).gcd q.natAbs).gcd s.natAbs := by simp [gl]
  have L := fun (ρ : Env) (hl : 3 < ρ.length) => nzLoop Γ 3 ρ hl [a, b, c, e, g, h, p, q, s] m
  rw [hr] at L
  simp only [List.map_cons, List.map_nil] at L
  have e0 : (0 : Int).natAbs.gcd a.natAbs = a.natAbs := Nat.gcd_zero_left _
  unfold fd_lowest
  rw [runF_eq _ _ _ _ _ _ _ (by rfl)]
  rcases its_some hd with rfl | rfl <;>
  by_cases hs : 0 < hd0 [a, b, c, e, g, h, p, q, s] <;>
  simp [pyIx, ↓L, lcLoop_cs, lcT2, lcT, forLoop_cons, forT, ← G, hrl, hs, M, D, h1, h2, h3, h4, h5, h6, h7, h8, h9, M3.nrm, M3.l, V3.l, sgn]
end Pk
end PL

set_option linter.all false
set_option maxHeartbeats 1000000
/-! the laws' own helpers -/
namespace PL
namespace Pk
open Tri
/-- a pen at the first place -/
abbrev Pn (s : Int) (r : Mem) : Mem := .lst [.int s] :: r
def Ok64 (s : Int) : Prop := 0 ≤ s ∧ s < 2 ^ 64
def fd_pen (a b : Int) : FD := ⟨1, 3, (.seq (.asg (.var 1) (.cst (.int a))) (.seq (.for_ (.var 2) (.itv (.var 0)) (.seq (.asg (.var 1) (.bin .mod (.blt .int (.cons (.bin .add (.bin .add (.bin .mul (.var 1) (.cst (.int 1000003))) (.bin .mod (.blt .int (.cons (.var 2) .nil)) (.bin .pow (.cst (.int 10)) (.cst (.int 18))))) (.cst (.int b))) .nil)) (.bin .sub (.bin .pow (.cst (.int 2)) (.cst (.int 61))) (.cst (.int 1))))) .skip)) (.seq (.ret (.nls (.cons (.var 1) .nil))) .skip))), 0⟩
def C_pen (f : List D → Mem → Out D) : Prop := ∀ ns : List Int, ∃ s, Ok64 s ∧ f [.lst (ns.map .int)] [] = .ok (.ref 0) (Pn s [])
theorem pen_ok (Γ : Gam) (a b : Int) (ha : 0 ≤ a ∧ a < 2 ^ 61) : C_pen (runF Γ (fd_pen a b)) := by
  intro ns
  unfold fd_pen
  rw [runF_eq _ _ _ _ _ _ _ (by rfl)]
  have key : ∀ (body : D → Env → Mem → SO) (x0 : Option D), (∀ s i x2, Ok64 s → ∃ s', Ok64 s' ∧ body (.int i) [x0, some (.int s), x2] [] = .nx [x0, some (.int s'), some (.int i)] []) → ∀ (l : List Int) s x2, Ok64 s → ∃ s' x3, Ok64 s' ∧ forLoop body (l.map .int) [x0, some (.int s), x2] [] = .nx [x0, some (.int s'), x3] [] := by
    intro body x0 hb l
    induction l with
    | nil => intro s x2 h; exact ⟨s, x2, h, rfl⟩
    | cons i l ih =>
      intro s x2 h
      obtain ⟨s', h1, h2⟩ := hb s i x2 h
      obtain ⟨s2, x3, h3, h4⟩ := ih s' _ h1
      refine ⟨s2, x3, h3, ?_⟩
      rw [List.map_cons, forLoop_cons, h2]
      exact h4
  obtain ⟨s', x3, h1, h2⟩ := key (forT Γ (.var 2) (.seq (.asg (.var 1) (.bin .mod (.blt .int (.cons (.bin .add (.bin .add (.bin .mul (.var 1) (.cst (.int 1000003))) (.bin .mod (.blt .int (.cons (.var 2) .nil)) (.bin .pow (.cst (.int 10)) (.cst (.int 18))))) (.cst (.int b))) .nil)) (.bin .sub (.bin .pow (.cst (.int 2)) (.cst (.int 61))) (.cst (.int 1))))) .skip)) (some (.lst (ns.map .int))) (fun s i x2 hs => by
    have M : mulOk s 1000003 = true := mulOk_of 64 20 (by obtain ⟨h1, h2⟩ := hs; omega) (by decide) (by decide)
    refine ⟨(s * 1000003 + i % 10 ^ 18 + b) % (2 ^ 61 - 1), ⟨Int.emod_nonneg _ (by decide), Int.lt_trans (Int.emod_lt_of_pos _ (by decide)) (by decide)⟩, ?_⟩
    simp [forT, M]) ns a none ⟨ha.1, by omega⟩
  refine ⟨s', h1, ?_⟩
  simp [h2]
def C_draw (f : List D → Mem → Out D) : Prop := ∀ (s many : Int) (r : Mem), Ok64 s → 1 ≤ many → ∃ d s', Ok64 s' ∧ 0 ≤ d ∧ d < many ∧ f [.ref 0, .int many] (Pn s r) = .ok (.int d) (Pn s' r)
theorem draw_ok (Γ : Gam) : C_draw (runF Γ fd__law_draw) := by
  intro s many r hs hm
  have M : mulOk s 6364136223846793005 = true := mulOk_of 64 64 (by obtain ⟨h1, h2⟩ := hs; omega) (by decide) (by decide)
  have V : divOk 65537 = true := by decide
  unfold fd__law_draw
  rw [runF_eq _ _ _ _ _ _ _ (by rfl)]
  refine ⟨((s * 6364136223846793005 + 1442695040888963407) % 2 ^ 64) / 65537 % many, (s * 6364136223846793005 + 1442695040888963407) % 2 ^ 64, ⟨Int.emod_nonneg _ (by decide), Int.emod_lt_of_pos _ (by decide)⟩, Int.emod_nonneg _ (by omega), Int.emod_lt_of_pos _ (by omega), ?_⟩
  simp [show ¬ many < 1 by omega, show 0 < many by omega, ixS, items, rd, pyIx, M, V]
def C_pick (f : List D → Mem → Out D) : Prop := ∀ (s : Int) (ds : List D) (r : Mem), Ok64 s → ds ≠ [] → ∃ x s', x ∈ ds ∧ Ok64 s' ∧ f [.ref 0, .lst ds] (Pn s r) = .ok x (Pn s' r)
theorem pick_ok (Γ : Gam) (h1 : C_draw (Γ.fn "_law_draw")) : C_pick (runF Γ fd__law_pick) := by
  intro s ds r hs hd
  have hl : 0 < ds.length := List.length_pos_iff.mpr hd
  obtain ⟨d, s', h2, h3, h4, h5⟩ := h1 s ds.length r hs (by omega)
  unfold fd__law_pick
  rw [runF_eq _ _ _ _ _ _ _ (by rfl)]
  obtain ⟨n, rfl⟩ := Int.eq_ofNat_of_zero_le h3
  have hn : n < ds.length := by omega
  refine ⟨ds[n], s', List.getElem_mem hn, h2, ?_⟩
  simp [h5, pyIx, hn]
def C_number (f : List D → Mem → Out D) : Prop := ∀ (s : Int) (r : Mem), Ok64 s → ∃ i s', Bd 67 i ∧ Ok64 s' ∧ f [.ref 0] (Pn s r) = .ok (.int i) (Pn s' r)
theorem number_ok (Γ : Gam) (h1 : C_draw (Γ.fn "_law_draw")) (h2 : C_pick (Γ.fn "_law_pick")) : C_number (runF Γ fd__law_number) := by
  intro s r hs
  unfold fd__law_number
  rw [runF_eq _ _ _ _ _ _ _ (by rfl)]
  obtain ⟨d, s1, a1, a2, a3, a4⟩ := h1 s 6 r hs (by decide)
  by_cases hd : 0 < d
  · obtain ⟨e, s2, b1, b2, b3, b4⟩ := h1 s1 9 r a1 (by decide)
    refine ⟨e - 4, s2, ?_, b1, ?_⟩
    · unfold Bd; omega
    · simp [a4, hd, b4]
  · obtain ⟨x, s2, b1, b2, b3⟩ := h2 s1 [.int 10, .int (-12), .int 97, .int 1000, .int (-1000000), .int 100000000000000000000] r a1 (by simp)
    have : ∃ i, x = .int i ∧ Bd 67 i := by
      simp only [List.mem_cons, List.not_mem_nil, or_false] at b1
      rcases b1 with rfl | rfl | rfl | rfl | rfl | rfl <;> exact ⟨_, rfl, by unfold Bd; decide⟩
    obtain ⟨i, rfl, hi⟩ := this
    refine ⟨i, s2, hi, b2, ?_⟩
    simp [a4, hd, b3]
theorem eqv_v (u v : V3) : D.eqv (vD u) (vD v) = decide (u = v) := by
  obtain ⟨a, b, c⟩ := u
  obtain ⟨d, e, f⟩ := v
  rw [Bool.eq_iff_iff]
  simp [D.eqv, D.eqvL]
@[simp] theorem cmp_eqv (Γ : Gam) (m : Mem) (a b c d e f : Int) : cmpX Γ .eq (.tup [.int a, .int b, .int c]) (.tup [.int d, .int e, .int f]) m = .ok (.bl (decide (a = d ∧ b = e ∧ c = f))) m := by
  have : D.eqv (.tup [.int a, .int b, .int c]) (.tup [.int d, .int e, .int f]) = decide (a = d ∧ b = e ∧ c = f) := by
    rw [Bool.eq_iff_iff]
    simp [D.eqv, D.eqvL]
  show Out.of m ((some (D.eqv (.tup [.int a, .int b, .int c]) (.tup [.int d, .int e, .int f]))).map D.bl) = _
  rw [this]; rfl
@[simp] theorem cmp_nev (Γ : Gam) (m : Mem) (a b c d e f : Int) : cmpX Γ .ne (.tup [.int a, .int b, .int c]) (.tup [.int d, .int e, .int f]) m = .ok (.bl (!decide (a = d ∧ b = e ∧ c = f))) m := by
  have : D.eqv (.tup [.int a, .int b, .int c]) (.tup [.int d, .int e, .int f]) = decide (a = d ∧ b = e ∧ c = f) := by
    rw [Bool.eq_iff_iff]
    simp [D.eqv, D.eqvL]
  show Out.of m ((some (!D.eqv (.tup [.int a, .int b, .int c]) (.tup [.int d, .int e, .int f]))).map D.bl) = _
  rw [this]; rfl
def C_triple (f : List D → Mem → Out D) : Prop := ∀ (s : Int) (r : Mem), Ok64 s → ∃ v s', VB 67 v ∧ v.nz ∧ Ok64 s' ∧ f [.ref 0] (Pn s r) = .ok (vD v) (Pn s' r)
theorem triple_ok (Γ : Gam) (h1 : C_number (Γ.fn "_law_number")) (h2 : C_pick (Γ.fn "_law_pick")) : C_triple (runF Γ fd__law_triple) := by
  intro s r hs
  unfold fd__law_triple
  rw [runF_eq _ _ _ _ _ _ _ (by rfl)]
  obtain ⟨a, s1, a1, a2, a3⟩ := h1 s r hs
  obtain ⟨b, s2, b1, b2, b3⟩ := h1 s1 r a2
  obtain ⟨x, s3, c1, c2, c3⟩ := h2 s2 [.int 1, .int 1, .int 1, .int 2, .int 0, .int (-3)] r b2 (by simp)
  have : ∃ i, x = .int i ∧ Bd 67 i := by
    simp only [List.mem_cons, List.not_mem_nil, or_false] at c1
    rcases c1 with rfl | rfl | rfl | rfl | rfl | rfl <;> exact ⟨_, rfl, by unfold Bd; decide⟩
  obtain ⟨c, rfl, hc⟩ := this
  by_cases h : a = 0 ∧ b = 0 ∧ c = 0
  · refine ⟨⟨1, 2, 0⟩, s3, ⟨by unfold Bd; decide, by unfold Bd; decide, by unfold Bd; decide⟩, by decide, c2, ?_⟩
    simp [a3, b3, c3, h]
  · refine ⟨⟨a, b, c⟩, s3, ⟨a1, b1, hc⟩, ?_, c2, ?_⟩
    · intro z
      simp only [V3.zero, V3.mk.injEq] at z
      exact h z
    · simp [a3, b3, c3, h]
def C_gcd (f : List D → Mem → Out D) : Prop := ∀ (k : Nat) (a b : Int) (m : Mem), k ≤ 9000 → Bd k b → f [.int a, .int b] m = .ok (.int (Nat.gcd a.natAbs b.natAbs : Nat)) m
abbrev gcdC : E := .cmp .gt (.var 1) (.cst (.int 0))
abbrev gcdB : S := .seq (.asg (.tup (.cons (.var 0) (.cons (.var 1) .nil))) (.tup (.cons (.var 1) (.cons (.bin .mod (.blt .int (.cons (.var 0) .nil)) (.var 1)) .nil)))) .skip
theorem gcd_loop (Γ : Gam) (m : Mem) : ∀ (j n : Nat) (a b : Nat), b < 2 ^ j → 2 * j + 1 ≤ n → ∃ x, whlLoop (ev Γ gcdC) (ex Γ gcdB) n [some (.int a), some (.int b)] m = .nx [some (.int (Nat.gcd a b : Nat)), x] m := by
  have stop : ∀ (n a : Nat), 1 ≤ n → whlLoop (ev Γ gcdC) (ex Γ gcdB) n [some (.int a), some (.int (0 : Nat))] m = .nx [some (.int a), some (.int (0 : Nat))] m := by
    intro n a hn
    obtain ⟨n, rfl⟩ : ∃ k, n = k + 1 := ⟨n - 1, by omega⟩
    rw [whlLoop_succ]
    simp
  have step : ∀ (n a b : Nat), 0 < b → whlLoop (ev Γ gcdC) (ex Γ gcdB) (n + 1) [some (.int a), some (.int b)] m = whlLoop (ev Γ gcdC) (ex Γ gcdB) n [some (.int b), some (.int (a % b : Nat))] m := by
    intro n a b hb
    rw [whlLoop_succ]
    simp [hb]
  intro j
  induction j with
  | zero =>
    intro n a b hb hn
    obtain rfl : b = 0 := by simpa using hb
    exact ⟨_, by rw [stop n a (by omega), Nat.gcd_zero_right]⟩
  | succ j ih =>
    intro n a b hb hn
    by_cases h0 : b = 0
    · subst h0
      exact ⟨_, by rw [stop n a (by omega), Nat.gcd_zero_right]⟩
    · obtain ⟨n, rfl⟩ : ∃ k, n = k + 2 := ⟨n - 2, by omega⟩
      rw [show n + 2 = (n + 1) + 1 from rfl, step (n + 1) a b (by omega)]
      by_cases h1 : a % b = 0
      · rw [h1]
        refine ⟨some (.int (0 : Nat)), ?_⟩
        rw [stop (n + 1) b (by omega), Nat.gcd_comm a b, Nat.gcd_rec b a, h1, Nat.gcd_zero_left]
      · rw [step n b (a % b) (by omega)]
        have l1 : a % b < b := Nat.mod_lt _ (by omega)
        have l2 : b % (a % b) < 2 ^ j := by
          have e1 : b % (a % b) < a % b := Nat.mod_lt _ (by omega)
          have e2 : b % (a % b) ≤ b - (a % b) := by
            rw [Nat.mod_eq_sub_mod (by omega)]
            exact Nat.mod_le _ _
          rw [Nat.pow_succ] at hb
          omega
        obtain ⟨x, hx⟩ := ih n (a % b) (b % (a % b)) l2 (by omega)
        refine ⟨x, ?_⟩
        rw [hx]
        have : Nat.gcd (a % b) (b % (a % b)) = Nat.gcd a b := by
          rw [Nat.gcd_comm a b, Nat.gcd_rec b a, Nat.gcd_rec (a % b) b, Nat.gcd_comm]
        rw [this]
theorem gcd_ok (Γ : Gam) (hf : Γ.fuel = 1000000) : C_gcd (runF Γ fd__law_gcd) := by
  intro k a b m hk hb
  unfold fd__law_gcd
  rw [runF_eq _ _ _ _ _ _ _ (by rfl)]
  obtain ⟨x, hx⟩ := gcd_loop Γ m k 1000000 a.natAbs b.natAbs hb (by omega)
  have ea : (if a < 0 then -a else a) = (a.natAbs : Int) := by split <;> omega
  have eb : (if b < 0 then -b else b) = (b.natAbs : Int) := by split <;> omega
  simp [ea, eb, hf, hx]
def C_lnormal (f : List D → Mem → Out D) : Prop := ∀ (k : Nat) (d : D) (v : V3) (m : Mem), k ≤ 9000 → VB k v → v.nz → IsT d v → f [d] m = .ok (vD v.nrm) m
theorem sub_ediv {g x : Int} (h : g ∣ x) : 0 - x / g = -1 * x / g := by
  obtain ⟨c, rfl⟩ := h
  by_cases hg : g = 0
  · subst hg; simp
  · rw [Int.mul_ediv_cancel_left _ hg, show -1 * (g * c) = g * (-c) by grind, Int.mul_ediv_cancel_left _ hg]; omega
theorem lnormal_ok (Γ : Gam) (h1 : C_gcd (Γ.fn "_law_gcd")) : C_lnormal (runF Γ fd__law_normal) := by
  intro k d v m hk hv hn ht
  obtain ⟨x, y, z⟩ := v
  have hN := (V3.nz_iff _).mp hn
  obtain ⟨r, hr⟩ := hd0_cons hN
  have D := divOk_gl hN (k := k) (by simp [V3.l]; exact ⟨hv.x, hv.y, hv.z⟩) hk
  simp only [V3.l] at hr D
  have L := fun (ρ : Env) (hl : 3 < ρ.length) => nzLoop Γ 3 ρ hl [x, y, z] m
  rw [hr] at L
  simp only [List.map_cons, List.map_nil] at L
  have hrl : r.length ≤ 16777215 := by
    have := List.length_filter_le (fun x => x != 0) [x, y, z]
    rw [hr] at this
    simp at this
    omega
  have g1 := h1 k x y m hk hv.y
  have g2 := h1 k (Nat.gcd x.natAbs y.natAbs : Nat) z m hk hv.z
  have e3 := gl3 x y z
  rw [Int.natAbs_natCast, ← e3] at g2
  have d1 : ∀ i ∈ [x, y, z], ((gl [x, y, z] : Nat) : Int) ∣ i := fun i hi => gl_dvd hi
  simp only [List.mem_cons, List.not_mem_nil, or_false, forall_eq_or_imp, forall_eq] at d1
  obtain ⟨d1, d2, d3⟩ := d1
  unfold fd__law_normal
  rw [runF_eq _ _ _ _ _ _ _ (by rfl)]
  rcases its_some ht with rfl | rfl <;>
  by_cases hs : 0 < hd0 [x, y, z] <;>
  simp [pyIx, g1, g2, ↓L, hrl, hs, lcLoop_cs, lcT, D, V3.nrm, V3.l, sgn]
  · exact ⟨by simpa using sub_ediv d1, by simpa using sub_ediv d2, by simpa using sub_ediv d3⟩
  · exact ⟨by simpa using sub_ediv d1, by simpa using sub_ediv d2, by simpa using sub_ediv d3⟩
theorem lcross_ok (Γ : Gam) : C_cross (runF Γ fd__law_cross) := by
  intro k u v m hk hu hv
  have M : ∀ i j, Bd k i → Bd k j → mulOk i j = true := fun i j hi hj => hi.mulOk hj (by omega)
  unfold fd__law_cross
  rw [runF_eq _ _ _ _ _ _ _ (by rfl)]
  simp [pyIx, M, hu.x, hu.y, hu.z, hv.x, hv.y, hv.z, V3.cross]
theorem ldet_ok (Γ : Gam) : C_det (runF Γ fd__law_det) := by
  intro k u v w m hk hu hv hw
  have M : ∀ i j, Bd k i → Bd k j → mulOk i j = true := fun i j hi hj => hi.mulOk hj (by omega)
  have M3 : ∀ i j l, Bd k i → Bd k j → Bd k l → mulOk (i * j) l = true := fun i j l hi hj hl => mulOk_of (k + k) k (hi.mul hj) hl (by omega)
  unfold fd__law_det
  rw [runF_eq _ _ _ _ _ _ _ (by rfl)]
  simp [pyIx, M, M3, hu.x, hu.y, hu.z, hv.x, hv.y, hv.z, hw.x, hw.y, hw.z, Tri.det, V3.cross, V3.dot]
  grind
end Pk
end PL

set_option linter.all false
set_option maxHeartbeats 4000000
/-! contracts: errors, what catches them, triples from outside -/
namespace PL
namespace Pk
open Tri
/-- the classes of errors -/
structure GExc (Γ : Gam) : Prop where
  m1 : Γ.mro "BadTriple" = ["BadTriple", "OfPart", "RulerError"]
  m2 : Γ.mro "BadMap" = ["BadMap", "OfPart", "RulerError"]
  m3 : Γ.mro "BadPlan" = ["BadPlan", "OfPart", "RulerError"]
  m4 : Γ.mro "BadProgram" = ["BadProgram", "OfPart", "RulerError"]
  m5 : Γ.mro "BadClaim" = ["BadClaim", "OfPart", "RulerError"]
  m6 : Γ.mro "BadTaken" = ["BadTaken", "OfPart", "RulerError"]
  m7 : Γ.mro "BadNumber" = ["BadNumber", "OfPart", "RulerError"]
  m8 : Γ.mro "BadValue" = ["BadValue", "OfPart", "RulerError"]
  m9 : Γ.mro "BadPaper" = ["BadPaper", "OfPart", "RulerError"]
  m10 : Γ.mro "Misfit" = ["Misfit", "OfPart", "RulerError"]
  m11 : Γ.mro "Nothing" = ["Nothing", "OfPart", "RulerError"]
  m12 : Γ.mro "BadRow" = ["BadRow", "RulerError"]
  m13 : Γ.mro "NoName" = ["NoName", "RulerError"]
  m14 : Γ.mro "Nought" = ["Nought", "RulerError"]
  m15 : Γ.mro "BadText" = ["BadText", "RulerError"]
  m16 : Γ.mro "TooMany" = ["TooMany", "RulerError"]
  f1 : Γ.fld "BadTriple" "part" = true
  f2 : Γ.fld "BadMap" "part" = true
  f3 : Γ.fld "BadPlan" "part" = true
  f4 : Γ.fld "BadProgram" "part" = true
  f5 : Γ.fld "BadClaim" "part" = true
  f6 : Γ.fld "BadTaken" "part" = true
  f7 : Γ.fld "BadNumber" "part" = true
  f8 : Γ.fld "BadValue" "part" = true
  f9 : Γ.fld "BadPaper" "part" = true
  f10 : Γ.fld "Misfit" "part" = true
  f11 : Γ.fld "Nothing" "part" = true
  f12 : Γ.fld "BadRow" "at" = true
  f13 : Γ.fld "NoName" "name" = true
  f14 : Γ.fld "Nought" "name" = true
  f15 : Γ.fld "BadText" "line" = true ∧ Γ.fld "BadText" "word" = true
  f16 : Γ.fld "TooMany" "what" = true ∧ Γ.fld "TooMany" "most" = true
/-- an error with a part -/
abbrev eP (C : String) (p : D) : D := .exc C ["part"] [p]
def partWords : List (String × String) := [("BadTriple", "triple"), ("BadMap", "map"), ("BadPlan", "plan"), ("BadProgram", "program"), ("BadClaim", "claim"), ("BadTaken", "taken"), ("BadNumber", "number"), ("BadValue", "value"), ("BadPaper", "paper"), ("Misfit", "misfit"), ("Nothing", "nothing")]
structure C_caught (f : List D → Mem → Out D) : Prop where
  ok : ∀ x m, f [.non, x] m = .ok (.lst [x]) m
  pt : ∀ C w p m, (C, w) ∈ partWords → f [eP C p] m = .ok (.tup [.str w, p]) m
  row : ∀ a m, f [.exc "BadRow" ["at"] [a]] m = .ok (.tup [.str "row", a]) m
  nn : ∀ a m, f [.exc "NoName" ["name"] [a]] m = .ok (.tup [.str "noname", a]) m
  no : ∀ a m, f [.exc "Nought" ["name"] [a]] m = .ok (.tup [.str "nought", a]) m
  tx : ∀ a b m, f [.exc "BadText" ["line", "word"] [a, b]] m = .ok (.tup [.str "text", a, b]) m
  mn : ∀ a b m, f [.exc "TooMany" ["what", "most"] [a, b]] m = .ok (.tup [.str "many", a, b]) m
theorem isOne_exc (Γ : Gam) (m : Mem) (C X : String) (ns : List String) (ds : List D) : isOne Γ m (.exc C ns ds) (.cls X) = some ((Γ.mro C).contains X) := rfl
theorem att_exc (Γ : Gam) (m : Mem) (C f : String) (ns : List String) (ds : List D) : attS Γ m f (.exc C ns ds) = if Γ.fld C f = true then lkp f ns ds else none := rfl
theorem caught_ok (Γ : Gam) (g : GExc Γ) : C_caught (runC Γ fd__law_caught) := by
  constructor
  · intro x m
    unfold fd__law_caught
    rw [runC_eq _ _ _ _ _ _ _ (by simp)]
    simp [cmp_is_non]
  · intro C w p m h
    unfold fd__law_caught
    rw [runC_eq _ _ _ _ _ _ _ (by simp)]
    simp only [partWords, List.mem_cons, List.not_mem_nil, or_false, Prod.mk.injEq] at h
    rcases h with h | h | h | h | h | h | h | h | h | h | h <;> obtain ⟨rfl, rfl⟩ := h <;>
    simp [cmp_is_non, isOne_exc, att_exc, lkp, g.m1, g.m2, g.m3, g.m4, g.m5, g.m6, g.m7, g.m8, g.m9, g.m10, g.m11, g.f1, g.f2, g.f3, g.f4, g.f5, g.f6, g.f7, g.f8, g.f9, g.f10, g.f11, lcLoop_cs, lcT, pyIx]
  · intro a m
    unfold fd__law_caught
    rw [runC_eq _ _ _ _ _ _ _ (by simp)]
    simp [cmp_is_non, isOne_exc, att_exc, lkp, g.m12, g.f12]
  · intro a m
    unfold fd__law_caught
    rw [runC_eq _ _ _ _ _ _ _ (by simp)]
    simp [cmp_is_non, isOne_exc, att_exc, lkp, g.m13, g.f13]
  · intro a m
    unfold fd__law_caught
    rw [runC_eq _ _ _ _ _ _ _ (by simp)]
    simp [cmp_is_non, isOne_exc, att_exc, lkp, g.m14, g.f14]
  · intro a b m
    unfold fd__law_caught
    rw [runC_eq _ _ _ _ _ _ _ (by simp)]
    simp [cmp_is_non, isOne_exc, att_exc, lkp, g.m15, g.f15]
  · intro a b m
    unfold fd__law_caught
    rw [runC_eq _ _ _ _ _ _ _ (by simp)]
    simp [cmp_is_non, isOne_exc, att_exc, lkp, g.m16, g.f16]
/-! triples from outside -/
structure C_need_tri (f : List D → Mem → Out D) : Prop where
  ok : ∀ (k : Nat) (d p : D) (v : V3) (m : Mem), k ≤ 9000 → VB k v → v.nz → IsT d v → f [d, p] m = .ok (vD v.nrm) m
  no : ∀ (d p : D) (m : Mem), Fine m d → isTri d = false → f [d, p] m = .err (eP "BadTriple" p) m
theorem need_tri_ok (Γ : Gam) (h1 : C_is_triple (Γ.fn "is_triple")) (h2 : C_normal (Γ.fn "normal")) : C_need_tri (runF Γ fd_need_triple) := by
  constructor
  · intro k d p v m hk hv hn ht
    unfold fd_need_triple
    rw [runF_eq _ _ _ _ _ _ _ (by rfl)]
    simp [h1 d m (ht.kn m), isTri_iff ht, hn, h2 k d v m hk hv hn ht]
  · intro d p m hd ht
    unfold fd_need_triple
    rw [runF_eq _ _ _ _ _ _ _ (by rfl)]
    simp [h1 d m hd, ht]
structure C_placed (f : List D → Mem → Out D) : Prop where
  ok : ∀ (k : Nat) (d : D) (v : V3) (m : Mem), k ≤ 9000 → VB k v → v.nz → IsT d v → f [d] m = .ok (vD v.nrm) m
  no : ∀ (d : D) (m : Mem), Fine m d → isTri d = false → f [d] m = .err (eP "BadTriple" (.str "triple")) m
theorem placed_ok (Γ : Gam) (h : C_need_tri (Γ.fn "need_triple")) : C_placed (runF Γ fd_placed) := by
  constructor
  · intro k d v m hk hv hn ht
    unfold fd_placed
    rw [runF_eq _ _ _ _ _ _ _ (by rfl)]
    simp [h.ok k d _ v m hk hv hn ht]
  · intro d m hd ht
    unfold fd_placed
    rw [runF_eq _ _ _ _ _ _ _ (by rfl)]
    simp [h.no d _ m hd ht]
def C_is_nought (f : List D → Mem → Out D) : Prop := ∀ (v : V3) (m : Mem), f [vD v] m = .ok (.bl (decide (v = V3.zero))) m
theorem is_nought_ok (Γ : Gam) : C_is_nought (runF Γ fd_is_nought) := by
  intro v m
  obtain ⟨x, y, z⟩ := v
  unfold fd_is_nought
  rw [runF_eq _ _ _ _ _ _ _ (by rfl)]
  simp [lcLoop_cs, lcT, boolsD, V3.zero]
  rw [Bool.eq_iff_iff]; simp
structure C_joined (f : List D → Mem → Out D) : Prop where
  ok : ∀ (k : Nat) (d e : D) (u v : V3) (m : Mem), k ≤ 4000 → VB k u → VB k v → u.nz → v.nz → IsT d u → IsT e v → V3.cross u.nrm v.nrm ≠ V3.zero → f [d, e] m = .ok (vD (V3.cross u.nrm v.nrm).nrm) m
  one : ∀ (k : Nat) (d e : D) (u v : V3) (m : Mem), k ≤ 4000 → VB k u → VB k v → u.nz → v.nz → IsT d u → IsT e v → V3.cross u.nrm v.nrm = V3.zero → f [d, e] m = .err (eP "BadTriple" (.str "both")) m
  no1 : ∀ (d e : D) (m : Mem), Fine m d → isTri d = false → f [d, e] m = .err (eP "BadTriple" (.str "one")) m
  no2 : ∀ (k : Nat) (d e : D) (u : V3) (m : Mem), k ≤ 9000 → VB k u → u.nz → IsT d u → Fine m e → isTri e = false → f [d, e] m = .err (eP "BadTriple" (.str "other")) m
theorem joined_ok (Γ : Gam) (h : C_need_tri (Γ.fn "need_triple")) (h2 : C_cross (Γ.fn "cross")) (h3 : C_is_nought (Γ.fn "is_nought")) (h4 : C_normal (Γ.fn "normal")) : C_joined (runF Γ fd_joined) := by
  constructor
  · intro k d e u v m hk hu hv nu nv tu tv hc
    unfold fd_joined
    rw [runF_eq _ _ _ _ _ _ _ (by rfl)]
    simp [h.ok k d _ u m (by omega) hu nu tu, h.ok k e _ v m (by omega) hv nv tv, h2 k u.nrm v.nrm m (by omega) hu.nrm hv.nrm, h3 (V3.cross u.nrm v.nrm) m, hc, h4 (k + k + 1) _ _ m (by omega) (hu.nrm.cross hv.nrm) hc (.tup _)]
  · intro k d e u v m hk hu hv nu nv tu tv hc
    unfold fd_joined
    rw [runF_eq _ _ _ _ _ _ _ (by rfl)]
    simp [h.ok k d _ u m (by omega) hu nu tu, h.ok k e _ v m (by omega) hv nv tv, h2 k u.nrm v.nrm m (by omega) hu.nrm hv.nrm, h3 V3.zero m, hc]
  · intro d e m hd ht
    unfold fd_joined
    rw [runF_eq _ _ _ _ _ _ _ (by rfl)]
    simp [h.no d _ m hd ht]
  · intro k d e u m hk hu nu tu hd ht
    unfold fd_joined
    rw [runF_eq _ _ _ _ _ _ _ (by rfl)]
    simp [h.ok k d _ u m (by omega) hu nu tu, h.no e _ m hd ht]
structure C_lies_on (f : List D → Mem → Out D) : Prop where
  ok : ∀ (k : Nat) (d e : D) (u v : V3) (m : Mem), k ≤ 9000 → VB k u → VB k v → u.nz → v.nz → IsT d u → IsT e v → f [d, e] m = .ok (.bl (decide (V3.dot u v = 0))) m
  no1 : ∀ (d e : D) (m : Mem), Fine m d → isTri d = false → f [d, e] m = .err (eP "BadTriple" (.str "point")) m
  no2 : ∀ (k : Nat) (d e : D) (u : V3) (m : Mem), k ≤ 9000 → VB k u → u.nz → IsT d u → Fine m e → isTri e = false → f [d, e] m = .err (eP "BadTriple" (.str "line")) m
theorem dot_nrm {u v : V3} (hu : u.nz) (hv : v.nz) : V3.dot u.nrm v.nrm = 0 ↔ V3.dot u v = 0 := by
  conv => rhs; rw [u.nrm_by, v.nrm_by, V3.dot_sm]
  constructor
  · intro h; rw [h]; simp
  · intro h
    exact (Int.mul_eq_zero.mp h).resolve_left (Int.mul_ne_zero (V3.by_ne hu) (V3.by_ne hv))
theorem lies_on_ok (Γ : Gam) (h : C_need_tri (Γ.fn "need_triple")) (h2 : C_dot (Γ.fn "dot")) : C_lies_on (runF Γ fd_lies_on) := by
  constructor
  · intro k d e u v m hk hu hv nu nv tu tv
    unfold fd_lies_on
    rw [runF_eq _ _ _ _ _ _ _ (by rfl)]
    simp [h.ok k d _ u m (by omega) hu nu tu, h.ok k e _ v m (by omega) hv nv tv, h2 k u.nrm v.nrm m (by omega) hu.nrm hv.nrm]
    rw [Bool.eq_iff_iff]
    simp [dot_nrm nu nv]
  · intro d e m hd ht
    unfold fd_lies_on
    rw [runF_eq _ _ _ _ _ _ _ (by rfl)]
    simp [h.no d _ m hd ht]
  · intro k d e u m hk hu nu tu hd ht
    unfold fd_lies_on
    rw [runF_eq _ _ _ _ _ _ _ (by rfl)]
    simp [h.ok k d _ u m (by omega) hu nu tu, h.no e _ m hd ht]
theorem ldot_ok (Γ : Gam) : C_dot (runF Γ fd__law_dot) := by
  intro k u v m hk hu hv
  have M : ∀ i j, Bd k i → Bd k j → mulOk i j = true := fun i j hi hj => hi.mulOk hj (by omega)
  unfold fd__law_dot
  rw [runF_eq _ _ _ _ _ _ _ (by rfl)]
  simp [pyIx, M, hu.x, hu.y, hu.z, hv.x, hv.y, hv.z, V3.dot]
theorem reprOk_v {k : Nat} {v : V3} (h : VB k v) (hk : k ≤ 1900) : reprOk (vD v) = true := by
  have L : ∀ i : Int, Bd k i → i.natAbs.log2 < 1920 := fun i hi => by
    by_cases z : i.natAbs = 0
    · rw [z]; decide
    · exact Nat.lt_of_lt_of_le ((Nat.log2_lt z).2 hi) (by omega)
  simp [reprOk, D.plain, D.plainL, D.showB, D.showBL, txtN, txtL, L _ h.x, L _ h.y, L _ h.z]
theorem reprOk_vl {k : Nat} {v : V3} (h : VB k v) (hk : k ≤ 1900) : reprOk (.lst [vD v]) = true := by
  have L : ∀ i : Int, Bd k i → i.natAbs.log2 < 1920 := fun i hi => by
    by_cases z : i.natAbs = 0
    · rw [z]; decide
    · exact Nat.lt_of_lt_of_le ((Nat.log2_lt z).2 hi) (by omega)
  simp [reprOk, D.plain, D.plainL, D.showB, D.showBL, txtN, txtL, L _ h.x, L _ h.y, L _ h.z]
theorem reprOk_bl (b : Bool) : reprOk (.bl b) = true := by simp [reprOk, D.plain, D.showB, txtN]
theorem cmp_nevv (Γ : Gam) (m : Mem) (u v : V3) : cmpX Γ .ne (vD u) (vD v) m = .ok (.bl (!decide (u = v))) m := by
  rw [cmp_nev]
  congr 3
  rw [Bool.eq_iff_iff]
  simp only [decide_eq_true_eq]
  constructor
  · rintro ⟨a, b, c⟩; exact V3.l_inj (by simp only [V3.l, a, b, c])
  · rintro rfl; exact ⟨rfl, rfl, rfl⟩
theorem cmp_eqvv (Γ : Gam) (m : Mem) (u v : V3) : cmpX Γ .eq (vD u) (vD v) m = .ok (.bl (decide (u = v))) m := by
  rw [cmp_eqv]
  congr 2
  rw [Bool.eq_iff_iff]
  simp only [decide_eq_true_eq]
  constructor
  · rintro ⟨a, b, c⟩; exact V3.l_inj (by simp only [V3.l, a, b, c])
  · rintro rfl; exact ⟨rfl, rfl, rfl⟩
theorem cmp_ne0 (Γ : Gam) (m : Mem) (v : V3) : cmpX Γ .ne (vD v) (.tup [.int 0, .int 0, .int 0]) m = .ok (.bl (!decide (v = V3.zero))) m := cmp_nevv Γ m v V3.zero
theorem cmp_eq0 (Γ : Gam) (m : Mem) (v : V3) : cmpX Γ .eq (vD v) (.tup [.int 0, .int 0, .int 0]) m = .ok (.bl (decide (v = V3.zero))) m := cmp_eqvv Γ m v V3.zero
theorem join_nrm {u v : V3} {t : Int} (ht : t ≠ 0) (hu : u.nz) (hv : v.nz) (h : V3.cross u v ≠ V3.zero) : V3.cross (u.sm t).nrm v.nrm ≠ V3.zero ∧ (V3.cross (u.sm t).nrm v.nrm).nrm = (V3.cross u v).nrm := by
  rw [V3.nrm_sm ht hu]
  have e : V3.cross u v = (V3.cross u.nrm v.nrm).sm (u.by_ * v.by_) := by
    conv => lhs; rw [u.nrm_by, v.nrm_by, V3.cross_sm]
  have c : u.by_ * v.by_ ≠ 0 := Int.mul_ne_zero (V3.by_ne hu) (V3.by_ne hv)
  have n : V3.cross u.nrm v.nrm ≠ V3.zero := fun z => h (by rw [e, z]; simp [V3.sm, V3.zero])
  refine ⟨n, ?_⟩
  rw [e, V3.nrm_sm c n]
theorem join_zero {u v : V3} {t : Int} (ht : t ≠ 0) (hu : u.nz) (hv : v.nz) (h : V3.cross u v = V3.zero) : V3.cross (u.sm t).nrm v.nrm = V3.zero := by
  rw [V3.nrm_sm ht hu]
  have e : V3.cross u v = (V3.cross u.nrm v.nrm).sm (u.by_ * v.by_) := by
    conv => lhs; rw [u.nrm_by, v.nrm_by, V3.cross_sm]
  have c : u.by_ * v.by_ ≠ 0 := Int.mul_ne_zero (V3.by_ne hu) (V3.by_ne hv)
  rw [h] at e
  have a := (congrArg V3.x e).symm
  have b := (congrArg V3.y e).symm
  have d := (congrArg V3.z e).symm
  exact V3.l_inj (by simp only [V3.l, V3.zero, List.cons.injEq, and_true]; exact ⟨(Int.mul_eq_zero.mp a).resolve_left c, (Int.mul_eq_zero.mp b).resolve_left c, (Int.mul_eq_zero.mp d).resolve_left c⟩)
theorem dot_cross (u v : V3) : V3.dot u (V3.cross u v) = 0 := by simp only [V3.dot, V3.cross]; grind
end Pk
end PL

set_option Elab.async false
set_option linter.all false
set_option maxRecDepth 100000
set_option maxHeartbeats 4000000
namespace PL
namespace Law
open PySem L2
def top (i : Nat) : Stmt := PySem.Challenge.pw_rulerdrawn_k01_maps.main.body.getD i (.Pass ⟨0, 0, 0, 0⟩)
/-! Map.__eq__ -/
abbrev st_Map_du_equ : Stmt := inClass (top 34) 5
def N_Map_du_equ : List Str := ["self", "other"]
def ps_Map_du_equ : List Str := ["self", "other"]
abbrev fd_Map_du_equ : FD := Pk.fd_Map_du_equ
theorem sc_Map_du_equ : FnScope N_Map_du_equ ps_Map_du_equ (defScope st_Map_du_equ) := ⟨by decide +kernel, by decide +kernel, by decide +kernel, by decide +kernel, by decide +kernel, by decide +kernel, by decide +kernel⟩
def row_Map_du_equ : Row := ⟨"Map.__eq__", "__eq__", "Map.__eq__", st_Map_du_equ, 1, N_Map_du_equ, ps_Map_du_equ, fd_Map_du_equ, some ("Map", "__eq__"), false⟩
theorem bd_Map_du_equ (kV doc pm : Value) (an : Option Addr) (cdv ct : Value) (us : List Value) (hl : us.length = ps_Map_du_equ.length) : bindArgs (PySem.W.fnOf "__eq__" "Map.__eq__" (defArgs st_Map_du_equ) (defBody st_Map_du_equ) (defScope st_Map_du_equ) .none kV doc pm an cdv ct) ⟨us, []⟩ = pure (ps_Map_du_equ.zip us) := match us, hl with | [_, _], _ => rfl
/-! _law_caught -/
abbrev st__law_caught : Stmt := top 42
def N__law_caught : List Str := ["ask", "caught", "found", "error", "some", "word", "is_one"]
def ps__law_caught : List Str := ["ask"]
abbrev fd__law_caught : FD := Pk.fd__law_caught
theorem sc__law_caught : FnScope N__law_caught ps__law_caught (defScope st__law_caught) := ⟨by decide +kernel, by decide +kernel, by decide +kernel, by decide +kernel, by decide +kernel, by decide +kernel, by decide +kernel⟩
def row__law_caught : Row := ⟨"_law_caught", "_law_caught", "_law_caught", st__law_caught, 1, N__law_caught, ps__law_caught, fd__law_caught, none, false⟩
theorem bd__law_caught (kV doc pm : Value) (an : Option Addr) (cdv ct : Value) (us : List Value) (hl : us.length = ps__law_caught.length) : bindArgs (PySem.W.fnOf "_law_caught" "_law_caught" (defArgs st__law_caught) (defBody st__law_caught) (defScope st__law_caught) .none kV doc pm an cdv ct) ⟨us, []⟩ = pure (ps__law_caught.zip us) := match us, hl with | [_], _ => rfl
/-! _law_cross -/
abbrev st__law_cross : Stmt := top 45
def N__law_cross : List Str := ["one", "other"]
def ps__law_cross : List Str := ["one", "other"]
abbrev fd__law_cross : FD := Pk.fd__law_cross
theorem sc__law_cross : FnScope N__law_cross ps__law_cross (defScope st__law_cross) := ⟨by decide +kernel, by decide +kernel, by decide +kernel, by decide +kernel, by decide +kernel, by decide +kernel, by decide +kernel⟩
def row__law_cross : Row := ⟨"_law_cross", "_law_cross", "_law_cross", st__law_cross, 1, N__law_cross, ps__law_cross, fd__law_cross, none, false⟩
theorem bd__law_cross (kV doc pm : Value) (an : Option Addr) (cdv ct : Value) (us : List Value) (hl : us.length = ps__law_cross.length) : bindArgs (PySem.W.fnOf "_law_cross" "_law_cross" (defArgs st__law_cross) (defBody st__law_cross) (defScope st__law_cross) .none kV doc pm an cdv ct) ⟨us, []⟩ = pure (ps__law_cross.zip us) := match us, hl with | [_, _], _ => rfl
/-! _law_det -/
abbrev st__law_det : Stmt := top 47
def N__law_det : List Str := ["one", "other", "third", "found"]
def ps__law_det : List Str := ["one", "other", "third"]
abbrev fd__law_det : FD := Pk.fd__law_det
theorem sc__law_det : FnScope N__law_det ps__law_det (defScope st__law_det) := ⟨by decide +kernel, by decide +kernel, by decide +kernel, by decide +kernel, by decide +kernel, by decide +kernel, by decide +kernel⟩
def row__law_det : Row := ⟨"_law_det", "_law_det", "_law_det", st__law_det, 1, N__law_det, ps__law_det, fd__law_det, none, false⟩
theorem bd__law_det (kV doc pm : Value) (an : Option Addr) (cdv ct : Value) (us : List Value) (hl : us.length = ps__law_det.length) : bindArgs (PySem.W.fnOf "_law_det" "_law_det" (defArgs st__law_det) (defBody st__law_det) (defScope st__law_det) .none kV doc pm an cdv ct) ⟨us, []⟩ = pure (ps__law_det.zip us) := match us, hl with | [_, _, _], _ => rfl
/-! _law_dot -/
abbrev st__law_dot : Stmt := top 46
def N__law_dot : List Str := ["one", "other"]
def ps__law_dot : List Str := ["one", "other"]
abbrev fd__law_dot : FD := Pk.fd__law_dot
theorem sc__law_dot : FnScope N__law_dot ps__law_dot (defScope st__law_dot) := ⟨by decide +kernel, by decide +kernel, by decide +kernel, by decide +kernel, by decide +kernel, by decide +kernel, by decide +kernel⟩
def row__law_dot : Row := ⟨"_law_dot", "_law_dot", "_law_dot", st__law_dot, 1, N__law_dot, ps__law_dot, fd__law_dot, none, false⟩
theorem bd__law_dot (kV doc pm : Value) (an : Option Addr) (cdv ct : Value) (us : List Value) (hl : us.length = ps__law_dot.length) : bindArgs (PySem.W.fnOf "_law_dot" "_law_dot" (defArgs st__law_dot) (defBody st__law_dot) (defScope st__law_dot) .none kV doc pm an cdv ct) ⟨us, []⟩ = pure (ps__law_dot.zip us) := match us, hl with | [_, _], _ => rfl
/-! _law_draw -/
abbrev st__law_draw : Stmt := top 40
def N__law_draw : List Str := ["pen", "many"]
def ps__law_draw : List Str := ["pen", "many"]
abbrev fd__law_draw : FD := Pk.fd__law_draw
theorem sc__law_draw : FnScope N__law_draw ps__law_draw (defScope st__law_draw) := ⟨by decide +kernel, by decide +kernel, by decide +kernel, by decide +kernel, by decide +kernel, by decide +kernel, by decide +kernel⟩
def row__law_draw : Row := ⟨"_law_draw", "_law_draw", "_law_draw", st__law_draw, 1, N__law_draw, ps__law_draw, fd__law_draw, none, false⟩
theorem bd__law_draw (kV doc pm : Value) (an : Option Addr) (cdv ct : Value) (us : List Value) (hl : us.length = ps__law_draw.length) : bindArgs (PySem.W.fnOf "_law_draw" "_law_draw" (defArgs st__law_draw) (defBody st__law_draw) (defScope st__law_draw) .none kV doc pm an cdv ct) ⟨us, []⟩ = pure (ps__law_draw.zip us) := match us, hl with | [_, _], _ => rfl
/-! _law_gcd -/
abbrev st__law_gcd : Stmt := top 43
def N__law_gcd : List Str := ["one", "other"]
def ps__law_gcd : List Str := ["one", "other"]
abbrev fd__law_gcd : FD := Pk.fd__law_gcd
theorem sc__law_gcd : FnScope N__law_gcd ps__law_gcd (defScope st__law_gcd) := ⟨by decide +kernel, by decide +kernel, by decide +kernel, by decide +kernel, by decide +kernel, by decide +kernel, by decide +kernel⟩
def row__law_gcd : Row := ⟨"_law_gcd", "_law_gcd", "_law_gcd", st__law_gcd, 1, N__law_gcd, ps__law_gcd, fd__law_gcd, none, false⟩
theorem bd__law_gcd (kV doc pm : Value) (an : Option Addr) (cdv ct : Value) (us : List Value) (hl : us.length = ps__law_gcd.length) : bindArgs (PySem.W.fnOf "_law_gcd" "_law_gcd" (defArgs st__law_gcd) (defBody st__law_gcd) (defScope st__law_gcd) .none kV doc pm an cdv ct) ⟨us, []⟩ = pure (ps__law_gcd.zip us) := match us, hl with | [_, _], _ => rfl
/-! _law_pen -/
abbrev st__law_pen : Stmt := top 39
def N__law_pen : List Str := ["script", "seed", "cell"]
def ps__law_pen : List Str := ["script"]
abbrev fd__law_pen : FD := Pk.fd_pen 71444 9210
theorem sc__law_pen : FnScope N__law_pen ps__law_pen (defScope st__law_pen) := ⟨by decide +kernel, by decide +kernel, by decide +kernel, by decide +kernel, by decide +kernel, by decide +kernel, by decide +kernel⟩
def row__law_pen : Row := ⟨"_law_pen", "_law_pen", "_law_pen", st__law_pen, 1, N__law_pen, ps__law_pen, fd__law_pen, none, false⟩
theorem bd__law_pen (kV doc pm : Value) (an : Option Addr) (cdv ct : Value) (us : List Value) (hl : us.length = ps__law_pen.length) : bindArgs (PySem.W.fnOf "_law_pen" "_law_pen" (defArgs st__law_pen) (defBody st__law_pen) (defScope st__law_pen) .none kV doc pm an cdv ct) ⟨us, []⟩ = pure (ps__law_pen.zip us) := match us, hl with | [_], _ => rfl
/-! cross -/
abbrev st_cross : Stmt := top 27
def N_cross : List Str := ["one", "other", "a", "b", "c", "d", "e", "f"]
def ps_cross : List Str := ["one", "other"]
abbrev fd_cross : FD := Pk.fd_cross
theorem sc_cross : FnScope N_cross ps_cross (defScope st_cross) := ⟨by decide +kernel, by decide +kernel, by decide +kernel, by decide +kernel, by decide +kernel, by decide +kernel, by decide +kernel⟩
def row_cross : Row := ⟨"cross", "cross", "cross", st_cross, 1, N_cross, ps_cross, fd_cross, none, false⟩
theorem bd_cross (kV doc pm : Value) (an : Option Addr) (cdv ct : Value) (us : List Value) (hl : us.length = ps_cross.length) : bindArgs (PySem.W.fnOf "cross" "cross" (defArgs st_cross) (defBody st_cross) (defScope st_cross) .none kV doc pm an cdv ct) ⟨us, []⟩ = pure (ps_cross.zip us) := match us, hl with | [_, _], _ => rfl
/-! dot -/
abbrev st_dot : Stmt := top 28
def N_dot : List Str := ["one", "other", "mine", "its"]
def ps_dot : List Str := ["one", "other"]
abbrev fd_dot : FD := Pk.fd_dot
theorem sc_dot : FnScope N_dot ps_dot (defScope st_dot) := ⟨by decide +kernel, by decide +kernel, by decide +kernel, by decide +kernel, by decide +kernel, by decide +kernel, by decide +kernel⟩
def row_dot : Row := ⟨"dot", "dot", "dot", st_dot, 1, N_dot, ps_dot, fd_dot, none, false⟩
theorem bd_dot (kV doc pm : Value) (an : Option Addr) (cdv ct : Value) (us : List Value) (hl : us.length = ps_dot.length) : bindArgs (PySem.W.fnOf "dot" "dot" (defArgs st_dot) (defBody st_dot) (defScope st_dot) .none kV doc pm an cdv ct) ⟨us, []⟩ = pure (ps_dot.zip us) := match us, hl with | [_, _], _ => rfl
/-! is_integer -/
abbrev st_is_integer : Stmt := top 2
def N_is_integer : List Str := ["value"]
def ps_is_integer : List Str := ["value"]
abbrev fd_is_integer : FD := Pk.fd_is_integer
theorem sc_is_integer : FnScope N_is_integer ps_is_integer (defScope st_is_integer) := ⟨by decide +kernel, by decide +kernel, by decide +kernel, by decide +kernel, by decide +kernel, by decide +kernel, by decide +kernel⟩
def row_is_integer : Row := ⟨"is_integer", "is_integer", "is_integer", st_is_integer, 1, N_is_integer, ps_is_integer, fd_is_integer, none, false⟩
theorem bd_is_integer (kV doc pm : Value) (an : Option Addr) (cdv ct : Value) (us : List Value) (hl : us.length = ps_is_integer.length) : bindArgs (PySem.W.fnOf "is_integer" "is_integer" (defArgs st_is_integer) (defBody st_is_integer) (defScope st_is_integer) .none kV doc pm an cdv ct) ⟨us, []⟩ = pure (ps_is_integer.zip us) := match us, hl with | [_], _ => rfl
/-! is_listed -/
abbrev st_is_listed : Stmt := top 3
def N_is_listed : List Str := ["value"]
def ps_is_listed : List Str := ["value"]
abbrev fd_is_listed : FD := Pk.fd_is_listed
theorem sc_is_listed : FnScope N_is_listed ps_is_listed (defScope st_is_listed) := ⟨by decide +kernel, by decide +kernel, by decide +kernel, by decide +kernel, by decide +kernel, by decide +kernel, by decide +kernel⟩
def row_is_listed : Row := ⟨"is_listed", "is_listed", "is_listed", st_is_listed, 1, N_is_listed, ps_is_listed, fd_is_listed, none, false⟩
theorem bd_is_listed (kV doc pm : Value) (an : Option Addr) (cdv ct : Value) (us : List Value) (hl : us.length = ps_is_listed.length) : bindArgs (PySem.W.fnOf "is_listed" "is_listed" (defArgs st_is_listed) (defBody st_is_listed) (defScope st_is_listed) .none kV doc pm an cdv ct) ⟨us, []⟩ = pure (ps_is_listed.zip us) := match us, hl with | [_], _ => rfl
/-! lowest -/
abbrev st_lowest : Stmt := top 33
def N_lowest : List Str := ["rows", "shared", "flat", "one", "sign", "row"]
def ps_lowest : List Str := ["rows"]
abbrev fd_lowest : FD := Pk.fd_lowest
theorem sc_lowest : FnScope N_lowest ps_lowest (defScope st_lowest) := ⟨by decide +kernel, by decide +kernel, by decide +kernel, by decide +kernel, by decide +kernel, by decide +kernel, by decide +kernel⟩
def row_lowest : Row := ⟨"lowest", "lowest", "lowest", st_lowest, 1, N_lowest, ps_lowest, fd_lowest, none, false⟩
theorem bd_lowest (kV doc pm : Value) (an : Option Addr) (cdv ct : Value) (us : List Value) (hl : us.length = ps_lowest.length) : bindArgs (PySem.W.fnOf "lowest" "lowest" (defArgs st_lowest) (defBody st_lowest) (defScope st_lowest) .none kV doc pm an cdv ct) ⟨us, []⟩ = pure (ps_lowest.zip us) := match us, hl with | [_], _ => rfl
/-! normal -/
abbrev st_normal : Stmt := top 26
def N_normal : List Str := ["triple", "shared", "sign", "one"]
def ps_normal : List Str := ["triple"]
abbrev fd_normal : FD := Pk.fd_normal
theorem sc_normal : FnScope N_normal ps_normal (defScope st_normal) := ⟨by decide +kernel, by decide +kernel, by decide +kernel, by decide +kernel, by decide +kernel, by decide +kernel, by decide +kernel⟩
def row_normal : Row := ⟨"normal", "normal", "normal", st_normal, 1, N_normal, ps_normal, fd_normal, none, false⟩
theorem bd_normal (kV doc pm : Value) (an : Option Addr) (cdv ct : Value) (us : List Value) (hl : us.length = ps_normal.length) : bindArgs (PySem.W.fnOf "normal" "normal" (defArgs st_normal) (defBody st_normal) (defScope st_normal) .none kV doc pm an cdv ct) ⟨us, []⟩ = pure (ps_normal.zip us) := match us, hl with | [_], _ => rfl
/-! transposed -/
abbrev st_transposed : Stmt := top 35
def N_transposed : List Str := ["rows", "at", "row"]
def ps_transposed : List Str := ["rows"]
abbrev fd_transposed : FD := Pk.fd_transposed
theorem sc_transposed : FnScope N_transposed ps_transposed (defScope st_transposed) := ⟨by decide +kernel, by decide +kernel, by decide +kernel, by decide +kernel, by decide +kernel, by decide +kernel, by decide +kernel⟩
def row_transposed : Row := ⟨"transposed", "transposed", "transposed", st_transposed, 1, N_transposed, ps_transposed, fd_transposed, none, false⟩
theorem bd_transposed (kV doc pm : Value) (an : Option Addr) (cdv ct : Value) (us : List Value) (hl : us.length = ps_transposed.length) : bindArgs (PySem.W.fnOf "transposed" "transposed" (defArgs st_transposed) (defBody st_transposed) (defScope st_transposed) .none kV doc pm an cdv ct) ⟨us, []⟩ = pure (ps_transposed.zip us) := match us, hl with | [_], _ => rfl
/-! _law_pick -/
abbrev st__law_pick : Stmt := top 41
def N__law_pick : List Str := ["pen", "some"]
def ps__law_pick : List Str := ["pen", "some"]
abbrev fd__law_pick : FD := Pk.fd__law_pick
theorem sc__law_pick : FnScope N__law_pick ps__law_pick (defScope st__law_pick) := ⟨by decide +kernel, by decide +kernel, by decide +kernel, by decide +kernel, by decide +kernel, by decide +kernel, by decide +kernel⟩
def row__law_pick : Row := ⟨"_law_pick", "_law_pick", "_law_pick", st__law_pick, 2, N__law_pick, ps__law_pick, fd__law_pick, none, false⟩
theorem bd__law_pick (kV doc pm : Value) (an : Option Addr) (cdv ct : Value) (us : List Value) (hl : us.length = ps__law_pick.length) : bindArgs (PySem.W.fnOf "_law_pick" "_law_pick" (defArgs st__law_pick) (defBody st__law_pick) (defScope st__law_pick) .none kV doc pm an cdv ct) ⟨us, []⟩ = pure (ps__law_pick.zip us) := match us, hl with | [_, _], _ => rfl
/-! are_integers -/
abbrev st_are_integers : Stmt := top 4
def N_are_integers : List Str := ["value", "many", "one"]
def ps_are_integers : List Str := ["value", "many"]
abbrev fd_are_integers : FD := Pk.fd_are_integers
theorem sc_are_integers : FnScope N_are_integers ps_are_integers (defScope st_are_integers) := ⟨by decide +kernel, by decide +kernel, by decide +kernel, by decide +kernel, by decide +kernel, by decide +kernel, by decide +kernel⟩
def row_are_integers : Row := ⟨"are_integers", "are_integers", "are_integers", st_are_integers, 2, N_are_integers, ps_are_integers, fd_are_integers, none, false⟩
theorem bd_are_integers (kV doc pm : Value) (an : Option Addr) (cdv ct : Value) (us : List Value) (hl : us.length = ps_are_integers.length) : bindArgs (PySem.W.fnOf "are_integers" "are_integers" (defArgs st_are_integers) (defBody st_are_integers) (defScope st_are_integers) .none kV doc pm an cdv ct) ⟨us, []⟩ = pure (ps_are_integers.zip us) := match us, hl with | [_, _], _ => rfl
/-! cofactors -/
abbrev st_cofactors : Stmt := top 36
def N_cofactors : List Str := ["rows"]
def ps_cofactors : List Str := ["rows"]
abbrev fd_cofactors : FD := Pk.fd_cofactors
theorem sc_cofactors : FnScope N_cofactors ps_cofactors (defScope st_cofactors) := ⟨by decide +kernel, by decide +kernel, by decide +kernel, by decide +kernel, by decide +kernel, by decide +kernel, by decide +kernel⟩
def row_cofactors : Row := ⟨"cofactors", "cofactors", "cofactors", st_cofactors, 2, N_cofactors, ps_cofactors, fd_cofactors, none, false⟩
theorem bd_cofactors (kV doc pm : Value) (an : Option Addr) (cdv ct : Value) (us : List Value) (hl : us.length = ps_cofactors.length) : bindArgs (PySem.W.fnOf "cofactors" "cofactors" (defArgs st_cofactors) (defBody st_cofactors) (defScope st_cofactors) .none kV doc pm an cdv ct) ⟨us, []⟩ = pure (ps_cofactors.zip us) := match us, hl with | [_], _ => rfl
/-! determinant -/
abbrev st_determinant : Stmt := top 29
def N_determinant : List Str := ["one", "other", "third"]
def ps_determinant : List Str := ["one", "other", "third"]
abbrev fd_determinant : FD := Pk.fd_determinant
theorem sc_determinant : FnScope N_determinant ps_determinant (defScope st_determinant) := ⟨by decide +kernel, by decide +kernel, by decide +kernel, by decide +kernel, by decide +kernel, by decide +kernel, by decide +kernel⟩
def row_determinant : Row := ⟨"determinant", "determinant", "determinant", st_determinant, 2, N_determinant, ps_determinant, fd_determinant, none, false⟩
theorem bd_determinant (kV doc pm : Value) (an : Option Addr) (cdv ct : Value) (us : List Value) (hl : us.length = ps_determinant.length) : bindArgs (PySem.W.fnOf "determinant" "determinant" (defArgs st_determinant) (defBody st_determinant) (defScope st_determinant) .none kV doc pm an cdv ct) ⟨us, []⟩ = pure (ps_determinant.zip us) := match us, hl with | [_, _, _], _ => rfl
/-! _law_number -/
abbrev st__law_number : Stmt := top 48
def N__law_number : List Str := ["pen"]
def ps__law_number : List Str := ["pen"]
abbrev fd__law_number : FD := Pk.fd__law_number
theorem sc__law_number : FnScope N__law_number ps__law_number (defScope st__law_number) := ⟨by decide +kernel, by decide +kernel, by decide +kernel, by decide +kernel, by decide +kernel, by decide +kernel, by decide +kernel⟩
def row__law_number : Row := ⟨"_law_number", "_law_number", "_law_number", st__law_number, 3, N__law_number, ps__law_number, fd__law_number, none, false⟩
theorem bd__law_number (kV doc pm : Value) (an : Option Addr) (cdv ct : Value) (us : List Value) (hl : us.length = ps__law_number.length) : bindArgs (PySem.W.fnOf "_law_number" "_law_number" (defArgs st__law_number) (defBody st__law_number) (defScope st__law_number) .none kV doc pm an cdv ct) ⟨us, []⟩ = pure (ps__law_number.zip us) := match us, hl with | [_], _ => rfl
/-! are_rows -/
abbrev st_are_rows : Stmt := top 32
def N_are_rows : List Str := ["value", "row"]
def ps_are_rows : List Str := ["value"]
abbrev fd_are_rows : FD := Pk.fd_are_rows
theorem sc_are_rows : FnScope N_are_rows ps_are_rows (defScope st_are_rows) := ⟨by decide +kernel, by decide +kernel, by decide +kernel, by decide +kernel, by decide +kernel, by decide +kernel, by decide +kernel⟩
def row_are_rows : Row := ⟨"are_rows", "are_rows", "are_rows", st_are_rows, 3, N_are_rows, ps_are_rows, fd_are_rows, none, false⟩
theorem bd_are_rows (kV doc pm : Value) (an : Option Addr) (cdv ct : Value) (us : List Value) (hl : us.length = ps_are_rows.length) : bindArgs (PySem.W.fnOf "are_rows" "are_rows" (defArgs st_are_rows) (defBody st_are_rows) (defScope st_are_rows) .none kV doc pm an cdv ct) ⟨us, []⟩ = pure (ps_are_rows.zip us) := match us, hl with | [_], _ => rfl
/-! is_triple -/
abbrev st_is_triple : Stmt := top 25
def N_is_triple : List Str := ["value", "one"]
def ps_is_triple : List Str := ["value"]
abbrev fd_is_triple : FD := Pk.fd_is_triple
theorem sc_is_triple : FnScope N_is_triple ps_is_triple (defScope st_is_triple) := ⟨by decide +kernel, by decide +kernel, by decide +kernel, by decide +kernel, by decide +kernel, by decide +kernel, by decide +kernel⟩
def row_is_triple : Row := ⟨"is_triple", "is_triple", "is_triple", st_is_triple, 3, N_is_triple, ps_is_triple, fd_is_triple, none, false⟩
theorem bd_is_triple (kV doc pm : Value) (an : Option Addr) (cdv ct : Value) (us : List Value) (hl : us.length = ps_is_triple.length) : bindArgs (PySem.W.fnOf "is_triple" "is_triple" (defArgs st_is_triple) (defBody st_is_triple) (defScope st_is_triple) .none kV doc pm an cdv ct) ⟨us, []⟩ = pure (ps_is_triple.zip us) := match us, hl with | [_], _ => rfl
/-! need_map -/
abbrev st_need_map : Stmt := top 37
def N_need_map : List Str := ["value", "part"]
def ps_need_map : List Str := ["value", "part"]
abbrev fd_need_map : FD := Pk.fd_need_map
theorem sc_need_map : FnScope N_need_map ps_need_map (defScope st_need_map) := ⟨by decide +kernel, by decide +kernel, by decide +kernel, by decide +kernel, by decide +kernel, by decide +kernel, by decide +kernel⟩
def row_need_map : Row := ⟨"need_map", "need_map", "need_map", st_need_map, 3, N_need_map, ps_need_map, fd_need_map, none, false⟩
theorem bd_need_map (kV doc pm : Value) (an : Option Addr) (cdv ct : Value) (us : List Value) (hl : us.length = ps_need_map.length) : bindArgs (PySem.W.fnOf "need_map" "need_map" (defArgs st_need_map) (defBody st_need_map) (defScope st_need_map) .none kV doc pm an cdv ct) ⟨us, []⟩ = pure (ps_need_map.zip us) := match us, hl with | [_, _], _ => rfl
/-! Map.__init__ -/
abbrev st_Map_du_initu : Stmt := inClass (top 34) 0
def N_Map_du_initu : List Str := ["self", "rows"]
def ps_Map_du_initu : List Str := ["self", "rows"]
abbrev fd_Map_du_initu : FD := Pk.fd_Map_du_initu
theorem sc_Map_du_initu : FnScope N_Map_du_initu ps_Map_du_initu (defScope st_Map_du_initu) := ⟨by decide +kernel, by decide +kernel, by decide +kernel, by decide +kernel, by decide +kernel, by decide +kernel, by decide +kernel⟩
def row_Map_du_initu : Row := ⟨"Map.__init__", "__init__", "Map.__init__", st_Map_du_initu, 4, N_Map_du_initu, ps_Map_du_initu, fd_Map_du_initu, some ("Map", "__init__"), false⟩
theorem bd_Map_du_initu (kV doc pm : Value) (an : Option Addr) (cdv ct : Value) (us : List Value) (hl : us.length = ps_Map_du_initu.length) : bindArgs (PySem.W.fnOf "__init__" "Map.__init__" (defArgs st_Map_du_initu) (defBody st_Map_du_initu) (defScope st_Map_du_initu) .none kV doc pm an cdv ct) ⟨us, []⟩ = pure (ps_Map_du_initu.zip us) := match us, hl with | [_, _], _ => rfl
/-! need_triple -/
abbrev st_need_triple : Stmt := top 30
def N_need_triple : List Str := ["value", "part"]
def ps_need_triple : List Str := ["value", "part"]
abbrev fd_need_triple : FD := Pk.fd_need_triple
theorem sc_need_triple : FnScope N_need_triple ps_need_triple (defScope st_need_triple) := ⟨by decide +kernel, by decide +kernel, by decide +kernel, by decide +kernel, by decide +kernel, by decide +kernel, by decide +kernel⟩
def row_need_triple : Row := ⟨"need_triple", "need_triple", "need_triple", st_need_triple, 4, N_need_triple, ps_need_triple, fd_need_triple, none, false⟩
theorem bd_need_triple (kV doc pm : Value) (an : Option Addr) (cdv ct : Value) (us : List Value) (hl : us.length = ps_need_triple.length) : bindArgs (PySem.W.fnOf "need_triple" "need_triple" (defArgs st_need_triple) (defBody st_need_triple) (defScope st_need_triple) .none kV doc pm an cdv ct) ⟨us, []⟩ = pure (ps_need_triple.zip us) := match us, hl with | [_, _], _ => rfl
/-! Map.line -/
abbrev st_Map_d_line : Stmt := inClass (top 34) 2
def N_Map_d_line : List Str := ["self", "triple", "found", "row"]
def ps_Map_d_line : List Str := ["self", "triple"]
abbrev fd_Map_d_line : FD := Pk.fd_Map_d_line
theorem sc_Map_d_line : FnScope N_Map_d_line ps_Map_d_line (defScope st_Map_d_line) := ⟨by decide +kernel, by decide +kernel, by decide +kernel, by decide +kernel, by decide +kernel, by decide +kernel, by decide +kernel⟩
def row_Map_d_line : Row := ⟨"Map.line", "line", "Map.line", st_Map_d_line, 5, N_Map_d_line, ps_Map_d_line, fd_Map_d_line, some ("Map", "line"), false⟩
theorem bd_Map_d_line (kV doc pm : Value) (an : Option Addr) (cdv ct : Value) (us : List Value) (hl : us.length = ps_Map_d_line.length) : bindArgs (PySem.W.fnOf "line" "Map.line" (defArgs st_Map_d_line) (defBody st_Map_d_line) (defScope st_Map_d_line) .none kV doc pm an cdv ct) ⟨us, []⟩ = pure (ps_Map_d_line.zip us) := match us, hl with | [_, _], _ => rfl
/-! Map.point -/
abbrev st_Map_d_point : Stmt := inClass (top 34) 1
def N_Map_d_point : List Str := ["self", "triple", "found", "row"]
def ps_Map_d_point : List Str := ["self", "triple"]
abbrev fd_Map_d_point : FD := Pk.fd_Map_d_point
theorem sc_Map_d_point : FnScope N_Map_d_point ps_Map_d_point (defScope st_Map_d_point) := ⟨by decide +kernel, by decide +kernel, by decide +kernel, by decide +kernel, by decide +kernel, by decide +kernel, by decide +kernel⟩
def row_Map_d_point : Row := ⟨"Map.point", "point", "Map.point", st_Map_d_point, 5, N_Map_d_point, ps_Map_d_point, fd_Map_d_point, some ("Map", "point"), false⟩
theorem bd_Map_d_point (kV doc pm : Value) (an : Option Addr) (cdv ct : Value) (us : List Value) (hl : us.length = ps_Map_d_point.length) : bindArgs (PySem.W.fnOf "point" "Map.point" (defArgs st_Map_d_point) (defBody st_Map_d_point) (defScope st_Map_d_point) .none kV doc pm an cdv ct) ⟨us, []⟩ = pure (ps_Map_d_point.zip us) := match us, hl with | [_, _], _ => rfl
/-! _law_normal -/
abbrev st__law_normal : Stmt := top 44
def N__law_normal : List Str := ["triple", "shared", "first", "one"]
def ps__law_normal : List Str := ["triple"]
abbrev fd__law_normal : FD := Pk.fd__law_normal
theorem sc__law_normal : FnScope N__law_normal ps__law_normal (defScope st__law_normal) := ⟨by decide +kernel, by decide +kernel, by decide +kernel, by decide +kernel, by decide +kernel, by decide +kernel, by decide +kernel⟩
def row__law_normal : Row := ⟨"_law_normal", "_law_normal", "_law_normal", st__law_normal, 5, N__law_normal, ps__law_normal, fd__law_normal, none, false⟩
theorem bd__law_normal (kV doc pm : Value) (an : Option Addr) (cdv ct : Value) (us : List Value) (hl : us.length = ps__law_normal.length) : bindArgs (PySem.W.fnOf "_law_normal" "_law_normal" (defArgs st__law_normal) (defBody st__law_normal) (defScope st__law_normal) .none kV doc pm an cdv ct) ⟨us, []⟩ = pure (ps__law_normal.zip us) := match us, hl with | [_], _ => rfl
/-! _law_rows -/
abbrev st__law_rows : Stmt := top 50
def N__law_rows : List Str := ["pen", "turn", "found", "at", "spot"]
def ps__law_rows : List Str := ["pen"]
abbrev fd__law_rows : FD := Pk.fd__law_rows
theorem sc__law_rows : FnScope N__law_rows ps__law_rows (defScope st__law_rows) := ⟨by decide +kernel, by decide +kernel, by decide +kernel, by decide +kernel, by decide +kernel, by decide +kernel, by decide +kernel⟩
def row__law_rows : Row := ⟨"_law_rows", "_law_rows", "_law_rows", st__law_rows, 5, N__law_rows, ps__law_rows, fd__law_rows, none, false⟩
theorem bd__law_rows (kV doc pm : Value) (an : Option Addr) (cdv ct : Value) (us : List Value) (hl : us.length = ps__law_rows.length) : bindArgs (PySem.W.fnOf "_law_rows" "_law_rows" (defArgs st__law_rows) (defBody st__law_rows) (defScope st__law_rows) .none kV doc pm an cdv ct) ⟨us, []⟩ = pure (ps__law_rows.zip us) := match us, hl with | [_], _ => rfl
/-! _law_triple -/
abbrev st__law_triple : Stmt := top 49
def N__law_triple : List Str := ["pen", "found"]
def ps__law_triple : List Str := ["pen"]
abbrev fd__law_triple : FD := Pk.fd__law_triple
theorem sc__law_triple : FnScope N__law_triple ps__law_triple (defScope st__law_triple) := ⟨by decide +kernel, by decide +kernel, by decide +kernel, by decide +kernel, by decide +kernel, by decide +kernel, by decide +kernel⟩
def row__law_triple : Row := ⟨"_law_triple", "_law_triple", "_law_triple", st__law_triple, 5, N__law_triple, ps__law_triple, fd__law_triple, none, false⟩
theorem bd__law_triple (kV doc pm : Value) (an : Option Addr) (cdv ct : Value) (us : List Value) (hl : us.length = ps__law_triple.length) : bindArgs (PySem.W.fnOf "_law_triple" "_law_triple" (defArgs st__law_triple) (defBody st__law_triple) (defScope st__law_triple) .none kV doc pm an cdv ct) ⟨us, []⟩ = pure (ps__law_triple.zip us) := match us, hl with | [_], _ => rfl
/-! Map.after -/
abbrev st_Map_d_after : Stmt := inClass (top 34) 4
def N_Map_d_after : List Str := ["self", "other", "columns", "row", "column"]
def ps_Map_d_after : List Str := ["self", "other"]
abbrev fd_Map_d_after : FD := Pk.fd_Map_d_after
theorem sc_Map_d_after : FnScope N_Map_d_after ps_Map_d_after (defScope st_Map_d_after) := ⟨by decide +kernel, by decide +kernel, by decide +kernel, by decide +kernel, by decide +kernel, by decide +kernel, by decide +kernel⟩
def row_Map_d_after : Row := ⟨"Map.after", "after", "Map.after", st_Map_d_after, 6, N_Map_d_after, ps_Map_d_after, fd_Map_d_after, some ("Map", "after"), false⟩
theorem bd_Map_d_after (kV doc pm : Value) (an : Option Addr) (cdv ct : Value) (us : List Value) (hl : us.length = ps_Map_d_after.length) : bindArgs (PySem.W.fnOf "after" "Map.after" (defArgs st_Map_d_after) (defBody st_Map_d_after) (defScope st_Map_d_after) .none kV doc pm an cdv ct) ⟨us, []⟩ = pure (ps_Map_d_after.zip us) := match us, hl with | [_, _], _ => rfl
/-! Map.back -/
abbrev st_Map_d_back : Stmt := inClass (top 34) 3
def N_Map_d_back : List Str := ["self"]
def ps_Map_d_back : List Str := ["self"]
abbrev fd_Map_d_back : FD := Pk.fd_Map_d_back
theorem sc_Map_d_back : FnScope N_Map_d_back ps_Map_d_back (defScope st_Map_d_back) := ⟨by decide +kernel, by decide +kernel, by decide +kernel, by decide +kernel, by decide +kernel, by decide +kernel, by decide +kernel⟩
def row_Map_d_back : Row := ⟨"Map.back", "back", "Map.back", st_Map_d_back, 6, N_Map_d_back, ps_Map_d_back, fd_Map_d_back, some ("Map", "back"), false⟩
theorem bd_Map_d_back (kV doc pm : Value) (an : Option Addr) (cdv ct : Value) (us : List Value) (hl : us.length = ps_Map_d_back.length) : bindArgs (PySem.W.fnOf "back" "Map.back" (defArgs st_Map_d_back) (defBody st_Map_d_back) (defScope st_Map_d_back) .none kV doc pm an cdv ct) ⟨us, []⟩ = pure (ps_Map_d_back.zip us) := match us, hl with | [_], _ => rfl
/-! _law_led -/
abbrev st__law_led : Stmt := top 51
def N__law_led : List Str := ["rows", "triple", "row"]
def ps__law_led : List Str := ["rows", "triple"]
abbrev fd__law_led : FD := Pk.fd__law_led
theorem sc__law_led : FnScope N__law_led ps__law_led (defScope st__law_led) := ⟨by decide +kernel, by decide +kernel, by decide +kernel, by decide +kernel, by decide +kernel, by decide +kernel, by decide +kernel⟩
def row__law_led : Row := ⟨"_law_led", "_law_led", "_law_led", st__law_led, 6, N__law_led, ps__law_led, fd__law_led, none, false⟩
theorem bd__law_led (kV doc pm : Value) (an : Option Addr) (cdv ct : Value) (us : List Value) (hl : us.length = ps__law_led.length) : bindArgs (PySem.W.fnOf "_law_led" "_law_led" (defArgs st__law_led) (defBody st__law_led) (defScope st__law_led) .none kV doc pm an cdv ct) ⟨us, []⟩ = pure (ps__law_led.zip us) := match us, hl with | [_, _], _ => rfl
/-! law -/
abbrev st_law : Stmt := top 52
def N_law : List Str := ["script", "pen", "turn", "rows", "others", "times", "made", "other", "flat", "shared", "one", "sign", "due", "lap", "point", "its", "line", "odd", "none", "heard", "row"]
def ps_law : List Str := ["script"]
def fd_law : FD := ⟨1, 21, (.seq (.asg (.var 1) (.call "_law_pen" (.cons (.var 0) .nil))) (.seq (.for_ (.var 2) (.rng (.cst (.int 8))) (.seq (.asg (.tup (.cons (.var 3) (.cons (.var 4) .nil))) (.tup (.cons (.call "_law_rows" (.cons (.var 1) .nil)) (.cons (.call "_law_rows" (.cons (.var 1) .nil)) .nil)))) (.seq (.asg (.var 5) (.call "_law_pick" (.cons (.var 1) (.cons (.lst (.cons (.cst (.int 1)) (.cons (.neg (.cst (.int 1))) (.cons (.cst (.int 6)) (.cons (.neg (.cst (.int 10))) .nil))))) .nil)))) (.seq (.asg (.tup (.cons (.var 6) (.cons (.var 7) .nil))) (.tup (.cons (.make "Map" (.cons (.lc [20] (.var 20) (.itv (.var 3)) (.cst (.bl true)) (.lc [10] (.var 10) (.itv (.var 20)) (.cst (.bl true)) (.bin .mul (.var 5) (.var 10)))) .nil)) (.cons (.makek "Map" 0 ["rows"] .nil (.cons (.var 4) .nil)) .nil)))) (.seq (.asg (.var 8) (.bin .add (.bin .add (.ix (.var 3) (.cst (.int 0))) (.ix (.var 3) (.cst (.int 1)))) (.ix (.var 3) (.cst (.int 2))))) (.seq (.asg (.var 9) (.cst (.int 0))) (.seq (.for_ (.var 10) (.itv (.var 8)) (.seq (.asg (.var 9) (.call "_law_gcd" (.cons (.var 9) (.cons (.var 10) .nil)))) .skip)) (.seq (.asg (.var 11) (.ife (.cmp .gt (.ix (.lc [10] (.var 10) (.itv (.var 8)) (.cmp .ne (.var 10) (.cst (.int 0))) (.var 10)) (.cst (.int 0))) (.cst (.int 0))) (.cst (.int 1)) (.neg (.cst (.int 1))))) (.seq (.asg (.var 12) (.blt .tup (.cons (.lc [20] (.var 20) (.itv (.var 3)) (.cst (.bl true)) (.blt .tup (.cons (.lc [10] (.var 10) (.itv (.var 20)) (.cst (.bl true)) (.bin .fdiv (.bin .mul (.var 11) (.blt .int (.cons (.var 10) .nil))) (.var 9))) .nil))) .nil))) (.seq (.ife (.or (.op2 (.cmr true) (.att (.var 6) "rows") (.var 12)) (.or (.cmp .ne (.var 6) (.make "Map" (.cons (.var 3) .nil))) (.or (.cmp .ne (.cmp .eq (.var 6) (.var 7)) (.cmp .eq (.att (.var 6) "rows") (.att (.var 7) "rows"))) (.cmp .eq (.var 6) (.var 12))))) (.seq (.ret (.cst (.bl false))) .skip) .skip) (.seq (.for_ (.var 13) (.rng (.cst (.int 6))) (.seq (.asg (.tup (.cons (.var 14) (.cons (.var 15) .nil))) (.tup (.cons (.call "_law_triple" (.cons (.var 1) .nil)) (.cons (.call "_law_triple" (.cons (.var 1) .nil)) .nil)))) (.seq (.ife (.or (.cmp .ne (.meth "point" (.var 6) (.cons (.var 14) .nil)) (.call "_law_led" (.cons (.var 3) (.cons (.var 14) .nil)))) (.cmp .ne (.methk "point" 0 ["triple"] (.var 6) .nil (.cons (.blt .lst (.cons (.var 14) .nil)) .nil)) (.call "_law_led" (.cons (.var 3) (.cons (.var 14) .nil))))) (.seq (.ret (.cst (.bl false))) .skip) .skip) (.seq (.asg (.var 16) (.call "_law_cross" (.cons (.var 14) (.cons (.var 15) .nil)))) (.seq (.ife (.and (.cmp .ne (.var 16) (.tup (.cons (.cst (.int 0)) (.cons (.cst (.int 0)) (.cons (.cst (.int 0)) .nil))))) (.cmp .ne (.methk "line" 0 ["triple"] (.var 6) .nil (.cons (.var 16) .nil)) (.call "_law_normal" (.cons (.call "_law_cross" (.cons (.call "_law_led" (.cons (.var 3) (.cons (.var 14) .nil))) (.cons (.call "_law_led" (.cons (.var 3) (.cons (.var 15) .nil))) .nil))) .nil)))) (.seq (.ret (.cst (.bl false))) .skip) .skip) (.seq (.ife (.or (.cmp .ne (.meth "point" (.meth "back" (.var 6) .nil) (.cons (.meth "point" (.var 6) (.cons (.var 14) .nil)) .nil)) (.call "_law_normal" (.cons (.var 14) .nil))) (.cmp .ne (.meth "point" (.meth "after" (.var 6) (.cons (.var 7) .nil)) (.cons (.var 14) .nil)) (.call "_law_led" (.cons (.var 3) (.cons (.call "_law_led" (.cons (.var 4) (.cons (.var 14) .nil))) .nil))))) (.seq (.ret (.cst (.bl false))) .skip) .skip) .skip)))))) (.seq (.ife (.or (.cmp .ne (.methk "after" 0 ["other"] (.var 6) .nil (.cons (.meth "back" (.var 6) .nil) .nil)) (.make "Map" (.cons (.lst (.cons (.tup (.cons (.cst (.int 1)) (.cons (.cst (.int 0)) (.cons (.cst (.int 0)) .nil)))) (.cons (.tup (.cons (.cst (.int 0)) (.cons (.cst (.int 1)) (.cons (.cst (.int 0)) .nil)))) (.cons (.tup (.cons (.cst (.int 0)) (.cons (.cst (.int 0)) (.cons (.cst (.int 1)) .nil)))) .nil)))) .nil))) (.cmp .ne (.meth "back" (.meth "back" (.var 6) .nil) .nil) (.var 6))) (.seq (.ret (.cst (.bl false))) .skip) .skip) (.seq (.asg (.var 17) (.call "_law_pick" (.cons (.var 1) (.cons (.lst (.cons (.cst .non) (.cons (.cst (.int 5)) (.cons (.lst .nil) (.cons (.sl (.var 3) .nil (.cst (.int 2))) (.cons (.bin .add (.var 3) (.sl (.var 3) .nil (.cst (.int 1)))) (.cons (.lst (.cons (.ix (.var 3) (.cst (.int 0))) (.cons (.ix (.var 3) (.cst (.int 1))) (.cons (.ix (.var 3) (.cst (.int 0))) .nil)))) (.cons (.lst (.cons (.ix (.var 3) (.cst (.int 0))) (.cons (.ix (.var 3) (.cst (.int 1))) (.cons (.lst (.cons (.cst (.int 1)) (.cons (.cst (.int 2)) .nil))) .nil)))) (.cons (.lst (.cons (.ix (.var 3) (.cst (.int 0))) (.cons (.ix (.var 3) (.cst (.int 1))) (.cons (.lst (.cons (.cst (.bl true)) (.cons (.cst (.int 0)) (.cons (.cst (.int 1)) .nil)))) .nil)))) (.cons (.cst (.str "abc")) (.cons (.cst (.dct [] [])) (.cons (.bin .mul (.lst (.cons (.cst .non) .nil)) (.cst (.int 3))) .nil)))))))))))) .nil)))) (.seq (.asg (.var 18) (.call "_law_pick" (.cons (.var 1) (.cons (.lst (.cons (.cst .non) (.cons (.cst (.int 5)) (.cons (.tup (.cons (.cst (.int 0)) (.cons (.cst (.int 0)) (.cons (.cst (.int 0)) .nil)))) (.cons (.tup (.cons (.cst (.int 1)) (.cons (.cst (.int 2)) .nil))) (.cons (.var 12) (.cons (.cst (.str "abc")) (.cons (.tup (.cons (.cst (.int 1)) (.cons (.cst (.int 2)) (.cons (.cst .non) .nil)))) .nil)))))))) .nil)))) (.seq (.asg (.var 19) (.lst (.cons (.cau "_law_caught" (.make "Map" (.cons (.var 17) .nil))) (.cons (.cau "_law_caught" (.meth "point" (.var 6) (.cons (.var 18) .nil))) (.cons (.cau "_law_caught" (.meth "line" (.var 6) (.cons (.var 18) .nil))) (.cons (.cau "_law_caught" (.meth "after" (.var 6) (.cons (.call "_law_pick" (.cons (.var 1) (.cons (.lst (.cons (.cst .non) (.cons (.var 3) .nil))) .nil))) .nil))) .nil)))))) (.seq (.ife (.cmp .ne (.var 19) (.lst (.cons (.tup (.cons (.cst (.str "map")) (.cons (.cst (.str "rows")) .nil))) (.cons (.tup (.cons (.cst (.str "triple")) (.cons (.cst (.str "triple")) .nil))) (.cons (.tup (.cons (.cst (.str "triple")) (.cons (.cst (.str "triple")) .nil))) (.cons (.tup (.cons (.cst (.str "map")) (.cons (.cst (.str "other")) .nil))) .nil)))))) (.seq (.ret (.cst (.bl false))) .skip) .skip) .skip)))))))))))))))) (.seq (.ret (.cst (.bl true))) .skip))), 8⟩
theorem sc_law : FnScope N_law ps_law (defScope st_law) := ⟨by decide +kernel, by decide +kernel, by decide +kernel, by decide +kernel, by decide +kernel, by decide +kernel, by decide +kernel⟩
def row_law : Row := ⟨"law", "law", "law", st_law, 9, N_law, ps_law, fd_law, none, true⟩
theorem bd_law (kV doc pm : Value) (an : Option Addr) (cdv ct : Value) (us : List Value) (hl : us.length = ps_law.length) : bindArgs (PySem.W.fnOf "law" "law" (defArgs st_law) (defBody st_law) (defScope st_law) .none kV doc pm an cdv ct) ⟨us, []⟩ = pure (ps_law.zip us) := match us, hl with | [_], _ => rfl
def rows : List Row := [row_Map_du_equ, row__law_caught, row__law_cross, row__law_det, row__law_dot, row__law_draw, row__law_gcd, row__law_pen, row_cross, row_dot, row_is_integer, row_is_listed, row_lowest, row_normal, row_transposed, row__law_pick, row_are_integers, row_cofactors, row_determinant, row__law_number, row_are_rows, row_is_triple, row_need_map, row_Map_du_initu, row_need_triple, row_Map_d_line, row_Map_d_point, row__law_normal, row__law_rows, row__law_triple, row_Map_d_after, row_Map_d_back, row__law_led, row_law]
def clsT : List (String × Kls) := [("Map", ⟨["Map"], [("__eq__", "Map.__eq__"), ("__init__", "Map.__init__"), ("after", "Map.after"), ("back", "Map.back"), ("line", "Map.line"), ("point", "Map.point")], ["rows"]⟩)]
def plansT : List ((String × Nat × List String) × List (Nat ⊕ D)) := [(("Map.__init__", 1, ["rows"]), [.inl 0, .inl 1]), (("Map.after", 1, ["other"]), [.inl 0, .inl 1]), (("Map.line", 1, ["triple"]), [.inl 0, .inl 1]), (("Map.point", 1, ["triple"]), [.inl 0, .inl 1])]
def xsT : List (String × XKls) := [("RulerError", ⟨["RulerError"], [], none⟩), ("OfPart", ⟨["OfPart", "RulerError"], ["part"], some "OfPart"⟩), ("BadTriple", ⟨["BadTriple", "OfPart", "RulerError"], ["part"], some "OfPart"⟩), ("BadMap", ⟨["BadMap", "OfPart", "RulerError"], ["part"], some "OfPart"⟩), ("BadPlan", ⟨["BadPlan", "OfPart", "RulerError"], ["part"], some "OfPart"⟩), ("BadProgram", ⟨["BadProgram", "OfPart", "RulerError"], ["part"], some "OfPart"⟩), ("BadClaim", ⟨["BadClaim", "OfPart", "RulerError"], ["part"], some "OfPart"⟩), ("BadTaken", ⟨["BadTaken", "OfPart", "RulerError"], ["part"], some "OfPart"⟩), ("BadNumber", ⟨["BadNumber", "OfPart", "RulerError"], ["part"], some "OfPart"⟩), ("BadValue", ⟨["BadValue", "OfPart", "RulerError"], ["part"], some "OfPart"⟩), ("BadPaper", ⟨["BadPaper", "OfPart", "RulerError"], ["part"], some "OfPart"⟩), ("Misfit", ⟨["Misfit", "OfPart", "RulerError"], ["part"], some "OfPart"⟩), ("Nothing", ⟨["Nothing", "OfPart", "RulerError"], ["part"], some "OfPart"⟩), ("BadRow", ⟨["BadRow", "RulerError"], ["at"], some "BadRow"⟩), ("NoName", ⟨["NoName", "RulerError"], ["name"], some "NoName"⟩), ("Nought", ⟨["Nought", "RulerError"], ["name"], some "Nought"⟩), ("BadText", ⟨["BadText", "RulerError"], ["line", "word"], some "BadText"⟩), ("TooMany", ⟨["TooMany", "RulerError"], ["what", "most"], some "TooMany"⟩)]
def consT : List (Str × D) := []
abbrev stx_OfPart : Stmt := inClass (top 7) 0
def xd_OfPart : XDef := ⟨"OfPart", "OfPart.__init__", stx_OfPart, ["self", "part"], ["part"]⟩
theorem xb_OfPart (kV doc pm : Value) (an : Option Addr) (cdv ct : Value) (cc : Addr) (us : List Value) (hl : us.length = xd_OfPart.N.length) : bindArgs (PySem.W.ksFn "__init__" "OfPart.__init__" (defArgs stx_OfPart) (defBody stx_OfPart) (defScope stx_OfPart) .none kV doc pm an cdv ct cc) ⟨us, []⟩ = pure (xd_OfPart.N.zip us) := match us, hl with | [_, _], _ => rfl
abbrev stx_BadRow : Stmt := inClass (top 19) 0
def xd_BadRow : XDef := ⟨"BadRow", "BadRow.__init__", stx_BadRow, ["self", "at"], ["at"]⟩
theorem xb_BadRow (kV doc pm : Value) (an : Option Addr) (cdv ct : Value) (cc : Addr) (us : List Value) (hl : us.length = xd_BadRow.N.length) : bindArgs (PySem.W.ksFn "__init__" "BadRow.__init__" (defArgs stx_BadRow) (defBody stx_BadRow) (defScope stx_BadRow) .none kV doc pm an cdv ct cc) ⟨us, []⟩ = pure (xd_BadRow.N.zip us) := match us, hl with | [_, _], _ => rfl
abbrev stx_NoName : Stmt := inClass (top 20) 0
def xd_NoName : XDef := ⟨"NoName", "NoName.__init__", stx_NoName, ["self", "name"], ["name"]⟩
theorem xb_NoName (kV doc pm : Value) (an : Option Addr) (cdv ct : Value) (cc : Addr) (us : List Value) (hl : us.length = xd_NoName.N.length) : bindArgs (PySem.W.ksFn "__init__" "NoName.__init__" (defArgs stx_NoName) (defBody stx_NoName) (defScope stx_NoName) .none kV doc pm an cdv ct cc) ⟨us, []⟩ = pure (xd_NoName.N.zip us) := match us, hl with | [_, _], _ => rfl
abbrev stx_Nought : Stmt := inClass (top 21) 0
def xd_Nought : XDef := ⟨"Nought", "Nought.__init__", stx_Nought, ["self", "name"], ["name"]⟩
theorem xb_Nought (kV doc pm : Value) (an : Option Addr) (cdv ct : Value) (cc : Addr) (us : List Value) (hl : us.length = xd_Nought.N.length) : bindArgs (PySem.W.ksFn "__init__" "Nought.__init__" (defArgs stx_Nought) (defBody stx_Nought) (defScope stx_Nought) .none kV doc pm an cdv ct cc) ⟨us, []⟩ = pure (xd_Nought.N.zip us) := match us, hl with | [_, _], _ => rfl
abbrev stx_BadText : Stmt := inClass (top 22) 0
def xd_BadText : XDef := ⟨"BadText", "BadText.__init__", stx_BadText, ["self", "line", "word"], ["line", "word"]⟩
theorem xb_BadText (kV doc pm : Value) (an : Option Addr) (cdv ct : Value) (cc : Addr) (us : List Value) (hl : us.length = xd_BadText.N.length) : bindArgs (PySem.W.ksFn "__init__" "BadText.__init__" (defArgs stx_BadText) (defBody stx_BadText) (defScope stx_BadText) .none kV doc pm an cdv ct cc) ⟨us, []⟩ = pure (xd_BadText.N.zip us) := match us, hl with | [_, _, _], _ => rfl
abbrev stx_TooMany : Stmt := inClass (top 23) 0
def xd_TooMany : XDef := ⟨"TooMany", "TooMany.__init__", stx_TooMany, ["self", "what", "most"], ["what", "most"]⟩
theorem xb_TooMany (kV doc pm : Value) (an : Option Addr) (cdv ct : Value) (cc : Addr) (us : List Value) (hl : us.length = xd_TooMany.N.length) : bindArgs (PySem.W.ksFn "__init__" "TooMany.__init__" (defArgs stx_TooMany) (defBody stx_TooMany) (defScope stx_TooMany) .none kV doc pm an cdv ct cc) ⟨us, []⟩ = pure (xd_TooMany.N.zip us) := match us, hl with | [_, _, _], _ => rfl
def xdT : List XDef := [xd_OfPart, xd_BadRow, xd_NoName, xd_Nought, xd_BadText, xd_TooMany]
theorem hxa : BindX xdT := by
  unfold BindX xdT
  simp only [List.forall_mem_cons]
  exact ⟨xb_OfPart, xb_BadRow, xb_NoName, xb_Nought, xb_BadText, xb_TooMany, fun _ h => nomatch h⟩
def pg0 : Pg := ⟨rows, fun _ _ _ => .stk, clsT, plansT, 1000000, true, xsT, consT⟩
theorem mt_Map_du_equ : mtSs (pg0.T 0 false) N_Map_du_equ (defScope st_Map_du_equ) (defScope st_Map_du_equ) fd_Map_du_equ.body (defBody st_Map_du_equ) = true := by decide +kernel
theorem rw_Map_du_equ : pg0.row "Map.__eq__" = some row_Map_du_equ := by rfl
theorem mt__law_caught : cauB (pg0.T 0 false) N__law_caught (defScope st__law_caught) "ask" fd__law_caught.body (defBody st__law_caught) = true := by decide +kernel
theorem rw__law_caught : pg0.row "_law_caught" = some row__law_caught := by rfl
theorem mt__law_cross : mtSs (pg0.T 0 false) N__law_cross (defScope st__law_cross) (defScope st__law_cross) fd__law_cross.body (defBody st__law_cross) = true := by decide +kernel
theorem rw__law_cross : pg0.row "_law_cross" = some row__law_cross := by rfl
theorem mt__law_det : mtSs (pg0.T 0 false) N__law_det (defScope st__law_det) (defScope st__law_det) fd__law_det.body (defBody st__law_det) = true := by decide +kernel
theorem rw__law_det : pg0.row "_law_det" = some row__law_det := by rfl
theorem mt__law_dot : mtSs (pg0.T 0 false) N__law_dot (defScope st__law_dot) (defScope st__law_dot) fd__law_dot.body (defBody st__law_dot) = true := by decide +kernel
theorem rw__law_dot : pg0.row "_law_dot" = some row__law_dot := by rfl
theorem mt__law_draw : mtSs (pg0.T 0 false) N__law_draw (defScope st__law_draw) (defScope st__law_draw) fd__law_draw.body (defBody st__law_draw) = true := by decide +kernel
theorem rw__law_draw : pg0.row "_law_draw" = some row__law_draw := by rfl
theorem mt__law_gcd : mtSs (pg0.T 0 false) N__law_gcd (defScope st__law_gcd) (defScope st__law_gcd) fd__law_gcd.body (defBody st__law_gcd) = true := by decide +kernel
theorem rw__law_gcd : pg0.row "_law_gcd" = some row__law_gcd := by rfl
theorem mt__law_pen : mtSs (pg0.T 0 false) N__law_pen (defScope st__law_pen) (defScope st__law_pen) fd__law_pen.body (defBody st__law_pen) = true := by decide +kernel
theorem rw__law_pen : pg0.row "_law_pen" = some row__law_pen := by rfl
theorem mt_cross : mtSs (pg0.T 0 false) N_cross (defScope st_cross) (defScope st_cross) fd_cross.body (defBody st_cross) = true := by decide +kernel
theorem rw_cross : pg0.row "cross" = some row_cross := by rfl
theorem mt_dot : mtSs (pg0.T 0 false) N_dot (defScope st_dot) (defScope st_dot) fd_dot.body (defBody st_dot) = true := by decide +kernel
theorem rw_dot : pg0.row "dot" = some row_dot := by rfl
theorem mt_is_integer : mtSs (pg0.T 0 false) N_is_integer (defScope st_is_integer) (defScope st_is_integer) fd_is_integer.body (defBody st_is_integer) = true := by decide +kernel
theorem rw_is_integer : pg0.row "is_integer" = some row_is_integer := by rfl
theorem mt_is_listed : mtSs (pg0.T 0 false) N_is_listed (defScope st_is_listed) (defScope st_is_listed) fd_is_listed.body (defBody st_is_listed) = true := by decide +kernel
theorem rw_is_listed : pg0.row "is_listed" = some row_is_listed := by rfl
theorem mt_lowest : mtSs (pg0.T 0 false) N_lowest (defScope st_lowest) (defScope st_lowest) fd_lowest.body (defBody st_lowest) = true := by decide +kernel
theorem rw_lowest : pg0.row "lowest" = some row_lowest := by rfl
theorem mt_normal : mtSs (pg0.T 0 false) N_normal (defScope st_normal) (defScope st_normal) fd_normal.body (defBody st_normal) = true := by decide +kernel
theorem rw_normal : pg0.row "normal" = some row_normal := by rfl
theorem mt_transposed : mtSs (pg0.T 0 false) N_transposed (defScope st_transposed) (defScope st_transposed) fd_transposed.body (defBody st_transposed) = true := by decide +kernel
theorem rw_transposed : pg0.row "transposed" = some row_transposed := by rfl
theorem mt__law_pick : mtSs (pg0.T 1 false) N__law_pick (defScope st__law_pick) (defScope st__law_pick) fd__law_pick.body (defBody st__law_pick) = true := by decide +kernel
theorem rw__law_pick : pg0.row "_law_pick" = some row__law_pick := by rfl
theorem mt_are_integers : mtSs (pg0.T 1 false) N_are_integers (defScope st_are_integers) (defScope st_are_integers) fd_are_integers.body (defBody st_are_integers) = true := by decide +kernel
theorem rw_are_integers : pg0.row "are_integers" = some row_are_integers := by rfl
theorem mt_cofactors : mtSs (pg0.T 1 false) N_cofactors (defScope st_cofactors) (defScope st_cofactors) fd_cofactors.body (defBody st_cofactors) = true := by decide +kernel
theorem rw_cofactors : pg0.row "cofactors" = some row_cofactors := by rfl
theorem mt_determinant : mtSs (pg0.T 1 false) N_determinant (defScope st_determinant) (defScope st_determinant) fd_determinant.body (defBody st_determinant) = true := by decide +kernel
theorem rw_determinant : pg0.row "determinant" = some row_determinant := by rfl
theorem mt__law_number : mtSs (pg0.T 2 false) N__law_number (defScope st__law_number) (defScope st__law_number) fd__law_number.body (defBody st__law_number) = true := by decide +kernel
theorem rw__law_number : pg0.row "_law_number" = some row__law_number := by rfl
theorem mt_are_rows : mtSs (pg0.T 2 false) N_are_rows (defScope st_are_rows) (defScope st_are_rows) fd_are_rows.body (defBody st_are_rows) = true := by decide +kernel
theorem rw_are_rows : pg0.row "are_rows" = some row_are_rows := by rfl
theorem mt_is_triple : mtSs (pg0.T 2 false) N_is_triple (defScope st_is_triple) (defScope st_is_triple) fd_is_triple.body (defBody st_is_triple) = true := by decide +kernel
theorem rw_is_triple : pg0.row "is_triple" = some row_is_triple := by rfl
theorem mt_need_map : mtSs (pg0.T 2 false) N_need_map (defScope st_need_map) (defScope st_need_map) fd_need_map.body (defBody st_need_map) = true := by decide +kernel
theorem rw_need_map : pg0.row "need_map" = some row_need_map := by rfl
theorem mt_Map_du_initu : mtSs (pg0.T 3 false) N_Map_du_initu (defScope st_Map_du_initu) (defScope st_Map_du_initu) fd_Map_du_initu.body (defBody st_Map_du_initu) = true := by decide +kernel
theorem rw_Map_du_initu : pg0.row "Map.__init__" = some row_Map_du_initu := by rfl
theorem mt_need_triple : mtSs (pg0.T 3 false) N_need_triple (defScope st_need_triple) (defScope st_need_triple) fd_need_triple.body (defBody st_need_triple) = true := by decide +kernel
theorem rw_need_triple : pg0.row "need_triple" = some row_need_triple := by rfl
theorem mt_Map_d_line : mtSs (pg0.T 4 false) N_Map_d_line (defScope st_Map_d_line) (defScope st_Map_d_line) fd_Map_d_line.body (defBody st_Map_d_line) = true := by decide +kernel
theorem rw_Map_d_line : pg0.row "Map.line" = some row_Map_d_line := by rfl
theorem mt_Map_d_point : mtSs (pg0.T 4 false) N_Map_d_point (defScope st_Map_d_point) (defScope st_Map_d_point) fd_Map_d_point.body (defBody st_Map_d_point) = true := by decide +kernel
theorem rw_Map_d_point : pg0.row "Map.point" = some row_Map_d_point := by rfl
theorem mt__law_normal : mtSs (pg0.T 4 false) N__law_normal (defScope st__law_normal) (defScope st__law_normal) fd__law_normal.body (defBody st__law_normal) = true := by decide +kernel
theorem rw__law_normal : pg0.row "_law_normal" = some row__law_normal := by rfl
theorem mt__law_rows : mtSs (pg0.T 4 false) N__law_rows (defScope st__law_rows) (defScope st__law_rows) fd__law_rows.body (defBody st__law_rows) = true := by decide +kernel
theorem rw__law_rows : pg0.row "_law_rows" = some row__law_rows := by rfl
theorem mt__law_triple : mtSs (pg0.T 4 false) N__law_triple (defScope st__law_triple) (defScope st__law_triple) fd__law_triple.body (defBody st__law_triple) = true := by decide +kernel
theorem rw__law_triple : pg0.row "_law_triple" = some row__law_triple := by rfl
theorem mt_Map_d_after : mtSs (pg0.T 5 false) N_Map_d_after (defScope st_Map_d_after) (defScope st_Map_d_after) fd_Map_d_after.body (defBody st_Map_d_after) = true := by decide +kernel
theorem rw_Map_d_after : pg0.row "Map.after" = some row_Map_d_after := by rfl
theorem mt_Map_d_back : mtSs (pg0.T 5 false) N_Map_d_back (defScope st_Map_d_back) (defScope st_Map_d_back) fd_Map_d_back.body (defBody st_Map_d_back) = true := by decide +kernel
theorem rw_Map_d_back : pg0.row "Map.back" = some row_Map_d_back := by rfl
theorem mt__law_led : mtSs (pg0.T 5 false) N__law_led (defScope st__law_led) (defScope st__law_led) fd__law_led.body (defBody st__law_led) = true := by decide +kernel
theorem rw__law_led : pg0.row "_law_led" = some row__law_led := by rfl
theorem mt_law : mtSs { pg0.T 8 true with gd := true } N_law (defScope st_law) (defScope st_law) fd_law.body (defBody st_law) = true := by decide +kernel
theorem rw_law : pg0.row "law" = some row_law := by rfl
theorem hrow : ∀ r ∈ rows, pg0.row r.name = some r := by
  unfold rows
  simp only [List.forall_mem_cons]
  exact ⟨rw_Map_du_equ, rw__law_caught, rw__law_cross, rw__law_det, rw__law_dot, rw__law_draw, rw__law_gcd, rw__law_pen, rw_cross, rw_dot, rw_is_integer, rw_is_listed, rw_lowest, rw_normal, rw_transposed, rw__law_pick, rw_are_integers, rw_cofactors, rw_determinant, rw__law_number, rw_are_rows, rw_is_triple, rw_need_map, rw_Map_du_initu, rw_need_triple, rw_Map_d_line, rw_Map_d_point, rw__law_normal, rw__law_rows, rw__law_triple, rw_Map_d_after, rw_Map_d_back, rw__law_led, rw_law, fun _ h => nomatch h⟩
theorem hsc : ∀ r ∈ rows, FnScope r.N r.ps (defScope r.st) := by
  unfold rows
  simp only [List.forall_mem_cons]
  exact ⟨sc_Map_du_equ, sc__law_caught, sc__law_cross, sc__law_det, sc__law_dot, sc__law_draw, sc__law_gcd, sc__law_pen, sc_cross, sc_dot, sc_is_integer, sc_is_listed, sc_lowest, sc_normal, sc_transposed, sc__law_pick, sc_are_integers, sc_cofactors, sc_determinant, sc__law_number, sc_are_rows, sc_is_triple, sc_need_map, sc_Map_du_initu, sc_need_triple, sc_Map_d_line, sc_Map_d_point, sc__law_normal, sc__law_rows, sc__law_triple, sc_Map_d_after, sc_Map_d_back, sc__law_led, sc_law, fun _ h => nomatch h⟩
theorem hmt : ∀ r ∈ rows, (if r.fd.mode = 9 then (match r.ps with | [x0] => cauB (pg0.T (r.lv - 1) false) r.N (defScope r.st) x0 r.fd.body (defBody r.st) | _ => false) else mtSs { pg0.T (r.lv - 1) r.tab with gd := decide (r.fd.mode = 8) } r.N (defScope r.st) (defScope r.st) r.fd.body (defBody r.st)) = true := by
  unfold rows
  simp only [List.forall_mem_cons]
  exact ⟨(if_neg (by decide)).trans mt_Map_du_equ, (if_pos rfl).trans mt__law_caught, (if_neg (by decide)).trans mt__law_cross, (if_neg (by decide)).trans mt__law_det, (if_neg (by decide)).trans mt__law_dot, (if_neg (by decide)).trans mt__law_draw, (if_neg (by decide)).trans mt__law_gcd, (if_neg (by decide)).trans mt__law_pen, (if_neg (by decide)).trans mt_cross, (if_neg (by decide)).trans mt_dot, (if_neg (by decide)).trans mt_is_integer, (if_neg (by decide)).trans mt_is_listed, (if_neg (by decide)).trans mt_lowest, (if_neg (by decide)).trans mt_normal, (if_neg (by decide)).trans mt_transposed, (if_neg (by decide)).trans mt__law_pick, (if_neg (by decide)).trans mt_are_integers, (if_neg (by decide)).trans mt_cofactors, (if_neg (by decide)).trans mt_determinant, (if_neg (by decide)).trans mt__law_number, (if_neg (by decide)).trans mt_are_rows, (if_neg (by decide)).trans mt_is_triple, (if_neg (by decide)).trans mt_need_map, (if_neg (by decide)).trans mt_Map_du_initu, (if_neg (by decide)).trans mt_need_triple, (if_neg (by decide)).trans mt_Map_d_line, (if_neg (by decide)).trans mt_Map_d_point, (if_neg (by decide)).trans mt__law_normal, (if_neg (by decide)).trans mt__law_rows, (if_neg (by decide)).trans mt__law_triple, (if_neg (by decide)).trans mt_Map_d_after, (if_neg (by decide)).trans mt_Map_d_back, (if_neg (by decide)).trans mt__law_led, (if_neg (by decide)).trans mt_law, fun _ h => nomatch h⟩
theorem hnu : ∀ r ∈ rows, (if r.fd.mode = 9 then r.fd.np = 2 ∧ r.x = so r.name ∧ r.qual = so r.name ∧ r.own = none else r.fd.np = r.ps.length) ∧ r.fd.nl = r.N.length ∧ 1 ≤ r.lv := by
  unfold rows
  simp only [List.forall_mem_cons]
  exact ⟨⟨by rw [if_neg (by decide)]; rfl, rfl, by decide⟩, ⟨by rw [if_pos (show row__law_caught.fd.mode = 9 from rfl)]; exact ⟨rfl, rfl, rfl, rfl⟩, rfl, by decide⟩, ⟨by rw [if_neg (by decide)]; rfl, rfl, by decide⟩, ⟨by rw [if_neg (by decide)]; rfl, rfl, by decide⟩, ⟨by rw [if_neg (by decide)]; rfl, rfl, by decide⟩, ⟨by rw [if_neg (by decide)]; rfl, rfl, by decide⟩, ⟨by rw [if_neg (by decide)]; rfl, rfl, by decide⟩, ⟨by rw [if_neg (by decide)]; rfl, rfl, by decide⟩, ⟨by rw [if_neg (by decide)]; rfl, rfl, by decide⟩, ⟨by rw [if_neg (by decide)]; rfl, rfl, by decide⟩, ⟨by rw [if_neg (by decide)]; rfl, rfl, by decide⟩, ⟨by rw [if_neg (by decide)]; rfl, rfl, by decide⟩, ⟨by rw [if_neg (by decide)]; rfl, rfl, by decide⟩, ⟨by rw [if_neg (by decide)]; rfl, rfl, by decide⟩, ⟨by rw [if_neg (by decide)]; rfl, rfl, by decide⟩, ⟨by rw [if_neg (by decide)]; rfl, rfl, by decide⟩, ⟨by rw [if_neg (by decide)]; rfl, rfl, by decide⟩, ⟨by rw [if_neg (by decide)]; rfl, rfl, by decide⟩, ⟨by rw [if_neg (by decide)]; rfl, rfl, by decide⟩, ⟨by rw [if_neg (by decide)]; rfl, rfl, by decide⟩, ⟨by rw [if_neg (by decide)]; rfl, rfl, by decide⟩, ⟨by rw [if_neg (by decide)]; rfl, rfl, by decide⟩, ⟨by rw [if_neg (by decide)]; rfl, rfl, by decide⟩, ⟨by rw [if_neg (by decide)]; rfl, rfl, by decide⟩, ⟨by rw [if_neg (by decide)]; rfl, rfl, by decide⟩, ⟨by rw [if_neg (by decide)]; rfl, rfl, by decide⟩, ⟨by rw [if_neg (by decide)]; rfl, rfl, by decide⟩, ⟨by rw [if_neg (by decide)]; rfl, rfl, by decide⟩, ⟨by rw [if_neg (by decide)]; rfl, rfl, by decide⟩, ⟨by rw [if_neg (by decide)]; rfl, rfl, by decide⟩, ⟨by rw [if_neg (by decide)]; rfl, rfl, by decide⟩, ⟨by rw [if_neg (by decide)]; rfl, rfl, by decide⟩, ⟨by rw [if_neg (by decide)]; rfl, rfl, by decide⟩, ⟨by rw [if_neg (by decide)]; rfl, rfl, by decide⟩, fun _ h => nomatch h⟩
theorem hm9 : ∀ C n g r, pg0.gOf C n = some g → pg0.row g = some r → r.fd.mode < 8 := hm9_of (by decide +kernel)
theorem hlv : ∀ r ∈ rows, 1 ≤ r.lv ∧ r.lv ≤ 9 := by
  unfold rows
  simp only [List.forall_mem_cons]
  exact ⟨⟨by decide, by decide⟩, ⟨by decide, by decide⟩, ⟨by decide, by decide⟩, ⟨by decide, by decide⟩, ⟨by decide, by decide⟩, ⟨by decide, by decide⟩, ⟨by decide, by decide⟩, ⟨by decide, by decide⟩, ⟨by decide, by decide⟩, ⟨by decide, by decide⟩, ⟨by decide, by decide⟩, ⟨by decide, by decide⟩, ⟨by decide, by decide⟩, ⟨by decide, by decide⟩, ⟨by decide, by decide⟩, ⟨by decide, by decide⟩, ⟨by decide, by decide⟩, ⟨by decide, by decide⟩, ⟨by decide, by decide⟩, ⟨by decide, by decide⟩, ⟨by decide, by decide⟩, ⟨by decide, by decide⟩, ⟨by decide, by decide⟩, ⟨by decide, by decide⟩, ⟨by decide, by decide⟩, ⟨by decide, by decide⟩, ⟨by decide, by decide⟩, ⟨by decide, by decide⟩, ⟨by decide, by decide⟩, ⟨by decide, by decide⟩, ⟨by decide, by decide⟩, ⟨by decide, by decide⟩, ⟨by decide, by decide⟩, ⟨by decide, by decide⟩, fun _ h => nomatch h⟩
theorem hbd : BindAll pg0 := by
  intro r hr
  revert r
  show ∀ r ∈ rows, _
  unfold rows
  simp only [List.forall_mem_cons]
  exact ⟨bd_Map_du_equ, bd__law_caught, bd__law_cross, bd__law_det, bd__law_dot, bd__law_draw, bd__law_gcd, bd__law_pen, bd_cross, bd_dot, bd_is_integer, bd_is_listed, bd_lowest, bd_normal, bd_transposed, bd__law_pick, bd_are_integers, bd_cofactors, bd_determinant, bd__law_number, bd_are_rows, bd_is_triple, bd_need_map, bd_Map_du_initu, bd_need_triple, bd_Map_d_line, bd_Map_d_point, bd__law_normal, bd__law_rows, bd__law_triple, bd_Map_d_after, bd_Map_d_back, bd__law_led, bd_law, fun _ h => nomatch h⟩
theorem kb_0 : KBindOk row_Map_du_initu 1 ["rows"] [0, 1] := fun kV doc pm an cdv ct us ws h1 h2 => match us, ws, h1, h2 with | [_], [_], _, _ => rfl
theorem kb_1 : KBindOk row_Map_d_after 1 ["other"] [0, 1] := fun kV doc pm an cdv ct us ws h1 h2 => match us, ws, h1, h2 with | [_], [_], _, _ => rfl
theorem kb_2 : KBindOk row_Map_d_line 1 ["triple"] [0, 1] := fun kV doc pm an cdv ct us ws h1 h2 => match us, ws, h1, h2 with | [_], [_], _, _ => rfl
theorem kb_3 : KBindOk row_Map_d_point 1 ["triple"] [0, 1] := fun kV doc pm an cdv ct us ws h1 h2 => match us, ws, h1, h2 with | [_], [_], _, _ => rfl
theorem hpl {K : PySem.W.Frag} (L : Nat) (hE : FnsEq (pg0.full L) K) (hB : fnsB (pg0.full L) K = true) : ∀ f n ks pl, (pg0.full L).plans.lookup (f, n, ks) = some pl → PlanOk ((pg0.full L).fx K) f n ks pl := by
  intro f n ks pl h
  have h : plansT.lookup (f, n, ks) = some pl := h
  have h2 := lk_memG h
  unfold plansT at h2
  simp only [List.mem_cons, List.not_mem_nil, or_false, Prod.mk.injEq] at h2
  rcases h2 with ⟨⟨rfl, rfl, rfl⟩, rfl⟩ | ⟨⟨rfl, rfl, rfl⟩, rfl⟩ | ⟨⟨rfl, rfl, rfl⟩, rfl⟩ | ⟨⟨rfl, rfl, rfl⟩, rfl⟩
  · exact plan_ok (p := pg0.full L) (fun r hr => hrow r hr) hE hB (r := row_Map_du_initu) (by show _ ∈ rows; unfold rows; simp only [List.mem_cons, true_or, or_true]) kb_0
  · exact plan_ok (p := pg0.full L) (fun r hr => hrow r hr) hE hB (r := row_Map_d_after) (by show _ ∈ rows; unfold rows; simp only [List.mem_cons, true_or, or_true]) kb_1
  · exact plan_ok (p := pg0.full L) (fun r hr => hrow r hr) hE hB (r := row_Map_d_line) (by show _ ∈ rows; unfold rows; simp only [List.mem_cons, true_or, or_true]) kb_2
  · exact plan_ok (p := pg0.full L) (fun r hr => hrow r hr) hE hB (r := row_Map_d_point) (by show _ ∈ rows; unfold rows; simp only [List.mem_cons, true_or, or_true]) kb_3
theorem eq_Map_du_equ (k : Nat) (h : 1 ≤ k) : fnL pg0 k "Map.__eq__" = runF { pg0.Γ 0 with fn := fnL pg0 0 } fd_Map_du_equ := fnL_eq rw_Map_du_equ rfl k h
theorem eq__law_caught (k : Nat) (h : 1 ≤ k) : fnL pg0 k "_law_caught" = runC { pg0.Γ 0 with fn := fnL pg0 0 } fd__law_caught := fnL_eq rw__law_caught rfl k h
theorem eq__law_cross (k : Nat) (h : 1 ≤ k) : fnL pg0 k "_law_cross" = runF { pg0.Γ 0 with fn := fnL pg0 0 } fd__law_cross := fnL_eq rw__law_cross rfl k h
theorem eq__law_det (k : Nat) (h : 1 ≤ k) : fnL pg0 k "_law_det" = runF { pg0.Γ 0 with fn := fnL pg0 0 } fd__law_det := fnL_eq rw__law_det rfl k h
theorem eq__law_dot (k : Nat) (h : 1 ≤ k) : fnL pg0 k "_law_dot" = runF { pg0.Γ 0 with fn := fnL pg0 0 } fd__law_dot := fnL_eq rw__law_dot rfl k h
theorem eq__law_draw (k : Nat) (h : 1 ≤ k) : fnL pg0 k "_law_draw" = runF { pg0.Γ 0 with fn := fnL pg0 0 } fd__law_draw := fnL_eq rw__law_draw rfl k h
theorem eq__law_gcd (k : Nat) (h : 1 ≤ k) : fnL pg0 k "_law_gcd" = runF { pg0.Γ 0 with fn := fnL pg0 0 } fd__law_gcd := fnL_eq rw__law_gcd rfl k h
theorem eq__law_pen (k : Nat) (h : 1 ≤ k) : fnL pg0 k "_law_pen" = runF { pg0.Γ 0 with fn := fnL pg0 0 } fd__law_pen := fnL_eq rw__law_pen rfl k h
theorem eq_cross (k : Nat) (h : 1 ≤ k) : fnL pg0 k "cross" = runF { pg0.Γ 0 with fn := fnL pg0 0 } fd_cross := fnL_eq rw_cross rfl k h
theorem eq_dot (k : Nat) (h : 1 ≤ k) : fnL pg0 k "dot" = runF { pg0.Γ 0 with fn := fnL pg0 0 } fd_dot := fnL_eq rw_dot rfl k h
theorem eq_is_integer (k : Nat) (h : 1 ≤ k) : fnL pg0 k "is_integer" = runF { pg0.Γ 0 with fn := fnL pg0 0 } fd_is_integer := fnL_eq rw_is_integer rfl k h
theorem eq_is_listed (k : Nat) (h : 1 ≤ k) : fnL pg0 k "is_listed" = runF { pg0.Γ 0 with fn := fnL pg0 0 } fd_is_listed := fnL_eq rw_is_listed rfl k h
theorem eq_lowest (k : Nat) (h : 1 ≤ k) : fnL pg0 k "lowest" = runF { pg0.Γ 0 with fn := fnL pg0 0 } fd_lowest := fnL_eq rw_lowest rfl k h
theorem eq_normal (k : Nat) (h : 1 ≤ k) : fnL pg0 k "normal" = runF { pg0.Γ 0 with fn := fnL pg0 0 } fd_normal := fnL_eq rw_normal rfl k h
theorem eq_transposed (k : Nat) (h : 1 ≤ k) : fnL pg0 k "transposed" = runF { pg0.Γ 0 with fn := fnL pg0 0 } fd_transposed := fnL_eq rw_transposed rfl k h
theorem eq__law_pick (k : Nat) (h : 2 ≤ k) : fnL pg0 k "_law_pick" = runF { pg0.Γ 1 with fn := fnL pg0 1 } fd__law_pick := fnL_eq rw__law_pick rfl k h
theorem eq_are_integers (k : Nat) (h : 2 ≤ k) : fnL pg0 k "are_integers" = runF { pg0.Γ 1 with fn := fnL pg0 1 } fd_are_integers := fnL_eq rw_are_integers rfl k h
theorem eq_cofactors (k : Nat) (h : 2 ≤ k) : fnL pg0 k "cofactors" = runF { pg0.Γ 1 with fn := fnL pg0 1 } fd_cofactors := fnL_eq rw_cofactors rfl k h
theorem eq_determinant (k : Nat) (h : 2 ≤ k) : fnL pg0 k "determinant" = runF { pg0.Γ 1 with fn := fnL pg0 1 } fd_determinant := fnL_eq rw_determinant rfl k h
theorem eq__law_number (k : Nat) (h : 3 ≤ k) : fnL pg0 k "_law_number" = runF { pg0.Γ 2 with fn := fnL pg0 2 } fd__law_number := fnL_eq rw__law_number rfl k h
theorem eq_are_rows (k : Nat) (h : 3 ≤ k) : fnL pg0 k "are_rows" = runF { pg0.Γ 2 with fn := fnL pg0 2 } fd_are_rows := fnL_eq rw_are_rows rfl k h
theorem eq_is_triple (k : Nat) (h : 3 ≤ k) : fnL pg0 k "is_triple" = runF { pg0.Γ 2 with fn := fnL pg0 2 } fd_is_triple := fnL_eq rw_is_triple rfl k h
theorem eq_need_map (k : Nat) (h : 3 ≤ k) : fnL pg0 k "need_map" = runF { pg0.Γ 2 with fn := fnL pg0 2 } fd_need_map := fnL_eq rw_need_map rfl k h
theorem eq_Map_du_initu (k : Nat) (h : 4 ≤ k) : fnL pg0 k "Map.__init__" = runF { pg0.Γ 3 with fn := fnL pg0 3 } fd_Map_du_initu := fnL_eq rw_Map_du_initu rfl k h
theorem eq_need_triple (k : Nat) (h : 4 ≤ k) : fnL pg0 k "need_triple" = runF { pg0.Γ 3 with fn := fnL pg0 3 } fd_need_triple := fnL_eq rw_need_triple rfl k h
theorem eq_Map_d_line (k : Nat) (h : 5 ≤ k) : fnL pg0 k "Map.line" = runF { pg0.Γ 4 with fn := fnL pg0 4 } fd_Map_d_line := fnL_eq rw_Map_d_line rfl k h
theorem eq_Map_d_point (k : Nat) (h : 5 ≤ k) : fnL pg0 k "Map.point" = runF { pg0.Γ 4 with fn := fnL pg0 4 } fd_Map_d_point := fnL_eq rw_Map_d_point rfl k h
theorem eq__law_normal (k : Nat) (h : 5 ≤ k) : fnL pg0 k "_law_normal" = runF { pg0.Γ 4 with fn := fnL pg0 4 } fd__law_normal := fnL_eq rw__law_normal rfl k h
theorem eq__law_rows (k : Nat) (h : 5 ≤ k) : fnL pg0 k "_law_rows" = runF { pg0.Γ 4 with fn := fnL pg0 4 } fd__law_rows := fnL_eq rw__law_rows rfl k h
theorem eq__law_triple (k : Nat) (h : 5 ≤ k) : fnL pg0 k "_law_triple" = runF { pg0.Γ 4 with fn := fnL pg0 4 } fd__law_triple := fnL_eq rw__law_triple rfl k h
theorem eq_Map_d_after (k : Nat) (h : 6 ≤ k) : fnL pg0 k "Map.after" = runF { pg0.Γ 5 with fn := fnL pg0 5 } fd_Map_d_after := fnL_eq rw_Map_d_after rfl k h
theorem eq_Map_d_back (k : Nat) (h : 6 ≤ k) : fnL pg0 k "Map.back" = runF { pg0.Γ 5 with fn := fnL pg0 5 } fd_Map_d_back := fnL_eq rw_Map_d_back rfl k h
theorem eq__law_led (k : Nat) (h : 6 ≤ k) : fnL pg0 k "_law_led" = runF { pg0.Γ 5 with fn := fnL pg0 5 } fd__law_led := fnL_eq rw__law_led rfl k h
theorem eq_law (k : Nat) (h : 9 ≤ k) : fnL pg0 k "law" = runF { pg0.Γ 8 with fn := fnL pg0 8 } fd_law := fnL_eq rw_law rfl k h
end Law
end PL

set_option linter.all false
/-! PL.Go: loops by what stays. -/
namespace PL
/-- a turn goes on, or ends what it is in -/
def Goes (I : Env → Mem → Prop) (R : SO → Prop) (o : SO) : Prop := match o with
  | .nx ρ m => I ρ m
  | .ct ρ m => I ρ m
  | .br ρ m => R (.nx ρ m)
  | o => R o
@[simp] theorem Goes_nx (I : Env → Mem → Prop) (R : SO → Prop) (ρ : Env) (m : Mem) : Goes I R (.nx ρ m) = I ρ m := rfl
@[simp] theorem Goes_ct (I : Env → Mem → Prop) (R : SO → Prop) (ρ : Env) (m : Mem) : Goes I R (.ct ρ m) = I ρ m := rfl
@[simp] theorem Goes_br (I : Env → Mem → Prop) (R : SO → Prop) (ρ : Env) (m : Mem) : Goes I R (.br ρ m) = R (.nx ρ m) := rfl
@[simp] theorem Goes_rt (I : Env → Mem → Prop) (R : SO → Prop) (d : D) (m : Mem) : Goes I R (.rt d m) = R (.rt d m) := rfl
@[simp] theorem Goes_er (I : Env → Mem → Prop) (R : SO → Prop) (d : D) (ρ : Env) (m : Mem) : Goes I R (.er d ρ m) = R (.er d ρ m) := rfl
theorem for_goes {f : D → Env → Mem → SO} (I : List D → Env → Mem → Prop) (R : SO → Prop) (done : ∀ ρ m, I [] ρ m → R (.nx ρ m)) (step : ∀ d ds ρ m, I (d :: ds) ρ m → Goes (I ds) R (f d ρ m)) :
    ∀ ds ρ m, I ds ρ m → R (forLoop f ds ρ m)
  | [], ρ, m, h => done ρ m h
  | d :: ds, ρ, m, h => by
    rw [forLoop_cons]
    have s := step d ds ρ m h
    cases q : f d ρ m with
    | nx ρ' m' => rw [q] at s; exact for_goes I R done step ds ρ' m' s
    | ct ρ' m' => rw [q] at s; exact for_goes I R done step ds ρ' m' s
    | br ρ' m' => rw [q] at s; exact s
    | rt d' m' => rw [q] at s; exact s
    | er d' ρ' m' => rw [q] at s; exact s
    | stk => rw [q] at s; exact s
/-- what a law must answer -/
def LawOk (o : SO) : Prop := ∃ m, outF 8 [] o = .ok (.bl true) m
theorem LawOk_rt (m : Mem) : LawOk (.rt (.bl true) m) := ⟨m, rfl⟩
@[simp] theorem LawOk_rt' (b : Bool) (m : Mem) : LawOk (.rt (.bl b) m) = (b = true) := by
  cases b
  · simp only [Bool.false_eq_true, eq_iff_iff, iff_false]
    rintro ⟨m', h⟩
    cases h
  · simp only [eq_iff_iff, iff_true]
    exact ⟨m, rfl⟩
/-- a loop and what comes behind it -/
theorem for_then {f : D → Env → Mem → SO} {k : Env → Mem → SO} {P : SO → Prop} {ds : List D} {ρ : Env} {m : Mem} (I : List D → Env → Mem → Prop) (h0 : I ds ρ m) (step : ∀ d ds ρ m, I (d :: ds) ρ m → Goes (I ds) (fun o => P (o.then k)) (f d ρ m)) (done : ∀ ρ m, I [] ρ m → P (k ρ m)) : P ((forLoop f ds ρ m).then k) :=
  for_goes I (fun o => P (o.then k)) (fun ρ m h => done ρ m h) step ds ρ m h0
mutual
theorem eqv_refl : ∀ (n : Nat) (d : D), D.plain n d = true → D.eqv d d = true
  | _, .non, _ => rfl
  | _, .bl b, _ => by simp [D.eqv]
  | _, .int i, _ => by simp [D.eqv]
  | _, .str x, _ => by simp [D.eqv]
  | 0, .tup ds, h => by simp [D.plain] at h
  | n + 1, .tup ds, h => by simp only [D.eqv]; exact eqvL_refl n ds (by simpa [D.plain] using h)
  | 0, .lst ds, h => by simp [D.plain] at h
  | n + 1, .lst ds, h => by simp only [D.eqv]; exact eqvL_refl n ds (by simpa [D.plain] using h)
  | _, .ty _, h => by simp [D.plain] at h
  | _, .dct _ _, h => by simp [D.plain] at h
  | _, .obj _ _ _, h => by simp [D.plain] at h
  | _, .exc _ _ _, h => by simp [D.plain] at h
  | _, .ref _, h => by simp [D.plain] at h
  | _, .cls _, h => by simp [D.plain] at h
theorem eqvL_refl : ∀ (n : Nat) (ds : List D), D.plainL n ds = true → D.eqvL ds ds = true
  | _, [], _ => rfl
  | n, d :: ds, h => by
    simp only [D.plainL, Bool.and_eq_true] at h
    simp only [D.eqvL, eqv_refl n d h.1, eqvL_refl n ds h.2, Bool.and_self]
end
theorem cmp_ne_ll (Γ : Gam) (m : Mem) (xs : List D) (h : D.plain 60 (.lst xs) = true) : cmpX Γ .ne (.lst xs) (.lst xs) m = .ok (.bl false) m := by
  show Out.of m ((if D.plain 60 (.lst xs) && D.plain 60 (.lst xs) then some (!D.eqv (.lst xs) (.lst xs)) else none).map D.bl) = _
  rw [h, eqv_refl 60 _ h]; rfl
theorem cmp_eq_ll (Γ : Gam) (m : Mem) (xs : List D) (h : D.plain 60 (.lst xs) = true) : cmpX Γ .eq (.lst xs) (.lst xs) m = .ok (.bl true) m := by
  show Out.of m ((if D.plain 60 (.lst xs) && D.plain 60 (.lst xs) then some (D.eqv (.lst xs) (.lst xs)) else none).map D.bl) = _
  rw [h, eqv_refl 60 _ h]; rfl
theorem cmp_ne_tt (Γ : Gam) (m : Mem) (xs : List D) (h : D.plain 60 (.tup xs) = true) : cmpX Γ .ne (.tup xs) (.tup xs) m = .ok (.bl false) m := by
  show Out.of m ((if D.plain 60 (.tup xs) && D.plain 60 (.tup xs) then some (!D.eqv (.tup xs) (.tup xs)) else none).map D.bl) = _
  rw [h, eqv_refl 60 _ h]; rfl
theorem cmp_eq_tt (Γ : Gam) (m : Mem) (xs : List D) (h : D.plain 60 (.tup xs) = true) : cmpX Γ .eq (.tup xs) (.tup xs) m = .ok (.bl true) m := by
  show Out.of m ((if D.plain 60 (.tup xs) && D.plain 60 (.tup xs) then some (D.eqv (.tup xs) (.tup xs)) else none).map D.bl) = _
  rw [h, eqv_refl 60 _ h]; rfl
theorem ibeq (a b : Int) : (a == b) = decide (a = b) := by rw [Bool.eq_iff_iff]; simp
/-- slots: some known first ones, so many others -/
def Slots (n : Nat) (r : List (Option D)) : Prop := r.length = n
end PL

set_option linter.all false
set_option maxHeartbeats 4000000
/-! contracts: maps -/
namespace PL
namespace Pk
open Tri
/-! what reads as a list or a tuple, whichever it is -/
theorem kItv_its {d : D} {ds : List D} (h : its d = some ds) (m : Mem) : kItv d m = .ok (.lst ds) m := by rcases its_some h with rfl | rfl <;> rfl
theorem ix_its {d : D} {ds : List D} (h : its d = some ds) (m : Mem) (k : Int) : ixS m d (.int k) = (pyIx ds.length k).bind fun j => ds[j]? := by rcases its_some h with rfl | rfl <;> rfl
theorem len_its {d : D} {ds : List D} (h : its d = some ds) (Γ : Gam) (m : Mem) : bltS Γ m .len [d] = some (.int ds.length) := by rcases its_some h with rfl | rfl <;> rfl
theorem tup_its {d : D} {ds : List D} (h : its d = some ds) (Γ : Gam) (m : Mem) : bltS Γ m .tup [d] = some (.tup ds) := by rcases its_some h with rfl | rfl <;> rfl
theorem lst_its {d : D} {ds : List D} (h : its d = some ds) (Γ : Gam) (m : Mem) : bltS Γ m .lst [d] = some (.lst ds) := by rcases its_some h with rfl | rfl <;> rfl
theorem get_last (m : Mem) (o : MO) : (m ++ [o])[m.length]? = some o := by simp
theorem set_last (m : Mem) (o u : MO) : (m ++ [o]).set m.length u = m ++ [u] := by simp
theorem cutOk_app (m r : Mem) : cutOk m (m ++ r) := ⟨by simp, .inl (by simp)⟩
theorem cutOk_refl (m : Mem) : cutOk m m := ⟨Nat.le_refl _, .inl (by simp)⟩
theorem mkI_ok (m : Mem) (C : String) (ns : List String) (ds : List D) (h : D.rbL m.length ds = true) : mkI m C (.ok .non (m ++ [.ins C ns ds])) = .ok (.obj C ns ds) m := by
  unfold mkI
  simp [h, cutOk_app]
@[simp] theorem mkI_err (m m' : Mem) (C : String) (x : D) : mkI m C (.err x m') = .err x m' := rfl
@[simp] theorem rb_int (n : Nat) (i : Int) : D.rb n (.int i) = true := rfl
@[simp] theorem rb_tup (n : Nat) (ds : List D) : D.rb n (.tup ds) = D.rbL n ds := rfl
@[simp] theorem rb_lst (n : Nat) (ds : List D) : D.rb n (.lst ds) = D.rbL n ds := rfl
@[simp] theorem rb_obj (n : Nat) (C : String) (ns : List String) (ds : List D) : D.rb n (.obj C ns ds) = D.rbL n ds := rfl
@[simp] theorem rb_bl (n : Nat) (b : Bool) : D.rb n (.bl b) = true := rfl
@[simp] theorem rb_str (n : Nat) (b : String) : D.rb n (.str b) = true := rfl
@[simp] theorem rb_non (n : Nat) : D.rb n .non = true := rfl
@[simp] theorem rbL_nil (n : Nat) : D.rbL n [] = true := rfl
@[simp] theorem rbL_cons (n : Nat) (d : D) (ds : List D) : D.rbL n (d :: ds) = (D.rb n d && D.rbL n ds) := rfl
@[simp] theorem att_obj (Γ : Gam) (m : Mem) (f C : String) (ns : List String) (ds : List D) : attS Γ m f (.obj C ns ds) = if Γ.fld C f = true then lkp f ns ds else none := rfl
@[simp] theorem cls_obj (m : Mem) (C : String) (ns : List String) (ds : List D) : clsOf m (.obj C ns ds) = some C := rfl
@[simp] theorem hasA_obj (m : Mem) (f C : String) (ns : List String) (ds : List D) : hasA m f (.obj C ns ds) = ns.contains f := rfl
@[simp] theorem lkp_cons (f n : String) (ns : List String) (d : D) (ds : List D) : lkp f (n :: ns) (d :: ds) = if n = f then some d else lkp f ns ds := rfl
@[simp] theorem putF_nil (f : String) (v : D) : putF f v [] [] = ([f], [v]) := rfl
@[simp] theorem putF_cons (f n : String) (v d : D) (ns : List String) (ds : List D) : putF f v (n :: ns) (d :: ds) = if n = f then (n :: ns, v :: ds) else (n :: (putF f v ns ds).1, d :: (putF f v ns ds).2) := rfl
@[simp] theorem cmp_nebl (Γ : Gam) (a b : Bool) (m : Mem) : cmpX Γ .ne (.bl a) (.bl b) m = .ok (.bl (!(a == b))) m := rfl
@[simp] theorem cmp_eqbl (Γ : Gam) (a b : Bool) (m : Mem) : cmpX Γ .eq (.bl a) (.bl b) m = .ok (.bl (a == b)) m := rfl
abbrev mapD (n : M3) : D := .obj "Map" ["rows"] [mD n]
/-- what is asked of the class Map -/
structure GMap (Γ : Gam) : Prop where
  mi : Γ.meth "Map" "__init__" = some "Map.__init__"
  mp : Γ.meth "Map" "point" = some "Map.point"
  ml : Γ.meth "Map" "line" = some "Map.line"
  mb : Γ.meth "Map" "back" = some "Map.back"
  ma : Γ.meth "Map" "after" = some "Map.after"
  fr : Γ.fld "Map" "rows" = true
  mro : Γ.mro "Map" = ["Map"]
/-- == of maps by their own -/
structure GMapE (Γ : Gam) : Prop where
  me : Γ.meth "Map" "__eq__" = some "Map.__eq__"
/-- three integers -/
def triOf (d : D) : Option V3 := match its d with
  | some [.int x, .int y, .int z] => some ⟨x, y, z⟩
  | _ => none
theorem triOf_some {d : D} {v : V3} : triOf d = some v ↔ IsT d v := by
  unfold triOf IsT
  constructor
  · intro h
    split at h
    · rename_i e; cases h; exact e
    · cases h
  · intro h; rw [h]
theorem areI_triOf {d : D} : areI d 3 = (triOf d).isSome := by
  cases q : areI d 3 with
  | true =>
    obtain ⟨v, hv⟩ := areI3 q
    rw [triOf_some.mpr hv]; rfl
  | false =>
    cases q2 : triOf d with
    | none => rfl
    | some v => rw [(triOf_some.mp q2).areI] at q; cases q
/-- rows of a map -/
def m3Of (d : D) : Option M3 := match its d with
  | some [a, b, c] => match triOf a, triOf b, triOf c with
    | some u, some v, some w => some ⟨u, v, w⟩
    | _, _, _ => none
  | _ => none
theorem m3Of_some {d : D} {n : M3} (h : m3Of d = some n) : IsM d n := by
  unfold m3Of at h
  split at h
  · rename_i a b c e
    split at h
    · rename_i e1 e2 e3
      cases h
      exact ⟨a, b, c, e, triOf_some.mp e1, triOf_some.mp e2, triOf_some.mp e3⟩
    · cases h
  · cases h
theorem m3Of_is {d : D} {n : M3} (h : IsM d n) : m3Of d = some n := by
  obtain ⟨a, b, c, e, h1, h2, h3⟩ := h
  unfold m3Of
  rw [e]
  simp only [triOf_some.mpr h1, triOf_some.mpr h2, triOf_some.mpr h3]
/-- a value of which each part is known -/
def FineR (m : Mem) (d : D) : Prop := Kn m d ∧ noRef d = true ∧ ∀ ds, its d = some ds → ds.length ≤ 16777216 ∧ ∀ x ∈ ds, Fine m x
theorem IsM.fine {d : D} {n : M3} (h : IsM d n) (m : Mem) : FineR m d := by
  obtain ⟨a, b, c, e, h1, h2, h3⟩ := h
  have k1 := h1.kn m
  have k2 := h2.kn m
  have k3 := h3.kn m
  have kd : Kn m d ∧ noRef d = true := by rcases its_some e with rfl | rfl <;> exact ⟨rfl, rfl⟩
  refine ⟨kd.1, kd.2, fun ds hd => ?_⟩
  rw [e] at hd
  cases hd
  refine ⟨by simp, fun x hx => ?_⟩
  simp only [List.mem_cons, List.not_mem_nil, or_false] at hx
  rcases hx with rfl | rfl | rfl
  · exact k1
  · exact k2
  · exact k3
def C_detX (f : List D → Mem → Out D) : Prop := ∀ (k : Nat) (a b c : D) (u v w : V3) (m : Mem), k < 100000 → VB k u → VB k v → VB k w → IsT a u → IsT b v → IsT c w → f [a, b, c] m = .ok (.int (Tri.det u v w)) m
def C_crossX (f : List D → Mem → Out D) : Prop := ∀ (k : Nat) (a b : D) (u v : V3) (m : Mem), k < 400000 → VB k u → VB k v → IsT a u → IsT b v → f [a, b] m = .ok (vD (V3.cross u v)) m
def C_dotX (f : List D → Mem → Out D) : Prop := ∀ (k : Nat) (a b : D) (u v : V3) (m : Mem), k < 400000 → VB k u → VB k v → IsT a u → IsT b v → f [a, b] m = .ok (.int (V3.dot u v)) m
theorem asg3 {d : D} {x y z : D} (h : its d = some [x, y, z]) (i j k : Nat) (ρ : Env) : asgT (.tup (.cons (.var i) (.cons (.var j) (.cons (.var k) .nil)))) d ρ = asgT (.tup (.cons (.var i) (.cons (.var j) (.cons (.var k) .nil)))) (.tup [x, y, z]) ρ := by
  rcases its_some h with rfl | rfl
  · rfl
  · simp
theorem crossX_ok (Γ : Gam) : C_crossX (runF Γ fd_cross) := by
  intro k a b u v m hk hu hv ha hb
  have M : ∀ i j, Bd k i → Bd k j → mulOk i j = true := fun i j hi hj => hi.mulOk hj (by omega)
  unfold fd_cross
  rw [runF_eq _ _ _ _ _ _ _ (by rfl)]
  have ea := fun ρ => asg3 ha 2 3 4 ρ
  have eb := fun ρ => asg3 hb 5 6 7 ρ
  simp [kAsg, ea, eb, M, hu.x, hu.y, hu.z, hv.x, hv.y, hv.z, V3.cross]
theorem tupsOf2 {a b : D} {xs ys : List D} (ha : its a = some xs) (hb : its b = some ys) : tupsOf [a, b] = some [xs, ys] := by
  rcases its_some ha with rfl | rfl <;> rcases its_some hb with rfl | rfl <;> rfl
theorem dotX_ok (Γ : Gam) : C_dotX (runF Γ fd_dot) := by
  intro k a b u v m hk hu hv ha hb
  have M : ∀ i j, Bd k i → Bd k j → mulOk i j = true := fun i j hi hj => hi.mulOk hj (by omega)
  unfold fd_dot
  rw [runF_eq _ _ _ _ _ _ _ (by rfl)]
  simp [M, zipOk, tupsOf2 ha hb, zipD, lcLoop_cs, lcT, intsD, hu.x, hu.y, hu.z, hv.x, hv.y, hv.z, V3.dot]
  omega
theorem determinantX_ok (Γ : Gam) (h1 : C_crossX (Γ.fn "cross")) (h2 : C_dotX (Γ.fn "dot")) : C_detX (runF Γ fd_determinant) := by
  intro k a b c u v w m hk hu hv hw ha hb hc
  unfold fd_determinant
  rw [runF_eq _ _ _ _ _ _ _ (by rfl)]
  simp [h1 k a b u v m (by omega) hu hv ha hb, h2 (k + k + 1) (vD (V3.cross u v)) c (V3.cross u v) w m (by omega) (hu.cross hv) (hw.mono (by omega)) (.tup _) hc, Tri.det]
theorem ldetX_ok (Γ : Gam) : C_detX (runF Γ fd__law_det) := by
  intro k a b c u v w m hk hu hv hw ha hb hc
  have M : ∀ i j, Bd k i → Bd k j → mulOk i j = true := fun i j hi hj => hi.mulOk hj (by omega)
  have M3 : ∀ i j l, Bd k i → Bd k j → Bd k l → mulOk (i * j) l = true := fun i j l hi hj hl => mulOk_of (k + k) k (hi.mul hj) hl (by omega)
  unfold fd__law_det
  rw [runF_eq _ _ _ _ _ _ _ (by rfl)]
  simp [ix_its ha, ix_its hb, ix_its hc, pyIx, M, M3, hu.x, hu.y, hu.z, hv.x, hv.y, hv.z, hw.x, hw.y, hw.z, Tri.det, V3.dot, V3.cross]
  grind
theorem lcrossX_ok (Γ : Gam) : C_crossX (runF Γ fd__law_cross) := by
  intro k a b u v m hk hu hv ha hb
  have M : ∀ i j, Bd k i → Bd k j → mulOk i j = true := fun i j hi hj => hi.mulOk hj (by omega)
  unfold fd__law_cross
  rw [runF_eq _ _ _ _ _ _ _ (by rfl)]
  simp [ix_its ha, ix_its hb, pyIx, M, hu.x, hu.y, hu.z, hv.x, hv.y, hv.z, V3.cross]
theorem ldotX_ok (Γ : Gam) : C_dotX (runF Γ fd__law_dot) := by
  intro k a b u v m hk hu hv ha hb
  have M : ∀ i j, Bd k i → Bd k j → mulOk i j = true := fun i j hi hj => hi.mulOk hj (by omega)
  unfold fd__law_dot
  rw [runF_eq _ _ _ _ _ _ _ (by rfl)]
  simp [ix_its ha, ix_its hb, pyIx, M, hu.x, hu.y, hu.z, hv.x, hv.y, hv.z, V3.dot]
def C_are_rowsX (f : List D → Mem → Out D) : Prop := ∀ (k : Nat) (d : D) (m : Mem), k < 100000 → FineR m d → (∀ n, m3Of d = some n → MB k n) → f [d] m = .ok (.bl (match m3Of d with | some n => decide (n.dt ≠ 0) | none => false)) m
theorem are_rowsX_ok (Γ : Gam) (h0 : C_is_listed (Γ.fn "is_listed")) (h1 : C_are_integers (Γ.fn "are_integers")) (h2 : C_detX (Γ.fn "determinant")) : C_are_rowsX (runF Γ fd_are_rows) := by
  intro k d m hk ⟨kd, nr, hd⟩ hb
  unfold fd_are_rows
  rw [runF_eq _ _ _ _ _ _ _ (by rfl)]
  have el := h0 d m kd nr
  cases q : its d with
  | none =>
    have e : m3Of d = none := by unfold m3Of; rw [q]
    rw [q] at el
    simp [el, e]
  | some ds =>
    rw [q] at el
    obtain ⟨hl, hx⟩ := hd ds q
    by_cases h3 : ds.length = 3
    · match ds, h3 with
      | [a, b, c], _ =>
        have I : ∀ x, Fine m x → Γ.fn "are_integers" [x, .int 3] m = .ok (.bl (triOf x).isSome) m := fun x ⟨f1, f2, f3⟩ => by
          have := h1 x 3 m f1 f2 f3
          rw [areI_triOf] at this
          exact this
        have ia := I a (hx a (by simp))
        have ib := I b (hx b (by simp))
        have ic := I c (hx c (by simp))
        cases ta : triOf a with
        | none =>
          have e : m3Of d = none := by unfold m3Of; rw [q]; simp [ta]
          simp [el, e, len_its q, kItv_its q, lcLoop_cs, lcT, ia, ib, ic, ta, boolsD]
        | some u =>
          cases tb : triOf b with
          | none =>
            have e : m3Of d = none := by unfold m3Of; rw [q]; simp [ta, tb]
            simp [el, e, len_its q, kItv_its q, lcLoop_cs, lcT, ia, ib, ic, ta, tb, boolsD]
          | some v =>
            cases tc : triOf c with
            | none =>
              have e : m3Of d = none := by unfold m3Of; rw [q]; simp [ta, tb, tc]
              simp [el, e, len_its q, kItv_its q, lcLoop_cs, lcT, ia, ib, ic, ta, tb, tc, boolsD]
            | some w =>
              have e : m3Of d = some ⟨u, v, w⟩ := by unfold m3Of; rw [q]; simp [ta, tb, tc]
              have hn := hb _ e
              have D := h2 k a b c u v w m hk hn.a hn.b hn.c (triOf_some.mp ta) (triOf_some.mp tb) (triOf_some.mp tc)
              simp [el, e, len_its q, kItv_its q, lcLoop_cs, lcT, ia, ib, ic, ta, tb, tc, boolsD, ix_its q, pyIx, D, M3.dt]
              by_cases z : Tri.det u v w = 0 <;> simp [z]
    · have e : m3Of d = none := by
        unfold m3Of
        rw [q]
        split
        · rename_i e; cases e; simp at h3
        · rfl
      have n3 : ((ds.length : Int) == 3) = false := by rw [beq_eq_false_iff_ne]; omega
      simp [el, e, len_its q, n3]
def C_lowestX (f : List D → Mem → Out D) : Prop := ∀ (k : Nat) (n : M3) (d : D) (m : Mem), k ≤ 9000 → MB k n → NZ n.l → IsM d n → f [d] m = .ok (mD n.nrm) m
theorem lowestX_ok (Γ : Gam) : C_lowestX (runF Γ fd_lowest) := by
  intro k n dd m hk hb hN ⟨da, db, dc, hd, ha, hb', hc'⟩
  obtain ⟨⟨a, b, c⟩, ⟨e, g, h⟩, ⟨p, q, s⟩⟩ := n
  obtain ⟨r, hr⟩ := hd0_cons hN
  obtain ⟨⟨h1, h2, h3⟩, ⟨h4, h5, h6⟩, ⟨h7, h8, h9⟩⟩ := hb
  simp only [M3.l, V3.l, List.cons_append, List.nil_append] at hN hr
  have D := divOk_gl hN (by simp only [List.mem_cons, List.not_mem_nil, or_false, forall_eq_or_imp, forall_eq]; exact ⟨h1, h2, h3, h4, h5, h6, h7, h8, h9⟩) hk
  have M : ∀ j, Bd k j → mulOk 1 j = true ∧ mulOk (-1) j = true := fun j hj => ⟨mulOk_of 1 k (by decide) hj (by omega), mulOk_of 1 k (by decide) hj (by omega)⟩
  have hrl : r.length ≤ 16777215 := by
    have := List.length_filter_le (fun x => x != 0) [a, b, c, e, g, h, p, q, s]
    rw [hr] at this
    simp at this
    omega
  have G : gl [a, b, c, e, g, h, p, q, s] = (((((((a.natAbs.gcd b.natAbs).gcd c.natAbs).gcd e.natAbs).gcd g.natAbs).gcd h.natAbs).gcd p.natAbs).gcd q.natAbs).gcd s.natAbs := by simp [gl]
  have L := fun (ρ : Env) (hl : 3 < ρ.length) => nzLoop Γ 3 ρ hl [a, b, c, e, g, h, p, q, s] m
  rw [hr] at L
  simp only [List.map_cons, List.map_nil] at L
  unfold IsT at ha hb' hc'
  unfold fd_lowest
  rw [runF_eq _ _ _ _ _ _ _ (by rfl)]
  by_cases hs : 0 < hd0 [a, b, c, e, g, h, p, q, s] <;>
  simp [kItv_its hd, kItv_its ha, kItv_its hb', kItv_its hc', pyIx, ↓L, lcLoop_cs, lcT2, lcT, forLoop_cons, forT, ← G, hrl, hs, M, D, h1, h2, h3, h4, h5, h6, h7, h8, h9, M3.nrm, M3.l, V3.l, sgn]
structure C_Map_initX (f : List D → Mem → Out D) : Prop where
  ok : ∀ (k : Nat) (n : M3) (d : D) (m : Mem), k ≤ 9000 → MB k n → n.dt ≠ 0 → IsM d n → f [.ref m.length, d] (m ++ [.ins "Map" [] []]) = .ok .non (m ++ [.ins "Map" ["rows"] [mD n.nrm]])
  no : ∀ (k : Nat) (d : D) (m : Mem), k < 100000 → FineR (m ++ [.ins "Map" [] []]) d → (∀ n, m3Of d = some n → MB k n ∧ n.dt = 0) → f [.ref m.length, d] (m ++ [.ins "Map" [] []]) = .err (eP "BadMap" (.str "rows")) (m ++ [.ins "Map" [] []])
theorem Map_initX_ok (Γ : Gam) (fr : Γ.fld "Map" "rows" = true) (h1 : C_are_rowsX (Γ.fn "are_rows")) (h2 : C_lowestX (Γ.fn "lowest")) : C_Map_initX (runF Γ fd_Map_du_initu) := by
  constructor
  · intro k n d m hk hn hd hi
    unfold fd_Map_du_initu
    rw [runF_eq _ _ _ _ _ _ _ (by rfl)]
    have e := m3Of_is hi
    have r := h1 k d (m ++ [.ins "Map" [] []]) (by omega) (hi.fine _) (fun n' z => by rw [e] at z; cases z; exact hn)
    rw [e] at r
    simp [r, hd, h2 k n d _ hk hn (M3.nz_of_dt hd) hi, setAt, fr]
  · intro k d m hk hd hi
    unfold fd_Map_du_initu
    rw [runF_eq _ _ _ _ _ _ _ (by rfl)]
    have r := h1 k d (m ++ [.ins "Map" [] []]) hk hd (fun n' z => (hi n' z).1)
    cases e : m3Of d with
    | none => rw [e] at r; simp [r]
    | some n => rw [e] at r; simp [r, (hi n e).2]
/-- a map is made -/
theorem make_map {Γ : Gam} (mi : Γ.meth "Map" "__init__" = some "Map.__init__") (h : C_Map_initX (Γ.fn "Map.__init__")) {k : Nat} {n : M3} {d : D} {m : Mem} (hk : k ≤ 9000) (hn : MB k n) (hd : n.dt ≠ 0) (hi : IsM d n) : mkM Γ "Map" [d] m = .ok (mapD n.nrm) m := by
  rw [mkM_of mi, h.ok k n d m hk hn hd hi, mkI_ok]
  simp
theorem make_map_no {Γ : Gam} (mi : Γ.meth "Map" "__init__" = some "Map.__init__") (h : C_Map_initX (Γ.fn "Map.__init__")) {k : Nat} {d : D} {m : Mem} (hk : k < 100000) (hf : FineR (m ++ [.ins "Map" [] []]) d) (hn : ∀ n, m3Of d = some n → MB k n ∧ n.dt = 0) : mkM Γ "Map" [d] m = .err (eP "BadMap" (.str "rows")) (m ++ [.ins "Map" [] []]) := by
  rw [mkM_of mi, h.no k d m hk hf hn, mkI_err]
structure C_Map_pointX (f : List D → Mem → Out D) : Prop where
  ok : ∀ (k : Nat) (n : M3) (v : V3) (d : D) (m : Mem), k ≤ 4000 → MB k n → n.dt ≠ 0 → VB k v → v.nz → IsT d v → f [mapD n, d] m = .ok (vD (n.mv v.nrm).nrm) m
  no : ∀ (n : M3) (d : D) (m : Mem), Fine m d → isTri d = false → f [mapD n, d] m = .err (eP "BadTriple" (.str "triple")) m
theorem Map_pointX_ok (Γ : Gam) (fr : Γ.fld "Map" "rows" = true) (h1 : C_need_tri (Γ.fn "need_triple")) (h2 : C_dot (Γ.fn "dot")) (h3 : C_normal (Γ.fn "normal")) : C_Map_pointX (runF Γ fd_Map_d_point) := by
  constructor
  · intro k n v d m hk hn hd hv hz ht
    unfold fd_Map_d_point
    rw [runF_eq _ _ _ _ _ _ _ (by rfl)]
    have t := fun p => h1.ok k d p v m (by omega) hv hz ht
    have D1 := h2 k n.a v.nrm m (by omega) hn.a hv.nrm
    have D2 := h2 k n.b v.nrm m (by omega) hn.b hv.nrm
    have D3 := h2 k n.c v.nrm m (by omega) hn.c hv.nrm
    have N := h3 (k + k + 2) (.lst [.int (V3.dot n.a v.nrm), .int (V3.dot n.b v.nrm), .int (V3.dot n.c v.nrm)]) (n.mv v.nrm) m (by omega) (hn.mv hv.nrm) (M3.mv_nz hd (V3.nrm_nz hz)) rfl
    simp [t, fr, lcLoop_cs, lcT, D1, D2, D3, N]
  · intro n d m hd ht
    unfold fd_Map_d_point
    rw [runF_eq _ _ _ _ _ _ _ (by rfl)]
    simp [h1.no d _ m hd ht]
structure C_Map_lineX (f : List D → Mem → Out D) : Prop where
  ok : ∀ (k : Nat) (n : M3) (v : V3) (d : D) (m : Mem), k ≤ 2000 → MB k n → n.dt ≠ 0 → VB k v → v.nz → IsT d v → f [mapD n, d] m = .ok (vD (n.cof.mv v.nrm).nrm) m
  no : ∀ (n : M3) (d : D) (m : Mem), Fine m d → isTri d = false → f [mapD n, d] m = .err (eP "BadTriple" (.str "triple")) m
theorem cof_dt {n : M3} (h : n.dt ≠ 0) : n.cof.dt ≠ 0 := by rw [dt_cof]; exact Int.mul_ne_zero h h
theorem Map_lineX_ok (Γ : Gam) (fr : Γ.fld "Map" "rows" = true) (h1 : C_need_tri (Γ.fn "need_triple")) (h2 : C_dot (Γ.fn "dot")) (h3 : C_normal (Γ.fn "normal")) (h4 : C_cofactors (Γ.fn "cofactors")) : C_Map_lineX (runF Γ fd_Map_d_line) := by
  constructor
  · intro k n v d m hk hn hd hv hz ht
    unfold fd_Map_d_line
    rw [runF_eq _ _ _ _ _ _ _ (by rfl)]
    have hc := hn.cof
    have hv' : VB (k + k + 1) v.nrm := hv.nrm.mono (by omega)
    have t := fun p => h1.ok k d p v m (by omega) hv hz ht
    have D1 := h2 (k + k + 1) n.cof.a v.nrm m (by omega) hc.a hv'
    have D2 := h2 (k + k + 1) n.cof.b v.nrm m (by omega) hc.b hv'
    have D3 := h2 (k + k + 1) n.cof.c v.nrm m (by omega) hc.c hv'
    have C := h4 k n m (by omega) hn
    have N := h3 (k + k + 1 + (k + k + 1) + 2) (.lst [.int (V3.dot n.cof.a v.nrm), .int (V3.dot n.cof.b v.nrm), .int (V3.dot n.cof.c v.nrm)]) (n.cof.mv v.nrm) m (by omega) (hc.mv hv') (M3.mv_nz (cof_dt hd) (V3.nrm_nz hz)) rfl
    simp [t, fr, C, lcLoop_cs, lcT, D1, D2, D3, N]
  · intro n d m hd ht
    unfold fd_Map_d_line
    rw [runF_eq _ _ _ _ _ _ _ (by rfl)]
    simp [h1.no d _ m hd ht]
def C_transposed (f : List D → Mem → Out D) : Prop := ∀ (n : M3) (d : D) (m : Mem), its d = some [vD n.a, vD n.b, vD n.c] → f [d] m = .ok (.lst [vD n.tr.a, vD n.tr.b, vD n.tr.c]) m
theorem rng3 : rngD 0 3 = [.int 0, .int 1, .int 2] := rfl
theorem transposed_ok (Γ : Gam) : C_transposed (runF Γ fd_transposed) := by
  intro n d m hd
  unfold fd_transposed
  rw [runF_eq _ _ _ _ _ _ _ (by rfl)]
  simp [rng3, kItv_its hd, lcLoop_cs, lcT, pyIx, M3.tr]
theorem MB.tr {k : Nat} {n : M3} (h : MB k n) : MB k n.tr := ⟨⟨h.a.x, h.b.x, h.c.x⟩, ⟨h.a.y, h.b.y, h.c.y⟩, ⟨h.a.z, h.b.z, h.c.z⟩⟩
theorem dt_tr (n : M3) : n.tr.dt = n.dt := by simp only [M3.dt, M3.tr, Tri.det, V3.dot, V3.cross]; grind
def C_Map_back (f : List D → Mem → Out D) : Prop := ∀ (k : Nat) (n : M3) (m : Mem), k ≤ 4000 → MB k n → n.dt ≠ 0 → f [mapD n] m = .ok (mapD n.cof.tr.nrm) m
theorem Map_back_ok (Γ : Gam) (g : GMap Γ) (h1 : C_cofactors (Γ.fn "cofactors")) (h2 : C_transposed (Γ.fn "transposed")) (h3 : C_Map_initX (Γ.fn "Map.__init__")) : C_Map_back (runF Γ fd_Map_d_back) := by
  intro k n m hk hn hd
  unfold fd_Map_d_back
  rw [runF_eq _ _ _ _ _ _ _ (by rfl)]
  have e1 := h1 k n m (by omega) hn
  have e2 := h2 n.cof (.lst [vD n.cof.a, vD n.cof.b, vD n.cof.c]) m rfl
  have e3 := make_map (m := m) g.mi h3 (k := k + k + 1) (d := .lst [vD n.cof.tr.a, vD n.cof.tr.b, vD n.cof.tr.c]) (by omega) hn.cof.tr (by rw [dt_tr]; exact cof_dt hd) ⟨_, _, _, rfl, .tup _, .tup _, .tup _⟩
  simp [g.fr, e1, e2, e3]
/-- no instance of a class -/
def isCl (mro : String → List String) (m : Mem) (x : D) (C : String) : Option Bool := match tyOf m x with
    | some _ => some false
    | none => match clsX m x with
      | some c => some ((mro c).contains C)
      | none => none
theorem isOne_cls (Γ : Gam) (m : Mem) (x : D) (C : String) : isOne Γ m x (.cls C) = isCl Γ.mro m x C := rfl
def NoIns (mro : String → List String) (m : Mem) (d : D) (C : String) : Prop := isCl mro m d C = some false
structure C_need_map (mro : String → List String) (f : List D → Mem → Out D) : Prop where
  ok : ∀ n p m, f [mapD n, p] m = .ok .non m
  no : ∀ d p m, NoIns mro m d "Map" → f [d, p] m = .err (eP "BadMap" p) m
theorem need_map_ok (Γ : Gam) (mro : Γ.mro "Map" = ["Map"]) : C_need_map Γ.mro (runF Γ fd_need_map) := by
  constructor
  · intro n p m
    unfold fd_need_map
    rw [runF_eq _ _ _ _ _ _ _ (by rfl)]
    simp [isOne, tyOf, rd, mro]
  · intro d p m h
    unfold fd_need_map
    rw [runF_eq _ _ _ _ _ _ _ (by rfl)]
    unfold NoIns at h
    simp [isOne_cls, h]
structure C_Map_after (mro : String → List String) (f : List D → Mem → Out D) : Prop where
  ok : ∀ (k : Nat) (n n' : M3) (m : Mem), k ≤ 4000 → MB k n → MB k n' → n.dt ≠ 0 → n'.dt ≠ 0 → f [mapD n, mapD n'] m = .ok (mapD (n.mul n').nrm) m
  no : ∀ (n : M3) (d : D) (m : Mem), NoIns mro m d "Map" → f [mapD n, d] m = .err (eP "BadMap" (.str "other")) m
theorem MB.mul {k : Nat} {n n' : M3} (h : MB k n) (h' : MB k n') : MB (k + k + 2) (n.mul n') := by
  have t := h'.tr
  exact ⟨⟨h.a.dot t.a, h.a.dot t.b, h.a.dot t.c⟩, ⟨h.b.dot t.a, h.b.dot t.b, h.b.dot t.c⟩, ⟨h.c.dot t.a, h.c.dot t.b, h.c.dot t.c⟩⟩
theorem Map_after_ok (Γ : Gam) (g : GMap Γ) (h1 : C_need_map Γ.mro (Γ.fn "need_map")) (h2 : C_transposed (Γ.fn "transposed")) (h3 : C_dot (Γ.fn "dot")) (h4 : C_Map_initX (Γ.fn "Map.__init__")) : C_Map_after Γ.mro (runF Γ fd_Map_d_after) := by
  constructor
  · intro k n n' m hk hn hn' hd hd'
    unfold fd_Map_d_after
    rw [runF_eq _ _ _ _ _ _ _ (by rfl)]
    have t := hn'.tr
    have e1 := h1.ok n' (.str "other") m
    have e2 := h2 n' (mD n') m rfl
    have D := fun (u v : V3) hu hv => h3 k u v m (by omega) hu hv
    have e4 := make_map (m := m) g.mi h4 (k := k + k + 2) (n := n.mul n') (d := .lst [.lst [.int (V3.dot n.a n'.tr.a), .int (V3.dot n.a n'.tr.b), .int (V3.dot n.a n'.tr.c)], .lst [.int (V3.dot n.b n'.tr.a), .int (V3.dot n.b n'.tr.b), .int (V3.dot n.b n'.tr.c)], .lst [.int (V3.dot n.c n'.tr.a), .int (V3.dot n.c n'.tr.b), .int (V3.dot n.c n'.tr.c)]]) (by omega) (hn.mul hn') (by rw [dt_mul]; exact Int.mul_ne_zero hd hd') ⟨_, _, _, rfl, rfl, rfl, rfl⟩
    simp [g.fr, e1, e2, lcLoop_cs, lcT, D n.a n'.tr.a hn.a t.a, D n.a n'.tr.b hn.a t.b, D n.a n'.tr.c hn.a t.c, D n.b n'.tr.a hn.b t.a, D n.b n'.tr.b hn.b t.b, D n.b n'.tr.c hn.b t.c, D n.c n'.tr.a hn.c t.a, D n.c n'.tr.b hn.c t.b, D n.c n'.tr.c hn.c t.c, e4]
  · intro n d m hd
    unfold fd_Map_d_after
    rw [runF_eq _ _ _ _ _ _ _ (by rfl)]
    simp [h1.no d _ m hd]
theorem eqv_m (n n' : M3) : D.eqv (mD n) (mD n') = decide (n = n') := by
  obtain ⟨⟨a, b, c⟩, ⟨d, e, f⟩, ⟨g, h, i⟩⟩ := n
  obtain ⟨⟨a', b', c'⟩, ⟨d', e', f'⟩, ⟨g', h', i'⟩⟩ := n'
  rw [Bool.eq_iff_iff]
  simp [D.eqv, D.eqvL, and_assoc]
theorem cmp_eqmm (Γ : Gam) (m : Mem) (n n' : M3) : cmpX Γ .eq (mD n) (mD n') m = .ok (.bl (decide (n = n'))) m := by
  show Out.of m ((some (D.eqv (mD n) (mD n'))).map D.bl) = _
  rw [eqv_m]; rfl
theorem cmp_nemm (Γ : Gam) (m : Mem) (n n' : M3) : cmpX Γ .ne (mD n) (mD n') m = .ok (.bl (!decide (n = n'))) m := by
  show Out.of m ((some (!D.eqv (mD n) (mD n'))).map D.bl) = _
  rw [eqv_m]; rfl
structure C_Map_eqX (mro : String → List String) (f : List D → Mem → Out D) : Prop where
  ok : ∀ (n n' : M3) (m : Mem), f [mapD n, mapD n'] m = .ok (.bl (decide (n = n'))) m
  no : ∀ (n : M3) (d : D) (m : Mem), NoIns mro m d "Map" → f [mapD n, d] m = .ok (.bl false) m
theorem Map_eqX_ok (Γ : Gam) (fr : Γ.fld "Map" "rows" = true) (mro : Γ.mro "Map" = ["Map"]) : C_Map_eqX Γ.mro (runF Γ fd_Map_du_equ) := by
  constructor
  · intro n n' m
    unfold fd_Map_du_equ
    rw [runF_eq _ _ _ _ _ _ _ (by rfl)]
    simp [isOne, tyOf, rd, mro, fr, cmp_eqmm]
  · intro n d m h
    unfold fd_Map_du_equ
    rw [runF_eq _ _ _ _ _ _ _ (by rfl)]
    unfold NoIns at h
    simp [isOne_cls, h]
structure CmpMap (Γ : Gam) : Prop where
  eq : ∀ (n n' : M3) (m : Mem), cmpX Γ .eq (mapD n) (mapD n') m = .ok (.bl (decide (n = n'))) m
  ne : ∀ (n n' : M3) (m : Mem), cmpX Γ .ne (mapD n) (mapD n') m = .ok (.bl (!decide (n = n'))) m
  eqt : ∀ (n : M3) (ds : List D) (m : Mem), cmpX Γ .eq (mapD n) (.tup ds) m = .ok (.bl false) m
  net : ∀ (n : M3) (ds : List D) (m : Mem), cmpX Γ .ne (mapD n) (.tup ds) m = .ok (.bl true) m
theorem cmp_map {Γ : Gam} {mro : String → List String} (me : Γ.meth "Map" "__eq__" = some "Map.__eq__") (h : C_Map_eqX mro (Γ.fn "Map.__eq__")) : CmpMap Γ := by
  constructor
  · intro n n' m; simp [cmpX, eqNe, me, eqSafe, tyOf, rd, h.ok n n' m]
  · intro n n' m; simp [cmpX, eqNe, me, eqSafe, tyOf, rd, h.ok n n' m]
  · intro n ds m; simp [cmpX, eqNe, me, eqSafe, tyOf, rd, h.no n (.tup ds) m rfl]
  · intro n ds m; simp [cmpX, eqNe, me, eqSafe, tyOf, rd, h.no n (.tup ds) m rfl]
theorem log_bd {k : Nat} {i : Int} (h : Bd k i) (hk : k ≤ 1920) (h0 : 0 < k) : i.natAbs.log2 < 1920 := by
  by_cases z : i.natAbs = 0
  · rw [z]; decide
  · exact Nat.lt_of_lt_of_le ((Nat.log2_lt z).2 h) hk
theorem reprOk_of {d : D} (h1 : D.plain 60 d = true) (h2 : D.showB d = true) (h3 : txtN d ≤ 16777216) : reprOk d = true := by
  unfold reprOk
  rw [h1, h2, decide_eq_true h3]; rfl
theorem showB_v {k : Nat} {v : V3} (h : VB k v) (hk : k ≤ 1900) : D.showB (vD v) = true := by
  have L : ∀ i : Int, Bd k i → decide (i.natAbs.log2 < 1920) = true := fun i hi => decide_eq_true (log_bd (hi.mono (Nat.le_succ k)) (by omega) (by omega))
  simp only [D.showB, D.showBL, L _ h.x, L _ h.y, L _ h.z, Bool.and_self]
theorem reprOk_m {k : Nat} {n : M3} (h : MB k n) (hk : k ≤ 1900) : reprOk (mD n) = true := by
  refine reprOk_of rfl ?_ ?_
  · show (D.showB (vD n.a) && (D.showB (vD n.b) && (D.showB (vD n.c) && true))) = true
    rw [showB_v h.a hk, showB_v h.b hk, showB_v h.c hk]; rfl
  · simp only [txtN, txtL]; omega
end Pk
end PL

set_option linter.all false
set_option maxHeartbeats 2000000
/-! maps of the plane, plain -/

namespace Tri
def id3 : M3 := ⟨⟨1, 0, 0⟩, ⟨0, 1, 0⟩, ⟨0, 0, 1⟩⟩
theorem M3.mv_sm1 (n : M3) (k : Int) (w : V3) : n.mv (w.sm k) = (n.mv w).sm k := by
  have := M3.mv_sm n 1 k w
  rw [show n.sm 1 = n by simp [M3.sm, V3.sm], Int.one_mul] at this
  exact this
theorem M3.sm_mv (n : M3) (k : Int) (w : V3) : (n.sm k).mv w = (n.mv w).sm k := by
  have := M3.mv_sm n k 1 w
  rw [V3.sm_one, Int.mul_one] at this
  exact this
theorem M3.sm_sm (p q : Int) (n : M3) : (n.sm q).sm p = n.sm (p * q) := by simp only [M3.sm, V3.sm_sm]
theorem M3.sm_one (n : M3) : n.sm 1 = n := by simp [M3.sm, V3.sm]
theorem M3.mul_mv (n n' : M3) (v : V3) : (n.mul n').mv v = n.mv (n'.mv v) := by
  simp only [M3.mul, M3.mv, M3.tr, V3.dot, V3.mk.injEq]
  refine ⟨?_, ?_, ?_⟩ <;> grind
theorem M3.nrm_sm {n : M3} {t : Int} (ht : t ≠ 0) (h : n.dt ≠ 0) : (n.sm t).nrm = n.nrm := by
  refine M3.nrm_prop (p := 1) (q := t) (by decide) ht (by rw [M3.sm_one]) ?_ h
  rw [M3.dt_sm]
  exact Int.mul_ne_zero (Int.mul_ne_zero (Int.mul_ne_zero ht ht) ht) h
theorem M3.nrm_nrm {n : M3} (h : n.dt ≠ 0) : n.nrm.nrm = n.nrm := by
  conv => rhs; rw [n.nrm_by, M3.nrm_sm (M3.by_ne h) (M3.nrm_dt h)]
/-- where rows lead a point -/
def led (n : M3) (v : V3) : V3 := (n.mv v).nrm
theorem led_sm {n : M3} (h : n.dt ≠ 0) {v : V3} (hv : v.nz) {k : Int} (hk : k ≠ 0) : led n (v.sm k) = led n v := by
  unfold led
  rw [M3.mv_sm1, V3.nrm_sm hk (M3.mv_nz h hv)]
theorem led_nrm {n : M3} (h : n.dt ≠ 0) {v : V3} (hv : v.nz) : led n v.nrm = led n v := by
  conv => rhs; rw [v.nrm_by]
  rw [led_sm h (V3.nrm_nz hv) (V3.by_ne hv)]
theorem sm_led {n : M3} (h : n.dt ≠ 0) {v : V3} (hv : v.nz) {k : Int} (hk : k ≠ 0) : led (n.sm k) v = led n v := by
  unfold led
  rw [M3.sm_mv, V3.nrm_sm hk (M3.mv_nz h hv)]
theorem nrm_led {n : M3} (h : n.dt ≠ 0) {v : V3} (hv : v.nz) : led n.nrm v = led n v := by
  conv => rhs; rw [n.nrm_by]
  rw [sm_led (M3.nrm_dt h) hv (M3.by_ne h)]
theorem led_nz {n : M3} (h : n.dt ≠ 0) {v : V3} (hv : v.nz) : (led n v).nz := V3.nrm_nz (M3.mv_nz h hv)
theorem led_led {n n' : M3} (h : n.dt ≠ 0) (h' : n'.dt ≠ 0) {v : V3} (hv : v.nz) : led n (led n' v) = (n.mv (n'.mv v)).nrm := led_nrm h (M3.mv_nz h' hv)
theorem led_mul {n n' : M3} (h : n.dt ≠ 0) (h' : n'.dt ≠ 0) {v : V3} (hv : v.nz) : led (n.mul n') v = led n (led n' v) := by
  rw [led_led h h' hv]
  unfold led
  rw [M3.mul_mv]
theorem cof_dt' {n : M3} (h : n.dt ≠ 0) : n.cof.dt ≠ 0 := by rw [dt_cof]; exact Int.mul_ne_zero h h
theorem tr_dt (n : M3) : n.tr.dt = n.dt := by simp only [M3.dt, M3.tr, Tri.det, V3.dot, V3.cross]; grind
theorem adj_dt {n : M3} (h : n.dt ≠ 0) : n.cof.tr.dt ≠ 0 := by rw [tr_dt]; exact cof_dt' h
theorem led_back {n : M3} (h : n.dt ≠ 0) {v : V3} (hv : v.nz) : led n.cof.tr (led n v) = v.nrm := by
  rw [led_led (adj_dt h) h hv, M3.cof_tr, V3.nrm_sm h hv]
theorem mul_adj (n : M3) : n.mul n.cof.tr = id3.sm n.dt := by
  simp only [M3.mul, M3.tr, M3.cof, id3, M3.sm, V3.sm, V3.dot, V3.cross, M3.dt, Tri.det, M3.mk.injEq, V3.mk.injEq]
  refine ⟨⟨?_, ?_, ?_⟩, ⟨?_, ?_, ?_⟩, ⟨?_, ?_, ?_⟩⟩ <;> grind
theorem adj_adj (n : M3) : n.cof.tr.cof.tr = n.sm n.dt := by
  simp only [M3.tr, M3.cof, M3.sm, V3.sm, V3.dot, V3.cross, M3.dt, Tri.det, M3.mk.injEq, V3.mk.injEq]
  refine ⟨⟨?_, ?_, ?_⟩, ⟨?_, ?_, ?_⟩, ⟨?_, ?_, ?_⟩⟩ <;> grind
theorem mul_sm (n n' : M3) (k : Int) : n.mul (n'.sm k) = (n.mul n').sm k := by
  simp only [M3.mul, M3.tr, M3.sm, V3.sm, V3.dot, M3.mk.injEq, V3.mk.injEq]
  refine ⟨⟨?_, ?_, ?_⟩, ⟨?_, ?_, ?_⟩, ⟨?_, ?_, ?_⟩⟩ <;> grind
theorem adj_sm (n : M3) (k : Int) : (n.sm k).cof.tr = n.cof.tr.sm (k * k) := by
  simp only [M3.tr, M3.cof, M3.sm, V3.sm, V3.cross, M3.mk.injEq, V3.mk.injEq]
  refine ⟨⟨?_, ?_, ?_⟩, ⟨?_, ?_, ?_⟩, ⟨?_, ?_, ?_⟩⟩ <;> grind
theorem id3_dt : id3.dt = 1 := by decide
theorem id3_sm_dt {k : Int} (h : k ≠ 0) : (id3.sm k).dt ≠ 0 := by rw [M3.dt_sm, id3_dt]; simp [h]
theorem mul_back {n : M3} (h : n.dt ≠ 0) : (n.mul n.cof.tr.nrm).nrm = id3 := by
  have e : (n.mul n.cof.tr.nrm).sm n.cof.tr.by_ = id3.sm n.dt := by rw [← mul_sm, ← n.cof.tr.nrm_by, mul_adj]
  have c := M3.by_ne (adj_dt h)
  have d1 : (n.mul n.cof.tr.nrm).dt ≠ 0 := by rw [dt_mul]; exact Int.mul_ne_zero h (M3.nrm_dt (adj_dt h))
  have := M3.nrm_prop c h e d1 (by rw [id3_dt]; decide)
  rw [this]
  decide
theorem back_back {n : M3} (h : n.dt ≠ 0) : n.cof.tr.nrm.cof.tr.nrm = n.nrm := by
  have e : n.cof.tr.nrm.cof.tr.sm (n.cof.tr.by_ * n.cof.tr.by_) = n.sm n.dt := by rw [← adj_sm, ← n.cof.tr.nrm_by, adj_adj]
  have c := M3.by_ne (adj_dt h)
  exact M3.nrm_prop (Int.mul_ne_zero c c) h e (adj_dt (M3.nrm_dt (adj_dt h))) h
theorem led_line {T : M3} (hd : T.dt ≠ 0) {u v : V3} (hu : u.nz) (hv : v.nz) (hl : (V3.cross u v).nz) : led T.cof (V3.cross u v) = (V3.cross (led T u) (led T v)).nrm := by
  have e3 := (T.mv u).nrm_by
  have e4 := (T.mv v).nrm_by
  have c3 := V3.by_ne (M3.mv_nz hd hu)
  have c4 := V3.by_ne (M3.mv_nz hd hv)
  unfold led
  have k : T.cof.mv (V3.cross u v) = (V3.cross (T.mv u).nrm (T.mv v).nrm).sm ((T.mv u).by_ * (T.mv v).by_) := by
    rw [← cross_mv]
    conv => lhs; rw [e3, e4, V3.cross_sm]
  have n0 : (V3.cross (T.mv u).nrm (T.mv v).nrm).nz := fun z => M3.mv_nz (cof_dt' hd) hl (by rw [k, z]; simp [V3.sm, V3.zero])
  rw [k, V3.nrm_sm (Int.mul_ne_zero c3 c4) n0]
theorem cross_led_nz {T : M3} (hd : T.dt ≠ 0) {u v : V3} (hu : u.nz) (hv : v.nz) (hl : (V3.cross u v).nz) : (V3.cross (led T u) (led T v)).nz := fun z => by
  have k : T.cof.mv (V3.cross u v) = (V3.cross (T.mv u).nrm (T.mv v).nrm).sm ((T.mv u).by_ * (T.mv v).by_) := by
    rw [← cross_mv]
    conv => lhs; rw [(T.mv u).nrm_by, (T.mv v).nrm_by, V3.cross_sm]
  unfold led at z
  exact M3.mv_nz (cof_dt' hd) hl (by rw [k, z]; simp [V3.sm, V3.zero])
theorem led_all {n : M3} (h : n.dt ≠ 0) {v : V3} (hv : v.nz) : (n.nrm.mv v.nrm).nrm = led n v := by
  show led n.nrm v.nrm = _
  rw [led_nrm (M3.nrm_dt h) hv, nrm_led h hv]
end Tri


set_option linter.all false
set_option maxHeartbeats 4000000
/-! contracts: drawn rows, where they lead -/
namespace PL
namespace Pk
open Tri
abbrev lD (v : V3) : D := .lst [.int v.x, .int v.y, .int v.z]
abbrev rowsL (n : M3) : D := .lst [lD n.a, lD n.b, lD n.c]
theorem IsM.rows (n : M3) : IsM (rowsL n) n := ⟨_, _, _, rfl, rfl, rfl, rfl⟩
def C_rows (f : List D → Mem → Out D) : Prop := ∀ (s : Int) (r : Mem), Ok64 s → ∃ n s', MB 67 n ∧ n.dt ≠ 0 ∧ Ok64 s' ∧ f [.ref 0] (Pn s r) = .ok (rowsL n) (Pn s' r)
def IRows (r : Mem) (ρ : Env) (m : Mem) : Prop := ∃ s x1 x2 x3 x4, Ok64 s ∧ ρ = [some (.ref 0), x1, x2, x3, x4] ∧ m = Pn s r
theorem rows_ok (Γ : Gam) (h1 : C_number (Γ.fn "_law_number")) (h2 : C_detX (Γ.fn "_law_det")) : C_rows (runF Γ fd__law_rows) := by
  intro s r hs
  unfold fd__law_rows
  rw [runF_eq _ _ _ _ _ _ _ (by rfl)]
  let R : SO → Prop := fun o => ∃ n s', MB 67 n ∧ n.dt ≠ 0 ∧ Ok64 s' ∧ outF 0 (Pn s r) o = .ok (rowsL n) (Pn s' r)
  show R _
  simp
  refine for_then (P := R) (fun _ => IRows r) ⟨s, _, _, _, _, hs, rfl, rfl⟩ ?_ ?_
  · rintro d ds ρ m ⟨s, x1, x2, x3, x4, hs, rfl, rfl⟩
    obtain ⟨a1, s1, b1, h1', r1⟩ := h1 s r hs
    obtain ⟨a2, s2, b2, h2', r2⟩ := h1 s1 r h1'
    obtain ⟨a3, s3, b3, h3', r3⟩ := h1 s2 r h2'
    obtain ⟨a4, s4, b4, h4', r4⟩ := h1 s3 r h3'
    obtain ⟨a5, s5, b5, h5', r5⟩ := h1 s4 r h4'
    obtain ⟨a6, s6, b6, h6', r6⟩ := h1 s5 r h5'
    obtain ⟨a7, s7, b7, h7', r7⟩ := h1 s6 r h6'
    obtain ⟨a8, s8, b8, h8', r8⟩ := h1 s7 r h7'
    obtain ⟨a9, s9, b9, h9', r9⟩ := h1 s8 r h8'
    let n : M3 := ⟨⟨a1, a2, a3⟩, ⟨a4, a5, a6⟩, ⟨a7, a8, a9⟩⟩
    have bn : MB 67 n := ⟨⟨b1, b2, b3⟩, ⟨b4, b5, b6⟩, ⟨b7, b8, b9⟩⟩
    have D := h2 67 (lD n.a) (lD n.b) (lD n.c) n.a n.b n.c (Pn s9 r) (by decide) bn.a bn.b bn.c rfl rfl rfl
    by_cases h : Tri.det n.a n.b n.c = 0
    · rw [h] at D
      simp [forT, rng3, lcLoop_cs, lcT, r1, r2, r3, r4, r5, r6, r7, r8, r9, pyIx, show Γ.fn "_law_det" [.lst [.int a1, .int a2, .int a3], .lst [.int a4, .int a5, .int a6], .lst [.int a7, .int a8, .int a9]] (Pn s9 r) = _ from D]
      exact ⟨_, _, _, _, _, h9', rfl, rfl⟩
    · simp [forT, rng3, lcLoop_cs, lcT, r1, r2, r3, r4, r5, r6, r7, r8, r9, pyIx, show Γ.fn "_law_det" [.lst [.int a1, .int a2, .int a3], .lst [.int a4, .int a5, .int a6], .lst [.int a7, .int a8, .int a9]] (Pn s9 r) = _ from D, h]
      exact ⟨n, s9, bn, h, h9', rfl⟩
  · rintro ρ m ⟨s, x1, x2, x3, x4, hs, rfl, rfl⟩
    simp
    exact ⟨⟨⟨1, 2, 0⟩, ⟨0, 1, 5⟩, ⟨0, 0, 3⟩⟩, s, by refine ⟨⟨?_, ?_, ?_⟩, ⟨?_, ?_, ?_⟩, ⟨?_, ?_, ?_⟩⟩ <;> (unfold Bd; decide), by decide, hs, rfl⟩
def C_led (f : List D → Mem → Out D) : Prop := ∀ (k : Nat) (n : M3) (v : V3) (d e : D) (m : Mem), k ≤ 4000 → MB k n → n.dt ≠ 0 → VB k v → v.nz → IsM d n → IsT e v → f [d, e] m = .ok (vD (led n v)) m
theorem led_ok (Γ : Gam) (h1 : C_dotX (Γ.fn "_law_dot")) (h2 : C_lnormal (Γ.fn "_law_normal")) : C_led (runF Γ fd__law_led) := by
  intro k n v d e m hk hn hd hv hz ⟨a, b, c, h, ha, hb, hc⟩ he
  unfold fd__law_led
  rw [runF_eq _ _ _ _ _ _ _ (by rfl)]
  have D1 := h1 k a e n.a v m (by omega) hn.a hv ha he
  have D2 := h1 k b e n.b v m (by omega) hn.b hv hb he
  have D3 := h1 k c e n.c v m (by omega) hn.c hv hc he
  have N := h2 (k + k + 2) (.lst [.int (V3.dot n.a v), .int (V3.dot n.b v), .int (V3.dot n.c v)]) (n.mv v) m (by omega) (hn.mv hv) (M3.mv_nz hd hz) rfl
  simp [kItv_its h, lcLoop_cs, lcT, D1, D2, D3, N, led]
end Pk
end PL

set_option linter.all false
set_option maxRecDepth 100000
set_option maxHeartbeats 8000000
namespace PL.Law
open Pk Tri
theorem g_exc (k : Nat) (f : String → List D → Mem → Out D) : GExc { pg0.Γ k with fn := f } := by constructor <;> first | rfl | exact ⟨rfl, rfl⟩
theorem g_map (k : Nat) (f : String → List D → Mem → Out D) : GMap { pg0.Γ k with fn := f } := by constructor <;> first | rfl | exact ⟨rfl, rfl⟩
theorem k_is_integer (k : Nat) (h : 1 ≤ k) : C_is_integer (fnL pg0 k "is_integer") := by rw [eq_is_integer k h]; exact is_integer_ok ({ pg0.Γ 0 with fn := fnL pg0 0 })
theorem k_is_listed (k : Nat) (h : 1 ≤ k) : C_is_listed (fnL pg0 k "is_listed") := by rw [eq_is_listed k h]; exact is_listed_ok ({ pg0.Γ 0 with fn := fnL pg0 0 })
theorem k_are_integers (k : Nat) (h : 2 ≤ k) : C_are_integers (fnL pg0 k "are_integers") := by rw [eq_are_integers k h]; exact are_integers_ok ({ pg0.Γ 1 with fn := fnL pg0 1 }) (k_is_integer 1 (by decide)) (k_is_listed 1 (by decide))
theorem k_cross (k : Nat) (h : 1 ≤ k) : C_cross (fnL pg0 k "cross") := by rw [eq_cross k h]; exact cross_ok ({ pg0.Γ 0 with fn := fnL pg0 0 })
theorem k_dot (k : Nat) (h : 1 ≤ k) : C_dot (fnL pg0 k "dot") := by rw [eq_dot k h]; exact dot_ok ({ pg0.Γ 0 with fn := fnL pg0 0 })
theorem k_determinant (k : Nat) (h : 2 ≤ k) : C_det (fnL pg0 k "determinant") := by rw [eq_determinant k h]; exact determinant_ok ({ pg0.Γ 1 with fn := fnL pg0 1 }) (k_cross 1 (by decide)) (k_dot 1 (by decide))
theorem k_normal (k : Nat) (h : 1 ≤ k) : C_normal (fnL pg0 k "normal") := by rw [eq_normal k h]; exact normal_ok ({ pg0.Γ 0 with fn := fnL pg0 0 })
theorem k_is_triple (k : Nat) (h : 3 ≤ k) : C_is_triple (fnL pg0 k "is_triple") := by rw [eq_is_triple k h]; exact is_triple_ok ({ pg0.Γ 2 with fn := fnL pg0 2 }) (k_are_integers 2 (by decide))
theorem k_cofactors (k : Nat) (h : 2 ≤ k) : C_cofactors (fnL pg0 k "cofactors") := by rw [eq_cofactors k h]; exact cofactors_ok ({ pg0.Γ 1 with fn := fnL pg0 1 }) (k_cross 1 (by decide))
theorem k_are_rows (k : Nat) (h : 3 ≤ k) : C_are_rows (fnL pg0 k "are_rows") := by rw [eq_are_rows k h]; exact are_rows_ok ({ pg0.Γ 2 with fn := fnL pg0 2 }) (k_is_listed 2 (by decide)) (k_are_integers 2 (by decide)) (k_determinant 2 (by decide))
theorem k_lowest (k : Nat) (h : 1 ≤ k) : C_lowest (fnL pg0 k "lowest") := by rw [eq_lowest k h]; exact lowest_ok ({ pg0.Γ 0 with fn := fnL pg0 0 })
theorem k_pen (k : Nat) (h : 1 ≤ k) : C_pen (fnL pg0 k "_law_pen") := by rw [eq__law_pen k h]; exact pen_ok ({ pg0.Γ 0 with fn := fnL pg0 0 }) _ _ (by decide)
theorem k_draw (k : Nat) (h : 1 ≤ k) : C_draw (fnL pg0 k "_law_draw") := by rw [eq__law_draw k h]; exact draw_ok ({ pg0.Γ 0 with fn := fnL pg0 0 })
theorem k_pick (k : Nat) (h : 2 ≤ k) : C_pick (fnL pg0 k "_law_pick") := by rw [eq__law_pick k h]; exact pick_ok ({ pg0.Γ 1 with fn := fnL pg0 1 }) (k_draw 1 (by decide))
theorem k_number (k : Nat) (h : 3 ≤ k) : C_number (fnL pg0 k "_law_number") := by rw [eq__law_number k h]; exact number_ok ({ pg0.Γ 2 with fn := fnL pg0 2 }) (k_draw 2 (by decide)) (k_pick 2 (by decide))
theorem k_triple (k : Nat) (h : 5 ≤ k) : C_triple (fnL pg0 k "_law_triple") := by rw [eq__law_triple k h]; exact triple_ok ({ pg0.Γ 4 with fn := fnL pg0 4 }) (k_number 4 (by decide)) (k_pick 4 (by decide))
theorem k_gcd (k : Nat) (h : 1 ≤ k) : C_gcd (fnL pg0 k "_law_gcd") := by rw [eq__law_gcd k h]; exact gcd_ok ({ pg0.Γ 0 with fn := fnL pg0 0 }) rfl
theorem k_lnormal (k : Nat) (h : 5 ≤ k) : C_lnormal (fnL pg0 k "_law_normal") := by rw [eq__law_normal k h]; exact lnormal_ok ({ pg0.Γ 4 with fn := fnL pg0 4 }) (k_gcd 4 (by decide))
theorem k_lcross (k : Nat) (h : 1 ≤ k) : C_cross (fnL pg0 k "_law_cross") := by rw [eq__law_cross k h]; exact lcross_ok ({ pg0.Γ 0 with fn := fnL pg0 0 })
theorem k_ldet (k : Nat) (h : 1 ≤ k) : C_det (fnL pg0 k "_law_det") := by rw [eq__law_det k h]; exact ldet_ok ({ pg0.Γ 0 with fn := fnL pg0 0 })
theorem k_caught (k : Nat) (h : 1 ≤ k) : C_caught (fnL pg0 k "_law_caught") := by rw [eq__law_caught k h]; exact caught_ok ({ pg0.Γ 0 with fn := fnL pg0 0 }) (g_exc _ _)
theorem k_need_tri (k : Nat) (h : 4 ≤ k) : C_need_tri (fnL pg0 k "need_triple") := by rw [eq_need_triple k h]; exact need_tri_ok ({ pg0.Γ 3 with fn := fnL pg0 3 }) (k_is_triple 3 (by decide)) (k_normal 3 (by decide))
theorem k_ldot (k : Nat) (h : 1 ≤ k) : C_dot (fnL pg0 k "_law_dot") := by rw [eq__law_dot k h]; exact ldot_ok ({ pg0.Γ 0 with fn := fnL pg0 0 })
theorem k_crossX (k : Nat) (h : 1 ≤ k) : C_crossX (fnL pg0 k "cross") := by rw [eq_cross k h]; exact crossX_ok ({ pg0.Γ 0 with fn := fnL pg0 0 })
theorem k_dotX (k : Nat) (h : 1 ≤ k) : C_dotX (fnL pg0 k "dot") := by rw [eq_dot k h]; exact dotX_ok ({ pg0.Γ 0 with fn := fnL pg0 0 })
theorem k_determinantX (k : Nat) (h : 2 ≤ k) : C_detX (fnL pg0 k "determinant") := by rw [eq_determinant k h]; exact determinantX_ok ({ pg0.Γ 1 with fn := fnL pg0 1 }) (k_crossX 1 (by decide)) (k_dotX 1 (by decide))
theorem k_ldetX (k : Nat) (h : 1 ≤ k) : C_detX (fnL pg0 k "_law_det") := by rw [eq__law_det k h]; exact ldetX_ok ({ pg0.Γ 0 with fn := fnL pg0 0 })
theorem k_lcrossX (k : Nat) (h : 1 ≤ k) : C_crossX (fnL pg0 k "_law_cross") := by rw [eq__law_cross k h]; exact lcrossX_ok ({ pg0.Γ 0 with fn := fnL pg0 0 })
theorem k_ldotX (k : Nat) (h : 1 ≤ k) : C_dotX (fnL pg0 k "_law_dot") := by rw [eq__law_dot k h]; exact ldotX_ok ({ pg0.Γ 0 with fn := fnL pg0 0 })
theorem k_are_rowsX (k : Nat) (h : 3 ≤ k) : C_are_rowsX (fnL pg0 k "are_rows") := by rw [eq_are_rows k h]; exact are_rowsX_ok ({ pg0.Γ 2 with fn := fnL pg0 2 }) (k_is_listed 2 (by decide)) (k_are_integers 2 (by decide)) (k_determinantX 2 (by decide))
theorem k_lowestX (k : Nat) (h : 1 ≤ k) : C_lowestX (fnL pg0 k "lowest") := by rw [eq_lowest k h]; exact lowestX_ok ({ pg0.Γ 0 with fn := fnL pg0 0 })
theorem k_Map_initX (k : Nat) (h : 4 ≤ k) : C_Map_initX (fnL pg0 k "Map.__init__") := by rw [eq_Map_du_initu k h]; exact Map_initX_ok ({ pg0.Γ 3 with fn := fnL pg0 3 }) rfl (k_are_rowsX 3 (by decide)) (k_lowestX 3 (by decide))
theorem k_Map_pointX (k : Nat) (h : 5 ≤ k) : C_Map_pointX (fnL pg0 k "Map.point") := by rw [eq_Map_d_point k h]; exact Map_pointX_ok ({ pg0.Γ 4 with fn := fnL pg0 4 }) rfl (k_need_tri 4 (by decide)) (k_dot 4 (by decide)) (k_normal 4 (by decide))
theorem k_Map_lineX (k : Nat) (h : 5 ≤ k) : C_Map_lineX (fnL pg0 k "Map.line") := by rw [eq_Map_d_line k h]; exact Map_lineX_ok ({ pg0.Γ 4 with fn := fnL pg0 4 }) rfl (k_need_tri 4 (by decide)) (k_dot 4 (by decide)) (k_normal 4 (by decide)) (k_cofactors 4 (by decide))
theorem k_transposed (k : Nat) (h : 1 ≤ k) : C_transposed (fnL pg0 k "transposed") := by rw [eq_transposed k h]; exact transposed_ok ({ pg0.Γ 0 with fn := fnL pg0 0 })
theorem k_Map_back (k : Nat) (h : 6 ≤ k) : C_Map_back (fnL pg0 k "Map.back") := by rw [eq_Map_d_back k h]; exact Map_back_ok ({ pg0.Γ 5 with fn := fnL pg0 5 }) (g_map _ _) (k_cofactors 5 (by decide)) (k_transposed 5 (by decide)) (k_Map_initX 5 (by decide))
theorem k_need_map (k : Nat) (h : 3 ≤ k) : C_need_map pg0.mro (fnL pg0 k "need_map") := by rw [eq_need_map k h]; exact need_map_ok ({ pg0.Γ 2 with fn := fnL pg0 2 }) rfl
theorem k_Map_after (k : Nat) (h : 6 ≤ k) : C_Map_after pg0.mro (fnL pg0 k "Map.after") := by rw [eq_Map_d_after k h]; exact Map_after_ok ({ pg0.Γ 5 with fn := fnL pg0 5 }) (g_map _ _) (k_need_map 5 (by decide)) (k_transposed 5 (by decide)) (k_dot 5 (by decide)) (k_Map_initX 5 (by decide))
theorem k_Map_eqX (k : Nat) (h : 1 ≤ k) : C_Map_eqX pg0.mro (fnL pg0 k "Map.__eq__") := by rw [eq_Map_du_equ k h]; exact Map_eqX_ok ({ pg0.Γ 0 with fn := fnL pg0 0 }) rfl rfl
theorem k_rows (k : Nat) (h : 5 ≤ k) : C_rows (fnL pg0 k "_law_rows") := by rw [eq__law_rows k h]; exact rows_ok ({ pg0.Γ 4 with fn := fnL pg0 4 }) (k_number 4 (by decide)) (k_ldetX 4 (by decide))
theorem k_led (k : Nat) (h : 6 ≤ k) : C_led (fnL pg0 k "_law_led") := by rw [eq__law_led k h]; exact led_ok ({ pg0.Γ 5 with fn := fnL pg0 5 }) (k_ldotX 5 (by decide)) (k_lnormal 5 (by decide))

structure Cs (Γ : Gam) : Prop where
  k_is_integer : C_is_integer (Γ.fn "is_integer")
  k_is_listed : C_is_listed (Γ.fn "is_listed")
  k_are_integers : C_are_integers (Γ.fn "are_integers")
  k_cross : C_cross (Γ.fn "cross")
  k_dot : C_dot (Γ.fn "dot")
  k_determinant : C_det (Γ.fn "determinant")
  k_normal : C_normal (Γ.fn "normal")
  k_is_triple : C_is_triple (Γ.fn "is_triple")
  k_cofactors : C_cofactors (Γ.fn "cofactors")
  k_are_rows : C_are_rows (Γ.fn "are_rows")
  k_lowest : C_lowest (Γ.fn "lowest")
  k_pen : C_pen (Γ.fn "_law_pen")
  k_draw : C_draw (Γ.fn "_law_draw")
  k_pick : C_pick (Γ.fn "_law_pick")
  k_number : C_number (Γ.fn "_law_number")
  k_triple : C_triple (Γ.fn "_law_triple")
  k_gcd : C_gcd (Γ.fn "_law_gcd")
  k_lnormal : C_lnormal (Γ.fn "_law_normal")
  k_lcross : C_cross (Γ.fn "_law_cross")
  k_ldet : C_det (Γ.fn "_law_det")
  k_caught : C_caught (Γ.fn "_law_caught")
  k_need_tri : C_need_tri (Γ.fn "need_triple")
  k_ldot : C_dot (Γ.fn "_law_dot")
  k_crossX : C_crossX (Γ.fn "cross")
  k_dotX : C_dotX (Γ.fn "dot")
  k_determinantX : C_detX (Γ.fn "determinant")
  k_ldetX : C_detX (Γ.fn "_law_det")
  k_lcrossX : C_crossX (Γ.fn "_law_cross")
  k_ldotX : C_dotX (Γ.fn "_law_dot")
  k_are_rowsX : C_are_rowsX (Γ.fn "are_rows")
  k_lowestX : C_lowestX (Γ.fn "lowest")
  k_Map_initX : C_Map_initX (Γ.fn "Map.__init__")
  k_Map_pointX : C_Map_pointX (Γ.fn "Map.point")
  k_Map_lineX : C_Map_lineX (Γ.fn "Map.line")
  k_transposed : C_transposed (Γ.fn "transposed")
  k_Map_back : C_Map_back (Γ.fn "Map.back")
  k_need_map : C_need_map Γ.mro (Γ.fn "need_map")
  k_Map_after : C_Map_after Γ.mro (Γ.fn "Map.after")
  k_Map_eqX : C_Map_eqX Γ.mro (Γ.fn "Map.__eq__")
  k_rows : C_rows (Γ.fn "_law_rows")
  k_led : C_led (Γ.fn "_law_led")
  g_exc : GExc Γ
  g_map : GMap Γ
  g_mape : GMapE Γ
  pl0 : Γ.plan "Map.__init__" 1 ["rows"] = some [.inl 0, .inl 1]
  pl1 : Γ.plan "Map.after" 1 ["other"] = some [.inl 0, .inl 1]
  pl2 : Γ.plan "Map.line" 1 ["triple"] = some [.inl 0, .inl 1]
  pl3 : Γ.plan "Map.point" 1 ["triple"] = some [.inl 0, .inl 1]
theorem cs : Cs { pg0.Γ 8 with fn := fnL pg0 8 } := ⟨k_is_integer 8 (by decide), k_is_listed 8 (by decide), k_are_integers 8 (by decide), k_cross 8 (by decide), k_dot 8 (by decide), k_determinant 8 (by decide), k_normal 8 (by decide), k_is_triple 8 (by decide), k_cofactors 8 (by decide), k_are_rows 8 (by decide), k_lowest 8 (by decide), k_pen 8 (by decide), k_draw 8 (by decide), k_pick 8 (by decide), k_number 8 (by decide), k_triple 8 (by decide), k_gcd 8 (by decide), k_lnormal 8 (by decide), k_lcross 8 (by decide), k_ldet 8 (by decide), k_caught 8 (by decide), k_need_tri 8 (by decide), k_ldot 8 (by decide), k_crossX 8 (by decide), k_dotX 8 (by decide), k_determinantX 8 (by decide), k_ldetX 8 (by decide), k_lcrossX 8 (by decide), k_ldotX 8 (by decide), k_are_rowsX 8 (by decide), k_lowestX 8 (by decide), k_Map_initX 8 (by decide), k_Map_pointX 8 (by decide), k_Map_lineX 8 (by decide), k_transposed 8 (by decide), k_Map_back 8 (by decide), k_need_map 8 (by decide), k_Map_after 8 (by decide), k_Map_eqX 8 (by decide), k_rows 8 (by decide), k_led 8 (by decide), by constructor <;> first | rfl | exact ⟨rfl, rfl⟩, by constructor <;> first | rfl | exact ⟨rfl, rfl⟩, by constructor <;> first | rfl | exact ⟨rfl, rfl⟩, rfl, rfl, rfl, rfl⟩
theorem odd_rows (n : M3) (k : Nat) (bn : MB k n) (hk : k < 100000) (m : Mem) : ∀ d ∈ [.non, .int 5, .lst [], .lst [lD n.a, lD n.b], .lst [lD n.a, lD n.b, lD n.c, lD n.a], .lst [lD n.a, lD n.b, lD n.a], .lst [lD n.a, lD n.b, .lst [.int 1, .int 2]], .lst [lD n.a, lD n.b, .lst [.bl true, .int 0, .int 1]], .str "abc", .dct [] [], .lst [.non, .non, .non]], FineR m d ∧ ∀ n', m3Of d = some n' → MB k n' ∧ n'.dt = 0 := by
  have fl : ∀ v, Fine m (lD v) := fun v => ⟨rfl, rfl, fun ds e => by cases e; simp [Kn, tyOf, rd]⟩
  simp only [List.mem_cons, List.not_mem_nil, or_false, forall_eq_or_imp, forall_eq]
  refine ⟨⟨⟨rfl, rfl, ?_⟩, ?_⟩, ⟨⟨rfl, rfl, ?_⟩, ?_⟩, ⟨⟨rfl, rfl, ?_⟩, ?_⟩, ⟨⟨rfl, rfl, ?_⟩, ?_⟩, ⟨⟨rfl, rfl, ?_⟩, ?_⟩, ⟨⟨rfl, rfl, ?_⟩, ?_⟩, ⟨⟨rfl, rfl, ?_⟩, ?_⟩, ⟨⟨rfl, rfl, ?_⟩, ?_⟩, ⟨⟨rfl, rfl, ?_⟩, ?_⟩, ⟨⟨rfl, rfl, ?_⟩, ?_⟩, ⟨⟨rfl, rfl, ?_⟩, ?_⟩⟩
  all_goals first
    | (intro ds e; cases e; done)
    | (intro ds e; cases e; simp only [List.mem_cons, List.not_mem_nil, or_false, forall_eq_or_imp, forall_eq, false_imp_iff, implies_true, and_true, fl]; simp [Fine, Kn, tyOf, rd, noRef, its]; done)
    | (intro n' e; exact (Option.noConfusion e))
    | skip
  intro n' e
  have e' : some (⟨n.a, n.b, n.a⟩ : M3) = some n' := e
  cases e'
  exact ⟨⟨bn.a, bn.b, bn.a⟩, by simp only [M3.dt, Tri.det, V3.dot, V3.cross]; grind⟩
theorem odd_tris (T : M3) (m : Mem) : ∀ d ∈ [.non, .int 5, .tup [.int 0, .int 0, .int 0], .tup [.int 1, .int 2], mD T, .str "abc", .tup [.int 1, .int 2, .non]], Fine m d ∧ isTri d = false := by
  simp only [List.mem_cons, List.not_mem_nil, or_false, forall_eq_or_imp, forall_eq]
  refine ⟨⟨⟨rfl, rfl, ?_⟩, rfl⟩, ⟨⟨rfl, rfl, ?_⟩, rfl⟩, ⟨⟨rfl, rfl, ?_⟩, by decide⟩, ⟨⟨rfl, rfl, ?_⟩, rfl⟩, ⟨⟨rfl, rfl, ?_⟩, rfl⟩, ⟨⟨rfl, rfl, ?_⟩, rfl⟩, ⟨⟨rfl, rfl, ?_⟩, rfl⟩⟩ <;> intro ds e <;> cases e <;> simp [Kn, tyOf, rd]
def I01 (ns : List Int) (ρ : Env) (m : Mem) : Prop := ∃ s r x2 x3 x4 x5 x6 x7 x8 x9 x10 x11 x12 x13 x14 x15 x16 x17 x18 x19 x20, Ok64 s ∧ ρ = [some (.lst (ns.map .int)), some (.ref 0), x2, x3, x4, x5, x6, x7, x8, x9, x10, x11, x12, x13, x14, x15, x16, x17, x18, x19, x20] ∧ m = Pn s r
/-- the inner loop: points and lines -/
def J01 (ns : List Int) (r : Mem) (n n' : M3) (x2 x5 x8 x9 x10 x11 x12 : Option D) (ρ : Env) (m : Mem) : Prop := ∃ s x13 x14 x15 x16 x17 x18 x19 x20, Ok64 s ∧ ρ = [some (.lst (ns.map .int)), some (.ref 0), x2, some (rowsL n), some (rowsL n'), x5, some (mapD n.nrm), some (mapD n'.nrm), x8, x9, x10, x11, x12, x13, x14, x15, x16, x17, x18, x19, x20] ∧ m = Pn s r
theorem law_ok (Γ : Gam) (c : Cs Γ) (ns : List Int) : ∃ m, runF Γ fd_law [.lst (ns.map D.int)] [] = .ok (.bl true) m := by
  unfold fd_law
  rw [runF_eq _ _ _ _ _ _ _ (by rfl)]
  obtain ⟨s, hs, hp⟩ := c.k_pen ns
  show LawOk _
  simp [hp]
  refine for_then (P := LawOk) (fun _ => I01 ns) ?_ ?_ ?_
  · exact ⟨s, [], _, _, _, _, _, _, _, _, _, _, _, _, _, _, _, _, _, _, _, hs, rfl, rfl⟩
  · rintro d ds ρ m ⟨s, r, x2, x3, x4, x5, x6, x7, x8, x9, x10, x11, x12, x13, x14, x15, x16, x17, x18, x19, x20, hs, rfl, rfl⟩
    obtain ⟨n, s1, bn, hn, h1, r1⟩ := c.k_rows s r hs
    obtain ⟨n', s2, bn', hn', h2, r2⟩ := c.k_rows s1 r h1
    obtain ⟨t', s3, ht, h3, r3⟩ := c.k_pick s2 [.int 1, .int (-1), .int 6, .int (-10)] r h2 (by simp)
    obtain ⟨t, rfl, t0, bt⟩ : ∃ t, t' = .int t ∧ t ≠ 0 ∧ Bd 4 t := by
      simp only [List.mem_cons, List.not_mem_nil, or_false] at ht
      rcases ht with rfl | rfl | rfl | rfl <;> exact ⟨_, rfl, by decide, by unfold Bd; decide⟩
    obtain ⟨⟨bx1, bx2, bx3⟩, ⟨bx4, bx5, bx6⟩, ⟨bx7, bx8, bx9⟩⟩ := bn
    have bn : MB 67 n := ⟨⟨bx1, bx2, bx3⟩, ⟨bx4, bx5, bx6⟩, ⟨bx7, bx8, bx9⟩⟩
    have M : ∀ j, Bd 67 j → mulOk t j = true := fun j hj => mulOk_of 4 67 bt hj (by decide)
    have btn : MB 71 (n.sm t) := ⟨⟨bt.mul bx1, bt.mul bx2, bt.mul bx3⟩, ⟨bt.mul bx4, bt.mul bx5, bt.mul bx6⟩, ⟨bt.mul bx7, bt.mul bx8, bt.mul bx9⟩⟩
    have dtn : (n.sm t).dt ≠ 0 := by rw [M3.dt_sm]; exact Int.mul_ne_zero (Int.mul_ne_zero (Int.mul_ne_zero t0 t0) t0) hn
    have mi := c.g_map.mi
    have gi := c.k_Map_initX
    have e1 := fun m => make_map (Γ := Γ) (m := m) (k := 71) mi gi (by decide) btn dtn (IsM.rows (n.sm t))
    rw [M3.nrm_sm t0 hn] at e1
    have e2 := fun m => make_map (Γ := Γ) (m := m) (k := 67) mi gi (by decide) bn' hn' (IsM.rows n')
    have e2' := fun m => mkK_of (Γ := Γ) (C := "Map") (f := "Map.__init__") (n := 0) (ks := ["rows"]) (p := [.inl 0, .inl 1]) (ys := []) (zs := [rowsL n']) (args := [rowsL n']) mi c.pl0 (fun x => by simp [appPlan]) rfl rfl m
    simp only [e2] at e2'
    have hN : NZ n.l := M3.nz_of_dt hn
    obtain ⟨q, hq⟩ := hd0_cons hN
    have hql : q.length ≤ 16777215 := by
      have := List.length_filter_le (fun x => x != 0) n.l
      rw [hq] at this
      simp [M3.l, V3.l] at this
      omega
    have DV := divOk_gl (k := 67) hN (by simp [M3.l, V3.l]; exact ⟨bx1, bx2, bx3, bx4, bx5, bx6, bx7, bx8, bx9⟩) (by decide)
    have MS : ∀ j, Bd 67 j → mulOk 1 j = true ∧ mulOk (-1) j = true := fun j hj => ⟨mulOk_of 1 67 (by decide) hj (by omega), mulOk_of 1 67 (by decide) hj (by omega)⟩
    have L := fun (ρ : Env) (hl : 10 < ρ.length) m => nzLoop Γ 10 ρ hl n.l m
    rw [hq] at L
    have GC := fun (a b : Int) (hb : Bd 67 b) (m : Mem) => c.k_gcd 67 a b m (by decide) hb
    have GL : gl n.l = (((((((n.a.x.natAbs.gcd n.a.y.natAbs).gcd n.a.z.natAbs).gcd n.b.x.natAbs).gcd n.b.y.natAbs).gcd n.b.z.natAbs).gcd n.c.x.natAbs).gcd n.c.y.natAbs).gcd n.c.z.natAbs := by simp [gl, M3.l, V3.l]
    have R1 := reprOk_m bn.nrm (by decide)
    have e3 := fun m => make_map (Γ := Γ) (m := m) (k := 67) mi gi (by decide) bn hn (IsM.rows n)
    have CM := cmp_map c.g_mape.me c.k_Map_eqX
    simp only [M3.l, V3.l, List.map_cons, List.map_nil, List.cons_append, List.nil_append] at L hq DV GL
    have HS : 0 < hd0 [n.a.x, n.a.y, n.a.z, n.b.x, n.b.y, n.b.z, n.c.x, n.c.y, n.c.z] ∨ ¬ 0 < hd0 [n.a.x, n.a.y, n.a.z, n.b.x, n.b.y, n.b.z, n.c.x, n.c.y, n.c.z] := Classical.em _
    have TT : ∀ (m : Mem), reprOk (mD n.nrm) = true := fun _ => R1
    have key : ∀ ρ m, J01 ns r n n' (some d) (some (.int t)) (some (.lst [.int n.a.x, .int n.a.y, .int n.a.z, .int n.b.x, .int n.b.y, .int n.b.z, .int n.c.x, .int n.c.y, .int n.c.z])) (some (.int (gl n.l : Int))) (some (.int n.c.z)) (some (.int (sgn n.l))) (some (mD n.nrm)) ρ m → True := fun _ _ _ => trivial
    rcases HS with HS | HS
    case' inl =>
      have DU : D.tup [D.tup [D.int (n.a.x / (gl [n.a.x, n.a.y, n.a.z, n.b.x, n.b.y, n.b.z, n.c.x, n.c.y, n.c.z] : Int)), D.int (n.a.y / (gl [n.a.x, n.a.y, n.a.z, n.b.x, n.b.y, n.b.z, n.c.x, n.c.y, n.c.z] : Int)), D.int (n.a.z / (gl [n.a.x, n.a.y, n.a.z, n.b.x, n.b.y, n.b.z, n.c.x, n.c.y, n.c.z] : Int))], D.tup [D.int (n.b.x / (gl [n.a.x, n.a.y, n.a.z, n.b.x, n.b.y, n.b.z, n.c.x, n.c.y, n.c.z] : Int)), D.int (n.b.y / (gl [n.a.x, n.a.y, n.a.z, n.b.x, n.b.y, n.b.z, n.c.x, n.c.y, n.c.z] : Int)), D.int (n.b.z / (gl [n.a.x, n.a.y, n.a.z, n.b.x, n.b.y, n.b.z, n.c.x, n.c.y, n.c.z] : Int))], D.tup [D.int (n.c.x / (gl [n.a.x, n.a.y, n.a.z, n.b.x, n.b.y, n.b.z, n.c.x, n.c.y, n.c.z] : Int)), D.int (n.c.y / (gl [n.a.x, n.a.y, n.a.z, n.b.x, n.b.y, n.b.z, n.c.x, n.c.y, n.c.z] : Int)), D.int (n.c.z / (gl [n.a.x, n.a.y, n.a.z, n.b.x, n.b.y, n.b.z, n.c.x, n.c.y, n.c.z] : Int))]] = mD n.nrm := by simp [M3.nrm, M3.l, V3.l, sgn, HS]
      simp [forT, r1, r2, r3, M, bx1, bx2, bx3, bx4, bx5, bx6, bx7, bx8, bx9, ↓L, lcLoop_cs, lcT, show ∀ m, mkM Γ "Map" [.lst [.lst [.int (t * n.a.x), .int (t * n.a.y), .int (t * n.a.z)], .lst [.int (t * n.b.x), .int (t * n.b.y), .int (t * n.b.z)], .lst [.int (t * n.c.x), .int (t * n.c.y), .int (t * n.c.z)]]] m = _ from e1, e2', pyIx, forLoop_cons, GC, ← GL, hql, HS, MS, DV, c.g_map.fr, pre2, R1, DU, e3, CM.ne, CM.eq, CM.eqt, cmp_eqmm]
    case' inr =>
      have DU : D.tup [D.tup [D.int (-n.a.x / (gl [n.a.x, n.a.y, n.a.z, n.b.x, n.b.y, n.b.z, n.c.x, n.c.y, n.c.z] : Int)), D.int (-n.a.y / (gl [n.a.x, n.a.y, n.a.z, n.b.x, n.b.y, n.b.z, n.c.x, n.c.y, n.c.z] : Int)), D.int (-n.a.z / (gl [n.a.x, n.a.y, n.a.z, n.b.x, n.b.y, n.b.z, n.c.x, n.c.y, n.c.z] : Int))], D.tup [D.int (-n.b.x / (gl [n.a.x, n.a.y, n.a.z, n.b.x, n.b.y, n.b.z, n.c.x, n.c.y, n.c.z] : Int)), D.int (-n.b.y / (gl [n.a.x, n.a.y, n.a.z, n.b.x, n.b.y, n.b.z, n.c.x, n.c.y, n.c.z] : Int)), D.int (-n.b.z / (gl [n.a.x, n.a.y, n.a.z, n.b.x, n.b.y, n.b.z, n.c.x, n.c.y, n.c.z] : Int))], D.tup [D.int (-n.c.x / (gl [n.a.x, n.a.y, n.a.z, n.b.x, n.b.y, n.b.z, n.c.x, n.c.y, n.c.z] : Int)), D.int (-n.c.y / (gl [n.a.x, n.a.y, n.a.z, n.b.x, n.b.y, n.b.z, n.c.x, n.c.y, n.c.z] : Int)), D.int (-n.c.z / (gl [n.a.x, n.a.y, n.a.z, n.b.x, n.b.y, n.b.z, n.c.x, n.c.y, n.c.z] : Int))]] = mD n.nrm := by simp [M3.nrm, M3.l, V3.l, sgn, HS]
      simp [forT, r1, r2, r3, M, bx1, bx2, bx3, bx4, bx5, bx6, bx7, bx8, bx9, ↓L, lcLoop_cs, lcT, show ∀ m, mkM Γ "Map" [.lst [.lst [.int (t * n.a.x), .int (t * n.a.y), .int (t * n.a.z)], .lst [.int (t * n.b.x), .int (t * n.b.y), .int (t * n.b.z)], .lst [.int (t * n.c.x), .int (t * n.c.y), .int (t * n.c.z)]]] m = _ from e1, e2', pyIx, forLoop_cons, GC, ← GL, hql, HS, MS, DV, c.g_map.fr, pre2, R1, DU, e3, CM.ne, CM.eq, CM.eqt, cmp_eqmm]
    all_goals
      refine for_then (P := Goes (I01 ns) _) (fun _ => J01 ns r n n' _ _ _ _ _ _ _) ⟨s3, _, _, _, _, _, _, _, _, h3, rfl, rfl⟩ ?_ ?_
      · rintro d ds ρ m ⟨s, x13, x14, x15, x16, x17, x18, x19, x20, hs, rfl, rfl⟩
        obtain ⟨u, t1, bu, nu, g1, q1⟩ := c.k_triple s r hs
        obtain ⟨v, t2, bv, nv, g2, q2⟩ := c.k_triple t1 r g1
        have P1 := c.k_Map_pointX.ok 67 n.nrm u (vD u) (Pn t2 r) (by decide) bn.nrm (M3.nrm_dt hn) bu nu (.tup _)
        have P2 := c.k_Map_pointX.ok 67 n.nrm u (lD u) (Pn t2 r) (by decide) bn.nrm (M3.nrm_dt hn) bu nu rfl
        rw [led_all hn nu] at P1 P2
        have L1 := c.k_led 67 n u (rowsL n) (vD u) (Pn t2 r) (by decide) bn hn bu nu (IsM.rows n) (.tup _)
        have L2 := c.k_led 67 n v (rowsL n) (vD v) (Pn t2 r) (by decide) bn hn bv nv (IsM.rows n) (.tup _)
        have L3 := c.k_led 67 n' u (rowsL n') (vD u) (Pn t2 r) (by decide) bn' hn' bu nu (IsM.rows n') (.tup _)
        have C1 := c.k_lcross 67 u v (Pn t2 r) (by decide) bu bv
        have bl := bu.cross bv
        have bw : VB 136 (led n u) := (bn.mv bu).nrm
        have bw2 : VB 136 (led n v) := (bn.mv bv).nrm
        have bw' : VB 136 (led n' u) := (bn'.mv bu).nrm
        have dn := M3.nrm_dt hn
        have X1 := c.k_Map_back 67 n.nrm (Pn t2 r) (by decide) bn.nrm dn
        have bX : MB 136 n.nrm.cof.tr.nrm := (bn.nrm.cof.tr.nrm).mono (by decide)
        have P3 := c.k_Map_pointX.ok 136 n.nrm.cof.tr.nrm (led n u) (vD (led n u)) (Pn t2 r) (by decide) bX (M3.nrm_dt (adj_dt dn)) bw (led_nz hn nu) (.tup _)
        rw [led_all (adj_dt dn) (led_nz hn nu), ← nrm_led hn nu, led_back dn nu, nrm_led hn nu] at P3
        have A1 := c.k_Map_after.ok 67 n.nrm n'.nrm (Pn t2 r) (by decide) bn.nrm bn'.nrm dn (M3.nrm_dt hn')
        have dA : (n.nrm.mul n'.nrm).dt ≠ 0 := by rw [dt_mul]; exact Int.mul_ne_zero dn (M3.nrm_dt hn')
        have P4 := c.k_Map_pointX.ok 136 (n.nrm.mul n'.nrm).nrm u (vD u) (Pn t2 r) (by decide) (bn.nrm.mul bn'.nrm).nrm (M3.nrm_dt dA) (bu.mono (by decide)) nu (.tup _)
        rw [led_all dA nu, led_mul dn (M3.nrm_dt hn') nu, nrm_led hn' nu, nrm_led hn (led_nz hn' nu)] at P4
        have L4 := c.k_led 136 n (led n' u) (rowsL n) (vD (led n' u)) (Pn t2 r) (by decide) (bn.mono (by decide)) hn bw' (led_nz hn' nu) (IsM.rows n) (.tup _)
        have N1 := c.k_lnormal 67 (vD u) u (Pn t2 r) (by decide) bu nu (.tup _)
        by_cases hl : V3.cross u v = V3.zero
        · simp [-cmp_nev, -cmp_eqv, cmp_nevv, cmp_ne0, forT, q1, q2, c.g_map.mp, c.g_map.mb, c.g_map.ma, P1, P2, L1, L3, L4, c.pl3, appPlan, C1, hl, X1, P3, A1, P4, N1]
          exact ⟨_, _, _, _, _, _, _, _, _, g2, rfl, rfl⟩
        · have Q1 := c.k_Map_lineX.ok 135 n.nrm (V3.cross u v) (vD (V3.cross u v)) (Pn t2 r) (by decide) (bn.nrm.mono (by decide)) dn bl hl (.tup _)
          have eq : (n.nrm.cof.mv (V3.cross u v).nrm).nrm = (V3.cross (led n u) (led n v)).nrm := by
            show led n.nrm.cof (V3.cross u v).nrm = _
            rw [led_nrm (cof_dt' dn) hl, led_line dn nu nv hl, nrm_led hn nu, nrm_led hn nv]
          rw [eq] at Q1
          have C2 := c.k_lcross 136 (led n u) (led n v) (Pn t2 r) (by decide) bw bw2
          have N2 := c.k_lnormal 273 (vD (V3.cross (led n u) (led n v))) (V3.cross (led n u) (led n v)) (Pn t2 r) (by decide) (bw.cross bw2) (cross_led_nz hn nu nv hl) (.tup _)
          simp [-cmp_nev, -cmp_eqv, cmp_nevv, cmp_ne0, forT, q1, q2, c.g_map.mp, c.g_map.ml, c.g_map.mb, c.g_map.ma, P1, P2, L1, L2, L3, L4, c.pl3, c.pl2, appPlan, C1, hl, X1, P3, A1, P4, N1, Q1, C2, N2]
          exact ⟨_, _, _, _, _, _, _, _, _, g2, rfl, rfl⟩
      · rintro ρ m ⟨s, x13, x14, x15, x16, x17, x18, x19, x20, hs, rfl, rfl⟩
        have dn := M3.nrm_dt hn
        have bX : MB 136 n.nrm.cof.tr.nrm := (bn.nrm.cof.tr.nrm).mono (by decide)
        have X1 := fun m => c.k_Map_back 67 n.nrm m (by decide) bn.nrm dn
        have X2 := fun m => c.k_Map_back 136 n.nrm.cof.tr.nrm m (by decide) bX (M3.nrm_dt (adj_dt dn))
        simp only [back_back dn, M3.nrm_nrm hn] at X2
        have A1 := fun m => c.k_Map_after.ok 136 n.nrm n.nrm.cof.tr.nrm m (by decide) (bn.nrm.mono (by decide)) bX dn (M3.nrm_dt (adj_dt dn))
        simp only [mul_back dn] at A1
        have e5 := fun m => make_map (Γ := Γ) (m := m) (k := 2) (d := .lst [vD id3.a, vD id3.b, vD id3.c]) mi gi (by decide) (by refine ⟨⟨?_, ?_, ?_⟩, ⟨?_, ?_, ?_⟩, ⟨?_, ?_, ?_⟩⟩ <;> (unfold Bd; decide)) (by decide) ⟨_, _, _, rfl, .tup _, .tup _, .tup _⟩
        simp only [show id3.nrm = id3 by decide] at e5
        obtain ⟨o, s4, ho, h4, r4⟩ := c.k_pick s [.non, .int 5, .lst [], .lst [lD n.a, lD n.b], .lst [lD n.a, lD n.b, lD n.c, lD n.a], .lst [lD n.a, lD n.b, lD n.a], .lst [lD n.a, lD n.b, .lst [.int 1, .int 2]], .lst [lD n.a, lD n.b, .lst [.bl true, .int 0, .int 1]], .str "abc", .dct [] [], .lst [.non, .non, .non]] r hs (by simp)
        obtain ⟨e, s5, he, h5, r5⟩ := c.k_pick s4 [.non, .int 5, .tup [.int 0, .int 0, .int 0], .tup [.int 1, .int 2], mD n.nrm, .str "abc", .tup [.int 1, .int 2, .non]] r h4 (by simp)
        obtain ⟨f, s6, hf, h6, r6⟩ := c.k_pick s5 [.non, rowsL n] (r ++ [.ins "Map" [] []]) h5 (by simp)
        have E6 := fun m => make_map_no (Γ := Γ) (m := m) mi gi (k := 67) (d := o) (by decide) (odd_rows n 67 bn (by decide) _ o ho).1 (odd_rows n 67 bn (by decide) [] o ho).2
        have K1 := fun m => c.k_caught.pt "BadMap" "map" (.str "rows") m (by decide)
        have K2 := fun m => c.k_caught.pt "BadTriple" "triple" (.str "triple") m (by decide)
        have K3 := fun m => c.k_caught.pt "BadMap" "map" (.str "other") m (by decide)
        have T1 := fun m => c.k_Map_pointX.no n.nrm e m (odd_tris n.nrm m e he).1 (odd_tris n.nrm m e he).2
        have T2 := fun m => c.k_Map_lineX.no n.nrm e m (odd_tris n.nrm m e he).1 (odd_tris n.nrm m e he).2
        have T3 := fun m => c.k_Map_after.no n.nrm f m (by
          simp only [List.mem_cons, List.not_mem_nil, or_false] at hf
          rcases hf with rfl | rfl <;> rfl)
        have ME1 := c.g_exc.m1
        have ME2 := c.g_exc.m2
        simp [-cmp_nev, -cmp_eqv, cmp_nevv, cmp_ne0, c.g_map.mp, c.g_map.mb, c.g_map.ma, c.g_map.ml, X1, X2, A1, c.pl1, appPlan, CM.ne, show ∀ m, mkM Γ "Map" [.lst [.tup [.int 1, .int 0, .int 0], .tup [.int 0, .int 1, .int 0], .tup [.int 0, .int 0, .int 1]]] m = _ from e5, r4, r5, partD, slS, cutD, sxN, pyIx, E6, K1, K2, K3, T1, T2, T3, r6, ME1, ME2, cmp_ne_ll, D.plain, D.plainL]
        exact ⟨s6, _, _, _, _, _, _, _, _, _, _, _, _, _, _, _, _, _, _, _, _, h6, rfl, rfl⟩
  · rintro ρ m ⟨s, r, x2, x3, x4, x5, x6, x7, x8, x9, x10, x11, x12, x13, x14, x15, x16, x17, x18, x19, x20, hs, rfl, rfl⟩
    simp

theorem hlaw (ns : List Int) : ∃ m, (pg0.full 9).fn "law" [.lst (ns.map D.int)] [] = .ok (.bl true) m := by
  show ∃ m, fnL pg0 9 "law" [.lst (ns.map D.int)] [] = .ok (.bl true) m
  rw [eq_law 9 (by decide)]
  exact law_ok _ cs ns
end PL.Law

set_option Elab.async false
set_option linter.all false
theorem PL.Law.chk : PL.Chk (PL.Law.pg0.full 9) := ⟨PL.Law.hsc, PL.Law.hmt, PL.Law.hnu, PL.full_sem PL.Law.hrow PL.Law.hlv⟩
open PySem PySem.W PyProof.Rows
set_option maxRecDepth 100000 in
set_option maxHeartbeats 0 in
theorem PySem.Challenge.cw_rulerdrawn_k01_maps_holds : PySem.Challenge.rw_rulerdrawn_k01_maps.Holds := by
  w_on; o_law; k_head; (case hw => w_witness2)
  k_fill
  refine PL.pl_walk (l := PySem.Challenge.rw_rulerdrawn_k01_maps) (p := PL.Law.pg0.full 9) (r := PL.Law.row_law) (xd := PL.Law.xdT) rfl rfl rfl (fun w h Y => by first | exact PySem.W.kIn_of Y | exact PySem.W.km_in_of Y) PL.Law.hrow ?hE ?hB PL.Law.hbd ?hC ?hN ?hK ?hX ?hT ?hXE ?hXB PL.Law.hxa ?hXX ?hP PL.Law.hm9 PL.Law.chk rfl rfl rfl rfl ⟨rfl, by decide, by decide⟩ (fun ns _ => PL.Law.hlaw ns)
  case hE => intro w; unfold PL.FnsEq; kernel_rfl
  case hB => intro w; kernel_rfl
  case hC => intro w; kernel_rfl
  case hN => intro w; kernel_rfl
  case hK => intro w; kernel_rfl
  case hX => intro w; kernel_rfl
  case hT => intro w; kernel_rfl
  case hXE => intro w; unfold PL.XFnsEq; kernel_rfl
  case hXB => intro w; kernel_rfl
  case hXX => intro w; kernel_rfl
  case hP => intro w; exact PL.Law.hpl 9 (by unfold PL.FnsEq; kernel_rfl) (by kernel_rfl)

