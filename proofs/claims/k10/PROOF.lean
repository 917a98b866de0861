import PyProof.Rows.All
import Wide.All
import OpenK.AllK
import Wide.FinOn
import HandS.ForMost
import HandS.Walk
import HandS.IsInst
import HandS.TupAny
import PySem.Challenge.RW_keepfew_k10_stretches
set_option Elab.async false
set_option linter.all false
set_option maxRecDepth 100000
set_option maxHeartbeats 4000000
set_option Elab.async false
set_option linter.all false
set_option maxRecDepth 100000
/-! C0: short words over the hand layer: callees by name, builtins by name, extensions of a heap, data, comprehensions over data. -/
namespace Kf
open PySem PySem.Spec PyProof.Rows L2

/-! ### the built-in names are not taken by the module -/
structure BN (mg : Str → Option Value) : Prop where
  len : mg "len" = none
  range : mg "range" = none
  enumerate : mg "enumerate" = none
  isinstance : mg "isinstance" = none
  all : mg "all" = none
  sum : mg "sum" = none
  int : mg "int" = none
  list : mg "list" = none
  sorted : mg "sorted" = none
  min : mg "min" = none
  max : mg "max" = none
  set : mg "set" = none
  zip : mg "zip" = none
  dict : mg "dict" = none
  tuple : mg "tuple" = none
  bool : mg "bool" = none
  str : mg "str" = none
  ValueError : mg "ValueError" = none
theorem bt_len : bootBuiltins "len" = some (.builtin "len") := by decide +kernel
theorem bt_isinstance : bootBuiltins "isinstance" = some (.builtin "isinstance") := by decide +kernel
theorem bt_all : bootBuiltins "all" = some (.builtin "all") := by decide +kernel
theorem bt_sum : bootBuiltins "sum" = some (.builtin "sum") := by decide +kernel
theorem bt_sorted : bootBuiltins "sorted" = some (.builtin "sorted") := by decide +kernel
theorem bt_min : bootBuiltins "min" = some (.builtin "min") := by decide +kernel
theorem bt_max : bootBuiltins "max" = some (.builtin "max") := by decide +kernel
theorem bt_int : bootBuiltins "int" = some (.type "int") := by decide +kernel
theorem bt_list : bootBuiltins "list" = some (.type "list") := by decide +kernel
theorem bt_tuple : bootBuiltins "tuple" = some (.type "tuple") := by decide +kernel
theorem bt_bool : bootBuiltins "bool" = some (.type "bool") := by decide +kernel
theorem bt_str : bootBuiltins "str" = some (.type "str") := by decide +kernel
theorem bt_set : bootBuiltins "set" = some (.type "set") := by decide +kernel
theorem bt_dict : bootBuiltins "dict" = some (.type "dict") := by decide +kernel
theorem bt_ValueError : bootBuiltins "ValueError" = some (.type "ValueError") := by decide +kernel

/-! ### defs and constants by their names -/
section
variable (P : Program) (w : World) (K : PySem.W.Frag) (mg : Str → Option Value) (base : Heap)
/-- a def of the text at the top -/
def FunG (x : Str) (st : Stmt) : Prop := ∃ f fd, Fun K x x st f fd ∧ mg x = some (.ref f)
/-- it keeps its promise -/
def Cal (x : Str) (k : Nat) (ps : List Str) (sp : Sp) : Prop := ∃ f fd, FnOk P w K mg base CX0 k f fd ps sp ∧ mg x = some (.ref f) ∧ PySem.W.keepIn K (.ref f) = true ∧ Binds K fd ps []
/-- a method of the class at C -/
def FunM (C : Addr) (m q : Str) (st : Stmt) : Prop := ∃ f fd, Fun K m q st f fd ∧ Meth K C m f
def CalM (C : Addr) (m : Str) (k : Nat) (ps : List Str) (sp : Sp) : Prop := ∃ f fd, FnOk P w K mg base CX0 k f fd ps sp ∧ Meth K C m f ∧ Binds K fd ps []
/-- a class that is made, by its __init__ -/
def FunI (x : Str) (C : Addr) (q : Str) (st : Stmt) : Prop := ∃ f fd, Fun K "__init__" q st f fd ∧ Mk K C f ∧ mg x = some (.ref C)
def CalI (x : Str) (C : Addr) (k : Nat) (ps : List Str) (sp : Sp) : Prop := ∃ f fd, FnOk P w K mg base CX0 k f fd ps sp ∧ Mk K C f ∧ mg x = some (.ref C) ∧ Binds K fd ps []
end
def GStr (mg : Str → Option Value) (x v : Str) : Prop := ∃ t, mg x = some (.str v t)
def GInt (mg : Str → Option Value) (x : Str) (v : Int) : Prop := ∃ t, mg x = some (.int v t)
section
variable {X : Cx} {x : Str} {k : Nat} {ps : List Str} {sp : Sp} {e : Expr} {es : List Expr} {t : TA} {p pos apos : Pos} {C : Addr} {m : Str} {o : Expr} {ta : TE}
theorem pe_cal (c : Cal X.prog X.w X.K X.mg X.base x k ps sp) (hr : Room k X.A) (hg : Gl X x) (ha : PA X (e :: es) t) (hdb : (x == ("__debug__" : Str)) = false := by decide)
    (he : starEach (e :: es) X.env = (false, eval e X.env) :: starEach es X.env := by rfl) (hpl : (backTo pos (starEach es X.env)).any (·.1) = false := by rfl) :
    PE X (.Call (.Name x p) (e :: es) [] pos) (tCall sp [] E0 t) := by
  obtain ⟨f, fd, F, hm, hk, hb⟩ := c
  exact pe_call F hr hg hm hk hb .nil pass0 ha hdb he hpl
theorem pe_mth {pl : Sem Bool} (he : PE X o ta) (cl : Cls X.K C) (c : CalM X.prog X.w X.K X.mg X.base C m k ps sp) (hr : Room k X.A) (ha : PA X (e :: es) t)
    (hst : starEach (e :: es) X.env = (false, eval e X.env) :: starEach es X.env := by rfl) (hpl : (backTo pos (starEach es X.env)).any (·.1) = false := by rfl)
    (ht : eval (.Call (.Attribute o m apos) (e :: es) [] pos) X.env = (do
      let ov ← eval o X.env
      standAt apos.atName
      let (f, first) ← holding [ov] (getMethod ov m pl)
      callWith pos f first (backTo pos (starEach (e :: es) X.env)) (backToKw pos (keywordEach [] X.env))) := by rfl) :
    PE X (.Call (.Attribute o m apos) (e :: es) [] pos) (tMeth C m sp [] E0 ta t) := by
  obtain ⟨f, fd, F, hm, hb⟩ := c
  exact pe_meth he cl hm F hr hb .nil pass0 ha hst hpl ht
theorem pe_mth0 {pl : Sem Bool} (he : PE X o ta) (cl : Cls X.K C) (c : CalM X.prog X.w X.K X.mg X.base C m k ps sp) (hr : Room k X.A)
    (ht : eval (.Call (.Attribute o m apos) [] [] pos) X.env = (do
      let ov ← eval o X.env
      standAt apos.atName
      let (f, first) ← holding [ov] (getMethod ov m pl)
      callWith pos f first (backTo pos (starEach [] X.env)) (backToKw pos (keywordEach [] X.env))) := by rfl) :
    PE X (.Call (.Attribute o m apos) [] [] pos) (tMeth C m sp [] E0 ta tNil) := by
  obtain ⟨f, fd, F, hm, hb⟩ := c
  exact pe_meth0 he cl hm F hr hb .nil pass0 ht
theorem pe_mk (c : CalI X.prog X.w X.K X.mg X.base x C k ps sp) (hr : Room (k + 1) X.A) (hg : Gl X x) (ha : PA X (e :: es) t) (hdb : (x == ("__debug__" : Str)) = false := by decide)
    (he : starEach (e :: es) X.env = (false, eval e X.env) :: starEach es X.env := by rfl) (hpl : (backTo pos (starEach es X.env)).any (·.1) = false := by rfl) :
    PE X (.Call (.Name x p) (e :: es) [] pos) (tMake C sp [] E0 t) := by
  obtain ⟨f, fd, F, M, hm, hb⟩ := c
  exact pe_make M F hr hg hm hb .nil pass0 ha hdb he hpl
theorem pe_gstr {v : Str} (hg : Gl X x) (h : GStr X.mg x v) (hd : (x == ("__debug__" : Str)) = false := by decide) : PE X (.Name x pos) (tC (.str v)) := by
  obtain ⟨u, h⟩ := h
  exact pe_glob hg h ⟨u, rfl⟩ hd
theorem pe_gint {v : Int} (hg : Gl X x) (h : GInt X.mg x v) (hd : (x == ("__debug__" : Str)) = false := by decide) : PE X (.Name x pos) (tC (.int v)) := by
  obtain ⟨u, h⟩ := h
  exact pe_glob hg h ⟨u, rfl⟩ hd
theorem pe_gcls (hg : Gl X x) (h : X.mg x = some (.ref C)) (hd : (x == ("__debug__" : Str)) = false := by decide) : PE X (.Name x pos) (tC (.ref C)) := pe_glob hg h rfl hd
end

/-! ### loops behind a door that is not unfolded -/
@[irreducible] def Door (p : Prop) : Prop := p
theorem Door.eq (p : Prop) : Door p = p := by unfold Door; rfl
theorem Door.mk {p : Prop} (h : p) : Door p := by rw [Door.eq]; exact h
theorem Door.out {p : Prop} (h : Door p) : p := by rw [Door.eq] at h; exact h
def tForD (wi : TI) (g : TG) (tb : TS) : TS := fun D σ H => wi σ H fun J H1 => Door (∃ W : Nat → Nat → L2.St → Hp → Prop, (∃ m, W 0 m σ H1) ∧ ∀ i m σ H, W i m σ H →
  (J.stop i H ∧ D.nx σ H) ∨ (J.go i H ∧ ∃ N : L2.St → Hp → Prop, (∀ σ' H', N σ' H' → ∃ m', m' < m ∧ W (i + 1) m' σ' H') ∧ ∀ x H', J.yld i H x H' → g x σ H' fun σ2 H2 => tb { D with nx := N, ct := N, bk := D.nx } σ2 H2))
theorem tForD_eq (wi : TI) (g : TG) (tb : TS) : tForD wi g tb = tFor wi g tb := by
  funext D σ H
  show wi σ H (fun J H1 => Door _) = wi σ H (fun J H1 => _)
  simp only [Door.eq]
theorem ps_forD {X : Cx} {tg iter : Expr} {body : List Stmt} {wi : TI} {g : TG} {tb : TS} {pos : Pos} (hi : PI X tg iter wi) (hg : PG X tg g) (hb : PSs X body tb)
    (hp : PassesOwn (model X.prog X.w) X.A X.env X.xe := by exact PassesOwn.never) (hc : X.calm = true := by rfl) (hs : ∀ x, foldedSetIterable iter X.env x = pure x := by intro _; rfl) : PS X (.For tg iter body [] pos) (tForD wi g tb) := by
  rw [tForD_eq]
  exact ps_for hp hc hi hg hb hs
/-- a word between a statement and the rest: what follows is shown once -/
def tCutD (t u : TS) : TS := fun D σ H => Door (∃ M : L2.St → Hp → Prop, t { D with nx := M } σ H ∧ ∀ σ' H', M σ' H' → u D σ' H')
theorem pss_cutD {X : Cx} {st : Stmt} {rest : List Stmt} {t u : TS} (h1 : PS X st t) (h2 : PSs X rest u) : PSs X (st :: rest) (tCutD t u) := by
  refine ⟨fun pins s σ H D I h => ?_⟩
  obtain ⟨Mid, hm, hu⟩ := Door.out h
  refine wpAny_execs_cons (thn (h1.run pins s σ H { D with nx := Mid } I hm) fun f s1 q => ?_)
  cases f with
  | next =>
    obtain ⟨σ', H', I', q⟩ := q
    exact h2.run pins s1 σ' H' D I' (hu σ' H' q)
  | ret v => exact q
  | brk => exact q
  | cont => exact q
/-- the ends of a part: nx as told, the rest those of D -/
structure EndsTo (D' D : Ends) (M : L2.St → Hp → Prop) : Prop where
  nx : ∀ σ' H', M σ' H' → D'.nx σ' H'
  rt : ∀ v H', D.rt v H' → D'.rt v H'
  bk : ∀ σ' H', D.bk σ' H' → D'.bk σ' H'
  ct : ∀ σ' H', D.ct σ' H' → D'.ct σ' H'
theorem cut_by {t u : TS} {D : Ends} {σ : L2.St} {H : Hp} (M : L2.St → Hp → Prop) (h1 : ∀ D' : Ends, EndsTo D' D M → t D' σ H) (h2 : ∀ σ' H', M σ' H' → u D σ' H') :
    Door (∃ M : L2.St → Hp → Prop, t { D with nx := M } σ H ∧ ∀ σ' H', M σ' H' → u D σ' H') := Door.mk ⟨M, h1 _ ⟨fun _ _ h => h, fun _ _ h => h, fun _ _ h => h, fun _ _ h => h⟩, h2⟩
def tWhileD (c : TT) (tb : TS) : TS := fun D σ H => Door (tWhile c tb D σ H)
theorem tWhileD_eq (c : TT) (tb : TS) : tWhileD c tb = tWhile c tb := by
  funext D σ H
  show Door _ = _
  rw [Door.eq]
theorem ps_whileD {X : Cx} {c : Expr} {body : List Stmt} {tc : TT} {tb : TS} {pos : Pos} (hc : PT X c tc) (hb : PSs X body tb) (hp : PassesOwn (model X.prog X.w) X.A X.env X.xe := by exact PassesOwn.never) : PS X (.While c body [] pos) (tWhileD tc tb) := by
  rw [tWhileD_eq]
  exact ps_while hp hc hb

theorem ite_t {c : Bool} {A B : Prop} (h : c = true) (a : A) : if c = true then A else B := by
  rw [if_pos h]
  exact a
theorem ite_f {c : Bool} {A B : Prop} (h : c = false) (b : B) : if c = true then A else B := by
  rw [h, if_neg Bool.false_ne_true]
  exact b
theorem size_of_le {n : Nat} (h : n ≤ 1000000) : n ≤ sizeLine := by
  rw [sizeLine_eq]
  omega
theorem size_of_lt {n : Nat} (h : n ≤ 1000000) : n < sizeLine := by
  rw [sizeLine_eq]
  omega
theorem not_f {c : Bool} (h : c = true) : (!c) = false := by rw [h]; rfl
theorem not_t {c : Bool} (h : c = false) : (!c) = true := by rw [h]; rfl
/-! ### extensions -/
section
variable {H H' H'' : Hp} {a p : Addr} {o u : HO} {K : PySem.W.Frag}
theorem same_new (h : H p = none) : Same H (upd H p o) := fun b x e => by
  rw [upd_ne (ne_of_none e h)]
  exact e
theorem sm_mut (e : Same H H') (h : H p = none) : Same H (upd H' p o) := fun b x he => by
  rw [upd_ne (ne_of_none he h)]
  exact e b x he
theorem sm_ext (h : H' p = none) (e : Same H H') : Same H (upd H' p o) := e.trans (same_new h)
theorem sm_mu (h : H p = none) (e : Same H H') : Same H (upd H' p o) := sm_mut e h
theorem sm_tr (e2 : Same H' H'') (e1 : Same H H') : Same H H'' := e1.trans e2
theorem upd_old (h : H p = none) (e : H a = some u) : upd H p o a = some u := by
  rw [upd_ne (ne_of_none e h)]
  exact e
theorem upd_far (h : a ≠ p) (e : H a = some u) : upd H p o a = some u := by
  rw [upd_ne h]
  exact e
theorem sm_rd (e : Same H H') (h : Rd H a u) : Rd H' a u := by
  rcases h with h | ⟨o, h⟩
  · exact .inl (e _ _ h)
  · exact .inr ⟨o, e _ _ h⟩
theorem sm_tup {xs : List V} (e : Same H H') (h : SqT K H a xs) : SqT K H' a xs := by
  rcases h with h | h
  · exact .inl (sm_rd e h)
  · exact .inr h
theorem sm_get (e : Same H H') (h : H a = some u) : H' a = some u := e _ _ h
mutual
theorem Dp.mono (e : Same H H') : ∀ {v : V} {d : PyData}, Dp K H v d → Dp K H' v d
  | _, _, .non => .non
  | _, _, .bl b => .bl b
  | _, _, .int i => .int i
  | _, _, .str x => .str x
  | _, _, .lst h r => .lst (e.seq h) (DpAll.mono e r)
  | _, _, .tup h r => .tup (sm_tup e h) (DpAll.mono e r)
theorem DpAll.mono (e : Same H H') : ∀ {vs : List V} {ds : List PyData}, DpAll K H vs ds → DpAll K H' vs ds
  | _, _, .nil => .nil
  | _, _, .cons h r => .cons (Dp.mono e h) (DpAll.mono e r)
end
theorem DpAll.append : ∀ {vs ws : List V} {ds es : List PyData}, DpAll K H vs ds → DpAll K H ws es → DpAll K H (vs ++ ws) (ds ++ es)
  | _, _, _, _, .nil, r => r
  | _, _, _, _, .cons h q, r => .cons h (DpAll.append q r)
theorem DpAll.len : ∀ {vs : List V} {ds : List PyData}, DpAll K H vs ds → vs.length = ds.length
  | _, _, .nil => rfl
  | _, _, .cons _ r => by rw [List.length_cons, List.length_cons, DpAll.len r]
theorem DpAll.get : ∀ {vs : List V} {ds : List PyData} {i : Nat} {d : PyData}, DpAll K H vs ds → ds[i]? = some d → ∃ v, vs[i]? = some v ∧ Dp K H v d
  | _, _, _, _, .nil, e => by simp at e
  | _, _, 0, _, .cons h _, e => by
    have e := Option.some.inj e
    subst e
    exact ⟨_, rfl, h⟩
  | _, _, i + 1, _, .cons _ r, e => by
    obtain ⟨v, h1, h2⟩ := DpAll.get (i := i) r (by simpa using e)
    exact ⟨v, by simpa using h1, h2⟩
theorem DpAll.getV : ∀ {vs : List V} {ds : List PyData} {i : Nat} {v : V}, DpAll K H vs ds → vs[i]? = some v → ∃ d, ds[i]? = some d ∧ Dp K H v d
  | _, _, _, _, .nil, e => by simp at e
  | _, _, 0, _, .cons h _, e => by
    have e := Option.some.inj e
    subst e
    exact ⟨_, rfl, h⟩
  | _, _, i + 1, _, .cons _ r, e => by
    obtain ⟨v, h1, h2⟩ := DpAll.getV (i := i) r (by simpa using e)
    exact ⟨v, by simpa using h1, h2⟩
theorem DpAll.ints : ∀ {vs : List V} {ns : List Int}, DpAll K H vs (ns.map .int) → vs = ns.map V.int
  | _, [], .nil => rfl
  | _, _ :: _, .cons (.int _) r => by rw [List.map_cons, DpAll.ints r]
theorem DpAll.strs : ∀ {vs : List V} {ns : List Str}, DpAll K H vs (ns.map .str) → vs = ns.map V.str
  | _, [], .nil => rfl
  | _, _ :: _, .cons (.str _) r => by rw [List.map_cons, DpAll.strs r]
theorem DpAll.bls : ∀ {vs : List V} {ns : List Bool}, DpAll K H vs (ns.map .bool) → vs = ns.map V.bl
  | _, [], .nil => rfl
  | _, _ :: _, .cons (.bl _) r => by rw [List.map_cons, DpAll.bls r]
theorem dp_ints : ∀ {ns : List Int}, DpAll K H (ns.map V.int) (ns.map .int)
  | [] => .nil
  | _ :: _ => .cons (.int _) dp_ints
theorem dp_strs : ∀ {ns : List Str}, DpAll K H (ns.map V.str) (ns.map .str)
  | [] => .nil
  | _ :: _ => .cons (.str _) dp_strs
theorem dp_bls : ∀ {ns : List Bool}, DpAll K H (ns.map V.bl) (ns.map .bool)
  | [] => .nil
  | _ :: _ => .cons (.bl _) dp_bls
/-- a list or tuple of data, of which a new list is made by data -/
theorem SqL.dp {xs : List V} {ds : List PyData} (h : SqL K H a xs) (r : DpAll K H xs ds) : Dp K H (.ref a) (.list ds) := .lst h r
end
/-! ### a value that several ways lead to, told once -/
def tJ (t : TE) : TE := fun σ H Q => Door (∃ v : V, (∀ Q' : VK, (∀ H', Same H H' → Q' v H') → t σ H Q') ∧ ∀ H', Same H H' → Q v H')
theorem pe_j {X : Cx} {e : Expr} {t : TE} (h : PE X e t) : PE X e (tJ t) := ⟨fun pins s σ H Q I q => by
  obtain ⟨v, h1, h2⟩ := Door.out q
  exact h.run pins s σ H Q I (h1 Q h2)⟩
theorem join_by {t : TE} {σ : L2.St} {H : Hp} {Q : VK} (v : V) (h1 : ∀ Q' : VK, (∀ H', Same H H' → Q' v H') → t σ H Q') (h2 : ∀ H', Same H H' → Q v H') :
    Door (∃ v : V, (∀ Q' : VK, (∀ H', Same H H' → Q' v H') → t σ H Q') ∧ ∀ H', Same H H' → Q v H') := Door.mk ⟨v, h1, h2⟩
def tJT (t : TT) : TT := fun σ H Q => Door (∃ b : Bool, (∀ Q' : Bool → Hp → Prop, (∀ H', Same H H' → Q' b H') → t σ H Q') ∧ ∀ H', Same H H' → Q b H')
theorem pt_j {X : Cx} {e : Expr} {t : TT} (h : PT X e t) : PT X e (tJT t) := ⟨fun pins s σ H Q I q => by
  obtain ⟨v, h1, h2⟩ := Door.out q
  exact h.run pins s σ H Q I (h1 Q h2)⟩
theorem joint_by {t : TT} {σ : L2.St} {H : Hp} {Q : Bool → Hp → Prop} (b : Bool) (h1 : ∀ Q' : Bool → Hp → Prop, (∀ H', Same H H' → Q' b H') → t σ H Q') (h2 : ∀ H', Same H H' → Q b H') :
    Door (∃ b : Bool, (∀ Q' : Bool → Hp → Prop, (∀ H', Same H H' → Q' b H') → t σ H Q') ∧ ∀ H', Same H H' → Q b H') := Door.mk ⟨b, h1, h2⟩
/-- int(a truth) -/
theorem call_intB {X : Cx} : CallR X (.type "int") (fun xs H Q => ∃ k, xs = [.bl k] ∧ Q (.int (if k then 1 else 0)) H) := fun pins s σ H xs us Q I r h => call_int1 pins s σ H xs us Q I r (.inr h)
/-! ### comprehensions, told by what each item gives -/
section
variable {α : Type} {J : It} {G : Hp → Prop} {Y : Nat → Hp → V → Hp → Prop} {g : TG} {tt : TT} {te : TE} {vs : List Nat} {σ : L2.St} {H1 : Hp} {Qd : Addr → Hp → Prop}
theorem take_one {α : Type} {l : List α} {i : Nat} {x : α} (h : l[i]? = some x) : l.take (i + 1) = l.take i ++ [x] := by
  rw [List.take_add_one, h]
  rfl
/-- values that are known -/
theorem lc_vals (as : List α) (w : Walk J as.length G Y) (kept : α → Bool) (val : α → V) (hn : as.length < sizeLine) (hG : ∀ H, Same H1 H → G H)
    (hs : ∀ i a x H H' (R1 : V → Hp → Prop) (R0 : Hp → Prop), as[i]? = some a → Same H1 H → Y i H x H' → (kept a = true → ∀ H4, Same H H4 → R1 (val a) H4) → (kept a = false → ∀ H4, Same H H4 → R0 H4) →
      g x (wipe σ vs) H' fun σ2 H2 => wipe σ2 vs = wipe σ vs ∧ tt σ2 H2 fun b H3 => if b = true then te σ2 H3 R1 else R0 H3)
    (hd : ∀ D H', H1 D = none → Same H1 H' → H' D = some (.lst ((as.filter kept).map val)) → Qd D H') :
    ∀ D, H1 D = none → ∃ W : Nat → Nat → Hp → Prop, (∃ m, W 0 m (upd H1 D (.lst []))) ∧ ∀ i m H, W i m H →
      (J.stop i H ∧ Qd D H) ∨ (J.go i H ∧ ∃ Nx : Hp → Prop, (∀ H', Nx H' → ∃ m', m' < m ∧ W (i + 1) m' H') ∧ ∀ x H', J.yld i H x H' → g x (wipe σ vs) H' fun σ2 H2 => wipe σ2 vs = wipe σ vs ∧ tt σ2 H2 fun b H3 =>
        if b = true then te σ2 H3 fun y H4 => ∃ acc, H4 D = some (.lst acc) ∧ acc.length < sizeLine ∧ Nx (upd H4 D (.lst (acc ++ [y]))) else Nx H3) := by
  intro D hD
  refine lc_it w (Qd := fun H => Qd D H) (fun i H => Same H1 H ∧ H D = some (.lst (((as.take i).filter kept).map val))) ⟨same_new hD, upd_same⟩ (fun i H _ h => hG H h.1) (fun i x H H' hi h y => ?_) (fun H h => ?_)
  · obtain ⟨s1, hl⟩ := h
    have ha : as[i]? = some as[i] := List.getElem?_eq_getElem hi
    refine hs i as[i] x H H' _ _ ha s1 y (fun hk H4 s4 => ⟨_, s4 _ _ hl, ?_, sm_mut (s1.trans s4) hD, ?_⟩) (fun hk H4 s4 => ⟨s1.trans s4, ?_⟩)
    · rw [List.length_map]
      refine Nat.lt_of_le_of_lt (List.length_filter_le _ _) ?_
      rw [List.length_take]
      omega
    · rw [upd_same, take_one ha, List.filter_append, List.filter_cons, if_pos hk, List.map_append]
      rfl
    · rw [s4 _ _ hl, take_one ha, List.filter_append, List.filter_cons, if_neg (by rw [hk]; decide)]
      show some (HO.lst _) = some (HO.lst (((as.take i).filter kept ++ []).map val))
      rw [List.append_nil]
  · obtain ⟨s1, hl⟩ := h
    rw [List.take_length] at hl
    exact hd D H hD s1 hl
/-- H without what stands at D -/
def del (H : Hp) (D : Addr) : Hp := fun b => if b = D then none else H b
theorem del_same {H H' : Hp} {D : Addr} (e : Same H H') (h : H D = none) : Same H (del H' D) := fun b o hb => by
  unfold del
  rw [if_neg (ne_of_none hb h)]
  exact e b o hb
theorem del_upd {H : Hp} {D : Addr} {o : HO} : Same (del H D) (upd H D o) := fun b u hb => by
  unfold del at hb
  split at hb
  · cases hb
  · rename_i hne
    rw [upd_ne hne]
    exact hb
theorem del_mono {H H' : Hp} {D : Addr} (e : Same H H') : Same (del H D) (del H' D) := fun b u hb => by
  unfold del at hb ⊢
  split at hb
  · cases hb
  · rename_i hne
    rw [if_neg hne]
    exact e b u hb
theorem del_le {H : Hp} {D : Addr} : Same (del H D) H := fun b u hb => by
  unfold del at hb
  split at hb
  · cases hb
  · exact hb
/-- new tuples of data that stands ahead -/
theorem lc_tups {K : PySem.W.Frag} (as : List α) (w : Walk J as.length G Y) (kept : α → Bool) (val : α → List PyData) (hn : as.length < sizeLine) (hG : ∀ H, Same H1 H → G H)
    (hs : ∀ i a x H H' (R1 : V → Hp → Prop) (R0 : Hp → Prop), as[i]? = some a → Same H1 H → Y i H x H' → (kept a = true → ∀ H4 p xs, Same H H4 → H p = none → H4 p = some (.tup xs) → DpAll K H1 xs (val a) → R1 (.ref p) H4) → (kept a = false → ∀ H4, Same H H4 → R0 H4) →
      g x (wipe σ vs) H' fun σ2 H2 => wipe σ2 vs = wipe σ vs ∧ tt σ2 H2 fun b H3 => if b = true then te σ2 H3 R1 else R0 H3)
    (hd : ∀ D H' ys, H1 D = none → Same H1 H' → H' D = some (.lst ys) → DpAll K (del H' D) ys ((as.filter kept).map fun a => .tuple (val a)) → Qd D H') :
    ∀ D, H1 D = none → ∃ W : Nat → Nat → Hp → Prop, (∃ m, W 0 m (upd H1 D (.lst []))) ∧ ∀ i m H, W i m H →
      (J.stop i H ∧ Qd D H) ∨ (J.go i H ∧ ∃ Nx : Hp → Prop, (∀ H', Nx H' → ∃ m', m' < m ∧ W (i + 1) m' H') ∧ ∀ x H', J.yld i H x H' → g x (wipe σ vs) H' fun σ2 H2 => wipe σ2 vs = wipe σ vs ∧ tt σ2 H2 fun b H3 =>
        if b = true then te σ2 H3 fun y H4 => ∃ acc, H4 D = some (.lst acc) ∧ acc.length < sizeLine ∧ Nx (upd H4 D (.lst (acc ++ [y]))) else Nx H3) := by
  intro D hD
  refine lc_it w (Qd := fun H => Qd D H) (fun i H => Same H1 H ∧ ∃ ys, H D = some (.lst ys) ∧ DpAll K (del H D) ys (((as.take i).filter kept).map fun a => .tuple (val a))) ⟨same_new hD, [], upd_same, .nil⟩ (fun i H _ h => hG H h.1) (fun i x H H' hi h y => ?_) (fun H h => ?_)
  · obtain ⟨s1, ys, hl, hy⟩ := h
    have ha : as[i]? = some as[i] := List.getElem?_eq_getElem hi
    refine hs i as[i] x H H' _ _ ha s1 y (fun hk H4 p xs s4 np hp hx => ⟨_, s4 _ _ hl, ?_, sm_mut (s1.trans s4) hD, _, upd_same, ?_⟩) (fun hk H4 s4 => ⟨s1.trans s4, ys, s4 _ _ hl, ?_⟩)
    · have hlen := DpAll.len hy
      rw [List.length_map] at hlen
      rw [hlen]
      refine Nat.lt_of_le_of_lt (List.length_filter_le _ _) ?_
      rw [List.length_take]
      omega
    · rw [take_one ha, List.filter_append, List.filter_cons, if_pos hk, List.map_append]
      have e1 : Same (del H D) (del (upd H4 D (.lst (ys ++ [V.ref p]))) D) := fun b u hb => by
        have hb2 := del_mono s4 b u hb
        unfold del at hb2 ⊢
        split at hb2
        · cases hb2
        · rename_i hne
          rw [if_neg hne, upd_ne hne]
          exact hb2
      have hpD : p ≠ D := fun e => by
        rw [e, hl] at np
        cases np
      refine DpAll.append (DpAll.mono e1 hy) (.cons (.tup (SqT.of ?_) (DpAll.mono ?_ hx)) .nil)
      · unfold del
        rw [if_neg hpD, upd_ne hpD]
        exact hp
      · exact fun b u hb => e1 b u (del_same s1 hD b u hb)
    · rw [take_one ha, List.filter_append, List.filter_cons, if_neg (by rw [hk]; decide)]
      show DpAll K _ _ (((as.take i).filter kept ++ []).map _)
      rw [List.append_nil]
      exact DpAll.mono (del_mono s4) hy
  · obtain ⟨s1, ys, hl, hy⟩ := h
    rw [List.take_length] at hy
    exact hd D H ys hD s1 hl hy
/-- item i is f of the i-th of as; the heap as it was -/
def YL {α : Type} (f : α → V) (as : List α) : Nat → Hp → V → Hp → Prop := fun i H x H' => H' = H ∧ ∃ b, as[i]? = some b ∧ x = f b
/-- a new pair of i and that -/
def YE {α : Type} (f : α → V) (as : List α) : Nat → Hp → V → Hp → Prop := fun i H x H' => ∃ T b, as[i]? = some b ∧ x = .ref T ∧ H T = none ∧ H' = upd H T (.tup [.int (i : Nat), f b])
theorem wk_list {K : PySem.W.Frag} {a : Addr} (f : α → V) (as : List α) : Walk (Itl K a) as.length (fun H => SqL K H a (as.map f)) (YL f as) := by
  have w := walk_list (K := K) (a := a) (xs := as.map f)
  rw [List.length_map] at w
  refine w.mono (fun _ h => h) fun i H x H' hi _ y => ?_
  obtain ⟨e, h⟩ := y
  rw [List.getElem?_map] at h
  cases q : as[i]? with
  | none => rw [q] at h; cases h
  | some b => rw [q] at h; exact ⟨e, b, q, (Option.some.inj h).symm⟩
theorem wk_tup {K : PySem.W.Frag} {a : Addr} (f : α → V) (as : List α) : Walk (Itt K a) as.length (fun H => SqT K H a (as.map f)) (YL f as) := by
  have w := walk_tup (K := K) (a := a) (xs := as.map f)
  rw [List.length_map] at w
  refine w.mono (fun _ h => h) fun i H x H' hi _ y => ?_
  obtain ⟨e, h⟩ := y
  rw [List.getElem?_map] at h
  cases q : as[i]? with
  | none => rw [q] at h; cases h
  | some b => rw [q] at h; exact ⟨e, b, q, (Option.some.inj h).symm⟩
theorem wk_str (z : Str) : Walk (Its z) z.cps.toList.length (fun _ => True) (YL (fun c => V.str ⟨#[c]⟩) z.cps.toList) := by
  have w := walk_str (z := z)
  rw [← Array.length_toList] at w
  refine w.mono (fun _ h => h) fun i H x H' hi _ y => ?_
  obtain ⟨e, c, h, q⟩ := y
  exact ⟨e, c, by rw [Array.getElem?_toList]; exact h, q⟩
theorem wk_rng (lo : Int) (n : Nat) : Walk (Itr lo n) (List.range n).length (fun _ => True) (YL (fun (i : Nat) => V.int (lo + i)) (List.range n)) := by
  have w := walk_range (lo := lo) (n := n)
  rw [← List.length_range (n := n)] at w
  rw [List.length_range] at w
  rw [List.length_range]
  refine w.mono (fun _ h => h) fun i H x H' hi _ y => ?_
  exact ⟨y.1, i, by rw [List.getElem?_range hi], y.2⟩
theorem wk_rng0 (n : Nat) : Walk (Itr 0 n) (List.range n).length (fun _ => True) (YL (fun (i : Nat) => V.int (i : Nat)) (List.range n)) :=
  (wk_rng 0 n).mono (fun _ h => h) fun i H x H' _ _ y => by
    obtain ⟨e, b, hb, q⟩ := y
    exact ⟨e, b, hb, by rw [q]; show V.int (0 + (b : Nat)) = _; rw [Int.zero_add]⟩
theorem wk_enum {K : PySem.W.Frag} {a : Addr} (f : α → V) (as : List α) : Walk (Ite K a) as.length (fun H => SqL K H a (as.map f)) (YE f as) := by
  have w := walk_enum (K := K) (a := a) (xs := as.map f)
  rw [List.length_map] at w
  refine w.mono (fun _ h => h) fun i H x H' hi _ y => ?_
  obtain ⟨T, x1, x2, h1, h2, h3, h4, h5⟩ := y
  have h4 : some (V.int (i : Nat)) = some x1 := h4
  have h5 : (as.map f)[i]? = some x2 := h5
  rw [List.getElem?_map] at h5
  cases q : as[i]? with
  | none => rw [q] at h5; cases h5
  | some b =>
    rw [q] at h5
    have e1 := Option.some.inj h4
    have e2 := Option.some.inj h5
    subst e1 e2
    exact ⟨T, b, q, h1, h2, h3⟩
/-- the same two, over f of the items of as -/
theorem lc_valsL {f : α → V} (as : List α) (w : Walk J as.length G (YL f as)) (kept : α → Bool) (val : α → V) (hn : as.length < sizeLine) (hG : ∀ H, Same H1 H → G H)
    (hs : ∀ (i : Nat) a H (R1 : V → Hp → Prop) (R0 : Hp → Prop), as[i]? = some a → Same H1 H → (kept a = true → ∀ H4, Same H H4 → R1 (val a) H4) → (kept a = false → ∀ H4, Same H H4 → R0 H4) →
      g (f a) (wipe σ vs) H fun σ2 H2 => wipe σ2 vs = wipe σ vs ∧ tt σ2 H2 fun b H3 => if b = true then te σ2 H3 R1 else R0 H3)
    (hd : ∀ D H', H1 D = none → Same H1 H' → H' D = some (.lst ((as.filter kept).map val)) → Qd D H') :
    ∀ D, H1 D = none → ∃ W : Nat → Nat → Hp → Prop, (∃ m, W 0 m (upd H1 D (.lst []))) ∧ ∀ i m H, W i m H →
      (J.stop i H ∧ Qd D H) ∨ (J.go i H ∧ ∃ Nx : Hp → Prop, (∀ H', Nx H' → ∃ m', m' < m ∧ W (i + 1) m' H') ∧ ∀ x H', J.yld i H x H' → g x (wipe σ vs) H' fun σ2 H2 => wipe σ2 vs = wipe σ vs ∧ tt σ2 H2 fun b H3 =>
        if b = true then te σ2 H3 fun y H4 => ∃ acc, H4 D = some (.lst acc) ∧ acc.length < sizeLine ∧ Nx (upd H4 D (.lst (acc ++ [y]))) else Nx H3) := by
  refine lc_vals as w kept val hn hG (fun i a x H H' R1 R0 ha s hy k1 k0 => ?_) hd
  obtain ⟨e, b, hb, q⟩ := hy
  rw [ha] at hb
  have e2 := Option.some.inj hb
  subst e e2 q
  exact hs i a _ R1 R0 ha s k1 k0
theorem lc_valsE {f : α → V} (as : List α) (w : Walk J as.length G (YE f as)) (kept : Nat × α → Bool) (val : Nat × α → V) (hn : as.length < sizeLine) (hG : ∀ H, Same H1 H → G H)
    (hs : ∀ (i : Nat) a T H (R1 : V → Hp → Prop) (R0 : Hp → Prop), as[i]? = some a → Same H1 H → H T = none → (kept (i, a) = true → ∀ H4, Same H H4 → R1 (val (i, a)) H4) → (kept (i, a) = false → ∀ H4, Same H H4 → R0 H4) →
      g (.ref T) (wipe σ vs) (upd H T (.tup [.int (i : Nat), f a])) fun σ2 H2 => wipe σ2 vs = wipe σ vs ∧ tt σ2 H2 fun b H3 => if b = true then te σ2 H3 R1 else R0 H3)
    (hd : ∀ D H', H1 D = none → Same H1 H' → H' D = some (.lst ((((List.range as.length).zip as).filter kept).map val)) → Qd D H') :
    ∀ D, H1 D = none → ∃ W : Nat → Nat → Hp → Prop, (∃ m, W 0 m (upd H1 D (.lst []))) ∧ ∀ i m H, W i m H →
      (J.stop i H ∧ Qd D H) ∨ (J.go i H ∧ ∃ Nx : Hp → Prop, (∀ H', Nx H' → ∃ m', m' < m ∧ W (i + 1) m' H') ∧ ∀ x H', J.yld i H x H' → g x (wipe σ vs) H' fun σ2 H2 => wipe σ2 vs = wipe σ vs ∧ tt σ2 H2 fun b H3 =>
        if b = true then te σ2 H3 fun y H4 => ∃ acc, H4 D = some (.lst acc) ∧ acc.length < sizeLine ∧ Nx (upd H4 D (.lst (acc ++ [y]))) else Nx H3) := by
  have hl : ((List.range as.length).zip as).length = as.length := by rw [List.length_zip, List.length_range]; omega
  refine lc_vals ((List.range as.length).zip as) (w := by rw [hl]; exact w) kept val (by rw [hl]; exact hn) hG (fun i a x H H' R1 R0 ha s hy k1 k0 => ?_) hd
  obtain ⟨T, b, hb, q, hT, e⟩ := hy
  have hi : i < as.length := (List.getElem?_eq_some_iff.mp hb).1
  have e2 : a = (i, b) := by
    rw [List.getElem?_zip_eq_some] at ha
    have e1 : (List.range as.length)[i]? = some i := List.getElem?_range hi
    rw [e1, hb] at ha
    exact Prod.ext (Option.some.inj ha.1).symm (Option.some.inj ha.2).symm
  subst e e2 q
  exact hs i b T H R1 R0 hb s hT k1 k0
theorem lc_tupsE {K : PySem.W.Frag} {f : α → V} (as : List α) (w : Walk J as.length G (YE f as)) (kept : Nat × α → Bool) (val : Nat × α → List PyData) (hn : as.length < sizeLine) (hG : ∀ H, Same H1 H → G H)
    (hs : ∀ (i : Nat) a T H (R1 : V → Hp → Prop) (R0 : Hp → Prop), as[i]? = some a → Same H1 H → H T = none → (kept (i, a) = true → ∀ H4 p xs, Same H H4 → H p = none → H4 p = some (.tup xs) → DpAll K H1 xs (val (i, a)) → R1 (.ref p) H4) → (kept (i, a) = false → ∀ H4, Same H H4 → R0 H4) →
      g (.ref T) (wipe σ vs) (upd H T (.tup [.int (i : Nat), f a])) fun σ2 H2 => wipe σ2 vs = wipe σ vs ∧ tt σ2 H2 fun b H3 => if b = true then te σ2 H3 R1 else R0 H3)
    (hd : ∀ D H' ys, H1 D = none → Same H1 H' → H' D = some (.lst ys) → DpAll K (del H' D) ys ((((List.range as.length).zip as).filter kept).map fun a => .tuple (val a)) → Qd D H') :
    ∀ D, H1 D = none → ∃ W : Nat → Nat → Hp → Prop, (∃ m, W 0 m (upd H1 D (.lst []))) ∧ ∀ i m H, W i m H →
      (J.stop i H ∧ Qd D H) ∨ (J.go i H ∧ ∃ Nx : Hp → Prop, (∀ H', Nx H' → ∃ m', m' < m ∧ W (i + 1) m' H') ∧ ∀ x H', J.yld i H x H' → g x (wipe σ vs) H' fun σ2 H2 => wipe σ2 vs = wipe σ vs ∧ tt σ2 H2 fun b H3 =>
        if b = true then te σ2 H3 fun y H4 => ∃ acc, H4 D = some (.lst acc) ∧ acc.length < sizeLine ∧ Nx (upd H4 D (.lst (acc ++ [y]))) else Nx H3) := by
  have hl : ((List.range as.length).zip as).length = as.length := by rw [List.length_zip, List.length_range]; omega
  refine lc_tups ((List.range as.length).zip as) (w := by rw [hl]; exact w) kept val (by rw [hl]; exact hn) hG (fun i a x H H' R1 R0 ha s hy k1 k0 => ?_) hd
  obtain ⟨T, b, hb, q, hT, e⟩ := hy
  have hi : i < as.length := (List.getElem?_eq_some_iff.mp hb).1
  have e2 : a = (i, b) := by
    rw [List.getElem?_zip_eq_some] at ha
    have e1 : (List.range as.length)[i]? = some i := List.getElem?_range hi
    rw [e1, hb] at ha
    exact Prod.ext (Option.some.inj ha.1).symm (Option.some.inj ha.2).symm
  subst e e2 q
  exact hs i b T H R1 R0 hb s hT k1 k0
theorem lc_tupsL {K : PySem.W.Frag} {f : α → V} (as : List α) (w : Walk J as.length G (YL f as)) (kept : α → Bool) (val : α → List PyData) (hn : as.length < sizeLine) (hG : ∀ H, Same H1 H → G H)
    (hs : ∀ (i : Nat) a H (R1 : V → Hp → Prop) (R0 : Hp → Prop), as[i]? = some a → Same H1 H → (kept a = true → ∀ H4 p xs, Same H H4 → H p = none → H4 p = some (.tup xs) → DpAll K H1 xs (val a) → R1 (.ref p) H4) → (kept a = false → ∀ H4, Same H H4 → R0 H4) →
      g (f a) (wipe σ vs) H fun σ2 H2 => wipe σ2 vs = wipe σ vs ∧ tt σ2 H2 fun b H3 => if b = true then te σ2 H3 R1 else R0 H3)
    (hd : ∀ D H' ys, H1 D = none → Same H1 H' → H' D = some (.lst ys) → DpAll K (del H' D) ys ((as.filter kept).map fun a => .tuple (val a)) → Qd D H') :
    ∀ D, H1 D = none → ∃ W : Nat → Nat → Hp → Prop, (∃ m, W 0 m (upd H1 D (.lst []))) ∧ ∀ i m H, W i m H →
      (J.stop i H ∧ Qd D H) ∨ (J.go i H ∧ ∃ Nx : Hp → Prop, (∀ H', Nx H' → ∃ m', m' < m ∧ W (i + 1) m' H') ∧ ∀ x H', J.yld i H x H' → g x (wipe σ vs) H' fun σ2 H2 => wipe σ2 vs = wipe σ vs ∧ tt σ2 H2 fun b H3 =>
        if b = true then te σ2 H3 fun y H4 => ∃ acc, H4 D = some (.lst acc) ∧ acc.length < sizeLine ∧ Nx (upd H4 D (.lst (acc ++ [y]))) else Nx H3) := by
  refine lc_tups as w kept val hn hG (fun i a x H H' R1 R0 ha s hy k1 k0 => ?_) hd
  obtain ⟨e, b, hb, q⟩ := hy
  rw [ha] at hb
  have e2 := Option.some.inj hb
  subst e e2 q
  exact hs i a _ R1 R0 ha s k1 k0
theorem bl_map {α : Type} (l : List α) (f : α → Bool) : l.map (fun a => V.bl (f a)) = (l.map f).map V.bl := by rw [List.map_map]; rfl
theorem str_map {α : Type} (l : List α) (f : α → Str) : l.map (fun a => V.str (f a)) = (l.map f).map V.str := by rw [List.map_map]; rfl
theorem int_map {α : Type} (l : List α) (f : α → Int) : l.map (fun a => V.int (f a)) = (l.map f).map V.int := by rw [List.map_map]; rfl
theorem filt_all {α : Type} (l : List α) : l.filter (fun _ => true) = l := List.filter_eq_self.mpr fun _ _ => rfl
theorem all_true {α : Type} (l : List α) : (l.map fun _ => true).all id = true := by
  rw [List.all_map]
  exact List.all_eq_true.mpr fun _ _ => rfl
end
/-! ### loops, told by what each turn does -/
/-- the ends of a loop's body -/
structure LoopTo (D' D : Ends) (M : L2.St → Hp → Prop) : Prop where
  nx : ∀ σ' H', M σ' H' → D'.nx σ' H'
  ct : ∀ σ' H', M σ' H' → D'.ct σ' H'
  rt : ∀ v H', D.rt v H' → D'.rt v H'
  bk : ∀ σ' H', D.nx σ' H' → D'.bk σ' H'
section
variable {α : Type} {J : It} {G : Hp → Prop} {g : TG} {tb : TS} {D : Ends} {σ : L2.St} {H : Hp}
theorem for_L {f : α → V} (as : List α) (w : Walk J as.length G (YL f as)) (Pv : Nat → L2.St → Hp → Prop) (h0 : Pv 0 σ H) (hG : ∀ i σ H, i ≤ as.length → Pv i σ H → G H)
    (hs : ∀ (i : Nat) a σ H (D' : Ends), LoopTo D' D (Pv (i + 1)) → as[i]? = some a → Pv i σ H → g (f a) σ H fun σ2 H2 => tb D' σ2 H2) (hd : ∀ σ H, Pv as.length σ H → D.nx σ H) :
    Door (∃ W : Nat → Nat → L2.St → Hp → Prop, (∃ m, W 0 m σ H) ∧ ∀ i m σ H, W i m σ H →
      (J.stop i H ∧ D.nx σ H) ∨ (J.go i H ∧ ∃ N : L2.St → Hp → Prop, (∀ σ' H', N σ' H' → ∃ m', m' < m ∧ W (i + 1) m' σ' H') ∧ ∀ x H', J.yld i H x H' → g x σ H' fun σ2 H2 => tb { D with nx := N, ct := N, bk := D.nx } σ2 H2)) := by
  refine Door.mk (for_it w Pv h0 hG (fun i x σ H H' hi hp hy => ?_) hd)
  obtain ⟨e, b, hb, q⟩ := hy
  subst e q
  exact hs i b σ _ _ ⟨fun _ _ h => h, fun _ _ h => h, fun _ _ h => h, fun _ _ h => h⟩ hb hp
theorem for_E {f : α → V} (as : List α) (w : Walk J as.length G (YE f as)) (Pv : Nat → L2.St → Hp → Prop) (h0 : Pv 0 σ H) (hG : ∀ i σ H, i ≤ as.length → Pv i σ H → G H)
    (hs : ∀ (i : Nat) a T σ H (D' : Ends), LoopTo D' D (Pv (i + 1)) → as[i]? = some a → Pv i σ H → H T = none → g (.ref T) σ (upd H T (.tup [.int (i : Nat), f a])) fun σ2 H2 => tb D' σ2 H2) (hd : ∀ σ H, Pv as.length σ H → D.nx σ H) :
    Door (∃ W : Nat → Nat → L2.St → Hp → Prop, (∃ m, W 0 m σ H) ∧ ∀ i m σ H, W i m σ H →
      (J.stop i H ∧ D.nx σ H) ∨ (J.go i H ∧ ∃ N : L2.St → Hp → Prop, (∀ σ' H', N σ' H' → ∃ m', m' < m ∧ W (i + 1) m' σ' H') ∧ ∀ x H', J.yld i H x H' → g x σ H' fun σ2 H2 => tb { D with nx := N, ct := N, bk := D.nx } σ2 H2)) := by
  refine Door.mk (for_it w Pv h0 hG (fun i x σ H H' hi hp hy => ?_) hd)
  obtain ⟨T, b, hb, q, hT, e⟩ := hy
  subst e q
  exact hs i b T σ H _ ⟨fun _ _ h => h, fun _ _ h => h, fun _ _ h => h, fun _ _ h => h⟩ hb hp hT
end
end Kf

set_option Elab.async false
set_option linter.all false
set_option maxRecDepth 100000
/-! C1: the layer's rules with the written part named (K), so that they may stand within a comprehension. -/
namespace Kf
open PySem PySem.Spec PyProof.Rows L2
section
variable {X : Cx} (K : PySem.W.Frag)
theorem ix_listK (h : X.K = K := by rfl) : IxR X (rIxL K) := by subst h; exact ix_list
theorem ix_tupK (h : X.K = K := by rfl) : IxR X (rIxT K) := by subst h; exact ix_tup
theorem sl_listK (h : X.K = K := by rfl) : SlR X (rSlL K) := by subst h; exact sl_list
theorem op_eqDK {k : Nat} (hr : Room k X.A) (h : X.K = K := by rfl) : OpR X (compareOp .Eq) (rEqD K) := by subst h; exact op_eqD hr.units
theorem op_neDK {k : Nat} (hr : Room k X.A) (h : X.K = K := by rfl) : OpR X (compareOp .NotEq) (rNeD K) := by subst h; exact op_neD hr.units
theorem op_inK (h : X.K = K := by rfl) : OpR X (compareOp .In) (rIn K false) := by subst h; exact op_in_seq
theorem op_ninK (h : X.K = K := by rfl) : OpR X (compareOp .NotIn) (rIn K true) := by subst h; exact op_notIn_seq
theorem op_catAK (h : X.K = K := by rfl) : OpR X (binaryOp .Add) (rCatA K) := by subst h; exact op_catA
theorem call_isiK1 (h : X.K = K := by rfl) : CallR X (.builtin "isinstance") (rIsi K) := by subst h; exact call_isi
theorem call_isiTK (h : X.K = K := by rfl) : CallR X (.builtin "isinstance") (rIsiT K) := by subst h; exact call_isiT
def rLenK : List V → Hp → VK → Prop := fun xs H Q => ∃ p ys, xs = [.ref p] ∧ (SqL K H p ys ∨ SqT K H p ys) ∧ Q (.int ys.length) H
theorem call_lenK (h : X.K = K := by rfl) : CallR X (.builtin "len") (rLenK K) := by subst h; exact call_len_seq
def rListK : List V → Hp → VK → Prop := fun xs H Q => ∃ p ys, xs = [.ref p] ∧ (SqL K H p ys ∨ SqT K H p ys) ∧ ∀ l, H l = none → Q (.ref l) (upd H l (.lst ys))
theorem call_listK (h : X.K = K := by rfl) : CallR X (.type "list") (rListK K) := by subst h; exact call_list_of
/-- tuple(a list) -/
def rTupleK : List V → Hp → VK → Prop := fun xs H Q => ∃ p ys, xs = [.ref p] ∧ SqL K H p ys ∧ ∀ l, H l = none → Q (.ref l) (upd H l (.tup ys))
theorem call_tupleK (h : X.K = K := by rfl) : CallR X (.type "tuple") (rTupleK K) := by
  subst h
  intro pins s σ H xs us Q I r hh
  obtain ⟨p, ys, e, hs, q⟩ := hh
  exact call_tuple_of pins s σ H xs us Q I r ⟨p, ys, e, .inl ⟨hs, q⟩⟩
theorem cr_sumK (hc : X.calm = true := by rfl) (h : X.K = K := by rfl) : CallR X (.builtin "sum") (rSum K) := by subst h; exact cr_sum hc
theorem cr_allK (hc : X.calm = true := by rfl) (h : X.K = K := by rfl) : CallR X (.builtin "all") (rAll K) := by subst h; exact cr_all hc
theorem cr_maxK (hc : X.calm = true := by rfl) (h : X.K = K := by rfl) : CallR X (.builtin "max") (rMax K) := by subst h; exact cr_max hc
theorem cr_minK1 (hc : X.calm = true := by rfl) (h : X.K = K := by rfl) : CallR X (.builtin "min") (rMin K) := by subst h; exact cr_min hc
theorem cr_sortedK (h : X.K = K := by rfl) : CallR X (.builtin "sorted") (rSorted K) := by subst h; exact cr_sorted
theorem cr_sortedSK (h : X.K = K := by rfl) : CallR X (.builtin "sorted") (rSortedS K) := by subst h; exact cr_sortedS
theorem mt_indexK (h : X.K = K := by rfl) : MtR X "list.index" (rIndex K) := by subst h; exact mt_index
section
variable {tg l : Expr} {tl : TE} {e e2 o value : Expr} {ta to tv te : TE} {t : TA} {p pos pos' tpos apos cpos : Pos} {elts : List Expr} {kk : Nat} {f : Str} {es : List Expr}
theorem pi_listK (hl : PE X l tl) (h : X.K = K := by rfl) : PI X tg l (iList K tl) := by subst h; exact pi_list hl
theorem pi_tupK (hl : PE X l tl) (h : X.K = K := by rfl) : PI X tg l (iTup K tl) := by subst h; exact pi_tup hl
theorem pi_enumK (hg : Gl X "enumerate") (hm : X.mg "enumerate" = none) (ha : PA X [e] t) (hs : starEach [e] X.env = [(false, eval e X.env)] := by rfl) (h : X.K = K := by rfl) :
    PI X (.Tuple elts kk tpos) (.Call (.Name "enumerate" p) [e] [] pos) (iEnum K t) := by subst h; exact pi_enum hg hm ha hs
theorem pi_zipK (hg : Gl X "zip") (hm : X.mg "zip" = none) (ha : PA X [e, e2] t)
    (hs : starEach [e, e2] X.env = (false, eval e X.env) :: starEach [e2] X.env := by rfl) (hpl : (backTo pos (starEach [e2] X.env)).any (·.1) = false := by rfl) (h : X.K = K := by rfl) :
    PI X (.Tuple elts kk tpos) (.Call (.Name "zip" p) [e, e2] [] pos) (iZip K t) := by subst h; exact pi_zip hg hm ha hs hpl
theorem pg_tupK {k : Nat} {u : TGs} (n : Nat) (hp : PGs X es u) (hc : X.calm = true := by rfl) (hn : (assignEach es X.env).length = n := by rfl) (hst : (assignEach es X.env).findIdx? (·.1) = none := by rfl) (h : X.K = K := by rfl) :
    PG X (.Tuple es k pos) (gTup K n u) := by subst h; exact pg_tup hc hp hn hst
theorem pe_fldK (he : PE X e ta) (hb : attributeBase e f X.env (eval e X.env) = eval e X.env := by rfl) (h : X.K = K := by rfl) : PE X (.Attribute e f pos) (tFld K ta f) := by subst h; exact pe_fld he hb
theorem ps_fldK (ha : PE X o ta) (hv : PE X value tv) (hs : swapsWith value (some (.Attribute o f pos')) pos.line X.env = pure false := by rfl) (h : X.K = K := by rfl) :
    PS X (.Assign [.Attribute o f pos'] value pos) (sFld K ta tv f) := by subst h; exact ps_fld ha hv hs
theorem ps_fldaugK {op : Operator} {rd : V → V → Hp → VK → Prop} (ha : PE X o ta) (hv : PE X value tv) (hop : InOp X op rd) (h : X.K = K := by rfl) : PS X (.AugAssign (.Attribute o f tpos) op value pos) (sFldAug K ta tv rd f) := by
  subst h; exact ps_fldaug ha hv hop
theorem pe_bmK {T id : String} {name : Str} {r : V → List V → Hp → VK → Prop} (pa : PlainAttrs T) (slot : Slot T name id) (hty : typeOf (.builtin id) = pure (.type "method_descriptor")) (hm : MtR X id r) (ho : PE X o to) (ha : PA X (e :: es) t)
    (hbase : attributeBase o name X.env (eval o X.env) = eval o X.env := by rfl)
    (hfew : ((backTo cpos (starEach (e :: es) X.env)).all (fun x => !x.1) && (backToKw cpos (keywordEach [] X.env)).all (fun x => x.1.isSome)
      && decide ((e :: es).length + ([] : List Keyword).length + (if ([] : List Keyword).isEmpty then 0 else 1) < 30)) = true := by rfl)
    (hline : (apos.endLine == cpos.line) = true := by rfl) (hs : starEach (e :: es) X.env = (false, eval e X.env) :: starEach es X.env := by rfl) (hplain : (backTo cpos (starEach es X.env)).any (·.1) = false := by rfl) (h : X.K = K := by rfl) :
    PE X (.Call (.Attribute o name apos) (e :: es) [] cpos) (tBM K T r to t) := by subst h; exact pe_bm pa slot hty hm ho ha hbase hfew hline hs hplain
theorem pe_bm0K {T id : String} {name : Str} {r : V → List V → Hp → VK → Prop} (pa : PlainAttrs T) (slot : Slot T name id) (hty : typeOf (.builtin id) = pure (.type "method_descriptor")) (hm : MtR X id r) (ho : PE X o to)
    (hbase : attributeBase o name X.env (eval o X.env) = eval o X.env := by rfl) (hline : (apos.endLine == cpos.line) = true := by rfl) (h : X.K = K := by rfl) :
    PE X (.Call (.Attribute o name apos) [] [] cpos) (tBM0 K T r to) := by subst h; exact pe_bm0 pa slot hty hm ho hbase hline
def tJoinK (to te : TE) : TE := tM1 (fun x xs H Q => ∃ a p, ∃ ys : List Str, x = .str a ∧ xs = [.ref p] ∧ (SqL K H p (ys.map V.str) ∨ SqT K H p (ys.map V.str)) ∧
      (ys.map (·.length)).sum + ys.length * a.length ≤ 16777216 ∧ Q (.str (Txt.join a ys)) H) to te
theorem pe_joinK (ho : PE X o to) (he : PE X e te) (hs : starEach [e] X.env = [(false, eval e X.env)] := by rfl) (hbase : attributeBase o "join" X.env (eval o X.env) = eval o X.env := by rfl) (hline : (apos.endLine == pos.line) = true := by rfl) (h : X.K = K := by rfl) :
    PE X (.Call (.Attribute o "join" apos) [e] [] pos) (tJoinK K to te) := by subst h; exact pe_join ho he hs hbase hline
def tTruK (ta : TE) : TT := fun σ H Q => ta σ H fun x H' => ∃ k, TruV K x H' k ∧ Q k H'
theorem pt_truthK {a : Expr} (ha : PE X a ta) (he : ∀ whole, isTrue a X.env whole = (do let v ← whole; standAt a.pos; holding [v] (truthy v)) := by intro _; rfl) (h : X.K = K := by rfl) : PT X a (tTruK K ta) := by
  subst h; exact pt_truth ha he
end
end

/-! ### a list of data that grows -/
section
variable {K : PySem.W.Frag} {H H2 : Hp} {p t : Addr} {ys xs : List V} {v : V} {ds : List PyData} {d : PyData}
theorem del_put {o : HO} : del (upd H p o) p = del H p := by
  funext b
  unfold del
  by_cases e : b = p
  · rw [if_pos e, if_pos e]
  · rw [if_neg e, if_neg e, upd_ne e]
theorem dps_app (s : Same H H2) (h : DpAll K (del H p) ys ds) (hv : Dp K (del H2 p) v d) : DpAll K (del (upd H2 p (.lst (ys ++ [v]))) p) (ys ++ [v]) (ds ++ [d]) := by
  rw [del_put]
  exact DpAll.append (DpAll.mono (del_mono s) h) (.cons hv .nil)
theorem dp_tup (h : H t = some (.tup xs)) (n : t ≠ p) (hx : DpAll K (del H p) xs ds) : Dp K (del H p) (.ref t) (.tuple ds) := by
  refine .tup (SqT.of ?_) hx
  unfold del
  rw [if_neg n]
  exact h
theorem dps_out (h : DpAll K (del H p) ys ds) : DpAll K H ys ds := DpAll.mono del_le h
end
/-! ### names; data that is compared -/
structure IsNm (x : Str) : Prop where
  lo : 1 ≤ x.length
  hi : x.length ≤ 8
  all : ∀ c ∈ x.cps.toList, 97 ≤ c ∧ c ≤ 122
theorem IsNm.ok {x : Str} (h : IsNm x) : PyData.strOk x = true := by
  unfold PyData.strOk
  rw [← Array.all_toList]
  exact List.all_eq_true.mpr fun c hc => decide_eq_true (by have := h.all c hc; omega)
/-- data that == reads, of depth at most k -/
structure Sh (k : Nat) (d : PyData) : Prop where
  lay : d.canLay0 = true
  dep : d.depth ≤ k
theorem Sh.mono {j k : Nat} {d : PyData} (h : Sh j d) (e : j ≤ k) : Sh k d := ⟨h.lay, Nat.le_trans h.dep e⟩
theorem Sh.int {k : Nat} (i : Int) : Sh k (.int i) := ⟨rfl, Nat.zero_le _⟩
theorem Sh.bool {k : Nat} (i : Bool) : Sh k (.bool i) := ⟨rfl, Nat.zero_le _⟩
theorem Sh.none {k : Nat} : Sh k .none := ⟨rfl, Nat.zero_le _⟩
theorem Sh.str {k : Nat} {x : Str} (h : PyData.strOk x = true) : Sh k (.str x) := ⟨by simp only [PyData.canLay0]; exact h, Nat.zero_le _⟩
theorem Sh.all {k : Nat} : ∀ {ds : List PyData}, (∀ d ∈ ds, Sh k d) → PyData.canLayAll0 ds = true ∧ PyData.depthAll ds ≤ k
  | [], _ => ⟨rfl, Nat.zero_le _⟩
  | d :: ds, h => by
    have h1 := h d (List.mem_cons_self)
    have h2 := Sh.all fun e he => h e (List.mem_cons_of_mem _ he)
    refine ⟨?_, ?_⟩
    · show (d.canLay0 && PyData.canLayAll0 ds) = true
      rw [h1.lay, h2.1]
      rfl
    · show max d.depth (PyData.depthAll ds) ≤ k
      exact Nat.max_le.mpr ⟨h1.dep, h2.2⟩
theorem Sh.list {k : Nat} {ds : List PyData} (h : ∀ d ∈ ds, Sh k d) : Sh (k + 1) (.list ds) := ⟨(Sh.all h).1, Nat.succ_le_succ (Sh.all h).2⟩
theorem Sh.tuple {k : Nat} {ds : List PyData} (h : ∀ d ∈ ds, Sh k d) : Sh (k + 1) (.tuple ds) := ⟨(Sh.all h).1, Nat.succ_le_succ (Sh.all h).2⟩
theorem Sh.strs {ws : List Str} (h : ∀ x ∈ ws, IsNm x) : Sh 1 (.list (ws.map .str)) := Sh.list (k := 0) fun d hd => by
  obtain ⟨x, hx, rfl⟩ := List.mem_map.mp hd
  exact Sh.str (h x hx).ok
theorem Sh.ints {ns : List Int} : Sh 1 (.list (ns.map .int)) := Sh.list (k := 0) fun d hd => by
  obtain ⟨x, hx, rfl⟩ := List.mem_map.mp hd
  exact Sh.int x
theorem Sh.bools {ns : List Bool} : Sh 1 (.list (ns.map .bool)) := Sh.list (k := 0) fun d hd => by
  obtain ⟨x, hx, rfl⟩ := List.mem_map.mp hd
  exact Sh.bool x
theorem Sh.nil : Sh 1 (.list []) := Sh.list (k := 0) fun d hd => by cases hd
theorem Sh.ed {k : Nat} {d : PyData} (h : Sh k d) (e : k ≤ 64 := by decide) : SeqAt.shaped d = true := by
  unfold SeqAt.shaped
  rw [h.lay, decide_eq_true (Nat.le_trans h.dep e)]
  rfl
theorem Sh.refl {k : Nat} {d : PyData} (h : Sh k d) : PyData.eqv d d = true := SeqAt.eqv_refl d h.lay
theorem eqv_nil (ds : List PyData) : PyData.eqv (.list ds) (.list []) = ds.isEmpty := by
  cases ds with
  | nil => rfl
  | cons d ds => rfl
/-! ### comprehensions over lists of data -/
theorem zip_snd {α β : Type} : ∀ {l : List α} {m : List β}, l.length = m.length → (l.zip m).map Prod.snd = m
  | [], [], _ => rfl
  | a :: l, b :: m, h => by rw [List.zip_cons_cons, List.map_cons, zip_snd (by simpa using h)]
theorem zip_filt_val {α β : Type} (p : α → Bool) (v : α → V) : ∀ {l : List α} {m : List β}, l.length = m.length → ((l.zip m).filter fun q => p q.1).map (fun q => v q.1) = (l.filter p).map v
  | [], [], _ => rfl
  | a :: l, b :: m, h => by
    have ih := zip_filt_val p v (l := l) (m := m) (by simpa using h)
    rw [List.zip_cons_cons]
    cases hp : p a with
    | true => rw [List.filter_cons, List.filter_cons, if_pos hp, if_pos hp, List.map_cons, List.map_cons, ih]
    | false => rw [List.filter_cons, List.filter_cons, if_neg (by rw [hp]; decide), if_neg (by rw [hp]; decide), ih]
theorem DpAll.zipf {K : PySem.W.Frag} {H : Hp} {α : Type} {g : α → PyData} {p : α → Bool} : ∀ {js : List α} {ys : List V}, DpAll K H ys (js.map g) → DpAll K H (((js.zip ys).filter fun q => p q.1).map Prod.snd) ((js.filter p).map g)
  | [], _, .nil => .nil
  | j :: js, _, .cons h r => by
    have ih := DpAll.zipf (p := p) r
    rw [List.zip_cons_cons]
    cases hp : p j with
    | true =>
      rw [List.filter_cons, List.filter_cons, if_pos hp, if_pos hp]
      exact .cons h ih
    | false =>
      rw [List.filter_cons, List.filter_cons, if_neg (by rw [hp]; decide), if_neg (by rw [hp]; decide)]
      exact ih
section
variable {α : Type} {K : PySem.W.Frag} {g : TG} {tt : TT} {te : TE} {vs : List Nat} {σ : L2.St} {H1 : Hp} {Qd : Addr → Hp → Prop} {gD : α → PyData} {zs : List V} {a : Addr}
theorem dp_at {ls : List α} (hz : DpAll K H1 zs (ls.map gD)) {i : Nat} {q : α × V} (h : (ls.zip zs)[i]? = some q) : ls[i]? = some q.1 ∧ zs[i]? = some q.2 ∧ Dp K H1 q.2 (gD q.1) := by
  obtain ⟨h1, h2⟩ := List.getElem?_zip_eq_some.mp h
  obtain ⟨v, hv, hd⟩ := DpAll.get (i := i) (d := gD q.1) hz (by rw [List.getElem?_map, h1]; rfl)
  rw [h2] at hv
  cases hv
  exact ⟨h1, h2, hd⟩
/-- over a list of data: plain values -/
theorem lc_dpv (ls : List α) (hz : DpAll K H1 zs (ls.map gD)) (ha : SqL K H1 a zs) (kept : α → Bool) (val : α → V) (hn : ls.length < sizeLine)
    (hs : ∀ (i : Nat) b v H (R1 : V → Hp → Prop) (R0 : Hp → Prop), ls[i]? = some b → Same H1 H → Dp K H v (gD b) → (kept b = true → ∀ H4, Same H H4 → R1 (val b) H4) → (kept b = false → ∀ H4, Same H H4 → R0 H4) →
      g v (wipe σ vs) H fun σ2 H2 => wipe σ2 vs = wipe σ vs ∧ tt σ2 H2 fun b H3 => if b = true then te σ2 H3 R1 else R0 H3)
    (hd : ∀ D H', H1 D = none → Same H1 H' → H' D = some (.lst ((ls.filter kept).map val)) → Qd D H') :
    ∀ D, H1 D = none → ∃ W : Nat → Nat → Hp → Prop, (∃ m, W 0 m (upd H1 D (.lst []))) ∧ ∀ i m H, W i m H →
      ((Itl K a).stop i H ∧ Qd D H) ∨ ((Itl K a).go i H ∧ ∃ Nx : Hp → Prop, (∀ H', Nx H' → ∃ m', m' < m ∧ W (i + 1) m' H') ∧ ∀ x H', (Itl K a).yld i H x H' → g x (wipe σ vs) H' fun σ2 H2 => wipe σ2 vs = wipe σ vs ∧ tt σ2 H2 fun b H3 =>
        if b = true then te σ2 H3 fun y H4 => ∃ acc, H4 D = some (.lst acc) ∧ acc.length < sizeLine ∧ Nx (upd H4 D (.lst (acc ++ [y]))) else Nx H3) := by
  have hlen : ls.length = zs.length := by rw [DpAll.len hz, List.length_map]
  have hzl : (ls.zip zs).length = ls.length := by rw [List.length_zip]; omega
  refine lc_valsL (f := Prod.snd) (ls.zip zs) (wk_list _ _) (fun q => kept q.1) (fun q => val q.1) (by rw [hzl]; exact hn) (fun H s => by rw [zip_snd hlen]; exact s.seq ha) (fun i q H R1 R0 hq s k1 k0 => ?_) (fun D H' h1 h2 h3 => ?_)
  · obtain ⟨e1, e2, e3⟩ := dp_at hz hq
    exact hs i q.1 q.2 H R1 R0 e1 s (Dp.mono s e3) k1 k0
  · rw [zip_filt_val kept val hlen] at h3
    exact hd D H' h1 h2 h3
/-- over a list of data: the kept items -/
theorem lc_dpi (ls : List α) (hz : DpAll K H1 zs (ls.map gD)) (ha : SqL K H1 a zs) (kept : α → Bool) (hn : ls.length < sizeLine)
    (hs : ∀ (i : Nat) b v H (R1 : V → Hp → Prop) (R0 : Hp → Prop), ls[i]? = some b → Same H1 H → Dp K H v (gD b) → (kept b = true → ∀ H4, Same H H4 → R1 v H4) → (kept b = false → ∀ H4, Same H H4 → R0 H4) →
      g v (wipe σ vs) H fun σ2 H2 => wipe σ2 vs = wipe σ vs ∧ tt σ2 H2 fun b H3 => if b = true then te σ2 H3 R1 else R0 H3)
    (hd : ∀ D H' ys, H1 D = none → Same H1 H' → H' D = some (.lst ys) → DpAll K H1 ys ((ls.filter kept).map gD) → Qd D H') :
    ∀ D, H1 D = none → ∃ W : Nat → Nat → Hp → Prop, (∃ m, W 0 m (upd H1 D (.lst []))) ∧ ∀ i m H, W i m H →
      ((Itl K a).stop i H ∧ Qd D H) ∨ ((Itl K a).go i H ∧ ∃ Nx : Hp → Prop, (∀ H', Nx H' → ∃ m', m' < m ∧ W (i + 1) m' H') ∧ ∀ x H', (Itl K a).yld i H x H' → g x (wipe σ vs) H' fun σ2 H2 => wipe σ2 vs = wipe σ vs ∧ tt σ2 H2 fun b H3 =>
        if b = true then te σ2 H3 fun y H4 => ∃ acc, H4 D = some (.lst acc) ∧ acc.length < sizeLine ∧ Nx (upd H4 D (.lst (acc ++ [y]))) else Nx H3) := by
  have hlen : ls.length = zs.length := by rw [DpAll.len hz, List.length_map]
  have hzl : (ls.zip zs).length = ls.length := by rw [List.length_zip]; omega
  refine lc_valsL (f := Prod.snd) (ls.zip zs) (wk_list _ _) (fun q => kept q.1) Prod.snd (by rw [hzl]; exact hn) (fun H s => by rw [zip_snd hlen]; exact s.seq ha) (fun i q H R1 R0 hq s k1 k0 => ?_) (fun D H' h1 h2 h3 => ?_)
  · obtain ⟨e1, e2, e3⟩ := dp_at hz hq
    exact hs i q.1 q.2 H R1 R0 e1 s (Dp.mono s e3) k1 k0
  · exact hd D H' _ h1 h2 h3 (DpAll.zipf (p := kept) hz)
end
theorem str_dec {x y : Str} : decide (V.str x = V.str y) = decide (some x = some y) := by
  by_cases e : x = y
  · rw [decide_eq_true (by rw [e]), decide_eq_true (by rw [e])]
  · rw [decide_eq_false (fun q => e (V.str.inj q)), decide_eq_false (fun q => e (Option.some.inj q))]
theorem cut_init (xs : List V) : cutV xs none (some (-1)) = xs.dropLast := by
  unfold cutV
  show (xs.drop 0).take (((-1 : Int) + (xs.length : Int)).toNat - 0) = _
  rw [List.drop_zero, List.dropLast_eq_take]
  congr 1
  omega
theorem tyx_tup {K : PySem.W.Frag} {H : Hp} {a : Addr} {xs : List V} (h : SqT K H a xs) : TyX K H (.ref a) (.type "tuple") := by
  rcases h with (h | ⟨o, h⟩) | ⟨o, its, n, h, c, _⟩
  · exact .base (.tup h)
  · exact .fTuple h
  · exact .kTuple h c
end Kf

/-! M0: plain lists: the last wish of a thing ahead of a place. -/
namespace Kf
section
variable {α : Type} [DecidableEq α]
/-- the greatest j < i with ws[j] = x -/
def lastIx (ws : List α) (x : α) : Nat → Option Nat
  | 0 => none
  | i + 1 => if ws[i]? = some x then some i else lastIx ws x i
theorem lastIx_succ (ws : List α) (x : α) (i : Nat) : lastIx ws x (i + 1) = if ws[i]? = some x then some i else lastIx ws x i := rfl
theorem lastIx_some {ws : List α} {x : α} : ∀ {i j : Nat}, lastIx ws x i = some j → j < i ∧ ws[j]? = some x ∧ ∀ k, j < k → k < i → ws[k]? ≠ some x
  | 0, j, h => by cases h
  | i + 1, j, h => by
    unfold lastIx at h
    split at h
    · rename_i hx
      have e := Option.some.inj h
      subst e
      exact ⟨by omega, hx, fun k h1 h2 => by omega⟩
    · rename_i hx
      obtain ⟨h1, h2, h3⟩ := lastIx_some h
      refine ⟨by omega, h2, fun k hk1 hk2 => ?_⟩
      by_cases e : k = i
      · subst e; exact hx
      · exact h3 k hk1 (by omega)
theorem lastIx_none {ws : List α} {x : α} : ∀ {i : Nat}, lastIx ws x i = none → ∀ k, k < i → ws[k]? ≠ some x
  | 0, _, k, hk => by omega
  | i + 1, h, k, hk => by
    unfold lastIx at h
    split at h
    · cases h
    · rename_i hx
      by_cases e : k = i
      · subst e; exact hx
      · exact lastIx_none h k (by omega)
theorem lastIx_of {ws : List α} {x : α} {i j : Nat} (h1 : j < i) (h2 : ws[j]? = some x) (h3 : ∀ k, j < k → k < i → ws[k]? ≠ some x) : lastIx ws x i = some j := by
  cases e : lastIx ws x i with
  | none => exact absurd h2 (lastIx_none e j h1)
  | some k =>
    obtain ⟨q1, q2, q3⟩ := lastIx_some e
    by_cases a : k < j
    · exact absurd h2 (q3 j a h1)
    · by_cases b : j < k
      · exact absurd q2 (h3 k b q1)
      · have : k = j := by omega
        rw [this]
/-- the last wish of the same thing ahead of wish i -/
def lastAt (ws : List α) (i : Nat) : Option Nat := ws[i]?.bind fun x => lastIx ws x i
theorem lastAt_of {ws : List α} {i : Nat} {x : α} (h : ws[i]? = some x) : lastAt ws i = lastIx ws x i := by
  unfold lastAt
  rw [h]
  rfl
/-- the wishes of the same thing ahead of wish j -/
def aheads (ws : List α) (j : Nat) : List Nat := (List.range j).filter fun k => decide (ws[k]? = ws[j]?)
theorem filt_last {p : Nat → Bool} : ∀ n : Nat, ((List.range n).filter p).getLast? = none ∧ (∀ k, k < n → p k = false) ∨ ∃ k, ((List.range n).filter p).getLast? = some k ∧ k < n ∧ p k = true ∧ ∀ m, k < m → m < n → p m = false
  | 0 => .inl ⟨rfl, fun k hk => by omega⟩
  | n + 1 => by
    rw [List.range_succ, List.filter_append]
    cases hp : p n with
    | true =>
      refine .inr ⟨n, ?_, by omega, hp, fun m h1 h2 => by omega⟩
      rw [List.filter_cons, if_pos hp]
      simp
    | false =>
      rw [List.filter_cons, if_neg (by rw [hp]; decide)]
      simp only [List.filter_nil, List.append_nil]
      rcases filt_last (p := p) n with ⟨h1, h2⟩ | ⟨k, h1, h2, h3, h4⟩
      · refine .inl ⟨h1, fun k hk => ?_⟩
        by_cases e : k = n
        · rw [e]; exact hp
        · exact h2 k (by omega)
      · refine .inr ⟨k, h1, by omega, h3, fun m hm1 hm2 => ?_⟩
        by_cases e : m = n
        · rw [e]; exact hp
        · exact h4 m hm1 (by omega)
theorem aheads_last {ws : List α} {j : Nat} {x : α} (h : ws[j]? = some x) : (aheads ws j).getLast? = lastAt ws j := by
  rw [lastAt_of h]
  rcases filt_last (p := fun k => decide (ws[k]? = ws[j]?)) j with ⟨h1, h2⟩ | ⟨k, h1, h2, h3, h4⟩
  · unfold aheads
    rw [h1]
    cases e : lastIx ws x j with
    | none => rfl
    | some k =>
      obtain ⟨q1, q2, _⟩ := lastIx_some e
      have := h2 k q1
      rw [h, q2] at this
      simp at this
  · unfold aheads
    rw [h1]
    have h3 := of_decide_eq_true h3
    rw [h] at h3
    refine (lastIx_of h2 h3 fun m hm1 hm2 => ?_).symm
    have := of_decide_eq_false (h4 m hm1 hm2)
    rw [h] at this
    exact this
/-- the later wishes of x, of the first n -/
def laters (ws : List α) (x : α) (n : Nat) : List Nat := ((List.range n).filter fun j => (lastAt ws j).isSome).filter fun j => decide (ws[j]? = some x)
theorem laters_succ (ws : List α) (x : α) (n : Nat) : laters ws x (n + 1) = laters ws x n ++ (if (lastAt ws n).isSome = true ∧ ws[n]? = some x then [n] else []) := by
  unfold laters
  rw [List.range_succ, List.filter_append, List.filter_append]
  congr 1
  cases h : (lastAt ws n).isSome with
  | false => rw [List.filter_cons, if_neg (by rw [h]; decide)]; simp
  | true =>
    rw [List.filter_cons, if_pos h]
    by_cases e : ws[n]? = some x
    · rw [if_pos ⟨rfl, e⟩]; simp [e]
    · rw [if_neg (fun q => e q.2)]; simp [e]
theorem laters_law (ws : List α) (x : α) : ∀ n : Nat, ((∀ k, k < n → ws[k]? ≠ some x) ∧ laters ws x n = [] ∧ lastIx ws x n = none) ∨
    ∃ f, ws[f]? = some x ∧ f < n ∧ (∀ k, k < f → ws[k]? ≠ some x) ∧ (laters ws x n).map (lastAt ws) = ((f :: laters ws x n).dropLast).map some ∧ lastIx ws x n = (f :: laters ws x n).getLast?
  | 0 => .inl ⟨fun k hk => by omega, rfl, rfl⟩
  | n + 1 => by
    rw [laters_succ, lastIx_succ]
    by_cases hx : ws[n]? = some x
    · rw [if_pos hx, lastAt_of hx]
      rcases laters_law ws x n with ⟨h1, h2, h3⟩ | ⟨f, h1, h2, h3, h4, h5⟩
      · refine .inr ⟨n, hx, by omega, h1, ?_, ?_⟩
        · rw [h2, h3, if_neg (by simp)]
          rfl
        · rw [h2, h3, if_neg (by simp)]
          rfl
      · refine .inr ⟨f, h1, by omega, h3, ?_, ?_⟩
        · have hs : (lastIx ws x n).isSome = true := by rw [h5]; simp
          rw [if_pos ⟨hs, hx⟩, List.map_append, h4]
          have e : (f :: (laters ws x n ++ [n])).dropLast = f :: laters ws x n := by
            rw [← List.cons_append, List.dropLast_concat]
          rw [e, List.map_cons, List.map_nil, lastAt_of hx, h5]
          have e2 : f :: laters ws x n = (f :: laters ws x n).dropLast ++ [(f :: laters ws x n).getLast (by simp)] := (List.dropLast_concat_getLast _).symm
          conv => rhs; rw [e2]
          rw [List.map_append, List.getLast?_eq_getLast (by simp)]
          rfl
        · have hs : (lastIx ws x n).isSome = true := by rw [h5]; simp
          rw [if_pos ⟨hs, hx⟩, ← List.cons_append, List.getLast?_concat]
    · rw [if_neg hx, if_neg (fun q => hx q.2), List.append_nil]
      rcases laters_law ws x n with ⟨h1, h2, h3⟩ | ⟨f, h1, h2, h3, h4, h5⟩
      · refine .inl ⟨fun k hk => ?_, h2, h3⟩
        by_cases e : k = n
        · rw [e]; exact hx
        · exact h1 k (by omega)
      · exact .inr ⟨f, h1, by omega, h3, h4, h5⟩
end
end Kf

namespace Kf
open PySem L2
def topS (i : Nat) : Stmt := PySem.Challenge.pw_keepfew_k10_stretches.main.body.getD i (.Pass ⟨0, 0, 0, 0⟩)
abbrev s_is_name : Stmt := topS 7
abbrev s_need_wishes : Stmt := topS 8
abbrev s_last_wishes : Stmt := topS 9
abbrev s_stretches : Stmt := topS 11
abbrev s__law_mixed : Stmt := topS 13
abbrev s__law_names : Stmt := topS 14
abbrev s__law_drawn : Stmt := topS 15
abbrev s__law_places : Stmt := topS 16
abbrev s__law_stretches : Stmt := topS 17
abbrev s_law : Stmt := topS 18
theorem sc_is_name : FnScope ["thing", "sign"] ["thing"] (defScope s_is_name) := ⟨rfl, rfl, rfl, by decide +kernel, rfl, by decide +kernel, by decide +kernel⟩
theorem sc_need_wishes : FnScope ["wishes", "name"] ["wishes"] (defScope s_need_wishes) := ⟨rfl, rfl, rfl, by decide +kernel, rfl, by decide +kernel, by decide +kernel⟩
theorem sc_last_wishes : FnScope ["wishes", "known", "found", "number", "name"] ["wishes"] (defScope s_last_wishes) := ⟨rfl, rfl, rfl, by decide +kernel, rfl, by decide +kernel, by decide +kernel⟩
theorem sc_stretches : FnScope ["wishes", "number", "last"] ["wishes"] (defScope s_stretches) := ⟨rfl, rfl, rfl, by decide +kernel, rfl, by decide +kernel, by decide +kernel⟩
theorem sc__law_mixed : FnScope ["_law_cell", "_law_k", "_law_number"] ["_law_cell", "_law_k"] (defScope s__law_mixed) := ⟨rfl, rfl, rfl, by decide +kernel, rfl, by decide +kernel, by decide +kernel⟩
theorem sc__law_names : FnScope ["_law_number", "_law_many", "_law_letters", "_law_size", "_law_row", "_law_j", "_law_k", "_law_at", "_law_signs", "_law_sign"] ["_law_number", "_law_many"] (defScope s__law_names) := ⟨rfl, rfl, rfl, by decide +kernel, rfl, by decide +kernel, by decide +kernel⟩
theorem sc__law_drawn : FnScope ["_law_script", "_law_most", "_law_number", "_law_cell", "_law_many", "_law_names_here", "_law_found", "_law_k", "_law_more", "_law_some"] ["_law_script", "_law_most"] (defScope s__law_drawn) := ⟨rfl, rfl, rfl, by decide +kernel, rfl, by decide +kernel, by decide +kernel⟩
theorem sc__law_places : FnScope ["_law_script", "_law_k", "_law_number", "_law_cell"] ["_law_script", "_law_k"] (defScope s__law_places) := ⟨rfl, rfl, rfl, by decide +kernel, rfl, by decide +kernel, by decide +kernel⟩
theorem sc__law_stretches : FnScope ["_law_wishes", "_law_found", "_law_later", "_law_ahead", "_law_k"] ["_law_wishes"] (defScope s__law_stretches) := ⟨rfl, rfl, rfl, by decide +kernel, rfl, by decide +kernel, by decide +kernel⟩
theorem sc_law : FnScope ["_law_script", "_law_names_here", "_law_wishes", "_law_due", "_law_handed", "_law_turn", "_law_found", "_law_pair", "_law_name", "_law_some", "_law_begins"] ["_law_script"] (defScope s_law) := ⟨rfl, rfl, rfl, by decide +kernel, rfl, by decide +kernel, by decide +kernel⟩
end Kf

/-! local words of the walk: steps through a reading -/
local macro_rules | `(tactic| walk_at "same") => `(tactic| first
  | assumption
  | exact L2.Same.refl _
  | (apply Kf.sm_ext; assumption; walk_at "same")
  | (apply Kf.sm_mu; assumption; walk_at "same")
  | (apply Kf.sm_mu; (apply L2.Same.free; rotate_left; assumption; assumption); walk_at "same")
  | (apply Kf.sm_tr; assumption; walk_at "same"))
local macro_rules | `(tactic| walk_at "fr") => `(tactic| first
  | assumption
  | (apply L2.Same.free; rotate_left; assumption; walk_at "same"))
local macro_rules | `(tactic| walk_at "hp") => `(tactic| first
  | assumption
  | exact L2.upd_same
  | (apply Kf.upd_old; assumption; walk_at "hp")
  | (apply Kf.upd_far; assumption; walk_at "hp")
  | (apply Kf.sm_get; rotate_left; assumption; walk_at "same")
  | (apply Kf.sm_get; assumption; walk_at "hp"))
local macro_rules | `(tactic| walk_at "sq") => `(tactic| first
  | assumption
  | exact L2.SqL.of (by walk_at "hp")
  | exact L2.SqT.of (by walk_at "hp")
  | (apply L2.Same.seq; rotate_left; assumption; walk_at "same")
  | (apply Kf.sm_tup; rotate_left; assumption; walk_at "same"))
local macro_rules | `(tactic| walk_at "kind") => `(tactic| first
  | exact L2.ClsV.ty _
  | exact L2.ClsV.own _
  | exact L2.TyX.base (L2.TyOf.str _)
  | exact L2.TyX.base (L2.TyOf.int _)
  | exact L2.TyX.base (L2.TyOf.bl _)
  | exact L2.TyX.base L2.TyOf.non
  | exact L2.TyX.base (L2.TyOf.lst (by walk_at "hp"))
  | exact L2.TyX.base (L2.TyOf.tup (by walk_at "hp"))
  | exact L2.kit_ty (r := true) (by decide +kernel)
  | exact L2.kit_ty (r := false) (by decide +kernel))
local macro_rules | `(tactic| walk_at "bool") => `(tactic| first
  | with_reducible rfl
  | assumption
  | (with_reducible refine Kf.not_f ?_; walk_at "bool")
  | (with_reducible refine Kf.not_t ?_; walk_at "bool")
  | exact decide_eq_true (by first | assumption | omega)
  | exact decide_eq_false (by first | assumption | omega)
  | rfl)
local macro_rules | `(tactic| walk_at "dict") => `(tactic| first
  | exact L2.DGet.k (k := Sum.inr _) (by walk_at "hp")
  | exact L2.DGet.k (k := Sum.inl _) (by walk_at "hp")
  | exact L2.DPut.k (k := Sum.inr _) (by walk_at "hp") (Kf.size_of_lt (by omega))
  | exact L2.DPut.k (k := Sum.inl _) (by walk_at "hp") (Kf.size_of_lt (by omega))
  | exact Or.inl ⟨_, Or.inl (by walk_at "hp")⟩
  | fail)
local macro_rules | `(tactic| walk_at "dp") => `(tactic| first
  | assumption
  | exact L2.Dp.int _
  | exact L2.Dp.bl _
  | exact L2.Dp.str _
  | exact L2.Dp.non
  | exact L2.Dp.lst (by walk_at "sq") Kf.dp_strs
  | exact L2.Dp.lst (by walk_at "sq") Kf.dp_ints
  | exact L2.Dp.lst (by walk_at "sq") Kf.dp_bls
  | exact L2.Dp.lst (by walk_at "sq") (by walk_at "dps")
  | exact L2.Dp.tup (by walk_at "sq") (by walk_at "dps")
  | (apply Kf.Dp.mono; rotate_left; assumption; walk_at "same"))
local macro_rules | `(tactic| walk_at "dps") => `(tactic| first
  | assumption
  | exact L2.DpAll.nil
  | (apply L2.DpAll.cons; focus (walk_at "dp"); walk_at "dps")
  | (apply Kf.DpAll.mono; rotate_left; assumption; walk_at "same"))
local macro_rules | `(tactic| walk_at "sh") => `(tactic| first
  | assumption
  | exact Kf.Sh.ed (by assumption)
  | exact Kf.Sh.ed Kf.Sh.nil
  | exact Kf.Sh.ed Kf.Sh.ints
  | exact Kf.Sh.ed Kf.Sh.bools
  | exact Kf.Sh.ed (Kf.Sh.strs (by assumption)))
local macro_rules | `(tactic| walk_at "leaf") => `(tactic| first
  | with_reducible rfl
  | assumption
  | rfl
  | walk_at "sq"
  | walk_at "hp"
  | walk_at "same"
  | exact ⟨_, rfl⟩
  | exact ⟨_, by walk_at "sq"⟩
  | exact Or.inl ⟨rfl, _, by walk_at "sq"⟩
  | exact Or.inl (by walk_at "sq")
  | exact Or.inr (by walk_at "sq")
  | omega
  | exact Or.inl ⟨by omega, by omega⟩
  | exact Or.inr ⟨by omega, by omega⟩
  | exact ⟨by omega, by omega⟩
  | exact Kf.size_of_le (by omega)
  | exact Kf.size_of_lt (by omega)
  | exact Kf.size_of_le (by simp only [List.length_nil, List.length_cons, List.length_append, List.length_map]; omega)
  | exact Kf.size_of_lt (by simp only [List.length_nil, List.length_cons, List.length_append, List.length_map]; omega)
  | walk_at "kind"
  | walk_at "dict"
  | walk_at "dp"
  | walk_at "sh"
  | walk_at "fr")
local macro_rules | `(tactic| walk_at "go") => `(tactic| repeat first
  | (apply Exists.intro)
  | (refine And.intro ?_ ?_; focus (walk_at "leaf"; done))
  | (with_reducible refine L2.iteT ?_)
  | (with_reducible refine L2.iteF ?_)
  | (refine Kf.ite_t (by walk_at "bool") ?_)
  | (refine Kf.ite_f (by walk_at "bool") ?_))

namespace Kf
open PySem PySem.Spec PyProof.Rows L2
/-! ### names and wishes -/
abbrev Lett : Str := "abcdefghijklmnopqrstuvwxyz"
theorem lett_mem {c : Nat} (h0 : 97 ≤ c) (h1 : c ≤ 122) : c ∈ Lett.cps.toList := by
  have : ∀ k : Nat, k < 26 → (97 + k) ∈ Lett.cps.toList := by decide +kernel
  have q := this (c - 97) (by omega)
  rwa [show 97 + (c - 97) = c by omega] at q
def sp_is_name : Sp := fun vs H Q _ => ∃ x : Str, vs = [.str x] ∧ IsNm x ∧ ∀ H', Same H H' → Q (.bl true) H'
/-- wishes: a list of names at a -/
def spW (K : PySem.W.Frag) (vs : List V) (H : Hp) (ws : List Str) : Prop := ∃ a, vs = [.ref a] ∧ SqL K H a (ws.map V.str) ∧ ws.length ≤ 300 ∧ ∀ x ∈ ws, IsNm x
def sp_need_wishes (K : PySem.W.Frag) : Sp := fun vs H Q _ => ∃ (a : Addr) (ws : List Str), vs = [.ref a] ∧ H a = some (.lst (ws.map V.str)) ∧ (ws.length ≤ 300 ∧ ∀ x ∈ ws, IsNm x) ∧ ∀ H', Same H H' → Q .non H'
section
variable {P : Program} {w : World} {K : PySem.W.Frag} {mg : Str → Option Value} {base : Heap}
theorem cal_is_name (F : FunG K mg "is_name" s_is_name) (B : BN mg) (g_LETTERS : GStr mg "LETTERS" Lett) (g_MOST_LETTERS : GInt mg "MOST_LETTERS" 8) : Cal P w K mg base "is_name" 1 ["thing"] sp_is_name := by
  obtain ⟨f, fd, F, hm⟩ := F
  refine ⟨f, fd, F.ok sc_is_name (fun vs H Q E h => ?_) (fun cdv A outer s H vs Q E hr h => ?_), hm, F.kp, F.binds fun _ _ _ _ _ _ us hl => match us, hl with | [_], _ => rfl⟩
  · obtain ⟨x, rfl, _⟩ := h
    rfl
  · obtain ⟨x, rfl, hx, q⟩ := h
    refine ⟨_, (pss_cons (ps_if (PW.pt (pw_or (pt_not (pt_val (pe_callB (call_isiK1 K) (by rfl) B.isinstance bt_isinstance (pa_cons (pv 0) (pa_cons (pe_bltn (v := .ty "str") (by rfl) B.str bt_str rfl) pa_nil))))) (pw_or1 (pt_not (pt_chain op_le op_le pe_int (pe_callB call_len_str (by rfl) B.len bt_len (pa_cons (pv 0) pa_nil)) (pe_gint rfl g_MOST_LETTERS))))))
  (pss_one (ps_ret pe_bl))
  pss_nil)
  (pss_one (ps_ret (pe_callB (cr_allK K) (by rfl) B.all bt_all (pa_cons (pe_lc (own := [("sign", 1)]) rfl sc_is_name.nd (pi_str (pv 0))
  (blkOk_by (by kernel_rfl)) (fun _ _ _ _ _ => (pg_name (i := 1) sc_is_name.nd rfl (by first | exact Or.inl rfl | exact Or.inr rfl))) (fun _ _ _ _ _ => pts_nil) (fun _ _ _ _ _ => (pe_cmpR op_in_sign (pv 1) (pe_gstr rfl g_LETTERS) (by rfl)))) pa_nil))))), ?_⟩
    have l1 := hx.lo
    have l2 := hx.hi
    walk_at "go"
    refine lc_valsL x.cps.toList (wk_str x) (fun _ => true) (fun _ => .bl true) (by rw [Array.length_toList]; exact size_of_lt (show x.length ≤ 1000000 by omega)) (fun _ _ => trivial) ?_ ?_
    · intro i c H2 R1 R0 ha s2 k1 k0
      walk_at "go"
      rw [decide_eq_true (lett_mem (hx.all c (List.mem_of_getElem? ha)).1 (hx.all c (List.mem_of_getElem? ha)).2)]
      exact k1 rfl _ (Same.refl _)
    · intro D H2 hD s2 h2
      rw [filt_all, bl_map] at h2
      walk_at "go"
      rw [all_true]
      exact q _ s2
theorem cal_need_wishes (F : FunG K mg "need_wishes" s_need_wishes) (B : BN mg) (g_MOST_WISHES : GInt mg "MOST_WISHES" 300) (C_is_name : Cal P w K mg base "is_name" 1 ["thing"] sp_is_name) : Cal P w K mg base "need_wishes" 2 ["wishes"] (sp_need_wishes K) := by
  obtain ⟨f, fd, F, hm⟩ := F
  refine ⟨f, fd, F.ok sc_need_wishes (fun vs H Q E h => ?_) (fun cdv A outer s H vs Q E hr h => ?_), hm, F.kp, F.binds fun _ _ _ _ _ _ us hl => match us, hl with | [_], _ => rfl⟩
  · obtain ⟨a, ws, rfl, _⟩ := h
    rfl
  · obtain ⟨a, ws, rfl, ha, ⟨hl, hn⟩, q⟩ := h
    refine ⟨_, (pss_one (ps_if (PW.pt (pw_or (pt_not (pt_val (pe_callB (call_isiK1 K) (by rfl) B.isinstance bt_isinstance (pa_cons (pv 0) (pa_cons (pe_bltn (v := .ty "list") (by rfl) B.list bt_list rfl) pa_nil))))) (pw_or (pt_cmpR op_gt (pe_callB (call_lenK K) (by rfl) B.len bt_len (pa_cons (pv 0) pa_nil)) (pe_gint rfl g_MOST_WISHES) (nomark _)) (pw_or1 (pt_not (pt_val (pe_callB (cr_allK K) (by rfl) B.all bt_all (pa_cons (pe_lc (own := [("name", 1)]) rfl sc_need_wishes.nd (pi_listK K (pv 0))
  (blkOk_by (by kernel_rfl)) (fun _ _ _ _ _ => (pg_name (i := 1) sc_need_wishes.nd rfl (by first | exact Or.inl rfl | exact Or.inr rfl))) (fun _ _ _ _ _ => pts_nil) (fun _ _ _ _ _ => (pe_cal C_is_name (hr.mono (by decide)) rfl (pa_cons (pv 1) pa_nil)))) pa_nil))))))))
  (pss_one ps_never)
  pss_nil)), ?_⟩
    have hz : (ws.map V.str).length = ws.length := List.length_map _
    walk_at "go"
    refine lc_valsL ws (wk_list _ ws) (fun _ => true) (fun _ => .bl true) (size_of_lt (by omega)) (fun H s => s.seq (SqL.of ha)) ?_ ?_
    · intro i c H2 R1 R0 hc s2 k1 k0
      have hc2 := hn c (List.mem_of_getElem? hc)
      walk_at "go"
      exact fun H3 s3 => k1 rfl _ s3
    · intro D H2 hD s2 h2
      rw [filt_all, bl_map] at h2
      walk_at "go"
      refine Kf.ite_f (Kf.not_f (all_true _)) ?_
      exact q _ s2
end
end Kf

namespace Kf
open PySem PySem.Spec PyProof.Rows L2
/-! ### last_wishes -/
/-- a number or None -/
def optV : Option Nat → V
  | none => .non
  | some j => .int (j : Nat)
def optD : Option Nat → PyData
  | none => .none
  | some j => .int (j : Nat)
theorem optV_map (o : Option Nat) : (o.map fun (j : Nat) => V.int (j : Nat)).getD .non = optV o := by cases o <;> rfl
def lastsV (ws : List Str) (n : Nat) : List V := (List.range n).map fun i => optV (lastAt ws i)
theorem lastsV_succ (ws : List Str) (n : Nat) : lastsV ws (n + 1) = lastsV ws n ++ [optV (lastAt ws n)] := by
  unfold lastsV
  rw [List.range_succ, List.map_append]
  rfl
def sp_last_wishes (K : PySem.W.Frag) : Sp := fun vs H Q _ => ∃ (a : Addr) (ws : List Str), vs = [.ref a] ∧ SqL K H a (ws.map V.str) ∧ ws.length ≤ 300 ∧
  ∀ p H', Same H H' → H p = none → H' p = some (.lst (lastsV ws ws.length)) → Q (.ref p) H'
section
variable {P : Program} {w : World} {K : PySem.W.Frag} {mg : Str → Option Value} {base : Heap}
theorem cal_last_wishes (F : FunG K mg "last_wishes" s_last_wishes) (B : BN mg) : Cal P w K mg base "last_wishes" 1 ["wishes"] (sp_last_wishes K) := by
  obtain ⟨f, fd, F, hm⟩ := F
  refine ⟨f, fd, F.ok sc_last_wishes (fun vs H Q E h => ?_) (fun cdv A outer s H vs Q E hr h => ?_), hm, F.kp, F.binds fun _ _ _ _ _ _ us hl => match us, hl with | [_], _ => rfl⟩
  · obtain ⟨a, ws, rfl, _⟩ := h
    rfl
  · obtain ⟨a, ws, rfl, ha, hl, q⟩ := h
    refine ⟨_, (pss_cons (ps_set (i := 1) sc_last_wishes.nd rfl (by first | exact Or.inl rfl | exact Or.inr rfl) pe_dnewK)
  (pss_cons (ps_set (i := 2) sc_last_wishes.nd rfl (by first | exact Or.inl rfl | exact Or.inr rfl) (pe_lst pa_nil))
  (pss_cons (ps_forD (pi_enumK K (by rfl) B.enumerate (pa_cons (pv 0) pa_nil)) (pg_tupK K 2 (pgs_cons (pg_name (i := 3) sc_last_wishes.nd rfl (by first | exact Or.inl rfl | exact Or.inr rfl)) (pgs_cons (pg_name (i := 4) sc_last_wishes.nd rfl (by first | exact Or.inl rfl | exact Or.inr rfl)) pgs_nil)))
  (pss_cons (ps_expr (pe_bmK K PySem.F.plainAttrs_list PySem.F.slot_list_append PySem.F.type_list_append mt_append (pv 2) (pa_cons (pe_dget1 (hu_of hr) (pv 1) (pv 4) ⟨rfl, rfl, rfl, rfl⟩) pa_nil)))
  (pss_one (ps_dput (hu_of hr) (pv 1) (pv 4) (pv 3) rfl))))
  (pss_one (ps_ret (pv 2)))))), ?_⟩
    walk_at "go"
    intro d nd
    walk_at "go"
    intro p np
    have sd : Same H (upd H d (.dK [])) := same_new nd
    have sp := sd.trans (same_new (o := .lst []) np)
    walk_at "go"
    refine for_E (f := V.str) ws (wk_enum _ ws) (fun i σ H' => ∃ v3 v4 kvs, σ = [some (.ref a), some (.ref d), some (.ref p), v3, v4] ∧ Same H H' ∧ H' d = some (.dK kvs) ∧ H' p = some (.lst (lastsV ws i)) ∧ kvs.length ≤ i ∧
        ∀ x, valV kvs (Sum.inr x) = (lastIx ws x i).map fun (j : Nat) => V.int (j : Nat)) ?_ ?_ ?_ ?_
    · exact ⟨none, none, [], rfl, sp, upd_old np upd_same, upd_same, Nat.le_refl _, fun x => rfl⟩
    · rintro i σ H' hi ⟨_, _, _, _, s1, _⟩
      exact s1.seq ha
    · rintro i x T σ H' D' L hx ⟨v3, v4, kvs, rfl, s1, hd, hp, hk, hv⟩ nT
      have hi : i < ws.length := (List.getElem?_eq_some_iff.mp hx).1
      have hlen : (lastsV ws i).length = i := by unfold lastsV; rw [List.length_map, List.length_range]
      have ndp : d ≠ p := ne_of hd hp (by intro z; cases z)
      have npd : p ≠ d := ndp.symm
      have np0 := sd.free np
      have hz := length_putK kvs (Sum.inr x) (V.int (i : Nat))
      have e1 : lastsV ws (i + 1) = lastsV ws i ++ [(valV kvs (Sum.inr x)).getD V.non] := by
        rw [lastsV_succ, hv, optV_map, lastAt_of hx]
      walk_at "go"
      refine L.nx _ _ ⟨_, _, _, rfl, by walk_at "same", upd_same, by rw [e1]; walk_at "hp", by omega, fun y => ?_⟩
      rw [valV_put, hv]
      rw [lastIx_succ, hx]
      by_cases e : y = x
      · rw [if_pos (by rw [e]), if_pos (by rw [e])]
        rfl
      · rw [if_neg (fun q => e (Sum.inr.inj q)), if_neg (fun q => e (Option.some.inj q).symm)]
    · rintro σ H' ⟨v3, v4, kvs, rfl, s1, hd, hp, hk, hv⟩
      walk_at "go"
      exact q p H' s1 (sd.free np) hp
end
end Kf

namespace Kf
open PySem PySem.Spec PyProof.Rows L2
/-! ### stretches -/
/-- the pairs (last, number), as data -/
def strD (ws : List Str) (n : Nat) : List PyData := ((List.range n).filter fun j => (lastAt ws j).isSome).map fun j => .tuple [optD (lastAt ws j), .int (j : Nat)]
theorem Sh.opt {k : Nat} (o : Option Nat) : Sh k (optD o) := by
  cases o with
  | none => exact Sh.none
  | some j => exact Sh.int _
theorem optV_dp {K : PySem.W.Frag} {H : Hp} (o : Option Nat) : Dp K H (optV o) (optD o) := by
  cases o with
  | none => exact .non
  | some j => exact .int _
theorem strD_sh (ws : List Str) (n : Nat) : Sh 2 (.list (strD ws n)) := Sh.list (k := 1) fun d hd => by
  obtain ⟨j, _, rfl⟩ := List.mem_map.mp hd
  exact Sh.tuple (k := 0) fun e he => by
    rcases List.mem_cons.mp he with rfl | he
    · exact Sh.opt _
    · rw [List.mem_singleton.mp he]
      exact Sh.int _
theorem optV_non (o : Option Nat) : (!decide (optV o = V.non)) = o.isSome := by
  cases o with
  | none => rfl
  | some j => rfl
def sp_stretches (K : PySem.W.Frag) : Sp := fun vs H Q _ => ∃ (a : Addr) (ws : List Str), vs = [.ref a] ∧ H a = some (.lst (ws.map V.str)) ∧ (ws.length ≤ 300 ∧ ∀ x ∈ ws, IsNm x) ∧
  ∀ p H' ys, Same H H' → H p = none → H' p = some (.lst ys) → DpAll K (del H' p) ys (strD ws ws.length) → Q (.ref p) H'
section
variable {P : Program} {w : World} {K : PySem.W.Frag} {mg : Str → Option Value} {base : Heap}
theorem cal_stretches (F : FunG K mg "stretches" s_stretches) (B : BN mg) (C_need_wishes : Cal P w K mg base "need_wishes" 2 ["wishes"] (sp_need_wishes K)) (C_last_wishes : Cal P w K mg base "last_wishes" 1 ["wishes"] (sp_last_wishes K)) :
    Cal P w K mg base "stretches" 3 ["wishes"] (sp_stretches K) := by
  obtain ⟨f, fd, F, hm⟩ := F
  refine ⟨f, fd, F.ok sc_stretches (fun vs H Q E h => ?_) (fun cdv A outer s H vs Q E hr h => ?_), hm, F.kp, F.binds fun _ _ _ _ _ _ us hl => match us, hl with | [_], _ => rfl⟩
  · obtain ⟨a, ws, rfl, _⟩ := h
    rfl
  · obtain ⟨a, ws, rfl, ha, ⟨hl, hn⟩, q⟩ := h
    refine ⟨_, (pss_cons (ps_expr (pe_cal C_need_wishes (hr.mono (by decide)) rfl (pa_cons (pv 0) pa_nil)))
  (pss_one (ps_ret (pe_lc (own := [("number", 1), ("last", 2)]) rfl sc_stretches.nd (pi_enumK K (by rfl) B.enumerate (pa_cons (pe_cal C_last_wishes (hr.mono (by decide)) rfl (pa_cons (pv 0) pa_nil)) pa_nil))
  (blkOk_by (by kernel_rfl)) (fun _ _ _ _ _ => (pg_tupK K 2 (pgs_cons (pg_name (i := 1) sc_stretches.nd rfl (by first | exact Or.inl rfl | exact Or.inr rfl)) (pgs_cons (pg_name (i := 2) sc_stretches.nd rfl (by first | exact Or.inl rfl | exact Or.inr rfl)) pgs_nil)))) (fun _ _ _ _ _ => (pts_one (pt_cmpR op_notN (pv 2) pe_non (nomark _)))) (fun _ _ _ _ _ => (pe_tup (pa_cons (pv 2) (pa_cons (pv 1) pa_nil)))))))), ?_⟩
    have hlv : (lastsV ws ws.length).length = ws.length := by unfold lastsV; rw [List.length_map, List.length_range]
    walk_at "go"
    intro H1 s1
    walk_at "go"
    intro p2 H2 s2 n2 h2
    walk_at "go"
    refine lc_tupsE (K := K) (f := fun i => optV (lastAt ws i)) (List.range ws.length) (wk_enum _ _) (fun p => (lastAt ws p.2).isSome) (fun p => [optD (lastAt ws p.2), .int (p.1 : Nat)]) (by rw [List.length_range]; exact size_of_lt (by omega)) (fun H s => s.seq (SqL.of h2)) ?_ ?_
    · intro i j T H3 R1 R0 hj s3 nT k1 k0
      obtain ⟨hi, e⟩ := List.getElem?_eq_some_iff.mp hj
      rw [List.getElem_range] at e
      subst e
      walk_at "go"
      rw [optV_non]
      cases hc : (lastAt ws i).isSome with
      | false => exact k0 hc _ (same_new nT)
      | true =>
        walk_at "go"
        intro q2 nq
        exact k1 hc _ _ _ (sm_ext nq (same_new nT)) ((same_new nT).free nq) upd_same (.cons (optV_dp _) (.cons (.int _) .nil))
    · intro D H3 ys hD s3 h3 hys
      refine q D H3 ys ((s1.trans s2).trans s3) ((s1.trans s2).free hD) h3 ?_
      have e : ((((List.range (List.range ws.length).length).zip (List.range ws.length)).filter fun p => (lastAt ws p.2).isSome).map fun a => PyData.tuple [optD (lastAt ws a.2), .int (a.1 : Nat)]) = strD ws ws.length := by
        unfold strD
        rw [List.length_range]
        have e0 : (List.range ws.length).zip (List.range ws.length) = (List.range ws.length).map fun i => (i, i) := by
          rw [List.zip_eq_zipWith, List.zipWith_self]
        rw [e0, List.filter_map, List.map_map]
        rfl
      rw [e] at hys
      exact hys
end
end Kf

namespace Kf
open PySem PySem.Spec PyProof.Rows L2
/-! ### _law_stretches -/
theorem get_str {ws : List Str} {k : Nat} {x : Str} (h : ws[k]? = some x) : atI (ws.map V.str) (k : Nat) = some (.str x) := by
  refine atI_nat ?_
  rw [List.getElem?_map, h]
  rfl
theorem str_eq {x y : Str} : decide (V.str x = V.str y) = decide (x = y) := by
  by_cases e : x = y
  · rw [decide_eq_true e, decide_eq_true (by rw [e])]
  · rw [decide_eq_false e, decide_eq_false (fun q => e (V.str.inj q))]
theorem strD_succ (ws : List Str) (n : Nat) : strD ws (n + 1) = strD ws n ++ (match lastAt ws n with | none => [] | some j => [.tuple [.int (j : Nat), .int (n : Nat)]]) := by
  unfold strD
  rw [List.range_succ, List.filter_append, List.map_append]
  congr 1
  cases h : lastAt ws n with
  | none => rw [List.filter_cons, if_neg (by rw [h]; decide)]; rfl
  | some j => rw [List.filter_cons, if_pos (by rw [h]; rfl)]; simp only [List.filter_nil, List.map_cons, List.map_nil, h]; rfl
def sp_law_stretches (K : PySem.W.Frag) : Sp := fun vs H Q _ => ∃ (a : Addr) (ws : List Str), vs = [.ref a] ∧ SqL K H a (ws.map V.str) ∧ ws.length ≤ 300 ∧
  ∀ p H' ys, Same H H' → H p = none → H' p = some (.lst ys) → DpAll K (del H' p) ys (strD ws ws.length) → Q (.ref p) H'
section
variable {P : Program} {w : World} {K : PySem.W.Frag} {mg : Str → Option Value} {base : Heap}
theorem cal__law_stretches (F : FunG K mg "_law_stretches" s__law_stretches) (B : BN mg) : Cal P w K mg base "_law_stretches" 1 ["_law_wishes"] (sp_law_stretches K) := by
  obtain ⟨f, fd, F, hm⟩ := F
  refine ⟨f, fd, F.ok sc__law_stretches (fun vs H Q E h => ?_) (fun cdv A outer s H vs Q E hr h => ?_), hm, F.kp, F.binds fun _ _ _ _ _ _ us hl => match us, hl with | [_], _ => rfl⟩
  · obtain ⟨a, ws, rfl, _⟩ := h
    rfl
  · obtain ⟨a, ws, rfl, ha, hl, q⟩ := h
    refine ⟨_, (pss_cons (ps_set (i := 1) sc__law_stretches.nd rfl (by first | exact Or.inl rfl | exact Or.inr rfl) (pe_lst pa_nil))
  (pss_cons (ps_forD (pi_range1 (by rfl) B.range (pa_cons (pe_callB (call_lenK K) (by rfl) B.len bt_len (pa_cons (pv 0) pa_nil)) pa_nil)) (pg_name (i := 2) sc__law_stretches.nd rfl (by first | exact Or.inl rfl | exact Or.inr rfl))
  (pss_cons (ps_setLc (i := 3) (own := [("_law_k", 4)]) rfl sc__law_stretches.nd rfl rfl (sw_true rfl rfl rfl (by kernel_rfl)) (pi_range1 (by rfl) B.range (pa_cons (pv 2) pa_nil))
  (blkOk_by (by kernel_rfl)) (fun _ _ _ _ _ => (pg_name (i := 4) sc__law_stretches.nd rfl (by first | exact Or.inl rfl | exact Or.inr rfl))) (fun _ _ _ _ _ => (pts_one (pt_cmpR op_eq (pe_ix (ix_listK K) (pv 0) (pv 4) (fun _ _ => rfl)) (pe_ix (ix_listK K) (pv 0) (pv 2) (fun _ _ => rfl)) (nomark _)))) (fun _ _ _ _ _ => (pv 4)))
  (pss_one (ps_if (pt_cmpR (op_neDK K hr) (pv 3) (pe_lst pa_nil) (nomark _))
  (pss_one (ps_expr (pe_bmK K PySem.F.plainAttrs_list PySem.F.slot_list_append PySem.F.type_list_append mt_append (pv 1) (pa_cons (pe_tup (pa_cons (pe_ix (ix_listK K) (pv 3) (pe_un un_neg pe_int) (fun _ _ => rfl)) (pa_cons (pv 2) pa_nil))) pa_nil))))
  pss_nil))))
  (pss_one (ps_ret (pv 1))))), ?_⟩
    have hz : (ws.map V.str).length = ws.length := List.length_map _
    walk_at "go"
    intro p np
    walk_at "go"
    have hn : ((List.map V.str ws).length : Int).toNat = ws.length := by rw [hz]; rfl
    rw [hn]
    refine for_L (List.range ws.length) (wk_rng0 ws.length) (fun i σ H' => ∃ v2 v3 v4 ys, σ = [some (.ref a), some (.ref p), v2, v3, v4] ∧ Same H H' ∧ H' p = some (.lst ys) ∧ DpAll K (del H' p) ys (strD ws i)) ?_ ?_ ?_ ?_
    · exact ⟨none, none, none, [], rfl, same_new np, upd_same, .nil⟩
    · exact fun _ _ _ _ _ => trivial
    · rintro i j σ H' D' L hj ⟨v2, v3, v4, ys, rfl, s1, hp, hy⟩
      obtain ⟨hi, e⟩ := List.getElem?_eq_some_iff.mp hj
      rw [List.getElem_range] at e
      subst e
      rw [List.length_range] at hi
      have hyl := DpAll.len hy
      have hsl : (strD ws i).length ≤ i := by
        unfold strD
        rw [List.length_map]
        refine Nat.le_trans (List.length_filter_le _ _) ?_
        rw [List.length_range]
        exact Nat.le_refl _
      have hx := List.getElem?_eq_getElem hi
      have gx := get_str hx
      have s1a := s1.seq ha
      walk_at "go"
      refine lc_valsL (List.range i) (wk_rng0 i) (fun k => decide (ws[k]? = ws[i]?)) (fun (k : Nat) => .int (k : Nat)) (by rw [List.length_range]; exact size_of_lt (by omega)) (fun _ _ => trivial) ?_ ?_
      · intro i2 k H3 R1 R0 hk s3 k1 k0
        have hki : k < i := List.mem_range.mp (List.mem_of_getElem? hk)
        have hkx := List.getElem?_eq_getElem (show k < ws.length by omega)
        have gk := get_str hkx
        walk_at "go"
        rw [hkx, hx] at k1 k0
        rw [str_eq]
        have ed : decide (some ws[k] = some ws[i]) = decide (ws[k] = ws[i]) := by
          by_cases e : ws[k] = ws[i]
          · rw [decide_eq_true e, decide_eq_true (by rw [e])]
          · rw [decide_eq_false e, decide_eq_false (fun z => e (Option.some.inj z))]
        rw [ed] at k1 k0
        refine ite2 (fun c => ?_) (fun c => ?_)
        · walk_at "go"
          exact k1 c _ (Same.refl _)
        · exact k0 (by rw [Bool.not_eq_true] at c; exact c) _ (Same.refl _)
      · intro D H3 hD s3 h3
        have h3 : H3 D = some (.lst ((aheads ws i).map fun (k : Nat) => V.int (k : Nat))) := h3
        rw [int_map] at h3
        have hal := aheads_last hx
        have nDp : D ≠ p := fun e => by rw [e, hp] at hD; cases hD
        have hp3 := s3 _ _ hp
        walk_at "go"
        intro e0 ne0
        walk_at "go"
        rw [eqv_nil]
        cases hc : lastAt ws i with
        | none =>
          rw [hc] at hal
          have hnil : aheads ws i = [] := List.getLast?_eq_none_iff.mp hal
          rw [hnil]
          walk_at "go"
          refine L.nx _ _ ⟨_, _, _, ys, rfl, sm_ext ne0 (s1.trans s3), upd_old ne0 hp3, ?_⟩
          rw [strD_succ, hc, List.append_nil]
          exact DpAll.mono (del_mono (sm_ext ne0 s3)) hy
        | some j =>
          rw [hc] at hal
          obtain ⟨pre, epre⟩ : ∃ pre, aheads ws i = pre ++ [j] := ⟨_, (List.getLast?_eq_some_iff.mp hal).choose_spec⟩
          have hne : (!(List.map PyData.int (List.map (fun (k : Nat) => ((k : Nat) : Int)) (aheads ws i))).isEmpty) = true := by
            rw [epre]
            simp
          refine ite_t hne ?_
          have hl1 : atI (List.map V.int (List.map (fun (k : Nat) => ((k : Nat) : Int)) (aheads ws i))) (-1) = some (.int (j : Nat)) := by
            rw [epre, List.map_append, List.map_append]
            exact atI_last _ _
          walk_at "go"
          intro t nt
          walk_at "go"
          have ntp : t ≠ p := fun e => by rw [e, upd_old ne0 hp3] at nt; cases nt
          have sx : Same H' (upd (upd H3 e0 (.lst [])) t (.tup [.int (j : Nat), .int (i : Nat)])) := sm_ext nt (sm_ext ne0 s3)
          refine L.nx _ _ ⟨_, _, _, ys ++ [V.ref t], rfl, sm_mu np (s1.trans sx), upd_same, ?_⟩
          rw [strD_succ, hc]
          exact dps_app sx hy (dp_tup upd_same ntp (.cons (.int _) (.cons (.int _) .nil)))
    · rintro σ H' ⟨v2, v3, v4, ys, rfl, s1, hp, hy⟩
      rw [List.length_range] at hy
      walk_at "go"
      exact q p H' ys s1 np hp hy
end
end Kf

namespace Kf
open PySem PySem.Spec PyProof.Rows L2
/-! ### _law_mixed -/
def mixN (c : Int) (k : Int) : Int := c % 1000000007 + 7919 * k + 13
def mixed (c : Int) (k : Int) : Int := mixN c k * mixN c k % 1000000007 * mixN c k % 998244353 / 11
theorem mixN_le {c k : Int} (h0 : 0 ≤ k) (h1 : k ≤ 1000) : 0 ≤ mixN c k ∧ mixN c k < 2000000000 := by
  have a := Int.emod_nonneg c (show (1000000007 : Int) ≠ 0 by decide)
  have b := Int.emod_lt_of_pos c (show (0 : Int) < 1000000007 by decide)
  unfold mixN
  omega
theorem mixed_le (c k : Int) : 0 ≤ mixed c k ∧ mixed c k < 90749487 := by
  have a := Int.emod_nonneg (mixN c k * mixN c k % 1000000007 * mixN c k) (show (998244353 : Int) ≠ 0 by decide)
  have b := Int.emod_lt_of_pos (mixN c k * mixN c k % 1000000007 * mixN c k) (show (0 : Int) < 998244353 by decide)
  unfold mixed
  omega
def sp_mixed : Sp := fun vs H Q _ => ∃ c k : Int, vs = [.int c, .int k] ∧ (0 ≤ k ∧ k ≤ 1000) ∧ Q (.int (mixed c k)) H
section
variable {P : Program} {w : World} {K : PySem.W.Frag} {mg : Str → Option Value} {base : Heap}
theorem cal__law_mixed (F : FunG K mg "_law_mixed" s__law_mixed) : Cal P w K mg base "_law_mixed" 1 ["_law_cell", "_law_k"] sp_mixed := by
  obtain ⟨f, fd, F, hm⟩ := F
  refine ⟨f, fd, F.ok sc__law_mixed (fun vs H Q E h => ?_) (fun cdv A outer s H vs Q E hr h => ?_), hm, F.kp, F.binds fun _ _ _ _ _ _ us hl => match us, hl with | [_, _], _ => rfl⟩
  · obtain ⟨c, k, rfl, _⟩ := h
    rfl
  · obtain ⟨c, k, rfl, ⟨h0, h1⟩, q⟩ := h
    refine ⟨_, (pss_cons (ps_set (i := 2) sc__law_mixed.nd rfl (by first | exact Or.inl rfl | exact Or.inr rfl) (pe_op op_add (pe_op op_add (pe_op op_mod (pv 0) pe_int) (pe_op op_mul pe_int (pv 1))) pe_int))
  (pss_one (ps_ret (pe_op op_fdiv (pe_op op_mod (pe_op op_mul (pe_op op_mod (pe_op op_mul (pv 2) (pv 2)) pe_int) (pv 2)) pe_int) pe_int)))), ?_⟩
    have m := mixN_le (c := c) h0 h1
    unfold mixN at m
    walk_at "go"
    exact q
end
end Kf

namespace Kf
open PySem PySem.Spec PyProof.Rows L2
/-! ### _law_names -/
theorem lett_len : Lett.length ≤ sizeLine := size_of_le (by decide +kernel)
/-- the z-th letter -/
def letc (z : Int) : Nat := 97 + (z % 26).toNat
theorem letc_le (z : Int) : 97 ≤ letc z ∧ letc z ≤ 122 := by
  unfold letc
  omega
theorem lett_at (z : Int) : atI Lett.cps.toList (z % 26) = some (letc z) := by
  have h : ∀ k : Nat, k < 26 → Lett.cps.toList[k]? = some (97 + k) := by decide +kernel
  have e : z % 26 = (((z % 26).toNat : Nat) : Int) := by omega
  have q := atI_nat (h (z % 26).toNat (by omega))
  rwa [← e] at q
def Lw (x : Str) : Prop := ∀ c ∈ x.cps.toList, 97 ≤ c ∧ c ≤ 122
theorem len_tl (x : Str) : x.length = x.cps.toList.length := (Array.length_toList (xs := x.cps)).symm
theorem app_tl (x y : Str) : (x ++ y).cps.toList = x.cps.toList ++ y.cps.toList := by
  show (x.cps ++ y.cps).toList = _
  rw [Array.toList_append]
theorem app_len (x y : Str) : (x ++ y).length = x.length + y.length := by rw [len_tl, app_tl, List.length_append, ← len_tl, ← len_tl]
theorem cut_tl (z : Str) (lo hi : Option Int) : (cutS z lo hi).cps.toList = (z.cps.toList.drop (HT.sIx z.length 0 lo)).take (HT.sIx z.length z.length hi - HT.sIx z.length 0 lo) := rfl
theorem Lw.app {x y : Str} (a : Lw x) (b : Lw y) : Lw (x ++ y) := fun c h => by
  rw [app_tl] at h
  rcases List.mem_append.mp h with h | h
  · exact a c h
  · exact b c h
theorem Lw.cut {z : Str} (a : Lw z) (lo hi : Option Int) : Lw (cutS z lo hi) := fun c h => by
  rw [cut_tl] at h
  exact a c (List.mem_of_mem_drop (List.mem_of_mem_take h))
theorem cut_len (z : Str) (lo hi : Option Int) : (cutS z lo hi).length = min (HT.sIx z.length z.length hi - HT.sIx z.length 0 lo) (z.length - HT.sIx z.length 0 lo) := by
  rw [len_tl, cut_tl, List.length_take, List.length_drop, ← len_tl]
theorem sIx_of {n d : Nat} {k : Int} (h : 0 ≤ k) : HT.sIx n d (some k) = min k.toNat n := by
  have e : k = ((k.toNat : Nat) : Int) := by omega
  have q := HT.sIx_nat n d k.toNat
  rwa [← e] at q
theorem join8 (c : Nat → Nat) : (Txt.join "" ((List.range 8).map fun i => (⟨#[c i]⟩ : Str))).cps.toList = (List.range 8).map c := rfl
theorem one_len (c : Nat) : (⟨#[c]⟩ : Str).length = 1 := rfl
def sp_names (K : PySem.W.Frag) : Sp := fun vs H Q _ => ∃ n m : Int, vs = [.int n, .int m] ∧ (0 ≤ n ∧ n < 1000000000 ∧ 1 ≤ m ∧ m ≤ 26) ∧
  ∀ p H' (nms : List Str), Same H H' → H p = none → H' p = some (.lst (nms.map V.str)) → nms.length = m.toNat → (∀ x ∈ nms, IsNm x) → Q (.ref p) H'
section
variable {P : Program} {w : World} {K : PySem.W.Frag} {mg : Str → Option Value} {base : Heap}
theorem cal__law_names (F : FunG K mg "_law_names" s__law_names) (B : BN mg) : Cal P w K mg base "_law_names" 1 ["_law_number", "_law_many"] (sp_names K) := by
  obtain ⟨f, fd, F, hm⟩ := F
  refine ⟨f, fd, F.ok sc__law_names (fun vs H Q E h => ?_) (fun cdv A outer s H vs Q E hr h => ?_), hm, F.kp, F.binds fun _ _ _ _ _ _ us hl => match us, hl with | [_, _], _ => rfl⟩
  · obtain ⟨n, m, rfl, _⟩ := h
    rfl
  · obtain ⟨n, m, rfl, ⟨h0, h1, h2, h3⟩, q⟩ := h
    refine ⟨_, (pss_cons (ps_set (i := 2) sc__law_names.nd rfl (by first | exact Or.inl rfl | exact Or.inr rfl) pe_str)
  (pss_cons (ps_set (i := 3) sc__law_names.nd rfl (by first | exact Or.inl rfl | exact Or.inr rfl) (pe_op op_mod (pv 0) pe_int))
  (pss_cons (ps_set (i := 4) sc__law_names.nd rfl (by first | exact Or.inl rfl | exact Or.inr rfl) (pe_joinK K pe_str (pe_lc (own := [("_law_j", 5)]) rfl sc__law_names.nd (pi_range1 (by rfl) B.range (pa_cons pe_int pa_nil))
  (blkOk_by (by kernel_rfl)) (fun _ _ _ _ _ => (pg_name (i := 5) sc__law_names.nd rfl (by first | exact Or.inl rfl | exact Or.inr rfl))) (fun _ _ _ _ _ => pts_nil) (fun _ _ _ _ _ => (pe_ix ix_str (pv 2) (pe_op op_mod (pe_op op_add (pe_op op_fdiv (pv 0) pe_int) (pe_op op_mul pe_int (pv 5))) pe_int) (fun _ _ => rfl))))))
  (pss_cutD (ps_if (PW.pt (pw_and (pt_cmpR op_eq (pe_op op_mod (pe_op op_fdiv (pv 0) pe_int) pe_int) pe_int (nomark _)) (pw_and1 (pt_cmpR op_lt (pv 1) pe_int (nomark _)))))
  (pss_one (ps_ret (pe_lc (own := [("_law_k", 6)]) rfl sc__law_names.nd (pi_range1 (by rfl) B.range (pa_cons (pv 1) pa_nil))
  (blkOk_by (by kernel_rfl)) (fun _ _ _ _ _ => (pg_name (i := 6) sc__law_names.nd rfl (by first | exact Or.inl rfl | exact Or.inr rfl))) (fun _ _ _ _ _ => pts_nil) (fun _ _ _ _ _ => (pe_slice sl_str (pv 4) po_none (po_some (pe_op op_add (pv 6) pe_int)))))))
  pss_nil)
  (pss_cons (ps_set (i := 7) sc__law_names.nd rfl (by first | exact Or.inl rfl | exact Or.inr rfl) (pe_op op_mod (pe_op op_fdiv (pv 0) pe_int) (pe_op op_add (pv 3) pe_int)))
  (pss_cons (ps_setLc (i := 8) (own := [("_law_k", 6)]) rfl sc__law_names.nd rfl rfl (sw_true rfl rfl rfl (by kernel_rfl)) (pi_range1 (by rfl) B.range (pa_cons (pv 1) pa_nil))
  (blkOk_by (by kernel_rfl)) (fun _ _ _ _ _ => (pg_name (i := 6) sc__law_names.nd rfl (by first | exact Or.inl rfl | exact Or.inr rfl))) (fun _ _ _ _ _ => pts_nil) (fun _ _ _ _ _ => (pe_ix ix_str (pv 2) (pe_op op_mod (pe_op op_add (pe_op op_fdiv (pv 0) pe_int) (pe_op op_mul pe_int (pv 6))) pe_int) (fun _ _ => rfl))))
  (pss_cons (ps_if (pt_cmpR op_eq (pe_op op_mod (pe_op op_fdiv (pv 0) pe_int) pe_int) pe_int (nomark _))
  (pss_one (ps_ret (pe_lc (own := [("_law_k", 6), ("_law_sign", 9)]) rfl sc__law_names.nd (pi_enumK K (by rfl) B.enumerate (pa_cons (pv 8) pa_nil))
  (blkOk_by (by kernel_rfl)) (fun _ _ _ _ _ => (pg_tupK K 2 (pgs_cons (pg_name (i := 6) sc__law_names.nd rfl (by first | exact Or.inl rfl | exact Or.inr rfl)) (pgs_cons (pg_name (i := 9) sc__law_names.nd rfl (by first | exact Or.inl rfl | exact Or.inr rfl)) pgs_nil)))) (fun _ _ _ _ _ => pts_nil) (fun _ _ _ _ _ => (pe_op op_add_str (pv 9) (pe_slice sl_str (pv 4) po_none (po_some (pe_op op_mod (pe_op op_add (pe_op op_mul pe_int (pv 6)) (pv 7)) pe_int))))))))
  pss_nil)
  (pss_one (ps_ret (pe_lc (own := [("_law_sign", 9)]) rfl sc__law_names.nd (pi_listK K (pv 8))
  (blkOk_by (by kernel_rfl)) (fun _ _ _ _ _ => (pg_name (i := 9) sc__law_names.nd rfl (by first | exact Or.inl rfl | exact Or.inr rfl))) (fun _ _ _ _ _ => pts_nil) (fun _ _ _ _ _ => (pe_op op_add_str (pe_op op_add_str (pe_slice sl_str (pv 4) po_none (po_some (pv 7))) (pv 9)) (pe_slice sl_str (pv 4) (po_some (pv 7)) (po_some (pv 3))))))))))))))), ?_⟩
    have ll := lett_len
    walk_at "go"
    refine lc_valsL (List.range 8) (wk_rng 0 8) (fun _ => true) (fun (j : Nat) => .str ⟨#[letc (n / 8 + 5 * (0 + (j : Nat)))]⟩) (by simpa using size_of_lt (show 8 ≤ 1000000 by decide)) (fun _ _ => trivial) ?_ ?_
    · intro i j H2 R1 R0 hj s2 k1 k0
      have hj8 : j < 8 := List.mem_range.mp (List.mem_of_getElem? hj)
      have a1 := lett_at (n / 8 + 5 * (0 + (j : Nat)))
      walk_at "go"
      exact k1 rfl _ (Same.refl _)
    · intro D H2 hD s2 h2
      rw [filt_all, str_map] at h2
      walk_at "go"
      refine ⟨(by show 8 + 8 * 0 ≤ 16777216; decide), ?_⟩
      have hrow : ∃ row : Str, Txt.join "" ((List.range 8).map fun (j : Nat) => (⟨#[letc (n / 8 + 5 * (0 + (j : Nat)))]⟩ : Str)) = row ∧ row.length = 8 ∧ Lw row := by
        refine ⟨_, rfl, ?_, fun c hc => ?_⟩
        · rw [len_tl, join8]
          rfl
        · rw [join8] at hc
          obtain ⟨j, _, rfl⟩ := List.mem_map.mp hc
          exact letc_le _
      obtain ⟨row, er, rl, rw8⟩ := hrow
      rw [er]
      clear er h2
      have rz : row.length ≤ sizeLine := size_of_le (by omega)
      refine cut_by (fun σ' H' => σ' = [some (.int n), some (.int m), some (.str Lett), some (.int (n % 8)), some (.str row), none, none, none, none, none] ∧ Same H H') (fun D' E' => ?_) ?_
      · walk_at "go"
        refine ite2 (fun c1 => ?_) (fun c1 => ?_)
        · walk_at "go"
          refine ite2 (fun c2 => ?_) (fun c2 => ?_)
          · have c2 := of_decide_eq_true c2
            walk_at "go"
            refine lc_valsL (List.range m.toNat) (wk_rng 0 m.toNat) (fun _ => true) (fun (k : Nat) => .str (cutS row none (some (0 + (k : Nat) + 1)))) (by rw [List.length_range]; exact size_of_lt (by omega)) (fun _ _ => trivial) ?_ ?_
            · intro i k H3 R1 R0 hk s3 k1 k0
              walk_at "go"
              exact k1 rfl _ (Same.refl _)
            · intro D3 H3 hD3 s3 h3
              rw [filt_all, str_map] at h3
              refine E'.rt _ _ (q D3 H3 _  (s2.trans s3) (s2.free hD3) h3 (by rw [List.length_map, List.length_range]) fun x hx => ?_)
              obtain ⟨k, hk, rfl⟩ := List.mem_map.mp hx
              have hk := List.mem_range.mp hk
              have e1 := cut_len row none (some (0 + (k : Nat) + 1))
              rw [rl, HT.sIx_none, sIx_of (by omega)] at e1
              exact ⟨by omega, by omega, rw8.cut _ _⟩
          · walk_at "go"
            exact E'.nx _ _ ⟨rfl, s2⟩
        · walk_at "go"
          exact E'.nx _ _ ⟨rfl, s2⟩
      · rintro σ' H' ⟨rfl, s3⟩
        have hat : 0 ≤ n / 200 % (n % 8 + 1) ∧ n / 200 % (n % 8 + 1) ≤ n % 8 := by
          have a := Int.emod_nonneg (n / 200) (show n % 8 + 1 ≠ 0 by omega)
          have b := Int.emod_lt_of_pos (n / 200) (show 0 < n % 8 + 1 by omega)
          omega
        have h8 : 0 ≤ n % 8 ∧ n % 8 < 8 := by omega
        walk_at "go"
        refine lc_valsL (List.range m.toNat) (wk_rng 0 m.toNat) (fun _ => true) (fun (k : Nat) => .str ⟨#[letc (n / 2000 + 7 * (0 + (k : Nat)))]⟩) (by rw [List.length_range]; exact size_of_lt (by omega)) (fun _ _ => trivial) ?_ ?_
        · intro i k H3 R1 R0 hk s3 k1 k0
          have hk8 : k < m.toNat := List.mem_range.mp (List.mem_of_getElem? hk)
          have a1 := lett_at (n / 2000 + 7 * (0 + (k : Nat)))
          walk_at "go"
          exact k1 rfl _ (Same.refl _)
        · intro D4 H4 hD4 s4 h4
          rw [filt_all, str_map] at h4
          have s5 := s3.trans s4
          have hsg : ∀ x ∈ (List.range m.toNat).map (fun (k : Nat) => (⟨#[letc (n / 2000 + 7 * (0 + (k : Nat)))]⟩ : Str)), x.length = 1 ∧ Lw x := by
            intro x hx
            obtain ⟨k, _, rfl⟩ := List.mem_map.mp hx
            refine ⟨rfl, fun c hc => ?_⟩
            have e : c = letc (n / 2000 + 7 * (0 + (k : Nat))) := List.mem_singleton.mp hc
            rw [e]
            exact letc_le _
          generalize hg : (List.range m.toNat).map (fun (k : Nat) => (⟨#[letc (n / 2000 + 7 * (0 + (k : Nat)))]⟩ : Str)) = sg at h4 hsg
          have hsl : sg.length = m.toNat := by rw [← hg, List.length_map, List.length_range]
          clear hg
          walk_at "go"
          refine ite2 (fun c1 => ?_) (fun c1 => ?_)
          · walk_at "go"
            refine lc_valsE (f := V.str) sg (wk_enum _ sg) (fun _ => true) (fun p => .str (p.2 ++ cutS row none (some ((3 * (p.1 : Nat) + n / 200 % (n % 8 + 1)) % 8)))) (size_of_lt (by omega)) (fun H s => s.seq (SqL.of h4)) ?_ ?_
            · intro i x T H5 R1 R0 hx s6 hT k1 k0
              have hi : i < sg.length := (List.getElem?_eq_some_iff.mp hx).1
              have hz := (hsg x (List.mem_of_getElem? hx)).1
              have hz2 : x.length + (cutS row none (some ((3 * (i : Nat) + n / 200 % (n % 8 + 1)) % 8))).length ≤ sizeLine := by
                refine size_of_le ?_
                rw [cut_len, hz]
                omega
              walk_at "go"
              exact k1 rfl _ (same_new hT)
            · intro D6 H6 hD6 s6 h6
              rw [filt_all, str_map] at h6
              refine q D6 H6 _ (s5.trans s6) (s5.free hD6) h6 (by rw [List.length_map, List.length_zip, List.length_range]; omega) fun x hx => ?_
              obtain ⟨⟨k, y⟩, hy, rfl⟩ := List.mem_map.mp hx
              obtain ⟨y1, y2⟩ := hsg y (List.of_mem_zip hy).2
              have e1 := cut_len row none (some ((3 * (k : Nat) + n / 200 % (n % 8 + 1)) % 8))
              rw [rl, HT.sIx_none, sIx_of (by omega)] at e1
              have e2 := app_len y (cutS row none (some ((3 * (k : Nat) + n / 200 % (n % 8 + 1)) % 8)))
              have y1 : y.length = 1 := y1
              have e3 : IsNm (y ++ cutS row none (some ((3 * (k : Nat) + n / 200 % (n % 8 + 1)) % 8))) := ⟨by rw [e2]; omega, by rw [e2]; omega, y2.app (rw8.cut _ _)⟩
              exact e3
          · walk_at "go"
            refine lc_valsL sg (wk_list V.str sg) (fun _ => true) (fun y => .str (cutS row none (some (n / 200 % (n % 8 + 1))) ++ y ++ cutS row (some (n / 200 % (n % 8 + 1))) (some (n % 8)))) (size_of_lt (by omega)) (fun H s => s.seq (SqL.of h4)) ?_ ?_
            · intro i y H5 R1 R0 hx s6 k1 k0
              have hz := (hsg y (List.mem_of_getElem? hx)).1
              have e1 := cut_len row none (some (n / 200 % (n % 8 + 1)))
              have e2 := cut_len row (some (n / 200 % (n % 8 + 1))) (some (n % 8))
              have e3 := app_len (cutS row none (some (n / 200 % (n % 8 + 1)))) y
              have hz2 : (cutS row none (some (n / 200 % (n % 8 + 1)))).length + y.length ≤ sizeLine := size_of_le (by omega)
              have hz3 : (cutS row none (some (n / 200 % (n % 8 + 1))) ++ y).length + (cutS row (some (n / 200 % (n % 8 + 1))) (some (n % 8))).length ≤ sizeLine := size_of_le (by omega)
              walk_at "go"
              exact k1 rfl _ (Same.refl _)
            · intro D6 H6 hD6 s6 h6
              rw [filt_all, str_map] at h6
              refine q D6 H6 _ (s5.trans s6) (s5.free hD6) h6 (by rw [List.length_map]; omega) fun x hx => ?_
              obtain ⟨y, hy, rfl⟩ := List.mem_map.mp hx
              obtain ⟨y1, y2⟩ := hsg y hy
              have e1 := cut_len row none (some (n / 200 % (n % 8 + 1)))
              have e2 := cut_len row (some (n / 200 % (n % 8 + 1))) (some (n % 8))
              rw [rl, HT.sIx_none, sIx_of hat.1] at e1
              rw [rl, sIx_of hat.1, sIx_of h8.1] at e2
              have e3 := app_len (cutS row none (some (n / 200 % (n % 8 + 1)))) y
              have e4 := app_len (cutS row none (some (n / 200 % (n % 8 + 1))) ++ y) (cutS row (some (n / 200 % (n % 8 + 1))) (some (n % 8)))
              have y1 : y.length = 1 := y1
              have e5 : IsNm (cutS row none (some (n / 200 % (n % 8 + 1))) ++ y ++ cutS row (some (n / 200 % (n % 8 + 1))) (some (n % 8))) := ⟨by rw [e4, e3]; omega, by rw [e4, e3]; omega, ((rw8.cut _ _).app y2).app (rw8.cut _ _)⟩
              exact e5
end
end Kf

namespace Kf
open PySem PySem.Spec PyProof.Rows L2
/-! ### _law_drawn, _law_places -/
structure Drw (nms ws : List Str) (n : Nat) : Prop where
  nm : ∀ x ∈ nms, IsNm x
  sub : ∀ x ∈ ws, x ∈ nms
  len : ws.length = n
  some : nms ≠ []
  few : nms.length ≤ 26
theorem Drw.ok {nms ws : List Str} {n : Nat} (d : Drw nms ws n) : ∀ x ∈ ws, IsNm x := fun x h => d.nm x (d.sub x h)
def sp_drawn (K : PySem.W.Frag) : Sp := fun vs H Q _ => ∃ (a : Addr) (ns : List Int) (most : Int), vs = [.ref a, .int most] ∧ SqL K H a (ns.map V.int) ∧ (ns.length ≤ 300 ∧ 3 ≤ most ∧ most ≤ 26) ∧
  ∀ t pn pw H' (nms ws : List Str), Same H H' → (H pn = none ∧ H pw = none ∧ pn ≠ pw) → H' t = some (.tup [.ref pn, .ref pw]) → H' pn = some (.lst (nms.map V.str)) → H' pw = some (.lst (ws.map V.str)) →
    Drw nms ws ns.length → Q (.ref t) H'
def sp_places (K : PySem.W.Frag) : Sp := fun vs H Q _ => ∃ (a : Addr) (ns : List Int) (k : Int), vs = [.ref a, .int k] ∧ SqL K H a (ns.map V.int) ∧ (ns.length ≤ 300 ∧ 0 ≤ k ∧ k ≤ 100) ∧
  ∀ (p : Int) H', 1 ≤ p → p ≤ 20 → Same H H' → Q (.int p) H'
section
variable {P : Program} {w : World} {K : PySem.W.Frag} {mg : Str → Option Value} {base : Heap}
theorem cal__law_drawn (F : FunG K mg "_law_drawn" s__law_drawn) (B : BN mg) (C__law_mixed : Cal P w K mg base "_law_mixed" 1 ["_law_cell", "_law_k"] sp_mixed) (C__law_names : Cal P w K mg base "_law_names" 1 ["_law_number", "_law_many"] (sp_names K)) :
    Cal P w K mg base "_law_drawn" 2 ["_law_script", "_law_most"] (sp_drawn K) := by
  obtain ⟨f, fd, F, hm⟩ := F
  refine ⟨f, fd, F.ok sc__law_drawn (fun vs H Q E h => ?_) (fun cdv A outer s H vs Q E hr h => ?_), hm, F.kp, F.binds fun _ _ _ _ _ _ us hl => match us, hl with | [_, _], _ => rfl⟩
  · obtain ⟨a, ns, m, rfl, _⟩ := h
    rfl
  · obtain ⟨a, ns, m, rfl, ha, ⟨hl, h1, h2⟩, q⟩ := h
    refine ⟨_, (pss_cons (ps_set (i := 2) sc__law_drawn.nd rfl (by first | exact Or.inl rfl | exact Or.inr rfl) (pe_cal C__law_mixed (hr.mono (by decide)) rfl (pa_cons (pe_op op_add (pe_callB (call_lenK K) (by rfl) B.len bt_len (pa_cons (pv 0) pa_nil)) (pe_callB (cr_sumK K) (by rfl) B.sum bt_sum (pa_cons (pe_lc (own := [("_law_cell", 3)]) rfl sc__law_drawn.nd (pi_listK K (pv 0))
  (blkOk_by (by kernel_rfl)) (fun _ _ _ _ _ => (pg_name (i := 3) sc__law_drawn.nd rfl (by first | exact Or.inl rfl | exact Or.inr rfl))) (fun _ _ _ _ _ => pts_nil) (fun _ _ _ _ _ => (pe_op op_mod (pv 3) pe_int))) pa_nil))) (pa_cons pe_int pa_nil))))
  (pss_cons (ps_set (i := 4) sc__law_drawn.nd rfl (by first | exact Or.inl rfl | exact Or.inr rfl) (pe_ix (ix_listK K) (pe_lst (pa_cons (pe_op op_add pe_int (pe_op op_mod (pv 2) (pe_op op_sub (pv 1) pe_int))) (pa_cons pe_int pa_nil))) (pe_callTy call_intB (by rfl) B.int bt_int (pa_cons (pe_j (pe_and (pe_cmpR op_gt (pv 1) pe_int (nomark _)) (pe_one (pe_cmpR op_eq (pe_op op_mod (pe_op op_fdiv (pv 2) pe_int) pe_int) pe_int (nomark _))))) pa_nil)) (fun _ _ => rfl)))
  (pss_cons (ps_set (i := 5) sc__law_drawn.nd rfl (by first | exact Or.inl rfl | exact Or.inr rfl) (pe_cal C__law_names (hr.mono (by decide)) rfl (pa_cons (pe_op op_fdiv (pv 2) pe_int) (pa_cons (pv 4) pa_nil))))
  (pss_cons (ps_set (i := 6) sc__law_drawn.nd rfl (by first | exact Or.inl rfl | exact Or.inr rfl) (pe_lst pa_nil))
  (pss_cons (ps_forD (pi_enumK K (by rfl) B.enumerate (pa_cons (pe_slice (sl_listK K) (pv 0) po_none (po_some pe_int)) pa_nil)) (pg_tupK K 2 (pgs_cons (pg_name (i := 7) sc__law_drawn.nd rfl (by first | exact Or.inl rfl | exact Or.inr rfl)) (pgs_cons (pg_name (i := 3) sc__law_drawn.nd rfl (by first | exact Or.inl rfl | exact Or.inr rfl)) pgs_nil)))
  (pss_cons (ps_set (i := 8) sc__law_drawn.nd rfl (by first | exact Or.inl rfl | exact Or.inr rfl) (pe_cal C__law_mixed (hr.mono (by decide)) rfl (pa_cons (pv 3) (pa_cons (pv 7) pa_nil))))
  (pss_cons (ps_set (i := 9) sc__law_drawn.nd rfl (by first | exact Or.inl rfl | exact Or.inr rfl) (pv 5))
  (pss_cutD (ps_if (PW.pt (pw_and (pt_cmpR op_eq (pe_op op_mod (pv 8) pe_int) pe_int (nomark _)) (pw_and1 (pt_cmpR (op_neDK K hr) (pv 6) (pe_lst pa_nil) (nomark _)))))
  (pss_one (ps_set (i := 9) sc__law_drawn.nd rfl (by first | exact Or.inl rfl | exact Or.inr rfl) (pe_slice (sl_listK K) (pv 6) (po_some (pe_un un_neg pe_int)) po_none)))
  pss_nil)
  (pss_one (ps_expr (pe_bmK K PySem.F.plainAttrs_list PySem.F.slot_list_append PySem.F.type_list_append mt_append (pv 6) (pa_cons (pe_ix (ix_listK K) (pv 9) (pe_op op_mod (pe_op op_fdiv (pv 8) pe_int) (pe_callB (call_lenK K) (by rfl) B.len bt_len (pa_cons (pv 9) pa_nil))) (fun _ _ => rfl)) pa_nil))))))))
  (pss_one (ps_ret (pe_tup (pa_cons (pv 5) (pa_cons (pv 6) pa_nil)))))))))), ?_⟩
    have hz : (ns.map V.int).length = ns.length := List.length_map _
    walk_at "go"
    refine lc_valsL ns (wk_list V.int ns) (fun _ => true) (fun c => .int (c % 1000003)) (size_of_lt (by omega)) (fun H s => s.seq ha) ?_ ?_
    · intro i c H2 R1 R0 hc s2 k1 k0
      walk_at "go"
      exact k1 rfl _ (Same.refl _)
    · intro D H2 hD s2 h2
      rw [filt_all, int_map] at h2
      walk_at "go"
      have hnu := mixed_le ((ns.map V.int).length + ((ns.map fun c => c % 1000003).sum)) 1
      generalize mixed _ 1 = nu at hnu
      have hm2 := Int.emod_nonneg nu (show m - 2 ≠ 0 by omega)
      have hm3 := Int.emod_lt_of_pos nu (show 0 < m - 2 by omega)
      intro L nL
      have sL : Same H (upd H2 L (.lst [.int (3 + nu % (m - 2)), .int 26])) := s2.trans (same_new nL)
      walk_at "go"
      refine join_by (.bl (decide (9 < m) && decide (V.int (nu / 1000 % 8) = V.int 1))) (fun Q' hq => ?_) (fun H3 s3 => ?_)
      · walk_at "go"
        refine ite2 (fun c => ?_) (fun c => ?_)
        · walk_at "go"
          rw [c] at hq
          exact hq _ (Same.refl _)
        · rw [Bool.not_eq_true] at c
          rw [c] at hq
          exact hq _ (Same.refl _)
      · generalize (decide (9 < m) && decide (V.int (nu / 1000 % 8) = V.int 1)) = b
        obtain ⟨mn, emn, mn1, mn2⟩ : ∃ mn : Int, atI [V.int (3 + nu % (m - 2)), V.int 26] (if b = true then 1 else 0) = some (.int mn) ∧ 3 ≤ mn ∧ mn ≤ 26 := by
          cases b with
          | true => exact ⟨26, rfl, by omega, by omega⟩
          | false => exact ⟨_, rfl, by omega, by omega⟩
        walk_at "go"
        intro pn H4 nms s4 npn h4 hlen hnm
        have s4' : Same H H4 := sL.trans (s3.trans s4)
        have npn0 : H pn = none := sL.free (s3.free npn)
        walk_at "go"
        intro pw npw
        walk_at "go"
        intro c nc
        have ec : cutV (ns.map V.int) none (some 300) = ns.map V.int := by
          unfold cutV
          rw [HT.sIx_none, sIx_of (by decide), hz]
          rw [List.drop_zero, List.take_of_length_le (by rw [hz]; show ns.length ≤ min 300 ns.length - 0; omega)]
        rw [ec] at *
        have hpn0 : pn ≠ pw := fun e => by rw [e, npw] at h4; cases h4
        have npwH : H pw = none := s4'.free npw
        have hcpw : c ≠ pw := fun e => by rw [e, upd_same] at nc; cases nc
        walk_at "go"
        refine for_E (f := V.int) ns (wk_enum _ ns) (fun i σ H' => ∃ v3 v7 v8 v9 ws, σ = [some (.ref a), some (.int m), some (.int nu), v3, some (.int mn), some (.ref pn), some (.ref pw), v7, v8, v9] ∧ Same H4 H' ∧
            H' c = some (.lst (ns.map V.int)) ∧ H' pw = some (.lst (List.map V.str ws)) ∧ ws.length = i ∧ ∀ x ∈ ws, x ∈ nms) ?_ ?_ ?_ ?_
        · exact ⟨none, none, none, none, [], rfl, sm_ext nc (same_new npw), upd_same, upd_old nc upd_same, rfl, fun x hx => by cases hx⟩
        · rintro i σ H' hi ⟨_, _, _, _, _, _, _, hc, _⟩
          exact SqL.of hc
        · rintro i x T σ H' D' L hx ⟨v3, v7, v8, v9, ws, rfl, s5, hc, hw, hwl, hws⟩ nT
          have hi : i < ns.length := (List.getElem?_eq_some_iff.mp hx).1
          walk_at "go"
          have hmo := mixed_le x (i : Nat)
          generalize mixed x (i : Nat) = mo at hmo
          refine cut_by (fun σ' H6 => ∃ ps ss, σ' = [some (.ref a), some (.int m), some (.int nu), some (.int x), some (.int mn), some (.ref pn), some (.ref pw), some (.int (i : Nat)), some (.int mo), some (.ref ps)] ∧
              Same H' H6 ∧ H6 ps = some (.lst (List.map V.str ss)) ∧ ss ≠ [] ∧ ss.length ≤ 1000 ∧ ∀ y ∈ ss, y ∈ nms) (fun D2 E2 => ?_) ?_
          · have hnn : nms ≠ [] := fun e => by rw [e] at hlen; simp at hlen; omega
            have fin : ∀ H6, Same H' H6 → ∃ ps ss, [some (.ref a), some (.int m), some (.int nu), some (.int x), some (.int mn), some (.ref pn), some (.ref pw), some (.int (i : Nat)), some (.int mo), some (V.ref pn)] = [some (.ref a), some (.int m), some (.int nu), some (.int x), some (.int mn), some (.ref pn), some (.ref pw), some (.int (i : Nat)), some (.int mo), some (.ref ps)] ∧
              Same H' H6 ∧ H6 ps = some (.lst (List.map V.str ss)) ∧ ss ≠ [] ∧ ss.length ≤ 1000 ∧ ∀ y ∈ ss, y ∈ nms := fun H6 s6 => ⟨pn, nms, rfl, s6, s6 _ _ (s5 _ _ h4), hnn, by omega, fun y hy => hy⟩
            walk_at "go"
            refine ite2 (fun c1 => ?_) (fun c1 => ?_)
            · walk_at "go"
              intro e0 ne0
              have hshw := Sh.strs fun y hy => hnm y (hws y hy)
              walk_at "go"
              rw [eqv_nil]
              refine ite2 (fun c2 => ?_) (fun c2 => ?_)
              · have hwn : ws ≠ [] := fun e => by rw [e] at c2; cases c2
                walk_at "go"
                intro d6 nd6
                have ec6 : ∃ ss : List Str, cutV (List.map V.str ws) (some (-4)) none = ss.map V.str ∧ ss ≠ [] ∧ ss.length ≤ 1000 ∧ ∀ y ∈ ss, y ∈ ws := by
                  refine ⟨(ws.drop (HT.sIx ws.length 0 (some (-4)))).take (HT.sIx ws.length ws.length none - HT.sIx ws.length 0 (some (-4))), ?_, ?_, ?_, fun y hy => List.mem_of_mem_drop (List.mem_of_mem_take hy)⟩
                  · unfold cutV
                    rw [List.length_map, List.map_take, List.map_drop]
                  · have h0 : 0 < ws.length := List.length_pos_iff.mpr hwn
                    have e4 : HT.sIx ws.length 0 (some (-4)) = ((-4 : Int) + ws.length).toNat := by
                      show (if (-4 : Int) < 0 then ((-4 : Int) + (ws.length : Int)).toNat else min (-4 : Int).toNat ws.length) = _
                      rw [if_pos (by decide)]
                    rw [HT.sIx_none, e4]
                    refine List.length_pos_iff.mp ?_
                    rw [List.length_take, List.length_drop]
                    omega
                  · rw [List.length_take, List.length_drop]
                    omega
                obtain ⟨ss, ess, h1s, h2s, h3s⟩ := ec6
                rw [ess] at *
                exact E2.nx _ _ ⟨d6, ss, rfl, sm_ext nd6 (sm_ext ne0 (same_new nT)), upd_same, h1s, h2s, fun y hy => hws y (h3s y hy)⟩
              · walk_at "go"
                exact E2.nx _ _ (fin _ (sm_ext ne0 (same_new nT)))
            · walk_at "go"
              exact E2.nx _ _ (fin _ (same_new nT))
          · rintro σ' H6 ⟨ps, ss, rfl, s6, hss, hsn, hsl, hsm⟩
            have hz6 : (List.map V.str ss).length = ss.length := List.length_map _
            have h06 : 0 < ss.length := List.length_pos_iff.mpr hsn
            have hw6 := s6 _ _ hw
            have hz7 : (List.map V.str ws).length = ws.length := List.length_map _
            have hix : ∃ y, atI (List.map V.str ss) (mo / 3 % (List.map V.str ss).length) = some (.str y) ∧ y ∈ ss := by
              have q0 := Int.emod_nonneg (mo / 3) (show ((List.map V.str ss).length : Int) ≠ 0 by omega)
              have q1 := Int.emod_lt_of_pos (mo / 3) (show 0 < ((List.map V.str ss).length : Int) by omega)
              have e : mo / 3 % ((List.map V.str ss).length : Int) = (((mo / 3 % ((List.map V.str ss).length : Int)).toNat : Nat) : Int) := by omega
              have hj : (mo / 3 % ((List.map V.str ss).length : Int)).toNat < ss.length := by omega
              refine ⟨ss[(mo / 3 % ((List.map V.str ss).length : Int)).toNat], at_of e ?_, List.getElem_mem hj⟩
              rw [List.getElem?_map, List.getElem?_eq_getElem hj]
              rfl
            obtain ⟨y, hy1, hy2⟩ := hix
            walk_at "go"
            refine L.nx _ _ ⟨_, _, _, _, ws ++ [y], rfl, ?_, ?_, ?_, ?_, ?_⟩
            · exact sm_mu npw (s5.trans s6)
            · exact upd_far hcpw (s6 _ _ hc)
            · rw [upd_same, List.map_append]
              rfl
            · rw [List.length_append, hwl]
              rfl
            · intro z hz
              rcases List.mem_append.mp hz with h | h
              · exact hws z h
              · rw [List.mem_singleton.mp h]
                exact hsm y hy2
        · rintro σ H' ⟨v3, v7, v8, v9, ws, rfl, s5, hc, hw, hwl, hws⟩
          walk_at "go"
          intro t nt
          exact q t pn pw _ nms ws (sm_ext nt (s4'.trans s5)) ⟨npn0, npwH, hpn0⟩ upd_same (upd_old nt (s5 _ _ h4)) (upd_old nt hw) ⟨hnm, hws, hwl, fun e => by rw [e] at hlen; simp at hlen; omega, by omega⟩
theorem cal__law_places (F : FunG K mg "_law_places" s__law_places) (B : BN mg) (C__law_mixed : Cal P w K mg base "_law_mixed" 1 ["_law_cell", "_law_k"] sp_mixed) :
    Cal P w K mg base "_law_places" 2 ["_law_script", "_law_k"] (sp_places K) := by
  obtain ⟨f, fd, F, hm⟩ := F
  refine ⟨f, fd, F.ok sc__law_places (fun vs H Q E h => ?_) (fun cdv A outer s H vs Q E hr h => ?_), hm, F.kp, F.binds fun _ _ _ _ _ _ us hl => match us, hl with | [_, _], _ => rfl⟩
  · obtain ⟨a, ns, m, rfl, _⟩ := h
    rfl
  · obtain ⟨a, ns, m, rfl, ha, ⟨hl, h1, h2⟩, q⟩ := h
    refine ⟨_, (pss_cons (ps_set (i := 2) sc__law_places.nd rfl (by first | exact Or.inl rfl | exact Or.inr rfl) (pe_cal C__law_mixed (hr.mono (by decide)) rfl (pa_cons (pe_op op_add (pe_callB (call_lenK K) (by rfl) B.len bt_len (pa_cons (pv 0) pa_nil)) (pe_callB (cr_sumK K) (by rfl) B.sum bt_sum (pa_cons (pe_lc (own := [("_law_cell", 3)]) rfl sc__law_places.nd (pi_listK K (pv 0))
  (blkOk_by (by kernel_rfl)) (fun _ _ _ _ _ => (pg_name (i := 3) sc__law_places.nd rfl (by first | exact Or.inl rfl | exact Or.inr rfl))) (fun _ _ _ _ _ => pts_nil) (fun _ _ _ _ _ => (pe_op op_mod (pv 3) pe_int))) pa_nil))) (pa_cons (pe_op op_add pe_int (pv 1)) pa_nil))))
  (pss_one (ps_ret (pe_op op_add pe_int (pe_op op_mod (pe_op op_fdiv (pv 2) pe_int) (pe_ix (ix_listK K) (pe_lst (pa_cons pe_int (pa_cons pe_int (pa_cons pe_int (pa_cons pe_int pa_nil))))) (pe_op op_mod (pv 2) pe_int) (fun _ _ => rfl))))))), ?_⟩
    have hz : (ns.map V.int).length = ns.length := List.length_map _
    walk_at "go"
    refine lc_valsL ns (wk_list V.int ns) (fun _ => true) (fun c => .int (c % 1009)) (size_of_lt (by omega)) (fun H s => s.seq ha) ?_ ?_
    · intro i c H2 R1 R0 hc s2 k1 k0
      walk_at "go"
      exact k1 rfl _ (Same.refl _)
    · intro D H2 hD s2 h2
      rw [filt_all, int_map] at h2
      walk_at "go"
      have hnu := mixed_le ((ns.map V.int).length + ((ns.map fun c => c % 1009).sum)) (20 + m)
      generalize mixed _ (20 + m) = nu at hnu
      intro L nL
      obtain ⟨x, hx, hx1, hx2⟩ : ∃ x : Int, atI [V.int 3, V.int 5, V.int 9, V.int 20] (nu % 4) = some (.int x) ∧ 3 ≤ x ∧ x ≤ 20 := by
        have h4 : nu % 4 = 0 ∨ nu % 4 = 1 ∨ nu % 4 = 2 ∨ nu % 4 = 3 := by omega
        rcases h4 with e | e | e | e <;> rw [e]
        · exact ⟨3, rfl, by omega, by omega⟩
        · exact ⟨5, rfl, by omega, by omega⟩
        · exact ⟨9, rfl, by omega, by omega⟩
        · exact ⟨20, rfl, by omega, by omega⟩
      have e0 := Int.emod_nonneg (nu / 4) (show x ≠ 0 by omega)
      have e1 := Int.emod_lt_of_pos (nu / 4) (show 0 < x by omega)
      walk_at "go"
      exact q _ _ (by omega) (by omega) (s2.trans (same_new nL))
end
end Kf

namespace Kf
open PySem PySem.Spec PyProof.Rows L2
/-! ### the law -/
def sp_law (K : PySem.W.Frag) : Sp := fun vs H Q _ => ∃ (a : Addr) (ns : List Int), vs = [.ref a] ∧ SqL K H a (ns.map V.int) ∧ ns.length ≤ 63 ∧ ∀ H', Q (.bl true) H'
theorem optV_of {K : PySem.W.Frag} {H : Hp} {v : V} : ∀ {o : Option Nat}, Dp K H v (optD o) → v = optV o
  | none, .non => rfl
  | some _, .int _ => rfl
theorem dp_drop {K : PySem.W.Frag} {H : Hp} {α : Type} {g : α → PyData} : ∀ {js : List α} {ys : List V}, DpAll K H ys (js.map g) → DpAll K H ys.dropLast (js.dropLast.map g)
  | [], _, .nil => .nil
  | [_], _, .cons _ .nil => .nil
  | _ :: b :: l, _, .cons h (.cons h2 r) => .cons h (dp_drop (js := b :: l) (.cons h2 r))
section
variable {P : Program} {w : World} {K : PySem.W.Frag} {mg : Str → Option Value} {base : Heap}
theorem law_ok {f : Addr} {fd : FuncData} (F : Fun K "law" "law" s_law f fd) (B : BN mg) (C__law_drawn : Cal P w K mg base "_law_drawn" 2 ["_law_script", "_law_most"] (sp_drawn K)) (C__law_stretches : Cal P w K mg base "_law_stretches" 1 ["_law_wishes"] (sp_law_stretches K))
    (C_stretches : Cal P w K mg base "stretches" 3 ["wishes"] (sp_stretches K)) : FnOk P w K mg base CX0 4 f fd ["_law_script"] (sp_law K) := by
  refine F.ok sc_law (fun vs H Q E h => ?_) (fun cdv A outer s H vs Q E hr h => ?_)
  · obtain ⟨a, ns, rfl, _⟩ := h
    rfl
  · obtain ⟨a, ns, rfl, ha, hl, q⟩ := h
    refine ⟨_, (pss_cons (ps_asg (pe_cal C__law_drawn (hr.mono (by decide)) rfl (pa_cons (pv 0) (pa_cons pe_int pa_nil))) (pg_tupK K 2 (pgs_cons (pg_name (i := 1) sc_law.nd rfl (by first | exact Or.inl rfl | exact Or.inr rfl)) (pgs_cons (pg_name (i := 2) sc_law.nd rfl (by first | exact Or.inl rfl | exact Or.inr rfl)) pgs_nil))))
  (pss_cons (ps_set (i := 3) sc_law.nd rfl (by first | exact Or.inl rfl | exact Or.inr rfl) (pe_cal C__law_stretches (hr.mono (by decide)) rfl (pa_cons (pv 2) pa_nil)))
  (pss_cons (ps_set (i := 4) sc_law.nd rfl (by first | exact Or.inl rfl | exact Or.inr rfl) (pe_callTy (call_listK K) (by rfl) B.list bt_list (pa_cons (pv 2) pa_nil)))
  (pss_cons (ps_forD (pi_range1 (by rfl) B.range (pa_cons pe_int pa_nil)) (pg_name (i := 5) sc_law.nd rfl (by first | exact Or.inl rfl | exact Or.inr rfl))
  (pss_cons (ps_set (i := 6) sc_law.nd rfl (by first | exact Or.inl rfl | exact Or.inr rfl) (pe_cal C_stretches (hr.mono (by decide)) rfl (pa_cons (pv 4) pa_nil)))
  (pss_cons (ps_if (PW.pt (pw_or (pt_not (pt_val (pe_callB (call_isiK1 K) (by rfl) B.isinstance bt_isinstance (pa_cons (pv 6) (pa_cons (pe_bltn (v := .ty "list") (by rfl) B.list bt_list rfl) pa_nil))))) (pw_or (pt_cmpR (op_neDK K hr) (pv 6) (pv 3) (nomark _)) (pw_or1 (pt_cmpR (op_neDK K hr) (pv 4) (pv 2) (nomark _))))))
  (pss_one (ps_ret pe_bl))
  pss_nil)
  (pss_cons (ps_if (pt_not (pt_val (pe_callB (cr_allK K) (by rfl) B.all bt_all (pa_cons (pe_lc (own := [("_law_pair", 7)]) rfl sc_law.nd (pi_listK K (pv 6))
  (blkOk_by (by kernel_rfl)) (fun _ _ _ _ _ => (pg_name (i := 7) sc_law.nd rfl (by first | exact Or.inl rfl | exact Or.inr rfl))) (fun _ _ _ _ _ => pts_nil) (fun _ _ _ _ _ => (pe_callB (call_isiK1 K) (by rfl) B.isinstance bt_isinstance (pa_cons (pv 7) (pa_cons (pe_bltn (v := .ty "tuple") (by rfl) B.tuple bt_tuple rfl) pa_nil))))) pa_nil))))
  (pss_one (ps_ret pe_bl))
  pss_nil)
  (pss_one (ps_expr (pe_bmK K PySem.F.plainAttrs_list PySem.F.slot_list_append PySem.F.type_list_append mt_append (pv 6) (pa_cons pe_str pa_nil))))))))
  (pss_cons (ps_forD (pi_listK K (pv 1)) (pg_name (i := 8) sc_law.nd rfl (by first | exact Or.inl rfl | exact Or.inr rfl))
  (pss_cons (ps_setLc (i := 9) (own := [("_law_pair", 7)]) rfl sc_law.nd rfl rfl (sw_true rfl rfl rfl (by kernel_rfl)) (pi_listK K (pe_cal C_stretches (hr.mono (by decide)) rfl (pa_cons (pv 2) pa_nil)))
  (blkOk_by (by kernel_rfl)) (fun _ _ _ _ _ => (pg_name (i := 7) sc_law.nd rfl (by first | exact Or.inl rfl | exact Or.inr rfl))) (fun _ _ _ _ _ => (pts_one (pt_cmpR op_eq (pe_ix (ix_listK K) (pv 2) (pe_ix (ix_tupK K) (pv 7) pe_int (fun _ _ => rfl)) (fun _ _ => rfl)) (pv 8) (nomark _)))) (fun _ _ _ _ _ => (pv 7)))
  (pss_cons (ps_setLc (i := 10) (own := [("_law_pair", 7)]) rfl sc_law.nd rfl rfl (sw_true rfl rfl rfl (by kernel_rfl)) (pi_listK K (pv 9))
  (blkOk_by (by kernel_rfl)) (fun _ _ _ _ _ => (pg_name (i := 7) sc_law.nd rfl (by first | exact Or.inl rfl | exact Or.inr rfl))) (fun _ _ _ _ _ => pts_nil) (fun _ _ _ _ _ => (pe_ix (ix_tupK K) (pv 7) pe_int (fun _ _ => rfl))))
  (pss_one (ps_if (PW.pt (pw_and (pt_cmpR (op_neDK K hr) (pv 9) (pe_lst pa_nil) (nomark _)) (pw_and1 (pt_cmpR (op_neDK K hr) (pv 10) (pe_op op_cat (pe_lst (pa_cons (pe_bmK K PySem.F.plainAttrs_list PySem.F.slot_list_index PySem.F.type_list_index (mt_indexK K) (pv 2) (pa_cons (pv 8) pa_nil)) pa_nil)) (pe_lc (own := [("_law_pair", 7)]) rfl sc_law.nd (pi_listK K (pe_slice (sl_listK K) (pv 9) po_none (po_some (pe_un un_neg pe_int))))
  (blkOk_by (by kernel_rfl)) (fun _ _ _ _ _ => (pg_name (i := 7) sc_law.nd rfl (by first | exact Or.inl rfl | exact Or.inr rfl))) (fun _ _ _ _ _ => pts_nil) (fun _ _ _ _ _ => (pe_ix (ix_tupK K) (pv 7) pe_int (fun _ _ => rfl))))) (nomark _)))))
  (pss_one (ps_ret pe_bl))
  pss_nil)))))
  (pss_one (ps_ret pe_bl))))))), ?_⟩
    walk_at "go"
    intro t pn pw H1 nms ws s1 ⟨npn, npw, npp⟩ ht hpn hpw dr
    have hwl : ws.length ≤ 63 := by rw [dr.len]; exact hl
    have hok := dr.ok
    walk_at "go"
    intro pd H2 yd s2 npd hpd hyd
    have hyd := dps_out hyd
    walk_at "go"
    intro ph nph
    have sh : Same H2 (upd H2 ph (.lst (ws.map V.str))) := same_new nph
    have hw3 : (upd H2 ph (.lst (ws.map V.str))) pw = some (.lst (ws.map V.str)) := upd_old nph (s2 _ _ hpw)
    have hn3 : (upd H2 ph (.lst (ws.map V.str))) pn = some (.lst (nms.map V.str)) := upd_old nph (s2 _ _ hpn)
    have hd3 : (upd H2 ph (.lst (ws.map V.str))) pd = some (.lst yd) := upd_old nph hpd
    have hyd3 := DpAll.mono sh hyd
    have hh3 : (upd H2 ph (.lst (ws.map V.str))) ph = some (.lst (ws.map V.str)) := upd_same
    have hshd := strD_sh ws ws.length
    have hshw := Sh.strs hok
    walk_at "go"
    generalize upd H2 ph (.lst (ws.map V.str)) = H3 at *
    refine for_L (List.range 2) (wk_rng0 2) (fun i σ H' => ∃ v5 v6 v7, σ = [some (.ref a), some (.ref pn), some (.ref pw), some (.ref pd), some (.ref ph), v5, v6, v7, none, none, none] ∧ Same H3 H') ?_ ?_ ?_ ?_
    · exact ⟨none, none, none, rfl, Same.refl _⟩
    · exact fun _ _ _ _ _ => trivial
    · rintro i j σ H' D' L hj ⟨v5, v6, v7, rfl, s4⟩
      walk_at "go"
      intro p H5 ys s5 np hp hys
      have hys2 := dps_out hys
      have hyl := DpAll.len hys
      have hsl : (strD ws ws.length).length ≤ ws.length := by
        unfold strD
        rw [List.length_map]
        refine Nat.le_trans (List.length_filter_le _ _) ?_
        rw [List.length_range]
        exact Nat.le_refl _
      have hyd5 := DpAll.mono (s4.trans s5) hyd3
      have hd5 := (s4.trans s5) _ _ hd3
      have hw5 := (s4.trans s5) _ _ hw3
      have hh5 := (s4.trans s5) _ _ hh3
      have e1 := hshd.refl
      have e2 := hshw.refl
      walk_at "go"
      have hyi : H5 p = some (.lst (ys.map id)) := by rw [List.map_id]; exact hp
      refine lc_valsL (f := id) ys (wk_list _ ys) (fun _ => true) (fun _ => .bl true) (size_of_lt (by omega)) (fun H s => s.seq (SqL.of hyi)) ?_ ?_
      · intro k y H6 R1 R0 hk s6 k1 k0
        obtain ⟨d, hd, hy⟩ := DpAll.getV hys2 hk
        obtain ⟨m, _, hm⟩ := List.mem_map.mp (List.mem_of_getElem? hd)
        subst hm
        cases hy with
        | tup ht _ =>
          have ht6 := sm_tup s6 ht
          have hty := tyx_tup ht6
          walk_at "go"
          exact k1 rfl _ (Same.refl _)
      · intro D H6 hD s6 h6
        rw [filt_all, bl_map] at h6
        have hp6 := s6 _ _ hp
        walk_at "go"
        refine Kf.ite_f (Kf.not_f (all_true _)) ?_
        walk_at "go"
        refine L.nx _ _ ⟨_, _, _, rfl, ?_⟩
        exact sm_mut ((s4.trans s5).trans s6) ((s4.free np))
    · rintro σ H' ⟨v5, v6, v7, rfl, s4⟩
      walk_at "go"
      refine for_L nms (wk_list V.str nms) (fun i σ H' => ∃ v5 v6 v7 v8 v9 v10, σ = [some (.ref a), some (.ref pn), some (.ref pw), some (.ref pd), some (.ref ph), v5, v6, v7, v8, v9, v10] ∧ Same H3 H') ?_ ?_ ?_ ?_
      · exact ⟨_, _, _, _, _, _, rfl, s4⟩
      · rintro i σ H' _ ⟨_, _, _, _, _, _, _, s⟩
        exact s.seq (SqL.of hn3)
      · rintro i x σ H' D' L hx ⟨v5, v6, v7, v8, v9, v10, rfl, s4⟩
        have hw4 := s4 _ _ hw3
        walk_at "go"
        intro p H5 ys s5 np hp hys
        have hyl := DpAll.len hys
        have hys2 := dps_out hys
        have hsl : (strD ws ws.length).length ≤ ws.length := by
          unfold strD
          rw [List.length_map]
          refine Nat.le_trans (List.length_filter_le _ _) ?_
          rw [List.length_range]
          exact Nat.le_refl _
        walk_at "go"
        have hjl : ((List.range ws.length).filter fun j => (lastAt ws j).isSome).length ≤ ws.length := by
          refine Nat.le_trans (List.length_filter_le _ _) ?_
          rw [List.length_range]
          exact Nat.le_refl _
        refine lc_dpi ((List.range ws.length).filter fun j => (lastAt ws j).isSome) hys2 (SqL.of hp) (fun j => decide (ws[j]? = some x)) (size_of_lt (by omega)) ?_ ?_
        · intro i2 j v H6 R1 R0 hk s6 hv k1 k0
          cases hv with
          | tup ht hxs =>
            rename_i t2 xs
            obtain ⟨v1, hv1, hi1⟩ := DpAll.get (i := 1) hxs rfl
            cases hi1
            have hjl : j < ws.length := List.mem_range.mp (List.mem_filter.mp (List.mem_of_getElem? hk)).1
            have hjx := List.getElem?_eq_getElem hjl
            have gj := get_str hjx
            have g1 : atI xs 1 = some (.int (j : Nat)) := atI_nat (j := 1) hv1
            have hw6 := (s5.trans s6) _ _ hw4
            rw [hjx] at k1 k0
            walk_at "go"
            rw [str_dec]
            refine ite2 (fun c => ?_) (fun c => ?_)
            · walk_at "go"
              exact k1 c _ (Same.refl _)
            · exact k0 (by rw [Bool.not_eq_true] at c; exact c) _ (Same.refl _)
        · intro D H6 zs hD s6 h6 hz6
          have hz6 := DpAll.mono s6 hz6
          change DpAll K H6 zs ((laters ws x ws.length).map _) at hz6
          walk_at "go"
          have hll : (laters ws x ws.length).length ≤ ws.length := Nat.le_trans (List.length_filter_le _ _) hjl
          refine lc_dpv (laters ws x ws.length) hz6 (SqL.of h6) (fun _ => true) (fun j => optV (lastAt ws j)) (size_of_lt (by omega)) ?_ ?_
          · intro i2 j v H7 R1 R0 hk s7 hv k1 k0
            cases hv with
            | tup ht hxs =>
              rename_i t2 xs
              obtain ⟨v0, hv0, hi0⟩ := DpAll.get (i := 0) hxs rfl
              have g0 : atI xs 0 = some v0 := atI_nat (j := 0) hv0
              have e0 := optV_of hi0
              subst e0
              walk_at "go"
              exact k1 rfl _ (Same.refl _)
          · intro D2 H7 hD2 s7 h7
            rw [filt_all] at h7
            have hD7 := s7 _ _ h6
            have hz7 := DpAll.mono s7 hz6
            have hw7 := (((s4.trans s5).trans s6).trans s7) _ _ hw3
            have n7 := (((s4.trans s5).trans s6).trans s7)
            have hsh : ∀ js : List Nat, Sh 2 (.list (js.map fun j => PyData.tuple [optD (lastAt ws j), .int (j : Nat)])) := fun js => Sh.list (k := 1) fun d hd => by
              obtain ⟨j, _, rfl⟩ := List.mem_map.mp hd
              exact Sh.tuple (k := 0) fun e he => by
                rcases List.mem_cons.mp he with rfl | he
                · exact Sh.opt _
                · rw [List.mem_singleton.mp he]
                  exact Sh.int _
            have hs2 := hsh (laters ws x ws.length)
            walk_at "go"
            intro e8 ne8
            walk_at "go"
            rw [eqv_nil]
            rcases laters_law ws x ws.length with ⟨_, hnil, _⟩ | ⟨f1, hf1, hf2, hf3, hf4, _⟩
            · rw [hnil]
              walk_at "go"
              exact L.nx _ _ ⟨_, _, _, _, _, _, rfl, sm_ext ne8 n7⟩
            · cases hls : (laters ws x ws.length).isEmpty with
              | true =>
                rw [List.isEmpty_iff.mp hls]
                walk_at "go"
                exact L.nx _ _ ⟨_, _, _, _, _, _, rfl, sm_ext ne8 n7⟩
              | false =>
                have hne : (!(List.map (fun j => PyData.tuple [optD (lastAt ws j), .int (j : Nat)]) (laters ws x ws.length)).isEmpty) = true := by
                  rw [List.isEmpty_map, hls]
                  rfl
                refine ite_t hne ?_
                have hfx : (List.map V.str ws)[f1]? = some (.str x) := by rw [List.getElem?_map, hf1]; rfl
                have hw8 := upd_old (o := .lst []) ne8 hw7
                have hD8 := upd_old (o := .lst []) ne8 hD7
                have eq1 : eqV (.str x) (.str x) = true := by unfold eqV; exact beq_self_eq_true _
                have eq2 : ∀ (m : Nat) (z' : V), m < f1 → (List.map V.str ws)[m]? = some z' → eqV z' (.str x) = false := fun m z' hm hz' => by
                  rw [List.getElem?_map] at hz'
                  obtain ⟨y, hy, rfl⟩ := Option.map_eq_some_iff.mp hz'
                  unfold eqV
                  have hyx : y ≠ x := fun e => hf3 m hm (by rw [hy, e])
                  exact beq_eq_false_iff_ne.mpr hyx
                have fl : (List.map V.str ws).all flatV = true := List.all_eq_true.mpr fun v hv => by
                  obtain ⟨y, _, rfl⟩ := List.mem_map.mp hv
                  rfl
                have fx : flatV (.str x) = true := rfl
                walk_at "go"
                intro p9 np9
                walk_at "go"
                intro pa npa
                rw [cut_init]
                have sA : Same H7 (upd (upd (upd H7 e8 (.lst [])) p9 (.lst [.int (f1 : Nat)])) pa (.lst zs.dropLast)) := sm_ext npa (sm_ext np9 (same_new ne8))
                have hz8 := DpAll.mono sA (dp_drop hz7)
                have hD2 := sA _ _ h7
                have h9 : (upd (upd (upd H7 e8 (.lst [])) p9 (.lst [.int (f1 : Nat)])) pa (.lst zs.dropLast)) p9 = some (.lst [.int (f1 : Nat)]) := upd_old npa upd_same
                have hpa : (upd (upd (upd H7 e8 (.lst [])) p9 (.lst [.int (f1 : Nat)])) pa (.lst zs.dropLast)) pa = some (.lst zs.dropLast) := upd_same
                generalize (upd (upd (upd H7 e8 (.lst [])) p9 (.lst [.int (f1 : Nat)])) pa (.lst zs.dropLast)) = H8 at *
                have hln : (laters ws x ws.length) ≠ [] := fun e => by rw [e] at hls; cases hls
                have hdl : (laters ws x ws.length).dropLast.length + 1 ≤ 300 := by
                  rw [List.length_dropLast]
                  have := List.length_pos_iff.mpr hln
                  omega
                have ebeg : (laters ws x ws.length).map (fun j => optV (lastAt ws j)) = (((f1 :: (laters ws x ws.length).dropLast).map fun (j : Nat) => (j : Int))).map V.int := by
                  have e1 : (laters ws x ws.length).map (fun j => optV (lastAt ws j)) = ((laters ws x ws.length).map (lastAt ws)).map optV := by rw [List.map_map]; rfl
                  rw [e1, hf4, List.dropLast_cons_of_ne_nil hln, List.map_map, List.map_map]
                  rfl
                rw [ebeg] at hD2
                walk_at "go"
                refine lc_dpv (laters ws x ws.length).dropLast hz8 (SqL.of hpa) (fun _ => true) (fun (j : Nat) => .int (j : Nat)) (size_of_lt (by omega)) ?_ ?_
                · intro i2 j v H9 R1 R0 hk s9 hv k1 k0
                  cases hv with
                  | tup ht hxs =>
                    rename_i t2 xs
                    obtain ⟨v1, hv1, hi1⟩ := DpAll.get (i := 1) hxs rfl
                    cases hi1
                    have g1 : atI xs 1 = some (.int (j : Nat)) := atI_nat (j := 1) hv1
                    walk_at "go"
                    exact k1 rfl _ (Same.refl _)
                · intro D4 H9 hD4 s9 h4
                  rw [filt_all, int_map] at h4
                  have h99 := s9 _ _ h9
                  have hD29 := s9 _ _ hD2
                  have n9 := (n7.trans sA).trans s9
                  walk_at "go"
                  intro pc npc
                  have hcat : [V.int (f1 : Nat)] ++ ((laters ws x ws.length).dropLast.map fun (j : Nat) => (j : Int)).map V.int = (((f1 :: (laters ws x ws.length).dropLast).map fun (j : Nat) => (j : Int))).map V.int := rfl
                  rw [hcat]
                  have hrf := Sh.refl (Sh.ints (ns := ((f1 :: (laters ws x ws.length).dropLast).map fun (j : Nat) => (j : Int))))
                  have dA : Dp K (upd H9 pc (.lst ((((f1 :: (laters ws x ws.length).dropLast).map fun (j : Nat) => (j : Int))).map V.int))) (.ref D2) (.list (((f1 :: (laters ws x ws.length).dropLast).map fun (j : Nat) => (j : Int)).map .int)) := .lst (SqL.of (upd_old npc hD29)) dp_ints
                  have dB : Dp K (upd H9 pc (.lst ((((f1 :: (laters ws x ws.length).dropLast).map fun (j : Nat) => (j : Int))).map V.int))) (.ref pc) (.list (((f1 :: (laters ws x ws.length).dropLast).map fun (j : Nat) => (j : Int)).map .int)) := .lst (SqL.of upd_same) dp_ints
                  refine ⟨_, _, dA, dB, Sh.ed Sh.ints, Sh.ed Sh.ints, ?_⟩
                  walk_at "go"
                  exact L.nx _ _ ⟨_, _, _, _, _, _, rfl, sm_ext npc n9⟩
      · rintro σ H' ⟨v5, v6, v7, v8, v9, v10, rfl, s4⟩
        walk_at "go"
        exact q _
theorem law_all {f : Addr} {fd : FuncData} (F : Fun K "law" "law" s_law f fd) (B : BN mg) (g_LETTERS : GStr mg "LETTERS" Lett) (g_MOST_LETTERS : GInt mg "MOST_LETTERS" 8) (g_MOST_WISHES : GInt mg "MOST_WISHES" 300)
    (F_is_name : FunG K mg "is_name" s_is_name) (F_need_wishes : FunG K mg "need_wishes" s_need_wishes) (F_last_wishes : FunG K mg "last_wishes" s_last_wishes) (F_stretches : FunG K mg "stretches" s_stretches)
    (F__law_mixed : FunG K mg "_law_mixed" s__law_mixed) (F__law_names : FunG K mg "_law_names" s__law_names) (F__law_drawn : FunG K mg "_law_drawn" s__law_drawn) (F__law_places : FunG K mg "_law_places" s__law_places) (F__law_stretches : FunG K mg "_law_stretches" s__law_stretches) :
    FnOk P w K mg base CX0 4 f fd ["_law_script"] (sp_law K) := by
  have C_is_name := cal_is_name (P := P) (w := w) (base := base) F_is_name B g_LETTERS g_MOST_LETTERS
  have C_need_wishes := cal_need_wishes F_need_wishes B g_MOST_WISHES C_is_name
  have C_last_wishes := cal_last_wishes (P := P) (w := w) (base := base) F_last_wishes B
  have C_stretches := cal_stretches F_stretches B C_need_wishes C_last_wishes
  have C__law_mixed := cal__law_mixed (P := P) (w := w) (base := base) F__law_mixed
  have C__law_names := cal__law_names (P := P) (w := w) (base := base) F__law_names B
  have C__law_drawn := cal__law_drawn F__law_drawn B C__law_mixed C__law_names
  have C__law_stretches := cal__law_stretches (P := P) (w := w) (base := base) F__law_stretches B
  exact law_ok F B C__law_drawn C__law_stretches C_stretches
end
end Kf

namespace Kf
open PySem PySem.Spec PyProof.Rows L2
theorem all_mk {l : PySem.W.OpenLaw} {w : World} {K : PySem.W.Frag} {h : Heap} {mg : Str → Option Value} {fa : Addr} (X : K.In h) (G : h.Ns mainGlobals mg) (hfa : mg "law" = some (.ref fa))
    {f0 : Addr} {od0 an0 : Option Addr} {sl0 : Array (Option Value)} {oc0 kV0 dc0 pm0 cd0 ct0 : Value}
    {f1 : Addr} {od1 an1 : Option Addr} {sl1 : Array (Option Value)} {oc1 kV1 dc1 pm1 cd1 ct1 : Value}
    {f2 : Addr} {od2 an2 : Option Addr} {sl2 : Array (Option Value)} {oc2 kV2 dc2 pm2 cd2 ct2 : Value}
    {f3 : Addr} {od3 an3 : Option Addr} {sl3 : Array (Option Value)} {oc3 kV3 dc3 pm3 cd3 ct3 : Value}
    {f4 : Addr} {od4 an4 : Option Addr} {sl4 : Array (Option Value)} {oc4 kV4 dc4 pm4 cd4 ct4 : Value}
    {f5 : Addr} {od5 an5 : Option Addr} {sl5 : Array (Option Value)} {oc5 kV5 dc5 pm5 cd5 ct5 : Value}
    {f6 : Addr} {od6 an6 : Option Addr} {sl6 : Array (Option Value)} {oc6 kV6 dc6 pm6 cd6 ct6 : Value}
    {f7 : Addr} {od7 an7 : Option Addr} {sl7 : Array (Option Value)} {oc7 kV7 dc7 pm7 cd7 ct7 : Value}
    {f8 : Addr} {od8 an8 : Option Addr} {sl8 : Array (Option Value)} {oc8 kV8 dc8 pm8 cd8 ct8 : Value}
    {f9 : Addr} {od9 an9 : Option Addr} {sl9 : Array (Option Value)} {oc9 kV9 dc9 pm9 cd9 ct9 : Value}
    {t_LETTERS : Tok}
    {t_MOST_LETTERS : Tok}
    {t_MOST_WISHES : Tok}
    (a0 : PySem.W.nsIn K mainGlobals "is_name" = some (some (.ref f0))) (l0 : K.lookup f0 = some ⟨oc0, od0, .func (PySem.W.fnOf "is_name" "is_name" (defArgs s_is_name) (defBody s_is_name) (defScope s_is_name) .none kV0 dc0 pm0 an0 cd0 ct0), sl0⟩) (c0 : PySem.W.codeIn K cd0 "is_name" = true) (k0 : PySem.W.keepIn K (.ref f0) = true)
    (a1 : PySem.W.nsIn K mainGlobals "need_wishes" = some (some (.ref f1))) (l1 : K.lookup f1 = some ⟨oc1, od1, .func (PySem.W.fnOf "need_wishes" "need_wishes" (defArgs s_need_wishes) (defBody s_need_wishes) (defScope s_need_wishes) .none kV1 dc1 pm1 an1 cd1 ct1), sl1⟩) (c1 : PySem.W.codeIn K cd1 "need_wishes" = true) (k1 : PySem.W.keepIn K (.ref f1) = true)
    (a2 : PySem.W.nsIn K mainGlobals "last_wishes" = some (some (.ref f2))) (l2 : K.lookup f2 = some ⟨oc2, od2, .func (PySem.W.fnOf "last_wishes" "last_wishes" (defArgs s_last_wishes) (defBody s_last_wishes) (defScope s_last_wishes) .none kV2 dc2 pm2 an2 cd2 ct2), sl2⟩) (c2 : PySem.W.codeIn K cd2 "last_wishes" = true) (k2 : PySem.W.keepIn K (.ref f2) = true)
    (a3 : PySem.W.nsIn K mainGlobals "stretches" = some (some (.ref f3))) (l3 : K.lookup f3 = some ⟨oc3, od3, .func (PySem.W.fnOf "stretches" "stretches" (defArgs s_stretches) (defBody s_stretches) (defScope s_stretches) .none kV3 dc3 pm3 an3 cd3 ct3), sl3⟩) (c3 : PySem.W.codeIn K cd3 "stretches" = true) (k3 : PySem.W.keepIn K (.ref f3) = true)
    (a4 : PySem.W.nsIn K mainGlobals "_law_mixed" = some (some (.ref f4))) (l4 : K.lookup f4 = some ⟨oc4, od4, .func (PySem.W.fnOf "_law_mixed" "_law_mixed" (defArgs s__law_mixed) (defBody s__law_mixed) (defScope s__law_mixed) .none kV4 dc4 pm4 an4 cd4 ct4), sl4⟩) (c4 : PySem.W.codeIn K cd4 "_law_mixed" = true) (k4 : PySem.W.keepIn K (.ref f4) = true)
    (a5 : PySem.W.nsIn K mainGlobals "_law_names" = some (some (.ref f5))) (l5 : K.lookup f5 = some ⟨oc5, od5, .func (PySem.W.fnOf "_law_names" "_law_names" (defArgs s__law_names) (defBody s__law_names) (defScope s__law_names) .none kV5 dc5 pm5 an5 cd5 ct5), sl5⟩) (c5 : PySem.W.codeIn K cd5 "_law_names" = true) (k5 : PySem.W.keepIn K (.ref f5) = true)
    (a6 : PySem.W.nsIn K mainGlobals "_law_drawn" = some (some (.ref f6))) (l6 : K.lookup f6 = some ⟨oc6, od6, .func (PySem.W.fnOf "_law_drawn" "_law_drawn" (defArgs s__law_drawn) (defBody s__law_drawn) (defScope s__law_drawn) .none kV6 dc6 pm6 an6 cd6 ct6), sl6⟩) (c6 : PySem.W.codeIn K cd6 "_law_drawn" = true) (k6 : PySem.W.keepIn K (.ref f6) = true)
    (a7 : PySem.W.nsIn K mainGlobals "_law_places" = some (some (.ref f7))) (l7 : K.lookup f7 = some ⟨oc7, od7, .func (PySem.W.fnOf "_law_places" "_law_places" (defArgs s__law_places) (defBody s__law_places) (defScope s__law_places) .none kV7 dc7 pm7 an7 cd7 ct7), sl7⟩) (c7 : PySem.W.codeIn K cd7 "_law_places" = true) (k7 : PySem.W.keepIn K (.ref f7) = true)
    (a8 : PySem.W.nsIn K mainGlobals "_law_stretches" = some (some (.ref f8))) (l8 : K.lookup f8 = some ⟨oc8, od8, .func (PySem.W.fnOf "_law_stretches" "_law_stretches" (defArgs s__law_stretches) (defBody s__law_stretches) (defScope s__law_stretches) .none kV8 dc8 pm8 an8 cd8 ct8), sl8⟩) (c8 : PySem.W.codeIn K cd8 "_law_stretches" = true) (k8 : PySem.W.keepIn K (.ref f8) = true)
    (a9 : PySem.W.nsIn K mainGlobals "law" = some (some (.ref f9))) (l9 : K.lookup f9 = some ⟨oc9, od9, .func (PySem.W.fnOf "law" "law" (defArgs s_law) (defBody s_law) (defScope s_law) .none kV9 dc9 pm9 an9 cd9 ct9), sl9⟩) (c9 : PySem.W.codeIn K cd9 "law" = true) (k9 : PySem.W.keepIn K (.ref f9) = true)
    (z_len : PySem.W.nsIn K mainGlobals "len" = some none)
    (z_range : PySem.W.nsIn K mainGlobals "range" = some none)
    (z_enumerate : PySem.W.nsIn K mainGlobals "enumerate" = some none)
    (z_isinstance : PySem.W.nsIn K mainGlobals "isinstance" = some none)
    (z_all : PySem.W.nsIn K mainGlobals "all" = some none)
    (z_sum : PySem.W.nsIn K mainGlobals "sum" = some none)
    (z_int : PySem.W.nsIn K mainGlobals "int" = some none)
    (z_list : PySem.W.nsIn K mainGlobals "list" = some none)
    (z_sorted : PySem.W.nsIn K mainGlobals "sorted" = some none)
    (z_min : PySem.W.nsIn K mainGlobals "min" = some none)
    (z_max : PySem.W.nsIn K mainGlobals "max" = some none)
    (z_set : PySem.W.nsIn K mainGlobals "set" = some none)
    (z_zip : PySem.W.nsIn K mainGlobals "zip" = some none)
    (z_dict : PySem.W.nsIn K mainGlobals "dict" = some none)
    (z_tuple : PySem.W.nsIn K mainGlobals "tuple" = some none)
    (z_bool : PySem.W.nsIn K mainGlobals "bool" = some none)
    (z_str : PySem.W.nsIn K mainGlobals "str" = some none)
    (z_ValueError : PySem.W.nsIn K mainGlobals "ValueError" = some none)
    (h_LETTERS : PySem.W.nsIn K mainGlobals "LETTERS" = some (some (.str Lett t_LETTERS)))
    (h_MOST_LETTERS : PySem.W.nsIn K mainGlobals "MOST_LETTERS" = some (some (.int 8 t_MOST_LETTERS)))
    (h_MOST_WISHES : PySem.W.nsIn K mainGlobals "MOST_WISHES" = some (some (.int 300 t_MOST_WISHES))) :
    ∃ fd : FuncData, (∀ (s : Shared) (v : Value), BindsTo s fd ⟨[v], []⟩ [("_law_script", v)]) ∧ ∀ base : Heap, K.In base → base.Ns mainGlobals mg → FnOk l.prog w K mg base CX0 4 fa fd ["_law_script"] (sp_law K) := by
  have e := hfa.symm.trans (PySem.W.mg_of X G a9)
  cases e
  have B : BN mg := ⟨PySem.W.mg_none_of X G z_len, PySem.W.mg_none_of X G z_range, PySem.W.mg_none_of X G z_enumerate, PySem.W.mg_none_of X G z_isinstance, PySem.W.mg_none_of X G z_all, PySem.W.mg_none_of X G z_sum, PySem.W.mg_none_of X G z_int, PySem.W.mg_none_of X G z_list, PySem.W.mg_none_of X G z_sorted, PySem.W.mg_none_of X G z_min, PySem.W.mg_none_of X G z_max, PySem.W.mg_none_of X G z_set, PySem.W.mg_none_of X G z_zip, PySem.W.mg_none_of X G z_dict, PySem.W.mg_none_of X G z_tuple, PySem.W.mg_none_of X G z_bool, PySem.W.mg_none_of X G z_str, PySem.W.mg_none_of X G z_ValueError⟩
  have g_LETTERS : GStr mg "LETTERS" Lett := ⟨_, PySem.W.mg_of X G h_LETTERS⟩
  have g_MOST_LETTERS : GInt mg "MOST_LETTERS" 8 := ⟨_, PySem.W.mg_of X G h_MOST_LETTERS⟩
  have g_MOST_WISHES : GInt mg "MOST_WISHES" 300 := ⟨_, PySem.W.mg_of X G h_MOST_WISHES⟩
  have F_is_name : FunG K mg "is_name" s_is_name := ⟨_, _, fun_mk l0 c0 k0, PySem.W.mg_of X G a0⟩
  have F_need_wishes : FunG K mg "need_wishes" s_need_wishes := ⟨_, _, fun_mk l1 c1 k1, PySem.W.mg_of X G a1⟩
  have F_last_wishes : FunG K mg "last_wishes" s_last_wishes := ⟨_, _, fun_mk l2 c2 k2, PySem.W.mg_of X G a2⟩
  have F_stretches : FunG K mg "stretches" s_stretches := ⟨_, _, fun_mk l3 c3 k3, PySem.W.mg_of X G a3⟩
  have F__law_mixed : FunG K mg "_law_mixed" s__law_mixed := ⟨_, _, fun_mk l4 c4 k4, PySem.W.mg_of X G a4⟩
  have F__law_names : FunG K mg "_law_names" s__law_names := ⟨_, _, fun_mk l5 c5 k5, PySem.W.mg_of X G a5⟩
  have F__law_drawn : FunG K mg "_law_drawn" s__law_drawn := ⟨_, _, fun_mk l6 c6 k6, PySem.W.mg_of X G a6⟩
  have F__law_places : FunG K mg "_law_places" s__law_places := ⟨_, _, fun_mk l7 c7 k7, PySem.W.mg_of X G a7⟩
  have F__law_stretches : FunG K mg "_law_stretches" s__law_stretches := ⟨_, _, fun_mk l8 c8 k8, PySem.W.mg_of X G a8⟩
  exact ⟨PySem.W.fnOf "law" "law" (defArgs s_law) (defBody s_law) (defScope s_law) .none kV9 dc9 pm9 an9 cd9 ct9, fun s v => .of_eq rfl, fun base _ _ => law_all (P := l.prog) (w := w) (base := base) (fun_mk (st := s_law) l9 c9 k9) B g_LETTERS g_MOST_LETTERS g_MOST_WISHES F_is_name F_need_wishes F_last_wishes F_stretches F__law_mixed F__law_names F__law_drawn F__law_places F__law_stretches⟩
end Kf
open PySem PySem.W PyProof.Rows
set_option maxHeartbeats 0 in
theorem PySem.Challenge.cw_keepfew_k10_stretches_holds : PySem.Challenge.rw_keepfew_k10_stretches.Holds := by
  w_on; o_law; k_head; (case hw => w_witness2)
  k_fill
  refine L2.walk_of (l := PySem.Challenge.rw_keepfew_k10_stretches) (n := 63) (k := 4) (x := "_law_script") (CX := fun _ => L2.CX0) (sp := fun w => Kf.sp_law _) rfl (by decide) rfl ⟨rfl, by decide, by decide⟩ (fun w h Y => PySem.W.kIn_of Y) ?F (fun _ _ a ns hl _ hS => ⟨a, ns, rfl, hS, hl, fun _ => rfl⟩) (fun _ _ _ _ _ h => h)
  case F =>
    intro w mg fa h KX G hmg
    refine' Kf.all_mk KX G hmg ?a0 ?l0 ?c0 ?k0 ?a1 ?l1 ?c1 ?k1 ?a2 ?l2 ?c2 ?k2 ?a3 ?l3 ?c3 ?k3 ?a4 ?l4 ?c4 ?k4 ?a5 ?l5 ?c5 ?k5 ?a6 ?l6 ?c6 ?k6 ?a7 ?l7 ?c7 ?k7 ?a8 ?l8 ?c8 ?k8 ?a9 ?l9 ?c9 ?k9 ?z_len ?z_range ?z_enumerate ?z_isinstance ?z_all ?z_sum ?z_int ?z_list ?z_sorted ?z_min ?z_max ?z_set ?z_zip ?z_dict ?z_tuple ?z_bool ?z_str ?z_ValueError ?h_LETTERS ?h_MOST_LETTERS ?h_MOST_WISHES
    (case a0 => k_is); (case l0 => k_is); (case c0 => k_is); (case k0 => k_is); (case a1 => k_is); (case l1 => k_is); (case c1 => k_is); (case k1 => k_is); (case a2 => k_is); (case l2 => k_is); (case c2 => k_is); (case k2 => k_is); (case a3 => k_is); (case l3 => k_is); (case c3 => k_is); (case k3 => k_is); (case a4 => k_is); (case l4 => k_is); (case c4 => k_is); (case k4 => k_is); (case a5 => k_is); (case l5 => k_is); (case c5 => k_is); (case k5 => k_is); (case a6 => k_is); (case l6 => k_is); (case c6 => k_is); (case k6 => k_is); (case a7 => k_is); (case l7 => k_is); (case c7 => k_is); (case k7 => k_is); (case a8 => k_is); (case l8 => k_is); (case c8 => k_is); (case k8 => k_is); (case a9 => k_is); (case l9 => k_is); (case c9 => k_is); (case k9 => k_is); (case z_len => k_is); (case z_range => k_is); (case z_enumerate => k_is); (case z_isinstance => k_is); (case z_all => k_is); (case z_sum => k_is); (case z_int => k_is); (case z_list => k_is); (case z_sorted => k_is); (case z_min => k_is); (case z_max => k_is); (case z_set => k_is); (case z_zip => k_is); (case z_dict => k_is); (case z_tuple => k_is); (case z_bool => k_is); (case z_str => k_is); (case z_ValueError => k_is); (case h_LETTERS => k_is); (case h_MOST_LETTERS => k_is); (case h_MOST_WISHES => k_is)

