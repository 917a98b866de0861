import PyProof.Rows.All
import Wide.All
import OpenK.AllK
import Wide.FinOn
import HandS.ForMost
import HandS.Walk
import HandS.IsInst
import HandS.TupAny
import PyProof.SeqRoads2
import PySem.Challenge.RW_keepfew_k09_whole_shelf_within_shelf
import HandS.Strs
import HandS.SortKw
set_option Elab.async false
set_option linter.all false
set_option maxRecDepth 100000
set_option maxHeartbeats 4000000
set_option Elab.async false
set_option linter.all false
set_option maxRecDepth 100000
/-! C0: short words over the hand layer: callees by name, builtins by name, extensions of a heap, data, comprehensions over data. -/
namespace Kf
open PySem PySem.Spec PyProof.Rows L2

/-! ### the built-in names are not taken by the module -/
structure BN (mg : Str → Option Value) : Prop where
  len : mg "len" = none
  range : mg "range" = none
  enumerate : mg "enumerate" = none
  isinstance : mg "isinstance" = none
  all : mg "all" = none
  sum : mg "sum" = none
  int : mg "int" = none
  list : mg "list" = none
  sorted : mg "sorted" = none
  min : mg "min" = none
  max : mg "max" = none
  set : mg "set" = none
  zip : mg "zip" = none
  dict : mg "dict" = none
  tuple : mg "tuple" = none
  bool : mg "bool" = none
  str : mg "str" = none
  ValueError : mg "ValueError" = none
theorem bt_len : bootBuiltins "len" = some (.builtin "len") := by decide +kernel
theorem bt_isinstance : bootBuiltins "isinstance" = some (.builtin "isinstance") := by decide +kernel
theorem bt_all : bootBuiltins "all" = some (.builtin "all") := by decide +kernel
theorem bt_sum : bootBuiltins "sum" = some (.builtin "sum") := by decide +kernel
theorem bt_sorted : bootBuiltins "sorted" = some (.builtin "sorted") := by decide +kernel
theorem bt_min : bootBuiltins "min" = some (.builtin "min") := by decide +kernel
theorem bt_max : bootBuiltins "max" = some (.builtin "max") := by decide +kernel
theorem bt_int : bootBuiltins "int" = some (.type "int") := by decide +kernel
theorem bt_list : bootBuiltins "list" = some (.type "list") := by decide +kernel
theorem bt_tuple : bootBuiltins "tuple" = some (.type "tuple") := by decide +kernel
theorem bt_bool : bootBuiltins "bool" = some (.type "bool") := by decide +kernel
theorem bt_str : bootBuiltins "str" = some (.type "str") := by decide +kernel
theorem bt_set : bootBuiltins "set" = some (.type "set") := by decide +kernel
theorem bt_dict : bootBuiltins "dict" = some (.type "dict") := by decide +kernel
theorem bt_ValueError : bootBuiltins "ValueError" = some (.type "ValueError") := by decide +kernel

/-! ### defs and constants by their names -/
section
variable (P : Program) (w : World) (K : PySem.W.Frag) (mg : Str → Option Value) (base : Heap)
/-- a def of the text at the top -/
def FunG (x : Str) (st : Stmt) : Prop := ∃ f fd, Fun K x x st f fd ∧ mg x = some (.ref f)
/-- it keeps its promise -/
def Cal (x : Str) (k : Nat) (ps : List Str) (sp : Sp) : Prop := ∃ f fd, FnOk P w K mg base CX0 k f fd ps sp ∧ mg x = some (.ref f) ∧ PySem.W.keepIn K (.ref f) = true ∧ Binds K fd ps []
/-- a method of the class at C -/
def FunM (C : Addr) (m q : Str) (st : Stmt) : Prop := ∃ f fd, Fun K m q st f fd ∧ Meth K C m f
def CalM (C : Addr) (m : Str) (k : Nat) (ps : List Str) (sp : Sp) : Prop := ∃ f fd, FnOk P w K mg base CX0 k f fd ps sp ∧ Meth K C m f ∧ Binds K fd ps []
/-- a class that is made, by its __init__ -/
def FunI (x : Str) (C : Addr) (q : Str) (st : Stmt) : Prop := ∃ f fd, Fun K "__init__" q st f fd ∧ Mk K C f ∧ mg x = some (.ref C)
def CalI (x : Str) (C : Addr) (k : Nat) (ps : List Str) (sp : Sp) : Prop := ∃ f fd, FnOk P w K mg base CX0 k f fd ps sp ∧ Mk K C f ∧ mg x = some (.ref C) ∧ Binds K fd ps []
end
def GStr (mg : Str → Option Value) (x v : Str) : Prop := ∃ t, mg x = some (.str v t)
def GInt (mg : Str → Option Value) (x : Str) (v : Int) : Prop := ∃ t, mg x = some (.int v t)
section
variable {X : Cx} {x : Str} {k : Nat} {ps : List Str} {sp : Sp} {e : Expr} {es : List Expr} {t : TA} {p pos apos : Pos} {C : Addr} {m : Str} {o : Expr} {ta : TE}
theorem pe_cal (c : Cal X.prog X.w X.K X.mg X.base x k ps sp) (hr : Room k X.A) (hg : Gl X x) (ha : PA X (e :: es) t) (hdb : (x == ("__debug__" : Str)) = false := by decide)
    (he : starEach (e :: es) X.env = (false, eval e X.env) :: starEach es X.env := by rfl) (hpl : (backTo pos (starEach es X.env)).any (·.1) = false := by rfl) :
    PE X (.Call (.Name x p) (e :: es) [] pos) (tCall sp [] E0 t) := by
  obtain ⟨f, fd, F, hm, hk, hb⟩ := c
  exact pe_call F hr hg hm hk hb .nil pass0 ha hdb he hpl
theorem pe_mth {pl : Sem Bool} (he : PE X o ta) (cl : Cls X.K C) (c : CalM X.prog X.w X.K X.mg X.base C m k ps sp) (hr : Room k X.A) (ha : PA X (e :: es) t)
    (hst : starEach (e :: es) X.env = (false, eval e X.env) :: starEach es X.env := by rfl) (hpl : (backTo pos (starEach es X.env)).any (·.1) = false := by rfl)
    (ht : eval (.Call (.Attribute o m apos) (e :: es) [] pos) X.env = (do
      let ov ← eval o X.env
      standAt apos.atName
      let (f, first) ← holding [ov] (getMethod ov m pl)
      callWith pos f first (backTo pos (starEach (e :: es) X.env)) (backToKw pos (keywordEach [] X.env))) := by rfl) :
    PE X (.Call (.Attribute o m apos) (e :: es) [] pos) (tMeth C m sp [] E0 ta t) := by
  obtain ⟨f, fd, F, hm, hb⟩ := c
  exact pe_meth he cl hm F hr hb .nil pass0 ha hst hpl ht
theorem pe_mth0 {pl : Sem Bool} (he : PE X o ta) (cl : Cls X.K C) (c : CalM X.prog X.w X.K X.mg X.base C m k ps sp) (hr : Room k X.A)
    (ht : eval (.Call (.Attribute o m apos) [] [] pos) X.env = (do
      let ov ← eval o X.env
      standAt apos.atName
      let (f, first) ← holding [ov] (getMethod ov m pl)
      callWith pos f first (backTo pos (starEach [] X.env)) (backToKw pos (keywordEach [] X.env))) := by rfl) :
    PE X (.Call (.Attribute o m apos) [] [] pos) (tMeth C m sp [] E0 ta tNil) := by
  obtain ⟨f, fd, F, hm, hb⟩ := c
  exact pe_meth0 he cl hm F hr hb .nil pass0 ht
theorem pe_mk (c : CalI X.prog X.w X.K X.mg X.base x C k ps sp) (hr : Room (k + 1) X.A) (hg : Gl X x) (ha : PA X (e :: es) t) (hdb : (x == ("__debug__" : Str)) = false := by decide)
    (he : starEach (e :: es) X.env = (false, eval e X.env) :: starEach es X.env := by rfl) (hpl : (backTo pos (starEach es X.env)).any (·.1) = false := by rfl) :
    PE X (.Call (.Name x p) (e :: es) [] pos) (tMake C sp [] E0 t) := by
  obtain ⟨f, fd, F, M, hm, hb⟩ := c
  exact pe_make M F hr hg hm hb .nil pass0 ha hdb he hpl
theorem pe_gstr {v : Str} (hg : Gl X x) (h : GStr X.mg x v) (hd : (x == ("__debug__" : Str)) = false := by decide) : PE X (.Name x pos) (tC (.str v)) := by
  obtain ⟨u, h⟩ := h
  exact pe_glob hg h ⟨u, rfl⟩ hd
theorem pe_gint {v : Int} (hg : Gl X x) (h : GInt X.mg x v) (hd : (x == ("__debug__" : Str)) = false := by decide) : PE X (.Name x pos) (tC (.int v)) := by
  obtain ⟨u, h⟩ := h
  exact pe_glob hg h ⟨u, rfl⟩ hd
theorem pe_gcls (hg : Gl X x) (h : X.mg x = some (.ref C)) (hd : (x == ("__debug__" : Str)) = false := by decide) : PE X (.Name x pos) (tC (.ref C)) := pe_glob hg h rfl hd
end

/-! ### loops behind a door that is not unfolded -/
@[irreducible] def Door (p : Prop) : Prop := p
theorem Door.eq (p : Prop) : Door p = p := by unfold Door; rfl
theorem Door.mk {p : Prop} (h : p) : Door p := by rw [Door.eq]; exact h
theorem Door.out {p : Prop} (h : Door p) : p := by rw [Door.eq] at h; exact h
def tForD (wi : TI) (g : TG) (tb : TS) : TS := fun D σ H => wi σ H fun J H1 => Door (∃ W : Nat → Nat → L2.St → Hp → Prop, (∃ m, W 0 m σ H1) ∧ ∀ i m σ H, W i m σ H →
  (J.stop i H ∧ D.nx σ H) ∨ (J.go i H ∧ ∃ N : L2.St → Hp → Prop, (∀ σ' H', N σ' H' → ∃ m', m' < m ∧ W (i + 1) m' σ' H') ∧ ∀ x H', J.yld i H x H' → g x σ H' fun σ2 H2 => tb { D with nx := N, ct := N, bk := D.nx } σ2 H2))
theorem tForD_eq (wi : TI) (g : TG) (tb : TS) : tForD wi g tb = tFor wi g tb := by
  funext D σ H
  show wi σ H (fun J H1 => Door _) = wi σ H (fun J H1 => _)
  simp only [Door.eq]
theorem ps_forD {X : Cx} {tg iter : Expr} {body : List Stmt} {wi : TI} {g : TG} {tb : TS} {pos : Pos} (hi : PI X tg iter wi) (hg : PG X tg g) (hb : PSs X body tb)
    (hp : PassesOwn (model X.prog X.w) X.A X.env X.xe := by exact PassesOwn.never) (hc : X.calm = true := by rfl) (hs : ∀ x, foldedSetIterable iter X.env x = pure x := by intro _; rfl) : PS X (.For tg iter body [] pos) (tForD wi g tb) := by
  rw [tForD_eq]
  exact ps_for hp hc hi hg hb hs
/-- a word between a statement and the rest: what follows is shown once -/
def tCutD (t u : TS) : TS := fun D σ H => Door (∃ M : L2.St → Hp → Prop, t { D with nx := M } σ H ∧ ∀ σ' H', M σ' H' → u D σ' H')
theorem pss_cutD {X : Cx} {st : Stmt} {rest : List Stmt} {t u : TS} (h1 : PS X st t) (h2 : PSs X rest u) : PSs X (st :: rest) (tCutD t u) := by
  refine ⟨fun pins s σ H D I h => ?_⟩
  obtain ⟨Mid, hm, hu⟩ := Door.out h
  refine wpAny_execs_cons (thn (h1.run pins s σ H { D with nx := Mid } I hm) fun f s1 q => ?_)
  cases f with
  | next =>
    obtain ⟨σ', H', I', q⟩ := q
    exact h2.run pins s1 σ' H' D I' (hu σ' H' q)
  | ret v => exact q
  | brk => exact q
  | cont => exact q
/-- the ends of a part: nx as told, the rest those of D -/
structure EndsTo (D' D : Ends) (M : L2.St → Hp → Prop) : Prop where
  nx : ∀ σ' H', M σ' H' → D'.nx σ' H'
  rt : ∀ v H', D.rt v H' → D'.rt v H'
  bk : ∀ σ' H', D.bk σ' H' → D'.bk σ' H'
  ct : ∀ σ' H', D.ct σ' H' → D'.ct σ' H'
theorem cut_by {t u : TS} {D : Ends} {σ : L2.St} {H : Hp} (M : L2.St → Hp → Prop) (h1 : ∀ D' : Ends, EndsTo D' D M → t D' σ H) (h2 : ∀ σ' H', M σ' H' → u D σ' H') :
    Door (∃ M : L2.St → Hp → Prop, t { D with nx := M } σ H ∧ ∀ σ' H', M σ' H' → u D σ' H') := Door.mk ⟨M, h1 _ ⟨fun _ _ h => h, fun _ _ h => h, fun _ _ h => h, fun _ _ h => h⟩, h2⟩
def tWhileD (c : TT) (tb : TS) : TS := fun D σ H => Door (tWhile c tb D σ H)
theorem tWhileD_eq (c : TT) (tb : TS) : tWhileD c tb = tWhile c tb := by
  funext D σ H
  show Door _ = _
  rw [Door.eq]
theorem ps_whileD {X : Cx} {c : Expr} {body : List Stmt} {tc : TT} {tb : TS} {pos : Pos} (hc : PT X c tc) (hb : PSs X body tb) (hp : PassesOwn (model X.prog X.w) X.A X.env X.xe := by exact PassesOwn.never) : PS X (.While c body [] pos) (tWhileD tc tb) := by
  rw [tWhileD_eq]
  exact ps_while hp hc hb

theorem ite_t {c : Bool} {A B : Prop} (h : c = true) (a : A) : if c = true then A else B := by
  rw [if_pos h]
  exact a
theorem ite_f {c : Bool} {A B : Prop} (h : c = false) (b : B) : if c = true then A else B := by
  rw [h, if_neg Bool.false_ne_true]
  exact b
theorem size_of_le {n : Nat} (h : n ≤ 1000000) : n ≤ sizeLine := by
  rw [sizeLine_eq]
  omega
theorem size_of_lt {n : Nat} (h : n ≤ 1000000) : n < sizeLine := by
  rw [sizeLine_eq]
  omega
theorem not_f {c : Bool} (h : c = true) : (!c) = false := by rw [h]; rfl
theorem not_t {c : Bool} (h : c = false) : (!c) = true := by rw [h]; rfl
/-! ### extensions -/
section
variable {H H' H'' : Hp} {a p : Addr} {o u : HO} {K : PySem.W.Frag}
theorem same_new (h : H p = none) : Same H (upd H p o) := fun b x e => by
  rw [upd_ne (ne_of_none e h)]
  exact e
theorem sm_mut (e : Same H H') (h : H p = none) : Same H (upd H' p o) := fun b x he => by
  rw [upd_ne (ne_of_none he h)]
  exact e b x he
theorem sm_ext (h : H' p = none) (e : Same H H') : Same H (upd H' p o) := e.trans (same_new h)
theorem sm_mu (h : H p = none) (e : Same H H') : Same H (upd H' p o) := sm_mut e h
theorem sm_tr (e2 : Same H' H'') (e1 : Same H H') : Same H H'' := e1.trans e2
theorem upd_old (h : H p = none) (e : H a = some u) : upd H p o a = some u := by
  rw [upd_ne (ne_of_none e h)]
  exact e
theorem upd_far (h : a ≠ p) (e : H a = some u) : upd H p o a = some u := by
  rw [upd_ne h]
  exact e
theorem sm_rd (e : Same H H') (h : Rd H a u) : Rd H' a u := by
  rcases h with h | ⟨o, h⟩
  · exact .inl (e _ _ h)
  · exact .inr ⟨o, e _ _ h⟩
theorem sm_tup {xs : List V} (e : Same H H') (h : SqT K H a xs) : SqT K H' a xs := by
  rcases h with h | h
  · exact .inl (sm_rd e h)
  · exact .inr h
theorem sm_get (e : Same H H') (h : H a = some u) : H' a = some u := e _ _ h
mutual
theorem Dp.mono (e : Same H H') : ∀ {v : V} {d : PyData}, Dp K H v d → Dp K H' v d
  | _, _, .non => .non
  | _, _, .bl b => .bl b
  | _, _, .int i => .int i
  | _, _, .str x => .str x
  | _, _, .lst h r => .lst (e.seq h) (DpAll.mono e r)
  | _, _, .tup h r => .tup (sm_tup e h) (DpAll.mono e r)
theorem DpAll.mono (e : Same H H') : ∀ {vs : List V} {ds : List PyData}, DpAll K H vs ds → DpAll K H' vs ds
  | _, _, .nil => .nil
  | _, _, .cons h r => .cons (Dp.mono e h) (DpAll.mono e r)
end
theorem DpAll.append : ∀ {vs ws : List V} {ds es : List PyData}, DpAll K H vs ds → DpAll K H ws es → DpAll K H (vs ++ ws) (ds ++ es)
  | _, _, _, _, .nil, r => r
  | _, _, _, _, .cons h q, r => .cons h (DpAll.append q r)
theorem DpAll.len : ∀ {vs : List V} {ds : List PyData}, DpAll K H vs ds → vs.length = ds.length
  | _, _, .nil => rfl
  | _, _, .cons _ r => by rw [List.length_cons, List.length_cons, DpAll.len r]
theorem DpAll.get : ∀ {vs : List V} {ds : List PyData} {i : Nat} {d : PyData}, DpAll K H vs ds → ds[i]? = some d → ∃ v, vs[i]? = some v ∧ Dp K H v d
  | _, _, _, _, .nil, e => by simp at e
  | _, _, 0, _, .cons h _, e => by
    have e := Option.some.inj e
    subst e
    exact ⟨_, rfl, h⟩
  | _, _, i + 1, _, .cons _ r, e => by
    obtain ⟨v, h1, h2⟩ := DpAll.get (i := i) r (by simpa using e)
    exact ⟨v, by simpa using h1, h2⟩
theorem DpAll.getV : ∀ {vs : List V} {ds : List PyData} {i : Nat} {v : V}, DpAll K H vs ds → vs[i]? = some v → ∃ d, ds[i]? = some d ∧ Dp K H v d
  | _, _, _, _, .nil, e => by simp at e
  | _, _, 0, _, .cons h _, e => by
    have e := Option.some.inj e
    subst e
    exact ⟨_, rfl, h⟩
  | _, _, i + 1, _, .cons _ r, e => by
    obtain ⟨v, h1, h2⟩ := DpAll.getV (i := i) r (by simpa using e)
    exact ⟨v, by simpa using h1, h2⟩
theorem DpAll.ints : ∀ {vs : List V} {ns : List Int}, DpAll K H vs (ns.map .int) → vs = ns.map V.int
  | _, [], .nil => rfl
  | _, _ :: _, .cons (.int _) r => by rw [List.map_cons, DpAll.ints r]
theorem DpAll.strs : ∀ {vs : List V} {ns : List Str}, DpAll K H vs (ns.map .str) → vs = ns.map V.str
  | _, [], .nil => rfl
  | _, _ :: _, .cons (.str _) r => by rw [List.map_cons, DpAll.strs r]
theorem DpAll.bls : ∀ {vs : List V} {ns : List Bool}, DpAll K H vs (ns.map .bool) → vs = ns.map V.bl
  | _, [], .nil => rfl
  | _, _ :: _, .cons (.bl _) r => by rw [List.map_cons, DpAll.bls r]
theorem dp_ints : ∀ {ns : List Int}, DpAll K H (ns.map V.int) (ns.map .int)
  | [] => .nil
  | _ :: _ => .cons (.int _) dp_ints
theorem dp_strs : ∀ {ns : List Str}, DpAll K H (ns.map V.str) (ns.map .str)
  | [] => .nil
  | _ :: _ => .cons (.str _) dp_strs
theorem dp_bls : ∀ {ns : List Bool}, DpAll K H (ns.map V.bl) (ns.map .bool)
  | [] => .nil
  | _ :: _ => .cons (.bl _) dp_bls
/-- a list or tuple of data, of which a new list is made by data -/
theorem SqL.dp {xs : List V} {ds : List PyData} (h : SqL K H a xs) (r : DpAll K H xs ds) : Dp K H (.ref a) (.list ds) := .lst h r
end
/-! ### a value that several ways lead to, told once -/
def tJ (t : TE) : TE := fun σ H Q => Door (∃ v : V, (∀ Q' : VK, (∀ H', Same H H' → Q' v H') → t σ H Q') ∧ ∀ H', Same H H' → Q v H')
theorem pe_j {X : Cx} {e : Expr} {t : TE} (h : PE X e t) : PE X e (tJ t) := ⟨fun pins s σ H Q I q => by
  obtain ⟨v, h1, h2⟩ := Door.out q
  exact h.run pins s σ H Q I (h1 Q h2)⟩
theorem join_by {t : TE} {σ : L2.St} {H : Hp} {Q : VK} (v : V) (h1 : ∀ Q' : VK, (∀ H', Same H H' → Q' v H') → t σ H Q') (h2 : ∀ H', Same H H' → Q v H') :
    Door (∃ v : V, (∀ Q' : VK, (∀ H', Same H H' → Q' v H') → t σ H Q') ∧ ∀ H', Same H H' → Q v H') := Door.mk ⟨v, h1, h2⟩
def tJT (t : TT) : TT := fun σ H Q => Door (∃ b : Bool, (∀ Q' : Bool → Hp → Prop, (∀ H', Same H H' → Q' b H') → t σ H Q') ∧ ∀ H', Same H H' → Q b H')
theorem pt_j {X : Cx} {e : Expr} {t : TT} (h : PT X e t) : PT X e (tJT t) := ⟨fun pins s σ H Q I q => by
  obtain ⟨v, h1, h2⟩ := Door.out q
  exact h.run pins s σ H Q I (h1 Q h2)⟩
theorem joint_by {t : TT} {σ : L2.St} {H : Hp} {Q : Bool → Hp → Prop} (b : Bool) (h1 : ∀ Q' : Bool → Hp → Prop, (∀ H', Same H H' → Q' b H') → t σ H Q') (h2 : ∀ H', Same H H' → Q b H') :
    Door (∃ b : Bool, (∀ Q' : Bool → Hp → Prop, (∀ H', Same H H' → Q' b H') → t σ H Q') ∧ ∀ H', Same H H' → Q b H') := Door.mk ⟨b, h1, h2⟩
/-- int(a truth) -/
theorem call_intB {X : Cx} : CallR X (.type "int") (fun xs H Q => ∃ k, xs = [.bl k] ∧ Q (.int (if k then 1 else 0)) H) := fun pins s σ H xs us Q I r h => call_int1 pins s σ H xs us Q I r (.inr h)
/-! ### comprehensions, told by what each item gives -/
section
variable {α : Type} {J : It} {G : Hp → Prop} {Y : Nat → Hp → V → Hp → Prop} {g : TG} {tt : TT} {te : TE} {vs : List Nat} {σ : L2.St} {H1 : Hp} {Qd : Addr → Hp → Prop}
theorem take_one {α : Type} {l : List α} {i : Nat} {x : α} (h : l[i]? = some x) : l.take (i + 1) = l.take i ++ [x] := by
  rw [List.take_add_one, h]
  rfl
/-- values that are known -/
theorem lc_vals (as : List α) (w : Walk J as.length G Y) (kept : α → Bool) (val : α → V) (hn : as.length < sizeLine) (hG : ∀ H, Same H1 H → G H)
    (hs : ∀ i a x H H' (R1 : V → Hp → Prop) (R0 : Hp → Prop), as[i]? = some a → Same H1 H → Y i H x H' → (kept a = true → ∀ H4, Same H H4 → R1 (val a) H4) → (kept a = false → ∀ H4, Same H H4 → R0 H4) →
      g x (wipe σ vs) H' fun σ2 H2 => wipe σ2 vs = wipe σ vs ∧ tt σ2 H2 fun b H3 => if b = true then te σ2 H3 R1 else R0 H3)
    (hd : ∀ D H', H1 D = none → Same H1 H' → H' D = some (.lst ((as.filter kept).map val)) → Qd D H') :
    ∀ D, H1 D = none → ∃ W : Nat → Nat → Hp → Prop, (∃ m, W 0 m (upd H1 D (.lst []))) ∧ ∀ i m H, W i m H →
      (J.stop i H ∧ Qd D H) ∨ (J.go i H ∧ ∃ Nx : Hp → Prop, (∀ H', Nx H' → ∃ m', m' < m ∧ W (i + 1) m' H') ∧ ∀ x H', J.yld i H x H' → g x (wipe σ vs) H' fun σ2 H2 => wipe σ2 vs = wipe σ vs ∧ tt σ2 H2 fun b H3 =>
        if b = true then te σ2 H3 fun y H4 => ∃ acc, H4 D = some (.lst acc) ∧ acc.length < sizeLine ∧ Nx (upd H4 D (.lst (acc ++ [y]))) else Nx H3) := by
  intro D hD
  refine lc_it w (Qd := fun H => Qd D H) (fun i H => Same H1 H ∧ H D = some (.lst (((as.take i).filter kept).map val))) ⟨same_new hD, upd_same⟩ (fun i H _ h => hG H h.1) (fun i x H H' hi h y => ?_) (fun H h => ?_)
  · obtain ⟨s1, hl⟩ := h
    have ha : as[i]? = some as[i] := List.getElem?_eq_getElem hi
    refine hs i as[i] x H H' _ _ ha s1 y (fun hk H4 s4 => ⟨_, s4 _ _ hl, ?_, sm_mut (s1.trans s4) hD, ?_⟩) (fun hk H4 s4 => ⟨s1.trans s4, ?_⟩)
    · rw [List.length_map]
      refine Nat.lt_of_le_of_lt (List.length_filter_le _ _) ?_
      rw [List.length_take]
      omega
    · rw [upd_same, take_one ha, List.filter_append, List.filter_cons, if_pos hk, List.map_append]
      rfl
    · rw [s4 _ _ hl, take_one ha, List.filter_append, List.filter_cons, if_neg (by rw [hk]; decide)]
      show some (HO.lst _) = some (HO.lst (((as.take i).filter kept ++ []).map val))
      rw [List.append_nil]
  · obtain ⟨s1, hl⟩ := h
    rw [List.take_length] at hl
    exact hd D H hD s1 hl
/-- H without what stands at D -/
def del (H : Hp) (D : Addr) : Hp := fun b => if b = D then none else H b
theorem del_same {H H' : Hp} {D : Addr} (e : Same H H') (h : H D = none) : Same H (del H' D) := fun b o hb => by
  unfold del
  rw [if_neg (ne_of_none hb h)]
  exact e b o hb
theorem del_upd {H : Hp} {D : Addr} {o : HO} : Same (del H D) (upd H D o) := fun b u hb => by
  unfold del at hb
  split at hb
  · cases hb
  · rename_i hne
    rw [upd_ne hne]
    exact hb
theorem del_mono {H H' : Hp} {D : Addr} (e : Same H H') : Same (del H D) (del H' D) := fun b u hb => by
  unfold del at hb ⊢
  split at hb
  · cases hb
  · rename_i hne
    rw [if_neg hne]
    exact e b u hb
theorem del_le {H : Hp} {D : Addr} : Same (del H D) H := fun b u hb => by
  unfold del at hb
  split at hb
  · cases hb
  · exact hb
/-- new tuples of data that stands ahead -/
theorem lc_tups {K : PySem.W.Frag} (as : List α) (w : Walk J as.length G Y) (kept : α → Bool) (val : α → List PyData) (hn : as.length < sizeLine) (hG : ∀ H, Same H1 H → G H)
    (hs : ∀ i a x H H' (R1 : V → Hp → Prop) (R0 : Hp → Prop), as[i]? = some a → Same H1 H → Y i H x H' → (kept a = true → ∀ H4 p xs, Same H H4 → H p = none → H4 p = some (.tup xs) → DpAll K H1 xs (val a) → R1 (.ref p) H4) → (kept a = false → ∀ H4, Same H H4 → R0 H4) →
      g x (wipe σ vs) H' fun σ2 H2 => wipe σ2 vs = wipe σ vs ∧ tt σ2 H2 fun b H3 => if b = true then te σ2 H3 R1 else R0 H3)
    (hd : ∀ D H' ys, H1 D = none → Same H1 H' → H' D = some (.lst ys) → DpAll K (del H' D) ys ((as.filter kept).map fun a => .tuple (val a)) → Qd D H') :
    ∀ D, H1 D = none → ∃ W : Nat → Nat → Hp → Prop, (∃ m, W 0 m (upd H1 D (.lst []))) ∧ ∀ i m H, W i m H →
      (J.stop i H ∧ Qd D H) ∨ (J.go i H ∧ ∃ Nx : Hp → Prop, (∀ H', Nx H' → ∃ m', m' < m ∧ W (i + 1) m' H') ∧ ∀ x H', J.yld i H x H' → g x (wipe σ vs) H' fun σ2 H2 => wipe σ2 vs = wipe σ vs ∧ tt σ2 H2 fun b H3 =>
        if b = true then te σ2 H3 fun y H4 => ∃ acc, H4 D = some (.lst acc) ∧ acc.length < sizeLine ∧ Nx (upd H4 D (.lst (acc ++ [y]))) else Nx H3) := by
  intro D hD
  refine lc_it w (Qd := fun H => Qd D H) (fun i H => Same H1 H ∧ ∃ ys, H D = some (.lst ys) ∧ DpAll K (del H D) ys (((as.take i).filter kept).map fun a => .tuple (val a))) ⟨same_new hD, [], upd_same, .nil⟩ (fun i H _ h => hG H h.1) (fun i x H H' hi h y => ?_) (fun H h => ?_)
  · obtain ⟨s1, ys, hl, hy⟩ := h
    have ha : as[i]? = some as[i] := List.getElem?_eq_getElem hi
    refine hs i as[i] x H H' _ _ ha s1 y (fun hk H4 p xs s4 np hp hx => ⟨_, s4 _ _ hl, ?_, sm_mut (s1.trans s4) hD, _, upd_same, ?_⟩) (fun hk H4 s4 => ⟨s1.trans s4, ys, s4 _ _ hl, ?_⟩)
    · have hlen := DpAll.len hy
      rw [List.length_map] at hlen
      rw [hlen]
      refine Nat.lt_of_le_of_lt (List.length_filter_le _ _) ?_
      rw [List.length_take]
      omega
    · rw [take_one ha, List.filter_append, List.filter_cons, if_pos hk, List.map_append]
      have e1 : Same (del H D) (del (upd H4 D (.lst (ys ++ [V.ref p]))) D) := fun b u hb => by
        have hb2 := del_mono s4 b u hb
        unfold del at hb2 ⊢
        split at hb2
        · cases hb2
        · rename_i hne
          rw [if_neg hne, upd_ne hne]
          exact hb2
      have hpD : p ≠ D := fun e => by
        rw [e, hl] at np
        cases np
      refine DpAll.append (DpAll.mono e1 hy) (.cons (.tup (SqT.of ?_) (DpAll.mono ?_ hx)) .nil)
      · unfold del
        rw [if_neg hpD, upd_ne hpD]
        exact hp
      · exact fun b u hb => e1 b u (del_same s1 hD b u hb)
    · rw [take_one ha, List.filter_append, List.filter_cons, if_neg (by rw [hk]; decide)]
      show DpAll K _ _ (((as.take i).filter kept ++ []).map _)
      rw [List.append_nil]
      exact DpAll.mono (del_mono s4) hy
  · obtain ⟨s1, ys, hl, hy⟩ := h
    rw [List.take_length] at hy
    exact hd D H ys hD s1 hl hy
/-- item i is f of the i-th of as; the heap as it was -/
def YL {α : Type} (f : α → V) (as : List α) : Nat → Hp → V → Hp → Prop := fun i H x H' => H' = H ∧ ∃ b, as[i]? = some b ∧ x = f b
/-- a new pair of i and that -/
def YE {α : Type} (f : α → V) (as : List α) : Nat → Hp → V → Hp → Prop := fun i H x H' => ∃ T b, as[i]? = some b ∧ x = .ref T ∧ H T = none ∧ H' = upd H T (.tup [.int (i : Nat), f b])
theorem wk_list {K : PySem.W.Frag} {a : Addr} (f : α → V) (as : List α) : Walk (Itl K a) as.length (fun H => SqL K H a (as.map f)) (YL f as) := by
  have w := walk_list (K := K) (a := a) (xs := as.map f)
  rw [List.length_map] at w
  refine w.mono (fun _ h => h) fun i H x H' hi _ y => ?_
  obtain ⟨e, h⟩ := y
  rw [List.getElem?_map] at h
  cases q : as[i]? with
  | none => rw [q] at h; cases h
  | some b => rw [q] at h; exact ⟨e, b, q, (Option.some.inj h).symm⟩
theorem wk_tup {K : PySem.W.Frag} {a : Addr} (f : α → V) (as : List α) : Walk (Itt K a) as.length (fun H => SqT K H a (as.map f)) (YL f as) := by
  have w := walk_tup (K := K) (a := a) (xs := as.map f)
  rw [List.length_map] at w
  refine w.mono (fun _ h => h) fun i H x H' hi _ y => ?_
  obtain ⟨e, h⟩ := y
  rw [List.getElem?_map] at h
  cases q : as[i]? with
  | none => rw [q] at h; cases h
  | some b => rw [q] at h; exact ⟨e, b, q, (Option.some.inj h).symm⟩
theorem wk_str (z : Str) : Walk (Its z) z.cps.toList.length (fun _ => True) (YL (fun c => V.str ⟨#[c]⟩) z.cps.toList) := by
  have w := walk_str (z := z)
  rw [← Array.length_toList] at w
  refine w.mono (fun _ h => h) fun i H x H' hi _ y => ?_
  obtain ⟨e, c, h, q⟩ := y
  exact ⟨e, c, by rw [Array.getElem?_toList]; exact h, q⟩
theorem wk_rng (lo : Int) (n : Nat) : Walk (Itr lo n) (List.range n).length (fun _ => True) (YL (fun (i : Nat) => V.int (lo + i)) (List.range n)) := by
  have w := walk_range (lo := lo) (n := n)
  rw [← List.length_range (n := n)] at w
  rw [List.length_range] at w
  rw [List.length_range]
  refine w.mono (fun _ h => h) fun i H x H' hi _ y => ?_
  exact ⟨y.1, i, by rw [List.getElem?_range hi], y.2⟩
theorem wk_rng0 (n : Nat) : Walk (Itr 0 n) (List.range n).length (fun _ => True) (YL (fun (i : Nat) => V.int (i : Nat)) (List.range n)) :=
  (wk_rng 0 n).mono (fun _ h => h) fun i H x H' _ _ y => by
    obtain ⟨e, b, hb, q⟩ := y
    exact ⟨e, b, hb, by rw [q]; show V.int (0 + (b : Nat)) = _; rw [Int.zero_add]⟩
theorem wk_enum {K : PySem.W.Frag} {a : Addr} (f : α → V) (as : List α) : Walk (Ite K a) as.length (fun H => SqL K H a (as.map f)) (YE f as) := by
  have w := walk_enum (K := K) (a := a) (xs := as.map f)
  rw [List.length_map] at w
  refine w.mono (fun _ h => h) fun i H x H' hi _ y => ?_
  obtain ⟨T, x1, x2, h1, h2, h3, h4, h5⟩ := y
  have h4 : some (V.int (i : Nat)) = some x1 := h4
  have h5 : (as.map f)[i]? = some x2 := h5
  rw [List.getElem?_map] at h5
  cases q : as[i]? with
  | none => rw [q] at h5; cases h5
  | some b =>
    rw [q] at h5
    have e1 := Option.some.inj h4
    have e2 := Option.some.inj h5
    subst e1 e2
    exact ⟨T, b, q, h1, h2, h3⟩
/-- the same two, over f of the items of as -/
theorem lc_valsL {f : α → V} (as : List α) (w : Walk J as.length G (YL f as)) (kept : α → Bool) (val : α → V) (hn : as.length < sizeLine) (hG : ∀ H, Same H1 H → G H)
    (hs : ∀ (i : Nat) a H (R1 : V → Hp → Prop) (R0 : Hp → Prop), as[i]? = some a → Same H1 H → (kept a = true → ∀ H4, Same H H4 → R1 (val a) H4) → (kept a = false → ∀ H4, Same H H4 → R0 H4) →
      g (f a) (wipe σ vs) H fun σ2 H2 => wipe σ2 vs = wipe σ vs ∧ tt σ2 H2 fun b H3 => if b = true then te σ2 H3 R1 else R0 H3)
    (hd : ∀ D H', H1 D = none → Same H1 H' → H' D = some (.lst ((as.filter kept).map val)) → Qd D H') :
    ∀ D, H1 D = none → ∃ W : Nat → Nat → Hp → Prop, (∃ m, W 0 m (upd H1 D (.lst []))) ∧ ∀ i m H, W i m H →
      (J.stop i H ∧ Qd D H) ∨ (J.go i H ∧ ∃ Nx : Hp → Prop, (∀ H', Nx H' → ∃ m', m' < m ∧ W (i + 1) m' H') ∧ ∀ x H', J.yld i H x H' → g x (wipe σ vs) H' fun σ2 H2 => wipe σ2 vs = wipe σ vs ∧ tt σ2 H2 fun b H3 =>
        if b = true then te σ2 H3 fun y H4 => ∃ acc, H4 D = some (.lst acc) ∧ acc.length < sizeLine ∧ Nx (upd H4 D (.lst (acc ++ [y]))) else Nx H3) := by
  refine lc_vals as w kept val hn hG (fun i a x H H' R1 R0 ha s hy k1 k0 => ?_) hd
  obtain ⟨e, b, hb, q⟩ := hy
  rw [ha] at hb
  have e2 := Option.some.inj hb
  subst e e2 q
  exact hs i a _ R1 R0 ha s k1 k0
theorem lc_valsE {f : α → V} (as : List α) (w : Walk J as.length G (YE f as)) (kept : Nat × α → Bool) (val : Nat × α → V) (hn : as.length < sizeLine) (hG : ∀ H, Same H1 H → G H)
    (hs : ∀ (i : Nat) a T H (R1 : V → Hp → Prop) (R0 : Hp → Prop), as[i]? = some a → Same H1 H → H T = none → (kept (i, a) = true → ∀ H4, Same H H4 → R1 (val (i, a)) H4) → (kept (i, a) = false → ∀ H4, Same H H4 → R0 H4) →
      g (.ref T) (wipe σ vs) (upd H T (.tup [.int (i : Nat), f a])) fun σ2 H2 => wipe σ2 vs = wipe σ vs ∧ tt σ2 H2 fun b H3 => if b = true then te σ2 H3 R1 else R0 H3)
    (hd : ∀ D H', H1 D = none → Same H1 H' → H' D = some (.lst ((((List.range as.length).zip as).filter kept).map val)) → Qd D H') :
    ∀ D, H1 D = none → ∃ W : Nat → Nat → Hp → Prop, (∃ m, W 0 m (upd H1 D (.lst []))) ∧ ∀ i m H, W i m H →
      (J.stop i H ∧ Qd D H) ∨ (J.go i H ∧ ∃ Nx : Hp → Prop, (∀ H', Nx H' → ∃ m', m' < m ∧ W (i + 1) m' H') ∧ ∀ x H', J.yld i H x H' → g x (wipe σ vs) H' fun σ2 H2 => wipe σ2 vs = wipe σ vs ∧ tt σ2 H2 fun b H3 =>
        if b = true then te σ2 H3 fun y H4 => ∃ acc, H4 D = some (.lst acc) ∧ acc.length < sizeLine ∧ Nx (upd H4 D (.lst (acc ++ [y]))) else Nx H3) := by
  have hl : ((List.range as.length).zip as).length = as.length := by rw [List.length_zip, List.length_range]; omega
  refine lc_vals ((List.range as.length).zip as) (w := by rw [hl]; exact w) kept val (by rw [hl]; exact hn) hG (fun i a x H H' R1 R0 ha s hy k1 k0 => ?_) hd
  obtain ⟨T, b, hb, q, hT, e⟩ := hy
  have hi : i < as.length := (List.getElem?_eq_some_iff.mp hb).1
  have e2 : a = (i, b) := by
    rw [List.getElem?_zip_eq_some] at ha
    have e1 : (List.range as.length)[i]? = some i := List.getElem?_range hi
    rw [e1, hb] at ha
    exact Prod.ext (Option.some.inj ha.1).symm (Option.some.inj ha.2).symm
  subst e e2 q
  exact hs i b T H R1 R0 hb s hT k1 k0
theorem lc_tupsE {K : PySem.W.Frag} {f : α → V} (as : List α) (w : Walk J as.length G (YE f as)) (kept : Nat × α → Bool) (val : Nat × α → List PyData) (hn : as.length < sizeLine) (hG : ∀ H, Same H1 H → G H)
    (hs : ∀ (i : Nat) a T H (R1 : V → Hp → Prop) (R0 : Hp → Prop), as[i]? = some a → Same H1 H → H T = none → (kept (i, a) = true → ∀ H4 p xs, Same H H4 → H p = none → H4 p = some (.tup xs) → DpAll K H1 xs (val (i, a)) → R1 (.ref p) H4) → (kept (i, a) = false → ∀ H4, Same H H4 → R0 H4) →
      g (.ref T) (wipe σ vs) (upd H T (.tup [.int (i : Nat), f a])) fun σ2 H2 => wipe σ2 vs = wipe σ vs ∧ tt σ2 H2 fun b H3 => if b = true then te σ2 H3 R1 else R0 H3)
    (hd : ∀ D H' ys, H1 D = none → Same H1 H' → H' D = some (.lst ys) → DpAll K (del H' D) ys ((((List.range as.length).zip as).filter kept).map fun a => .tuple (val a)) → Qd D H') :
    ∀ D, H1 D = none → ∃ W : Nat → Nat → Hp → Prop, (∃ m, W 0 m (upd H1 D (.lst []))) ∧ ∀ i m H, W i m H →
      (J.stop i H ∧ Qd D H) ∨ (J.go i H ∧ ∃ Nx : Hp → Prop, (∀ H', Nx H' → ∃ m', m' < m ∧ W (i + 1) m' H') ∧ ∀ x H', J.yld i H x H' → g x (wipe σ vs) H' fun σ2 H2 => wipe σ2 vs = wipe σ vs ∧ tt σ2 H2 fun b H3 =>
        if b = true then te σ2 H3 fun y H4 => ∃ acc, H4 D = some (.lst acc) ∧ acc.length < sizeLine ∧ Nx (upd H4 D (.lst (acc ++ [y]))) else Nx H3) := by
  have hl : ((List.range as.length).zip as).length = as.length := by rw [List.length_zip, List.length_range]; omega
  refine lc_tups ((List.range as.length).zip as) (w := by rw [hl]; exact w) kept val (by rw [hl]; exact hn) hG (fun i a x H H' R1 R0 ha s hy k1 k0 => ?_) hd
  obtain ⟨T, b, hb, q, hT, e⟩ := hy
  have hi : i < as.length := (List.getElem?_eq_some_iff.mp hb).1
  have e2 : a = (i, b) := by
    rw [List.getElem?_zip_eq_some] at ha
    have e1 : (List.range as.length)[i]? = some i := List.getElem?_range hi
    rw [e1, hb] at ha
    exact Prod.ext (Option.some.inj ha.1).symm (Option.some.inj ha.2).symm
  subst e e2 q
  exact hs i b T H R1 R0 hb s hT k1 k0
theorem lc_tupsL {K : PySem.W.Frag} {f : α → V} (as : List α) (w : Walk J as.length G (YL f as)) (kept : α → Bool) (val : α → List PyData) (hn : as.length < sizeLine) (hG : ∀ H, Same H1 H → G H)
    (hs : ∀ (i : Nat) a H (R1 : V → Hp → Prop) (R0 : Hp → Prop), as[i]? = some a → Same H1 H → (kept a = true → ∀ H4 p xs, Same H H4 → H p = none → H4 p = some (.tup xs) → DpAll K H1 xs (val a) → R1 (.ref p) H4) → (kept a = false → ∀ H4, Same H H4 → R0 H4) →
      g (f a) (wipe σ vs) H fun σ2 H2 => wipe σ2 vs = wipe σ vs ∧ tt σ2 H2 fun b H3 => if b = true then te σ2 H3 R1 else R0 H3)
    (hd : ∀ D H' ys, H1 D = none → Same H1 H' → H' D = some (.lst ys) → DpAll K (del H' D) ys ((as.filter kept).map fun a => .tuple (val a)) → Qd D H') :
    ∀ D, H1 D = none → ∃ W : Nat → Nat → Hp → Prop, (∃ m, W 0 m (upd H1 D (.lst []))) ∧ ∀ i m H, W i m H →
      (J.stop i H ∧ Qd D H) ∨ (J.go i H ∧ ∃ Nx : Hp → Prop, (∀ H', Nx H' → ∃ m', m' < m ∧ W (i + 1) m' H') ∧ ∀ x H', J.yld i H x H' → g x (wipe σ vs) H' fun σ2 H2 => wipe σ2 vs = wipe σ vs ∧ tt σ2 H2 fun b H3 =>
        if b = true then te σ2 H3 fun y H4 => ∃ acc, H4 D = some (.lst acc) ∧ acc.length < sizeLine ∧ Nx (upd H4 D (.lst (acc ++ [y]))) else Nx H3) := by
  refine lc_tups as w kept val hn hG (fun i a x H H' R1 R0 ha s hy k1 k0 => ?_) hd
  obtain ⟨e, b, hb, q⟩ := hy
  rw [ha] at hb
  have e2 := Option.some.inj hb
  subst e e2 q
  exact hs i a _ R1 R0 ha s k1 k0
theorem bl_map {α : Type} (l : List α) (f : α → Bool) : l.map (fun a => V.bl (f a)) = (l.map f).map V.bl := by rw [List.map_map]; rfl
theorem str_map {α : Type} (l : List α) (f : α → Str) : l.map (fun a => V.str (f a)) = (l.map f).map V.str := by rw [List.map_map]; rfl
theorem int_map {α : Type} (l : List α) (f : α → Int) : l.map (fun a => V.int (f a)) = (l.map f).map V.int := by rw [List.map_map]; rfl
theorem filt_all {α : Type} (l : List α) : l.filter (fun _ => true) = l := List.filter_eq_self.mpr fun _ _ => rfl
theorem all_true {α : Type} (l : List α) : (l.map fun _ => true).all id = true := by
  rw [List.all_map]
  exact List.all_eq_true.mpr fun _ _ => rfl
end
/-! ### loops, told by what each turn does -/
/-- the ends of a loop's body -/
structure LoopTo (D' D : Ends) (M : L2.St → Hp → Prop) : Prop where
  nx : ∀ σ' H', M σ' H' → D'.nx σ' H'
  ct : ∀ σ' H', M σ' H' → D'.ct σ' H'
  rt : ∀ v H', D.rt v H' → D'.rt v H'
  bk : ∀ σ' H', D.nx σ' H' → D'.bk σ' H'
section
variable {α : Type} {J : It} {G : Hp → Prop} {g : TG} {tb : TS} {D : Ends} {σ : L2.St} {H : Hp}
theorem for_L {f : α → V} (as : List α) (w : Walk J as.length G (YL f as)) (Pv : Nat → L2.St → Hp → Prop) (h0 : Pv 0 σ H) (hG : ∀ i σ H, i ≤ as.length → Pv i σ H → G H)
    (hs : ∀ (i : Nat) a σ H (D' : Ends), LoopTo D' D (Pv (i + 1)) → as[i]? = some a → Pv i σ H → g (f a) σ H fun σ2 H2 => tb D' σ2 H2) (hd : ∀ σ H, Pv as.length σ H → D.nx σ H) :
    Door (∃ W : Nat → Nat → L2.St → Hp → Prop, (∃ m, W 0 m σ H) ∧ ∀ i m σ H, W i m σ H →
      (J.stop i H ∧ D.nx σ H) ∨ (J.go i H ∧ ∃ N : L2.St → Hp → Prop, (∀ σ' H', N σ' H' → ∃ m', m' < m ∧ W (i + 1) m' σ' H') ∧ ∀ x H', J.yld i H x H' → g x σ H' fun σ2 H2 => tb { D with nx := N, ct := N, bk := D.nx } σ2 H2)) := by
  refine Door.mk (for_it w Pv h0 hG (fun i x σ H H' hi hp hy => ?_) hd)
  obtain ⟨e, b, hb, q⟩ := hy
  subst e q
  exact hs i b σ _ _ ⟨fun _ _ h => h, fun _ _ h => h, fun _ _ h => h, fun _ _ h => h⟩ hb hp
theorem for_E {f : α → V} (as : List α) (w : Walk J as.length G (YE f as)) (Pv : Nat → L2.St → Hp → Prop) (h0 : Pv 0 σ H) (hG : ∀ i σ H, i ≤ as.length → Pv i σ H → G H)
    (hs : ∀ (i : Nat) a T σ H (D' : Ends), LoopTo D' D (Pv (i + 1)) → as[i]? = some a → Pv i σ H → H T = none → g (.ref T) σ (upd H T (.tup [.int (i : Nat), f a])) fun σ2 H2 => tb D' σ2 H2) (hd : ∀ σ H, Pv as.length σ H → D.nx σ H) :
    Door (∃ W : Nat → Nat → L2.St → Hp → Prop, (∃ m, W 0 m σ H) ∧ ∀ i m σ H, W i m σ H →
      (J.stop i H ∧ D.nx σ H) ∨ (J.go i H ∧ ∃ N : L2.St → Hp → Prop, (∀ σ' H', N σ' H' → ∃ m', m' < m ∧ W (i + 1) m' σ' H') ∧ ∀ x H', J.yld i H x H' → g x σ H' fun σ2 H2 => tb { D with nx := N, ct := N, bk := D.nx } σ2 H2)) := by
  refine Door.mk (for_it w Pv h0 hG (fun i x σ H H' hi hp hy => ?_) hd)
  obtain ⟨T, b, hb, q, hT, e⟩ := hy
  subst e q
  exact hs i b T σ H _ ⟨fun _ _ h => h, fun _ _ h => h, fun _ _ h => h, fun _ _ h => h⟩ hb hp hT
end
end Kf

set_option Elab.async false
set_option linter.all false
set_option maxRecDepth 100000
/-! C1: the layer's rules with the written part named (K), so that they may stand within a comprehension. -/
namespace Kf
open PySem PySem.Spec PyProof.Rows L2
section
variable {X : Cx} (K : PySem.W.Frag)
theorem ix_listK (h : X.K = K := by rfl) : IxR X (rIxL K) := by subst h; exact ix_list
theorem ix_tupK (h : X.K = K := by rfl) : IxR X (rIxT K) := by subst h; exact ix_tup
theorem sl_listK (h : X.K = K := by rfl) : SlR X (rSlL K) := by subst h; exact sl_list
theorem op_eqDK {k : Nat} (hr : Room k X.A) (h : X.K = K := by rfl) : OpR X (compareOp .Eq) (rEqD K) := by subst h; exact op_eqD hr.units
theorem op_neDK {k : Nat} (hr : Room k X.A) (h : X.K = K := by rfl) : OpR X (compareOp .NotEq) (rNeD K) := by subst h; exact op_neD hr.units
theorem op_inK (h : X.K = K := by rfl) : OpR X (compareOp .In) (rIn K false) := by subst h; exact op_in_seq
theorem op_ninK (h : X.K = K := by rfl) : OpR X (compareOp .NotIn) (rIn K true) := by subst h; exact op_notIn_seq
theorem op_catAK (h : X.K = K := by rfl) : OpR X (binaryOp .Add) (rCatA K) := by subst h; exact op_catA
theorem call_isiK1 (h : X.K = K := by rfl) : CallR X (.builtin "isinstance") (rIsi K) := by subst h; exact call_isi
theorem call_isiTK (h : X.K = K := by rfl) : CallR X (.builtin "isinstance") (rIsiT K) := by subst h; exact call_isiT
def rLenK : List V → Hp → VK → Prop := fun xs H Q => ∃ p ys, xs = [.ref p] ∧ (SqL K H p ys ∨ SqT K H p ys) ∧ Q (.int ys.length) H
theorem call_lenK (h : X.K = K := by rfl) : CallR X (.builtin "len") (rLenK K) := by subst h; exact call_len_seq
def rListK : List V → Hp → VK → Prop := fun xs H Q => ∃ p ys, xs = [.ref p] ∧ (SqL K H p ys ∨ SqT K H p ys) ∧ ∀ l, H l = none → Q (.ref l) (upd H l (.lst ys))
theorem call_listK (h : X.K = K := by rfl) : CallR X (.type "list") (rListK K) := by subst h; exact call_list_of
/-- tuple(a list) -/
def rTupleK : List V → Hp → VK → Prop := fun xs H Q => ∃ p ys, xs = [.ref p] ∧ SqL K H p ys ∧ ∀ l, H l = none → Q (.ref l) (upd H l (.tup ys))
theorem call_tupleK (h : X.K = K := by rfl) : CallR X (.type "tuple") (rTupleK K) := by
  subst h
  intro pins s σ H xs us Q I r hh
  obtain ⟨p, ys, e, hs, q⟩ := hh
  exact call_tuple_of pins s σ H xs us Q I r ⟨p, ys, e, .inl ⟨hs, q⟩⟩
theorem cr_sumK (hc : X.calm = true := by rfl) (h : X.K = K := by rfl) : CallR X (.builtin "sum") (rSum K) := by subst h; exact cr_sum hc
theorem cr_allK (hc : X.calm = true := by rfl) (h : X.K = K := by rfl) : CallR X (.builtin "all") (rAll K) := by subst h; exact cr_all hc
theorem cr_maxK (hc : X.calm = true := by rfl) (h : X.K = K := by rfl) : CallR X (.builtin "max") (rMax K) := by subst h; exact cr_max hc
theorem cr_minK1 (hc : X.calm = true := by rfl) (h : X.K = K := by rfl) : CallR X (.builtin "min") (rMin K) := by subst h; exact cr_min hc
theorem cr_sortedK (h : X.K = K := by rfl) : CallR X (.builtin "sorted") (rSorted K) := by subst h; exact cr_sorted
theorem cr_sortedSK (h : X.K = K := by rfl) : CallR X (.builtin "sorted") (rSortedS K) := by subst h; exact cr_sortedS
theorem mt_indexK (h : X.K = K := by rfl) : MtR X "list.index" (rIndex K) := by subst h; exact mt_index
section
variable {tg l : Expr} {tl : TE} {e e2 o value : Expr} {ta to tv te : TE} {t : TA} {p pos pos' tpos apos cpos : Pos} {elts : List Expr} {kk : Nat} {f : Str} {es : List Expr}
theorem pi_listK (hl : PE X l tl) (h : X.K = K := by rfl) : PI X tg l (iList K tl) := by subst h; exact pi_list hl
theorem pi_tupK (hl : PE X l tl) (h : X.K = K := by rfl) : PI X tg l (iTup K tl) := by subst h; exact pi_tup hl
theorem pi_enumK (hg : Gl X "enumerate") (hm : X.mg "enumerate" = none) (ha : PA X [e] t) (hs : starEach [e] X.env = [(false, eval e X.env)] := by rfl) (h : X.K = K := by rfl) :
    PI X (.Tuple elts kk tpos) (.Call (.Name "enumerate" p) [e] [] pos) (iEnum K t) := by subst h; exact pi_enum hg hm ha hs
theorem pi_zipK (hg : Gl X "zip") (hm : X.mg "zip" = none) (ha : PA X [e, e2] t)
    (hs : starEach [e, e2] X.env = (false, eval e X.env) :: starEach [e2] X.env := by rfl) (hpl : (backTo pos (starEach [e2] X.env)).any (·.1) = false := by rfl) (h : X.K = K := by rfl) :
    PI X (.Tuple elts kk tpos) (.Call (.Name "zip" p) [e, e2] [] pos) (iZip K t) := by subst h; exact pi_zip hg hm ha hs hpl
theorem pg_tupK {k : Nat} {u : TGs} (n : Nat) (hp : PGs X es u) (hc : X.calm = true := by rfl) (hn : (assignEach es X.env).length = n := by rfl) (hst : (assignEach es X.env).findIdx? (·.1) = none := by rfl) (h : X.K = K := by rfl) :
    PG X (.Tuple es k pos) (gTup K n u) := by subst h; exact pg_tup hc hp hn hst
theorem pe_fldK (he : PE X e ta) (hb : attributeBase e f X.env (eval e X.env) = eval e X.env := by rfl) (h : X.K = K := by rfl) : PE X (.Attribute e f pos) (tFld K ta f) := by subst h; exact pe_fld he hb
theorem ps_fldK (ha : PE X o ta) (hv : PE X value tv) (hs : swapsWith value (some (.Attribute o f pos')) pos.line X.env = pure false := by rfl) (h : X.K = K := by rfl) :
    PS X (.Assign [.Attribute o f pos'] value pos) (sFld K ta tv f) := by subst h; exact ps_fld ha hv hs
theorem ps_fldaugK {op : Operator} {rd : V → V → Hp → VK → Prop} (ha : PE X o ta) (hv : PE X value tv) (hop : InOp X op rd) (h : X.K = K := by rfl) : PS X (.AugAssign (.Attribute o f tpos) op value pos) (sFldAug K ta tv rd f) := by
  subst h; exact ps_fldaug ha hv hop
theorem pe_bmK {T id : String} {name : Str} {r : V → List V → Hp → VK → Prop} (pa : PlainAttrs T) (slot : Slot T name id) (hty : typeOf (.builtin id) = pure (.type "method_descriptor")) (hm : MtR X id r) (ho : PE X o to) (ha : PA X (e :: es) t)
    (hbase : attributeBase o name X.env (eval o X.env) = eval o X.env := by rfl)
    (hfew : ((backTo cpos (starEach (e :: es) X.env)).all (fun x => !x.1) && (backToKw cpos (keywordEach [] X.env)).all (fun x => x.1.isSome)
      && decide ((e :: es).length + ([] : List Keyword).length + (if ([] : List Keyword).isEmpty then 0 else 1) < 30)) = true := by rfl)
    (hline : (apos.endLine == cpos.line) = true := by rfl) (hs : starEach (e :: es) X.env = (false, eval e X.env) :: starEach es X.env := by rfl) (hplain : (backTo cpos (starEach es X.env)).any (·.1) = false := by rfl) (h : X.K = K := by rfl) :
    PE X (.Call (.Attribute o name apos) (e :: es) [] cpos) (tBM K T r to t) := by subst h; exact pe_bm pa slot hty hm ho ha hbase hfew hline hs hplain
theorem pe_bm0K {T id : String} {name : Str} {r : V → List V → Hp → VK → Prop} (pa : PlainAttrs T) (slot : Slot T name id) (hty : typeOf (.builtin id) = pure (.type "method_descriptor")) (hm : MtR X id r) (ho : PE X o to)
    (hbase : attributeBase o name X.env (eval o X.env) = eval o X.env := by rfl) (hline : (apos.endLine == cpos.line) = true := by rfl) (h : X.K = K := by rfl) :
    PE X (.Call (.Attribute o name apos) [] [] cpos) (tBM0 K T r to) := by subst h; exact pe_bm0 pa slot hty hm ho hbase hline
def tJoinK (to te : TE) : TE := tM1 (fun x xs H Q => ∃ a p, ∃ ys : List Str, x = .str a ∧ xs = [.ref p] ∧ (SqL K H p (ys.map V.str) ∨ SqT K H p (ys.map V.str)) ∧
      (ys.map (·.length)).sum + ys.length * a.length ≤ 16777216 ∧ Q (.str (Txt.join a ys)) H) to te
theorem pe_joinK (ho : PE X o to) (he : PE X e te) (hs : starEach [e] X.env = [(false, eval e X.env)] := by rfl) (hbase : attributeBase o "join" X.env (eval o X.env) = eval o X.env := by rfl) (hline : (apos.endLine == pos.line) = true := by rfl) (h : X.K = K := by rfl) :
    PE X (.Call (.Attribute o "join" apos) [e] [] pos) (tJoinK K to te) := by subst h; exact pe_join ho he hs hbase hline
def tTruK (ta : TE) : TT := fun σ H Q => ta σ H fun x H' => ∃ k, TruV K x H' k ∧ Q k H'
theorem pt_truthK {a : Expr} (ha : PE X a ta) (he : ∀ whole, isTrue a X.env whole = (do let v ← whole; standAt a.pos; holding [v] (truthy v)) := by intro _; rfl) (h : X.K = K := by rfl) : PT X a (tTruK K ta) := by
  subst h; exact pt_truth ha he
end
end

/-! ### a list of data that grows -/
section
variable {K : PySem.W.Frag} {H H2 : Hp} {p t : Addr} {ys xs : List V} {v : V} {ds : List PyData} {d : PyData}
theorem del_put {o : HO} : del (upd H p o) p = del H p := by
  funext b
  unfold del
  by_cases e : b = p
  · rw [if_pos e, if_pos e]
  · rw [if_neg e, if_neg e, upd_ne e]
theorem dps_app (s : Same H H2) (h : DpAll K (del H p) ys ds) (hv : Dp K (del H2 p) v d) : DpAll K (del (upd H2 p (.lst (ys ++ [v]))) p) (ys ++ [v]) (ds ++ [d]) := by
  rw [del_put]
  exact DpAll.append (DpAll.mono (del_mono s) h) (.cons hv .nil)
theorem dp_tup (h : H t = some (.tup xs)) (n : t ≠ p) (hx : DpAll K (del H p) xs ds) : Dp K (del H p) (.ref t) (.tuple ds) := by
  refine .tup (SqT.of ?_) hx
  unfold del
  rw [if_neg n]
  exact h
theorem dps_out (h : DpAll K (del H p) ys ds) : DpAll K H ys ds := DpAll.mono del_le h
end
/-! ### names; data that is compared -/
structure IsNm (x : Str) : Prop where
  lo : 1 ≤ x.length
  hi : x.length ≤ 8
  all : ∀ c ∈ x.cps.toList, 97 ≤ c ∧ c ≤ 122
theorem IsNm.ok {x : Str} (h : IsNm x) : PyData.strOk x = true := by
  unfold PyData.strOk
  rw [← Array.all_toList]
  exact List.all_eq_true.mpr fun c hc => decide_eq_true (by have := h.all c hc; omega)
/-- data that == reads, of depth at most k -/
structure Sh (k : Nat) (d : PyData) : Prop where
  lay : d.canLay0 = true
  dep : d.depth ≤ k
theorem Sh.mono {j k : Nat} {d : PyData} (h : Sh j d) (e : j ≤ k) : Sh k d := ⟨h.lay, Nat.le_trans h.dep e⟩
theorem Sh.int {k : Nat} (i : Int) : Sh k (.int i) := ⟨rfl, Nat.zero_le _⟩
theorem Sh.bool {k : Nat} (i : Bool) : Sh k (.bool i) := ⟨rfl, Nat.zero_le _⟩
theorem Sh.none {k : Nat} : Sh k .none := ⟨rfl, Nat.zero_le _⟩
theorem Sh.str {k : Nat} {x : Str} (h : PyData.strOk x = true) : Sh k (.str x) := ⟨by simp only [PyData.canLay0]; exact h, Nat.zero_le _⟩
theorem Sh.all {k : Nat} : ∀ {ds : List PyData}, (∀ d ∈ ds, Sh k d) → PyData.canLayAll0 ds = true ∧ PyData.depthAll ds ≤ k
  | [], _ => ⟨rfl, Nat.zero_le _⟩
  | d :: ds, h => by
    have h1 := h d (List.mem_cons_self)
    have h2 := Sh.all fun e he => h e (List.mem_cons_of_mem _ he)
    refine ⟨?_, ?_⟩
    · show (d.canLay0 && PyData.canLayAll0 ds) = true
      rw [h1.lay, h2.1]
      rfl
    · show max d.depth (PyData.depthAll ds) ≤ k
      exact Nat.max_le.mpr ⟨h1.dep, h2.2⟩
theorem Sh.list {k : Nat} {ds : List PyData} (h : ∀ d ∈ ds, Sh k d) : Sh (k + 1) (.list ds) := ⟨(Sh.all h).1, Nat.succ_le_succ (Sh.all h).2⟩
theorem Sh.tuple {k : Nat} {ds : List PyData} (h : ∀ d ∈ ds, Sh k d) : Sh (k + 1) (.tuple ds) := ⟨(Sh.all h).1, Nat.succ_le_succ (Sh.all h).2⟩
theorem Sh.strs {ws : List Str} (h : ∀ x ∈ ws, IsNm x) : Sh 1 (.list (ws.map .str)) := Sh.list (k := 0) fun d hd => by
  obtain ⟨x, hx, rfl⟩ := List.mem_map.mp hd
  exact Sh.str (h x hx).ok
theorem Sh.ints {ns : List Int} : Sh 1 (.list (ns.map .int)) := Sh.list (k := 0) fun d hd => by
  obtain ⟨x, hx, rfl⟩ := List.mem_map.mp hd
  exact Sh.int x
theorem Sh.bools {ns : List Bool} : Sh 1 (.list (ns.map .bool)) := Sh.list (k := 0) fun d hd => by
  obtain ⟨x, hx, rfl⟩ := List.mem_map.mp hd
  exact Sh.bool x
theorem Sh.nil : Sh 1 (.list []) := Sh.list (k := 0) fun d hd => by cases hd
theorem Sh.ed {k : Nat} {d : PyData} (h : Sh k d) (e : k ≤ 64 := by decide) : SeqAt.shaped d = true := by
  unfold SeqAt.shaped
  rw [h.lay, decide_eq_true (Nat.le_trans h.dep e)]
  rfl
theorem Sh.refl {k : Nat} {d : PyData} (h : Sh k d) : PyData.eqv d d = true := SeqAt.eqv_refl d h.lay
theorem eqv_nil (ds : List PyData) : PyData.eqv (.list ds) (.list []) = ds.isEmpty := by
  cases ds with
  | nil => rfl
  | cons d ds => rfl
/-! ### comprehensions over lists of data -/
theorem zip_snd {α β : Type} : ∀ {l : List α} {m : List β}, l.length = m.length → (l.zip m).map Prod.snd = m
  | [], [], _ => rfl
  | a :: l, b :: m, h => by rw [List.zip_cons_cons, List.map_cons, zip_snd (by simpa using h)]
theorem zip_filt_val {α β : Type} (p : α → Bool) (v : α → V) : ∀ {l : List α} {m : List β}, l.length = m.length → ((l.zip m).filter fun q => p q.1).map (fun q => v q.1) = (l.filter p).map v
  | [], [], _ => rfl
  | a :: l, b :: m, h => by
    have ih := zip_filt_val p v (l := l) (m := m) (by simpa using h)
    rw [List.zip_cons_cons]
    cases hp : p a with
    | true => rw [List.filter_cons, List.filter_cons, if_pos hp, if_pos hp, List.map_cons, List.map_cons, ih]
    | false => rw [List.filter_cons, List.filter_cons, if_neg (by rw [hp]; decide), if_neg (by rw [hp]; decide), ih]
theorem DpAll.zipf {K : PySem.W.Frag} {H : Hp} {α : Type} {g : α → PyData} {p : α → Bool} : ∀ {js : List α} {ys : List V}, DpAll K H ys (js.map g) → DpAll K H (((js.zip ys).filter fun q => p q.1).map Prod.snd) ((js.filter p).map g)
  | [], _, .nil => .nil
  | j :: js, _, .cons h r => by
    have ih := DpAll.zipf (p := p) r
    rw [List.zip_cons_cons]
    cases hp : p j with
    | true =>
      rw [List.filter_cons, List.filter_cons, if_pos hp, if_pos hp]
      exact .cons h ih
    | false =>
      rw [List.filter_cons, List.filter_cons, if_neg (by rw [hp]; decide), if_neg (by rw [hp]; decide)]
      exact ih
section
variable {α : Type} {K : PySem.W.Frag} {g : TG} {tt : TT} {te : TE} {vs : List Nat} {σ : L2.St} {H1 : Hp} {Qd : Addr → Hp → Prop} {gD : α → PyData} {zs : List V} {a : Addr}
theorem dp_at {ls : List α} (hz : DpAll K H1 zs (ls.map gD)) {i : Nat} {q : α × V} (h : (ls.zip zs)[i]? = some q) : ls[i]? = some q.1 ∧ zs[i]? = some q.2 ∧ Dp K H1 q.2 (gD q.1) := by
  obtain ⟨h1, h2⟩ := List.getElem?_zip_eq_some.mp h
  obtain ⟨v, hv, hd⟩ := DpAll.get (i := i) (d := gD q.1) hz (by rw [List.getElem?_map, h1]; rfl)
  rw [h2] at hv
  cases hv
  exact ⟨h1, h2, hd⟩
/-- over a list of data: plain values -/
theorem lc_dpv (ls : List α) (hz : DpAll K H1 zs (ls.map gD)) (ha : SqL K H1 a zs) (kept : α → Bool) (val : α → V) (hn : ls.length < sizeLine)
    (hs : ∀ (i : Nat) b v H (R1 : V → Hp → Prop) (R0 : Hp → Prop), ls[i]? = some b → Same H1 H → Dp K H v (gD b) → (kept b = true → ∀ H4, Same H H4 → R1 (val b) H4) → (kept b = false → ∀ H4, Same H H4 → R0 H4) →
      g v (wipe σ vs) H fun σ2 H2 => wipe σ2 vs = wipe σ vs ∧ tt σ2 H2 fun b H3 => if b = true then te σ2 H3 R1 else R0 H3)
    (hd : ∀ D H', H1 D = none → Same H1 H' → H' D = some (.lst ((ls.filter kept).map val)) → Qd D H') :
    ∀ D, H1 D = none → ∃ W : Nat → Nat → Hp → Prop, (∃ m, W 0 m (upd H1 D (.lst []))) ∧ ∀ i m H, W i m H →
      ((Itl K a).stop i H ∧ Qd D H) ∨ ((Itl K a).go i H ∧ ∃ Nx : Hp → Prop, (∀ H', Nx H' → ∃ m', m' < m ∧ W (i + 1) m' H') ∧ ∀ x H', (Itl K a).yld i H x H' → g x (wipe σ vs) H' fun σ2 H2 => wipe σ2 vs = wipe σ vs ∧ tt σ2 H2 fun b H3 =>
        if b = true then te σ2 H3 fun y H4 => ∃ acc, H4 D = some (.lst acc) ∧ acc.length < sizeLine ∧ Nx (upd H4 D (.lst (acc ++ [y]))) else Nx H3) := by
  have hlen : ls.length = zs.length := by rw [DpAll.len hz, List.length_map]
  have hzl : (ls.zip zs).length = ls.length := by rw [List.length_zip]; omega
  refine lc_valsL (f := Prod.snd) (ls.zip zs) (wk_list _ _) (fun q => kept q.1) (fun q => val q.1) (by rw [hzl]; exact hn) (fun H s => by rw [zip_snd hlen]; exact s.seq ha) (fun i q H R1 R0 hq s k1 k0 => ?_) (fun D H' h1 h2 h3 => ?_)
  · obtain ⟨e1, e2, e3⟩ := dp_at hz hq
    exact hs i q.1 q.2 H R1 R0 e1 s (Dp.mono s e3) k1 k0
  · rw [zip_filt_val kept val hlen] at h3
    exact hd D H' h1 h2 h3
/-- over a list of data: the kept items -/
theorem lc_dpi (ls : List α) (hz : DpAll K H1 zs (ls.map gD)) (ha : SqL K H1 a zs) (kept : α → Bool) (hn : ls.length < sizeLine)
    (hs : ∀ (i : Nat) b v H (R1 : V → Hp → Prop) (R0 : Hp → Prop), ls[i]? = some b → Same H1 H → Dp K H v (gD b) → (kept b = true → ∀ H4, Same H H4 → R1 v H4) → (kept b = false → ∀ H4, Same H H4 → R0 H4) →
      g v (wipe σ vs) H fun σ2 H2 => wipe σ2 vs = wipe σ vs ∧ tt σ2 H2 fun b H3 => if b = true then te σ2 H3 R1 else R0 H3)
    (hd : ∀ D H' ys, H1 D = none → Same H1 H' → H' D = some (.lst ys) → DpAll K H1 ys ((ls.filter kept).map gD) → Qd D H') :
    ∀ D, H1 D = none → ∃ W : Nat → Nat → Hp → Prop, (∃ m, W 0 m (upd H1 D (.lst []))) ∧ ∀ i m H, W i m H →
      ((Itl K a).stop i H ∧ Qd D H) ∨ ((Itl K a).go i H ∧ ∃ Nx : Hp → Prop, (∀ H', Nx H' → ∃ m', m' < m ∧ W (i + 1) m' H') ∧ ∀ x H', (Itl K a).yld i H x H' → g x (wipe σ vs) H' fun σ2 H2 => wipe σ2 vs = wipe σ vs ∧ tt σ2 H2 fun b H3 =>
        if b = true then te σ2 H3 fun y H4 => ∃ acc, H4 D = some (.lst acc) ∧ acc.length < sizeLine ∧ Nx (upd H4 D (.lst (acc ++ [y]))) else Nx H3) := by
  have hlen : ls.length = zs.length := by rw [DpAll.len hz, List.length_map]
  have hzl : (ls.zip zs).length = ls.length := by rw [List.length_zip]; omega
  refine lc_valsL (f := Prod.snd) (ls.zip zs) (wk_list _ _) (fun q => kept q.1) Prod.snd (by rw [hzl]; exact hn) (fun H s => by rw [zip_snd hlen]; exact s.seq ha) (fun i q H R1 R0 hq s k1 k0 => ?_) (fun D H' h1 h2 h3 => ?_)
  · obtain ⟨e1, e2, e3⟩ := dp_at hz hq
    exact hs i q.1 q.2 H R1 R0 e1 s (Dp.mono s e3) k1 k0
  · exact hd D H' _ h1 h2 h3 (DpAll.zipf (p := kept) hz)
end
theorem str_dec {x y : Str} : decide (V.str x = V.str y) = decide (some x = some y) := by
  by_cases e : x = y
  · rw [decide_eq_true (by rw [e]), decide_eq_true (by rw [e])]
  · rw [decide_eq_false (fun q => e (V.str.inj q)), decide_eq_false (fun q => e (Option.some.inj q))]
theorem cut_init (xs : List V) : cutV xs none (some (-1)) = xs.dropLast := by
  unfold cutV
  show (xs.drop 0).take (((-1 : Int) + (xs.length : Int)).toNat - 0) = _
  rw [List.drop_zero, List.dropLast_eq_take]
  congr 1
  omega
theorem tyx_tup {K : PySem.W.Frag} {H : Hp} {a : Addr} {xs : List V} (h : SqT K H a xs) : TyX K H (.ref a) (.type "tuple") := by
  rcases h with (h | ⟨o, h⟩) | ⟨o, its, n, h, c, _⟩
  · exact .base (.tup h)
  · exact .fTuple h
  · exact .kTuple h c
end Kf

set_option Elab.async false
set_option linter.all false
set_option maxRecDepth 100000
/-! C2: further rules: list.remove and list.count over plain items. -/
namespace Kf
open PySem PySem.Spec PyProof.Rows L2
section
variable {X : Cx}
def eqS (k : Str) : Value → Bool
  | .str x _ => x.cps.toList == k.cps.toList
  | _ => false
theorem eqS_of {x k : Str} {t : Tok} : eqS k (.str x t) = decide (x = k) := by
  show (x.cps.toList == k.cps.toList) = _
  by_cases e : x = k
  · subst e
    rw [decide_eq_true rfl]
    exact beq_self_eq_true _
  · rw [decide_eq_false e]
    refine beq_eq_false_iff_ne.mpr fun h => e ?_
    obtain ⟨⟨a⟩⟩ := x
    obtain ⟨⟨b⟩⟩ := k
    have h : a = b := h
    rw [h]
theorem eqS_gives {k : Str} {t : Tok} : ∀ {us : List Value} {xs : List Str}, Vals (xs.map V.str) us → ∀ y ∈ us, MeetsSeq.EqGives y (.str k t) (eqS k y)
  | _, [], .nil, y, hy => by cases hy
  | _, x :: xs, .cons r h, y, hy => by
    rcases List.mem_cons.mp hy with e | e
    · obtain ⟨t2, rfl⟩ := r
      rw [e]
      exact SeqRoads2.EqGives.str x k t2 t
    · exact eqS_gives h y e
theorem erase_strs : ∀ (xs : List Str) (j : Nat), (xs.map V.str).eraseIdx j = (xs.eraseIdx j).map V.str
  | [], j => by simp
  | _ :: _, 0 => by simp
  | _ :: l, j + 1 => by simp [erase_strs l j]
/-- xs.remove(x), texts -/
def rRemS : V → List V → Hp → VK → Prop := fun x xs H Q => ∃ (l : Addr) (ns : List Str) (k : Str) (j : Nat), x = .ref l ∧ xs = [.str k] ∧ H l = some (.lst (ns.map V.str)) ∧ ns[j]? = some k ∧ (∀ m : Nat, m < j → ns[m]? ≠ some k) ∧
  Q .non (upd H l (.lst ((ns.eraseIdx j).map V.str)))
theorem mt_removeS : MtM X "list.remove" rRemS := by
  intro pins s σ H x xs v us Q I rx rxs h
  obtain ⟨l, ns, k, j, rfl, rfl, hH, hj, hno, q⟩ := h
  cases rx
  obtain ⟨u, rfl, t, rfl⟩ := rxs.one
  obtain ⟨z, its, n, r, hl, e⟩ := I.lstM hH
  have hlen : its.length = ns.length := by rw [← r.length, List.length_map]
  have hjn : j < ns.length := (List.getElem?_eq_some_iff.mp hj).1
  have hjl : j < its.toArray.size := by rw [List.size_toArray, hlen]; exact hjn
  have at_ : ∀ (m : Nat) (hm : m < its.toArray.size), ∃ (hmn : m < ns.length) (t' : Tok), its.toArray[m] = .str ns[m] t' := fun m hm => by
    have hmn : m < ns.length := by rw [List.size_toArray, hlen] at hm; exact hm
    obtain ⟨u2, hu2, t', hu3⟩ := r.get (i := m) (x := .str ns[m]) (by rw [List.getElem?_map, List.getElem?_eq_getElem hmn]; rfl)
    subst hu3
    have e2 := (List.getElem?_eq_some_iff.mp hu2).2
    exact ⟨hmn, t', by simpa using e2⟩
  refine call_meets PySem.F.slot_list_remove ⟨_, e, rfl⟩ PySem.F.entry_list_remove (PySem.F.args_list_remove_2 _ _)
    (MeetsSeq.list_remove l its.toArray n (.str k t) (eqS k) (fun y hy => eqS_gives r y (List.mem_toArray.mp hy)) j hjl ?_ ?_ ?_) ⟨e, ?_⟩
  · obtain ⟨hmn, t', e1⟩ := at_ j hjl
    rw [e1, eqS_of]
    exact decide_eq_true (Option.some.inj ((List.getElem?_eq_getElem hmn).symm.trans hj))
  · intro m hm hmj
    obtain ⟨hmn, t', e1⟩ := at_ m hm
    rw [e1, eqS_of]
    exact decide_eq_false fun e2 => hno m hmj (by rw [List.getElem?_eq_getElem hmn, e2])
  · rw [List.size_toArray]
    have hz := z
    rw [List.length_map] at hz
    have := sizeLine_eq
    omega
  · have rr := r.eraseIdx j
    rw [erase_strs] at rr
    refine ⟨.non, _, I.lset (its' := its.eraseIdx j) (t' := s.toks) hH e ?_ rr ?_, rfl, q⟩
    · show its.toArray.eraseIdxIfInBounds j = (its.eraseIdx j).toArray
      rw [List.eraseIdxIfInBounds_toArray]
    · rw [List.length_map] at z ⊢
      exact Nat.le_trans (List.length_eraseIdx_le _ _) z
/-- xs.count(x), plain items -/
def rCntF (K : PySem.W.Frag) : V → List V → Hp → VK → Prop := fun x xs H Q => ∃ (p : Addr) (ys : List V) (y : V), x = .ref p ∧ xs = [y] ∧ SqL K H p ys ∧ flatV y = true ∧ ys.all flatV = true ∧ Q (.int (ys.countP (fun z => eqV z y) : Nat)) H
theorem countP_vals {y : V} : ∀ {ys : List V} {us : List Value}, Vals ys us → ys.all flatV = true → us.countP (eqU y) = ys.countP (fun z => eqV z y)
  | _, _, .nil, _ => rfl
  | z :: ys, u :: us, .cons r h, f => by
    rw [List.all_cons, Bool.and_eq_true] at f
    have ih := countP_vals (y := y) h f.2
    rw [List.countP_cons, List.countP_cons, ih, eqU_of r f.1]
theorem mt_countB (K : PySem.W.Frag) (hK : X.K = K := by rfl) : MtR X "list.count" (rCntF K) := by
  subst hK
  intro pins s σ H x xs v us Q I rx rxs h
  obtain ⟨p, ys, y, rfl, rfl, hs, fy, fys, q⟩ := h
  cases rx
  obtain ⟨u, rfl, ru⟩ := rxs.one
  obtain ⟨its, rv, ⟨⟨cls, dd, data, sl⟩, n, ho, hc, hdn, hd⟩, hlen⟩ := I.list hs
  simp only at hc hd
  subst hc hd
  refine call_meets PySem.F.slot_list_count ⟨_, ho, rfl⟩ PySem.F.entry_list_count (PySem.F.args_list_count_2 _ _)
    (SeqAt.list_countAt p its.toArray n dd sl u (eqU y)) ⟨ho, fun z hz => mem_eqAt ru fy rv fys z (List.mem_toArray.mp hz), ?_⟩
  refine ⟨.int (ys.countP (fun z => eqV z y) : Nat), H, I.tok _, ⟨s.toks, ?_⟩, q⟩
  have ec : its.toArray.toList.countP (eqU y) = ys.countP (fun z => eqV z y) := countP_vals (y := y) rv fys
  show Value.int ((its.toArray.toList.countP (eqU y) : Nat) : Int) s.toks = Value.int ((ys.countP (fun z => eqV z y) : Nat) : Int) s.toks
  rw [ec]
end
end Kf

set_option Elab.async false
set_option linter.all false
set_option maxRecDepth 100000
set_option maxHeartbeats 4000000
/-! C3: len(set(xs)) of texts. -/
namespace Kf
open PySem PySem.Spec PyProof.Rows
/-- how many unlike ones among the first i -/
def unl (xs : List Str) : Nat → Nat
  | 0 => 0
  | i + 1 => if (xs.take i).any (· == xs.getD i Str.empty) = true then unl xs i else unl xs i + 1
theorem unl_le (xs : List Str) : ∀ i, unl xs i ≤ i
  | 0 => Nat.le_refl _
  | i + 1 => by
    have := unl_le xs i
    unfold unl
    split <;> omega
section
variable {pg : Program} {w : World} {B : Around} {Rz : Result → Shared → Prop} {it : Addr} {fp wr : List Addr} {Gs : Array GenState → Array GenState → Prop} {n : Nat} {Pv : Nat → Value → Prop} {Sg : Nat → Shared → Prop}
theorem fill_set (Wk : WalksS pg w B.in1 it fp wr Gs n Pv Sg) (sa : Addr) (hsf : sa ∉ fp) (xs : List Str) (hlen : xs.length = n) (hsm : n + 1 < scanBound)
    (hv : ∀ i v, Pv i v → ∃ t, v = .str (xs.getD i Str.empty) t) :
    ∀ (m i : Nat) (st : Shared), n - i = m → i ≤ n → Sg i st → st.heap.SetOf (PySem.strKind pg w) sa (fun y => (xs.take i).any (· == y)) (unl xs i) →
      (∀ st', Moved (sa :: wr) Gs st st' → st'.heap.SetOf (PySem.strKind pg w) sa (fun y => (xs.take n).any (· == y)) (unl xs n) → Rz (.ok (.ret .none)) st') →
      codeAny (model pg w) B (.builtin "set.update.loop" ⟨[.ref sa, .ref it], []⟩) Rz st := by
  have hsw : sa ∉ wr := fun h => hsf (Wk.sub _ h)
  have grow : ∀ b ∈ wr, b ∈ sa :: wr := fun b hb => List.mem_cons_of_mem _ hb
  intro m
  induction m with
  | zero =>
    intro i st hm hi hsg hset hR
    have e : i = n := by omega
    subst e
    refine codeAny_builtin F.entry_set_update_loop ?_
    rw [Around.under_plainId F.plain_set_update_loop _]
    show wpAny _ B.in1 (pyNext (.ref it) >>= _) _ _ st
    refine wpAny_bind (Wk.done st _ _ hsg fun st' mv => ?_)
    show wpAny _ B.in1 (ret Value.none) _ _ st'
    refine wpAny_pure (hR st' (mv.mono grow) ?_)
    obtain ⟨o, es, ep, tb, ho, more⟩ := hset
    exact ⟨o, es, ep, tb, mv.heap sa _ hsw ho, more⟩
  | succ m ih =>
    intro i st hm hi hsg hset hR
    have hlt : i < n := by omega
    refine codeAny_builtin F.entry_set_update_loop ?_
    rw [Around.under_plainId F.plain_set_update_loop _]
    show wpAny _ B.in1 (pyNext (.ref it) >>= _) _ _ st
    refine wpAny_bind (Wk.item i st _ _ hlt hsg fun v st' hpv hsg' mv => ?_)
    obtain ⟨t, rfl⟩ := hv i v hpv
    have hset' : st'.heap.SetOf (PySem.strKind pg w) sa (fun y => (xs.take i).any (· == y)) (unl xs i) := by
      obtain ⟨o, es, ep, tb, ho, more⟩ := hset
      exact ⟨o, es, ep, tb, mv.heap sa _ hsw ho, more⟩
    show wpAny _ B.in1 (holding [Value.str (xs.getD i Str.empty) t] (setAdd sa (.str (xs.getD i Str.empty) t)) >>= _) _ _ st'
    refine wpAny_bind (wpAny_holding ?_)
    unfold setAdd
    refine wpAny_holding ?_
    have hk : (PySem.strKind pg w).is (xs.getD i Str.empty) (.str (xs.getD i Str.empty) t) = true := strKind_is _ _ _ _
    refine wpAny_bind ((PySem.strKind pg w).pyHash (k := xs.getD i Str.empty) hk ?_)
    have hun := unl_le xs i
    refine wpAny_setAddHashed_of (knd := PySem.strKind pg w) (s := { st' with toks := st'.toks + 1 }) hk rfl hset' (by omega) fun h' hsb hs2 => ?_
    have hnx : h'.SetOf (PySem.strKind pg w) sa (fun y => (xs.take (i + 1)).any (· == y)) (unl xs (i + 1)) := by
      have hx : xs[i]? = some (xs.getD i Str.empty) := by
        rw [List.getD_eq_getElem?_getD, List.getElem?_eq_getElem (by omega)]
        rfl
      refine SetOf_congr hs2 (fun y => ?_) ?_
      · show ((xs.take i).any (· == y) || decide (y = xs.getD i Str.empty)) = (xs.take (i + 1)).any (· == y)
        rw [List.take_add_one, hx, List.any_append]
        congr 1
        show decide (y = xs.getD i Str.empty) = (xs.getD i Str.empty == y || false)
        rw [Bool.or_false]
        by_cases e : y = xs.getD i Str.empty
        · rw [decide_eq_true e, e]
          exact (beq_self_eq_true _).symm
        · rw [decide_eq_false e]
          exact (beq_eq_false_iff_ne.mpr fun q => e q.symm).symm
      · rfl
    refine wpAny_pure ⟨plainId_quiet F.plain_set_update_loop _, ih (i + 1) _ (by omega) hlt (Wk.frame _ st' _ _ hsg' (Nat.le_succ _) fun b hb o e => ?_) hnx fun st'' mv2 hs3 => ?_⟩
    · rw [hsb.2 b (fun h : b = sa => hsf (by rw [← h]; exact hb))]
      exact e
    · refine hR st'' (Moved.trans Wk.gtrans ((mv.mono grow).then_heap (Nat.le_succ _) fun b o hb e => ?_) mv2) hs3
      rw [hsb.2 b (fun h : b = sa => hb (by rw [h]; exact List.mem_cons_self))]
      exact e
end
abbrev eSet (led : Bool) : Obj := { cls := .type "set", dict := none, data := .set #[] 0 (.fresh 0 0 led) }
section
variable {pg : Program} {w : World} {B : Around} {Ev : Value → Shared → Prop} {s : Shared}
theorem made_set {l : Addr} {its : Array Value} {xs : List Str} {Qv : Value → Shared → Prop} (quiet : B.handled = none) (isl : s.heap.IsList l its) (are : PyProof.Rows.StrsAre its.toList xs) (few : xs.length + 1 < scanBound)
    (fin : ∀ (h' : Heap) (tk : Nat), h'.SetOf (PySem.strKind pg w) s.heap.objs.size (fun y => (xs.take its.size).any (· == y)) (unl xs its.size) →
      (∀ b o, b < s.heap.objs.size → s.heap.get? b = some o → h'.get? b = some o) → Qv (.ref s.heap.objs.size) { s with heap := h', toks := tk }) :
    wpAny (model pg w) B (call (.type "set") [.ref l]) Qv Ev s := by
  obtain ⟨cx, tlx, mrx⟩ := PySem.F.called_set.mro
  have mdx := PySem.F.called_set.made
  have sbx := PySem.F.called_set.sub
  refine wpAny_call (codeAny_of_tree ?_)
  show wpAny _ _ (callAny (.type "set") _) _ _ _
  refine wpAny_pure ⟨Code.quiet_builtin _ (by decide +kernel), codeAny_builtin PySem.F.entry_type_call ?_⟩
  rw [Around.under_plain (weight_type_call_type "set" [.ref l] []) rfl]
  have w1 := PySem.F.called_set.notType
  have w2 := PySem.F.called_set.canCreate
  have w3 := PySem.F.typeCall_set_1 (.ref l)
  repeat any_goals (first | wp_step | assumption)
  refine codeAny_mono (code_set_new_1 (.ref l) (E := Ev) (Q₁ := fun ob s1 => ∃ led : Bool, ob = .ref s.heap.objs.size ∧ s1 = { s with heap := s.heap.push { cls := .type "set", dict := none, data := .set #[] 0 (.fresh 0 0 led) } }) fun led => ⟨led, rfl, rfl⟩) fun r s1 hr => ?_
  cases r with
  | error ex => exact hr
  | ok fo =>
    cases fo with
    | ret ob =>
      obtain ⟨led, rfl, rfl⟩ := hr
      have g0 : (s.heap.push (eSet led)).get? s.heap.objs.size = some (eSet led) := Heap.get?_push_size _ rfl
      have t0 : Shared.TypeIs { s with heap := s.heap.push (eSet led) } (.ref s.heap.objs.size) "set" := ⟨_, g0, rfl⟩
      have l0 := PySem.F.called_set.init.lookup
      have b0 := PySem.F.called_set.init.bind (.ref s.heap.objs.size)
      repeat any_goals (first | wp_step | assumption)
      refine codeAny_mono (codeAny_call_builtin (R := wants (fun r s2 => r = .none ∧ ∃ h' tk, s2 = { s with heap := h', toks := tk } ∧
          h'.SetOf (PySem.strKind pg w) s.heap.objs.size (fun y => (xs.take its.size).any (· == y)) (unl xs its.size) ∧
          (∀ b o, b < s.heap.objs.size → s.heap.get? b = some o → h'.get? b = some o)) Ev) PySem.F.called_set.init.plain PySem.F.entry_set_init (check_set_init_1 t0 ?_)) fun r2 s2 hr2 => ?_
      · obtain ⟨ol, hol, hcl, nl, hdl⟩ := isl
        obtain ⟨clo, dio, dao, slo⟩ := ol
        simp only at hcl hdl
        subst hcl hdl
        have hol2 : (s.heap.push (eSet led)).get? l = some { cls := .type "list", dict := dio, data := .seq its nl, slots := slo } := Heap.get?_push_of_some _ hol
        have z1 := PySem.F.sub_list_set
        have z2 := PySem.F.sub_list_frozenset
        have z3 : (Value.type "list" == Value.type "dict") = false := by decide
        have hl1 : (s.heap.push (eSet led)).IsList l its := ⟨_, hol2, rfl, nl, rfl⟩
        unfold Builtin.«set.__init__» noKeywords Builtin.Frozenset.updateFrom
        generalize hpi : pyIter = pi_
        wp_walk
        subst hpi
        refine wpAny_pyIter_list hl1 ?_
        refine wpAny_bind (wpAny_runValue ?_)
        have hlt : l < s.heap.objs.size := Heap.lt_size hol
        have quiet3 : B.in1.in1.in1.handled = none := by simp [quiet]
        have ne1 : l ≠ (s.heap.push (eSet led)).objs.size := by
          rw [Heap.size_push]
          exact Nat.ne_of_lt (Nat.lt_succ_of_lt hlt)
        have nin : s.heap.objs.size ∉ [(s.heap.push (eSet led)).objs.size, l] := by
          rw [Heap.size_push]
          intro hm
          rcases List.mem_cons.mp hm with e | hm
          · exact absurd e (Nat.ne_of_lt (Nat.lt_succ_self _))
          · rw [List.mem_singleton] at hm
            exact absurd hm (Nat.ne_of_gt hlt)
        have hsz : xs.length = its.size := by rw [← StrsAre.len_eq are, Array.length_toList]
        have hval : ∀ (i : Nat) (v : Value), its[i]? = some v → ∃ t, v = .str (xs.getD i Str.empty) t := fun i v hv => SS.strs_at are i v (by rw [Array.getElem?_toList]; exact hv)
        refine fill_set ((Walks.list quiet3 _ l ne1 its).toS) s.heap.objs.size nin xs hsz (by rw [← hsz]; exact few) hval (its.size - 0) 0 _ (by omega) (Nat.zero_le _) ⟨⟨_, Heap.get?_push_size _ rfl, rfl, rfl⟩, hl1.push _⟩ ?_ ?_
        · have gx := Heap.get?_push_of_some { cls := .type "list_iterator", data := .fields #[.ref l, .int 0 0] } g0
          exact SetOf_congr ((setObjOf_fresh (knd := PySem.strKind pg w) led).setOf gx (by unfold scanBound; omega)) (fun _ => rfl) rfl
        · intro s' mv hs3
          obtain ⟨h', g', d', tk', os'⟩ := s'
          have e1 : g' = s.gens := mv.gens
          have e2 : d' = s.drawn := mv.drawn
          have e3 : os' = s.os := mv.os
          subst e1 e2 e3
          show wpAny _ _ _ _ _ _
          refine wpAny_pure ?_
          show wpAny _ _ (ret Value.none) _ _ _
          refine wpAny_pure ⟨rfl, h', tk', rfl, hs3, fun b o hb e => ?_⟩
          have n1 : b ≠ s.heap.objs.size := Nat.ne_of_lt hb
          have n2 : b ≠ (s.heap.push (eSet led)).objs.size := by
            rw [Heap.size_push]
            omega
          refine mv.heap b o (fun hm => ?_) (Heap.get?_push_of_some _ (Heap.get?_push_of_some _ e))
          rcases List.mem_cons.mp hm with q | hm
          · exact n1 q
          · rw [List.mem_singleton] at hm
            exact n2 hm
      · cases r2 with
        | error ex => exact hr2
        | ok fo2 =>
          cases fo2 with
          | ret r =>
            obtain ⟨rfl, h', tk, rfl, hs3, hk3⟩ := hr2
            repeat any_goals (first | wp_step | assumption)
            exact fin _ _ hs3 hk3
          | _ => exact hr2.elim
    | _ => exact hr.elim
end
open L2
/-- len(set(xs)), a list of texts -/
def tLenS (K : PySem.W.Frag) (ta : TE) : TE := fun σ H Q => ta σ H fun x H1 => ∃ (l : Addr) (xs : List Str), x = .ref l ∧ SqL K H1 l (xs.map V.str) ∧ xs.length ≤ 4000 ∧ Q (.int (unl xs xs.length : Nat)) H1
theorem pe_lenSet1 {X : Cx} {a : Expr} {ta : TE} {p p2 q pos : Pos} (hm : X.mg "len" = none) (hm2 : X.mg "set" = none) (ha : PE X a ta) (hc : X.calm = true := by rfl) (hg : Gl X "len" := by rfl) (hg2 : Gl X "set" := by rfl)
    (na : starEach [a] X.env = (false, eval a X.env) :: starEach [] X.env := by rfl) : PE X (.Call (.Name "len" p) [.Call (.Name "set" p2) [a] [] q] [] pos) (tLenS X.K ta) := by
  refine ⟨fun pins s σ H Q I h => ?_⟩
  refine Call_ (ld_blt I hg hm boot_len ?_)
  refine callWith_builtin1 (args_cons ?_ rfl) rfl rfl
  refine Call_ (ld_blt I hg2 hm2 boot_set ?_)
  refine callWith_type1 (args_cons (thn (ha.run pins s σ H _ I h) fun v s1 ⟨x, H1, I1, r1, q1⟩ => args_nil ?_) na) na rfl
  obtain ⟨l, xs, rfl, hq, hl, q1⟩ := q1
  cases r1
  obtain ⟨its, r, pl, hz⟩ := I1.list hq
  have hlen : its.toArray.size = xs.length := by rw [List.size_toArray, ← r.length, List.length_map]
  have hun := unl_le xs xs.length
  refine made_set (I1.ok.hd hc) pl.isList (strsAre_of r) (by unfold scanBound; omega) fun h' tk hS hk => ?_
  refine args_nil ?_
  rw [hlen] at hS
  obtain ⟨o, es, ep, t, ho, hex, hd, _, _, _, hf, hn⟩ := hS
  have I2 : Inv X pins σ H1 { s1 with heap := h', toks := tk } := I1.kept fun b o e => hk b o (Heap.lt_size e) e
  exact call_len_set ho hex hd hf (by rw [hn]; omega) ⟨.int (unl xs xs.length : Nat), H1, I2.tok _, ⟨_, by rw [hn]⟩, q1⟩
end Kf

set_option Elab.async false
set_option linter.all false
set_option maxRecDepth 100000
/-! C6: loops over two lists at once; sorted the other way round. -/
namespace Kf
open PySem PySem.Spec PyProof.Rows L2
def YZ {α β : Type} (f : α → V) (as : List α) (g : β → V) (bs : List β) : Nat → Hp → V → Hp → Prop := fun i H x H' => ∃ T a b, as[i]? = some a ∧ bs[i]? = some b ∧ x = .ref T ∧ H T = none ∧ H' = upd H T (.tup [f a, g b])
theorem wk_zip {α β : Type} {K : PySem.W.Frag} {a b : Addr} (f : α → V) (as : List α) (g : β → V) (bs : List β) {n : Nat} (hn : n = min as.length bs.length) :
    Walk (Itz K a b) n (fun H => SqL K H a (as.map f) ∧ SqL K H b (bs.map g)) (YZ f as g bs) := by
  have w := walk_zip (K := K) (a := a) (b := b) (xs := as.map f) (ys := bs.map g) (n := n) (by rw [List.length_map, List.length_map]; exact hn)
  refine w.mono (fun _ h => h) fun i H x H' hi _ y => ?_
  obtain ⟨T, x1, x2, h1, h2, h3, h4, h5⟩ := y
  have h4 : (as.map f)[i]? = some x1 := h4
  have h5 : (bs.map g)[i]? = some x2 := h5
  rw [List.getElem?_map] at h4 h5
  obtain ⟨p, hp, rfl⟩ := Option.map_eq_some_iff.mp h4
  obtain ⟨q, hq, rfl⟩ := Option.map_eq_some_iff.mp h5
  exact ⟨T, p, q, hp, hq, h1, h2, h3⟩
theorem for_Z {α β : Type} {J : It} {G : Hp → Prop} {g : TG} {tb : TS} {D : Ends} {σ : L2.St} {H : Hp} {f : α → V} {f2 : β → V} {as : List α} {bs : List β} {n : Nat} (w : Walk J n G (YZ f as f2 bs)) (Pv : Nat → L2.St → Hp → Prop) (h0 : Pv 0 σ H) (hG : ∀ i σ H, i ≤ n → Pv i σ H → G H)
    (hs : ∀ (i : Nat) a b T σ H (D' : Ends), LoopTo D' D (Pv (i + 1)) → i < n → as[i]? = some a → bs[i]? = some b → Pv i σ H → H T = none → g (.ref T) σ (upd H T (.tup [f a, f2 b])) fun σ2 H2 => tb D' σ2 H2) (hd : ∀ σ H, Pv n σ H → D.nx σ H) :
    Door (∃ W : Nat → Nat → L2.St → Hp → Prop, (∃ m, W 0 m σ H) ∧ ∀ i m σ H, W i m σ H →
      (J.stop i H ∧ D.nx σ H) ∨ (J.go i H ∧ ∃ N : L2.St → Hp → Prop, (∀ σ' H', N σ' H' → ∃ m', m' < m ∧ W (i + 1) m' σ' H') ∧ ∀ x H', J.yld i H x H' → g x σ H' fun σ2 H2 => tb { D with nx := N, ct := N, bk := D.nx } σ2 H2)) := by
  refine Door.mk (for_it w Pv h0 hG (fun i x σ H H' hi hp hy => ?_) hd)
  obtain ⟨T, a, b, ha, hb, q, hT, e⟩ := hy
  subst e q
  exact hs i a b T σ H _ ⟨fun _ _ h => h, fun _ _ h => h, fun _ _ h => h, fun _ _ h => h⟩ hi ha hb hp hT
theorem cr_sortedRevK (K : PySem.W.Frag) {X : Cx} (h : X.K = K := by rfl) : CallRK X (.builtin "sorted") [Str.ofString "reverse"] (rSortedKw K true [.bl true]) := by
  subst h
  exact cr_sortedRev
end Kf

/-! M0: plain lists: the last wish of a thing ahead of a place. -/
namespace Kf
section
variable {α : Type} [DecidableEq α]
/-- the greatest j < i with ws[j] = x -/
def lastIx (ws : List α) (x : α) : Nat → Option Nat
  | 0 => none
  | i + 1 => if ws[i]? = some x then some i else lastIx ws x i
theorem lastIx_succ (ws : List α) (x : α) (i : Nat) : lastIx ws x (i + 1) = if ws[i]? = some x then some i else lastIx ws x i := rfl
theorem lastIx_some {ws : List α} {x : α} : ∀ {i j : Nat}, lastIx ws x i = some j → j < i ∧ ws[j]? = some x ∧ ∀ k, j < k → k < i → ws[k]? ≠ some x
  | 0, j, h => by cases h
  | i + 1, j, h => by
    unfold lastIx at h
    split at h
    · rename_i hx
      have e := Option.some.inj h
      subst e
      exact ⟨by omega, hx, fun k h1 h2 => by omega⟩
    · rename_i hx
      obtain ⟨h1, h2, h3⟩ := lastIx_some h
      refine ⟨by omega, h2, fun k hk1 hk2 => ?_⟩
      by_cases e : k = i
      · subst e; exact hx
      · exact h3 k hk1 (by omega)
theorem lastIx_none {ws : List α} {x : α} : ∀ {i : Nat}, lastIx ws x i = none → ∀ k, k < i → ws[k]? ≠ some x
  | 0, _, k, hk => by omega
  | i + 1, h, k, hk => by
    unfold lastIx at h
    split at h
    · cases h
    · rename_i hx
      by_cases e : k = i
      · subst e; exact hx
      · exact lastIx_none h k (by omega)
theorem lastIx_of {ws : List α} {x : α} {i j : Nat} (h1 : j < i) (h2 : ws[j]? = some x) (h3 : ∀ k, j < k → k < i → ws[k]? ≠ some x) : lastIx ws x i = some j := by
  cases e : lastIx ws x i with
  | none => exact absurd h2 (lastIx_none e j h1)
  | some k =>
    obtain ⟨q1, q2, q3⟩ := lastIx_some e
    by_cases a : k < j
    · exact absurd h2 (q3 j a h1)
    · by_cases b : j < k
      · exact absurd q2 (h3 k b q1)
      · have : k = j := by omega
        rw [this]
/-- the last wish of the same thing ahead of wish i -/
def lastAt (ws : List α) (i : Nat) : Option Nat := ws[i]?.bind fun x => lastIx ws x i
theorem lastAt_of {ws : List α} {i : Nat} {x : α} (h : ws[i]? = some x) : lastAt ws i = lastIx ws x i := by
  unfold lastAt
  rw [h]
  rfl
/-- the wishes of the same thing ahead of wish j -/
def aheads (ws : List α) (j : Nat) : List Nat := (List.range j).filter fun k => decide (ws[k]? = ws[j]?)
theorem filt_last {p : Nat → Bool} : ∀ n : Nat, ((List.range n).filter p).getLast? = none ∧ (∀ k, k < n → p k = false) ∨ ∃ k, ((List.range n).filter p).getLast? = some k ∧ k < n ∧ p k = true ∧ ∀ m, k < m → m < n → p m = false
  | 0 => .inl ⟨rfl, fun k hk => by omega⟩
  | n + 1 => by
    rw [List.range_succ, List.filter_append]
    cases hp : p n with
    | true =>
      refine .inr ⟨n, ?_, by omega, hp, fun m h1 h2 => by omega⟩
      rw [List.filter_cons, if_pos hp]
      simp
    | false =>
      rw [List.filter_cons, if_neg (by rw [hp]; decide)]
      simp only [List.filter_nil, List.append_nil]
      rcases filt_last (p := p) n with ⟨h1, h2⟩ | ⟨k, h1, h2, h3, h4⟩
      · refine .inl ⟨h1, fun k hk => ?_⟩
        by_cases e : k = n
        · rw [e]; exact hp
        · exact h2 k (by omega)
      · refine .inr ⟨k, h1, by omega, h3, fun m hm1 hm2 => ?_⟩
        by_cases e : m = n
        · rw [e]; exact hp
        · exact h4 m hm1 (by omega)
theorem aheads_last {ws : List α} {j : Nat} {x : α} (h : ws[j]? = some x) : (aheads ws j).getLast? = lastAt ws j := by
  rw [lastAt_of h]
  rcases filt_last (p := fun k => decide (ws[k]? = ws[j]?)) j with ⟨h1, h2⟩ | ⟨k, h1, h2, h3, h4⟩
  · unfold aheads
    rw [h1]
    cases e : lastIx ws x j with
    | none => rfl
    | some k =>
      obtain ⟨q1, q2, _⟩ := lastIx_some e
      have := h2 k q1
      rw [h, q2] at this
      simp at this
  · unfold aheads
    rw [h1]
    have h3 := of_decide_eq_true h3
    rw [h] at h3
    refine (lastIx_of h2 h3 fun m hm1 hm2 => ?_).symm
    have := of_decide_eq_false (h4 m hm1 hm2)
    rw [h] at this
    exact this
/-- the later wishes of x, of the first n -/
def laters (ws : List α) (x : α) (n : Nat) : List Nat := ((List.range n).filter fun j => (lastAt ws j).isSome).filter fun j => decide (ws[j]? = some x)
theorem laters_succ (ws : List α) (x : α) (n : Nat) : laters ws x (n + 1) = laters ws x n ++ (if (lastAt ws n).isSome = true ∧ ws[n]? = some x then [n] else []) := by
  unfold laters
  rw [List.range_succ, List.filter_append, List.filter_append]
  congr 1
  cases h : (lastAt ws n).isSome with
  | false => rw [List.filter_cons, if_neg (by rw [h]; decide)]; simp
  | true =>
    rw [List.filter_cons, if_pos h]
    by_cases e : ws[n]? = some x
    · rw [if_pos ⟨rfl, e⟩]; simp [e]
    · rw [if_neg (fun q => e q.2)]; simp [e]
theorem laters_law (ws : List α) (x : α) : ∀ n : Nat, ((∀ k, k < n → ws[k]? ≠ some x) ∧ laters ws x n = [] ∧ lastIx ws x n = none) ∨
    ∃ f, ws[f]? = some x ∧ f < n ∧ (∀ k, k < f → ws[k]? ≠ some x) ∧ (laters ws x n).map (lastAt ws) = ((f :: laters ws x n).dropLast).map some ∧ lastIx ws x n = (f :: laters ws x n).getLast?
  | 0 => .inl ⟨fun k hk => by omega, rfl, rfl⟩
  | n + 1 => by
    rw [laters_succ, lastIx_succ]
    by_cases hx : ws[n]? = some x
    · rw [if_pos hx, lastAt_of hx]
      rcases laters_law ws x n with ⟨h1, h2, h3⟩ | ⟨f, h1, h2, h3, h4, h5⟩
      · refine .inr ⟨n, hx, by omega, h1, ?_, ?_⟩
        · rw [h2, h3, if_neg (by simp)]
          rfl
        · rw [h2, h3, if_neg (by simp)]
          rfl
      · refine .inr ⟨f, h1, by omega, h3, ?_, ?_⟩
        · have hs : (lastIx ws x n).isSome = true := by rw [h5]; simp
          rw [if_pos ⟨hs, hx⟩, List.map_append, h4]
          have e : (f :: (laters ws x n ++ [n])).dropLast = f :: laters ws x n := by
            rw [← List.cons_append, List.dropLast_concat]
          rw [e, List.map_cons, List.map_nil, lastAt_of hx, h5]
          have e2 : f :: laters ws x n = (f :: laters ws x n).dropLast ++ [(f :: laters ws x n).getLast (by simp)] := (List.dropLast_concat_getLast _).symm
          conv => rhs; rw [e2]
          rw [List.map_append, List.getLast?_eq_getLast (by simp)]
          rfl
        · have hs : (lastIx ws x n).isSome = true := by rw [h5]; simp
          rw [if_pos ⟨hs, hx⟩, ← List.cons_append, List.getLast?_concat]
    · rw [if_neg hx, if_neg (fun q => hx q.2), List.append_nil]
      rcases laters_law ws x n with ⟨h1, h2, h3⟩ | ⟨f, h1, h2, h3, h4, h5⟩
      · refine .inl ⟨fun k hk => ?_, h2, h3⟩
        by_cases e : k = n
        · rw [e]; exact hx
        · exact h1 k (by omega)
      · exact .inr ⟨f, h1, by omega, h3, h4, h5⟩
end
end Kf

namespace Kf
open PySem PySem.Spec PyProof.Rows L2
/-! M1: sorted texts: of the same things there is one sorted list. -/
def sle (a b : Str) : Prop := a.cps.toList ≤ b.cps.toList
theorem lt_cps (a b : Str) : ltCps a.cps.toList b.cps.toList = false ↔ sle b a := by
  rw [ltCps_eq]
  unfold sle
  constructor
  · intro h
    exact List.not_lt.mp (of_decide_eq_false h)
  · intro h
    exact decide_eq_false (List.not_lt.mpr h)
theorem sle_trans {a b c : Str} (h : sle a b) (g : sle b c) : sle a c := List.le_trans h g
theorem str_ext {a b : Str} (h : a.cps.toList = b.cps.toList) : a = b := by
  obtain ⟨⟨a⟩⟩ := a
  obtain ⟨⟨b⟩⟩ := b
  have h : a = b := h
  rw [h]
theorem sle_anti {a b : Str} (h : sle a b) (g : sle b a) : a = b := str_ext (List.le_antisymm h g)
theorem sle_total (a b : Str) : sle a b ∨ sle b a := List.le_total _ _
theorem rising_pair : ∀ (p : Str) (l : List Str), risingS p l = true → (p :: l).Pairwise sle
  | p, [], _ => by simp
  | p, x :: r, h => by
    have h : (!ltCps x.cps.toList p.cps.toList && risingS x r) = true := h
    rw [Bool.and_eq_true] at h
    have h1 : sle p x := (lt_cps x p).mp (by simpa using h.1)
    have ih := rising_pair x r h.2
    refine List.pairwise_cons.mpr ⟨fun y hy => ?_, ih⟩
    rcases List.mem_cons.mp hy with rfl | hy
    · exact h1
    · exact sle_trans h1 ((List.pairwise_cons.mp ih).1 y hy)
theorem sorted_pair {l : List Str} (h : sortedS l = true) : l.Pairwise sle := by
  cases l with
  | nil => exact List.Pairwise.nil
  | cons x r => exact rising_pair x r h
theorem sorted_one {l m : List Str} (p : l.Perm m) (hl : sortedS l = true) (hm : sortedS m = true) : l = m :=
  List.Perm.eq_of_pairwise (le := sle) (fun _ _ _ _ => sle_anti) (sorted_pair hl) (sorted_pair hm) p
/-- the sorted list -/
noncomputable def srt (l : List Str) : List Str := l.mergeSort fun a b => !ltCps b.cps.toList a.cps.toList
theorem srt_perm (l : List Str) : (srt l).Perm l := List.mergeSort_perm _ _
theorem srt_pair (l : List Str) : (srt l).Pairwise sle := by
  have h := List.pairwise_mergeSort (le := fun a b : Str => !ltCps b.cps.toList a.cps.toList) (fun a b c h g => ?_) (fun a b => ?_) l
  · refine h.imp fun {a b} q => (lt_cps b a).mp (by simpa using q)
  · have h1 : sle a b := (lt_cps b a).mp (by simpa using h)
    have g1 : sle b c := (lt_cps c b).mp (by simpa using g)
    have := (lt_cps c a).mpr (sle_trans h1 g1)
    rw [this]
    rfl
  · rcases sle_total a b with q | q
    · rw [(lt_cps b a).mpr q]; rfl
    · rw [(lt_cps a b).mpr q]; simp
theorem srt_sorted (l : List Str) : sortedS (srt l) = true := sortedS_of_pairwise _ ((srt_pair l).imp fun {a b} h => (lt_cps b a).mpr h)
theorem sorted_srt {l m : List Str} (p : l.Perm m) (h : sortedS l = true) : l = srt m := sorted_one (p.trans (srt_perm m).symm) h (srt_sorted m)
end Kf

set_option linter.all false
namespace Kf
/-! M2: the cold shelf holds the last of what was wished; depths. -/
section
variable {α : Type} [DecidableEq α]
def nxtC (p : Nat) (xs : List α) (x : α) : List α := if x ∈ xs then xs.erase x ++ [x] else if xs.length = p then xs.tail ++ [x] else xs ++ [x]
def nxtR (xs : List α) (x : α) : List α := xs.filter (fun y => !decide (y = x)) ++ [x]
def colds (p : Nat) (ws : List α) : List α := ws.foldl (nxtC p) []
def recs (ws : List α) : List α := ws.foldl nxtR []
theorem colds_snoc (p : Nat) (ws : List α) (x : α) : colds p (ws ++ [x]) = nxtC p (colds p ws) x := by unfold colds; rw [List.foldl_append]; rfl
theorem recs_snoc (ws : List α) (x : α) : recs (ws ++ [x]) = nxtR (recs ws) x := by unfold recs; rw [List.foldl_append]; rfl
theorem filt_non {xs : List α} {x : α} (h : x ∉ xs) : xs.filter (fun y => !decide (y = x)) = xs := by
  refine List.filter_eq_self.mpr fun y hy => ?_
  have hn : ¬ y = x := fun e => h (e ▸ hy)
  rw [decide_eq_false hn]
  rfl
theorem filt_erase {xs : List α} {x : α} (h : xs.Nodup) : xs.filter (fun y => !decide (y = x)) = xs.erase x := by
  rw [h.erase_eq_filter]
  refine List.filter_congr fun y _ => ?_
  by_cases e : y = x <;> simp [e]
theorem recs_nodup : ∀ (ws : List α), (recs ws).Nodup := by
  intro ws
  unfold recs
  have : ∀ (ws xs : List α), xs.Nodup → (ws.foldl nxtR xs).Nodup := by
    intro ws
    induction ws with
    | nil => exact fun xs h => h
    | cons x l ih =>
      intro xs h
      refine ih _ ?_
      unfold nxtR
      rw [List.nodup_append]
      refine ⟨h.filter _, by simp, fun a ha b hb e => ?_⟩
      rw [List.mem_singleton.mp hb] at e
      have := (List.mem_filter.mp ha).2
      rw [decide_eq_true e] at this
      cases this
  exact this ws [] List.nodup_nil
theorem snoc_ind {P : List α → Prop} (h0 : P []) (h1 : ∀ ws x, P ws → P (ws ++ [x])) (ws : List α) : P ws := by
  have : ∀ l : List α, P l.reverse := by
    intro l
    induction l with
    | nil => exact h0
    | cons x l ih => rw [List.reverse_cons]; exact h1 _ _ ih
  have := this ws.reverse
  rwa [List.reverse_reverse] at this
/-- what the cold shelf holds is the end of what was wished -/
theorem colds_end {p : Nat} (hp : 1 ≤ p) (ws : List α) : ∃ A, recs ws = A ++ colds p ws ∧ (A = [] ∨ (colds p ws).length = p) ∧ (colds p ws).length ≤ p := by
  refine snoc_ind (P := fun ws => ∃ A, recs ws = A ++ colds p ws ∧ (A = [] ∨ (colds p ws).length = p) ∧ (colds p ws).length ≤ p) ⟨[], rfl, .inl rfl, Nat.zero_le _⟩ (fun ws x ih => ?_) ws
  obtain ⟨A, h1, h2, h3⟩ := ih
  have nd := recs_nodup ws
  rw [recs_snoc, colds_snoc]
  unfold nxtC nxtR
  rw [h1] at nd ⊢
  obtain ⟨ndA, ndC, dis⟩ := List.nodup_append.mp nd
  rw [List.filter_append]
  by_cases c : x ∈ colds p ws
  · rw [if_pos c, filt_erase ndC, filt_non (xs := A) (fun e => dis x e x c rfl)]
    have hl : ((colds p ws).erase x ++ [x]).length = (colds p ws).length := by
      rw [List.length_append, List.length_erase_of_mem c, List.length_singleton]
      have := List.length_pos_of_mem c
      omega
    refine ⟨A, by rw [List.append_assoc], ?_, by rw [hl]; exact h3⟩
    rw [hl]
    exact h2
  · rw [if_neg c, filt_non c]
    by_cases c2 : (colds p ws).length = p
    · rw [if_pos c2]
      cases e : colds p ws with
      | nil => rw [e] at c2; simp at c2; omega
      | cons y l =>
        rw [e] at c2
        have hl : (l ++ [x]).length = p := by rw [List.length_append, List.length_singleton]; simpa using c2
        exact ⟨A.filter (fun y => !decide (y = x)) ++ [y], by simp, .inr hl, by show (l ++ [x]).length ≤ p; omega⟩
    · rw [if_neg c2]
      have eA := h2.resolve_right c2
      subst eA
      refine ⟨[], by simp, .inl rfl, ?_⟩
      rw [List.length_append, List.length_singleton]
      omega
theorem recs_mem (ws : List α) (y : α) : y ∈ recs ws ↔ y ∈ ws := by
  refine snoc_ind (P := fun ws => y ∈ recs ws ↔ y ∈ ws) Iff.rfl (fun ws x ih => ?_) ws
  rw [recs_snoc]
  unfold nxtR
  rw [List.mem_append, List.mem_append, List.mem_filter, ih]
  by_cases e : y = x
  · simp [e]
  · simp [e]
/-- since its last wish -/
theorem recs_since (pre mid : List α) (x : α) (h : x ∉ mid) : ∃ R0 S, recs (pre ++ x :: mid) = R0 ++ x :: S ∧ S.Nodup ∧ ∀ y, y ∈ S ↔ y ∈ mid := by
  revert h
  refine snoc_ind (P := fun mid => x ∉ mid → ∃ R0 S, recs (pre ++ x :: mid) = R0 ++ x :: S ∧ S.Nodup ∧ ∀ y, y ∈ S ↔ y ∈ mid) ?_ ?_ mid
  · intro _
    refine ⟨(recs pre).filter (fun y => !decide (y = x)), [], ?_, List.nodup_nil, fun y => Iff.rfl⟩
    rw [recs_snoc]
    rfl
  · intro mid y ih h
    obtain ⟨R0, S, h1, h2, h3⟩ := ih (fun e => h (List.mem_append_left _ e))
    have hxy : x ≠ y := fun e => h (List.mem_append_right _ (List.mem_singleton.mpr e))
    refine ⟨R0.filter (fun z => !decide (z = y)), S.filter (fun z => !decide (z = y)) ++ [y], ?_, ?_, ?_⟩
    · have e : pre ++ x :: (mid ++ [y]) = (pre ++ x :: mid) ++ [y] := by simp
      rw [e, recs_snoc, h1]
      unfold nxtR
      rw [List.filter_append, List.filter_cons, if_pos (by rw [decide_eq_false hxy]; rfl)]
      simp
    · rw [List.nodup_append]
      refine ⟨h2.filter _, by simp, fun a ha b hb e => ?_⟩
      rw [List.mem_singleton.mp hb] at e
      have := (List.mem_filter.mp ha).2
      rw [decide_eq_true e] at this
      cases this
    · intro z
      rw [List.mem_append, List.mem_append, List.mem_filter, h3]
      by_cases e : z = y
      · simp [e]
      · simp [e]
/-- there if and only if not too deep -/
theorem colds_mem {p : Nat} (hp : 1 ≤ p) (pre mid : List α) (x : α) (h : x ∉ mid) {S : List α} (hS : S.Nodup) (hm : ∀ y, y ∈ S ↔ y ∈ mid) : x ∈ colds p (pre ++ x :: mid) ↔ S.length + 1 ≤ p := by
  obtain ⟨R0, S', h1, h2, h3⟩ := recs_since pre mid x h
  obtain ⟨A, g1, g2, g3⟩ := colds_end hp (pre ++ x :: mid)
  have hl : S.length = S'.length := ((List.perm_ext_iff_of_nodup hS h2).mpr fun y => (hm y).trans (h3 y).symm).length_eq
  have nd := recs_nodup (pre ++ x :: mid)
  rw [h1] at nd g1
  have nx : x ∉ S' := fun e => h ((h3 x).mp e)
  rw [hl]
  rcases List.append_eq_append_iff.mp g1 with ⟨a, e1, e2⟩ | ⟨a, e1, e2⟩
  · cases a with
    | nil =>
      rw [List.nil_append] at e2
      rw [← e2] at g3 ⊢
      exact ⟨fun _ => g3, fun _ => List.mem_cons_self⟩
    | cons z l =>
      rw [List.cons_append] at e2
      injection e2 with e3 e4
      constructor
      · intro c
        exact absurd (by rw [e4]; exact List.mem_append_right _ c) nx
      · intro c
        have hA : A ≠ [] := by rw [e1]; simp
        have := g2.resolve_left hA
        rw [e4, List.length_append] at c
        omega
  · constructor
    · intro _
      rw [e2, List.length_append, List.length_cons] at g3
      omega
    · intro _
      rw [e2]
      exact List.mem_append_right _ List.mem_cons_self
theorem colds_new {p : Nat} (hp : 1 ≤ p) (pre : List α) (x : α) (h : x ∉ pre) : x ∉ colds p pre := by
  obtain ⟨A, g1, _⟩ := colds_end hp pre
  intro e
  exact h ((recs_mem pre x).mp (by rw [g1]; exact List.mem_append_right _ e))
end
end Kf

set_option linter.all false
namespace Kf
/-! M4: depths, plainly. -/
section
variable {α : Type} [DecidableEq α]
def uniq (l : List α) : List α := l.foldl (fun s x => if x ∈ s then s else s ++ [x]) []
theorem uniq_snoc (l : List α) (x : α) : uniq (l ++ [x]) = if x ∈ uniq l then uniq l else uniq l ++ [x] := by unfold uniq; rw [List.foldl_append]; rfl
theorem uniq_spec (l : List α) : (uniq l).Nodup ∧ ∀ y, y ∈ uniq l ↔ y ∈ l := by
  refine snoc_ind (P := fun l => (uniq l).Nodup ∧ ∀ y, y ∈ uniq l ↔ y ∈ l) ⟨List.nodup_nil, fun y => Iff.rfl⟩ (fun l x ih => ?_) l
  obtain ⟨h1, h2⟩ := ih
  rw [uniq_snoc]
  by_cases c : x ∈ uniq l
  · rw [if_pos c]
    refine ⟨h1, fun y => ?_⟩
    rw [h2, List.mem_append, List.mem_singleton]
    exact ⟨.inl, fun h => h.elim id fun e => e ▸ (h2 x).mp c⟩
  · rw [if_neg c]
    refine ⟨?_, fun y => ?_⟩
    · rw [List.nodup_append]
      refine ⟨h1, by simp, fun a ha b hb e => ?_⟩
      rw [List.mem_singleton.mp hb] at e
      exact c (e ▸ ha)
    · rw [List.mem_append, List.mem_append, h2]
theorem uniq_len {l S : List α} (hS : S.Nodup) (hm : ∀ y, y ∈ S ↔ y ∈ l) : (uniq l).length = S.length :=
  ((List.perm_ext_iff_of_nodup (uniq_spec l).1 hS).mpr fun y => ((uniq_spec l).2 y).trans (hm y).symm).length_eq
def depth (ws : List α) (i : Nat) : Option Nat := (lastAt ws i).map fun j => (uniq ((ws.take i).drop j)).length
theorem part_at {ws : List α} {i j : Nat} {x : α} (hj : j < i) (h : ws[j]? = some x) : (ws.take i).drop j = x :: (ws.take i).drop (j + 1) ∧ ws.take i = ws.take j ++ x :: (ws.take i).drop (j + 1) := by
  have hl : j < ws.length := (List.getElem?_eq_some_iff.mp h).1
  have hlt : j < (ws.take i).length := by rw [List.length_take]; omega
  have e1 : (ws.take i).drop j = x :: (ws.take i).drop (j + 1) := by
    rw [List.drop_eq_getElem_cons hlt]
    congr 1
    rw [List.getElem_take]
    exact (List.getElem?_eq_some_iff.mp h).2
  refine ⟨e1, ?_⟩
  have e2 := (List.take_append_drop j (ws.take i)).symm
  rw [e1, List.take_take] at e2
  rw [Nat.min_eq_left (by omega)] at e2
  exact e2
theorem mem_part {ws : List α} {i j : Nat} {y : α} : y ∈ (ws.take i).drop j ↔ ∃ m, j ≤ m ∧ m < i ∧ ws[m]? = some y := by
  constructor
  · intro h
    obtain ⟨m, hm⟩ := List.getElem?_of_mem h
    rw [List.getElem?_drop] at hm
    rw [List.getElem?_take] at hm
    split at hm
    · exact ⟨j + m, by omega, by assumption, hm⟩
    · cases hm
  · rintro ⟨m, h1, h2, h3⟩
    refine List.mem_of_getElem? (i := m - j) ?_
    rw [List.getElem?_drop, show j + (m - j) = m by omega, List.getElem?_take, if_pos h2]
    exact h3
/-- the law's look back -/
theorem depth_law {ws : List α} {i j : Nat} {x : α} {seen : List α} (hi : ws[i]? = some x) (hj : j < i) (h : ws[j]? = some x) (hn : seen.Nodup) (hm : ∀ y, y ∈ seen ↔ ∃ m, j < m ∧ m < i ∧ ws[m]? = some y) (nx : x ∉ seen) :
    depth ws i = some (seen.length + 1) := by
  have hl : lastAt ws i = some j := by
    rw [lastAt_of hi]
    exact lastIx_of hj h fun k h1 h2 e => nx ((hm x).mpr ⟨k, h1, h2, e⟩)
  unfold depth
  rw [hl, Option.map_some]
  congr 1
  rw [uniq_len (S := x :: seen) (List.nodup_cons.mpr ⟨nx, hn⟩)]
  · rfl
  · intro y
    rw [(part_at hj h).1, List.mem_cons, List.mem_cons, hm, mem_part]
    rfl
theorem depth_none {ws : List α} {i : Nat} {x : α} (hi : ws[i]? = some x) (h : ∀ m, m < i → ws[m]? ≠ some x) : depth ws i = none := by
  have hl : lastAt ws i = none := by
    rw [lastAt_of hi]
    cases e : lastIx ws x i with
    | none => rfl
    | some k =>
      obtain ⟨h1, h2, _⟩ := lastIx_some e
      exact absurd h2 (h k h1)
  unfold depth
  rw [hl]
  rfl
/-- a cold shelf of p places meets the wish if and only if it is no deeper -/
theorem depth_cold {p : Nat} (hp : 1 ≤ p) {ws : List α} {i : Nat} {x : α} (hi : ws[i]? = some x) : x ∈ colds p (ws.take i) ↔ ∃ d, depth ws i = some d ∧ d ≤ p := by
  cases e : lastIx ws x i with
  | none =>
    have hn := lastIx_none e
    rw [depth_none hi hn]
    constructor
    · intro h
      refine absurd h (colds_new hp _ _ fun h => ?_)
      obtain ⟨m, _, h1, h2⟩ := (mem_part (j := 0)).mp (by rw [List.drop_zero]; exact h)
      exact hn m h1 h2
    · rintro ⟨d, h, _⟩
      cases h
  | some j =>
    obtain ⟨h1, h2, h3⟩ := lastIx_some e
    have nm : x ∉ (ws.take i).drop (j + 1) := fun h => by
      obtain ⟨m, q1, q2, q3⟩ := mem_part.mp h
      exact h3 m q1 q2 q3
    have sp := uniq_spec ((ws.take i).drop (j + 1))
    have hd := depth_law (seen := uniq ((ws.take i).drop (j + 1))) hi h1 h2 sp.1 (fun y => (sp.2 y).trans (by rw [mem_part]; rfl)) (fun h => nm ((sp.2 x).mp h))
    have key := colds_mem hp (ws.take j) ((ws.take i).drop (j + 1)) x nm sp.1 sp.2
    rw [← (part_at h1 h2).2] at key
    rw [hd, key]
    constructor
    · exact fun h => ⟨_, rfl, h⟩
    · rintro ⟨d, h, q⟩
      rw [← Option.some.inj h] at q
      exact q
end
end Kf

namespace Kf
open PySem PySem.Spec PyProof.Rows L2
/-! S0: the fields of a shelf; what stands in the heap. -/
def shF (p : Int) (h : Addr) (m n : Int) : List (Str × V) := putF "many_missed" (.int n) (putF "many_met" (.int m) (putF "here" (.ref h) (putF "room" (.int p) [])))
def shX (mk : Bool) (p : Int) (h : Addr) (m n : Int) (g : Addr) (e : Int) : List (Str × V) := if mk = true then putF "ended" (.int e) (putF "signs" (.ref g) (shF p h m n)) else shF p h m n
theorem ne_room_here : ¬ (("room" : Str) = "here") := by decide +kernel
theorem ne_here_room : ¬ (("here" : Str) = "room") := by decide +kernel
theorem ne_room_many_met : ¬ (("room" : Str) = "many_met") := by decide +kernel
theorem ne_many_met_room : ¬ (("many_met" : Str) = "room") := by decide +kernel
theorem ne_room_many_missed : ¬ (("room" : Str) = "many_missed") := by decide +kernel
theorem ne_many_missed_room : ¬ (("many_missed" : Str) = "room") := by decide +kernel
theorem ne_room_signs : ¬ (("room" : Str) = "signs") := by decide +kernel
theorem ne_signs_room : ¬ (("signs" : Str) = "room") := by decide +kernel
theorem ne_room_ended : ¬ (("room" : Str) = "ended") := by decide +kernel
theorem ne_ended_room : ¬ (("ended" : Str) = "room") := by decide +kernel
theorem ne_here_many_met : ¬ (("here" : Str) = "many_met") := by decide +kernel
theorem ne_many_met_here : ¬ (("many_met" : Str) = "here") := by decide +kernel
theorem ne_here_many_missed : ¬ (("here" : Str) = "many_missed") := by decide +kernel
theorem ne_many_missed_here : ¬ (("many_missed" : Str) = "here") := by decide +kernel
theorem ne_here_signs : ¬ (("here" : Str) = "signs") := by decide +kernel
theorem ne_signs_here : ¬ (("signs" : Str) = "here") := by decide +kernel
theorem ne_here_ended : ¬ (("here" : Str) = "ended") := by decide +kernel
theorem ne_ended_here : ¬ (("ended" : Str) = "here") := by decide +kernel
theorem ne_many_met_many_missed : ¬ (("many_met" : Str) = "many_missed") := by decide +kernel
theorem ne_many_missed_many_met : ¬ (("many_missed" : Str) = "many_met") := by decide +kernel
theorem ne_many_met_signs : ¬ (("many_met" : Str) = "signs") := by decide +kernel
theorem ne_signs_many_met : ¬ (("signs" : Str) = "many_met") := by decide +kernel
theorem ne_many_met_ended : ¬ (("many_met" : Str) = "ended") := by decide +kernel
theorem ne_ended_many_met : ¬ (("ended" : Str) = "many_met") := by decide +kernel
theorem ne_many_missed_signs : ¬ (("many_missed" : Str) = "signs") := by decide +kernel
theorem ne_signs_many_missed : ¬ (("signs" : Str) = "many_missed") := by decide +kernel
theorem ne_many_missed_ended : ¬ (("many_missed" : Str) = "ended") := by decide +kernel
theorem ne_ended_many_missed : ¬ (("ended" : Str) = "many_missed") := by decide +kernel
theorem ne_signs_ended : ¬ (("signs" : Str) = "ended") := by decide +kernel
theorem ne_ended_signs : ¬ (("ended" : Str) = "signs") := by decide +kernel
theorem ne_goer_room : ¬ (("goer" : Str) = "room") := by decide +kernel
theorem ne_goer_here : ¬ (("goer" : Str) = "here") := by decide +kernel
theorem ne_goer_many_met : ¬ (("goer" : Str) = "many_met") := by decide +kernel
theorem ne_goer_many_missed : ¬ (("goer" : Str) = "many_missed") := by decide +kernel
theorem ne_goer_signs : ¬ (("goer" : Str) = "signs") := by decide +kernel
theorem ne_goer_ended : ¬ (("goer" : Str) = "ended") := by decide +kernel
theorem ne_touch_room : ¬ (("touch" : Str) = "room") := by decide +kernel
theorem ne_touch_here : ¬ (("touch" : Str) = "here") := by decide +kernel
theorem ne_touch_many_met : ¬ (("touch" : Str) = "many_met") := by decide +kernel
theorem ne_touch_many_missed : ¬ (("touch" : Str) = "many_missed") := by decide +kernel
theorem ne_touch_signs : ¬ (("touch" : Str) = "signs") := by decide +kernel
theorem ne_touch_ended : ¬ (("touch" : Str) = "ended") := by decide +kernel
theorem ne_wish_room : ¬ (("wish" : Str) = "room") := by decide +kernel
theorem ne_wish_here : ¬ (("wish" : Str) = "here") := by decide +kernel
theorem ne_wish_many_met : ¬ (("wish" : Str) = "many_met") := by decide +kernel
theorem ne_wish_many_missed : ¬ (("wish" : Str) = "many_missed") := by decide +kernel
theorem ne_wish_signs : ¬ (("wish" : Str) = "signs") := by decide +kernel
theorem ne_wish_ended : ¬ (("wish" : Str) = "ended") := by decide +kernel
theorem ne_places_room : ¬ (("places" : Str) = "room") := by decide +kernel
theorem ne_places_here : ¬ (("places" : Str) = "here") := by decide +kernel
theorem ne_places_many_met : ¬ (("places" : Str) = "many_met") := by decide +kernel
theorem ne_places_many_missed : ¬ (("places" : Str) = "many_missed") := by decide +kernel
theorem ne_places_signs : ¬ (("places" : Str) = "signs") := by decide +kernel
theorem ne_places_ended : ¬ (("places" : Str) = "ended") := by decide +kernel
theorem ne_things_room : ¬ (("things" : Str) = "room") := by decide +kernel
theorem ne_things_here : ¬ (("things" : Str) = "here") := by decide +kernel
theorem ne_things_many_met : ¬ (("things" : Str) = "many_met") := by decide +kernel
theorem ne_things_many_missed : ¬ (("things" : Str) = "many_missed") := by decide +kernel
theorem ne_things_signs : ¬ (("things" : Str) = "signs") := by decide +kernel
theorem ne_things_ended : ¬ (("things" : Str) = "ended") := by decide +kernel
theorem ne_met_room : ¬ (("met" : Str) = "room") := by decide +kernel
theorem ne_met_here : ¬ (("met" : Str) = "here") := by decide +kernel
theorem ne_met_many_met : ¬ (("met" : Str) = "many_met") := by decide +kernel
theorem ne_met_many_missed : ¬ (("met" : Str) = "many_missed") := by decide +kernel
theorem ne_met_signs : ¬ (("met" : Str) = "signs") := by decide +kernel
theorem ne_met_ended : ¬ (("met" : Str) = "ended") := by decide +kernel
theorem ne_missed_room : ¬ (("missed" : Str) = "room") := by decide +kernel
theorem ne_missed_here : ¬ (("missed" : Str) = "here") := by decide +kernel
theorem ne_missed_many_met : ¬ (("missed" : Str) = "many_met") := by decide +kernel
theorem ne_missed_many_missed : ¬ (("missed" : Str) = "many_missed") := by decide +kernel
theorem ne_missed_signs : ¬ (("missed" : Str) = "signs") := by decide +kernel
theorem ne_missed_ended : ¬ (("missed" : Str) = "ended") := by decide +kernel
theorem ne_order_room : ¬ (("order" : Str) = "room") := by decide +kernel
theorem ne_order_here : ¬ (("order" : Str) = "here") := by decide +kernel
theorem ne_order_many_met : ¬ (("order" : Str) = "many_met") := by decide +kernel
theorem ne_order_many_missed : ¬ (("order" : Str) = "many_missed") := by decide +kernel
theorem ne_order_signs : ¬ (("order" : Str) = "signs") := by decide +kernel
theorem ne_order_ended : ¬ (("order" : Str) = "ended") := by decide +kernel
theorem ne_marks_room : ¬ (("marks" : Str) = "room") := by decide +kernel
theorem ne_marks_here : ¬ (("marks" : Str) = "here") := by decide +kernel
theorem ne_marks_many_met : ¬ (("marks" : Str) = "many_met") := by decide +kernel
theorem ne_marks_many_missed : ¬ (("marks" : Str) = "many_missed") := by decide +kernel
theorem ne_marks_signs : ¬ (("marks" : Str) = "signs") := by decide +kernel
theorem ne_marks_ended : ¬ (("marks" : Str) = "ended") := by decide +kernel
theorem ne_rounds_room : ¬ (("rounds" : Str) = "room") := by decide +kernel
theorem ne_rounds_here : ¬ (("rounds" : Str) = "here") := by decide +kernel
theorem ne_rounds_many_met : ¬ (("rounds" : Str) = "many_met") := by decide +kernel
theorem ne_rounds_many_missed : ¬ (("rounds" : Str) = "many_missed") := by decide +kernel
theorem ne_rounds_signs : ¬ (("rounds" : Str) = "signs") := by decide +kernel
theorem ne_rounds_ended : ¬ (("rounds" : Str) = "ended") := by decide +kernel
section
variable {mk : Bool} {p m n e : Int} {h g : Addr}
theorem sf_room : (shF p h m n).lookup ("room" : Str) = some (.int p) := by
  unfold shF
  rw [lookup_putF, if_neg ne_room_many_missed, lookup_putF, if_neg ne_room_many_met, lookup_putF, if_neg ne_room_here, lookup_putF, if_pos rfl]
theorem sx_room : (shX mk p h m n g e).lookup ("room" : Str) = some (.int p) := by
  unfold shX
  split
  · rw [lookup_putF, if_neg ne_room_ended, lookup_putF, if_neg ne_room_signs, sf_room]
  · exact sf_room
theorem sf_here : (shF p h m n).lookup ("here" : Str) = some (.ref h) := by
  unfold shF
  rw [lookup_putF, if_neg ne_here_many_missed, lookup_putF, if_neg ne_here_many_met, lookup_putF, if_pos rfl]
theorem sx_here : (shX mk p h m n g e).lookup ("here" : Str) = some (.ref h) := by
  unfold shX
  split
  · rw [lookup_putF, if_neg ne_here_ended, lookup_putF, if_neg ne_here_signs, sf_here]
  · exact sf_here
theorem sf_many_met : (shF p h m n).lookup ("many_met" : Str) = some (.int m) := by
  unfold shF
  rw [lookup_putF, if_neg ne_many_met_many_missed, lookup_putF, if_pos rfl]
theorem sx_many_met : (shX mk p h m n g e).lookup ("many_met" : Str) = some (.int m) := by
  unfold shX
  split
  · rw [lookup_putF, if_neg ne_many_met_ended, lookup_putF, if_neg ne_many_met_signs, sf_many_met]
  · exact sf_many_met
theorem sf_many_missed : (shF p h m n).lookup ("many_missed" : Str) = some (.int n) := by
  unfold shF
  rw [lookup_putF, if_pos rfl]
theorem sx_many_missed : (shX mk p h m n g e).lookup ("many_missed" : Str) = some (.int n) := by
  unfold shX
  split
  · rw [lookup_putF, if_neg ne_many_missed_ended, lookup_putF, if_neg ne_many_missed_signs, sf_many_missed]
  · exact sf_many_missed
theorem sx_signs : (shX true p h m n g e).lookup ("signs" : Str) = some (.ref g) := by
  unfold shX
  rw [if_pos rfl, lookup_putF, if_neg ne_signs_ended, lookup_putF, if_pos rfl]
theorem sx_ended : (shX true p h m n g e).lookup ("ended" : Str) = some (.int e) := by
  unfold shX
  rw [if_pos rfl, lookup_putF, if_pos rfl]
theorem sf_goer : (shF p h m n).lookup ("goer" : Str) = none := by
  unfold shF
  rw [lookup_putF, if_neg ne_goer_many_missed, lookup_putF, if_neg ne_goer_many_met, lookup_putF, if_neg ne_goer_here, lookup_putF, if_neg ne_goer_room]
  all_goals rfl
theorem sx_goer : (shX mk p h m n g e).lookup ("goer" : Str) = none := by
  unfold shX
  split
  · rw [lookup_putF, if_neg ne_goer_ended, lookup_putF, if_neg ne_goer_signs, sf_goer]
  · exact sf_goer
theorem sf_touch : (shF p h m n).lookup ("touch" : Str) = none := by
  unfold shF
  rw [lookup_putF, if_neg ne_touch_many_missed, lookup_putF, if_neg ne_touch_many_met, lookup_putF, if_neg ne_touch_here, lookup_putF, if_neg ne_touch_room]
  all_goals rfl
theorem sx_touch : (shX mk p h m n g e).lookup ("touch" : Str) = none := by
  unfold shX
  split
  · rw [lookup_putF, if_neg ne_touch_ended, lookup_putF, if_neg ne_touch_signs, sf_touch]
  · exact sf_touch
theorem sf_wish : (shF p h m n).lookup ("wish" : Str) = none := by
  unfold shF
  rw [lookup_putF, if_neg ne_wish_many_missed, lookup_putF, if_neg ne_wish_many_met, lookup_putF, if_neg ne_wish_here, lookup_putF, if_neg ne_wish_room]
  all_goals rfl
theorem sx_wish : (shX mk p h m n g e).lookup ("wish" : Str) = none := by
  unfold shX
  split
  · rw [lookup_putF, if_neg ne_wish_ended, lookup_putF, if_neg ne_wish_signs, sf_wish]
  · exact sf_wish
theorem sf_places : (shF p h m n).lookup ("places" : Str) = none := by
  unfold shF
  rw [lookup_putF, if_neg ne_places_many_missed, lookup_putF, if_neg ne_places_many_met, lookup_putF, if_neg ne_places_here, lookup_putF, if_neg ne_places_room]
  all_goals rfl
theorem sx_places : (shX mk p h m n g e).lookup ("places" : Str) = none := by
  unfold shX
  split
  · rw [lookup_putF, if_neg ne_places_ended, lookup_putF, if_neg ne_places_signs, sf_places]
  · exact sf_places
theorem sf_things : (shF p h m n).lookup ("things" : Str) = none := by
  unfold shF
  rw [lookup_putF, if_neg ne_things_many_missed, lookup_putF, if_neg ne_things_many_met, lookup_putF, if_neg ne_things_here, lookup_putF, if_neg ne_things_room]
  all_goals rfl
theorem sx_things : (shX mk p h m n g e).lookup ("things" : Str) = none := by
  unfold shX
  split
  · rw [lookup_putF, if_neg ne_things_ended, lookup_putF, if_neg ne_things_signs, sf_things]
  · exact sf_things
theorem sf_met : (shF p h m n).lookup ("met" : Str) = none := by
  unfold shF
  rw [lookup_putF, if_neg ne_met_many_missed, lookup_putF, if_neg ne_met_many_met, lookup_putF, if_neg ne_met_here, lookup_putF, if_neg ne_met_room]
  all_goals rfl
theorem sx_met : (shX mk p h m n g e).lookup ("met" : Str) = none := by
  unfold shX
  split
  · rw [lookup_putF, if_neg ne_met_ended, lookup_putF, if_neg ne_met_signs, sf_met]
  · exact sf_met
theorem sf_missed : (shF p h m n).lookup ("missed" : Str) = none := by
  unfold shF
  rw [lookup_putF, if_neg ne_missed_many_missed, lookup_putF, if_neg ne_missed_many_met, lookup_putF, if_neg ne_missed_here, lookup_putF, if_neg ne_missed_room]
  all_goals rfl
theorem sx_missed : (shX mk p h m n g e).lookup ("missed" : Str) = none := by
  unfold shX
  split
  · rw [lookup_putF, if_neg ne_missed_ended, lookup_putF, if_neg ne_missed_signs, sf_missed]
  · exact sf_missed
theorem sf_order : (shF p h m n).lookup ("order" : Str) = none := by
  unfold shF
  rw [lookup_putF, if_neg ne_order_many_missed, lookup_putF, if_neg ne_order_many_met, lookup_putF, if_neg ne_order_here, lookup_putF, if_neg ne_order_room]
  all_goals rfl
theorem sx_order : (shX mk p h m n g e).lookup ("order" : Str) = none := by
  unfold shX
  split
  · rw [lookup_putF, if_neg ne_order_ended, lookup_putF, if_neg ne_order_signs, sf_order]
  · exact sf_order
theorem sf_marks : (shF p h m n).lookup ("marks" : Str) = none := by
  unfold shF
  rw [lookup_putF, if_neg ne_marks_many_missed, lookup_putF, if_neg ne_marks_many_met, lookup_putF, if_neg ne_marks_here, lookup_putF, if_neg ne_marks_room]
  all_goals rfl
theorem sx_marks : (shX mk p h m n g e).lookup ("marks" : Str) = none := by
  unfold shX
  split
  · rw [lookup_putF, if_neg ne_marks_ended, lookup_putF, if_neg ne_marks_signs, sf_marks]
  · exact sf_marks
theorem sf_rounds : (shF p h m n).lookup ("rounds" : Str) = none := by
  unfold shF
  rw [lookup_putF, if_neg ne_rounds_many_missed, lookup_putF, if_neg ne_rounds_many_met, lookup_putF, if_neg ne_rounds_here, lookup_putF, if_neg ne_rounds_room]
  all_goals rfl
theorem sx_rounds : (shX mk p h m n g e).lookup ("rounds" : Str) = none := by
  unfold shX
  split
  · rw [lookup_putF, if_neg ne_rounds_ended, lookup_putF, if_neg ne_rounds_signs, sf_rounds]
  · exact sf_rounds
theorem shF_eq : shF p h m n = ([("room", V.int p), ("here", V.ref h), ("many_met", V.int m), ("many_missed", V.int n)] : List (Str × V)) := by
  unfold shF
  have e1 : putF "here" (.ref h) (putF "room" (.int p) []) = ([("room", V.int p), ("here", V.ref h)] : List (Str × V)) := by
    show (if ("room" : Str) = "here" then [(("room" : Str), V.ref h)] else (("room" : Str), V.int p) :: putF "here" (V.ref h) []) = _
    rw [if_neg ne_room_here]
    rfl
  have e2 : putF "many_met" (.int m) ([("room", V.int p), ("here", V.ref h)] : List (Str × V)) = ([("room", V.int p), ("here", V.ref h), ("many_met", V.int m)] : List (Str × V)) := by
    show (if ("room" : Str) = "many_met" then _ else (("room" : Str), V.int p) :: (if ("here" : Str) = "many_met" then _ else (("here" : Str), V.ref h) :: putF "many_met" (V.int m) [])) = _
    rw [if_neg ne_room_many_met, if_neg ne_here_many_met]
    rfl
  rw [e1, e2]
  show (if ("room" : Str) = "many_missed" then _ else (("room" : Str), V.int p) :: (if ("here" : Str) = "many_missed" then _ else (("here" : Str), V.ref h) :: (if ("many_met" : Str) = "many_missed" then _ else (("many_met" : Str), V.int m) :: putF "many_missed" (V.int n) []))) = _
  rw [if_neg ne_room_many_missed, if_neg ne_here_many_missed, if_neg ne_many_met_many_missed]
  rfl
theorem shX_eq : shX true p h m n g e = ([("room", V.int p), ("here", V.ref h), ("many_met", V.int m), ("many_missed", V.int n), ("signs", V.ref g), ("ended", V.int e)] : List (Str × V)) := by
  unfold shX
  rw [if_pos rfl, shF_eq]
  have e1 : putF "signs" (.ref g) ([("room", V.int p), ("here", V.ref h), ("many_met", V.int m), ("many_missed", V.int n)] : List (Str × V)) = ([("room", V.int p), ("here", V.ref h), ("many_met", V.int m), ("many_missed", V.int n), ("signs", V.ref g)] : List (Str × V)) := by
    show (if ("room" : Str) = "signs" then _ else (("room" : Str), V.int p) :: (if ("here" : Str) = "signs" then _ else (("here" : Str), V.ref h) :: (if ("many_met" : Str) = "signs" then _ else (("many_met" : Str), V.int m) :: (if ("many_missed" : Str) = "signs" then _ else (("many_missed" : Str), V.int n) :: putF "signs" (V.ref g) [])))) = _
    rw [if_neg ne_room_signs, if_neg ne_here_signs, if_neg ne_many_met_signs, if_neg ne_many_missed_signs]
    rfl
  rw [e1]
  show (if ("room" : Str) = "ended" then _ else (("room" : Str), V.int p) :: (if ("here" : Str) = "ended" then _ else (("here" : Str), V.ref h) :: (if ("many_met" : Str) = "ended" then _ else (("many_met" : Str), V.int m) :: (if ("many_missed" : Str) = "ended" then _ else (("many_missed" : Str), V.int n) :: (if ("signs" : Str) = "ended" then _ else (("signs" : Str), V.ref g) :: putF "ended" (V.int e) []))))) = _
  rw [if_neg ne_room_ended, if_neg ne_here_ended, if_neg ne_many_met_ended, if_neg ne_many_missed_ended, if_neg ne_signs_ended]
  rfl
theorem shX_ff : shX false p h m n g e = shF p h m n := rfl
theorem shX_len : (shX mk p h m n g e).length < 1000 := by
  cases mk with
  | true => rw [shX_eq]; show 6 < 1000; decide
  | false => rw [shX_ff, shF_eq]; show 4 < 1000; decide
theorem put_many_met {k : Int} : putF "many_met" (.int k) (shX mk p h m n g e) = shX mk p h k n g e := by
  cases mk with
  | false =>
    rw [shX_ff, shX_ff, shF_eq, shF_eq]
    show (if ("room" : Str) = "many_met" then _ else (("room" : Str), V.int p) :: (if ("here" : Str) = "many_met" then _ else (("here" : Str), V.ref h) :: (if ("many_met" : Str) = "many_met" then (("many_met" : Str), V.int k) :: [(("many_missed" : Str), V.int n)] else _))) = _
    rw [if_neg ne_room_many_met, if_neg ne_here_many_met, if_pos rfl]
  | true =>
    rw [shX_eq, shX_eq]
    show (if ("room" : Str) = "many_met" then _ else (("room" : Str), V.int p) :: (if ("here" : Str) = "many_met" then _ else (("here" : Str), V.ref h) :: (if ("many_met" : Str) = "many_met" then (("many_met" : Str), V.int k) :: [(("many_missed" : Str), V.int n), (("signs" : Str), V.ref g), (("ended" : Str), V.int e)] else _))) = _
    rw [if_neg ne_room_many_met, if_neg ne_here_many_met, if_pos rfl]
theorem put_many_missed {k : Int} : putF "many_missed" (.int k) (shX mk p h m n g e) = shX mk p h m k g e := by
  cases mk with
  | false =>
    rw [shX_ff, shX_ff, shF_eq, shF_eq]
    show (if ("room" : Str) = "many_missed" then _ else (("room" : Str), V.int p) :: (if ("here" : Str) = "many_missed" then _ else (("here" : Str), V.ref h) :: (if ("many_met" : Str) = "many_missed" then _ else (("many_met" : Str), V.int m) :: (if ("many_missed" : Str) = "many_missed" then (("many_missed" : Str), V.int k) :: [] else _)))) = _
    rw [if_neg ne_room_many_missed, if_neg ne_here_many_missed, if_neg ne_many_met_many_missed, if_pos rfl]
  | true =>
    rw [shX_eq, shX_eq]
    show (if ("room" : Str) = "many_missed" then _ else (("room" : Str), V.int p) :: (if ("here" : Str) = "many_missed" then _ else (("here" : Str), V.ref h) :: (if ("many_met" : Str) = "many_missed" then _ else (("many_met" : Str), V.int m) :: (if ("many_missed" : Str) = "many_missed" then (("many_missed" : Str), V.int k) :: [(("signs" : Str), V.ref g), (("ended" : Str), V.int e)] else _)))) = _
    rw [if_neg ne_room_many_missed, if_neg ne_here_many_missed, if_neg ne_many_met_many_missed, if_pos rfl]
theorem put_signs {k : Addr} : putF "signs" (.ref k) (shX true p h m n g e) = shX true p h m n k e := by
  rw [shX_eq, shX_eq]
  show (if ("room" : Str) = "signs" then _ else (("room" : Str), V.int p) :: (if ("here" : Str) = "signs" then _ else (("here" : Str), V.ref h) :: (if ("many_met" : Str) = "signs" then _ else (("many_met" : Str), V.int m) :: (if ("many_missed" : Str) = "signs" then _ else (("many_missed" : Str), V.int n) :: (if ("signs" : Str) = "signs" then (("signs" : Str), V.ref k) :: [(("ended" : Str), V.int e)] else _))))) = _
  rw [if_neg ne_room_signs, if_neg ne_here_signs, if_neg ne_many_met_signs, if_neg ne_many_missed_signs, if_pos rfl]
theorem put_ended {k : Int} : putF "ended" (.int k) (shX true p h m n g e) = shX true p h m n g k := by
  rw [shX_eq, shX_eq]
  show (if ("room" : Str) = "ended" then _ else (("room" : Str), V.int p) :: (if ("here" : Str) = "ended" then _ else (("here" : Str), V.ref h) :: (if ("many_met" : Str) = "ended" then _ else (("many_met" : Str), V.int m) :: (if ("many_missed" : Str) = "ended" then _ else (("many_missed" : Str), V.int n) :: (if ("signs" : Str) = "ended" then _ else (("signs" : Str), V.ref g) :: (if ("ended" : Str) = "ended" then (("ended" : Str), V.int k) :: [] else _)))))) = _
  rw [if_neg ne_room_ended, if_neg ne_here_ended, if_neg ne_many_met_ended, if_neg ne_many_missed_ended, if_neg ne_signs_ended, if_pos rfl]
end
/-- a class of shelves -/
structure ShC (K : PySem.W.Frag) (C : Addr) : Prop where
  cl : Cls K C
  n_room : NoAttr K C "room"
  n_here : NoAttr K C "here"
  n_many_met : NoAttr K C "many_met"
  n_many_missed : NoAttr K C "many_missed"
  n_signs : NoAttr K C "signs"
  n_ended : NoAttr K C "ended"
/-- what a shelf holds -/
structure Sv where
  p : Int
  xs : List Str
  m : Int
  n : Int
  sg : List Str
  e : Int
/-- where it stands -/
structure Sa where
  a : Addr
  h : Addr
  g : Addr
  dx : Addr
def sgD (sg : List Str) : List (Key × V) := sg.map fun x => (Sum.inr x, V.bl true)
structure Rep (mk : Bool) (C : Addr) (H : Hp) (A : Sa) (v : Sv) : Prop where
  o : H A.a = some (.ins C A.dx (shX mk v.p A.h v.m v.n A.g v.e))
  l : H A.h = some (.lst (v.xs.map V.str))
  d : mk = true → H A.g = some (.dK (sgD v.sg))
/-- all but the shelf's own is kept -/
def But (mk : Bool) (A : Sa) (H H' : Hp) : Prop := ∀ b o, b ≠ A.a → b ≠ A.h → (mk = true → b ≠ A.g) → H b = some o → H' b = some o
/-- the shelf's places later: its dict may be a new one -/
structure Nxt (H : Hp) (A A' : Sa) : Prop where
  a : A'.a = A.a
  h : A'.h = A.h
  g : A'.g = A.g ∨ H A'.g = none
end Kf

namespace Kf
open PySem PySem.Spec PyProof.Rows L2
/-! S1: kinds of shelves; what a wish does. -/
structure Kd where
  mark : Bool
  tch : Sv → Str → Sv
  goe : Sv → Str × Sv
structure Sv.Ok (v : Sv) : Prop where
  lo : 1 ≤ v.p
  hi : v.p ≤ 20
  len : (v.xs.length : Int) ≤ v.p
  nd : v.xs.Nodup
  nm : ∀ x ∈ v.xs, IsNm x
  sgs : ∀ x ∈ v.sg, x ∈ v.xs
  sgn : v.sg.Nodup
def Kd.step (k : Kd) (v : Sv) (x : Str) : (Bool × Option Str) × Sv :=
  if x ∈ v.xs then ((true, none), k.tch { v with m := v.m + 1 } x)
  else if (v.xs.length : Int) = v.p then
    ((false, some (k.goe { v with n := v.n + 1 }).1), k.tch { (k.goe { v with n := v.n + 1 }).2 with xs := v.xs.erase (k.goe { v with n := v.n + 1 }).1 ++ [x] } x)
  else ((false, none), k.tch { v with n := v.n + 1, xs := v.xs ++ [x] } x)
structure Kd.Good (k : Kd) : Prop where
  tch_ok : ∀ v x, v.Ok → x ∈ v.xs → (k.tch v x).Ok
  tch_p : ∀ v x, (k.tch v x).p = v.p
  tch_m : ∀ v x, (k.tch v x).m = v.m
  tch_n : ∀ v x, (k.tch v x).n = v.n
  goe_m : ∀ v, (k.goe v).2.m = v.m
  goe_n : ∀ v, (k.goe v).2.n = v.n
  goe_mem : ∀ v, v.Ok → v.xs ≠ [] → (k.goe v).1 ∈ v.xs
  goe_xs : ∀ v, (k.goe v).2.xs = v.xs
  goe_p : ∀ v, (k.goe v).2.p = v.p
  goe_sg : ∀ v, v.Ok → v.xs ≠ [] → ∀ y ∈ (k.goe v).2.sg, y ∈ v.sg ∧ y ≠ (k.goe v).1
  goe_nd : ∀ v, v.Ok → (k.goe v).2.sg.Nodup
theorem ok_mid {k : Kd} (G : k.Good) {v : Sv} (h : v.Ok) {x : Str} (hx : IsNm x) (nx : x ∉ v.xs) (hl : (v.xs.length : Int) = v.p) :
    ({ (k.goe v).2 with xs := v.xs.erase (k.goe v).1 ++ [x] } : Sv).Ok := by
  have lo := h.lo
  have hne : v.xs ≠ [] := fun e => by rw [e] at hl; simp at hl; omega
  have hm := G.goe_mem v h hne
  have hs := G.goe_sg v h hne
  refine ⟨by show 1 ≤ (k.goe v).2.p; rw [G.goe_p]; exact h.lo, by show (k.goe v).2.p ≤ 20; rw [G.goe_p]; exact h.hi, ?_, ?_, ?_, ?_, G.goe_nd v h⟩
  · show ((v.xs.erase (k.goe v).1 ++ [x]).length : Int) ≤ (k.goe v).2.p
    rw [G.goe_p, List.length_append, List.length_erase_of_mem hm, List.length_singleton]
    have := List.length_pos_iff.mpr hne
    omega
  · show (v.xs.erase (k.goe v).1 ++ [x]).Nodup
    rw [List.nodup_append]
    refine ⟨h.nd.erase _, by simp, ?_⟩
    intro a ha b hb
    rw [List.mem_singleton.mp hb]
    exact fun e => nx (e ▸ List.mem_of_mem_erase ha)
  · intro y hy
    rcases List.mem_append.mp hy with hy | hy
    · exact h.nm y (List.mem_of_mem_erase hy)
    · rw [List.mem_singleton.mp hy]
      exact hx
  · intro y hy
    obtain ⟨h1, h2⟩ := hs y hy
    exact List.mem_append_left _ ((List.mem_erase_of_ne h2).mpr (h.sgs y h1))
theorem ok_app {v : Sv} (h : v.Ok) {x : Str} (hx : IsNm x) (nx : x ∉ v.xs) (hl : (v.xs.length : Int) ≠ v.p) : ({ v with xs := v.xs ++ [x] } : Sv).Ok := by
  have := h.len
  refine ⟨h.lo, h.hi, ?_, ?_, ?_, fun y hy => List.mem_append_left _ (h.sgs y hy), h.sgn⟩
  · show ((v.xs ++ [x]).length : Int) ≤ v.p
    rw [List.length_append, List.length_singleton]
    omega
  · show (v.xs ++ [x]).Nodup
    rw [List.nodup_append]
    refine ⟨h.nd, by simp, ?_⟩
    intro a ha b hb
    rw [List.mem_singleton.mp hb]
    exact fun e => nx (e ▸ ha)
  · intro y hy
    rcases List.mem_append.mp hy with hy | hy
    · exact h.nm y hy
    · rw [List.mem_singleton.mp hy]
      exact hx
theorem Sv.Ok.cnt {v : Sv} (h : v.Ok) (m n : Int) : ({ v with m := m, n := n } : Sv).Ok := ⟨h.lo, h.hi, h.len, h.nd, h.nm, h.sgs, h.sgn⟩
theorem step_ok {k : Kd} (G : k.Good) {v : Sv} (h : v.Ok) {x : Str} (hx : IsNm x) : (k.step v x).2.Ok := by
  unfold Kd.step
  split
  · rename_i c
    exact G.tch_ok _ _ (h.cnt _ _) c
  · rename_i c
    split
    · rename_i c2
      exact G.tch_ok _ _ (ok_mid (v := { v with n := v.n + 1 }) G (h.cnt _ _) hx c c2) (List.mem_append_right _ (List.mem_singleton.mpr rfl))
    · rename_i c2
      exact G.tch_ok _ _ (ok_app (v := { v with n := v.n + 1 }) (h.cnt _ _) hx c c2) (List.mem_append_right _ (List.mem_singleton.mpr rfl))
theorem step_p {k : Kd} (G : k.Good) (v : Sv) (x : Str) : (k.step v x).2.p = v.p := by
  unfold Kd.step
  split
  · exact G.tch_p _ _
  · split
    · exact (G.tch_p _ _).trans (G.goe_p _)
    · exact G.tch_p _ _
theorem step_m {k : Kd} (G : k.Good) (v : Sv) (x : Str) : (k.step v x).2.m = v.m + (if (k.step v x).1.1 = true then 1 else 0) := by
  unfold Kd.step
  split
  · exact G.tch_m _ _
  · split
    · show (k.tch _ x).m = v.m + (if false = true then 1 else 0)
      rw [G.tch_m]
      show (k.goe { v with n := v.n + 1 }).2.m = _
      rw [G.goe_m]
      simp
    · show (k.tch _ x).m = v.m + (if false = true then 1 else 0)
      rw [G.tch_m]
      simp
theorem step_n {k : Kd} (G : k.Good) (v : Sv) (x : Str) : (k.step v x).2.n = v.n + (if (k.step v x).1.1 = true then 0 else 1) := by
  unfold Kd.step
  split
  · show (k.tch _ x).n = v.n + (if true = true then 0 else 1)
    rw [G.tch_n]
    simp
  · split
    · show (k.tch _ x).n = v.n + (if false = true then 0 else 1)
      rw [G.tch_n]
      show (k.goe { v with n := v.n + 1 }).2.n = _
      rw [G.goe_n]
      simp
    · show (k.tch _ x).n = v.n + (if false = true then 0 else 1)
      rw [G.tch_n]
      simp
theorem step_gone {k : Kd} (G : k.Good) {v : Sv} (h : v.Ok) {x g : Str} (e : (k.step v x).1.2 = some g) : IsNm g := by
  unfold Kd.step at e
  split at e
  · cases e
  · split at e
    · rename_i c
      have e : some (k.goe { v with n := v.n + 1 }).1 = some g := e
      rw [← Option.some.inj e]
      have hne : v.xs ≠ [] := fun q => by rw [q] at c; simp at c; have := h.lo; omega
      exact h.nm _ (G.goe_mem _ (h.cnt _ _) hne)
    · cases e
/-! the old one, the cold one -/
def kOld : Kd := ⟨false, fun v _ => v, fun v => (v.xs.headD Str.empty, { v with sg := [] })⟩
def kCold : Kd := ⟨false, fun v x => { v with xs := v.xs.erase x ++ [x] }, fun v => (v.xs.headD Str.empty, { v with sg := [] })⟩
/-- a plain shelf has no marks -/
theorem head_mem {xs : List Str} (h : xs ≠ []) : xs.headD Str.empty ∈ xs := by
  cases xs with
  | nil => exact absurd rfl h
  | cons x l => exact List.mem_cons_self
theorem erase_first {xs : List Str} {x : Str} (h : x ∈ xs) : ∃ j, xs[j]? = some x ∧ (∀ m, m < j → xs[m]? ≠ some x) ∧ xs.eraseIdx j = xs.erase x := by
  induction xs with
  | nil => cases h
  | cons y l ih =>
    by_cases e : y = x
    · exact ⟨0, by rw [e]; rfl, fun m hm => by omega, by rw [e]; simp⟩
    · have hm : x ∈ l := (List.mem_cons.mp h).resolve_left (fun q => e q.symm)
      obtain ⟨j, h1, h2, h3⟩ := ih hm
      refine ⟨j + 1, h1, fun m hm2 => ?_, ?_⟩
      · cases m with
        | zero => exact fun q => e (Option.some.inj q)
        | succ m => exact h2 m (by omega)
      · rw [List.eraseIdx_cons_succ, h3, List.erase_cons_tail (by simpa using e)]
/-! ### two heaps -/
theorem But.refl (mk : Bool) (A : Sa) (H : Hp) : But mk A H H := fun _ _ _ _ _ h => h
theorem Same.but {mk : Bool} {A : Sa} {H H' : Hp} (s : Same H H') : But mk A H H' := fun b o _ _ _ h => s b o h
theorem Nxt.refl (H : Hp) (A : Sa) : Nxt H A A := ⟨rfl, rfl, .inl rfl⟩
theorem But.trans {mk : Bool} {A A' : Sa} {H H' H'' : Hp} (n : Nxt H A A') (s : But mk A H H') (t : But mk A' H' H'') : But mk A H H'' := fun b o h1 h2 h3 hb => by
  refine t b o (by rw [n.a]; exact h1) (by rw [n.h]; exact h2) (fun e => ?_) (s b o h1 h2 h3 hb)
  rcases n.g with g | g
  · rw [g]; exact h3 e
  · intro q
    rw [q, g] at hb
    cases hb
theorem Nxt.trans {mk : Bool} {A A' A'' : Sa} {H H' : Hp} (n : Nxt H A A') (t : Nxt H' A' A'') (s : ∀ b, H' b = none → H b = none) : Nxt H A A'' := by
  refine ⟨t.a.trans n.a, t.h.trans n.h, ?_⟩
  rcases t.g with g | g
  · rcases n.g with q | q
    · exact .inl (g.trans q)
    · exact .inr (by rw [g]; exact q)
  · exact .inr (s _ g)
theorem But.obj {mk : Bool} {A : Sa} {H H' : Hp} {o : HO} (s : But mk A H H') : But mk A H (upd H' A.a o) := fun b u h1 h2 h3 hb => by
  rw [upd_ne h1]
  exact s b u h1 h2 h3 hb
theorem But.lst {mk : Bool} {A : Sa} {H H' : Hp} {o : HO} (s : But mk A H H') : But mk A H (upd H' A.h o) := fun b u h1 h2 h3 hb => by
  rw [upd_ne h2]
  exact s b u h1 h2 h3 hb
theorem But.dic {A : Sa} {H H' : Hp} {o : HO} (s : But true A H H') : But true A H (upd H' A.g o) := fun b u h1 h2 h3 hb => by
  rw [upd_ne (h3 rfl)]
  exact s b u h1 h2 h3 hb
theorem But.ext {mk : Bool} {A : Sa} {H H' H'' : Hp} (s : But mk A H H') (t : Same H' H'') : But mk A H H'' := fun b u h1 h2 h3 hb => t b u (s b u h1 h2 h3 hb)
/-- the parts of a shelf stand apart -/
theorem Rep.ah {mk : Bool} {C : Addr} {H : Hp} {A : Sa} {v : Sv} (r : Rep mk C H A v) : A.a ≠ A.h := ne_of r.o r.l (by intro q; cases q)
theorem Rep.gh {C : Addr} {H : Hp} {A : Sa} {v : Sv} (r : Rep true C H A v) : A.g ≠ A.h := ne_of (r.d rfl) r.l (by intro q; cases q)
theorem Rep.ga {C : Addr} {H : Hp} {A : Sa} {v : Sv} (r : Rep true C H A v) : A.g ≠ A.a := ne_of (r.d rfl) r.o (by intro q; cases q)
theorem Rep.same {mk : Bool} {C : Addr} {H H' : Hp} {A : Sa} {v : Sv} (r : Rep mk C H A v) (s : Same H H') : Rep mk C H' A v := ⟨s _ _ r.o, s _ _ r.l, fun e => s _ _ (r.d e)⟩
/-- the list is written -/
theorem Rep.setL {mk : Bool} {C : Addr} {H : Hp} {A : Sa} {v : Sv} {ys : List Str} (r : Rep mk C H A v) : Rep mk C (upd H A.h (.lst (ys.map V.str))) A { v with xs := ys } := by
  have := r.ah
  refine ⟨by rw [upd_ne r.ah]; exact r.o, upd_same, fun e => ?_⟩
  cases e
  rw [upd_ne r.gh]
  exact r.d rfl
/-- a count is written -/
theorem Rep.setM {mk : Bool} {C : Addr} {H : Hp} {A : Sa} {v : Sv} {k : Int} (r : Rep mk C H A v) : Rep mk C (upd H A.a (.ins C A.dx (putF "many_met" (.int k) (shX mk v.p A.h v.m v.n A.g v.e)))) A { v with m := k } := by
  rw [put_many_met]
  refine ⟨upd_same, by rw [upd_ne r.ah.symm]; exact r.l, fun e => ?_⟩
  cases e
  rw [upd_ne r.ga]
  exact r.d rfl
theorem Rep.setN {mk : Bool} {C : Addr} {H : Hp} {A : Sa} {v : Sv} {k : Int} (r : Rep mk C H A v) : Rep mk C (upd H A.a (.ins C A.dx (putF "many_missed" (.int k) (shX mk v.p A.h v.m v.n A.g v.e)))) A { v with n := k } := by
  rw [put_many_missed]
  refine ⟨upd_same, by rw [upd_ne r.ah.symm]; exact r.l, fun e => ?_⟩
  cases e
  rw [upd_ne r.ga]
  exact r.d rfl
theorem upd_non {H : Hp} {a b : Addr} {o : HO} (h : upd H a o b = none) : H b = none := by
  unfold upd at h
  split at h
  · cases h
  · exact h
theorem good_old : kOld.Good where
  tch_ok := fun _ _ h _ => h
  tch_p := fun _ _ => rfl
  tch_m := fun _ _ => rfl
  tch_n := fun _ _ => rfl
  goe_m := fun _ => rfl
  goe_n := fun _ => rfl
  goe_mem := fun _ _ h => head_mem h
  goe_xs := fun _ => rfl
  goe_p := fun _ => rfl
  goe_sg := fun v h hne y hy => by cases hy
  goe_nd := fun _ h => List.nodup_nil
theorem ok_move {v : Sv} {x : Str} (h : v.Ok) (hx : x ∈ v.xs) : ({ v with xs := v.xs.erase x ++ [x] } : Sv).Ok := by
  have p : (v.xs.erase x ++ [x]).Perm v.xs := (List.perm_append_comm.trans (List.Perm.refl (x :: v.xs.erase x))).trans (List.perm_cons_erase hx).symm
  refine ⟨h.lo, h.hi, ?_, p.nodup_iff.mpr h.nd, fun y hy => h.nm y (p.mem_iff.mp hy), fun y hy => p.mem_iff.mpr (h.sgs y hy), h.sgn⟩
  show ((v.xs.erase x ++ [x]).length : Int) ≤ v.p
  rw [p.length_eq]
  exact h.len
theorem good_cold : kCold.Good where
  tch_ok := fun v x h hx => ok_move h hx
  tch_p := fun _ _ => rfl
  tch_m := fun _ _ => rfl
  tch_n := fun _ _ => rfl
  goe_m := fun _ => rfl
  goe_n := fun _ => rfl
  goe_mem := fun _ _ h => head_mem h
  goe_xs := fun _ => rfl
  goe_p := fun _ => rfl
  goe_sg := fun v h hne y hy => by cases hy
  goe_nd := fun _ h => List.nodup_nil
def optS : Option Str → V
  | none => .non
  | some x => .str x
theorem dget_of {H : Hp} {a : Addr} {kvs : List (Key × V)} {x : Str} {v : V} (h : H a = some (.dK kvs)) (g : valV kvs (Sum.inr x) = some v) : DGet H a (.str x) (some v) := by
  rw [← g]
  exact DGet.k (k := Sum.inr x) h
theorem dput_of {H : Hp} {a : Addr} {kvs : List (Key × V)} {x : Str} {v : V} (h : H a = some (.dK kvs)) (g : kvs.length < sizeLine) : DPut H a (.str x) v (upd H a (.dK (putK kvs (Sum.inr x) v))) :=
  DPut.k (k := Sum.inr x) h g
def ordK (o : Addr) : List (Key × V) := [(Sum.inr "order", .ref o)]
theorem ord_get {o : Addr} : valV (ordK o) (Sum.inr "order") = some (.ref o) := by
  unfold valV ordK
  rw [List.find?_cons_of_pos (by rw [decide_eq_true rfl])]
  rfl
theorem ord_small {o : Addr} : (ordK o).length < sizeLine := size_of_lt (by show 1 ≤ 1000000; decide)
theorem disp1 {k : Str} {v : V} : [(V.str k, v)] = List.map (fun kv : Key × V => (kV kv.1, kv.2)) [((Sum.inr k : Key), v)] := rfl
theorem ord_new {l : Addr} : mergeK [] [((Sum.inr "order" : Key), V.ref l)] = ordK l := rfl
theorem ord_put {o p : Addr} : putK (ordK o) (Sum.inr "order") (.ref p) = ordK p := by
  unfold putK ordK
  rw [if_pos (by rw [List.any_cons, decide_eq_true rfl, Bool.true_or])]
  rw [List.map_cons, if_pos rfl]
  rfl
theorem CalM.up {P : Program} {w : World} {K : PySem.W.Frag} {mg : Str → Option Value} {base : Heap} {C : Addr} {m : Str} {j k : Nat} {ps : List Str} {sp : Sp} (c : CalM P w K mg base C m j ps sp) (h : j ≤ k) : CalM P w K mg base C m k ps sp := by
  obtain ⟨f, fd, F, hm, hb⟩ := c
  exact ⟨f, fd, F.mono h, hm, hb⟩
theorem fl_strs (xs : List Str) : (xs.map V.str).all flatV = true := by
  rw [List.all_map]
  exact List.all_eq_true.mpr fun _ _ => rfl
theorem in_strs (x : Str) (xs : List Str) : inV (.str x) (xs.map V.str) = decide (x ∈ xs) := by
  unfold inV
  rw [List.any_map]
  by_cases e : x ∈ xs
  · rw [decide_eq_true e]
    refine List.any_eq_true.mpr ⟨x, e, ?_⟩
    show (x == x) = true
    exact beq_self_eq_true x
  · rw [decide_eq_false e]
    refine List.any_eq_false.mpr fun y hy => ?_
    show ¬ (y == x) = true
    intro h
    exact e ((eq_of_beq h) ▸ hy)
end Kf

namespace Kf
open PySem PySem.Spec PyProof.Rows L2
/-! S5: runs of a shelf; the cold one is the end of what was wished; unlike things are counted. -/
def Sv.new (p : Int) : Sv := ⟨p, [], 0, 0, [], 0⟩
def Kd.after (k : Kd) (p : Int) (ws : List Str) : Sv := ws.foldl (fun v x => (k.step v x).2) (Sv.new p)
theorem after_snoc (k : Kd) (p : Int) (ws : List Str) (x : Str) : k.after p (ws ++ [x]) = (k.step (k.after p ws) x).2 := by unfold Kd.after; rw [List.foldl_append]; rfl
theorem after_take (k : Kd) (p : Int) {ws : List Str} {i : Nat} {x : Str} (h : ws[i]? = some x) : k.after p (ws.take (i + 1)) = (k.step (k.after p (ws.take i)) x).2 := by
  rw [List.take_add_one, h]
  exact after_snoc k p _ x
/-- what wish i tells -/
def Kd.tell (k : Kd) (p : Int) (ws : List Str) (i : Nat) : Bool × Option Str := (k.step (k.after p (ws.take i)) (ws.getD i Str.empty)).1
theorem tell_of (k : Kd) (p : Int) {ws : List Str} {i : Nat} {x : Str} (h : ws[i]? = some x) : k.tell p ws i = (k.step (k.after p (ws.take i)) x).1 := by
  unfold Kd.tell
  rw [List.getD_eq_getElem?_getD, h]
  rfl
theorem new_ok {p : Int} (h1 : 1 ≤ p) (h2 : p ≤ 20) : (Sv.new p).Ok := ⟨h1, h2, (by show ((0 : Nat) : Int) ≤ p; omega), List.nodup_nil, (fun x h => by cases h), (fun x h => by cases h), List.nodup_nil⟩
theorem after_ok {k : Kd} (G : k.Good) {p : Int} (h1 : 1 ≤ p) (h2 : p ≤ 20) : ∀ ws : List Str, (∀ x ∈ ws, IsNm x) → (k.after p ws).Ok := by
  intro ws
  refine snoc_ind (P := fun ws => (∀ x ∈ ws, IsNm x) → (k.after p ws).Ok) (fun _ => new_ok h1 h2) (fun ws x ih h => ?_) ws
  rw [after_snoc]
  exact step_ok G (ih fun y hy => h y (List.mem_append_left _ hy)) (h x (List.mem_append_right _ (List.mem_singleton.mpr rfl)))
theorem after_p {k : Kd} (G : k.Good) (p : Int) : ∀ ws : List Str, (k.after p ws).p = p := by
  intro ws
  refine snoc_ind (P := fun ws => (k.after p ws).p = p) rfl (fun ws x ih => ?_) ws
  rw [after_snoc, step_p G, ih]
theorem step_met (k : Kd) (v : Sv) (x : Str) : (k.step v x).1.1 = decide (x ∈ v.xs) := by
  unfold Kd.step
  by_cases c : x ∈ v.xs
  · rw [if_pos c, decide_eq_true c]
  · rw [if_neg c, decide_eq_false c]
    split <;> rfl
theorem erase_snoc {xs : List Str} {x : Str} (h : x ∉ xs) : (xs ++ [x]).erase x = xs := by
  rw [List.erase_append_right _ h]
  simp
theorem cold_step {v : Sv} (h : v.Ok) (x : Str) : (kCold.step v x).2.xs = nxtC v.p.toNat v.xs x := by
  have lo := h.lo
  unfold Kd.step nxtC
  by_cases c : x ∈ v.xs
  · rw [if_pos c, if_pos c]
    rfl
  · rw [if_neg c, if_neg c]
    by_cases c2 : (v.xs.length : Int) = v.p
    · rw [if_pos c2, if_pos (by omega)]
      obtain ⟨y, l, e⟩ : ∃ y l, v.xs = y :: l := by
        cases e : v.xs with
        | nil => rw [e] at c2; simp at c2; omega
        | cons y l => exact ⟨y, l, rfl⟩
      have hx : x ∉ l := fun q => c (by rw [e]; exact List.mem_cons_of_mem _ q)
      show (v.xs.erase (v.xs.headD Str.empty) ++ [x]).erase x ++ [x] = v.xs.tail ++ [x]
      rw [e]
      show ((y :: l).erase y ++ [x]).erase x ++ [x] = l ++ [x]
      rw [List.erase_cons_head, erase_snoc hx]
    · rw [if_neg c2, if_neg (by omega)]
      show (v.xs ++ [x]).erase x ++ [x] = v.xs ++ [x]
      rw [erase_snoc c]
theorem cold_after {p : Int} (h1 : 1 ≤ p) (h2 : p ≤ 20) (ws : List Str) (hn : ∀ x ∈ ws, IsNm x) : (kCold.after p ws).xs = colds p.toNat ws := by
  refine snoc_ind (P := fun ws => (∀ x ∈ ws, IsNm x) → (kCold.after p ws).xs = colds p.toNat ws) (fun _ => rfl) (fun ws x ih h => ?_) ws hn
  have h' : ∀ y ∈ ws, IsNm y := fun y hy => h y (List.mem_append_left _ hy)
  rw [after_snoc, cold_step (after_ok good_cold h1 h2 ws h'), after_p good_cold, ih h', colds_snoc]
/-- a cold shelf meets the wish if and only if it is no deeper -/
def meets (p : Int) (d : Option Nat) : Bool := match d with
  | none => false
  | some d => decide ((d : Int) ≤ p)
theorem cold_meets {p : Int} (h1 : 1 ≤ p) (h2 : p ≤ 20) {ws : List Str} (hn : ∀ x ∈ ws, IsNm x) {i : Nat} {x : Str} (hi : ws[i]? = some x) : (kCold.tell p ws i).1 = meets p (depth ws i) := by
  rw [tell_of _ _ hi, step_met, cold_after h1 h2 _ (fun y hy => hn y (List.mem_of_mem_take hy))]
  have key := depth_cold (p := p.toNat) (by omega) hi
  cases e : depth ws i with
  | none =>
    rw [e] at key
    refine decide_eq_false fun c => ?_
    obtain ⟨d, h, _⟩ := key.mp c
    cases h
  | some d =>
    rw [e] at key
    show _ = decide ((d : Int) ≤ p)
    by_cases c : (d : Int) ≤ p
    · rw [decide_eq_true c]
      exact decide_eq_true (key.mpr ⟨d, rfl, by omega⟩)
    · rw [decide_eq_false c]
      refine decide_eq_false fun q => c ?_
      obtain ⟨d', h, hd⟩ := key.mp q
      have := Option.some.inj h
      omega
theorem any_mem {xs : List Str} {x : Str} : xs.any (· == x) = decide (x ∈ xs) := by
  by_cases c : x ∈ xs
  · rw [decide_eq_true c]
    exact List.any_eq_true.mpr ⟨x, c, beq_self_eq_true x⟩
  · rw [decide_eq_false c]
    refine List.any_eq_false.mpr fun y hy e => c ?_
    rw [← eq_of_beq e]
    exact hy
theorem unl_uniq (xs : List Str) : ∀ i, i ≤ xs.length → unl xs i = (uniq (xs.take i)).length
  | 0, _ => rfl
  | i + 1, h => by
    have hi := List.getElem?_eq_getElem (show i < xs.length by omega)
    have hg : xs.getD i Str.empty = xs[i] := by rw [List.getD_eq_getElem?_getD, hi]; rfl
    unfold unl
    rw [unl_uniq xs i (by omega), any_mem, hg, List.take_add_one, hi]
    show _ = (uniq (xs.take i ++ [xs[i]])).length
    rw [uniq_snoc]
    have sp := (uniq_spec (xs.take i)).2 xs[i]
    by_cases c : xs[i] ∈ xs.take i
    · rw [if_pos (decide_eq_true c), if_pos (sp.mpr c)]
    · rw [if_neg (by rw [decide_eq_false c]; decide), if_neg (fun q => c (sp.mp q)), List.length_append]
      rfl
theorem unl_all (xs : List Str) : unl xs xs.length = (uniq xs).length := by rw [unl_uniq xs _ (Nat.le_refl _), List.take_length]
theorem sIxN {n d : Nat} {k : Nat} : HT.sIx n d (some (k : Int)) = min k n := by
  show (if ((k : Nat) : Int) < 0 then ((k : Int) + (n : Int)).toNat else min ((k : Nat) : Int).toNat n) = _
  rw [if_neg (by omega)]
  rfl
theorem cut_part {ws : List Str} {i j : Nat} (h : j ≤ i) (h2 : i ≤ ws.length) : cutV (ws.map V.str) (some (j : Nat)) (some (i : Nat)) = ((ws.take i).drop j).map V.str := by
  unfold cutV
  rw [sIxN, sIxN, List.length_map, List.map_drop, List.map_take]
  rw [List.drop_take]
  congr 1
  · show min i ws.length - min j ws.length = i - j
    omega
  · congr 1
    show min j ws.length = j
    omega
theorem depth_le (ws : List Str) {i d : Nat} (h : depth ws i = some d) : d ≤ i := by
  unfold depth at h
  obtain ⟨j, _, e⟩ := Option.map_eq_some_iff.mp h
  rw [← e]
  have h1 : (uniq ((ws.take i).drop j)).length ≤ ((ws.take i).drop j).length := by
    rw [← unl_all]
    exact unl_le _ _
  rw [List.length_drop, List.length_take] at h1
  omega
/-- how many of them a shelf of p places doesn't meet -/
def deeps (ws : List Str) (p : Int) : Nat := ((List.range ws.length).filter fun i => !meets p (depth ws i)).length
theorem deeps_le (ws : List Str) (p : Int) : deeps ws p ≤ ws.length := by
  unfold deeps
  refine Nat.le_trans (List.length_filter_le _ _) ?_
  rw [List.length_range]
  exact Nat.le_refl _
end Kf

namespace Kf
open PySem PySem.Spec PyProof.Rows L2
/-! S7: cold shelves of one place, of two, and so on. -/
section
variable {α : Type} [DecidableEq α]
theorem colds_in {p : Nat} (hp : 1 ≤ p) (ws : List α) : ∃ c, colds (p + 1) ws = c ++ colds p ws ∧ c.length ≤ 1 := by
  obtain ⟨A, h1, h2, h3⟩ := colds_end hp ws
  obtain ⟨A', g1, g2, g3⟩ := colds_end (p := p + 1) (by omega) ws
  rw [h1] at g1
  rcases List.append_eq_append_iff.mp g1 with ⟨a, e1, e2⟩ | ⟨a, e1, e2⟩
  · have hl : (colds p ws).length = a.length + (colds (p + 1) ws).length := by
      have := congrArg List.length e2
      rwa [List.length_append] at this
    have hA' : A' = [] := by
      rcases g2 with h | h
      · exact h
      · omega
    rw [hA'] at e1
    have ha : a = [] := (List.append_eq_nil_iff.mp e1.symm).2
    rw [ha, List.nil_append] at e2
    exact ⟨[], by rw [e2]; rfl, by simp⟩
  · refine ⟨a, e2, ?_⟩
    have hl : (colds (p + 1) ws).length = a.length + (colds p ws).length := by
      have := congrArg List.length e2
      rwa [List.length_append] at this
    rcases h2 with h | h
    · rw [h] at e1
      have ha : a = [] := (List.append_eq_nil_iff.mp e1.symm).2
      rw [ha]
      simp
    · omega
end
theorem cold_in {p : Int} (h1 : 1 ≤ p) (h2 : p + 1 ≤ 20) (ws : List Str) (hn : ∀ x ∈ ws, IsNm x) :
    (∀ y ∈ (kCold.after p ws).xs, y ∈ (kCold.after (p + 1) ws).xs) ∧ (kCold.after p ws).xs.length ≤ (kCold.after (p + 1) ws).xs.length ∧ (kCold.after (p + 1) ws).xs.length ≤ (kCold.after p ws).xs.length + 1 := by
  rw [cold_after h1 (by omega) ws hn, cold_after (by omega) h2 ws hn]
  have e : (p + 1).toNat = p.toNat + 1 := by omega
  rw [e]
  obtain ⟨c, e1, e2⟩ := colds_in (p := p.toNat) (by omega) ws
  rw [e1]
  refine ⟨fun y hy => List.mem_append_right _ hy, ?_, ?_⟩
  · rw [List.length_append]; omega
  · rw [List.length_append]; omega
theorem cold_missed {p : Int} (h1 : 1 ≤ p) (h2 : p ≤ 20) {ws : List Str} (hn : ∀ x ∈ ws, IsNm x) : ∀ i, i ≤ ws.length → (kCold.after p (ws.take i)).n = (((List.range i).filter fun j => !meets p (depth ws j)).length : Nat)
  | 0, _ => rfl
  | i + 1, h => by
    have hi := List.getElem?_eq_getElem (show i < ws.length by omega)
    have ht := cold_meets h1 h2 hn hi
    rw [tell_of _ _ hi] at ht
    rw [after_take _ _ hi, step_n good_cold, cold_missed h1 h2 hn i (by omega), ht, List.range_succ, List.filter_append, List.length_append]
    cases e : meets p (depth ws i) with
    | true => rw [if_pos rfl, List.filter_cons, if_neg (by rw [e]; decide)]; rfl
    | false => rw [if_neg (by decide), List.filter_cons, if_pos (by rw [e]; rfl)]; rfl
theorem cold_deeps {p : Int} (h1 : 1 ≤ p) (h2 : p ≤ 20) {ws : List Str} (hn : ∀ x ∈ ws, IsNm x) : (kCold.after p ws).n = (deeps ws p : Nat) := by
  have := cold_missed h1 h2 hn ws.length (Nat.le_refl _)
  rw [List.take_length] at this
  exact this
theorem meets_mono {p q : Int} (h : p ≤ q) {d : Option Nat} (m : meets p d = true) : meets q d = true := by
  cases d with
  | none => cases m
  | some d =>
    have m := of_decide_eq_true m
    exact decide_eq_true (by omega)
theorem deeps_anti {p q : Int} (h : p ≤ q) (ws : List Str) : deeps ws q ≤ deeps ws p := by
  unfold deeps
  rw [← List.countP_eq_length_filter, ← List.countP_eq_length_filter]
  refine List.countP_mono_left fun i _ hq => ?_
  cases e : meets p (depth ws i) with
  | false => rfl
  | true => rw [meets_mono h e] at hq; cases hq
/-- the shelves, at as and hs -/
structure Shs (C : Addr) (Hb H : Hp) (n : Nat) (as hs : Nat → Addr) (vs : Nat → Sv) : Prop where
  rep : ∀ k, k < n → ∃ A : Sa, A.a = as k ∧ A.h = hs k ∧ Rep false C H A (vs k)
  na : ∀ k, k < n → Hb (as k) = none ∧ Hb (hs k) = none
  ap : ∀ k l, k < n → l < n → k ≠ l → as k ≠ as l ∧ hs k ≠ hs l
  sb : Same Hb H
theorem rep0_same {C : Addr} {H H' : Hp} {A : Sa} {v : Sv} (r : Rep false C H A v) (h1 : ∀ u, H A.a = some u → H' A.a = some u) (h2 : ∀ u, H A.h = some u → H' A.h = some u) : Rep false C H' A v := ⟨h1 _ r.o, h2 _ r.l, fun e => by cases e⟩
section
variable {C : Addr} {Hb H H' : Hp} {n : Nat} {as hs : Nat → Addr} {vs vs' : Nat → Sv}
theorem Shs.same (s : Shs C Hb H n as hs vs) (k : Same H H') : Shs C Hb H' n as hs vs :=
  ⟨fun j hj => by obtain ⟨A, ea, eh, r⟩ := s.rep j hj; exact ⟨A, ea, eh, r.same k⟩, s.na, s.ap, s.sb.trans k⟩
theorem Shs.congr (s : Shs C Hb H n as hs vs) (e : ∀ k, k < n → vs k = vs' k) : Shs C Hb H n as hs vs' :=
  ⟨fun j hj => by obtain ⟨A, ea, eh, r⟩ := s.rep j hj; exact ⟨A, ea, eh, by rw [← e j hj]; exact r⟩, s.na, s.ap, s.sb⟩
theorem Shs.rebase {Hb' : Hp} (s : Shs C Hb H n as hs vs) (sb : Same Hb' H) (na : ∀ k, k < n → Hb' (as k) = none ∧ Hb' (hs k) = none) : Shs C Hb' H n as hs vs := ⟨s.rep, na, s.ap, sb⟩
theorem Shs.far {D : Addr} {o : HO} (s : Shs C Hb H n as hs vs) (hD : Hb D = none) (nD : ∀ k, k < n → as k ≠ D ∧ hs k ≠ D) : Shs C Hb (upd H D o) n as hs vs :=
  ⟨fun j hj => by
    obtain ⟨A, ea, eh, r⟩ := s.rep j hj
    have := nD j hj
    rw [← ea, ← eh] at this
    exact ⟨A, ea, eh, rep0_same r (fun u h => upd_far this.1 h) (fun u h => upd_far this.2 h)⟩, s.na, s.ap, sm_mut s.sb hD⟩
theorem Shs.apx (s : Shs C Hb H n as hs vs) {k l : Nat} (hk : k < n) (hl : l < n) : as k ≠ hs l := by
  obtain ⟨A, ea, eh, r⟩ := s.rep k hk
  obtain ⟨B, fa, fh, q⟩ := s.rep l hl
  rw [← ea, ← fh]
  exact ne_of r.o q.l (by intro z; cases z)
theorem Shs.turn (s : Shs C Hb H n as hs vs) {k : Nat} (hk : k < n) {A A' : Sa} {v' : Sv} (ea : A.a = as k) (eh : A.h = hs k) (b : But false A H H') (x : A'.a = A.a ∧ A'.h = A.h) (r : Rep false C H' A' v') : Shs C Hb H' n as hs (fun j => if j = k then v' else vs j) := by
  refine ⟨fun j hj => ?_, s.na, s.ap, fun y u h => ?_⟩
  · by_cases e : j = k
    · subst e
      exact ⟨A', x.1.trans ea, x.2.trans eh, by rw [if_pos rfl]; exact r⟩
    · obtain ⟨B, fa, fh, q⟩ := s.rep j hj
      refine ⟨B, fa, fh, ?_⟩
      rw [if_neg e]
      have h1 := s.ap j k hj hk e
      refine rep0_same q (fun u h => b _ _ ?_ ?_ (fun e => by cases e) h) (fun u h => b _ _ ?_ ?_ (fun e => by cases e) h)
      · rw [fa, ea]; exact h1.1
      · rw [fa, eh]; exact s.apx hj hk
      · rw [fh, ea]; exact (s.apx hk hj).symm
      · rw [fh, eh]; exact h1.2
  · have h1 := s.na k hk
    refine b y u (fun e => ?_) (fun e => ?_) (fun e => by cases e) (s.sb y u h)
    · rw [e, ea, h1.1] at h; cases h
    · rw [e, eh, h1.2] at h; cases h
theorem Shs.add (s : Shs C Hb H n as hs vs) (k : Same H H') {A : Sa} (r : Rep false C H' A (vs n)) (h1 : H A.a = none) (h2 : H A.h = none) : Shs C Hb H' (n + 1) (fun j => if j = n then A.a else as j) (fun j => if j = n then A.h else hs j) vs := by
  refine ⟨fun j hj => ?_, fun j hj => ?_, fun j l hj hl e => ?_, s.sb.trans k⟩
  · by_cases e : j = n
    · subst e
      exact ⟨A, by rw [if_pos rfl], by rw [if_pos rfl], r⟩
    · obtain ⟨B, fa, fh, q⟩ := s.rep j (by omega)
      exact ⟨B, by rw [if_neg e]; exact fa, by rw [if_neg e]; exact fh, q.same k⟩
  · by_cases e : j = n
    · rw [if_pos e, if_pos e]
      exact ⟨s.sb.free h1, s.sb.free h2⟩
    · rw [if_neg e, if_neg e]
      exact s.na j (by omega)
  · by_cases e1 : j = n
    · rw [if_pos e1, if_pos e1, if_neg (by omega), if_neg (by omega)]
      obtain ⟨B, fa, fh, q⟩ := s.rep l (by omega)
      rw [← fa, ← fh]
      exact ⟨(ne_of_none q.o h1).symm, (ne_of_none q.l h2).symm⟩
    · by_cases e2 : l = n
      · rw [if_neg e1, if_neg e1, if_pos e2, if_pos e2]
        obtain ⟨B, fa, fh, q⟩ := s.rep j (by omega)
        rw [← fa, ← fh]
        exact ⟨ne_of_none q.o h1, ne_of_none q.l h2⟩
      · rw [if_neg e1, if_neg e1, if_neg e2, if_neg e2]
        exact s.ap j l (by omega) (by omega) e
end
end Kf

namespace Kf
open PySem L2
def topS (i : Nat) : Stmt := PySem.Challenge.pw_keepfew_k09_whole_shelf_within_shelf.main.body.getD i (.Pass ⟨0, 0, 0, 0⟩)
abbrev s_is_name : Stmt := topS 10
abbrev s_need_places : Stmt := topS 11
abbrev s_need_wishes : Stmt := topS 12
abbrev s_last_wishes : Stmt := topS 13
abbrev s_depths : Stmt := topS 15
abbrev s_missed_by_places : Stmt := topS 16
abbrev s_Shelf___init__ : Stmt := inClass (topS 18) 0
abbrev s_Shelf_goer : Stmt := inClass (topS 18) 1
abbrev s_Shelf_touch : Stmt := inClass (topS 18) 2
abbrev s_Shelf_wish : Stmt := inClass (topS 18) 3
abbrev s_Shelf_places : Stmt := inClass (topS 18) 4
abbrev s_Shelf_things : Stmt := inClass (topS 18) 5
abbrev s_Shelf_met : Stmt := inClass (topS 18) 6
abbrev s_Shelf_missed : Stmt := inClass (topS 18) 7
abbrev s_Cold_touch : Stmt := inClass (topS 19) 0
abbrev s_Cold_order : Stmt := inClass (topS 19) 1
abbrev s__law_mixed : Stmt := topS 21
abbrev s__law_names : Stmt := topS 22
abbrev s__law_drawn : Stmt := topS 23
abbrev s__law_places : Stmt := topS 24
abbrev s_law : Stmt := topS 25
theorem sc_is_name : FnScope ["thing", "sign"] ["thing"] (defScope s_is_name) := ⟨rfl, rfl, rfl, by decide +kernel, rfl, by decide +kernel, by decide +kernel⟩
theorem sc_need_places : FnScope ["places"] ["places"] (defScope s_need_places) := ⟨rfl, rfl, rfl, by decide +kernel, rfl, by decide +kernel, by decide +kernel⟩
theorem sc_need_wishes : FnScope ["wishes", "name"] ["wishes"] (defScope s_need_wishes) := ⟨rfl, rfl, rfl, by decide +kernel, rfl, by decide +kernel, by decide +kernel⟩
theorem sc_last_wishes : FnScope ["wishes", "known", "found", "number", "name"] ["wishes"] (defScope s_last_wishes) := ⟨rfl, rfl, rfl, by decide +kernel, rfl, by decide +kernel, by decide +kernel⟩
theorem sc_depths : FnScope ["wishes", "found", "number", "last"] ["wishes"] (defScope s_depths) := ⟨rfl, rfl, rfl, by decide +kernel, rfl, by decide +kernel, by decide +kernel⟩
theorem sc_missed_by_places : FnScope ["wishes", "known", "depth", "places"] ["wishes"] (defScope s_missed_by_places) := ⟨rfl, rfl, rfl, by decide +kernel, rfl, by decide +kernel, by decide +kernel⟩
theorem sc_Shelf___init__ : FnScope ["self", "places"] ["self", "places"] (defScope s_Shelf___init__) := ⟨rfl, rfl, rfl, by decide +kernel, rfl, by decide +kernel, by decide +kernel⟩
theorem sc_Shelf_goer : FnScope ["self"] ["self"] (defScope s_Shelf_goer) := ⟨rfl, rfl, rfl, by decide +kernel, rfl, by decide +kernel, by decide +kernel⟩
theorem sc_Shelf_touch : FnScope ["self", "name"] ["self", "name"] (defScope s_Shelf_touch) := ⟨rfl, rfl, rfl, by decide +kernel, rfl, by decide +kernel, by decide +kernel⟩
theorem sc_Shelf_wish : FnScope ["self", "name", "gone"] ["self", "name"] (defScope s_Shelf_wish) := ⟨rfl, rfl, rfl, by decide +kernel, rfl, by decide +kernel, by decide +kernel⟩
theorem sc_Shelf_places : FnScope ["self"] ["self"] (defScope s_Shelf_places) := ⟨rfl, rfl, rfl, by decide +kernel, rfl, by decide +kernel, by decide +kernel⟩
theorem sc_Shelf_things : FnScope ["self"] ["self"] (defScope s_Shelf_things) := ⟨rfl, rfl, rfl, by decide +kernel, rfl, by decide +kernel, by decide +kernel⟩
theorem sc_Shelf_met : FnScope ["self"] ["self"] (defScope s_Shelf_met) := ⟨rfl, rfl, rfl, by decide +kernel, rfl, by decide +kernel, by decide +kernel⟩
theorem sc_Shelf_missed : FnScope ["self"] ["self"] (defScope s_Shelf_missed) := ⟨rfl, rfl, rfl, by decide +kernel, rfl, by decide +kernel, by decide +kernel⟩
theorem sc_Cold_touch : FnScope ["self", "name"] ["self", "name"] (defScope s_Cold_touch) := ⟨rfl, rfl, rfl, by decide +kernel, rfl, by decide +kernel, by decide +kernel⟩
theorem sc_Cold_order : FnScope ["self"] ["self"] (defScope s_Cold_order) := ⟨rfl, rfl, rfl, by decide +kernel, rfl, by decide +kernel, by decide +kernel⟩
theorem sc__law_mixed : FnScope ["_law_cell", "_law_k", "_law_number"] ["_law_cell", "_law_k"] (defScope s__law_mixed) := ⟨rfl, rfl, rfl, by decide +kernel, rfl, by decide +kernel, by decide +kernel⟩
theorem sc__law_names : FnScope ["_law_number", "_law_many", "_law_letters", "_law_size", "_law_row", "_law_j", "_law_k", "_law_at", "_law_signs", "_law_sign"] ["_law_number", "_law_many"] (defScope s__law_names) := ⟨rfl, rfl, rfl, by decide +kernel, rfl, by decide +kernel, by decide +kernel⟩
theorem sc__law_drawn : FnScope ["_law_script", "_law_most", "_law_number", "_law_cell", "_law_many", "_law_names_here", "_law_found", "_law_k", "_law_more", "_law_some"] ["_law_script", "_law_most"] (defScope s__law_drawn) := ⟨rfl, rfl, rfl, by decide +kernel, rfl, by decide +kernel, by decide +kernel⟩
theorem sc__law_places : FnScope ["_law_script", "_law_k", "_law_number", "_law_cell"] ["_law_script", "_law_k"] (defScope s__law_places) := ⟨rfl, rfl, rfl, by decide +kernel, rfl, by decide +kernel, by decide +kernel⟩
theorem sc_law : FnScope ["_law_script", "_law_names_here", "_law_wishes", "_law_shelves", "_law_places_here", "_law_known", "_law_name", "_law_depth", "_law_shelf", "_law_other", "_law_one", "_law_missed"] ["_law_script"] (defScope s_law) := ⟨rfl, rfl, rfl, by decide +kernel, rfl, by decide +kernel, by decide +kernel⟩
end Kf

/-! local words of the walk: steps through a reading -/
local macro_rules | `(tactic| walk_at "same") => `(tactic| first
  | assumption
  | exact L2.Same.refl _
  | (apply Kf.sm_ext; assumption; walk_at "same")
  | (apply Kf.sm_mu; assumption; walk_at "same")
  | (apply Kf.sm_mu; (apply L2.Same.free; rotate_left; assumption; assumption); walk_at "same")
  | (apply Kf.sm_tr; assumption; walk_at "same"))
local macro_rules | `(tactic| walk_at "fr") => `(tactic| first
  | assumption
  | (apply L2.Same.free; rotate_left; assumption; walk_at "same"))
local macro_rules | `(tactic| walk_at "hp") => `(tactic| first
  | assumption
  | exact L2.upd_same
  | (apply Kf.upd_old; assumption; walk_at "hp")
  | (apply Kf.upd_far; assumption; walk_at "hp")
  | (apply Kf.sm_get; rotate_left; assumption; walk_at "same")
  | (apply Kf.sm_get; assumption; walk_at "hp"))
local macro_rules | `(tactic| walk_at "sq") => `(tactic| first
  | assumption
  | exact L2.SqL.of (by walk_at "hp")
  | exact L2.SqT.of (by walk_at "hp")
  | (apply L2.Same.seq; rotate_left; assumption; walk_at "same")
  | (apply Kf.sm_tup; rotate_left; assumption; walk_at "same"))
local macro_rules | `(tactic| walk_at "kind") => `(tactic| first
  | exact L2.ClsV.ty _
  | exact L2.ClsV.own _
  | exact L2.TyX.base (L2.TyOf.str _)
  | exact L2.TyX.base (L2.TyOf.int _)
  | exact L2.TyX.base (L2.TyOf.bl _)
  | exact L2.TyX.base L2.TyOf.non
  | exact L2.TyX.base (L2.TyOf.lst (by walk_at "hp"))
  | exact L2.TyX.base (L2.TyOf.tup (by walk_at "hp"))
  | exact L2.kit_ty (r := true) (by decide +kernel)
  | exact L2.kit_ty (r := false) (by decide +kernel))
local macro_rules | `(tactic| walk_at "bool") => `(tactic| first
  | with_reducible rfl
  | assumption
  | (with_reducible refine Kf.not_f ?_; walk_at "bool")
  | (with_reducible refine Kf.not_t ?_; walk_at "bool")
  | exact decide_eq_true (by first | assumption | omega)
  | exact decide_eq_false (by first | assumption | omega)
  | rfl)
local macro_rules | `(tactic| walk_at "dict") => `(tactic| first
  | exact L2.DGet.k (k := Sum.inr _) (by walk_at "hp")
  | exact L2.DGet.k (k := Sum.inl _) (by walk_at "hp")
  | exact L2.DPut.k (k := Sum.inr _) (by walk_at "hp") (Kf.size_of_lt (by omega))
  | exact L2.DPut.k (k := Sum.inl _) (by walk_at "hp") (Kf.size_of_lt (by omega))
  | exact Or.inl ⟨_, Or.inl (by walk_at "hp")⟩
  | fail)
local macro_rules | `(tactic| walk_at "dp") => `(tactic| first
  | assumption
  | exact L2.Dp.int _
  | exact L2.Dp.bl _
  | exact L2.Dp.str _
  | exact L2.Dp.non
  | exact L2.Dp.lst (by walk_at "sq") Kf.dp_strs
  | exact L2.Dp.lst (by walk_at "sq") Kf.dp_ints
  | exact L2.Dp.lst (by walk_at "sq") Kf.dp_bls
  | exact L2.Dp.lst (by walk_at "sq") (by walk_at "dps")
  | exact L2.Dp.tup (by walk_at "sq") (by walk_at "dps")
  | (apply Kf.Dp.mono; rotate_left; assumption; walk_at "same"))
local macro_rules | `(tactic| walk_at "dps") => `(tactic| first
  | assumption
  | exact L2.DpAll.nil
  | (apply L2.DpAll.cons; (focus (walk_at "dp")); walk_at "dps")
  | (apply Kf.DpAll.mono; rotate_left; assumption; walk_at "same"))
local macro_rules | `(tactic| walk_at "sh") => `(tactic| first
  | assumption
  | exact Kf.Sh.ed (by assumption)
  | exact Kf.Sh.ed Kf.Sh.nil
  | exact Kf.Sh.ed Kf.Sh.ints
  | exact Kf.Sh.ed Kf.Sh.bools
  | exact Kf.Sh.ed (Kf.Sh.strs (by assumption)))
local macro_rules | `(tactic| walk_at "leaf") => `(tactic| first
  | with_reducible rfl
  | assumption
  | rfl
  | walk_at "sq"
  | walk_at "hp"
  | walk_at "same"
  | exact ⟨_, rfl⟩
  | exact ⟨_, by walk_at "sq"⟩
  | exact Or.inl ⟨rfl, _, by walk_at "sq"⟩
  | exact Or.inl (by walk_at "sq")
  | exact Or.inr (by walk_at "sq")
  | omega
  | exact Or.inl ⟨by omega, by omega⟩
  | exact Or.inr ⟨by omega, by omega⟩
  | exact ⟨by omega, by omega⟩
  | exact Kf.size_of_le (by omega)
  | exact Kf.size_of_lt (by omega)
  | exact Kf.size_of_le (by simp only [List.length_nil, List.length_cons, List.length_append, List.length_map]; omega)
  | exact Kf.size_of_lt (by simp only [List.length_nil, List.length_cons, List.length_append, List.length_map]; omega)
  | walk_at "kind"
  | walk_at "dict"
  | walk_at "dp"
  | walk_at "sh"
  | walk_at "fr")
local macro_rules | `(tactic| walk_at "go") => `(tactic| repeat first
  | (apply Exists.intro)
  | (refine And.intro ?_ ?_; focus (walk_at "leaf"; done))
  | (with_reducible refine L2.iteT ?_)
  | (with_reducible refine L2.iteF ?_)
  | (refine Kf.ite_t (by walk_at "bool") ?_)
  | (refine Kf.ite_f (by walk_at "bool") ?_))

namespace Kf
open PySem PySem.Spec PyProof.Rows L2
/-! ### names and wishes -/
abbrev Lett : Str := "abcdefghijklmnopqrstuvwxyz"
theorem lett_mem {c : Nat} (h0 : 97 ≤ c) (h1 : c ≤ 122) : c ∈ Lett.cps.toList := by
  have : ∀ k : Nat, k < 26 → (97 + k) ∈ Lett.cps.toList := by decide +kernel
  have q := this (c - 97) (by omega)
  rwa [show 97 + (c - 97) = c by omega] at q
def sp_is_name : Sp := fun vs H Q _ => ∃ x : Str, vs = [.str x] ∧ IsNm x ∧ ∀ H', Same H H' → Q (.bl true) H'
/-- wishes: a list of names at a -/
def spW (K : PySem.W.Frag) (vs : List V) (H : Hp) (ws : List Str) : Prop := ∃ a, vs = [.ref a] ∧ SqL K H a (ws.map V.str) ∧ ws.length ≤ 300 ∧ ∀ x ∈ ws, IsNm x
def sp_need_wishes (K : PySem.W.Frag) : Sp := fun vs H Q _ => ∃ (a : Addr) (ws : List Str), vs = [.ref a] ∧ H a = some (.lst (ws.map V.str)) ∧ (ws.length ≤ 300 ∧ ∀ x ∈ ws, IsNm x) ∧ ∀ H', Same H H' → Q .non H'
section
variable {P : Program} {w : World} {K : PySem.W.Frag} {mg : Str → Option Value} {base : Heap}
theorem cal_is_name (F : FunG K mg "is_name" s_is_name) (B : BN mg) (g_LETTERS : GStr mg "LETTERS" Lett) (g_MOST_LETTERS : GInt mg "MOST_LETTERS" 8) : Cal P w K mg base "is_name" 1 ["thing"] sp_is_name := by
  obtain ⟨f, fd, F, hm⟩ := F
  refine ⟨f, fd, F.ok sc_is_name (fun vs H Q E h => ?_) (fun cdv A outer s H vs Q E hr h => ?_), hm, F.kp, F.binds fun _ _ _ _ _ _ us hl => match us, hl with | [_], _ => rfl⟩
  · obtain ⟨x, rfl, _⟩ := h
    rfl
  · obtain ⟨x, rfl, hx, q⟩ := h
    refine ⟨_, (pss_cons (ps_if (PW.pt (pw_or (pt_not (pt_val (pe_callB (call_isiK1 K) (by rfl) B.isinstance bt_isinstance (pa_cons (pv 0) (pa_cons (pe_bltn (v := .ty "str") (by rfl) B.str bt_str rfl) pa_nil))))) (pw_or1 (pt_not (pt_chain op_le op_le pe_int (pe_callB call_len_str (by rfl) B.len bt_len (pa_cons (pv 0) pa_nil)) (pe_gint rfl g_MOST_LETTERS))))))
  (pss_one (ps_ret pe_bl))
  pss_nil)
  (pss_one (ps_ret (pe_callB (cr_allK K) (by rfl) B.all bt_all (pa_cons (pe_lc (own := [("sign", 1)]) rfl sc_is_name.nd (pi_str (pv 0))
  (blkOk_by (by kernel_rfl)) (fun _ _ _ _ _ => (pg_name (i := 1) sc_is_name.nd rfl (by first | exact Or.inl rfl | exact Or.inr rfl))) (fun _ _ _ _ _ => pts_nil) (fun _ _ _ _ _ => (pe_cmpR op_in_sign (pv 1) (pe_gstr rfl g_LETTERS) (by rfl)))) pa_nil))))), ?_⟩
    have l1 := hx.lo
    have l2 := hx.hi
    walk_at "go"
    refine lc_valsL x.cps.toList (wk_str x) (fun _ => true) (fun _ => .bl true) (by rw [Array.length_toList]; exact size_of_lt (show x.length ≤ 1000000 by omega)) (fun _ _ => trivial) ?_ ?_
    · intro i c H2 R1 R0 ha s2 k1 k0
      walk_at "go"
      rw [decide_eq_true (lett_mem (hx.all c (List.mem_of_getElem? ha)).1 (hx.all c (List.mem_of_getElem? ha)).2)]
      exact k1 rfl _ (Same.refl _)
    · intro D H2 hD s2 h2
      rw [filt_all, bl_map] at h2
      walk_at "go"
      rw [all_true]
      exact q _ s2
theorem cal_need_wishes (F : FunG K mg "need_wishes" s_need_wishes) (B : BN mg) (g_MOST_WISHES : GInt mg "MOST_WISHES" 300) (C_is_name : Cal P w K mg base "is_name" 1 ["thing"] sp_is_name) : Cal P w K mg base "need_wishes" 2 ["wishes"] (sp_need_wishes K) := by
  obtain ⟨f, fd, F, hm⟩ := F
  refine ⟨f, fd, F.ok sc_need_wishes (fun vs H Q E h => ?_) (fun cdv A outer s H vs Q E hr h => ?_), hm, F.kp, F.binds fun _ _ _ _ _ _ us hl => match us, hl with | [_], _ => rfl⟩
  · obtain ⟨a, ws, rfl, _⟩ := h
    rfl
  · obtain ⟨a, ws, rfl, ha, ⟨hl, hn⟩, q⟩ := h
    refine ⟨_, (pss_one (ps_if (PW.pt (pw_or (pt_not (pt_val (pe_callB (call_isiK1 K) (by rfl) B.isinstance bt_isinstance (pa_cons (pv 0) (pa_cons (pe_bltn (v := .ty "list") (by rfl) B.list bt_list rfl) pa_nil))))) (pw_or (pt_cmpR op_gt (pe_callB (call_lenK K) (by rfl) B.len bt_len (pa_cons (pv 0) pa_nil)) (pe_gint rfl g_MOST_WISHES) (nomark _)) (pw_or1 (pt_not (pt_val (pe_callB (cr_allK K) (by rfl) B.all bt_all (pa_cons (pe_lc (own := [("name", 1)]) rfl sc_need_wishes.nd (pi_listK K (pv 0))
  (blkOk_by (by kernel_rfl)) (fun _ _ _ _ _ => (pg_name (i := 1) sc_need_wishes.nd rfl (by first | exact Or.inl rfl | exact Or.inr rfl))) (fun _ _ _ _ _ => pts_nil) (fun _ _ _ _ _ => (pe_cal C_is_name (hr.mono (by decide)) rfl (pa_cons (pv 1) pa_nil)))) pa_nil))))))))
  (pss_one ps_never)
  pss_nil)), ?_⟩
    have hz : (ws.map V.str).length = ws.length := List.length_map _
    walk_at "go"
    refine lc_valsL ws (wk_list _ ws) (fun _ => true) (fun _ => .bl true) (size_of_lt (by omega)) (fun H s => s.seq (SqL.of ha)) ?_ ?_
    · intro i c H2 R1 R0 hc s2 k1 k0
      have hc2 := hn c (List.mem_of_getElem? hc)
      walk_at "go"
      exact fun H3 s3 => k1 rfl _ s3
    · intro D H2 hD s2 h2
      rw [filt_all, bl_map] at h2
      walk_at "go"
      refine Kf.ite_f (Kf.not_f (all_true _)) ?_
      exact q _ s2
end
end Kf

namespace Kf
open PySem PySem.Spec PyProof.Rows L2
/-! ### _law_mixed -/
def mixN (c : Int) (k : Int) : Int := c % 1000000007 + 7919 * k + 13
def mixed (c : Int) (k : Int) : Int := mixN c k * mixN c k % 1000000007 * mixN c k % 998244353 / 11
theorem mixN_le {c k : Int} (h0 : 0 ≤ k) (h1 : k ≤ 1000) : 0 ≤ mixN c k ∧ mixN c k < 2000000000 := by
  have a := Int.emod_nonneg c (show (1000000007 : Int) ≠ 0 by decide)
  have b := Int.emod_lt_of_pos c (show (0 : Int) < 1000000007 by decide)
  unfold mixN
  omega
theorem mixed_le (c k : Int) : 0 ≤ mixed c k ∧ mixed c k < 90749487 := by
  have a := Int.emod_nonneg (mixN c k * mixN c k % 1000000007 * mixN c k) (show (998244353 : Int) ≠ 0 by decide)
  have b := Int.emod_lt_of_pos (mixN c k * mixN c k % 1000000007 * mixN c k) (show (0 : Int) < 998244353 by decide)
  unfold mixed
  omega
def sp_mixed : Sp := fun vs H Q _ => ∃ c k : Int, vs = [.int c, .int k] ∧ (0 ≤ k ∧ k ≤ 1000) ∧ Q (.int (mixed c k)) H
section
variable {P : Program} {w : World} {K : PySem.W.Frag} {mg : Str → Option Value} {base : Heap}
theorem cal__law_mixed (F : FunG K mg "_law_mixed" s__law_mixed) : Cal P w K mg base "_law_mixed" 1 ["_law_cell", "_law_k"] sp_mixed := by
  obtain ⟨f, fd, F, hm⟩ := F
  refine ⟨f, fd, F.ok sc__law_mixed (fun vs H Q E h => ?_) (fun cdv A outer s H vs Q E hr h => ?_), hm, F.kp, F.binds fun _ _ _ _ _ _ us hl => match us, hl with | [_, _], _ => rfl⟩
  · obtain ⟨c, k, rfl, _⟩ := h
    rfl
  · obtain ⟨c, k, rfl, ⟨h0, h1⟩, q⟩ := h
    refine ⟨_, (pss_cons (ps_set (i := 2) sc__law_mixed.nd rfl (by first | exact Or.inl rfl | exact Or.inr rfl) (pe_op op_add (pe_op op_add (pe_op op_mod (pv 0) pe_int) (pe_op op_mul pe_int (pv 1))) pe_int))
  (pss_one (ps_ret (pe_op op_fdiv (pe_op op_mod (pe_op op_mul (pe_op op_mod (pe_op op_mul (pv 2) (pv 2)) pe_int) (pv 2)) pe_int) pe_int)))), ?_⟩
    have m := mixN_le (c := c) h0 h1
    unfold mixN at m
    walk_at "go"
    exact q
end
end Kf

namespace Kf
open PySem PySem.Spec PyProof.Rows L2
/-! ### _law_names -/
theorem lett_len : Lett.length ≤ sizeLine := size_of_le (by decide +kernel)
/-- the z-th letter -/
def letc (z : Int) : Nat := 97 + (z % 26).toNat
theorem letc_le (z : Int) : 97 ≤ letc z ∧ letc z ≤ 122 := by
  unfold letc
  omega
theorem lett_at (z : Int) : atI Lett.cps.toList (z % 26) = some (letc z) := by
  have h : ∀ k : Nat, k < 26 → Lett.cps.toList[k]? = some (97 + k) := by decide +kernel
  have e : z % 26 = (((z % 26).toNat : Nat) : Int) := by omega
  have q := atI_nat (h (z % 26).toNat (by omega))
  rwa [← e] at q
def Lw (x : Str) : Prop := ∀ c ∈ x.cps.toList, 97 ≤ c ∧ c ≤ 122
theorem len_tl (x : Str) : x.length = x.cps.toList.length := (Array.length_toList (xs := x.cps)).symm
theorem app_tl (x y : Str) : (x ++ y).cps.toList = x.cps.toList ++ y.cps.toList := by
  show (x.cps ++ y.cps).toList = _
  rw [Array.toList_append]
theorem app_len (x y : Str) : (x ++ y).length = x.length + y.length := by rw [len_tl, app_tl, List.length_append, ← len_tl, ← len_tl]
theorem cut_tl (z : Str) (lo hi : Option Int) : (cutS z lo hi).cps.toList = (z.cps.toList.drop (HT.sIx z.length 0 lo)).take (HT.sIx z.length z.length hi - HT.sIx z.length 0 lo) := rfl
theorem Lw.app {x y : Str} (a : Lw x) (b : Lw y) : Lw (x ++ y) := fun c h => by
  rw [app_tl] at h
  rcases List.mem_append.mp h with h | h
  · exact a c h
  · exact b c h
theorem Lw.cut {z : Str} (a : Lw z) (lo hi : Option Int) : Lw (cutS z lo hi) := fun c h => by
  rw [cut_tl] at h
  exact a c (List.mem_of_mem_drop (List.mem_of_mem_take h))
theorem cut_len (z : Str) (lo hi : Option Int) : (cutS z lo hi).length = min (HT.sIx z.length z.length hi - HT.sIx z.length 0 lo) (z.length - HT.sIx z.length 0 lo) := by
  rw [len_tl, cut_tl, List.length_take, List.length_drop, ← len_tl]
theorem sIx_of {n d : Nat} {k : Int} (h : 0 ≤ k) : HT.sIx n d (some k) = min k.toNat n := by
  have e : k = ((k.toNat : Nat) : Int) := by omega
  have q := HT.sIx_nat n d k.toNat
  rwa [← e] at q
theorem join8 (c : Nat → Nat) : (Txt.join "" ((List.range 8).map fun i => (⟨#[c i]⟩ : Str))).cps.toList = (List.range 8).map c := rfl
theorem one_len (c : Nat) : (⟨#[c]⟩ : Str).length = 1 := rfl
def sp_names (K : PySem.W.Frag) : Sp := fun vs H Q _ => ∃ n m : Int, vs = [.int n, .int m] ∧ (0 ≤ n ∧ n < 1000000000 ∧ 1 ≤ m ∧ m ≤ 26) ∧
  ∀ p H' (nms : List Str), Same H H' → H p = none → H' p = some (.lst (nms.map V.str)) → nms.length = m.toNat → (∀ x ∈ nms, IsNm x) → Q (.ref p) H'
section
variable {P : Program} {w : World} {K : PySem.W.Frag} {mg : Str → Option Value} {base : Heap}
theorem cal__law_names (F : FunG K mg "_law_names" s__law_names) (B : BN mg) : Cal P w K mg base "_law_names" 1 ["_law_number", "_law_many"] (sp_names K) := by
  obtain ⟨f, fd, F, hm⟩ := F
  refine ⟨f, fd, F.ok sc__law_names (fun vs H Q E h => ?_) (fun cdv A outer s H vs Q E hr h => ?_), hm, F.kp, F.binds fun _ _ _ _ _ _ us hl => match us, hl with | [_, _], _ => rfl⟩
  · obtain ⟨n, m, rfl, _⟩ := h
    rfl
  · obtain ⟨n, m, rfl, ⟨h0, h1, h2, h3⟩, q⟩ := h
    refine ⟨_, (pss_cons (ps_set (i := 2) sc__law_names.nd rfl (by first | exact Or.inl rfl | exact Or.inr rfl) pe_str)
  (pss_cons (ps_set (i := 3) sc__law_names.nd rfl (by first | exact Or.inl rfl | exact Or.inr rfl) (pe_op op_mod (pv 0) pe_int))
  (pss_cons (ps_set (i := 4) sc__law_names.nd rfl (by first | exact Or.inl rfl | exact Or.inr rfl) (pe_joinK K pe_str (pe_lc (own := [("_law_j", 5)]) rfl sc__law_names.nd (pi_range1 (by rfl) B.range (pa_cons pe_int pa_nil))
  (blkOk_by (by kernel_rfl)) (fun _ _ _ _ _ => (pg_name (i := 5) sc__law_names.nd rfl (by first | exact Or.inl rfl | exact Or.inr rfl))) (fun _ _ _ _ _ => pts_nil) (fun _ _ _ _ _ => (pe_ix ix_str (pv 2) (pe_op op_mod (pe_op op_add (pe_op op_fdiv (pv 0) pe_int) (pe_op op_mul pe_int (pv 5))) pe_int) (fun _ _ => rfl))))))
  (pss_cutD (ps_if (PW.pt (pw_and (pt_cmpR op_eq (pe_op op_mod (pe_op op_fdiv (pv 0) pe_int) pe_int) pe_int (nomark _)) (pw_and1 (pt_cmpR op_lt (pv 1) pe_int (nomark _)))))
  (pss_one (ps_ret (pe_lc (own := [("_law_k", 6)]) rfl sc__law_names.nd (pi_range1 (by rfl) B.range (pa_cons (pv 1) pa_nil))
  (blkOk_by (by kernel_rfl)) (fun _ _ _ _ _ => (pg_name (i := 6) sc__law_names.nd rfl (by first | exact Or.inl rfl | exact Or.inr rfl))) (fun _ _ _ _ _ => pts_nil) (fun _ _ _ _ _ => (pe_slice sl_str (pv 4) po_none (po_some (pe_op op_add (pv 6) pe_int)))))))
  pss_nil)
  (pss_cons (ps_set (i := 7) sc__law_names.nd rfl (by first | exact Or.inl rfl | exact Or.inr rfl) (pe_op op_mod (pe_op op_fdiv (pv 0) pe_int) (pe_op op_add (pv 3) pe_int)))
  (pss_cons (ps_setLc (i := 8) (own := [("_law_k", 6)]) rfl sc__law_names.nd rfl rfl (sw_true rfl rfl rfl (by kernel_rfl)) (pi_range1 (by rfl) B.range (pa_cons (pv 1) pa_nil))
  (blkOk_by (by kernel_rfl)) (fun _ _ _ _ _ => (pg_name (i := 6) sc__law_names.nd rfl (by first | exact Or.inl rfl | exact Or.inr rfl))) (fun _ _ _ _ _ => pts_nil) (fun _ _ _ _ _ => (pe_ix ix_str (pv 2) (pe_op op_mod (pe_op op_add (pe_op op_fdiv (pv 0) pe_int) (pe_op op_mul pe_int (pv 6))) pe_int) (fun _ _ => rfl))))
  (pss_cons (ps_if (pt_cmpR op_eq (pe_op op_mod (pe_op op_fdiv (pv 0) pe_int) pe_int) pe_int (nomark _))
  (pss_one (ps_ret (pe_lc (own := [("_law_k", 6), ("_law_sign", 9)]) rfl sc__law_names.nd (pi_enumK K (by rfl) B.enumerate (pa_cons (pv 8) pa_nil))
  (blkOk_by (by kernel_rfl)) (fun _ _ _ _ _ => (pg_tupK K 2 (pgs_cons (pg_name (i := 6) sc__law_names.nd rfl (by first | exact Or.inl rfl | exact Or.inr rfl)) (pgs_cons (pg_name (i := 9) sc__law_names.nd rfl (by first | exact Or.inl rfl | exact Or.inr rfl)) pgs_nil)))) (fun _ _ _ _ _ => pts_nil) (fun _ _ _ _ _ => (pe_op op_add_str (pv 9) (pe_slice sl_str (pv 4) po_none (po_some (pe_op op_mod (pe_op op_add (pe_op op_mul pe_int (pv 6)) (pv 7)) pe_int))))))))
  pss_nil)
  (pss_one (ps_ret (pe_lc (own := [("_law_sign", 9)]) rfl sc__law_names.nd (pi_listK K (pv 8))
  (blkOk_by (by kernel_rfl)) (fun _ _ _ _ _ => (pg_name (i := 9) sc__law_names.nd rfl (by first | exact Or.inl rfl | exact Or.inr rfl))) (fun _ _ _ _ _ => pts_nil) (fun _ _ _ _ _ => (pe_op op_add_str (pe_op op_add_str (pe_slice sl_str (pv 4) po_none (po_some (pv 7))) (pv 9)) (pe_slice sl_str (pv 4) (po_some (pv 7)) (po_some (pv 3))))))))))))))), ?_⟩
    have ll := lett_len
    walk_at "go"
    refine lc_valsL (List.range 8) (wk_rng 0 8) (fun _ => true) (fun (j : Nat) => .str ⟨#[letc (n / 8 + 5 * (0 + (j : Nat)))]⟩) (by simpa using size_of_lt (show 8 ≤ 1000000 by decide)) (fun _ _ => trivial) ?_ ?_
    · intro i j H2 R1 R0 hj s2 k1 k0
      have hj8 : j < 8 := List.mem_range.mp (List.mem_of_getElem? hj)
      have a1 := lett_at (n / 8 + 5 * (0 + (j : Nat)))
      walk_at "go"
      exact k1 rfl _ (Same.refl _)
    · intro D H2 hD s2 h2
      rw [filt_all, str_map] at h2
      walk_at "go"
      refine ⟨(by show 8 + 8 * 0 ≤ 16777216; decide), ?_⟩
      have hrow : ∃ row : Str, Txt.join "" ((List.range 8).map fun (j : Nat) => (⟨#[letc (n / 8 + 5 * (0 + (j : Nat)))]⟩ : Str)) = row ∧ row.length = 8 ∧ Lw row := by
        refine ⟨_, rfl, ?_, fun c hc => ?_⟩
        · rw [len_tl, join8]
          rfl
        · rw [join8] at hc
          obtain ⟨j, _, rfl⟩ := List.mem_map.mp hc
          exact letc_le _
      obtain ⟨row, er, rl, rw8⟩ := hrow
      rw [er]
      clear er h2
      have rz : row.length ≤ sizeLine := size_of_le (by omega)
      refine cut_by (fun σ' H' => σ' = [some (.int n), some (.int m), some (.str Lett), some (.int (n % 8)), some (.str row), none, none, none, none, none] ∧ Same H H') (fun D' E' => ?_) ?_
      · walk_at "go"
        refine ite2 (fun c1 => ?_) (fun c1 => ?_)
        · walk_at "go"
          refine ite2 (fun c2 => ?_) (fun c2 => ?_)
          · have c2 := of_decide_eq_true c2
            walk_at "go"
            refine lc_valsL (List.range m.toNat) (wk_rng 0 m.toNat) (fun _ => true) (fun (k : Nat) => .str (cutS row none (some (0 + (k : Nat) + 1)))) (by rw [List.length_range]; exact size_of_lt (by omega)) (fun _ _ => trivial) ?_ ?_
            · intro i k H3 R1 R0 hk s3 k1 k0
              walk_at "go"
              exact k1 rfl _ (Same.refl _)
            · intro D3 H3 hD3 s3 h3
              rw [filt_all, str_map] at h3
              refine E'.rt _ _ (q D3 H3 _  (s2.trans s3) (s2.free hD3) h3 (by rw [List.length_map, List.length_range]) fun x hx => ?_)
              obtain ⟨k, hk, rfl⟩ := List.mem_map.mp hx
              have hk := List.mem_range.mp hk
              have e1 := cut_len row none (some (0 + (k : Nat) + 1))
              rw [rl, HT.sIx_none, sIx_of (by omega)] at e1
              exact ⟨by omega, by omega, rw8.cut _ _⟩
          · walk_at "go"
            exact E'.nx _ _ ⟨rfl, s2⟩
        · walk_at "go"
          exact E'.nx _ _ ⟨rfl, s2⟩
      · rintro σ' H' ⟨rfl, s3⟩
        have hat : 0 ≤ n / 200 % (n % 8 + 1) ∧ n / 200 % (n % 8 + 1) ≤ n % 8 := by
          have a := Int.emod_nonneg (n / 200) (show n % 8 + 1 ≠ 0 by omega)
          have b := Int.emod_lt_of_pos (n / 200) (show 0 < n % 8 + 1 by omega)
          omega
        have h8 : 0 ≤ n % 8 ∧ n % 8 < 8 := by omega
        walk_at "go"
        refine lc_valsL (List.range m.toNat) (wk_rng 0 m.toNat) (fun _ => true) (fun (k : Nat) => .str ⟨#[letc (n / 2000 + 7 * (0 + (k : Nat)))]⟩) (by rw [List.length_range]; exact size_of_lt (by omega)) (fun _ _ => trivial) ?_ ?_
        · intro i k H3 R1 R0 hk s3 k1 k0
          have hk8 : k < m.toNat := List.mem_range.mp (List.mem_of_getElem? hk)
          have a1 := lett_at (n / 2000 + 7 * (0 + (k : Nat)))
          walk_at "go"
          exact k1 rfl _ (Same.refl _)
        · intro D4 H4 hD4 s4 h4
          rw [filt_all, str_map] at h4
          have s5 := s3.trans s4
          have hsg : ∀ x ∈ (List.range m.toNat).map (fun (k : Nat) => (⟨#[letc (n / 2000 + 7 * (0 + (k : Nat)))]⟩ : Str)), x.length = 1 ∧ Lw x := by
            intro x hx
            obtain ⟨k, _, rfl⟩ := List.mem_map.mp hx
            refine ⟨rfl, fun c hc => ?_⟩
            have e : c = letc (n / 2000 + 7 * (0 + (k : Nat))) := List.mem_singleton.mp hc
            rw [e]
            exact letc_le _
          generalize hg : (List.range m.toNat).map (fun (k : Nat) => (⟨#[letc (n / 2000 + 7 * (0 + (k : Nat)))]⟩ : Str)) = sg at h4 hsg
          have hsl : sg.length = m.toNat := by rw [← hg, List.length_map, List.length_range]
          clear hg
          walk_at "go"
          refine ite2 (fun c1 => ?_) (fun c1 => ?_)
          · walk_at "go"
            refine lc_valsE (f := V.str) sg (wk_enum _ sg) (fun _ => true) (fun p => .str (p.2 ++ cutS row none (some ((3 * (p.1 : Nat) + n / 200 % (n % 8 + 1)) % 8)))) (size_of_lt (by omega)) (fun H s => s.seq (SqL.of h4)) ?_ ?_
            · intro i x T H5 R1 R0 hx s6 hT k1 k0
              have hi : i < sg.length := (List.getElem?_eq_some_iff.mp hx).1
              have hz := (hsg x (List.mem_of_getElem? hx)).1
              have hz2 : x.length + (cutS row none (some ((3 * (i : Nat) + n / 200 % (n % 8 + 1)) % 8))).length ≤ sizeLine := by
                refine size_of_le ?_
                rw [cut_len, hz]
                omega
              walk_at "go"
              exact k1 rfl _ (same_new hT)
            · intro D6 H6 hD6 s6 h6
              rw [filt_all, str_map] at h6
              refine q D6 H6 _ (s5.trans s6) (s5.free hD6) h6 (by rw [List.length_map, List.length_zip, List.length_range]; omega) fun x hx => ?_
              obtain ⟨⟨k, y⟩, hy, rfl⟩ := List.mem_map.mp hx
              obtain ⟨y1, y2⟩ := hsg y (List.of_mem_zip hy).2
              have e1 := cut_len row none (some ((3 * (k : Nat) + n / 200 % (n % 8 + 1)) % 8))
              rw [rl, HT.sIx_none, sIx_of (by omega)] at e1
              have e2 := app_len y (cutS row none (some ((3 * (k : Nat) + n / 200 % (n % 8 + 1)) % 8)))
              have y1 : y.length = 1 := y1
              have e3 : IsNm (y ++ cutS row none (some ((3 * (k : Nat) + n / 200 % (n % 8 + 1)) % 8))) := ⟨by rw [e2]; omega, by rw [e2]; omega, y2.app (rw8.cut _ _)⟩
              exact e3
          · walk_at "go"
            refine lc_valsL sg (wk_list V.str sg) (fun _ => true) (fun y => .str (cutS row none (some (n / 200 % (n % 8 + 1))) ++ y ++ cutS row (some (n / 200 % (n % 8 + 1))) (some (n % 8)))) (size_of_lt (by omega)) (fun H s => s.seq (SqL.of h4)) ?_ ?_
            · intro i y H5 R1 R0 hx s6 k1 k0
              have hz := (hsg y (List.mem_of_getElem? hx)).1
              have e1 := cut_len row none (some (n / 200 % (n % 8 + 1)))
              have e2 := cut_len row (some (n / 200 % (n % 8 + 1))) (some (n % 8))
              have e3 := app_len (cutS row none (some (n / 200 % (n % 8 + 1)))) y
              have hz2 : (cutS row none (some (n / 200 % (n % 8 + 1)))).length + y.length ≤ sizeLine := size_of_le (by omega)
              have hz3 : (cutS row none (some (n / 200 % (n % 8 + 1))) ++ y).length + (cutS row (some (n / 200 % (n % 8 + 1))) (some (n % 8))).length ≤ sizeLine := size_of_le (by omega)
              walk_at "go"
              exact k1 rfl _ (Same.refl _)
            · intro D6 H6 hD6 s6 h6
              rw [filt_all, str_map] at h6
              refine q D6 H6 _ (s5.trans s6) (s5.free hD6) h6 (by rw [List.length_map]; omega) fun x hx => ?_
              obtain ⟨y, hy, rfl⟩ := List.mem_map.mp hx
              obtain ⟨y1, y2⟩ := hsg y hy
              have e1 := cut_len row none (some (n / 200 % (n % 8 + 1)))
              have e2 := cut_len row (some (n / 200 % (n % 8 + 1))) (some (n % 8))
              rw [rl, HT.sIx_none, sIx_of hat.1] at e1
              rw [rl, sIx_of hat.1, sIx_of h8.1] at e2
              have e3 := app_len (cutS row none (some (n / 200 % (n % 8 + 1)))) y
              have e4 := app_len (cutS row none (some (n / 200 % (n % 8 + 1))) ++ y) (cutS row (some (n / 200 % (n % 8 + 1))) (some (n % 8)))
              have y1 : y.length = 1 := y1
              have e5 : IsNm (cutS row none (some (n / 200 % (n % 8 + 1))) ++ y ++ cutS row (some (n / 200 % (n % 8 + 1))) (some (n % 8))) := ⟨by rw [e4, e3]; omega, by rw [e4, e3]; omega, ((rw8.cut _ _).app y2).app (rw8.cut _ _)⟩
              exact e5
end
end Kf

namespace Kf
open PySem PySem.Spec PyProof.Rows L2
/-! ### _law_drawn, _law_places -/
structure Drw (nms ws : List Str) (n : Nat) : Prop where
  nm : ∀ x ∈ nms, IsNm x
  sub : ∀ x ∈ ws, x ∈ nms
  len : ws.length = n
  some : nms ≠ []
  few : nms.length ≤ 26
theorem Drw.ok {nms ws : List Str} {n : Nat} (d : Drw nms ws n) : ∀ x ∈ ws, IsNm x := fun x h => d.nm x (d.sub x h)
def sp_drawn (K : PySem.W.Frag) : Sp := fun vs H Q _ => ∃ (a : Addr) (ns : List Int) (most : Int), vs = [.ref a, .int most] ∧ SqL K H a (ns.map V.int) ∧ (ns.length ≤ 300 ∧ 3 ≤ most ∧ most ≤ 26) ∧
  ∀ t pn pw H' (nms ws : List Str), Same H H' → (H pn = none ∧ H pw = none ∧ pn ≠ pw) → H' t = some (.tup [.ref pn, .ref pw]) → H' pn = some (.lst (nms.map V.str)) → H' pw = some (.lst (ws.map V.str)) →
    Drw nms ws ns.length → Q (.ref t) H'
def sp_places (K : PySem.W.Frag) : Sp := fun vs H Q _ => ∃ (a : Addr) (ns : List Int) (k : Int), vs = [.ref a, .int k] ∧ SqL K H a (ns.map V.int) ∧ (ns.length ≤ 300 ∧ 0 ≤ k ∧ k ≤ 100) ∧
  ∀ (p : Int) H', 1 ≤ p → p ≤ 20 → Same H H' → Q (.int p) H'
section
variable {P : Program} {w : World} {K : PySem.W.Frag} {mg : Str → Option Value} {base : Heap}
theorem cal__law_drawn (F : FunG K mg "_law_drawn" s__law_drawn) (B : BN mg) (C__law_mixed : Cal P w K mg base "_law_mixed" 1 ["_law_cell", "_law_k"] sp_mixed) (C__law_names : Cal P w K mg base "_law_names" 1 ["_law_number", "_law_many"] (sp_names K)) :
    Cal P w K mg base "_law_drawn" 2 ["_law_script", "_law_most"] (sp_drawn K) := by
  obtain ⟨f, fd, F, hm⟩ := F
  refine ⟨f, fd, F.ok sc__law_drawn (fun vs H Q E h => ?_) (fun cdv A outer s H vs Q E hr h => ?_), hm, F.kp, F.binds fun _ _ _ _ _ _ us hl => match us, hl with | [_, _], _ => rfl⟩
  · obtain ⟨a, ns, m, rfl, _⟩ := h
    rfl
  · obtain ⟨a, ns, m, rfl, ha, ⟨hl, h1, h2⟩, q⟩ := h
    refine ⟨_, (pss_cons (ps_set (i := 2) sc__law_drawn.nd rfl (by first | exact Or.inl rfl | exact Or.inr rfl) (pe_cal C__law_mixed (hr.mono (by decide)) rfl (pa_cons (pe_op op_add (pe_callB (call_lenK K) (by rfl) B.len bt_len (pa_cons (pv 0) pa_nil)) (pe_callB (cr_sumK K) (by rfl) B.sum bt_sum (pa_cons (pe_lc (own := [("_law_cell", 3)]) rfl sc__law_drawn.nd (pi_listK K (pv 0))
  (blkOk_by (by kernel_rfl)) (fun _ _ _ _ _ => (pg_name (i := 3) sc__law_drawn.nd rfl (by first | exact Or.inl rfl | exact Or.inr rfl))) (fun _ _ _ _ _ => pts_nil) (fun _ _ _ _ _ => (pe_op op_mod (pv 3) pe_int))) pa_nil))) (pa_cons pe_int pa_nil))))
  (pss_cons (ps_set (i := 4) sc__law_drawn.nd rfl (by first | exact Or.inl rfl | exact Or.inr rfl) (pe_ix (ix_listK K) (pe_lst (pa_cons (pe_op op_add pe_int (pe_op op_mod (pv 2) (pe_op op_sub (pv 1) pe_int))) (pa_cons pe_int pa_nil))) (pe_callTy call_intB (by rfl) B.int bt_int (pa_cons (pe_j (pe_and (pe_cmpR op_gt (pv 1) pe_int (nomark _)) (pe_one (pe_cmpR op_eq (pe_op op_mod (pe_op op_fdiv (pv 2) pe_int) pe_int) pe_int (nomark _))))) pa_nil)) (fun _ _ => rfl)))
  (pss_cons (ps_set (i := 5) sc__law_drawn.nd rfl (by first | exact Or.inl rfl | exact Or.inr rfl) (pe_cal C__law_names (hr.mono (by decide)) rfl (pa_cons (pe_op op_fdiv (pv 2) pe_int) (pa_cons (pv 4) pa_nil))))
  (pss_cons (ps_set (i := 6) sc__law_drawn.nd rfl (by first | exact Or.inl rfl | exact Or.inr rfl) (pe_lst pa_nil))
  (pss_cons (ps_forD (pi_enumK K (by rfl) B.enumerate (pa_cons (pe_slice (sl_listK K) (pv 0) po_none (po_some pe_int)) pa_nil)) (pg_tupK K 2 (pgs_cons (pg_name (i := 7) sc__law_drawn.nd rfl (by first | exact Or.inl rfl | exact Or.inr rfl)) (pgs_cons (pg_name (i := 3) sc__law_drawn.nd rfl (by first | exact Or.inl rfl | exact Or.inr rfl)) pgs_nil)))
  (pss_cons (ps_set (i := 8) sc__law_drawn.nd rfl (by first | exact Or.inl rfl | exact Or.inr rfl) (pe_cal C__law_mixed (hr.mono (by decide)) rfl (pa_cons (pv 3) (pa_cons (pv 7) pa_nil))))
  (pss_cons (ps_set (i := 9) sc__law_drawn.nd rfl (by first | exact Or.inl rfl | exact Or.inr rfl) (pv 5))
  (pss_cutD (ps_if (PW.pt (pw_and (pt_cmpR op_eq (pe_op op_mod (pv 8) pe_int) pe_int (nomark _)) (pw_and1 (pt_cmpR (op_neDK K hr) (pv 6) (pe_lst pa_nil) (nomark _)))))
  (pss_one (ps_set (i := 9) sc__law_drawn.nd rfl (by first | exact Or.inl rfl | exact Or.inr rfl) (pe_slice (sl_listK K) (pv 6) (po_some (pe_un un_neg pe_int)) po_none)))
  pss_nil)
  (pss_one (ps_expr (pe_bmK K PySem.F.plainAttrs_list PySem.F.slot_list_append PySem.F.type_list_append mt_append (pv 6) (pa_cons (pe_ix (ix_listK K) (pv 9) (pe_op op_mod (pe_op op_fdiv (pv 8) pe_int) (pe_callB (call_lenK K) (by rfl) B.len bt_len (pa_cons (pv 9) pa_nil))) (fun _ _ => rfl)) pa_nil))))))))
  (pss_one (ps_ret (pe_tup (pa_cons (pv 5) (pa_cons (pv 6) pa_nil)))))))))), ?_⟩
    have hz : (ns.map V.int).length = ns.length := List.length_map _
    walk_at "go"
    refine lc_valsL ns (wk_list V.int ns) (fun _ => true) (fun c => .int (c % 1000003)) (size_of_lt (by omega)) (fun H s => s.seq ha) ?_ ?_
    · intro i c H2 R1 R0 hc s2 k1 k0
      walk_at "go"
      exact k1 rfl _ (Same.refl _)
    · intro D H2 hD s2 h2
      rw [filt_all, int_map] at h2
      walk_at "go"
      have hnu := mixed_le ((ns.map V.int).length + ((ns.map fun c => c % 1000003).sum)) 1
      generalize mixed _ 1 = nu at hnu
      have hm2 := Int.emod_nonneg nu (show m - 2 ≠ 0 by omega)
      have hm3 := Int.emod_lt_of_pos nu (show 0 < m - 2 by omega)
      intro L nL
      have sL : Same H (upd H2 L (.lst [.int (3 + nu % (m - 2)), .int 26])) := s2.trans (same_new nL)
      walk_at "go"
      refine join_by (.bl (decide (9 < m) && decide (V.int (nu / 1000 % 8) = V.int 1))) (fun Q' hq => ?_) (fun H3 s3 => ?_)
      · walk_at "go"
        refine ite2 (fun c => ?_) (fun c => ?_)
        · walk_at "go"
          rw [c] at hq
          exact hq _ (Same.refl _)
        · rw [Bool.not_eq_true] at c
          rw [c] at hq
          exact hq _ (Same.refl _)
      · generalize (decide (9 < m) && decide (V.int (nu / 1000 % 8) = V.int 1)) = b
        obtain ⟨mn, emn, mn1, mn2⟩ : ∃ mn : Int, atI [V.int (3 + nu % (m - 2)), V.int 26] (if b = true then 1 else 0) = some (.int mn) ∧ 3 ≤ mn ∧ mn ≤ 26 := by
          cases b with
          | true => exact ⟨26, rfl, by omega, by omega⟩
          | false => exact ⟨_, rfl, by omega, by omega⟩
        walk_at "go"
        intro pn H4 nms s4 npn h4 hlen hnm
        have s4' : Same H H4 := sL.trans (s3.trans s4)
        have npn0 : H pn = none := sL.free (s3.free npn)
        walk_at "go"
        intro pw npw
        walk_at "go"
        intro c nc
        have ec : cutV (ns.map V.int) none (some 300) = ns.map V.int := by
          unfold cutV
          rw [HT.sIx_none, sIx_of (by decide), hz]
          rw [List.drop_zero, List.take_of_length_le (by rw [hz]; show ns.length ≤ min 300 ns.length - 0; omega)]
        rw [ec] at *
        have hpn0 : pn ≠ pw := fun e => by rw [e, npw] at h4; cases h4
        have npwH : H pw = none := s4'.free npw
        have hcpw : c ≠ pw := fun e => by rw [e, upd_same] at nc; cases nc
        walk_at "go"
        refine for_E (f := V.int) ns (wk_enum _ ns) (fun i σ H' => ∃ v3 v7 v8 v9 ws, σ = [some (.ref a), some (.int m), some (.int nu), v3, some (.int mn), some (.ref pn), some (.ref pw), v7, v8, v9] ∧ Same H4 H' ∧
            H' c = some (.lst (ns.map V.int)) ∧ H' pw = some (.lst (List.map V.str ws)) ∧ ws.length = i ∧ ∀ x ∈ ws, x ∈ nms) ?_ ?_ ?_ ?_
        · exact ⟨none, none, none, none, [], rfl, sm_ext nc (same_new npw), upd_same, upd_old nc upd_same, rfl, fun x hx => by cases hx⟩
        · rintro i σ H' hi ⟨_, _, _, _, _, _, _, hc, _⟩
          exact SqL.of hc
        · rintro i x T σ H' D' L hx ⟨v3, v7, v8, v9, ws, rfl, s5, hc, hw, hwl, hws⟩ nT
          have hi : i < ns.length := (List.getElem?_eq_some_iff.mp hx).1
          walk_at "go"
          have hmo := mixed_le x (i : Nat)
          generalize mixed x (i : Nat) = mo at hmo
          refine cut_by (fun σ' H6 => ∃ ps ss, σ' = [some (.ref a), some (.int m), some (.int nu), some (.int x), some (.int mn), some (.ref pn), some (.ref pw), some (.int (i : Nat)), some (.int mo), some (.ref ps)] ∧
              Same H' H6 ∧ H6 ps = some (.lst (List.map V.str ss)) ∧ ss ≠ [] ∧ ss.length ≤ 1000 ∧ ∀ y ∈ ss, y ∈ nms) (fun D2 E2 => ?_) ?_
          · have hnn : nms ≠ [] := fun e => by rw [e] at hlen; simp at hlen; omega
            have fin : ∀ H6, Same H' H6 → ∃ ps ss, [some (.ref a), some (.int m), some (.int nu), some (.int x), some (.int mn), some (.ref pn), some (.ref pw), some (.int (i : Nat)), some (.int mo), some (V.ref pn)] = [some (.ref a), some (.int m), some (.int nu), some (.int x), some (.int mn), some (.ref pn), some (.ref pw), some (.int (i : Nat)), some (.int mo), some (.ref ps)] ∧
              Same H' H6 ∧ H6 ps = some (.lst (List.map V.str ss)) ∧ ss ≠ [] ∧ ss.length ≤ 1000 ∧ ∀ y ∈ ss, y ∈ nms := fun H6 s6 => ⟨pn, nms, rfl, s6, s6 _ _ (s5 _ _ h4), hnn, by omega, fun y hy => hy⟩
            walk_at "go"
            refine ite2 (fun c1 => ?_) (fun c1 => ?_)
            · walk_at "go"
              intro e0 ne0
              have hshw := Sh.strs fun y hy => hnm y (hws y hy)
              walk_at "go"
              rw [eqv_nil]
              refine ite2 (fun c2 => ?_) (fun c2 => ?_)
              · have hwn : ws ≠ [] := fun e => by rw [e] at c2; cases c2
                walk_at "go"
                intro d6 nd6
                have ec6 : ∃ ss : List Str, cutV (List.map V.str ws) (some (-4)) none = ss.map V.str ∧ ss ≠ [] ∧ ss.length ≤ 1000 ∧ ∀ y ∈ ss, y ∈ ws := by
                  refine ⟨(ws.drop (HT.sIx ws.length 0 (some (-4)))).take (HT.sIx ws.length ws.length none - HT.sIx ws.length 0 (some (-4))), ?_, ?_, ?_, fun y hy => List.mem_of_mem_drop (List.mem_of_mem_take hy)⟩
                  · unfold cutV
                    rw [List.length_map, List.map_take, List.map_drop]
                  · have h0 : 0 < ws.length := List.length_pos_iff.mpr hwn
                    have e4 : HT.sIx ws.length 0 (some (-4)) = ((-4 : Int) + ws.length).toNat := by
                      show (if (-4 : Int) < 0 then ((-4 : Int) + (ws.length : Int)).toNat else min (-4 : Int).toNat ws.length) = _
                      rw [if_pos (by decide)]
                    rw [HT.sIx_none, e4]
                    refine List.length_pos_iff.mp ?_
                    rw [List.length_take, List.length_drop]
                    omega
                  · rw [List.length_take, List.length_drop]
                    omega
                obtain ⟨ss, ess, h1s, h2s, h3s⟩ := ec6
                rw [ess] at *
                exact E2.nx _ _ ⟨d6, ss, rfl, sm_ext nd6 (sm_ext ne0 (same_new nT)), upd_same, h1s, h2s, fun y hy => hws y (h3s y hy)⟩
              · walk_at "go"
                exact E2.nx _ _ (fin _ (sm_ext ne0 (same_new nT)))
            · walk_at "go"
              exact E2.nx _ _ (fin _ (same_new nT))
          · rintro σ' H6 ⟨ps, ss, rfl, s6, hss, hsn, hsl, hsm⟩
            have hz6 : (List.map V.str ss).length = ss.length := List.length_map _
            have h06 : 0 < ss.length := List.length_pos_iff.mpr hsn
            have hw6 := s6 _ _ hw
            have hz7 : (List.map V.str ws).length = ws.length := List.length_map _
            have hix : ∃ y, atI (List.map V.str ss) (mo / 3 % (List.map V.str ss).length) = some (.str y) ∧ y ∈ ss := by
              have q0 := Int.emod_nonneg (mo / 3) (show ((List.map V.str ss).length : Int) ≠ 0 by omega)
              have q1 := Int.emod_lt_of_pos (mo / 3) (show 0 < ((List.map V.str ss).length : Int) by omega)
              have e : mo / 3 % ((List.map V.str ss).length : Int) = (((mo / 3 % ((List.map V.str ss).length : Int)).toNat : Nat) : Int) := by omega
              have hj : (mo / 3 % ((List.map V.str ss).length : Int)).toNat < ss.length := by omega
              refine ⟨ss[(mo / 3 % ((List.map V.str ss).length : Int)).toNat], at_of e ?_, List.getElem_mem hj⟩
              rw [List.getElem?_map, List.getElem?_eq_getElem hj]
              rfl
            obtain ⟨y, hy1, hy2⟩ := hix
            walk_at "go"
            refine L.nx _ _ ⟨_, _, _, _, ws ++ [y], rfl, ?_, ?_, ?_, ?_, ?_⟩
            · exact sm_mu npw (s5.trans s6)
            · exact upd_far hcpw (s6 _ _ hc)
            · rw [upd_same, List.map_append]
              rfl
            · rw [List.length_append, hwl]
              rfl
            · intro z hz
              rcases List.mem_append.mp hz with h | h
              · exact hws z h
              · rw [List.mem_singleton.mp h]
                exact hsm y hy2
        · rintro σ H' ⟨v3, v7, v8, v9, ws, rfl, s5, hc, hw, hwl, hws⟩
          walk_at "go"
          intro t nt
          exact q t pn pw _ nms ws (sm_ext nt (s4'.trans s5)) ⟨npn0, npwH, hpn0⟩ upd_same (upd_old nt (s5 _ _ h4)) (upd_old nt hw) ⟨hnm, hws, hwl, fun e => by rw [e] at hlen; simp at hlen; omega, by omega⟩
theorem cal__law_places (F : FunG K mg "_law_places" s__law_places) (B : BN mg) (C__law_mixed : Cal P w K mg base "_law_mixed" 1 ["_law_cell", "_law_k"] sp_mixed) :
    Cal P w K mg base "_law_places" 2 ["_law_script", "_law_k"] (sp_places K) := by
  obtain ⟨f, fd, F, hm⟩ := F
  refine ⟨f, fd, F.ok sc__law_places (fun vs H Q E h => ?_) (fun cdv A outer s H vs Q E hr h => ?_), hm, F.kp, F.binds fun _ _ _ _ _ _ us hl => match us, hl with | [_, _], _ => rfl⟩
  · obtain ⟨a, ns, m, rfl, _⟩ := h
    rfl
  · obtain ⟨a, ns, m, rfl, ha, ⟨hl, h1, h2⟩, q⟩ := h
    refine ⟨_, (pss_cons (ps_set (i := 2) sc__law_places.nd rfl (by first | exact Or.inl rfl | exact Or.inr rfl) (pe_cal C__law_mixed (hr.mono (by decide)) rfl (pa_cons (pe_op op_add (pe_callB (call_lenK K) (by rfl) B.len bt_len (pa_cons (pv 0) pa_nil)) (pe_callB (cr_sumK K) (by rfl) B.sum bt_sum (pa_cons (pe_lc (own := [("_law_cell", 3)]) rfl sc__law_places.nd (pi_listK K (pv 0))
  (blkOk_by (by kernel_rfl)) (fun _ _ _ _ _ => (pg_name (i := 3) sc__law_places.nd rfl (by first | exact Or.inl rfl | exact Or.inr rfl))) (fun _ _ _ _ _ => pts_nil) (fun _ _ _ _ _ => (pe_op op_mod (pv 3) pe_int))) pa_nil))) (pa_cons (pe_op op_add pe_int (pv 1)) pa_nil))))
  (pss_one (ps_ret (pe_op op_add pe_int (pe_op op_mod (pe_op op_fdiv (pv 2) pe_int) (pe_ix (ix_listK K) (pe_lst (pa_cons pe_int (pa_cons pe_int (pa_cons pe_int (pa_cons pe_int pa_nil))))) (pe_op op_mod (pv 2) pe_int) (fun _ _ => rfl))))))), ?_⟩
    have hz : (ns.map V.int).length = ns.length := List.length_map _
    walk_at "go"
    refine lc_valsL ns (wk_list V.int ns) (fun _ => true) (fun c => .int (c % 1009)) (size_of_lt (by omega)) (fun H s => s.seq ha) ?_ ?_
    · intro i c H2 R1 R0 hc s2 k1 k0
      walk_at "go"
      exact k1 rfl _ (Same.refl _)
    · intro D H2 hD s2 h2
      rw [filt_all, int_map] at h2
      walk_at "go"
      have hnu := mixed_le ((ns.map V.int).length + ((ns.map fun c => c % 1009).sum)) (20 + m)
      generalize mixed _ (20 + m) = nu at hnu
      intro L nL
      obtain ⟨x, hx, hx1, hx2⟩ : ∃ x : Int, atI [V.int 3, V.int 5, V.int 9, V.int 20] (nu % 4) = some (.int x) ∧ 3 ≤ x ∧ x ≤ 20 := by
        have h4 : nu % 4 = 0 ∨ nu % 4 = 1 ∨ nu % 4 = 2 ∨ nu % 4 = 3 := by omega
        rcases h4 with e | e | e | e <;> rw [e]
        · exact ⟨3, rfl, by omega, by omega⟩
        · exact ⟨5, rfl, by omega, by omega⟩
        · exact ⟨9, rfl, by omega, by omega⟩
        · exact ⟨20, rfl, by omega, by omega⟩
      have e0 := Int.emod_nonneg (nu / 4) (show x ≠ 0 by omega)
      have e1 := Int.emod_lt_of_pos (nu / 4) (show 0 < x by omega)
      walk_at "go"
      exact q _ _ (by omega) (by omega) (s2.trans (same_new nL))
end
end Kf

namespace Kf
open PySem PySem.Spec PyProof.Rows L2
/-! ### last_wishes -/
/-- a number or None -/
def optV : Option Nat → V
  | none => .non
  | some j => .int (j : Nat)
def optD : Option Nat → PyData
  | none => .none
  | some j => .int (j : Nat)
theorem optV_map (o : Option Nat) : (o.map fun (j : Nat) => V.int (j : Nat)).getD .non = optV o := by cases o <;> rfl
def lastsV (ws : List Str) (n : Nat) : List V := (List.range n).map fun i => optV (lastAt ws i)
theorem lastsV_succ (ws : List Str) (n : Nat) : lastsV ws (n + 1) = lastsV ws n ++ [optV (lastAt ws n)] := by
  unfold lastsV
  rw [List.range_succ, List.map_append]
  rfl
def sp_last_wishes (K : PySem.W.Frag) : Sp := fun vs H Q _ => ∃ (a : Addr) (ws : List Str), vs = [.ref a] ∧ SqL K H a (ws.map V.str) ∧ ws.length ≤ 300 ∧
  ∀ p H', Same H H' → H p = none → H' p = some (.lst (lastsV ws ws.length)) → Q (.ref p) H'
section
variable {P : Program} {w : World} {K : PySem.W.Frag} {mg : Str → Option Value} {base : Heap}
theorem cal_last_wishes (F : FunG K mg "last_wishes" s_last_wishes) (B : BN mg) : Cal P w K mg base "last_wishes" 1 ["wishes"] (sp_last_wishes K) := by
  obtain ⟨f, fd, F, hm⟩ := F
  refine ⟨f, fd, F.ok sc_last_wishes (fun vs H Q E h => ?_) (fun cdv A outer s H vs Q E hr h => ?_), hm, F.kp, F.binds fun _ _ _ _ _ _ us hl => match us, hl with | [_], _ => rfl⟩
  · obtain ⟨a, ws, rfl, _⟩ := h
    rfl
  · obtain ⟨a, ws, rfl, ha, hl, q⟩ := h
    refine ⟨_, (pss_cons (ps_set (i := 1) sc_last_wishes.nd rfl (by first | exact Or.inl rfl | exact Or.inr rfl) pe_dnewK)
  (pss_cons (ps_set (i := 2) sc_last_wishes.nd rfl (by first | exact Or.inl rfl | exact Or.inr rfl) (pe_lst pa_nil))
  (pss_cons (ps_forD (pi_enumK K (by rfl) B.enumerate (pa_cons (pv 0) pa_nil)) (pg_tupK K 2 (pgs_cons (pg_name (i := 3) sc_last_wishes.nd rfl (by first | exact Or.inl rfl | exact Or.inr rfl)) (pgs_cons (pg_name (i := 4) sc_last_wishes.nd rfl (by first | exact Or.inl rfl | exact Or.inr rfl)) pgs_nil)))
  (pss_cons (ps_expr (pe_bmK K PySem.F.plainAttrs_list PySem.F.slot_list_append PySem.F.type_list_append mt_append (pv 2) (pa_cons (pe_dget1 (hu_of hr) (pv 1) (pv 4) ⟨rfl, rfl, rfl, rfl⟩) pa_nil)))
  (pss_one (ps_dput (hu_of hr) (pv 1) (pv 4) (pv 3) rfl))))
  (pss_one (ps_ret (pv 2)))))), ?_⟩
    walk_at "go"
    intro d nd
    walk_at "go"
    intro p np
    have sd : Same H (upd H d (.dK [])) := same_new nd
    have sp := sd.trans (same_new (o := .lst []) np)
    walk_at "go"
    refine for_E (f := V.str) ws (wk_enum _ ws) (fun i σ H' => ∃ v3 v4 kvs, σ = [some (.ref a), some (.ref d), some (.ref p), v3, v4] ∧ Same H H' ∧ H' d = some (.dK kvs) ∧ H' p = some (.lst (lastsV ws i)) ∧ kvs.length ≤ i ∧
        ∀ x, valV kvs (Sum.inr x) = (lastIx ws x i).map fun (j : Nat) => V.int (j : Nat)) ?_ ?_ ?_ ?_
    · exact ⟨none, none, [], rfl, sp, upd_old np upd_same, upd_same, Nat.le_refl _, fun x => rfl⟩
    · rintro i σ H' hi ⟨_, _, _, _, s1, _⟩
      exact s1.seq ha
    · rintro i x T σ H' D' L hx ⟨v3, v4, kvs, rfl, s1, hd, hp, hk, hv⟩ nT
      have hi : i < ws.length := (List.getElem?_eq_some_iff.mp hx).1
      have hlen : (lastsV ws i).length = i := by unfold lastsV; rw [List.length_map, List.length_range]
      have ndp : d ≠ p := ne_of hd hp (by intro z; cases z)
      have npd : p ≠ d := ndp.symm
      have np0 := sd.free np
      have hz := length_putK kvs (Sum.inr x) (V.int (i : Nat))
      have e1 : lastsV ws (i + 1) = lastsV ws i ++ [(valV kvs (Sum.inr x)).getD V.non] := by
        rw [lastsV_succ, hv, optV_map, lastAt_of hx]
      walk_at "go"
      refine L.nx _ _ ⟨_, _, _, rfl, by walk_at "same", upd_same, by rw [e1]; walk_at "hp", by omega, fun y => ?_⟩
      rw [valV_put, hv]
      rw [lastIx_succ, hx]
      by_cases e : y = x
      · rw [if_pos (by rw [e]), if_pos (by rw [e])]
        rfl
      · rw [if_neg (fun q => e (Sum.inr.inj q)), if_neg (fun q => e (Option.some.inj q).symm)]
    · rintro σ H' ⟨v3, v4, kvs, rfl, s1, hd, hp, hk, hv⟩
      walk_at "go"
      exact q p H' s1 (sd.free np) hp
end
end Kf

namespace Kf
open PySem PySem.Spec PyProof.Rows L2
/-! ### depths, missed_by_places -/
theorem optV_isnon (o : Option Nat) : decide (optV o = V.non) = o.isNone := by
  cases o <;> rfl
theorem lastAt_lt {ws : List Str} {i j : Nat} (h : lastAt ws i = some j) : j < i := by
  unfold lastAt at h
  cases e : ws[i]? with
  | none => rw [e] at h; cases h
  | some x => rw [e] at h; exact (lastIx_some h).1
def depsV (ws : List Str) : List V := (List.range ws.length).map fun i => optV (depth ws i)
def depsV' (ws : List Str) (n : Nat) : List V := (List.range n).map fun i => optV (depth ws i)
theorem depsV_succ (ws : List Str) (n : Nat) : depsV' ws (n + 1) = depsV' ws n ++ [optV (depth ws n)] := by
  unfold depsV'
  rw [List.range_succ, List.map_append]
  rfl
theorem depsV_len (ws : List Str) (n : Nat) : (depsV' ws n).length = n := by unfold depsV'; rw [List.length_map, List.length_range]
theorem not_meets {p : Int} {d : Nat} : (!meets p (some d)) = decide (p < (d : Int)) := by
  show (!decide ((d : Int) ≤ p)) = _
  by_cases c : (d : Int) ≤ p
  · rw [decide_eq_true c, decide_eq_false (by omega)]
    rfl
  · rw [decide_eq_false c, decide_eq_true (by omega)]
    rfl
def sp_depths (K : PySem.W.Frag) : Sp := fun vs H Q _ => ∃ (a : Addr) (ws : List Str), vs = [.ref a] ∧ H a = some (.lst (ws.map V.str)) ∧ (ws.length ≤ 300 ∧ ∀ x ∈ ws, IsNm x) ∧
  ∀ p H', Same H H' → H p = none → H' p = some (.lst (depsV ws)) → Q (.ref p) H'
def manyV (ws : List Str) : List V := (List.range 20).map fun (t : Nat) => .int ((deeps ws (1 + (t : Int)) : Nat) : Int)
def sp_missed_by (K : PySem.W.Frag) : Sp := fun vs H Q _ => ∃ (a : Addr) (ws : List Str), vs = [.ref a] ∧ H a = some (.lst (ws.map V.str)) ∧ (ws.length ≤ 300 ∧ ∀ x ∈ ws, IsNm x) ∧
  ∀ p H', Same H H' → H p = none → H' p = some (.lst (manyV ws)) → Q (.ref p) H'
section
variable {P : Program} {w : World} {K : PySem.W.Frag} {mg : Str → Option Value} {base : Heap}
theorem cal_depths (F : FunG K mg "depths" s_depths) (B : BN mg) (C_need_wishes : Cal P w K mg base "need_wishes" 2 ["wishes"] (sp_need_wishes K)) (C_last_wishes : Cal P w K mg base "last_wishes" 1 ["wishes"] (sp_last_wishes K)) :
    Cal P w K mg base "depths" 3 ["wishes"] (sp_depths K) := by
  obtain ⟨f, fd, F, hm⟩ := F
  refine ⟨f, fd, F.ok sc_depths (fun vs H Q E h => ?_) (fun cdv A outer s H vs Q E hr h => ?_), hm, F.kp, F.binds fun _ _ _ _ _ _ us hl => match us, hl with | [_], _ => rfl⟩
  · obtain ⟨a, ws, rfl, _⟩ := h
    rfl
  · obtain ⟨a, ws, rfl, ha, ⟨hl, hn⟩, q⟩ := h
    refine ⟨_, (pss_cons (ps_expr (pe_cal C_need_wishes (hr.mono (by decide)) rfl (pa_cons (pv 0) pa_nil)))
  (pss_cons (ps_set (i := 1) sc_depths.nd rfl (by first | exact Or.inl rfl | exact Or.inr rfl) (pe_lst pa_nil))
  (pss_cons (ps_forD (pi_enumK K (by rfl) B.enumerate (pa_cons (pe_cal C_last_wishes (hr.mono (by decide)) rfl (pa_cons (pv 0) pa_nil)) pa_nil)) (pg_tupK K 2 (pgs_cons (pg_name (i := 2) sc_depths.nd rfl (by first | exact Or.inl rfl | exact Or.inr rfl)) (pgs_cons (pg_name (i := 3) sc_depths.nd rfl (by first | exact Or.inl rfl | exact Or.inr rfl)) pgs_nil)))
  (pss_one (ps_expr (pe_bmK K PySem.F.plainAttrs_list PySem.F.slot_list_append PySem.F.type_list_append mt_append (pv 1) (pa_cons (pe_j (pe_ifExp (pt_cmpR op_isN (pv 3) pe_non (nomark _)) pe_non (pe_lenSet1 B.len B.set (pe_slice (sl_listK K) (pv 0) (po_some (pv 3)) (po_some (pv 2)))))) pa_nil)))))
  (pss_one (ps_ret (pv 1)))))), ?_⟩
    have hlv : (lastsV ws ws.length).length = ws.length := by unfold lastsV; rw [List.length_map, List.length_range]
    walk_at "go"
    intro H1 s1
    walk_at "go"
    intro p np
    have hp1 : upd H1 p (.lst []) p = some (.lst []) := upd_same
    have s2 := s1.trans (same_new (o := .lst []) np)
    have np0 := s1.free np
    generalize upd H1 p (.lst []) = H2 at *
    have ha2 := s2 _ _ ha
    walk_at "go"
    intro p2 H3 s3 n2 h2
    walk_at "go"
    refine for_E (f := fun i => optV (lastAt ws i)) (List.range ws.length) (wk_enum _ _) (fun i σ H' => ∃ v2 v3, σ = [some (.ref a), some (.ref p), v2, v3] ∧ Same H H' ∧ H' p2 = some (.lst (lastsV ws ws.length)) ∧ H' p = some (.lst (depsV' ws i))) ?_ ?_ ?_ ?_
    · exact ⟨none, none, rfl, s2.trans s3, h2, s3 _ _ hp1⟩
    · rintro i σ H' hi ⟨_, _, _, _, h, _⟩
      exact SqL.of h
    · rintro i j T σ H' D' L hj ⟨v2, v3, rfl, s4, h4, hp4⟩ nT
      obtain ⟨hi, e⟩ := List.getElem?_eq_some_iff.mp hj
      rw [List.getElem_range] at e
      subst e
      rw [List.length_range] at hi
      have hlen := depsV_len ws i
      have n2p : p2 ≠ p := fun e => by rw [e] at n2; rw [hp1] at n2; cases n2
      have s5 := s4.trans (same_new (o := .tup [V.int (i : Nat), optV (lastAt ws i)]) nT)
      have h5 := upd_old (o := .tup [V.int (i : Nat), optV (lastAt ws i)]) nT h4
      have hp5 := upd_old (o := .tup [V.int (i : Nat), optV (lastAt ws i)]) nT hp4
      have hT5 : upd H' T (.tup [V.int (i : Nat), optV (lastAt ws i)]) T = some (.tup [V.int (i : Nat), optV (lastAt ws i)]) := upd_same
      generalize upd H' T (.tup [V.int (i : Nat), optV (lastAt ws i)]) = H5 at *
      have ha5 := s5 _ _ ha
      walk_at "go"
      have fin : ∀ H6, Same H5 H6 → ∃ v2 v3, [some (.ref a), some (.ref p), some (V.int (i : Nat)), some (optV (lastAt ws i))] = [some (.ref a), some (.ref p), v2, v3] ∧ Same H (upd H6 p (.lst (depsV' ws i ++ [optV (depth ws i)]))) ∧ (upd H6 p (.lst (depsV' ws i ++ [optV (depth ws i)]))) p2 = some (.lst (lastsV ws ws.length)) ∧ (upd H6 p (.lst (depsV' ws i ++ [optV (depth ws i)]))) p = some (.lst (depsV' ws (i + 1))) := fun H6 s6 =>
        ⟨_, _, rfl, sm_mut (s5.trans s6) np0, upd_far n2p (s6 _ _ h5), by rw [upd_same, depsV_succ]⟩
      refine join_by (optV (depth ws i)) (fun Q' hq => ?_) (fun H6 s6 => ?_)
      · walk_at "go"
        rw [optV_isnon]
        cases hc : lastAt ws i with
        | none =>
          have ed : depth ws i = none := by unfold depth; rw [hc]; rfl
          rw [ed] at hq
          walk_at "go"
          exact hq _ (Same.refl _)
        | some j =>
          have ed : depth ws i = some (uniq ((ws.take i).drop j)).length := by unfold depth; rw [hc]; rfl
          have hji := lastAt_lt hc
          rw [ed] at hq
          rw [hc] at *
          walk_at "go"
          intro c nc
          rw [cut_part (by omega) (by omega)]
          have hcl : ((ws.take i).drop j).length ≤ 4000 := by rw [List.length_drop, List.length_take]; omega
          walk_at "go"
          rw [unl_all]
          exact hq _ (same_new nc)
      · have hp6 := s6 _ _ hp5
        walk_at "go"
        exact L.nx _ _ (fin _ s6)
    · rintro σ H' ⟨v2, v3, rfl, s4, h4, hp4⟩
      rw [List.length_range] at hp4
      walk_at "go"
      exact q p H' s4 np0 hp4
theorem cal_missed_by_places (F : FunG K mg "missed_by_places" s_missed_by_places) (B : BN mg) (g_MOST_PLACES : GInt mg "MOST_PLACES" 20) (C_depths : Cal P w K mg base "depths" 3 ["wishes"] (sp_depths K)) : Cal P w K mg base "missed_by_places" 4 ["wishes"] (sp_missed_by K) := by
  obtain ⟨f, fd, F, hm⟩ := F
  refine ⟨f, fd, F.ok sc_missed_by_places (fun vs H Q E h => ?_) (fun cdv A outer s H vs Q E hr h => ?_), hm, F.kp, F.binds fun _ _ _ _ _ _ us hl => match us, hl with | [_], _ => rfl⟩
  · obtain ⟨a, ws, rfl, _⟩ := h
    rfl
  · obtain ⟨a, ws, rfl, ha, hl, q⟩ := h
    refine ⟨_, (pss_cons (ps_set (i := 1) sc_missed_by_places.nd rfl (by first | exact Or.inl rfl | exact Or.inr rfl) (pe_cal C_depths (hr.mono (by decide)) rfl (pa_cons (pv 0) pa_nil)))
  (pss_one (ps_ret (pe_lc (own := [("places", 3)]) rfl sc_missed_by_places.nd (pi_range2 (by rfl) B.range (pa_cons pe_int (pa_cons (pe_op op_add (pe_gint rfl g_MOST_PLACES) pe_int) pa_nil)))
  (blkOk_by (by kernel_rfl)) (fun _ _ _ _ _ => (pg_name (i := 3) sc_missed_by_places.nd rfl (by first | exact Or.inl rfl | exact Or.inr rfl))) (fun _ _ _ _ _ => pts_nil) (fun _ _ _ _ _ => (pe_callB (call_lenK K) (by rfl) B.len bt_len (pa_cons (pe_lc (own := [("depth", 2)]) rfl sc_missed_by_places.nd (pi_listK K (pv 1))
  (blkOk_by (by kernel_rfl)) (fun _ _ _ _ _ => (pg_name (i := 2) sc_missed_by_places.nd rfl (by first | exact Or.inl rfl | exact Or.inr rfl))) (fun _ _ _ _ _ => (pts_one (PW.pt (pw_or (pt_cmpR op_isN (pv 2) pe_non (nomark _)) (pw_or1 (pt_cmpR op_gt (pv 2) (pv 3) (nomark _))))))) (fun _ _ _ _ _ => (pv 2))) pa_nil))))))), ?_⟩
    walk_at "go"
    intro p1 H1 s1 n1 h1
    have hlw := hl.1
    walk_at "go"
    refine lc_valsL (List.range 20) ((wk_rng 1 20)) (fun _ => true) (fun (t : Nat) => .int ((deeps ws (1 + (t : Int)) : Nat) : Int)) (by rw [List.length_range]; exact size_of_lt (by omega)) (fun _ _ => trivial) ?_ ?_
    · intro i t H3 R1 R0 ht s3 k1 k0
      have h3 := s3 _ _ h1
      walk_at "go"
      refine lc_valsL (f := fun i => optV (depth ws i)) (List.range ws.length) (wk_list _ _) (fun i => !meets (1 + (t : Int)) (depth ws i)) (fun i => optV (depth ws i)) (by rw [List.length_range]; exact size_of_lt (by omega)) (fun H s => s.seq (SqL.of h3)) ?_ ?_
      · intro i2 j H4 R1' R0' hj s4 k1' k0'
        walk_at "go"
        rw [optV_isnon]
        cases hc : depth ws j with
        | none =>
          rw [hc] at k1' k0'
          walk_at "go"
          exact k1' rfl _ (Same.refl _)
        | some d =>
          rw [hc] at k1' k0'
          rw [not_meets] at k1' k0'
          walk_at "go"
          refine ite2 (fun z => ?_) (fun z => ?_)
          · walk_at "go"
            exact k1' z _ (Same.refl _)
          · exact k0' ((Bool.not_eq_true _).mp z) _ (Same.refl _)
      · intro D H4 hD s4 h4
        have hdl := deeps_le ws (1 + (t : Int))
        unfold deeps at hdl
        walk_at "go"
        rw [List.length_map]
        exact k1 rfl _ (s4)
    · intro D H3 hD s3 h3
      rw [filt_all] at h3
      exact q D H3 (s1.trans s3) (s1.free hD) h3
end
end Kf

/-! further words: the fields of a shelf -/
local macro_rules | `(tactic| walk_at "fld") => `(tactic| first
  | with_reducible exact Kf.sx_room
  | with_reducible exact Kf.sx_here
  | with_reducible exact Kf.sx_many_met
  | with_reducible exact Kf.sx_many_missed
  | with_reducible exact Kf.sx_signs
  | with_reducible exact Kf.sx_ended
  | with_reducible exact Kf.sx_touch
  | with_reducible exact Kf.sx_goer
  | with_reducible exact Kf.sx_wish
  | with_reducible exact Kf.sx_things
  | with_reducible exact Kf.sx_met
  | with_reducible exact Kf.sx_missed
  | with_reducible exact Kf.sx_places
  | with_reducible exact Kf.sx_order
  | with_reducible exact Kf.sx_marks
  | with_reducible exact Kf.sx_rounds
  | with_reducible exact Kf.shX_len)
local macro_rules | `(tactic| walk_at "leaf") => `(tactic| walk_at "fld")
local macro_rules | `(tactic| walk_at "vv") => `(tactic| first
  | assumption
  | exact Kf.ord_get)
local macro_rules | `(tactic| walk_at "leaf") => `(tactic| first
  | (apply Kf.dput_of; (focus (walk_at "hp"; done)); (first | exact Kf.ord_small | (apply Kf.size_of_lt; omega)))
  | (apply Kf.dget_of; (focus (walk_at "hp"; done)); walk_at "vv")
  | exact Kf.disp1
  | exact Nat.le_of_ble_eq_true rfl)

namespace Kf
open PySem PySem.Spec PyProof.Rows L2
/-! ### shelves: the methods -/
def sp_need_places : Sp := fun vs H Q _ => ∃ p : Int, vs = [.int p] ∧ 1 ≤ p ∧ p ≤ 20 ∧ ∀ H', Same H H' → Q .non H'
def sp_init (C : Addr) : Sp := fun vs H Q _ => ∃ (a dx : Addr) (p : Int), vs = [.ref a, .int p] ∧ H a = some (.ins C dx []) ∧ 1 ≤ p ∧ p ≤ 20 ∧
  ∀ H' A, A.a = a → H A.h = none → (∀ b o, b ≠ a → H b = some o → H' b = some o) → Rep false C H' A ⟨p, [], 0, 0, [], 0⟩ → Q .non H'
def sp_goer (k : Kd) (C : Addr) : Sp := fun vs H Q _ => ∃ (A : Sa) (v : Sv), vs = [.ref A.a] ∧ Rep k.mark C H A v ∧ v.Ok ∧ v.xs ≠ [] ∧
  ∀ A' H', Nxt H A A' → But k.mark A H H' → (∀ b, H' b = none → H b = none) → Rep k.mark C H' A' (k.goe v).2 → Q (.str (k.goe v).1) H'
def sp_touch (k : Kd) (C : Addr) : Sp := fun vs H Q _ => ∃ (A : Sa) (v : Sv) (x : Str), vs = [.ref A.a, .str x] ∧ Rep k.mark C H A v ∧ v.Ok ∧ x ∈ v.xs ∧
  ∀ H', But k.mark A H H' → (∀ b, H' b = none → H b = none) → Rep k.mark C H' A (k.tch v x) → Q .non H'
def sp_wish (k : Kd) (C : Addr) : Sp := fun vs H Q _ => ∃ (A : Sa) (v : Sv) (x : Str), vs = [.ref A.a, .str x] ∧ Rep k.mark C H A v ∧ v.Ok ∧ IsNm x ∧
  ∀ A' t H', Nxt H A A' → But k.mark A H H' → (∀ b, H' b = none → H b = none) → Rep k.mark C H' A' (k.step v x).2 → H t = none → H' t = some (.tup [.bl (k.step v x).1.1, optS (k.step v x).1.2]) → Q (.ref t) H'
def sp_things (mk : Bool) (C : Addr) (K : PySem.W.Frag) : Sp := fun vs H Q _ => ∃ (A : Sa) (v : Sv), vs = [.ref A.a] ∧ Rep mk C H A v ∧ v.Ok ∧
  ∀ (ys : List Str) t H', Same H H' → H t = none → H' t = some (.lst (ys.map V.str)) → ys.Perm v.xs → sortedS ys = true → Q (.ref t) H'
def sp_order (mk : Bool) (C : Addr) : Sp := fun vs H Q _ => ∃ (A : Sa) (v : Sv), vs = [.ref A.a] ∧ Rep mk C H A v ∧
  ∀ t H', Same H H' → H t = none → H' t = some (.lst (v.xs.map V.str)) → Q (.ref t) H'
def sp_int (mk : Bool) (C : Addr) (f : Sv → Int) : Sp := fun vs H Q _ => ∃ (A : Sa) (v : Sv), vs = [.ref A.a] ∧ Rep mk C H A v ∧ ∀ H', Same H H' → Q (.int (f v)) H'
theorem len2 {f : Str} {u : V} {fs : List (Str × V)} {n : Nat} (h : fs.length < n) : (putF f u fs).length < n + 1 := Nat.lt_of_le_of_lt (length_putF f u fs) (by omega)
section
variable {P : Program} {w : World} {K : PySem.W.Frag} {mg : Str → Option Value} {base : Heap} {C : Addr}
theorem cal_need_places (F : FunG K mg "need_places" s_need_places) (B : BN mg) (g_MOST_PLACES : GInt mg "MOST_PLACES" 20) : Cal P w K mg base "need_places" 1 ["places"] sp_need_places := by
  obtain ⟨f, fd, F, hm⟩ := F
  refine ⟨f, fd, F.ok sc_need_places (fun vs H Q E h => ?_) (fun cdv A outer s H vs Q E hr h => ?_), hm, F.kp, F.binds fun _ _ _ _ _ _ us hl => match us, hl with | [_], _ => rfl⟩
  · obtain ⟨p, rfl, _⟩ := h
    rfl
  · obtain ⟨p, rfl, h1, h2, q⟩ := h
    refine ⟨_, (pss_one (ps_if (PW.pt (pw_or (pt_not (pt_val (pe_callB (call_isiK1 K) (by rfl) B.isinstance bt_isinstance (pa_cons (pv 0) (pa_cons (pe_bltn (v := .ty "int") (by rfl) B.int bt_int rfl) pa_nil))))) (pw_or (pt_val (pe_callB (call_isiK1 K) (by rfl) B.isinstance bt_isinstance (pa_cons (pv 0) (pa_cons (pe_bltn (v := .ty "bool") (by rfl) B.bool bt_bool rfl) pa_nil)))) (pw_or1 (pt_not (pt_chain op_le op_le pe_int (pv 0) (pe_gint rfl g_MOST_PLACES)))))))
  (pss_one ps_never)
  pss_nil)), ?_⟩
    walk_at "go"
    exact q _ (Same.refl _)
theorem fn_init {f : Addr} {fd : FuncData} (F : Fun K "__init__" "Shelf.__init__" s_Shelf___init__ f fd) (T : ShC K C) (C_need_places : Cal P w K mg base "need_places" 1 ["places"] sp_need_places) : FnOk P w K mg base CX0 2 f fd ["self", "places"] (sp_init C) := by
  obtain ⟨cl, nR, nH, nM, nN, _, _⟩ := T
  refine F.ok sc_Shelf___init__ (fun vs H Q E h => ?_) (fun cdv A outer s H vs Q E hr h => ?_)
  · obtain ⟨a, dx, p, rfl, _⟩ := h
    rfl
  · obtain ⟨a, dx, p, rfl, ha, h1, h2, q⟩ := h
    refine ⟨_, (pss_cons (ps_expr (pe_cal C_need_places (hr.mono (by decide)) rfl (pa_cons (pv 1) pa_nil)))
  (pss_cons (ps_fldK K (pv 0) (pv 1))
  (pss_cons (ps_fldK K (pv 0) (pe_lst pa_nil))
  (pss_cons (ps_fldK K (pv 0) pe_int)
  (pss_one (ps_fldK K (pv 0) pe_int)))))), ?_⟩
    walk_at "go"
    intro H1 s1
    have ha1 := s1 _ _ ha
    have z0 : ([] : List (Str × V)).length < 1 := by decide
    have z1 : (putF "room" (V.int p) []).length < 2 := len2 z0
    walk_at "go"
    intro l hl
    have nal : a ≠ l := fun e => by rw [e, upd_same] at hl; cases hl
    have nl1 : H1 l = none := by rw [upd_ne nal.symm] at hl; exact hl
    refine ⟨_, rfl, a, C, dx, _, rfl, (by rw [upd_ne nal]; exact upd_same), cl, nH, by omega, ?_⟩
    have z2 := len2 (f := "here") (u := V.ref l) z1
    refine ⟨_, rfl, a, C, dx, _, rfl, upd_same, cl, nM, by omega, ?_⟩
    have z3 := len2 (f := "many_met") (u := V.int 0) z2
    refine ⟨_, rfl, a, C, dx, _, rfl, upd_same, cl, nN, by omega, ?_⟩
    rw [upd_upd, upd_upd]
    refine q _ ⟨a, l, l, dx⟩ rfl (s1.free nl1) (fun b o hb hbo => ?_) ⟨upd_same, ?_, fun e => by cases e⟩
    · have hbl : b ≠ l := ne_of_none (s1 _ _ hbo) nl1
      rw [upd_ne hb, upd_ne hbl, upd_ne hb]
      exact s1 _ _ hbo
    · rw [upd_ne nal.symm, upd_same]
      rfl
theorem cal_init {c : Str} (F : FunI K mg c C "Shelf.__init__" s_Shelf___init__) (T : ShC K C) (C_need_places : Cal P w K mg base "need_places" 1 ["places"] sp_need_places) : CalI P w K mg base c C 2 ["self", "places"] (sp_init C) := by
  obtain ⟨f, fd, F, hm, hg⟩ := F
  exact ⟨f, fd, fn_init F T C_need_places, hm, hg, F.binds fun _ _ _ _ _ _ us hl => match us, hl with | [_, _], _ => rfl⟩
theorem cal_goer (F : FunM K C "goer" "Shelf.goer" s_Shelf_goer) (T : ShC K C) {k : Kd} (hmk : k.mark = false) (hk : ∀ v, k.goe v = (v.xs.headD Str.empty, { v with sg := [] })) : CalM P w K mg base C "goer" 1 ["self"] (sp_goer k C) := by
  obtain ⟨f, fd, F, hm⟩ := F
  obtain ⟨cl, nR, nH, nM, nN, _, _⟩ := T
  refine ⟨f, fd, F.ok sc_Shelf_goer (fun vs H Q E h => ?_) (fun cdv A outer s H vs Q E hr h => ?_), hm, F.binds fun _ _ _ _ _ _ us hl => match us, hl with | [_], _ => rfl⟩
  · obtain ⟨A, v, rfl, _⟩ := h
    rfl
  · obtain ⟨A, v, rfl, r, ok, hne, q⟩ := h
    refine ⟨_, (pss_one (ps_ret (pe_ix (ix_listK K) (pe_fldK K (pv 0)) pe_int (fun _ _ => rfl)))), ?_⟩
    have ho := r.o
    have hl := r.l
    have g0 : atI (v.xs.map V.str) 0 = some (.str (v.xs.headD Str.empty)) := by
      refine atI_nat (j := 0) ?_
      cases e : v.xs with
      | nil => exact absurd e hne
      | cons y l => rfl
    walk_at "go"
    have q := q A H (Nxt.refl _ _) (But.refl _ _ _) (fun _ h => h)
    rw [hk] at q
    exact q ⟨r.o, r.l, fun e => by rw [hmk] at e; cases e⟩
theorem cal_touch0 (F : FunM K C "touch" "Shelf.touch" s_Shelf_touch) {k : Kd} (hk : ∀ v x, k.tch v x = v) : CalM P w K mg base C "touch" 1 ["self", "name"] (sp_touch k C) := by
  obtain ⟨f, fd, F, hm⟩ := F
  refine ⟨f, fd, F.ok sc_Shelf_touch (fun vs H Q E h => ?_) (fun cdv A outer s H vs Q E hr h => ?_), hm, F.binds fun _ _ _ _ _ _ us hl => match us, hl with | [_, _], _ => rfl⟩
  · obtain ⟨A, v, x, rfl, _⟩ := h
    rfl
  · obtain ⟨A, v, x, rfl, r, ok, hx, q⟩ := h
    refine ⟨_, (pss_one ps_pass), ?_⟩
    refine q _ (But.refl _ _ _) (fun _ h => h) ?_
    rw [hk]
    exact r
theorem cal_touchC (F : FunM K C "touch" "Cold.touch" s_Cold_touch) (T : ShC K C) {k : Kd} (hmk : k.mark = false) (hk : ∀ v x, k.tch v x = { v with xs := v.xs.erase x ++ [x] }) : CalM P w K mg base C "touch" 1 ["self", "name"] (sp_touch k C) := by
  obtain ⟨f, fd, F, hm⟩ := F
  obtain ⟨cl, nR, nH, nM, nN, _, _⟩ := T
  refine ⟨f, fd, F.ok sc_Cold_touch (fun vs H Q E h => ?_) (fun cdv A outer s H vs Q E hr h => ?_), hm, F.binds fun _ _ _ _ _ _ us hl => match us, hl with | [_, _], _ => rfl⟩
  · obtain ⟨A, v, x, rfl, _⟩ := h
    rfl
  · obtain ⟨A, v, x, rfl, r, ok, hx, q⟩ := h
    refine ⟨_, (pss_cons (ps_expr (pe_bmK K PySem.F.plainAttrs_list PySem.F.slot_list_remove PySem.F.type_list_remove mt_removeS (pe_fldK K (pv 0)) (pa_cons (pv 1) pa_nil)))
  (pss_one (ps_expr (pe_bmK K PySem.F.plainAttrs_list PySem.F.slot_list_append PySem.F.type_list_append mt_append (pe_fldK K (pv 0)) (pa_cons (pv 1) pa_nil))))), ?_⟩
    have ho := r.o
    have hl := r.l
    obtain ⟨j, j1, j2, j3⟩ := erase_first hx
    have hlen := ok.len
    have hhi := ok.hi
    have hah := r.ah
    have hel : (v.xs.eraseIdx j).length ≤ 20 := Nat.le_trans (List.length_eraseIdx_le _ _) (by omega)
    walk_at "go"
    rw [upd_upd, j3]
    have e1 : (v.xs.erase x).map V.str ++ [V.str x] = (v.xs.erase x ++ [x]).map V.str := by rw [List.map_append]; rfl
    rw [e1]
    refine q _ (But.lst (But.refl _ _ _)) (fun b hb => ?_) ?_
    · unfold upd at hb
      split at hb
      · cases hb
      · exact hb
    · rw [hk]
      exact r.setL
theorem cal_things {mk : Bool} (F : FunM K C "things" "Shelf.things" s_Shelf_things) (T : ShC K C) (B : BN mg) : CalM P w K mg base C "things" 1 ["self"] (sp_things mk C K) := by
  obtain ⟨f, fd, F, hm⟩ := F
  obtain ⟨cl, nR, nH, nM, nN, _, _⟩ := T
  refine ⟨f, fd, F.ok sc_Shelf_things (fun vs H Q E h => ?_) (fun cdv A outer s H vs Q E hr h => ?_), hm, F.binds fun _ _ _ _ _ _ us hl => match us, hl with | [_], _ => rfl⟩
  · obtain ⟨A, v, rfl, _⟩ := h
    rfl
  · obtain ⟨A, v, rfl, r, ok, q⟩ := h
    refine ⟨_, (pss_one (ps_ret (pe_callB (cr_sortedSK K) (by rfl) B.sorted bt_sorted (pa_cons (pe_fldK K (pv 0)) pa_nil)))), ?_⟩
    have ho := r.o
    have hl := r.l
    have hlen := ok.len
    have hhi := ok.hi
    walk_at "go"
    intro ys t hp hs nt
    exact q ys t _ (same_new nt) nt upd_same hp hs
theorem cal_met {mk : Bool} (F : FunM K C "met" "Shelf.met" s_Shelf_met) (T : ShC K C) : CalM P w K mg base C "met" 1 ["self"] (sp_int mk C Sv.m) := by
  obtain ⟨f, fd, F, hm⟩ := F
  obtain ⟨cl, nR, nH, nM, nN, _, _⟩ := T
  refine ⟨f, fd, F.ok sc_Shelf_met (fun vs H Q E h => ?_) (fun cdv A outer s H vs Q E hr h => ?_), hm, F.binds fun _ _ _ _ _ _ us hl => match us, hl with | [_], _ => rfl⟩
  · obtain ⟨A, v, rfl, _⟩ := h
    rfl
  · obtain ⟨A, v, rfl, r, q⟩ := h
    refine ⟨_, (pss_one (ps_ret (pe_fldK K (pv 0)))), ?_⟩
    have ho := r.o
    walk_at "go"
    exact q _ (Same.refl _)
theorem cal_missed {mk : Bool} (F : FunM K C "missed" "Shelf.missed" s_Shelf_missed) (T : ShC K C) : CalM P w K mg base C "missed" 1 ["self"] (sp_int mk C Sv.n) := by
  obtain ⟨f, fd, F, hm⟩ := F
  obtain ⟨cl, nR, nH, nM, nN, _, _⟩ := T
  refine ⟨f, fd, F.ok sc_Shelf_missed (fun vs H Q E h => ?_) (fun cdv A outer s H vs Q E hr h => ?_), hm, F.binds fun _ _ _ _ _ _ us hl => match us, hl with | [_], _ => rfl⟩
  · obtain ⟨A, v, rfl, _⟩ := h
    rfl
  · obtain ⟨A, v, rfl, r, q⟩ := h
    refine ⟨_, (pss_one (ps_ret (pe_fldK K (pv 0)))), ?_⟩
    have ho := r.o
    walk_at "go"
    exact q _ (Same.refl _)
theorem cal_places {mk : Bool} (F : FunM K C "places" "Shelf.places" s_Shelf_places) (T : ShC K C) : CalM P w K mg base C "places" 1 ["self"] (sp_int mk C Sv.p) := by
  obtain ⟨f, fd, F, hm⟩ := F
  obtain ⟨cl, nR, nH, nM, nN, _, _⟩ := T
  refine ⟨f, fd, F.ok sc_Shelf_places (fun vs H Q E h => ?_) (fun cdv A outer s H vs Q E hr h => ?_), hm, F.binds fun _ _ _ _ _ _ us hl => match us, hl with | [_], _ => rfl⟩
  · obtain ⟨A, v, rfl, _⟩ := h
    rfl
  · obtain ⟨A, v, rfl, r, q⟩ := h
    refine ⟨_, (pss_one (ps_ret (pe_fldK K (pv 0)))), ?_⟩
    have ho := r.o
    walk_at "go"
    exact q _ (Same.refl _)
theorem cal_wish {k : Kd} (G : k.Good) (F : FunM K C "wish" "Shelf.wish" s_Shelf_wish) (T : ShC K C) (B : BN mg) (C_is_name : Cal P w K mg base "is_name" 1 ["thing"] sp_is_name) (M_touch : CalM P w K mg base C "touch" 1 ["self", "name"] (sp_touch k C))
    (M_goer : CalM P w K mg base C "goer" 3 ["self"] (sp_goer k C)) : CalM P w K mg base C "wish" 4 ["self", "name"] (sp_wish k C) := by
  obtain ⟨f, fd, F, hm⟩ := F
  obtain ⟨cl, nR, nH, nM, nN, _, _⟩ := T
  refine ⟨f, fd, F.ok sc_Shelf_wish (fun vs H Q E h => ?_) (fun cdv A outer s H vs Q E hr h => ?_), hm, F.binds fun _ _ _ _ _ _ us hl => match us, hl with | [_, _], _ => rfl⟩
  · obtain ⟨A, v, x, rfl, _⟩ := h
    rfl
  · obtain ⟨A, v, x, rfl, r, ok, hx, q⟩ := h
    refine ⟨_, (pss_cons (ps_if (pt_not (pt_val (pe_cal C_is_name (hr.mono (by decide)) rfl (pa_cons (pv 1) pa_nil))))
  (pss_one ps_never)
  pss_nil)
  (pss_cons (ps_if (pt_cmpR (op_inK K) (pv 1) (pe_fldK K (pv 0)) (by rfl))
  (pss_cons (ps_fldaugK K (pv 0) pe_int in_add)
  (pss_cons (ps_expr (pe_mth (pv 0) cl M_touch (hr.mono (by decide)) (pa_cons (pv 1) pa_nil)))
  (pss_one (ps_ret (pe_tup (pa_cons pe_bl (pa_cons pe_non pa_nil)))))))
  pss_nil)
  (pss_cons (ps_fldaugK K (pv 0) pe_int in_add)
  (pss_cons (ps_set (i := 2) sc_Shelf_wish.nd rfl (by first | exact Or.inl rfl | exact Or.inr rfl) pe_non)
  (pss_cons (ps_if (pt_cmpR op_eq (pe_callB (call_lenK K) (by rfl) B.len bt_len (pa_cons (pe_fldK K (pv 0)) pa_nil)) (pe_fldK K (pv 0)) (nomark _))
  (pss_cons (ps_set (i := 2) sc_Shelf_wish.nd rfl (by first | exact Or.inl rfl | exact Or.inr rfl) (pe_mth0 (pv 0) cl M_goer (hr.mono (by decide))))
  (pss_one (ps_expr (pe_bmK K PySem.F.plainAttrs_list PySem.F.slot_list_remove PySem.F.type_list_remove mt_removeS (pe_fldK K (pv 0)) (pa_cons (pv 2) pa_nil)))))
  pss_nil)
  (pss_cons (ps_expr (pe_bmK K PySem.F.plainAttrs_list PySem.F.slot_list_append PySem.F.type_list_append mt_append (pe_fldK K (pv 0)) (pa_cons (pv 1) pa_nil)))
  (pss_cons (ps_expr (pe_mth (pv 0) cl M_touch (hr.mono (by decide)) (pa_cons (pv 1) pa_nil)))
  (pss_one (ps_ret (pe_tup (pa_cons pe_bl (pa_cons (pv 2) pa_nil)))))))))))), ?_⟩
    have hlen := ok.len
    have hhi := ok.hi
    walk_at "go"
    intro H1 s1
    have r1 := r.same s1
    have ho := r1.o
    have hl := r1.l
    have fl := fl_strs v.xs
    have fx : flatV (.str x) = true := rfl
    walk_at "go"
    refine ite2 (fun c => ?_) (fun c => ?_)
    · have c : decide (x ∈ v.xs) = true := (in_strs x v.xs) ▸ c
      have c := of_decide_eq_true c
      have r2 := r1.setM (k := v.m + 1)
      have b2 : But k.mark A H (upd H1 A.a (.ins C A.dx (putF "many_met" (.int (v.m + 1)) (shX k.mark v.p A.h v.m v.n A.g v.e)))) := But.obj (Same.but s1)
      walk_at "go"
      rw [put_many_met] at r2 b2 ⊢
      refine ⟨sx_touch, ?_⟩
      have okm := ok.cnt (v.m + 1) v.n
      have cm : x ∈ ({ v with m := v.m + 1 } : Sv).xs := c
      walk_at "go"
      intro H3 b3 n3 r3
      walk_at "go"
      intro t nt
      have est : k.step v x = ((true, none), k.tch { v with m := v.m + 1 } x) := by unfold Kd.step; rw [if_pos c]
      have b4 := (b2.trans (Nxt.refl _ _) b3)
      have n4 : ∀ b, H3 b = none → H b = none := fun b hb => by
        have := n3 b hb
        unfold upd at this
        split at this
        · cases this
        · exact s1.free this
      refine q A t _ (Nxt.refl _ _) (b4.ext (same_new nt)) (fun b hb => ?_) ?_ (n4 _ nt) ?_
      · unfold upd at hb
        split at hb
        · cases hb
        · exact n4 _ hb
      · rw [est]
        exact r3.same (same_new nt)
      · rw [est]
        exact upd_same
    · have c : decide (x ∈ v.xs) = false := by
        rw [in_strs] at c
        exact Bool.not_eq_true _ ▸ c
      have c := of_decide_eq_false c
      have r2 := r1.setN (k := v.n + 1)
      have b2 : But k.mark A H (upd H1 A.a (.ins C A.dx (putF "many_missed" (.int (v.n + 1)) (shX k.mark v.p A.h v.m v.n A.g v.e)))) := But.obj (Same.but s1)
      walk_at "go"
      rw [put_many_missed] at r2 b2 ⊢
      refine And.intro sx_here ?_
      have ho2 := r2.o
      have hl2 := r2.l
      have okn := ok.cnt v.m (v.n + 1)
      have n2 : ∀ b, upd H1 A.a (.ins C A.dx (shX k.mark v.p A.h v.m (v.n + 1) A.g v.e)) b = none → H b = none := fun b hb => by
        unfold upd at hb
        split at hb
        · cases hb
        · exact s1.free hb
      walk_at "go"
      generalize upd H1 A.a (.ins C A.dx (shX k.mark v.p A.h v.m (v.n + 1) A.g v.e)) = H2 at *
      have elen : (((List.map V.str v.xs).length : Nat) : Int) = v.xs.length := by rw [List.length_map]
      have eap : ∀ ys : List Str, ys.map V.str ++ [V.str x] = (ys ++ [x]).map V.str := fun ys => by rw [List.map_append]; rfl
      have hah := r2.ah
      refine ite2 (fun c2 => ?_) (fun c2 => ?_)
      · have c2 : ((v.xs.length : Nat) : Int) = v.p := by
          have := of_decide_eq_true c2
          rw [elen] at this
          exact V.int.inj this
        have hne : v.xs ≠ [] := fun e => by rw [e] at c2; simp at c2; have := ok.lo; omega
        have hne2 : ({ v with n := v.n + 1 } : Sv).xs ≠ [] := hne
        have gm := G.goe_mem _ okn hne
        have gx := G.goe_xs ({ v with n := v.n + 1 } : Sv)
        have okM := ok_mid G okn hx c c2
        walk_at "go"
        intro A3 H3 x3 b3 n3 r3
        obtain ⟨xa, xh, xg⟩ := id x3
        have ho3 := r3.o
        have hl3 := r3.l
        rw [gx] at hl3
        rw [← xa]
        have hah3 := r3.ah
        obtain ⟨j, j1, j2, j3⟩ := erase_first gm
        have hel : (v.xs.eraseIdx j).length ≤ 20 := Nat.le_trans (List.length_eraseIdx_le _ _) (by omega)
        have hl3 : H3 A3.h = some (.lst (v.xs.map V.str)) := hl3
        have e5 : (upd (upd H3 A3.h (.lst ((v.xs.eraseIdx j).map V.str))) A3.h (.lst ((v.xs.eraseIdx j).map V.str ++ [V.str x]))) = upd H3 A3.h (.lst ((v.xs.erase (k.goe { v with n := v.n + 1 }).1 ++ [x]).map V.str)) := by
          rw [upd_upd, j3, eap]
        have r5 := r3.setL (ys := v.xs.erase (k.goe { v with n := v.n + 1 }).1 ++ [x])
        have b5 : But k.mark A H (upd H3 A3.h (.lst ((v.xs.erase (k.goe { v with n := v.n + 1 }).1 ++ [x]).map V.str))) := by
          have z := But.lst (o := .lst ((v.xs.erase (k.goe { v with n := v.n + 1 }).1 ++ [x]).map V.str)) (b2.trans (Nxt.refl _ _) b3)
          rw [← xh] at z
          exact z
        rw [← e5] at r5 b5
        have memM : x ∈ ({ (k.goe { v with n := v.n + 1 }).2 with xs := v.xs.erase (k.goe { v with n := v.n + 1 }).1 ++ [x] } : Sv).xs := List.mem_append_right _ (List.mem_singleton.mpr rfl)
        walk_at "go"
        intro H6 b6 n6 r6
        walk_at "go"
        intro t nt
        have est : k.step v x = ((false, some (k.goe { v with n := v.n + 1 }).1), k.tch { (k.goe { v with n := v.n + 1 }).2 with xs := v.xs.erase (k.goe { v with n := v.n + 1 }).1 ++ [x] } x) := by unfold Kd.step; rw [if_neg c, if_pos c2]
        have xn : Nxt H A A3 := ⟨xa, xh, xg.elim .inl fun z => .inr (n2 _ z)⟩
        have b7 := b5.trans xn b6
        have n7 : ∀ b, H6 b = none → H b = none := fun b hb => by
          exact n2 b (n3 b (upd_non (upd_non (n6 b hb))))
        refine q A3 t _ xn (b7.ext (same_new nt)) (fun b hb => ?_) ?_ (n7 _ nt) ?_
        · unfold upd at hb
          split at hb
          · cases hb
          · exact n7 _ hb
        · rw [est]
          exact r6.same (same_new nt)
        · rw [est]
          exact upd_same
      · have c2 : ((v.xs.length : Nat) : Int) ≠ v.p := fun e => c2 (decide_eq_true (by rw [elen, e]))
        have r3 := r2.setL (ys := v.xs ++ [x])
        have okA := ok_app okn hx c c2
        have memA : x ∈ ({ v with n := v.n + 1, xs := v.xs ++ [x] } : Sv).xs := List.mem_append_right _ (List.mem_singleton.mpr rfl)
        rw [← eap] at r3
        have ho3 := r3.o
        walk_at "go"
        intro H3 b3 n3 r4
        walk_at "go"
        intro t nt
        have est : k.step v x = ((false, none), k.tch { v with n := v.n + 1, xs := v.xs ++ [x] } x) := by unfold Kd.step; rw [if_neg c, if_neg c2]
        have b4 := (But.lst b2).trans (Nxt.refl _ _) b3
        have n4 : ∀ b, H3 b = none → H b = none := fun b hb => by
          have := n3 b hb
          unfold upd at this
          split at this
          · cases this
          · exact n2 b this
        refine q A t _ (Nxt.refl _ _) (b4.ext (same_new nt)) (fun b hb => ?_) ?_ (n4 _ nt) ?_
        · unfold upd at hb
          split at hb
          · cases hb
          · exact n4 _ hb
        · rw [est]
          exact r4.same (same_new nt)
        · rw [est]
          exact upd_same
end
end Kf

namespace Kf
open PySem PySem.Spec PyProof.Rows L2
/-! ### the law of shelves within shelves -/
def sp_law (K : PySem.W.Frag) : Sp := fun vs H Q _ => ∃ (a : Addr) (ns : List Int), vs = [.ref a] ∧ SqL K H a (ns.map V.int) ∧ ns.length ≤ 63 ∧ ∀ H', Q (.bl true) H'
def manyI (ws : List Str) : List Int := (List.range 20).map fun (t : Nat) => ((deeps ws (1 + (t : Int)) : Nat) : Int)
theorem many_eq (ws : List Str) : manyV ws = (manyI ws).map V.int := by
  unfold manyV manyI
  rw [List.map_map]
  rfl
theorem many_down (ws : List Str) : (manyI ws).Pairwise (· ≥ ·) := by
  unfold manyI
  rw [List.pairwise_map]
  refine (List.pairwise_lt_range (n := 20)).imp fun {a b} h => ?_
  have := deeps_anti (p := 1 + (a : Int)) (q := 1 + (b : Int)) (by omega) ws
  omega
theorem down_one {l m : List Int} (p : l.Perm m) (hl : l.Pairwise (· ≥ ·)) (hm : m.Pairwise (· ≥ ·)) : l = m :=
  List.Perm.eq_of_pairwise (le := fun a b : Int => a ≥ b) (fun _ _ _ _ h1 h2 => by omega) hl hm p
theorem many_nine (ws : List Str) : cutV ((manyI ws).map V.int) none (some 9) = ((List.range 9).map fun (k : Nat) => ((deeps ws (1 + (k : Int)) : Nat) : Int)).map V.int := by
  unfold cutV
  rw [HT.sIx_none, show (some (9 : Int)) = some (((9 : Nat) : Int)) from rfl, sIxN, List.drop_zero, List.length_map]
  have hl : (manyI ws).length = 20 := by unfold manyI; rw [List.length_map, List.length_range]
  rw [hl, ← List.map_take]
  unfold manyI
  rw [← List.map_take]
  rfl
theorem made_new {H H7 : Hp} {x dx C : Addr} {A : Sa} (nx : H x = none) (ndx : H dx = none) (nh : (upd (upd H dx (.own x)) x (.ins C dx [])) A.h = none) (keep : ∀ b o, b ≠ x → (upd (upd H dx (.own x)) x (.ins C dx [])) b = some o → H7 b = some o) :
    Same H H7 ∧ H A.h = none := by
  refine ⟨fun b u h => keep b u (ne_of_none h nx) ?_, upd_non (upd_non nh)⟩
  rw [upd_ne (ne_of_none h nx), upd_ne (ne_of_none h ndx)]
  exact h
def TyC (K : PySem.W.Frag) (C : Addr) : Prop := ∀ (H : Hp) (a dx : Addr) (fs : List (Str × V)), H a = some (.ins C dx fs) → TyX K H (.ref a) (.ref C)
theorem optV_nn (o : Option Nat) : (!decide (optV o = V.non)) = o.isSome := by
  cases o with
  | none => rfl
  | some j => rfl
theorem after_nil (p : Int) : kCold.after p [] = Sv.new p := rfl
section
variable {P : Program} {w : World} {K : PySem.W.Frag} {mg : Str → Option Value} {base : Heap}
theorem law_ok {f : Addr} {fd : FuncData} {C : Addr} (F : Fun K "law" "law" s_law f fd) (B : BN mg) (T : ShC K C) (C__law_drawn : Cal P w K mg base "_law_drawn" 2 ["_law_script", "_law_most"] (sp_drawn K)) (C_depths : Cal P w K mg base "depths" 3 ["wishes"] (sp_depths K))
    (C_missed_by_places : Cal P w K mg base "missed_by_places" 4 ["wishes"] (sp_missed_by K)) (I_Cold : CalI P w K mg base "Cold" C 2 ["self", "places"] (sp_init C)) (M_wish : CalM P w K mg base C "wish" 4 ["self", "name"] (sp_wish kCold C))
    (M_things : CalM P w K mg base C "things" 1 ["self"] (sp_things false C K)) (M_missed : CalM P w K mg base C "missed" 1 ["self"] (sp_int false C Sv.n)) : FnOk P w K mg base CX0 5 f fd ["_law_script"] (sp_law K) := by
  obtain ⟨cl, nR, nH, nM, nN, _, _⟩ := T
  refine F.ok sc_law (fun vs H Q E h => ?_) (fun cdv A outer s H vs Q E hr h => ?_)
  · obtain ⟨a, ns, rfl, _⟩ := h
    rfl
  · obtain ⟨a, ns, rfl, ha, hl, q⟩ := h
    refine ⟨_, (pss_cons (ps_asg (pe_cal C__law_drawn (hr.mono (by decide)) rfl (pa_cons (pv 0) (pa_cons pe_int pa_nil))) (pg_tupK K 2 (pgs_cons (pg_name (i := 1) sc_law.nd rfl (by first | exact Or.inl rfl | exact Or.inr rfl)) (pgs_cons (pg_name (i := 2) sc_law.nd rfl (by first | exact Or.inl rfl | exact Or.inr rfl)) pgs_nil))))
  (pss_cons (ps_setLc (i := 3) (own := [("_law_places_here", 4)]) rfl sc_law.nd rfl rfl (sw_true rfl rfl rfl (by kernel_rfl)) (pi_range2 (by rfl) B.range (pa_cons pe_int (pa_cons pe_int pa_nil)))
  (blkOk_by (by kernel_rfl)) (fun _ _ _ _ _ => (pg_name (i := 4) sc_law.nd rfl (by first | exact Or.inl rfl | exact Or.inr rfl))) (fun _ _ _ _ _ => pts_nil) (fun _ _ _ _ _ => (pe_mk I_Cold (hr.mono (by decide)) rfl (pa_cons (pv 4) pa_nil))))
  (pss_cons (ps_set (i := 5) sc_law.nd rfl (by first | exact Or.inl rfl | exact Or.inr rfl) (pe_cal C_depths (hr.mono (by decide)) rfl (pa_cons (pv 2) pa_nil)))
  (pss_cons (ps_forD (pi_zipK K (by rfl) B.zip (pa_cons (pv 2) (pa_cons (pv 5) pa_nil))) (pg_tupK K 2 (pgs_cons (pg_name (i := 6) sc_law.nd rfl (by first | exact Or.inl rfl | exact Or.inr rfl)) (pgs_cons (pg_name (i := 7) sc_law.nd rfl (by first | exact Or.inl rfl | exact Or.inr rfl)) pgs_nil)))
  (pss_cons (ps_forD (pi_enumK K (by rfl) B.enumerate (pa_cons (pv 3) pa_nil)) (pg_tupK K 2 (pgs_cons (pg_name (i := 4) sc_law.nd rfl (by first | exact Or.inl rfl | exact Or.inr rfl)) (pgs_cons (pg_name (i := 8) sc_law.nd rfl (by first | exact Or.inl rfl | exact Or.inr rfl)) pgs_nil)))
  (pss_one (ps_if (pt_cmpR op_ne (pe_ix (ix_tupK K) (pe_mth (pv 8) cl M_wish (hr.mono (by decide)) (pa_cons (pv 6) pa_nil)) pe_int (fun _ _ => rfl)) (pe_j (pe_and (pe_cmpR op_notN (pv 7) pe_non (nomark _)) (pe_one (pe_cmpR op_le (pv 7) (pe_op op_add (pv 4) pe_int) (nomark _))))) (nomark _))
  (pss_one (ps_ret pe_bl))
  pss_nil)))
  (pss_one (ps_forD (pi_zipK K (by rfl) B.zip (pa_cons (pv 3) (pa_cons (pe_slice (sl_listK K) (pv 3) (po_some pe_int) po_none) pa_nil))) (pg_tupK K 2 (pgs_cons (pg_name (i := 8) sc_law.nd rfl (by first | exact Or.inl rfl | exact Or.inr rfl)) (pgs_cons (pg_name (i := 9) sc_law.nd rfl (by first | exact Or.inl rfl | exact Or.inr rfl)) pgs_nil)))
  (pss_cons (ps_if (pt_cmpR (op_neDK K hr) (pe_lc (own := [("_law_one", 10)]) rfl sc_law.nd (pi_listK K (pe_mth0 (pv 8) cl M_things (hr.mono (by decide))))
  (blkOk_by (by kernel_rfl)) (fun _ _ _ _ _ => (pg_name (i := 10) sc_law.nd rfl (by first | exact Or.inl rfl | exact Or.inr rfl))) (fun _ _ _ _ _ => (pts_one (pt_cmpR (op_ninK K) (pv 10) (pe_mth0 (pv 9) cl M_things (hr.mono (by decide))) (by rfl)))) (fun _ _ _ _ _ => (pv 10))) (pe_lst pa_nil) (nomark _))
  (pss_one (ps_ret pe_bl))
  pss_nil)
  (pss_one (ps_if (pt_not (pt_chain op_le op_le (pe_callB (call_lenK K) (by rfl) B.len bt_len (pa_cons (pe_mth0 (pv 8) cl M_things (hr.mono (by decide))) pa_nil)) (pe_callB (call_lenK K) (by rfl) B.len bt_len (pa_cons (pe_mth0 (pv 9) cl M_things (hr.mono (by decide))) pa_nil)) (pe_op op_add (pe_callB (call_lenK K) (by rfl) B.len bt_len (pa_cons (pe_mth0 (pv 8) cl M_things (hr.mono (by decide))) pa_nil)) pe_int)))
  (pss_one (ps_ret pe_bl))
  pss_nil)))))))
  (pss_cons (ps_set (i := 11) sc_law.nd rfl (by first | exact Or.inl rfl | exact Or.inr rfl) (pe_cal C_missed_by_places (hr.mono (by decide)) rfl (pa_cons (pv 2) pa_nil)))
  (pss_cons (ps_if (pt_cmpR (op_neDK K hr) (pe_lc (own := [("_law_shelf", 8)]) rfl sc_law.nd (pi_listK K (pv 3))
  (blkOk_by (by kernel_rfl)) (fun _ _ _ _ _ => (pg_name (i := 8) sc_law.nd rfl (by first | exact Or.inl rfl | exact Or.inr rfl))) (fun _ _ _ _ _ => pts_nil) (fun _ _ _ _ _ => (pe_mth0 (pv 8) cl M_missed (hr.mono (by decide))))) (pe_slice (sl_listK K) (pv 11) po_none (po_some pe_int)) (nomark _))
  (pss_one (ps_ret pe_bl))
  pss_nil)
  (pss_one (ps_ret (pe_j (pe_and (pe_cmpR op_eq (pe_callB (call_lenK K) (by rfl) B.len bt_len (pa_cons (pv 11) pa_nil)) pe_int (nomark _)) (pe_one (pe_cmpR (op_eqDK K hr) (pv 11) (pe_callBK (cr_sortedRevK K) (by rfl) B.sorted bt_sorted (pa_cons (pv 11) pa_nil) (pk_cons pe_bl pk_nil)) (nomark _))))))))))))), ?_⟩
    walk_at "go"
    intro t pn pw H1 nms ws s1 ⟨npn, npw, npp⟩ ht hpn hpw dr
    have hwl : ws.length ≤ 63 := by rw [dr.len]; exact hl
    have hok := dr.ok
    have hgrp : ws.length ≤ 300 ∧ ∀ x ∈ ws, IsNm x := ⟨by omega, hok⟩
    walk_at "go"
    intro D hD
    refine lc_it (wk_rng 1 9) (fun i H => ∃ as hs, H D = some (.lst ((List.range i).map fun k => V.ref (as k))) ∧ Shs C H1 H i as hs (fun k => Sv.new (1 + (k : Int))) ∧ ∀ k, k < i → as k ≠ D ∧ hs k ≠ D) ?_ ?_ ?_ ?_
    · exact ⟨fun _ => D, fun _ => D, upd_same, ⟨fun k hk => absurd hk (Nat.not_lt_zero k), fun k hk => absurd hk (Nat.not_lt_zero k), fun k l hk => absurd hk (Nat.not_lt_zero k), same_new hD⟩, fun k hk => absurd hk (Nat.not_lt_zero k)⟩
    · exact fun _ _ _ _ => trivial
    · rintro i x H5 H6 hi ⟨as, hs, h5, sh, nD⟩ y
      obtain ⟨rfl, b, hb, rfl⟩ := y
      have hi9 : i < 9 := by rwa [List.length_range] at hi
      rw [List.getElem?_range hi9] at hb
      cases hb
      walk_at "go"
      intro x dx nx ndx nex
      refine ⟨x, dx, 1 + (i : Int), rfl, upd_same, by omega, by omega, fun H7 A eA nh keep r => ?_⟩
      obtain ⟨s7, nh6⟩ := made_new nx ndx nh keep
      have nxD : A.a ≠ D := by rw [eA]; exact (ne_of_none h5 nx).symm
      have nhD : A.h ≠ D := (ne_of_none h5 nh6).symm
      have hl7 : ((List.range i).map fun k => V.ref (as k)).length ≤ 9 := by rw [List.length_map, List.length_range]; omega
      have nD' : ∀ k, k < i + 1 → (fun j => if j = i then A.a else as j) k ≠ D ∧ (fun j => if j = i then A.h else hs j) k ≠ D := fun k hk => by
        by_cases e : k = i
        · simp only [if_pos e]
          exact ⟨nxD, nhD⟩
        · simp only [if_neg e]
          exact nD k (by omega)
      refine ⟨rfl, _, s7 _ _ h5, size_of_lt (by omega), _, _, ?_, (sh.add s7 (A := A) r (by rw [eA]; exact nx) nh6).far hD nD', nD'⟩
      rw [upd_same, List.range_succ, List.map_append]
      congr 3
      · refine List.map_congr_left fun k hk => ?_
        have := List.mem_range.mp hk
        simp only [if_neg (show ¬ k = i by omega)]
      · simp only [List.map_cons, List.map_nil, if_pos trivial, eA]
    · rintro H5 ⟨as, hs, h5, sh, nD⟩
      rw [List.length_range] at h5 sh nD
      have hw5 := sh.sb _ _ hpw
      walk_at "go"
      intro pk H6 s6 npk hpk
      have nas : ∀ k, k < 9 → as k ≠ pk ∧ hs k ≠ pk := fun k hk => by
        obtain ⟨A, ea, eh, r⟩ := sh.rep k hk
        rw [← ea, ← eh]
        exact ⟨ne_of_none r.o npk, ne_of_none r.l npk⟩
      have nDk : D ≠ pk := ne_of_none h5 npk
      have nwk : pw ≠ pk := ne_of_none hw5 npk
      have nwD : pw ≠ D := ne_of_none hpw hD
      have hD6 := s6 _ _ h5
      have sh6 := sh.same s6
      have hbs : Same (upd (upd H1 D (.lst ((List.range 9).map fun k => V.ref (as k)))) pk (.lst (depsV ws))) H6 := fun b u h => by
        unfold upd at h
        split at h
        · rename_i e
          rw [e, hpk, h]
        · split at h
          · rename_i e
            rw [e, hD6, h]
          · exact sh6.sb b u h
      have sh6 := sh6.rebase hbs (fun k hk => by
        have h1 := nas k hk
        have h2 := nD k hk
        have h3 := sh6.na k hk
        exact ⟨by rw [upd_ne h1.1, upd_ne h2.1]; exact h3.1, by rw [upd_ne h1.2, upd_ne h2.2]; exact h3.2⟩)
      have bw : (upd (upd H1 D (.lst ((List.range 9).map fun k => V.ref (as k)))) pk (.lst (depsV ws))) pw = some (.lst (ws.map V.str)) := by rw [upd_ne nwk, upd_ne nwD]; exact hpw
      have bD : (upd (upd H1 D (.lst ((List.range 9).map fun k => V.ref (as k)))) pk (.lst (depsV ws))) D = some (.lst ((List.range 9).map fun k => V.ref (as k))) := by rw [upd_ne nDk]; exact upd_same
      have bk : (upd (upd H1 D (.lst ((List.range 9).map fun k => V.ref (as k)))) pk (.lst (depsV ws))) pk = some (.lst (depsV ws)) := upd_same
      generalize (upd (upd H1 D (.lst ((List.range 9).map fun k => V.ref (as k)))) pk (.lst (depsV ws))) = Hb at *
      clear sh s6 h5 hD6 nas nDk nwk nwD nD
      have hw6 := sh6.sb _ _ bw
      walk_at "go"
      refine for_Z (wk_zip V.str ws (fun i => optV (depth ws i)) (List.range ws.length) (n := ws.length) (by rw [List.length_range]; omega)) (fun i σ H' => ∃ v4 v6 v7 v8 v9, σ = [some (.ref a), some (.ref pn), some (.ref pw), some (.ref D), v4, some (.ref pk), v6, v7, v8, v9, none, none] ∧
        Shs C Hb H' 9 as hs (fun k => kCold.after (1 + (k : Int)) (ws.take i))) ?_ ?_ ?_ ?_
      · exact ⟨none, none, none, none, none, rfl, sh6⟩
      · rintro i σ H' hi ⟨_, _, _, _, _, _, sh⟩
        exact ⟨SqL.of (sh.sb _ _ bw), SqL.of (sh.sb _ _ bk)⟩
      · rintro i x j T σ H' D' L hi hx hj ⟨v4, v6, v7, v8, v9, rfl, sh⟩ nT
        obtain ⟨hi2, e⟩ := List.getElem?_eq_some_iff.mp hj
        rw [List.getElem_range] at e
        subst e
        have hxn := hok x (List.mem_of_getElem? hx)
        have hw := hok
        have sh := sh.same (same_new (o := .tup [V.str x, optV (depth ws i)]) nT)
        have hT : upd H' T (.tup [V.str x, optV (depth ws i)]) T = some (.tup [V.str x, optV (depth ws i)]) := upd_same
        generalize upd H' T (.tup [V.str x, optV (depth ws i)]) = G1 at *
        have hDg := sh.sb _ _ bD
        walk_at "go"
        refine for_E (f := fun k => V.ref (as k)) (List.range 9) (wk_enum _ _) (fun j σ H2 => ∃ v4 v8, σ = [some (.ref a), some (.ref pn), some (.ref pw), some (.ref D), v4, some (.ref pk), some (.str x), some (optV (depth ws i)), v8, v9, none, none] ∧
          Shs C Hb H2 9 as hs (fun k => kCold.after (1 + (k : Int)) (ws.take (if k < j then i + 1 else i)))) ?_ ?_ ?_ ?_
        · exact ⟨_, _, rfl, sh.congr fun k _ => by rw [if_neg (Nat.not_lt_zero k)]⟩
        · rintro j σ H2 hj ⟨_, _, _, sh⟩
          exact SqL.of (sh.sb _ _ bD)
        · rintro j j2 T σ H2 D2 L2 hj2 ⟨v4, v8, rfl, sh⟩ nT
          obtain ⟨hj9, e⟩ := List.getElem?_eq_some_iff.mp hj2
          rw [List.getElem_range] at e
          subst e
          rw [List.length_range] at hj9
          obtain ⟨A, ea, eh, r⟩ := sh.rep j hj9
          rw [if_neg (Nat.lt_irrefl j)] at r
          have eaj : as j = A.a := ea.symm
          have sh := sh.same (same_new (o := .tup [V.int (j : Nat), V.ref (as j)]) nT)
          have r := r.same (same_new (o := .tup [V.int (j : Nat), V.ref (as j)]) nT)
          have hT : upd H2 T (.tup [V.int (j : Nat), V.ref (as j)]) T = some (.tup [V.int (j : Nat), V.ref A.a]) := by rw [eaj]; exact upd_same
          have ok := after_ok good_cold (p := 1 + (j : Int)) (by omega) (by omega) (ws.take i) (fun y hy => hok y (List.mem_of_mem_take hy))
          have hmt := cold_meets (p := 1 + (j : Int)) (by omega) (by omega) hok hx
          rw [tell_of _ _ hx] at hmt
          have hst := after_take kCold (1 + (j : Int)) hx
          generalize upd H2 T (.tup [V.int (j : Nat), V.ref (as j)]) = G2 at *
          have hro := r.o
          walk_at "go"
          intro A2 t2 G3 x2 b2 n2 r2 nt2 ht2
          have g0 : atI [V.bl (kCold.step (kCold.after (1 + (j : Int)) (ws.take i)) x).1.1, optS (kCold.step (kCold.after (1 + (j : Int)) (ws.take i)) x).1.2] 0 = some (.bl (kCold.step (kCold.after (1 + (j : Int)) (ws.take i)) x).1.1) := atI_nat (j := 0) rfl
          rw [hmt] at g0 ht2
          rw [← hst] at r2
          walk_at "go"
          have sh := (sh.turn hj9 ea eh b2 ⟨x2.a, x2.h⟩ r2).congr (vs' := fun k => kCold.after (1 + (k : Int)) (ws.take (if k < j + 1 then i + 1 else i))) (fun k hk => by
            by_cases e : k = j
            · subst e
              rw [if_pos rfl, if_pos (by omega)]
            · rw [if_neg e]
              by_cases e2 : k < j
              · rw [if_pos e2, if_pos (by omega)]
              · rw [if_neg e2, if_neg (by omega)])
          refine join_by (.bl (meets (1 + (j : Int)) (depth ws i))) (fun Q' hq => ?_) (fun G4 s4 => ?_)
          · walk_at "go"
            rw [optV_nn]
            cases hd : depth ws i with
            | none =>
              rw [hd] at hq
              walk_at "go"
              exact hq _ (Same.refl _)
            | some d =>
              rw [hd] at hq
              walk_at "go"
              rw [Int.add_comm (j : Int) 1]
              exact hq _ (Same.refl _)
          · walk_at "go"
            rw [decide_eq_true rfl]
            walk_at "go"
            exact L2.nx _ _ ⟨_, _, rfl, sh.same s4⟩
        · rintro σ H2 ⟨v4, v8, rfl, sh⟩
          rw [List.length_range] at sh
          have sh := sh.congr (vs' := fun k => kCold.after (1 + (k : Int)) (ws.take (i + 1))) (fun k hk => by rw [if_pos hk])
          have hDg := sh.sb _ _ bD
          have hcut : cutV ((List.range 9).map fun k => V.ref (as k)) (some 1) none = ((List.range 9).drop 1).map fun k => V.ref (as k) := rfl
          walk_at "go"
          intro p2 np2
          rw [hcut]
          have sh := sh.same (same_new (o := .lst (((List.range 9).drop 1).map fun k => V.ref (as k))) np2)
          have hp2 : upd H2 p2 (.lst (((List.range 9).drop 1).map fun k => V.ref (as k))) p2 = some (.lst (((List.range 9).drop 1).map fun k => V.ref (as k))) := upd_same
          generalize upd H2 p2 (.lst (((List.range 9).drop 1).map fun k => V.ref (as k))) = G3 at *
          have hDg := sh.sb _ _ bD
          walk_at "go"
          refine for_Z (wk_zip (fun k => V.ref (as k)) (List.range 9) (fun k => V.ref (as k)) ((List.range 9).drop 1) (n := 8) rfl) (fun j σ H4 => ∃ v8 v9, σ = [some (.ref a), some (.ref pn), some (.ref pw), some (.ref D), v4, some (.ref pk), some (.str x), some (optV (depth ws i)), v8, v9, none, none] ∧ Same G3 H4) ?_ ?_ ?_ ?_
          · exact ⟨_, _, rfl, Same.refl _⟩
          · rintro j σ H4 hj ⟨_, _, _, s4⟩
            exact ⟨SqL.of (s4 _ _ hDg), SqL.of (s4 _ _ hp2)⟩
          · rintro j k l T σ H4 D3 L3 hj8 hk hl ⟨v8, v9, rfl, s4⟩ nT
            rw [List.getElem?_range (by omega)] at hk
            rw [List.getElem?_drop, List.getElem?_range (by omega)] at hl
            obtain rfl := Option.some.inj hk
            obtain rfl := Option.some.inj hl
            obtain ⟨A, ea, eh, rA⟩ := (sh.same s4).rep j (by omega)
            obtain ⟨A2, ea2, eh2, rB⟩ := (sh.same s4).rep (1 + j) (by omega)
            have e1 : (1 + (j : Int)) + 1 = 1 + ((1 + j : Nat) : Int) := by omega
            have hn' : ∀ y ∈ ws.take (i + 1), IsNm y := fun y hy => hok y (List.mem_of_mem_take hy)
            obtain ⟨hsub, hle1, hle2⟩ := cold_in (p := 1 + (j : Int)) (by omega) (by omega) (ws.take (i + 1)) hn'
            rw [e1] at hsub hle1 hle2
            have okA := after_ok good_cold (p := 1 + (j : Int)) (by omega) (by omega) (ws.take (i + 1)) hn'
            have okB := after_ok good_cold (p := 1 + ((1 + j : Nat) : Int)) (by omega) (by omega) (ws.take (i + 1)) hn'
            have lnA := okA.len
            have hiA := okA.hi
            have lnB := okB.len
            have hiB := okB.hi
            rw [show as j = A.a from ea.symm, show as (1 + j) = A2.a from ea2.symm]
            have hT : upd H4 T (.tup [V.ref A.a, V.ref A2.a]) T = some (.tup [V.ref A.a, V.ref A2.a]) := upd_same
            have s5 := s4.trans (same_new (o := .tup [V.ref A.a, V.ref A2.a]) nT)
            have rA := rA.same (same_new (o := .tup [V.ref A.a, V.ref A2.a]) nT)
            have rB := rB.same (same_new (o := .tup [V.ref A.a, V.ref A2.a]) nT)
            generalize upd H4 T (.tup [V.ref A.a, V.ref A2.a]) = G5 at *
            generalize kCold.after (1 + (j : Int)) (ws.take (i + 1)) = vA at *
            generalize kCold.after (1 + ((1 + j : Nat) : Int)) (ws.take (i + 1)) = vB at *
            have roA := rA.o
            walk_at "go"
            intro ys t5 G6 s6 nt5 ht5 py sy
            walk_at "go"
            have hyl : ys.length ≤ 20 := by rw [py.length_eq]; omega
            refine lc_valsL ys (wk_list V.str ys) (fun _ => false) V.str (size_of_lt (by omega)) (fun H s => s.seq (SqL.of ht5)) ?_ ?_
            · intro m y G7 R1 R0 hm s7 k1 k0
              have rB7 := rB.same (s6.trans s7)
              have roB := rB7.o
              walk_at "go"
              intro zs t8 G8 s8 nt8 ht8 pz sz
              have hzm : y ∈ zs := pz.mem_iff.mpr (hsub y (py.mem_iff.mp (List.mem_of_getElem? hm)))
              have fl3 := fl_strs zs
              have fx3 : flatV (.str y) = true := rfl
              have ein3 : (if true = true then !inV (V.str y) (List.map V.str zs) else inV (V.str y) (List.map V.str zs)) = false := by
                rw [if_pos rfl, in_strs, decide_eq_true hzm]
                rfl
              walk_at "go"
              exact k0 rfl _ s8
            · intro D4 G7 hD4 s7 h4
              have ef : (ys.filter fun _ => false).map V.str = ([] : List V) := by
                rw [List.filter_eq_nil_iff.mpr (fun _ _ h => by cases h)]
                rfl
              rw [ef] at h4
              walk_at "go"
              intro e9 ne9
              have h4 := upd_old (o := .lst []) ne9 h4
              have he9 : upd G7 e9 (.lst []) e9 = some (.lst []) := upd_same
              have s9 := (s6.trans s7).trans (same_new (o := .lst []) ne9)
              generalize upd G7 e9 (.lst []) = G9 at *
              have dN : DpAll K G9 ([] : List V) [] := .nil
              have rA9 := rA.same s9
              have roA9 := rA9.o
              walk_at "go"
              intro ya ta Ga sa nta hta pa sya
              have rBa := (rB.same s9).same sa
              have roBa := rBa.o
              walk_at "go"
              intro yb tb Gb sb ntb htb pb syb
              have rAb := ((rA.same s9).same sa).same sb
              have roAb := rAb.o
              have hla : ((ya.map V.str).length : Int) ≤ ((yb.map V.str).length : Int) := by
                rw [List.length_map, List.length_map, pa.length_eq, pb.length_eq]
                omega
              walk_at "go"
              intro yc tc Gc sc ntc htc pc syc
              have hlb : ((yb.map V.str).length : Int) ≤ ((yc.map V.str).length : Int) + 1 := by
                rw [List.length_map, List.length_map, pb.length_eq, pc.length_eq]
                omega
              walk_at "go"
              exact L3.nx _ _ ⟨_, _, rfl, ((s5.trans s9).trans sa).trans (sb.trans sc)⟩
          · rintro σ H4 ⟨v8, v9, rfl, s4⟩
            exact L.nx _ _ ⟨_, _, _, _, _, rfl, sh.same s4⟩
      · rintro σ H' ⟨v4, v6, v7, v8, v9, rfl, sh⟩
        rw [List.take_length] at sh
        have hw7 := sh.sb _ _ bw
        have hD7 := sh.sb _ _ bD
        walk_at "go"
        intro pm H7 s7 npm hpm
        rw [many_eq] at hpm
        have sh7 := sh.same s7
        have hD8 := sh7.sb _ _ bD
        walk_at "go"
        refine lc_valsL (f := fun k => V.ref (as k)) (List.range 9) (wk_list _ _) (fun _ => true) (fun (k : Nat) => .int ((deeps ws (1 + (k : Int)) : Nat) : Int)) (by rw [List.length_range]; exact size_of_lt (by omega)) (fun H s => s.seq (SqL.of hD8)) ?_ ?_
        · intro i k H8 R1 R0 hk s8 k1 k0
          have hk9 : k < 9 := List.mem_range.mp (List.mem_of_getElem? hk)
          obtain ⟨A, ea, eh, r⟩ := sh7.rep k hk9
          have r := r.same s8
          have hro := r.o
          rw [show as k = A.a from ea.symm]
          walk_at "go"
          intro H9 s9
          rw [cold_deeps (by omega) (by omega) hok]
          exact k1 rfl _ s9
        · intro D2 H8 hD2 s8 h8
          rw [filt_all, int_map] at h8
          have hm8 := s8 _ _ hpm
          walk_at "go"
          intro p9 np9
          rw [many_nine]
          have h8 := upd_old (o := .lst (((List.range 9).map fun (k : Nat) => ((deeps ws (1 + (k : Int)) : Nat) : Int)).map V.int)) np9 h8
          have hm9 := upd_old (o := .lst (((List.range 9).map fun (k : Nat) => ((deeps ws (1 + (k : Int)) : Nat) : Int)).map V.int)) np9 hm8
          have h9 : upd H8 p9 (.lst (((List.range 9).map fun (k : Nat) => ((deeps ws (1 + (k : Int)) : Nat) : Int)).map V.int)) p9 = some (.lst (((List.range 9).map fun (k : Nat) => ((deeps ws (1 + (k : Int)) : Nat) : Int)).map V.int)) := upd_same
          have er := (Sh.ints (ns := ((List.range 9).map fun (k : Nat) => ((deeps ws (1 + (k : Int)) : Nat) : Int)))).refl
          generalize upd H8 p9 (.lst (((List.range 9).map fun (k : Nat) => ((deeps ws (1 + (k : Int)) : Nat) : Int)).map V.int)) = H9 at *
          walk_at "go"
          have hml : (manyI ws).length = 20 := by unfold manyI; rw [List.length_map, List.length_range]
          refine join_by (.bl true) (fun Q' hq => ?_) (fun H10 s10 => ?_)
          · have er2 := (Sh.ints (ns := manyI ws)).refl
            walk_at "go"
            intro ns' p10 hperm hord np10
            have hord : ns'.Pairwise (· ≥ ·) := hord
            have e10 : ns' = manyI ws := down_one hperm hord (many_down ws)
            subst e10
            have hm10 := upd_old (o := .lst ((manyI ws).map V.int)) np10 hm9
            have h10 : upd H9 p10 (.lst ((manyI ws).map V.int)) p10 = some (.lst ((manyI ws).map V.int)) := upd_same
            walk_at "go"
            rw [er2]
            exact hq _ (same_new np10)
          · exact q _
theorem law_all {f C : Addr} {fd : FuncData} (F : Fun K "law" "law" s_law f fd) (B : BN mg) (g_LETTERS : GStr mg "LETTERS" Lett) (g_MOST_LETTERS : GInt mg "MOST_LETTERS" 8) (g_MOST_WISHES : GInt mg "MOST_WISHES" 300) (g_MOST_PLACES : GInt mg "MOST_PLACES" 20)
    (F_is_name : FunG K mg "is_name" s_is_name) (F_need_places : FunG K mg "need_places" s_need_places) (F_need_wishes : FunG K mg "need_wishes" s_need_wishes) (F_last_wishes : FunG K mg "last_wishes" s_last_wishes) (F_depths : FunG K mg "depths" s_depths) (F_missed_by_places : FunG K mg "missed_by_places" s_missed_by_places)
    (F__law_mixed : FunG K mg "_law_mixed" s__law_mixed) (F__law_names : FunG K mg "_law_names" s__law_names) (F__law_drawn : FunG K mg "_law_drawn" s__law_drawn)
    (T : ShC K C) (FI : FunI K mg "Cold" C "Shelf.__init__" s_Shelf___init__) (M_goer : FunM K C "goer" "Shelf.goer" s_Shelf_goer) (M_touch : FunM K C "touch" "Cold.touch" s_Cold_touch) (M_wish : FunM K C "wish" "Shelf.wish" s_Shelf_wish)
    (M_things : FunM K C "things" "Shelf.things" s_Shelf_things) (M_missed : FunM K C "missed" "Shelf.missed" s_Shelf_missed) :
    FnOk P w K mg base CX0 5 f fd ["_law_script"] (sp_law K) := by
  have C_is_name := cal_is_name (P := P) (w := w) (base := base) F_is_name B g_LETTERS g_MOST_LETTERS
  have C_need_places := cal_need_places (P := P) (w := w) (base := base) F_need_places B g_MOST_PLACES
  have C_need_wishes := cal_need_wishes F_need_wishes B g_MOST_WISHES C_is_name
  have C_last_wishes := cal_last_wishes (P := P) (w := w) (base := base) F_last_wishes B
  have C_depths := cal_depths F_depths B C_need_wishes C_last_wishes
  have C_missed := cal_missed_by_places F_missed_by_places B g_MOST_PLACES C_depths
  have C__law_mixed := cal__law_mixed (P := P) (w := w) (base := base) F__law_mixed
  have C__law_names := cal__law_names (P := P) (w := w) (base := base) F__law_names B
  have C__law_drawn := cal__law_drawn F__law_drawn B C__law_mixed C__law_names
  have I := cal_init FI T C_need_places
  have K_goer := (cal_goer (P := P) (w := w) (mg := mg) (base := base) M_goer T (k := kCold) rfl (fun _ => rfl)).up (k := 3) (by decide)
  have K_touch := cal_touchC (P := P) (w := w) (mg := mg) (base := base) M_touch T (k := kCold) rfl (fun _ _ => rfl)
  have K_wish := cal_wish good_cold M_wish T B C_is_name K_touch K_goer
  have K_things := cal_things (P := P) (w := w) (base := base) (mk := false) M_things T B
  have K_missed := cal_missed (P := P) (w := w) (mg := mg) (base := base) (mk := false) M_missed T
  exact law_ok F B T C__law_drawn C_depths C_missed I K_wish K_things K_missed
end
end Kf

namespace Kf
open PySem PySem.Spec PyProof.Rows L2
theorem all_mk {l : PySem.W.OpenLaw} {w : World} {K : PySem.W.Frag} {h : Heap} {mg : Str → Option Value} {fa : Addr} (X : K.In h) (G : h.Ns mainGlobals mg) (hfa : mg "law" = some (.ref fa))
    {f0 : Addr} {od0 an0 : Option Addr} {sl0 : Array (Option Value)} {oc0 kV0 dc0 pm0 cd0 ct0 : Value}
    {f1 : Addr} {od1 an1 : Option Addr} {sl1 : Array (Option Value)} {oc1 kV1 dc1 pm1 cd1 ct1 : Value}
    {f2 : Addr} {od2 an2 : Option Addr} {sl2 : Array (Option Value)} {oc2 kV2 dc2 pm2 cd2 ct2 : Value}
    {f3 : Addr} {od3 an3 : Option Addr} {sl3 : Array (Option Value)} {oc3 kV3 dc3 pm3 cd3 ct3 : Value}
    {f4 : Addr} {od4 an4 : Option Addr} {sl4 : Array (Option Value)} {oc4 kV4 dc4 pm4 cd4 ct4 : Value}
    {f5 : Addr} {od5 an5 : Option Addr} {sl5 : Array (Option Value)} {oc5 kV5 dc5 pm5 cd5 ct5 : Value}
    {f6 : Addr} {od6 an6 : Option Addr} {sl6 : Array (Option Value)} {oc6 kV6 dc6 pm6 cd6 ct6 : Value}
    {f7 : Addr} {od7 an7 : Option Addr} {sl7 : Array (Option Value)} {oc7 kV7 dc7 pm7 cd7 ct7 : Value}
    {f8 : Addr} {od8 an8 : Option Addr} {sl8 : Array (Option Value)} {oc8 kV8 dc8 pm8 cd8 ct8 : Value}
    {f9 : Addr} {od9 an9 : Option Addr} {sl9 : Array (Option Value)} {oc9 kV9 dc9 pm9 cd9 ct9 : Value}
    {C_Cold : Addr}
    {f_Shelf___init__ : Addr} {od_Shelf___init__ an_Shelf___init__ : Option Addr} {sl_Shelf___init__ : Array (Option Value)} {oc_Shelf___init__ kV_Shelf___init__ dc_Shelf___init__ pm_Shelf___init__ cd_Shelf___init__ ct_Shelf___init__ : Value}
    {f_Shelf_goer : Addr} {od_Shelf_goer an_Shelf_goer : Option Addr} {sl_Shelf_goer : Array (Option Value)} {oc_Shelf_goer kV_Shelf_goer dc_Shelf_goer pm_Shelf_goer cd_Shelf_goer ct_Shelf_goer : Value}
    {f_Cold_touch : Addr} {od_Cold_touch an_Cold_touch : Option Addr} {sl_Cold_touch : Array (Option Value)} {oc_Cold_touch kV_Cold_touch dc_Cold_touch pm_Cold_touch cd_Cold_touch ct_Cold_touch : Value}
    {f_Shelf_wish : Addr} {od_Shelf_wish an_Shelf_wish : Option Addr} {sl_Shelf_wish : Array (Option Value)} {oc_Shelf_wish kV_Shelf_wish dc_Shelf_wish pm_Shelf_wish cd_Shelf_wish ct_Shelf_wish : Value}
    {f_Shelf_things : Addr} {od_Shelf_things an_Shelf_things : Option Addr} {sl_Shelf_things : Array (Option Value)} {oc_Shelf_things kV_Shelf_things dc_Shelf_things pm_Shelf_things cd_Shelf_things ct_Shelf_things : Value}
    {f_Shelf_missed : Addr} {od_Shelf_missed an_Shelf_missed : Option Addr} {sl_Shelf_missed : Array (Option Value)} {oc_Shelf_missed kV_Shelf_missed dc_Shelf_missed pm_Shelf_missed cd_Shelf_missed ct_Shelf_missed : Value}
    {t_LETTERS : Tok}
    {t_MOST_LETTERS : Tok}
    {t_MOST_WISHES : Tok}
    {t_MOST_PLACES : Tok}
    (a0 : PySem.W.nsIn K mainGlobals "is_name" = some (some (.ref f0))) (l0 : K.lookup f0 = some ⟨oc0, od0, .func (PySem.W.fnOf "is_name" "is_name" (defArgs s_is_name) (defBody s_is_name) (defScope s_is_name) .none kV0 dc0 pm0 an0 cd0 ct0), sl0⟩) (c0 : PySem.W.codeIn K cd0 "is_name" = true) (k0 : PySem.W.keepIn K (.ref f0) = true)
    (a1 : PySem.W.nsIn K mainGlobals "need_places" = some (some (.ref f1))) (l1 : K.lookup f1 = some ⟨oc1, od1, .func (PySem.W.fnOf "need_places" "need_places" (defArgs s_need_places) (defBody s_need_places) (defScope s_need_places) .none kV1 dc1 pm1 an1 cd1 ct1), sl1⟩) (c1 : PySem.W.codeIn K cd1 "need_places" = true) (k1 : PySem.W.keepIn K (.ref f1) = true)
    (a2 : PySem.W.nsIn K mainGlobals "need_wishes" = some (some (.ref f2))) (l2 : K.lookup f2 = some ⟨oc2, od2, .func (PySem.W.fnOf "need_wishes" "need_wishes" (defArgs s_need_wishes) (defBody s_need_wishes) (defScope s_need_wishes) .none kV2 dc2 pm2 an2 cd2 ct2), sl2⟩) (c2 : PySem.W.codeIn K cd2 "need_wishes" = true) (k2 : PySem.W.keepIn K (.ref f2) = true)
    (a3 : PySem.W.nsIn K mainGlobals "last_wishes" = some (some (.ref f3))) (l3 : K.lookup f3 = some ⟨oc3, od3, .func (PySem.W.fnOf "last_wishes" "last_wishes" (defArgs s_last_wishes) (defBody s_last_wishes) (defScope s_last_wishes) .none kV3 dc3 pm3 an3 cd3 ct3), sl3⟩) (c3 : PySem.W.codeIn K cd3 "last_wishes" = true) (k3 : PySem.W.keepIn K (.ref f3) = true)
    (a4 : PySem.W.nsIn K mainGlobals "depths" = some (some (.ref f4))) (l4 : K.lookup f4 = some ⟨oc4, od4, .func (PySem.W.fnOf "depths" "depths" (defArgs s_depths) (defBody s_depths) (defScope s_depths) .none kV4 dc4 pm4 an4 cd4 ct4), sl4⟩) (c4 : PySem.W.codeIn K cd4 "depths" = true) (k4 : PySem.W.keepIn K (.ref f4) = true)
    (a5 : PySem.W.nsIn K mainGlobals "missed_by_places" = some (some (.ref f5))) (l5 : K.lookup f5 = some ⟨oc5, od5, .func (PySem.W.fnOf "missed_by_places" "missed_by_places" (defArgs s_missed_by_places) (defBody s_missed_by_places) (defScope s_missed_by_places) .none kV5 dc5 pm5 an5 cd5 ct5), sl5⟩) (c5 : PySem.W.codeIn K cd5 "missed_by_places" = true) (k5 : PySem.W.keepIn K (.ref f5) = true)
    (a6 : PySem.W.nsIn K mainGlobals "_law_mixed" = some (some (.ref f6))) (l6 : K.lookup f6 = some ⟨oc6, od6, .func (PySem.W.fnOf "_law_mixed" "_law_mixed" (defArgs s__law_mixed) (defBody s__law_mixed) (defScope s__law_mixed) .none kV6 dc6 pm6 an6 cd6 ct6), sl6⟩) (c6 : PySem.W.codeIn K cd6 "_law_mixed" = true) (k6 : PySem.W.keepIn K (.ref f6) = true)
    (a7 : PySem.W.nsIn K mainGlobals "_law_names" = some (some (.ref f7))) (l7 : K.lookup f7 = some ⟨oc7, od7, .func (PySem.W.fnOf "_law_names" "_law_names" (defArgs s__law_names) (defBody s__law_names) (defScope s__law_names) .none kV7 dc7 pm7 an7 cd7 ct7), sl7⟩) (c7 : PySem.W.codeIn K cd7 "_law_names" = true) (k7 : PySem.W.keepIn K (.ref f7) = true)
    (a8 : PySem.W.nsIn K mainGlobals "_law_drawn" = some (some (.ref f8))) (l8 : K.lookup f8 = some ⟨oc8, od8, .func (PySem.W.fnOf "_law_drawn" "_law_drawn" (defArgs s__law_drawn) (defBody s__law_drawn) (defScope s__law_drawn) .none kV8 dc8 pm8 an8 cd8 ct8), sl8⟩) (c8 : PySem.W.codeIn K cd8 "_law_drawn" = true) (k8 : PySem.W.keepIn K (.ref f8) = true)
    (a9 : PySem.W.nsIn K mainGlobals "law" = some (some (.ref f9))) (l9 : K.lookup f9 = some ⟨oc9, od9, .func (PySem.W.fnOf "law" "law" (defArgs s_law) (defBody s_law) (defScope s_law) .none kV9 dc9 pm9 an9 cd9 ct9), sl9⟩) (c9 : PySem.W.codeIn K cd9 "law" = true) (k9 : PySem.W.keepIn K (.ref f9) = true)
    (n_Cold : PySem.W.nsIn K mainGlobals "Cold" = some (some (.ref C_Cold)))
    (pg_Cold : PySem.W.plainGet K C_Cold Str.empty = true) (hd_Cold : PySem.W.hasDictIn K C_Cold = true) (po_Cold : PySem.W.plainOver K C_Cold = true) (sa_Cold : PySem.W.findIn K (.ref C_Cold) "__setattr__" = some (some (.builtin "object.__setattr__"))) (mk_Cold : PySem.W.makesIn K C_Cold = true) (kc_Cold : PySem.W.keepIn K (.ref C_Cold) = true)
    (na_Cold_room : PySem.W.findIn K (.ref C_Cold) "room" = some none)
    (na_Cold_here : PySem.W.findIn K (.ref C_Cold) "here" = some none)
    (na_Cold_many_met : PySem.W.findIn K (.ref C_Cold) "many_met" = some none)
    (na_Cold_many_missed : PySem.W.findIn K (.ref C_Cold) "many_missed" = some none)
    (na_Cold_signs : PySem.W.findIn K (.ref C_Cold) "signs" = some none)
    (na_Cold_ended : PySem.W.findIn K (.ref C_Cold) "ended" = some none)
    (m_Cold___init__ : PySem.W.findIn K (.ref C_Cold) "__init__" = some (some (.ref f_Shelf___init__)))
    (m_Cold_goer : PySem.W.findIn K (.ref C_Cold) "goer" = some (some (.ref f_Shelf_goer)))
    (m_Cold_touch : PySem.W.findIn K (.ref C_Cold) "touch" = some (some (.ref f_Cold_touch)))
    (m_Cold_wish : PySem.W.findIn K (.ref C_Cold) "wish" = some (some (.ref f_Shelf_wish)))
    (m_Cold_things : PySem.W.findIn K (.ref C_Cold) "things" = some (some (.ref f_Shelf_things)))
    (m_Cold_missed : PySem.W.findIn K (.ref C_Cold) "missed" = some (some (.ref f_Shelf_missed)))
    (i_Shelf___init__ : PySem.W.isFn K (.ref f_Shelf___init__) = true) (l_Shelf___init__ : K.lookup f_Shelf___init__ = some ⟨oc_Shelf___init__, od_Shelf___init__, .func (PySem.W.fnOf "__init__" "Shelf.__init__" (defArgs s_Shelf___init__) (defBody s_Shelf___init__) (defScope s_Shelf___init__) .none kV_Shelf___init__ dc_Shelf___init__ pm_Shelf___init__ an_Shelf___init__ cd_Shelf___init__ ct_Shelf___init__), sl_Shelf___init__⟩) (c_Shelf___init__ : PySem.W.codeIn K cd_Shelf___init__ "Shelf.__init__" = true) (k_Shelf___init__ : PySem.W.keepIn K (.ref f_Shelf___init__) = true)
    (i_Shelf_goer : PySem.W.isFn K (.ref f_Shelf_goer) = true) (l_Shelf_goer : K.lookup f_Shelf_goer = some ⟨oc_Shelf_goer, od_Shelf_goer, .func (PySem.W.fnOf "goer" "Shelf.goer" (defArgs s_Shelf_goer) (defBody s_Shelf_goer) (defScope s_Shelf_goer) .none kV_Shelf_goer dc_Shelf_goer pm_Shelf_goer an_Shelf_goer cd_Shelf_goer ct_Shelf_goer), sl_Shelf_goer⟩) (c_Shelf_goer : PySem.W.codeIn K cd_Shelf_goer "Shelf.goer" = true) (k_Shelf_goer : PySem.W.keepIn K (.ref f_Shelf_goer) = true)
    (i_Cold_touch : PySem.W.isFn K (.ref f_Cold_touch) = true) (l_Cold_touch : K.lookup f_Cold_touch = some ⟨oc_Cold_touch, od_Cold_touch, .func (PySem.W.fnOf "touch" "Cold.touch" (defArgs s_Cold_touch) (defBody s_Cold_touch) (defScope s_Cold_touch) .none kV_Cold_touch dc_Cold_touch pm_Cold_touch an_Cold_touch cd_Cold_touch ct_Cold_touch), sl_Cold_touch⟩) (c_Cold_touch : PySem.W.codeIn K cd_Cold_touch "Cold.touch" = true) (k_Cold_touch : PySem.W.keepIn K (.ref f_Cold_touch) = true)
    (i_Shelf_wish : PySem.W.isFn K (.ref f_Shelf_wish) = true) (l_Shelf_wish : K.lookup f_Shelf_wish = some ⟨oc_Shelf_wish, od_Shelf_wish, .func (PySem.W.fnOf "wish" "Shelf.wish" (defArgs s_Shelf_wish) (defBody s_Shelf_wish) (defScope s_Shelf_wish) .none kV_Shelf_wish dc_Shelf_wish pm_Shelf_wish an_Shelf_wish cd_Shelf_wish ct_Shelf_wish), sl_Shelf_wish⟩) (c_Shelf_wish : PySem.W.codeIn K cd_Shelf_wish "Shelf.wish" = true) (k_Shelf_wish : PySem.W.keepIn K (.ref f_Shelf_wish) = true)
    (i_Shelf_things : PySem.W.isFn K (.ref f_Shelf_things) = true) (l_Shelf_things : K.lookup f_Shelf_things = some ⟨oc_Shelf_things, od_Shelf_things, .func (PySem.W.fnOf "things" "Shelf.things" (defArgs s_Shelf_things) (defBody s_Shelf_things) (defScope s_Shelf_things) .none kV_Shelf_things dc_Shelf_things pm_Shelf_things an_Shelf_things cd_Shelf_things ct_Shelf_things), sl_Shelf_things⟩) (c_Shelf_things : PySem.W.codeIn K cd_Shelf_things "Shelf.things" = true) (k_Shelf_things : PySem.W.keepIn K (.ref f_Shelf_things) = true)
    (i_Shelf_missed : PySem.W.isFn K (.ref f_Shelf_missed) = true) (l_Shelf_missed : K.lookup f_Shelf_missed = some ⟨oc_Shelf_missed, od_Shelf_missed, .func (PySem.W.fnOf "missed" "Shelf.missed" (defArgs s_Shelf_missed) (defBody s_Shelf_missed) (defScope s_Shelf_missed) .none kV_Shelf_missed dc_Shelf_missed pm_Shelf_missed an_Shelf_missed cd_Shelf_missed ct_Shelf_missed), sl_Shelf_missed⟩) (c_Shelf_missed : PySem.W.codeIn K cd_Shelf_missed "Shelf.missed" = true) (k_Shelf_missed : PySem.W.keepIn K (.ref f_Shelf_missed) = true)
    (z_len : PySem.W.nsIn K mainGlobals "len" = some none)
    (z_range : PySem.W.nsIn K mainGlobals "range" = some none)
    (z_enumerate : PySem.W.nsIn K mainGlobals "enumerate" = some none)
    (z_isinstance : PySem.W.nsIn K mainGlobals "isinstance" = some none)
    (z_all : PySem.W.nsIn K mainGlobals "all" = some none)
    (z_sum : PySem.W.nsIn K mainGlobals "sum" = some none)
    (z_int : PySem.W.nsIn K mainGlobals "int" = some none)
    (z_list : PySem.W.nsIn K mainGlobals "list" = some none)
    (z_sorted : PySem.W.nsIn K mainGlobals "sorted" = some none)
    (z_min : PySem.W.nsIn K mainGlobals "min" = some none)
    (z_max : PySem.W.nsIn K mainGlobals "max" = some none)
    (z_set : PySem.W.nsIn K mainGlobals "set" = some none)
    (z_zip : PySem.W.nsIn K mainGlobals "zip" = some none)
    (z_dict : PySem.W.nsIn K mainGlobals "dict" = some none)
    (z_tuple : PySem.W.nsIn K mainGlobals "tuple" = some none)
    (z_bool : PySem.W.nsIn K mainGlobals "bool" = some none)
    (z_str : PySem.W.nsIn K mainGlobals "str" = some none)
    (z_ValueError : PySem.W.nsIn K mainGlobals "ValueError" = some none)
    (h_LETTERS : PySem.W.nsIn K mainGlobals "LETTERS" = some (some (.str Lett t_LETTERS)))
    (h_MOST_LETTERS : PySem.W.nsIn K mainGlobals "MOST_LETTERS" = some (some (.int 8 t_MOST_LETTERS)))
    (h_MOST_WISHES : PySem.W.nsIn K mainGlobals "MOST_WISHES" = some (some (.int 300 t_MOST_WISHES)))
    (h_MOST_PLACES : PySem.W.nsIn K mainGlobals "MOST_PLACES" = some (some (.int 20 t_MOST_PLACES))) :
    ∃ fd : FuncData, (∀ (s : Shared) (v : Value), BindsTo s fd ⟨[v], []⟩ [("_law_script", v)]) ∧ ∀ base : Heap, K.In base → base.Ns mainGlobals mg → FnOk l.prog w K mg base CX0 5 fa fd ["_law_script"] (sp_law K) := by
  have e := hfa.symm.trans (PySem.W.mg_of X G a9)
  cases e
  have B : BN mg := ⟨PySem.W.mg_none_of X G z_len, PySem.W.mg_none_of X G z_range, PySem.W.mg_none_of X G z_enumerate, PySem.W.mg_none_of X G z_isinstance, PySem.W.mg_none_of X G z_all, PySem.W.mg_none_of X G z_sum, PySem.W.mg_none_of X G z_int, PySem.W.mg_none_of X G z_list, PySem.W.mg_none_of X G z_sorted, PySem.W.mg_none_of X G z_min, PySem.W.mg_none_of X G z_max, PySem.W.mg_none_of X G z_set, PySem.W.mg_none_of X G z_zip, PySem.W.mg_none_of X G z_dict, PySem.W.mg_none_of X G z_tuple, PySem.W.mg_none_of X G z_bool, PySem.W.mg_none_of X G z_str, PySem.W.mg_none_of X G z_ValueError⟩
  have g_LETTERS : GStr mg "LETTERS" Lett := ⟨_, PySem.W.mg_of X G h_LETTERS⟩
  have g_MOST_LETTERS : GInt mg "MOST_LETTERS" 8 := ⟨_, PySem.W.mg_of X G h_MOST_LETTERS⟩
  have g_MOST_WISHES : GInt mg "MOST_WISHES" 300 := ⟨_, PySem.W.mg_of X G h_MOST_WISHES⟩
  have g_MOST_PLACES : GInt mg "MOST_PLACES" 20 := ⟨_, PySem.W.mg_of X G h_MOST_PLACES⟩
  have F_is_name : FunG K mg "is_name" s_is_name := ⟨_, _, fun_mk l0 c0 k0, PySem.W.mg_of X G a0⟩
  have F_need_places : FunG K mg "need_places" s_need_places := ⟨_, _, fun_mk l1 c1 k1, PySem.W.mg_of X G a1⟩
  have F_need_wishes : FunG K mg "need_wishes" s_need_wishes := ⟨_, _, fun_mk l2 c2 k2, PySem.W.mg_of X G a2⟩
  have F_last_wishes : FunG K mg "last_wishes" s_last_wishes := ⟨_, _, fun_mk l3 c3 k3, PySem.W.mg_of X G a3⟩
  have F_depths : FunG K mg "depths" s_depths := ⟨_, _, fun_mk l4 c4 k4, PySem.W.mg_of X G a4⟩
  have F_missed_by_places : FunG K mg "missed_by_places" s_missed_by_places := ⟨_, _, fun_mk l5 c5 k5, PySem.W.mg_of X G a5⟩
  have F__law_mixed : FunG K mg "_law_mixed" s__law_mixed := ⟨_, _, fun_mk l6 c6 k6, PySem.W.mg_of X G a6⟩
  have F__law_names : FunG K mg "_law_names" s__law_names := ⟨_, _, fun_mk l7 c7 k7, PySem.W.mg_of X G a7⟩
  have F__law_drawn : FunG K mg "_law_drawn" s__law_drawn := ⟨_, _, fun_mk l8 c8 k8, PySem.W.mg_of X G a8⟩
  have T_Cold : ShC K C_Cold := ⟨⟨pg_Cold, hd_Cold, po_Cold, sa_Cold⟩, na_Cold_room, na_Cold_here, na_Cold_many_met, na_Cold_many_missed, na_Cold_signs, na_Cold_ended⟩
  have I_Cold : FunI K mg "Cold" C_Cold "Shelf.__init__" s_Shelf___init__ := ⟨_, _, fun_mk l_Shelf___init__ c_Shelf___init__ k_Shelf___init__, ⟨mk_Cold, m_Cold___init__, i_Shelf___init__, kc_Cold⟩, PySem.W.mg_of X G n_Cold⟩
  have M_Cold_goer : FunM K C_Cold "goer" "Shelf.goer" s_Shelf_goer := ⟨_, _, fun_mk l_Shelf_goer c_Shelf_goer k_Shelf_goer, ⟨m_Cold_goer, i_Shelf_goer, k_Shelf_goer⟩⟩
  have M_Cold_touch : FunM K C_Cold "touch" "Cold.touch" s_Cold_touch := ⟨_, _, fun_mk l_Cold_touch c_Cold_touch k_Cold_touch, ⟨m_Cold_touch, i_Cold_touch, k_Cold_touch⟩⟩
  have M_Cold_wish : FunM K C_Cold "wish" "Shelf.wish" s_Shelf_wish := ⟨_, _, fun_mk l_Shelf_wish c_Shelf_wish k_Shelf_wish, ⟨m_Cold_wish, i_Shelf_wish, k_Shelf_wish⟩⟩
  have M_Cold_things : FunM K C_Cold "things" "Shelf.things" s_Shelf_things := ⟨_, _, fun_mk l_Shelf_things c_Shelf_things k_Shelf_things, ⟨m_Cold_things, i_Shelf_things, k_Shelf_things⟩⟩
  have M_Cold_missed : FunM K C_Cold "missed" "Shelf.missed" s_Shelf_missed := ⟨_, _, fun_mk l_Shelf_missed c_Shelf_missed k_Shelf_missed, ⟨m_Cold_missed, i_Shelf_missed, k_Shelf_missed⟩⟩
  exact ⟨PySem.W.fnOf "law" "law" (defArgs s_law) (defBody s_law) (defScope s_law) .none kV9 dc9 pm9 an9 cd9 ct9, fun s v => .of_eq rfl, fun base _ _ => law_all (P := l.prog) (w := w) (base := base) (fun_mk (st := s_law) l9 c9 k9) B g_LETTERS g_MOST_LETTERS g_MOST_WISHES g_MOST_PLACES F_is_name F_need_places F_need_wishes F_last_wishes F_depths F_missed_by_places F__law_mixed F__law_names F__law_drawn T_Cold I_Cold M_Cold_goer M_Cold_touch M_Cold_wish M_Cold_things M_Cold_missed⟩
end Kf
open PySem PySem.W PyProof.Rows
set_option maxHeartbeats 0 in
theorem PySem.Challenge.cw_keepfew_k09_whole_shelf_within_shelf_holds : PySem.Challenge.rw_keepfew_k09_whole_shelf_within_shelf.Holds := by
  w_on; o_law; k_head; (case hw => w_witness2)
  k_fill
  refine L2.walk_of (l := PySem.Challenge.rw_keepfew_k09_whole_shelf_within_shelf) (n := 63) (k := 5) (x := "_law_script") (CX := fun _ => L2.CX0) (sp := fun w => Kf.sp_law _) rfl (by decide) rfl ⟨rfl, by decide, by decide⟩ (fun w h Y => PySem.W.kIn_of Y) ?F (fun _ _ a ns hl _ hS => ⟨a, ns, rfl, hS, hl, fun _ => rfl⟩) (fun _ _ _ _ _ h => h)
  case F =>
    intro w mg fa h KX G hmg
    refine' Kf.all_mk KX G hmg ?a0 ?l0 ?c0 ?k0 ?a1 ?l1 ?c1 ?k1 ?a2 ?l2 ?c2 ?k2 ?a3 ?l3 ?c3 ?k3 ?a4 ?l4 ?c4 ?k4 ?a5 ?l5 ?c5 ?k5 ?a6 ?l6 ?c6 ?k6 ?a7 ?l7 ?c7 ?k7 ?a8 ?l8 ?c8 ?k8 ?a9 ?l9 ?c9 ?k9 ?n_Cold ?pg_Cold ?hd_Cold ?po_Cold ?sa_Cold ?mk_Cold ?kc_Cold ?na_Cold_room ?na_Cold_here ?na_Cold_many_met ?na_Cold_many_missed ?na_Cold_signs ?na_Cold_ended ?m_Cold___init__ ?m_Cold_goer ?m_Cold_touch ?m_Cold_wish ?m_Cold_things ?m_Cold_missed ?i_Shelf___init__ ?l_Shelf___init__ ?c_Shelf___init__ ?k_Shelf___init__ ?i_Shelf_goer ?l_Shelf_goer ?c_Shelf_goer ?k_Shelf_goer ?i_Cold_touch ?l_Cold_touch ?c_Cold_touch ?k_Cold_touch ?i_Shelf_wish ?l_Shelf_wish ?c_Shelf_wish ?k_Shelf_wish ?i_Shelf_things ?l_Shelf_things ?c_Shelf_things ?k_Shelf_things ?i_Shelf_missed ?l_Shelf_missed ?c_Shelf_missed ?k_Shelf_missed ?z_len ?z_range ?z_enumerate ?z_isinstance ?z_all ?z_sum ?z_int ?z_list ?z_sorted ?z_min ?z_max ?z_set ?z_zip ?z_dict ?z_tuple ?z_bool ?z_str ?z_ValueError ?h_LETTERS ?h_MOST_LETTERS ?h_MOST_WISHES ?h_MOST_PLACES
    (case a0 => k_is); (case l0 => k_is); (case c0 => k_is); (case k0 => k_is); (case a1 => k_is); (case l1 => k_is); (case c1 => k_is); (case k1 => k_is); (case a2 => k_is); (case l2 => k_is); (case c2 => k_is); (case k2 => k_is); (case a3 => k_is); (case l3 => k_is); (case c3 => k_is); (case k3 => k_is); (case a4 => k_is); (case l4 => k_is); (case c4 => k_is); (case k4 => k_is); (case a5 => k_is); (case l5 => k_is); (case c5 => k_is); (case k5 => k_is); (case a6 => k_is); (case l6 => k_is); (case c6 => k_is); (case k6 => k_is); (case a7 => k_is); (case l7 => k_is); (case c7 => k_is); (case k7 => k_is); (case a8 => k_is); (case l8 => k_is); (case c8 => k_is); (case k8 => k_is); (case a9 => k_is); (case l9 => k_is); (case c9 => k_is); (case k9 => k_is); (case n_Cold => k_is); (case pg_Cold => k_is); (case hd_Cold => k_is); (case po_Cold => k_is); (case sa_Cold => k_is); (case mk_Cold => k_is); (case kc_Cold => k_is); (case na_Cold_room => k_is); (case na_Cold_here => k_is); (case na_Cold_many_met => k_is); (case na_Cold_many_missed => k_is); (case na_Cold_signs => k_is); (case na_Cold_ended => k_is); (case m_Cold___init__ => k_is); (case m_Cold_goer => k_is); (case m_Cold_touch => k_is); (case m_Cold_wish => k_is); (case m_Cold_things => k_is); (case m_Cold_missed => k_is); (case i_Shelf___init__ => k_is); (case l_Shelf___init__ => k_is); (case c_Shelf___init__ => k_is); (case k_Shelf___init__ => k_is); (case i_Shelf_goer => k_is); (case l_Shelf_goer => k_is); (case c_Shelf_goer => k_is); (case k_Shelf_goer => k_is); (case i_Cold_touch => k_is); (case l_Cold_touch => k_is); (case c_Cold_touch => k_is); (case k_Cold_touch => k_is); (case i_Shelf_wish => k_is); (case l_Shelf_wish => k_is); (case c_Shelf_wish => k_is); (case k_Shelf_wish => k_is); (case i_Shelf_things => k_is); (case l_Shelf_things => k_is); (case c_Shelf_things => k_is); (case k_Shelf_things => k_is); (case i_Shelf_missed => k_is); (case l_Shelf_missed => k_is); (case c_Shelf_missed => k_is); (case k_Shelf_missed => k_is); (case z_len => k_is); (case z_range => k_is); (case z_enumerate => k_is); (case z_isinstance => k_is); (case z_all => k_is); (case z_sum => k_is); (case z_int => k_is); (case z_list => k_is); (case z_sorted => k_is); (case z_min => k_is); (case z_max => k_is); (case z_set => k_is); (case z_zip => k_is); (case z_dict => k_is); (case z_tuple => k_is); (case z_bool => k_is); (case z_str => k_is); (case z_ValueError => k_is); (case h_LETTERS => k_is); (case h_MOST_LETTERS => k_is); (case h_MOST_WISHES => k_is); (case h_MOST_PLACES => k_is)

