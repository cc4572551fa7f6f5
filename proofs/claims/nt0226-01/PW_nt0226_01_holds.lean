import PyProof.Rows.All
import Wide.All
import OpenK.AllK
import Wide.FinOn
import PyProof.ZipIter
import PyProof.ListRange
import Open.Pieces
import OpenK.ZHead
import Lean
import PySem.Challenge.RW_nt0226_01
set_option linter.all false
set_option Elab.async false
set_option bootstrap.genMatcherCode false
set_option tactic.hygienic false
set_option hygiene false
local macro_rules | `(tactic| walk_at "O") => `(tactic| (first | lia | omega))
set_option hygiene true
noncomputable section
open PySem PySem.W PySem.Calls PyProof.Rows
set_option maxRecDepth 10000
namespace N226
inductive V where
  | none | bool (b : Bool) | int (i : Int) | str (s : Str) | ref (a : Addr) | ty (n : String) | bi (id : String) | junk
  deriving DecidableEq
noncomputable def er : Value → V
  | .none => .none
  | .bool b => .bool b
  | .int i _ => .int i
  | .str s _ => .str s
  | .ref a => .ref a
  | .type n => .ty n
  | .builtin id => .bi id
  | _ => .junk
noncomputable def isJ : V → Bool
  | .junk => true
  | _ => false
theorem er_r {a : Addr} : er (.ref a) = .ref a := rfl
theorem njk {a : V} (h : isJ a = false) : a ≠ .junk := fun e => by rw [e] at h; cases h
theorem er_none {v : Value} (h : er v = .none) : v = .none := by cases v <;> cases h <;> rfl
theorem er_bool {v : Value} {b : Bool} (h : er v = .bool b) : v = .bool b := by cases v <;> cases h <;> rfl
theorem er_int {v : Value} {i : Int} (h : er v = .int i) : ∃ t, v = .int i t := by cases v <;> cases h; exact ⟨_, rfl⟩
theorem er_str {v : Value} {x : Str} (h : er v = .str x) : ∃ t, v = .str x t := by cases v <;> cases h; exact ⟨_, rfl⟩
theorem er_ref {v : Value} {a : Addr} (h : er v = .ref a) : v = .ref a := by cases v <;> cases h <;> rfl
theorem er_ty {v : Value} {n : String} (h : er v = .ty n) : v = .type n := by cases v <;> cases h <;> rfl
theorem er_bi {v : Value} {n : String} (h : er v = .bi n) : v = .builtin n := by cases v <;> cases h <;> rfl
noncomputable def AN : List Str := [
  ⟨#[110, 117, 109, 98, 101, 114]⟩,
  ⟨#[116, 101, 120, 116]⟩,
  ⟨#[114, 111, 119, 115]⟩,
  ⟨#[98, 121, 95, 116, 101, 120, 116]⟩,
  ⟨#[99, 97, 114]⟩,
  ⟨#[99, 100, 114]⟩,
  ⟨#[116, 104, 105, 110, 103, 115]⟩,
  ⟨#[119, 111, 114, 100]⟩,
  ⟨#[116, 105, 116, 108, 101]⟩,
  ⟨#[98, 97, 115, 101]⟩,
  ⟨#[115, 99, 111, 112, 101]⟩,
  ⟨#[115, 121, 109, 98, 111, 108]⟩,
  ⟨#[108, 105, 116, 101, 114, 97, 108, 115]⟩,
  ⟨#[114, 117, 108, 101, 115]⟩,
  ⟨#[112, 97, 114, 101, 110, 116]⟩,
  ⟨#[110, 97, 109, 101, 115]⟩,
  ⟨#[112, 97, 116, 116, 101, 114, 110]⟩,
  ⟨#[100, 101, 112, 116, 104, 115]⟩,
  ⟨#[116, 101, 109, 112, 108, 97, 116, 101]⟩,
  ⟨#[109, 97, 99, 114, 111]⟩,
  ⟨#[102, 111, 117, 110, 100]⟩,
  ⟨#[119, 111, 114, 108, 100]⟩,
  ⟨#[97, 108, 105, 97, 115, 101, 115]⟩,
  ⟨#[116, 97, 98, 108, 101]⟩,
  ⟨#[108, 97, 115, 116]⟩,
  ⟨#[116, 105, 116, 108, 101, 115]⟩,
  ⟨#[111, 112, 115]⟩,
  ⟨#[114, 111, 111, 116]⟩,
  ⟨#[99, 111, 100, 101, 115]⟩,
  ⟨#[99, 111, 100, 101]⟩,
  ⟨#[114, 101, 97, 115, 111, 110]⟩,
  ⟨#[100, 97, 116, 117, 109]⟩,
  ⟨#[102, 114, 101, 115, 104]⟩,
  ⟨#[102, 105, 110, 100]⟩,
  ⟨#[98, 111, 117, 110, 100]⟩,
  ⟨#[98, 105, 110, 100]⟩,
  ⟨#[111, 119, 110]⟩,
  ⟨#[110, 111, 100, 101]⟩,
  ⟨#[110, 97, 109, 101]⟩,
  ⟨#[112, 97, 114, 116, 115]⟩,
  ⟨#[114, 111, 119]⟩,
  ⟨#[102, 105, 116, 115]⟩,
  ⟨#[102, 105, 116, 115, 95, 114, 111, 119]⟩,
  ⟨#[102, 105, 116, 115, 95, 112, 97, 114, 116, 115]⟩,
  ⟨#[97, 108, 105, 97, 115]⟩,
  ⟨#[97, 112, 112, 101, 110, 100]⟩,
  ⟨#[112, 111, 112]⟩,
  ⟨#[101, 120, 116, 101, 110, 100]⟩,
  ⟨#[103, 101, 116]⟩,
  ⟨#[118, 97, 108, 117, 101, 115]⟩,
  ⟨#[106, 111, 105, 110]⟩,
  ⟨#[115, 105, 122, 101]⟩,
  ⟨#[116, 111, 112]⟩,
  ⟨#[98, 111, 116, 116, 111, 109]⟩,
  ⟨#[109, 97, 110, 116, 105, 115, 115, 97]⟩,
  ⟨#[101, 120, 112, 111, 110, 101, 110, 116]⟩]
theorem AN_nodup : AN.Nodup := by decide
noncomputable abbrev n_number : Nat := 0
noncomputable abbrev n_text : Nat := 1
noncomputable abbrev n_rows : Nat := 2
noncomputable abbrev n_by_text : Nat := 3
noncomputable abbrev n_car : Nat := 4
noncomputable abbrev n_cdr : Nat := 5
noncomputable abbrev n_things : Nat := 6
noncomputable abbrev n_base : Nat := 9
noncomputable abbrev n_scope : Nat := 10
noncomputable abbrev n_symbol : Nat := 11
noncomputable abbrev n_literals : Nat := 12
noncomputable abbrev n_rules : Nat := 13
noncomputable abbrev n_parent : Nat := 14
noncomputable abbrev n_names : Nat := 15
noncomputable abbrev n_pattern : Nat := 16
noncomputable abbrev n_depths : Nat := 17
noncomputable abbrev n_template : Nat := 18
noncomputable abbrev n_macro : Nat := 19
noncomputable abbrev n_found : Nat := 20
noncomputable abbrev n_world : Nat := 21
noncomputable abbrev n_aliases : Nat := 22
noncomputable abbrev n_table : Nat := 23
noncomputable abbrev n_last : Nat := 24
noncomputable abbrev n_titles : Nat := 25
noncomputable abbrev n_ops : Nat := 26
noncomputable abbrev n_root : Nat := 27
noncomputable abbrev n_codes : Nat := 28
noncomputable abbrev n_code : Nat := 29
noncomputable abbrev n_datum : Nat := 31
noncomputable abbrev n_fresh : Nat := 32
noncomputable abbrev n_find : Nat := 33
noncomputable abbrev n_bound : Nat := 34
noncomputable abbrev n_node : Nat := 37
noncomputable abbrev n_name : Nat := 38
noncomputable abbrev n_parts : Nat := 39
noncomputable abbrev n_row : Nat := 40
noncomputable abbrev n_fits : Nat := 41
noncomputable abbrev n_fits_row : Nat := 42
noncomputable abbrev n_fits_parts : Nat := 43
noncomputable abbrev n_alias : Nat := 44
noncomputable abbrev n_append : Nat := 45
noncomputable abbrev n_pop : Nat := 46
noncomputable abbrev n_extend : Nat := 47
noncomputable abbrev n_get : Nat := 48
noncomputable abbrev n_values : Nat := 49
noncomputable abbrev n_join : Nat := 50
noncomputable abbrev n_top : Nat := 52
noncomputable abbrev n_bottom : Nat := 53
noncomputable abbrev n_mantissa : Nat := 54
noncomputable abbrev n_exponent : Nat := 55
inductive MO where
  | list (vs : List V)
  | slist (vs : List V)
  | tuple (vs : List V)
  | dict (es : List (V × V)) (ep : Nat)
  | rng (a b c : Int)
  | view (d : Addr)
  | inst (C : Addr) (fs : List (Nat × V))
  | cinst (C : Addr)
noncomputable abbrev MH := Addr → Option MO
noncomputable def MH.set (H : MH) (a : Addr) (o : MO) : MH := fun b => if b = a then some o else H b
theorem MH.set_self (H : MH) (a : Addr) (o : MO) : (H.set a o) a = some o := by simp [MH.set]
theorem MH.set_ne (H : MH) {a b : Addr} (o : MO) (h : b ≠ a) : (H.set a o) b = H b := by simp [MH.set, h]
structure Cx where
  prog : Program
  w : World
  hB : Heap
  K : Frag
  X : K.In hB
  lim : hB.NoLimit
  mg : Str → Option Value
  mb : Str → Option Value
  g : hB.Ns mainGlobals mg
  b : hB.Ns builtinsNs mb
  sm : ∃ o, hB.get? sysModules = some o
noncomputable abbrev Cx.M (C : Cx) : Model := model C.prog C.w
noncomputable def isKey : V → Bool
  | .int _ => true
  | .str _ => true
  | _ => false
theorem key_shape {v : Value} {k : V} (h : (decide (er v = k) && isKey k) = true) : (∃ i t, v = .int i t ∧ k = .int i) ∨ ∃ x t, v = .str x t ∧ k = .str x := by
  obtain ⟨h1, h2⟩ := Bool.and_eq_true_iff.mp h
  have h1 := of_decide_eq_true h1
  subst h1
  cases v <;> first | (cases h2; done) | exact .inl ⟨_, _, rfl, rfl⟩ | exact .inr ⟨_, _, rfl, rfl⟩
theorem eqBool_int_str {M : Model} {prog : Program} {w : World} (hM : M = model prog w) {A : Around} {E : Value → Shared → Prop} {s : Shared} {a : Int} {b : Str} {t u : Tok} {Q : Bool → Shared → Prop} (h : Q false s) : wpAny M A (eqBool (.int a t) (.str b u)) Q E s := by
  subst hM
  unfold eqBool
  refine wpAny_holding ?_
  rw [if_neg (by intro e; exact nomatch (eq_of_beq e))]
  exact wpAny_bind (EqMixed.eq_int_str (wpAny_truthy_bool h))
theorem eqBool_str_int {M : Model} {prog : Program} {w : World} (hM : M = model prog w) {A : Around} {E : Value → Shared → Prop} {s : Shared} {a : Str} {b : Int} {t u : Tok} {Q : Bool → Shared → Prop} (h : Q false s) : wpAny M A (eqBool (.str a t) (.int b u)) Q E s := by
  subst hM
  unfold eqBool
  refine wpAny_holding ?_
  rw [if_neg (by intro e; exact nomatch (eq_of_beq e))]
  exact wpAny_bind (EqMixed.eq_str_int (wpAny_truthy_bool h))
noncomputable def keyHash (w : World) : V → Int
  | .int i => hashInt i
  | .str x => hashStr w x
  | _ => 0
theorem mix_hash {prog : Program} {w : World} {A : Around} {E : Value → Shared → Prop} {s : Shared} {k : V} {v : Value} {Q : Int → Shared → Prop} (hv : (decide (er v = k) && isKey k) = true) (h : Q (keyHash w k) { s with toks := s.toks + 1 }) :
    wpAny (model prog w) A (PySem.pyHash v) Q E s := by
  rcases key_shape hv with ⟨i, t, rfl, rfl⟩ | ⟨x, t, rfl, rfl⟩
  · exact wpAny_pyHash_int h
  · exact wpAny_pyHash_str h
theorem mix_eq {prog : Program} {w : World} {A : Around} {E : Value → Shared → Prop} {s : Shared} {a b : V} {u v : Value} {Q : Bool → Shared → Prop} (hu : (decide (er u = a) && isKey a) = true) (hv : (decide (er v = b) && isKey b) = true) (h : Q (decide (a = b)) s) :
    wpAny (model prog w) A (PySem.eqBool u v) Q E s := by
  rcases key_shape hu with ⟨i, t, rfl, rfl⟩ | ⟨x, t, rfl, rfl⟩ <;> rcases key_shape hv with ⟨j, u, rfl, rfl⟩ | ⟨y, u, rfl, rfl⟩
  · refine wpAny_eqBool_int ?_
    simp only [V.int.injEq] at h
    exact h
  · exact eqBool_int_str rfl h
  · exact eqBool_str_int rfl h
  · refine wpAny_eqBool_str ?_
    simp only [V.str.injEq] at h
    exact h
set_option tactic.hygienic true in
theorem mix_strs (k : V) (x : Str) (t : Tok) (v : Value) (h : (decide (er (.str x t) = k) && isKey k) = true) : (decide (er v = k) && isKey k) = v.isStr x := by
  rcases key_shape h with ⟨i, u, e, rfl⟩ | ⟨y, u, e, rfl⟩
  · cases e
  · cases e
    cases v with
    | str z u =>
      show (decide (V.str z = V.str x) && true) = (z == x)
      by_cases hz : z = x
      · subst hz; simp
      · rw [decide_eq_false (fun e => hz (V.str.inj e)), beq_false_of_ne hz]; rfl
    | _ => rfl
noncomputable def mix (prog : Program) (w : World) : KeyKind prog w V where
  is := fun k v => decide (er v = k) && isKey k
  hash := keyHash w
  inj := fun v a b ha hb => by
    have h1 := of_decide_eq_true (Bool.and_eq_true_iff.mp ha).1
    have h2 := of_decide_eq_true (Bool.and_eq_true_iff.mp hb).1
    exact h1.symm.trans h2
  byValue := fun k v h => by rcases key_shape h with ⟨i, t, rfl, rfl⟩ | ⟨x, t, rfl, rfl⟩ <;> rfl
  pyHash := mix_hash
  eqBool := mix_eq
  «strs» := mix_strs
theorem mix_is {prog : Program} {w : World} {v : Value} {k : V} (h : er v = k) (hk : isKey k = true) : (mix prog w).is k v = true := by
  show (decide (er v = k) && isKey k) = true
  rw [decide_eq_true h, hk]; rfl
noncomputable def FsRel (es : List DictEntry) (fs : List (Nat × V)) : Prop :=
  es.map (fun e => (er e.key, er e.val)) = fs.map (fun f => (V.str (AN.getD f.1 ⟨#[]⟩), f.2)) ∧ ∀ f ∈ fs, f.1 < AN.length
noncomputable abbrev NJ (vs : List V) : Prop := ∀ v ∈ vs, v ≠ .junk
noncomputable def LaidAt (C : Cx) (h : Heap) (δ : Addr → Addr) (a : Addr) : MO → Prop
  | .list vs => C.hB.get? a = none ∧ ∃ vs' n, h.get? a = some { cls := .type "list", data := .seq (List.toArray vs') n } ∧ vs'.map er = vs ∧ NJ vs
  | .slist vs => ∃ vs', C.hB.IsList a (List.toArray vs') ∧ vs'.map er = vs ∧ NJ vs
  | .tuple vs => ∃ vs' n, h.get? a = some { cls := .type "tuple", data := .seq (List.toArray vs') n } ∧ vs'.map er = vs ∧ NJ vs
  | .rng a' b' c' => ∃ t u v, IsRange h a a' b' c' t u v
  | .view d => h.get? a = some { cls := .type "dict_values", data := .fields #[.ref d] }
  | .dict kvs ep => C.hB.get? a = none ∧ ∃ kvs' : List (V × Value), h.DictAt (mix C.prog C.w) a kvs' ep ∧ kvs'.map (fun kv => (kv.1, er kv.2)) = kvs ∧ NJ (kvs.map (·.2))
  | .inst Cl fs => C.hB.get? (δ a) = none ∧ h.get? a = some (instObj Cl (δ a)) ∧ ∃ es n, h.get? (δ a) = some (dictOf es n) ∧ FsRel es fs ∧ NJ (fs.map (·.2))
  | .cinst Cl => ∃ dx od, C.hB.get? a = some (instObj Cl dx) ∧ C.hB.get? dx = some od
noncomputable def IsInst (H : MH) (a : Addr) : Prop := ∃ Cl fs, H a = some (.inst Cl fs)
noncomputable def Mut (H : MH) (a : Addr) : Prop := (∃ vs, H a = some (.list vs)) ∨ ∃ es ep, H a = some (.dict es ep)
noncomputable def Owned (δ : Addr → Addr) (H : MH) (b : Addr) : Prop := Mut H b ∨ ∃ a, IsInst H a ∧ b = δ a
structure Lay (C : Cx) (h : Heap) (δ : Addr → Addr) (H : MH) : Prop where
  keep : ∀ b o, C.hB.get? b = some o → h.get? b = some o
  obj : ∀ a o, H a = some o → LaidAt C h δ a o
  inj : ∀ a b, IsInst H a → IsInst H b → δ a = δ b → a = b
  hid : ∀ a, IsInst H a → H (δ a) = none
structure Keeps (π : Addr → Prop) (δ : Addr → Addr) (H : MH) (s : Shared) (δ' : Addr → Addr) (H' : MH) (s' : Shared) : Prop where
  old : ∀ b o, s.heap.get? b = some o → ¬ Owned δ H b → ¬ π b → s'.heap.get? b = some o
  sub : ∀ b, Owned δ' H' b → Owned δ H b ∨ s.heap.get? b = none
  alive : ∀ b o, s.heap.get? b = some o → ∃ o', s'.heap.get? b = some o'
  rest : s'.gens = s.gens ∧ s'.drawn = s.drawn ∧ s'.os = s.os
noncomputable abbrev noπ : Addr → Prop := fun _ => False
theorem Keeps.refl (π : Addr → Prop) (δ : Addr → Addr) (H : MH) (s : Shared) : Keeps π δ H s δ H s := ⟨fun _ _ e _ _ => e, fun _ h => .inl h, fun _ o e => ⟨o, e⟩, rfl, rfl, rfl⟩
theorem Keeps.toks {π : Addr → Prop} {δ : Addr → Addr} {H : MH} {s : Shared} {t : Nat} : Keeps π δ H s δ H { s with toks := t } := ⟨fun _ _ e _ _ => e, fun _ h => .inl h, fun _ o e => ⟨o, e⟩, rfl, rfl, rfl⟩
theorem Keeps.weak {π : Addr → Prop} {δ δ' : Addr → Addr} {H H' : MH} {s s' : Shared} (x : Keeps noπ δ H s δ' H' s') : Keeps π δ H s δ' H' s' :=
  ⟨fun b o e n _ => x.old b o e n id, x.sub, x.alive, x.rest⟩
theorem Keeps.notOwned {π : Addr → Prop} {δ δ' : Addr → Addr} {H H' : MH} {s s' : Shared} (x : Keeps π δ H s δ' H' s') {b : Addr} {o : Obj} (e : s.heap.get? b = some o) (n : ¬ Owned δ H b) : ¬ Owned δ' H' b := fun q => by
  rcases x.sub b q with q | q
  · exact n q
  · rw [q] at e; cases e
theorem Keeps.trans {π : Addr → Prop} {δ δ' δ'' : Addr → Addr} {H H' H'' : MH} {s s' s'' : Shared} (x : Keeps π δ H s δ' H' s') (y : Keeps π δ' H' s' δ'' H'' s'') : Keeps π δ H s δ'' H'' s'' := by
  refine ⟨fun b o e n p => y.old b o (x.old b o e n p) (x.notOwned e n) p, fun b h => ?_, fun b o e => ?_, y.rest.1.trans x.rest.1, y.rest.2.1.trans x.rest.2.1, y.rest.2.2.trans x.rest.2.2⟩
  · rcases y.sub b h with q | q
    · exact x.sub b q
    · right
      cases e : s.heap.get? b with
      | none => rfl
      | some o =>
        obtain ⟨o', e'⟩ := x.alive b o e
        rw [e'] at q; cases q
  · obtain ⟨o', e'⟩ := x.alive b o e
    exact y.alive b o' e'
theorem LaidAt.alive {C : Cx} {h : Heap} {δ : Addr → Addr} {a : Addr} {mo : MO} (k : ∀ b o, C.hB.get? b = some o → h.get? b = some o) (x : LaidAt C h δ a mo) : ∃ o, h.get? a = some o := by
  cases mo with
  | list vs => obtain ⟨_, vs', n, e, _⟩ := x; exact ⟨_, e⟩
  | slist vs => obtain ⟨vs', ⟨_, e, _⟩, _⟩ := x; exact ⟨_, k _ _ e⟩
  | tuple vs => obtain ⟨vs', n, e, _⟩ := x; exact ⟨_, e⟩
  | dict kvs ep => obtain ⟨_, kvs', ⟨o, _, e, _⟩, _⟩ := x; exact ⟨_, e⟩
  | rng a b c => obtain ⟨t, u, v, e⟩ := x; exact ⟨_, e⟩
  | view d => exact ⟨_, x⟩
  | inst Cl fs => obtain ⟨_, e, _⟩ := x; exact ⟨_, e⟩
  | cinst Cl => obtain ⟨dx, od, e, _⟩ := x; exact ⟨_, k _ _ e⟩
theorem LaidAt.congr {C : Cx} {h h' : Heap} {δ : Addr → Addr} {a : Addr} {mo : MO} (x : LaidAt C h δ a mo) (e1 : h'.get? a = h.get? a) (e2 : (∃ Cl fs, mo = .inst Cl fs) → h'.get? (δ a) = h.get? (δ a)) : LaidAt C h' δ a mo := by
  cases mo with
  | list vs => obtain ⟨n0, vs', n, e, r⟩ := x; exact ⟨n0, vs', n, e1.trans e, r⟩
  | slist vs => exact x
  | tuple vs => obtain ⟨vs', n, e, r⟩ := x; exact ⟨vs', n, e1.trans e, r⟩
  | dict kvs ep => obtain ⟨n0, kvs', ⟨o, es, e, r⟩, q⟩ := x; exact ⟨n0, kvs', ⟨o, es, e1.trans e, r⟩, q⟩
  | rng a b c => obtain ⟨t, u, v, e⟩ := x; exact ⟨t, u, v, e1.trans e⟩
  | view d => exact e1.trans x
  | inst Cl fs => obtain ⟨n0, e, es, n, ed, r⟩ := x; exact ⟨n0, e1.trans e, es, n, (e2 ⟨_, _, rfl⟩).trans ed, r⟩
  | cinst Cl => exact x
theorem LaidAt.delta {C : Cx} {h : Heap} {δ δ' : Addr → Addr} {a : Addr} {mo : MO} (x : LaidAt C h δ a mo) (e : δ' a = δ a) : LaidAt C h δ' a mo := by
  cases mo with
  | inst Cl fs => unfold LaidAt at x ⊢; rw [e]; exact x
  | _ => exact x
section
variable {C : Cx} {h h' : Heap} {δ : Addr → Addr} {H : MH}
theorem Lay.alive (L : Lay C h δ H) {a : Addr} {mo : MO} (e : H a = some mo) : ∃ o, h.get? a = some o := (L.obj a mo e).alive L.keep
theorem Lay.aliveδ (L : Lay C h δ H) {a : Addr} (e : IsInst H a) : ∃ o, h.get? (δ a) = some o := by
  obtain ⟨Cl, fs, e⟩ := e
  obtain ⟨_, _, es, n, ed, _⟩ := L.obj a _ e
  exact ⟨_, ed⟩
theorem Lay.aliveOwned (L : Lay C h δ H) {b : Addr} (e : Owned δ H b) : ∃ o, h.get? b = some o := by
  rcases e with (⟨vs, e⟩ | ⟨es, ep, e⟩) | ⟨a, e, rfl⟩
  · exact L.alive e
  · exact L.alive e
  · exact L.aliveδ e
theorem Lay.fresh (L : Lay C h δ H) {a : Addr} (e : h.get? a = none) : H a = none := by
  cases q : H a with
  | none => rfl
  | some mo => obtain ⟨o, e'⟩ := L.alive q; rw [e] at e'; cases e'
theorem Lay.freshδ (L : Lay C h δ H) {a : Addr} (e : h.get? a = none) : ∀ x, IsInst H x → δ x ≠ a := fun x hx q => by
  obtain ⟨o, e'⟩ := L.aliveδ hx; rw [q, e] at e'; cases e'
theorem size_none (h : Heap) : h.get? h.objs.size = none := by
  cases e : h.get? h.objs.size with
  | none => rfl
  | some o => exact absurd (Heap.lt_size e) (Nat.lt_irrefl _)
theorem Lay.mono (L : Lay C h δ H) (k : ∀ b o, h.get? b = some o → h'.get? b = some o) : Lay C h' δ H := by
  refine ⟨fun b o e => k b o (L.keep b o e), fun a mo e => ?_, L.inj, L.hid⟩
  have same : ∀ b, (∃ o, h.get? b = some o) → h'.get? b = h.get? b := fun b ⟨o, q⟩ => (k b o q).trans q.symm
  exact (L.obj a mo e).congr (same _ (L.alive e)) fun ⟨Cl, fs, q⟩ => same _ (L.aliveδ ⟨Cl, fs, q ▸ e⟩)
theorem Lay.push (L : Lay C h δ H) (o : Obj) : Lay C (h.push o) δ H := L.mono fun _ _ e => Heap.get?_push_of_some o e
theorem isInst_set {a : Addr} {mo : MO} (hn : ∀ Cl fs, mo ≠ .inst Cl fs) {x : Addr} (e : IsInst (H.set a mo) x) : x ≠ a ∧ IsInst H x := by
  obtain ⟨Cl, fs, e⟩ := e
  by_cases q : x = a
  · subst q; rw [MH.set_self] at e; exact absurd (Option.some.inj e) (hn Cl fs)
  · rw [MH.set_ne _ _ q] at e; exact ⟨q, Cl, fs, e⟩
theorem Lay.add (L : Lay C h δ H) {a : Addr} {mo : MO} (x : LaidAt C h δ a mo) (hn : ∀ Cl fs, mo ≠ .inst Cl fs) (hd : ∀ x, IsInst H x → δ x ≠ a) : Lay C h δ (H.set a mo) := by
  refine ⟨L.keep, fun b m e => ?_, fun b c hb hc e => L.inj b c (isInst_set hn hb).2 (isInst_set hn hc).2 e, fun b hb => ?_⟩
  · by_cases q : b = a
    · subst q; rw [MH.set_self] at e; cases e; exact x
    · rw [MH.set_ne _ _ q] at e; exact L.obj b m e
  · have z := (isInst_set hn hb).2
    rw [MH.set_ne _ _ (hd b z)]; exact L.hid b z
theorem Lay.addInst (L : Lay C h δ H) {a d Cl : Addr} {fs : List (Nat × V)} {es : List DictEntry} {n : Nat} (ha : H a = none) (hda : d ≠ a) (hd : H d = none) (hax : ∀ x, IsInst H x → δ x ≠ a) (hdx : ∀ x, IsInst H x → δ x ≠ d) (hB : C.hB.get? d = none)
    (ea : h.get? a = some (instObj Cl d)) (ed : h.get? d = some (dictOf es n)) (r : FsRel es fs ∧ NJ (fs.map (·.2))) : Lay C h (fun x => if x = a then d else δ x) (H.set a (.inst Cl fs)) := by
  have ne : ∀ b mo, H b = some mo → b ≠ a := fun b mo e q => by rw [q, ha] at e; cases e
  have old : ∀ b, IsInst (H.set a (.inst Cl fs)) b → b ≠ a → IsInst H b := fun b ⟨Cl', fs', e⟩ q => by rw [MH.set_ne _ _ q] at e; exact ⟨Cl', fs', e⟩
  refine ⟨L.keep, fun b mo e => ?_, fun b c hb hc e => ?_, fun b hb => ?_⟩
  · by_cases q : b = a
    · subst q; rw [MH.set_self] at e; cases e
      refine ⟨?_, ?_, es, n, ?_, r⟩ <;> simp only [if_true]
      · exact hB
      · exact ea
      · exact ed
    · rw [MH.set_ne _ _ q] at e
      exact (L.obj b mo e).delta (if_neg q)
  · by_cases qb : b = a <;> by_cases qc : c = a
    · rw [qb, qc]
    · simp only [qb, qc, if_true, if_false] at e
      exact absurd e.symm (hdx c (old c hc qc))
    · simp only [qb, qc, if_true, if_false] at e
      exact absurd e (hdx b (old b hb qb))
    · simp only [qb, qc, if_false] at e
      exact L.inj b c (old b hb qb) (old c hc qc) e
  · by_cases q : b = a
    · simp only [q, if_true]
      rw [MH.set_ne _ _ hda]; exact hd
    · simp only [q, if_false]
      have z := old b hb q
      rw [MH.set_ne _ _ (hax b z)]; exact L.hid b z
theorem Lay.turn (L : Lay C h δ H) {a : Addr} {mo mo' : MO} (e : H a = some mo) (hn : ∀ Cl fs, mo' ≠ .inst Cl fs) (hB : C.hB.get? a = none) (hs : Heap.SameBut a h h') (x : LaidAt C h' δ a mo') : Lay C h' δ (H.set a mo') := by
  have na : ∀ y, IsInst H y → δ y ≠ a := fun y hy q => by have := L.hid y hy; rw [q, e] at this; cases this
  refine ⟨fun b o q => (hs.2 b fun z => by rw [z, hB] at q; cases q).trans (L.keep b o q), fun b m q => ?_, fun b c hb hc q => L.inj b c (isInst_set hn hb).2 (isInst_set hn hc).2 q, fun b hb => ?_⟩
  · by_cases z : b = a
    · subst z; rw [MH.set_self] at q; cases q; exact x
    · rw [MH.set_ne _ _ z] at q
      exact (L.obj b m q).congr (hs.2 b z) fun ⟨Cl, fs, p⟩ => hs.2 _ (na b ⟨Cl, fs, p ▸ q⟩)
  · have z := (isInst_set hn hb).2
    rw [MH.set_ne _ _ (na b z)]; exact L.hid b z
theorem Lay.turnInst (L : Lay C h δ H) {a Cl : Addr} {fs fs' : List (Nat × V)} {es : List DictEntry} {n : Nat} (e : H a = some (.inst Cl fs)) (hs : Heap.SameBut (δ a) h h') (ed : h'.get? (δ a) = some (dictOf es n)) (r : FsRel es fs' ∧ NJ (fs'.map (·.2))) : Lay C h' δ (H.set a (.inst Cl fs')) := by
  have hI : IsInst H a := ⟨_, _, e⟩
  have hd : H (δ a) = none := L.hid a hI
  obtain ⟨hB, ea, _⟩ := L.obj a _ e
  have nd : ∀ b mo, H b = some mo → b ≠ δ a := fun b mo q z => by rw [z, hd] at q; cases q
  have ins : ∀ b, IsInst (H.set a (.inst Cl fs')) b → IsInst H b := fun b ⟨Cl', f', q⟩ => by
    by_cases z : b = a
    · rw [z]; exact hI
    · rw [MH.set_ne _ _ z] at q; exact ⟨_, _, q⟩
  refine ⟨fun b o q => (hs.2 b fun z => by rw [z, hB] at q; cases q).trans (L.keep b o q), fun b m q => ?_, fun b c hb hc q => L.inj b c (ins b hb) (ins c hc) q, fun b hb => ?_⟩
  · by_cases z : b = a
    · subst z; rw [MH.set_self] at q; cases q
      exact ⟨hB, (hs.2 _ (nd _ _ e)).trans ea, es, n, ed, r⟩
    · rw [MH.set_ne _ _ z] at q
      refine (L.obj b m q).congr (hs.2 b (nd b m q)) fun ⟨Cl', f', p⟩ => hs.2 _ fun w => z ?_
      exact L.inj b a ⟨Cl', f', p ▸ q⟩ hI w
  · have z := ins b hb
    by_cases w : δ b = a
    · rw [w]; have := L.hid b z; rw [w, e] at this; cases this
    · rw [MH.set_ne _ _ w]; exact L.hid b z
end
theorem owned_set {δ : Addr → Addr} {H : MH} {a b : Addr} {mo : MO} (hn : ∀ Cl fs, mo ≠ .inst Cl fs) (h : Owned δ (H.set a mo) b) : Owned δ H b ∨ b = a := by
  rcases h with (⟨vs, e⟩ | ⟨es, ep, e⟩) | ⟨x, e, rfl⟩
  · by_cases q : b = a
    · exact .inr q
    · rw [MH.set_ne _ _ q] at e; exact .inl (.inl (.inl ⟨_, e⟩))
  · by_cases q : b = a
    · exact .inr q
    · rw [MH.set_ne _ _ q] at e; exact .inl (.inl (.inr ⟨_, _, e⟩))
  · exact .inl (.inr ⟨x, (isInst_set hn e).2, rfl⟩)
theorem owned_setInst {δ δ' : Addr → Addr} {H : MH} {a b Cl : Addr} {fs : List (Nat × V)} (hδ : ∀ x, x ≠ a → δ' x = δ x) (h : Owned δ' (H.set a (.inst Cl fs)) b) : Owned δ H b ∨ b = δ' a := by
  rcases h with (⟨vs, e⟩ | ⟨es, ep, e⟩) | ⟨x, ⟨Cl', f', e⟩, rfl⟩
  · by_cases q : b = a
    · subst q; rw [MH.set_self] at e; cases e
    · rw [MH.set_ne _ _ q] at e; exact .inl (.inl (.inl ⟨_, e⟩))
  · by_cases q : b = a
    · subst q; rw [MH.set_self] at e; cases e
    · rw [MH.set_ne _ _ q] at e; exact .inl (.inl (.inr ⟨_, _, e⟩))
  · by_cases q : x = a
    · exact .inr (by rw [q])
    · rw [MH.set_ne _ _ q] at e; exact .inl (.inr ⟨x, ⟨_, _, e⟩, hδ x q⟩)
theorem Keeps.grow {π : Addr → Prop} {δ : Addr → Addr} {H : MH} {s : Shared} {h' : Heap} {t : Nat} (k : ∀ b o, s.heap.get? b = some o → h'.get? b = some o) : Keeps π δ H s δ H { s with heap := h', toks := t } :=
  ⟨fun b o e _ _ => k b o e, fun _ h => .inl h, fun b o e => ⟨o, k b o e⟩, rfl, rfl, rfl⟩
theorem Keeps.growAdd {π : Addr → Prop} {δ : Addr → Addr} {H : MH} {s : Shared} {h' : Heap} {t : Nat} {a : Addr} {mo : MO} (hn : ∀ Cl fs, mo ≠ .inst Cl fs) (ha : s.heap.get? a = none) (k : ∀ b o, s.heap.get? b = some o → h'.get? b = some o) :
    Keeps π δ H s δ (H.set a mo) { s with heap := h', toks := t } :=
  ⟨fun b o e _ _ => k b o e, fun b h => (owned_set hn h).elim .inl fun q => .inr (by rw [q]; exact ha), fun b o e => ⟨o, k b o e⟩, rfl, rfl, rfl⟩
theorem Keeps.growInst {π : Addr → Prop} {δ : Addr → Addr} {H : MH} {s : Shared} {h' : Heap} {t : Nat} {a d Cl : Addr} {fs : List (Nat × V)} (hd : s.heap.get? d = none) (k : ∀ b o, s.heap.get? b = some o → h'.get? b = some o) :
    Keeps π δ H s (fun x => if x = a then d else δ x) (H.set a (.inst Cl fs)) { s with heap := h', toks := t } :=
  ⟨fun b o e _ _ => k b o e, fun b h => (owned_setInst (δ := δ) (fun x q => if_neg q) h).elim .inl fun q => .inr (by simp only [if_true] at q; rw [q]; exact hd), fun b o e => ⟨o, k b o e⟩, rfl, rfl, rfl⟩
theorem Keeps.turn {π : Addr → Prop} {δ : Addr → Addr} {H : MH} {s : Shared} {h' : Heap} {t : Nat} {a : Addr} {mo : MO} {oa : Obj} (hn : ∀ Cl fs, mo ≠ .inst Cl fs) (ha : Mut H a) (hs : Heap.SameBut a s.heap h') (ea : h'.get? a = some oa) :
    Keeps π δ H s δ (H.set a mo) { s with heap := h', toks := t } :=
  ⟨fun b o e n _ => (hs.2 b fun q => n (q ▸ .inl ha)).trans e, fun b h => (owned_set hn h).elim .inl fun q => .inl (q ▸ .inl ha),
    fun b o e => by
      by_cases q : b = a
      · exact ⟨oa, q ▸ ea⟩
      · exact ⟨o, (hs.2 b q).trans e⟩, rfl, rfl, rfl⟩
theorem Keeps.turnInst {π : Addr → Prop} {δ : Addr → Addr} {H : MH} {s : Shared} {h' : Heap} {t : Nat} {a Cl : Addr} {fs : List (Nat × V)} {oa : Obj} (ha : IsInst H a) (hs : Heap.SameBut (δ a) s.heap h') (ea : h'.get? (δ a) = some oa) :
    Keeps π δ H s δ (H.set a (.inst Cl fs)) { s with heap := h', toks := t } :=
  ⟨fun b o e n _ => (hs.2 b fun q => n (.inr ⟨a, ha, q⟩)).trans e, fun b h => (owned_setInst (δ := δ) (fun _ _ => rfl) h).elim .inl fun q => .inl (.inr ⟨a, ha, q⟩),
    fun b o e => by
      by_cases q : b = δ a
      · exact ⟨oa, q ▸ ea⟩
      · exact ⟨o, (hs.2 b q).trans e⟩, rfl, rfl, rfl⟩
structure St where
  sc : Scope
  ns : List Str
noncomputable def idx (ns : List Str) (x : Str) : Option Nat := ns.findIdx? fun y => y == x
theorem idx_get {ns : List Str} {x : Str} {i : Nat} (h : idx ns x = some i) : ns[i]? = some x := by
  obtain ⟨hl, he, _⟩ := List.findIdx?_eq_some_iff_getElem.mp h
  rw [List.getElem?_eq_getElem hl, beq_iff_eq.mp he]
theorem idx_inj {ns : List Str} {x y : Str} {i : Nat} (h : idx ns x = some i) (h' : idx ns y = some i) : x = y := by
  have a := idx_get h
  have b := idx_get h'
  rw [a] at b; exact Option.some.inj b
noncomputable abbrev Loc := Nat → Option V
noncomputable def Loc.set (ρ : Loc) (i : Nat) (v : V) : Loc := fun j => bif j == i then some v else ρ j
theorem Loc.set_eq (ρ : Loc) (i : Nat) (v : V) : ρ.set i v = fun j => if j = i then some v else ρ j := by
  funext j
  unfold Loc.set
  by_cases h : j = i
  · subst h; simp
  · have : (j == i) = false := by simpa using h
    rw [this, if_neg h]; rfl
theorem Loc.set_at (ρ : Loc) (i : Nat) (v : V) (j : Nat) : (ρ.set i v) j = if j = i then some v else ρ j := congrFun (Loc.set_eq ρ i v) j
structure EnvOK (S : St) (env : Env) : Prop where
  sc : env.scope = S.sc
  glob : env.globals = mainGlobals
  blt : env.builtins = builtinsNs
  kind : S.sc.kind = .function
theorem EnvOK.kindOf {S : St} {env : Env} (h : EnvOK S env) (x : Str) : env.kindOf x = S.sc.names.lookup x := by unfold Env.kindOf; rw [h.sc]
structure FrOK (C : Cx) (S : St) (env : Env) (h : Heap) (ρ : Loc) (δ : Addr → Addr) (H : MH) : Prop where
  loc : ∃ m, h.Ns env.locals m ∧ ∀ x i, idx S.ns x = some i → env.kindOf x = some .local → (m x).map er = ρ i ∧ ρ i ≠ some .junk
  new : C.hB.get? env.locals = none
  priv : ¬ Owned δ H env.locals
  cell : ∀ x c, env.cells.lookup x = some c → C.hB.get? c = none ∧ ¬ Owned δ H c ∧ c ≠ env.locals ∧ ∃ o vo, h.get? c = some o ∧ o.data = .cell vo ∧ ∀ i, idx S.ns x = some i → vo.map er = ρ i ∧ ρ i ≠ some .junk
  has : ∀ x, (env.kindOf x = some .cell ∨ env.kindOf x = some .free) → (env.cells.lookup x).isSome = true
  sep : ∀ x, env.kindOf x = some .local → env.cells.lookup x = none
  apart : ∀ x y c, env.cells.lookup x = some c → env.cells.lookup y = some c → x = y
noncomputable def ownπ (env : Env) : Addr → Prop := fun b => b = env.locals ∨ ∃ x, env.cells.lookup x = some b
theorem FrOK.keeps {C : Cx} {S : St} {env : Env} {s s' : Shared} {ρ : Loc} {δ δ' : Addr → Addr} {H H' : MH} (F : FrOK C S env s.heap ρ δ H) (k : Keeps noπ δ H s δ' H' s') : FrOK C S env s'.heap ρ δ' H' := by
  obtain ⟨m, ⟨oL, es, ep, hL, r⟩, hm⟩ := F.loc
  refine ⟨⟨m, ⟨oL, es, ep, k.old _ _ hL F.priv id, r⟩, hm⟩, F.new, k.notOwned hL F.priv, fun x c e => ?_, F.has, F.sep, F.apart⟩
  obtain ⟨a, b, ne, o, vo, ho, hd, hv⟩ := F.cell x c e
  exact ⟨a, k.notOwned ho b, ne, o, vo, k.old _ _ ho b id, hd, hv⟩
noncomputable def Room (A : Around) (n : Nat) : Prop := A.depth + 2 * n + 10 ≤ recursionLimit ∧ A.units + 20 * n + 100 ≤ cLine ∧ A.handled = none
theorem Room.depth {A : Around} {n : Nat} (r : Room A n) : A.depth < recursionLimit := by have := r.1; walk_at "O"
theorem Room.units {A : Around} {n : Nat} (r : Room A n) : A.units < cLine := by have := r.2.1; walk_at "O"
theorem Room.mono {A : Around} {n m : Nat} (r : Room A n) (h : m ≤ n) : Room A m := ⟨by have := r.1; walk_at "O", by have := r.2.1; walk_at "O", r.2.2⟩
end N226
end
noncomputable section
open PySem PySem.W PySem.Calls PyProof.Rows
set_option maxRecDepth 10000
namespace N226
noncomputable abbrev Post (C : Cx) (π : Addr → Prop) (δ : Addr → Addr) (H : MH) (s : Shared) (Q : V → MH → Prop) : Value → Shared → Prop :=
  fun v s' => ∃ δ' H', Lay C s'.heap δ' H' ∧ Keeps π δ H s δ' H' s' ∧ er v ≠ .junk ∧ Q (er v) H'
noncomputable abbrev noE : Value → Shared → Prop := fun _ _ => False
structure WE (C : Cx) (S : St) (n : Nat) (e : Expr) (ρ : Loc) (H : MH) (Q : V → MH → Prop) : Prop where
  run : ∀ (A : Around) (env : Env) (s : Shared) (δ : Addr → Addr), Room A n → EnvOK S env → FrOK C S env s.heap ρ δ H → Lay C s.heap δ H →
    wpAny C.M A (eval e env) (Post C noπ δ H s Q) noE s
structure WEs (C : Cx) (S : St) (n : Nat) (es : List Expr) (ρ : Loc) (H : MH) (Q : List V → MH → Prop) : Prop where
  run : ∀ (A : Around) (env : Env) (s : Shared) (δ : Addr → Addr), Room A n → EnvOK S env → FrOK C S env s.heap ρ δ H → Lay C s.heap δ H → ∀ pos,
    wpAny C.M A (spliced (backTo pos (starEach es env))) (fun vs s' => ∃ δ' H', Lay C s'.heap δ' H' ∧ Keeps noπ δ H s δ' H' s' ∧ (∀ v ∈ vs, er v ≠ .junk) ∧ Q (vs.map er) H') noE s
structure WT (C : Cx) (S : St) (n : Nat) (e : Expr) (ρ : Loc) (H : MH) (Q : Bool → MH → Prop) : Prop where
  run : ∀ (A : Around) (env : Env) (s : Shared) (δ : Addr → Addr), Room A n → EnvOK S env → FrOK C S env s.heap ρ δ H → Lay C s.heap δ H →
    wpAny C.M A (isTrue e env (eval e env)) (fun b s' => ∃ δ' H', Lay C s'.heap δ' H' ∧ Keeps noπ δ H s δ' H' s' ∧ Q b H') noE s
structure WC (C : Cx) (n : Nat) (f : V) (args : List V) (H : MH) (Q : V → MH → Prop) : Prop where
  run : ∀ (A : Around) (s : Shared) (δ : Addr → Addr) (f' : Value) (args' : List Value), Room A n → Lay C s.heap δ H → er f' = f → args'.map er = args → (∀ v ∈ args', er v ≠ .junk) →
    wpAny C.M A (call f' args') (Post C noπ δ H s Q) noE s
inductive Fl where
  | next | brk | cont | ret (v : V)
noncomputable def erF : Flow → Fl
  | .next => .next
  | .brk => .brk
  | .cont => .cont
  | .ret v => .ret (er v)
noncomputable def GoodF : Flow → Prop
  | .ret v => er v ≠ .junk
  | _ => True
noncomputable abbrev PostS (C : Cx) (S : St) (env : Env) (δ : Addr → Addr) (H : MH) (s : Shared) (Q : Fl → Loc → MH → Prop) : Flow → Shared → Prop :=
  fun f s' => ∃ δ' H' ρ', Lay C s'.heap δ' H' ∧ FrOK C S env s'.heap ρ' δ' H' ∧ Keeps (ownπ env) δ H s δ' H' s' ∧ GoodF f ∧ Q (erF f) ρ' H'
structure WS (C : Cx) (S : St) (n : Nat) (st : Stmt) (ρ : Loc) (H : MH) (Q : Fl → Loc → MH → Prop) : Prop where
  run : ∀ (A : Around) (env : Env) (s : Shared) (δ : Addr → Addr), Room A n → EnvOK S env → FrOK C S env s.heap ρ δ H → Lay C s.heap δ H →
    wpAny C.M A (exec st env) (PostS C S env δ H s Q) noE s
structure WSs (C : Cx) (S : St) (n : Nat) (sts : List Stmt) (ρ : Loc) (H : MH) (Q : Fl → Loc → MH → Prop) : Prop where
  run : ∀ (A : Around) (env : Env) (s : Shared) (δ : Addr → Addr), Room A n → EnvOK S env → FrOK C S env s.heap ρ δ H → Lay C s.heap δ H →
    wpAny C.M A (execs sts env) (PostS C S env δ H s Q) noE s
section
variable {C : Cx} {S : St} {n : Nat} {ρ : Loc} {H : MH}
theorem noE_any {α : Type} {A : Around} {t : Sem α} {Q Q' : α → Shared → Prop} {E : Value → Shared → Prop} {s : Shared} (h : wpAny C.M A t Q noE s) (hQ : ∀ a s', Q a s' → Q' a s') : wpAny C.M A t Q' E s :=
  wpAny_mono h hQ fun _ _ x => x.elim
theorem Post.here {π : Addr → Prop} {δ : Addr → Addr} {s : Shared} {Q : V → MH → Prop} {v : Value} {t : Nat} (L : Lay C s.heap δ H) (hv : er v ≠ .junk) (q : Q (er v) H) : Post C π δ H s Q v { s with toks := t } :=
  ⟨δ, H, L, Keeps.toks, hv, q⟩
theorem WE_none {k pos} {Q : V → MH → Prop} (q : Q .none H) : WE C S n (.Constant .none k pos) ρ H Q :=
  ⟨fun _ _ s δ _ _ _ L => Constant_none (Post.here (t := s.toks) L (njk rfl) q)⟩
theorem WE_bool {b k pos} {Q : V → MH → Prop} (q : Q (.bool b) H) : WE C S n (.Constant (.bool b) k pos) ρ H Q :=
  ⟨fun _ _ s δ _ _ _ L => Constant_bool (Post.here (t := s.toks) L (njk rfl) q)⟩
theorem WE_int {i k pos} {Q : V → MH → Prop} (q : Q (.int i) H) : WE C S n (.Constant (.int i) k pos) ρ H Q :=
  ⟨fun _ _ s δ _ _ _ L => wpAny_Constant_int (Post.here L (njk rfl) q)⟩
theorem WE_str {x k pos} {Q : V → MH → Prop} (q : Q (.str x) H) : WE C S n (.Constant (.str x) k pos) ρ H Q :=
  ⟨fun _ _ s δ _ _ _ L => Constant_str (Post.here L (njk rfl) q)⟩
theorem WE_local {x : Str} {i : Nat} {v : V} {pos} {Q : V → MH → Prop} (hx : idx S.ns x = some i) (hk : S.sc.names.lookup x = some .local) (hd : (x == ("__debug__" : Str)) = false) (hv : ρ i = some v) (q : Q v H) : WE C S n (.Name x pos) ρ H Q := by
  refine ⟨fun A env s δ r eo F L => ?_⟩
  obtain ⟨m, hm, hr⟩ := F.loc
  have hl : env.kindOf x = some .local := (eo.kindOf x).trans hk
  obtain ⟨e, hj⟩ := hr x i hx hl
  rw [hv] at e hj
  have hj : v ≠ .junk := fun q => hj (by rw [q])
  obtain ⟨v', hv', rfl⟩ := Option.map_eq_some_iff.mp e
  exact wpAny_Name (wpAny_loadName_local (by rw [eo.sc]; exact eo.kind) hl hm hv' (Post.here (t := s.toks) L hj q)) hd
theorem WE_cell {x : Str} {i : Nat} {v : V} {pos} {Q : V → MH → Prop} (hx : idx S.ns x = some i) (hk : S.sc.names.lookup x = some .cell) (hd : (x == ("__debug__" : Str)) = false) (hv : ρ i = some v) (q : Q v H) : WE C S n (.Name x pos) ρ H Q := by
  refine ⟨fun A env s δ r eo F L => ?_⟩
  have hl : env.kindOf x = some .cell := (eo.kindOf x).trans hk
  obtain ⟨c, hc⟩ := Option.isSome_iff_exists.mp (F.has x (.inl hl))
  obtain ⟨_, _, _, o, vo, ho, hdat, hr⟩ := F.cell x c hc
  obtain ⟨e, hj⟩ := hr i hx
  rw [hv] at e hj
  have hj : v ≠ .junk := fun q => hj (by rw [q])
  obtain ⟨v', rfl, rfl⟩ := Option.map_eq_some_iff.mp e
  refine wpAny_Name ?_ hd
  have hkk : env.scope.kind = .function := by rw [eo.sc]; exact eo.kind
  unfold loadName
  simp only [Env.blockKind, hkk, hl, ScopeKind.isAnnotationScope, Bool.false_and, Bool.false_eq_true, if_false]
  unfold cellOf
  rw [hc]
  refine wpAny_bind (wpAny_pure (wpAny_bind ?_))
  unfold cellGet
  refine wpAny_bind (wpAny_load ho ?_)
  rw [hdat]
  exact wpAny_pure (wpAny_pure (Post.here (t := s.toks) L hj q))
noncomputable def GlobIs (C : Cx) (x : Str) (v : V) : Prop := (∃ v', C.mg x = some v' ∧ er v' = v) ∨ (C.mg x = none ∧ ∃ v', C.mb x = some v' ∧ er v' = v)
theorem WE_glob {x : Str} {v : V} {pos} {Q : V → MH → Prop} (hg : GlobIs C x v) (hk : S.sc.names.lookup x = some .globalImplicit) (hd : (x == ("__debug__" : Str)) = false) (hj : v ≠ .junk) (q : Q v H) : WE C S n (.Name x pos) ρ H Q := by
  refine ⟨fun A env s δ r eo F L => ?_⟩
  have hl : env.kindOf x = some .globalImplicit := (eo.kindOf x).trans hk
  refine Name_function_global (by rw [eo.sc]; exact eo.kind) hl ?_ hd
  rcases hg with ⟨v', h1, rfl⟩ | ⟨h0, v', h1, rfl⟩
  · exact loadGlobal_global (by rw [eo.glob]; exact C.g.keeps L.keep) h1 (Post.here (t := s.toks) L hj q)
  · exact loadGlobal_builtin (by rw [eo.glob]; exact C.g.keeps L.keep) h0 (by rw [eo.blt]; exact C.b.keeps L.keep) h1 (Post.here (t := s.toks) L hj q)
theorem Post.trans {π : Addr → Prop} {δ δ' : Addr → Addr} {s s' : Shared} {H' : MH} {Q : V → MH → Prop} {v : Value} {s'' : Shared} (k : Keeps π δ H s δ' H' s') (p : Post C π δ' H' s' Q v s'') : Post C π δ H s Q v s'' :=
  let ⟨δ'', H'', L, k', hv, q⟩ := p
  ⟨δ'', H'', L, k.trans k', hv, q⟩
theorem WE.mono {e : Expr} {Q Q' : V → MH → Prop} (h : WE C S n e ρ H Q) (hQ : ∀ v H', Q v H' → Q' v H') : WE C S n e ρ H Q' :=
  ⟨fun A env s δ r eo F L => wpAny_mono (h.run A env s δ r eo F L) (fun _ _ ⟨δ', H', a, b, c, d⟩ => ⟨δ', H', a, b, c, hQ _ _ d⟩) fun _ _ x => x⟩
theorem WE.bind {e : Expr} {Q : V → MH → Prop} {A : Around} {env : Env} {s : Shared} {δ : Addr → Addr} {R : Value → Shared → Prop} {E : Value → Shared → Prop} (h : WE C S n e ρ H Q) (r : Room A n) (eo : EnvOK S env) (F : FrOK C S env s.heap ρ δ H) (L : Lay C s.heap δ H)
    (k : ∀ v s' δ' H', Lay C s'.heap δ' H' → Keeps noπ δ H s δ' H' s' → FrOK C S env s'.heap ρ δ' H' → er v ≠ .junk → Q (er v) H' → R v s') : wpAny C.M A (eval e env) R E s :=
  noE_any (h.run A env s δ r eo F L) fun v s' ⟨δ', H', L', K, hv, q⟩ => k v s' δ' H' L' K (F.keeps K) hv q
structure WOp1 (C : Cx) (n : Nat) (op : Value → Sem Value) (a : V) (H : MH) (Q : V → MH → Prop) : Prop where
  run : ∀ (A : Around) (s : Shared) (δ : Addr → Addr) (a' : Value), Room A n → Lay C s.heap δ H → er a' = a → wpAny C.M A (op a') (Post C noπ δ H s Q) noE s
structure WOp2 (C : Cx) (n : Nat) (op : Value → Value → Sem Value) (a b : V) (H : MH) (Q : V → MH → Prop) : Prop where
  run : ∀ (A : Around) (s : Shared) (δ : Addr → Addr) (a' b' : Value), Room A n → Lay C s.heap δ H → er a' = a → er b' = b → wpAny C.M A (op a' b') (Post C noπ δ H s Q) noE s
theorem WE_bin {l r : Expr} {op : Operator} {pos} {Q : V → MH → Prop} (h : WE C S n l ρ H fun a H1 => WE C S n r ρ H1 fun b H2 => WOp2 C n (binaryOp op) a b H2 Q) : WE C S n (.BinOp l op r pos) ρ H Q := by
  refine ⟨fun A env s δ rm eo F L => wpAny_BinOp (h.bind rm eo F L fun a s1 δ1 H1 L1 K1 F1 ja h1 => h1.bind rm eo F1 L1 fun b s2 δ2 H2 L2 K2 F2 jb h2 => ?_)⟩
  exact noE_any (h2.run A s2 δ2 a b rm L2 rfl rfl) fun v s' p => (p.trans K2).trans K1
theorem WE_cmp {l r : Expr} {op : CmpOp} {pos} {Q : V → MH → Prop} (hm : behindInMarks op r = false) (h : WE C S n l ρ H fun a H1 => WE C S n r ρ H1 fun b H2 => WOp2 C n (compareOp op) a b H2 Q) : WE C S n (.Compare l [op] [r] pos) ρ H Q := by
  refine ⟨fun A env s δ rm eo F L => wpAny_Compare1 (h.bind rm eo F L fun a s1 δ1 H1 L1 K1 F1 ja h1 => h1.bind rm eo F1 L1 fun b s2 δ2 H2 L2 K2 F2 jb h2 => ?_) hm⟩
  exact noE_any (h2.run A s2 δ2 a b rm L2 rfl rfl) fun v s' p => (p.trans K2).trans K1
theorem WE_un {x : Expr} {op : UnaryOp} {pos} {Q : V → MH → Prop} (h : WE C S n x ρ H fun a H1 => WOp1 C n (unaryOp op) a H1 Q) : WE C S n (.UnaryOp op x pos) ρ H Q := by
  refine ⟨fun A env s δ rm eo F L => wpAny_UnaryOp (h.bind rm eo F L fun a s1 δ1 H1 L1 K1 F1 ja h1 => ?_)⟩
  exact noE_any (h1.run A s1 δ1 a rm L1 rfl) fun v s' p => p.trans K1
theorem WE_attr {x : Expr} {name : Str} {pos} {Q : V → MH → Prop} (ha : ∀ env, attributeBase x name env (eval x env) = eval x env) (h : WE C S n x ρ H fun a H1 => WOp1 C n (fun o => getAttr o name true) a H1 Q) : WE C S n (.Attribute x name pos) ρ H Q := by
  refine ⟨fun A env s δ rm eo F L => ?_⟩
  have he : eval (.Attribute x name pos) env = (do
      let o ← eval x env
      standAt pos.atName
      let r ← holding [o] (getAttr o name true)
      letTemporaryGo x o r
      pure r) := by
    show (do
      let o ← attributeBase x name env (eval x env)
      standAt pos.atName
      let r ← holding [o] (getAttr o name true)
      letTemporaryGo x o r
      pure r) = _
    rw [ha]
  refine Attribute_any_ (h.bind rm eo F L fun a s1 δ1 H1 L1 K1 F1 ja h1 => ?_) he
  exact noE_any (h1.run A s1 δ1 a rm L1 rfl) fun v s' p => p.trans K1
theorem WE_ite {t a b : Expr} {pos} {Q : V → MH → Prop} (h : WT C S n t ρ H fun c H1 => if c then WE C S n a ρ H1 Q else WE C S n b ρ H1 Q) : WE C S n (.IfExp t a b pos) ρ H Q := by
  refine ⟨fun A env s δ rm eo F L => IfExp_ (noE_any (h.run A env s δ rm eo F L) fun c s1 pk => ?_)⟩
  obtain ⟨δ1, H1, L1, K1, h1⟩ := pk
  cases c
  · exact noE_any (h1.run A env s1 δ1 rm eo (F.keeps K1) L1) fun v s' p => p.trans K1
  · exact noE_any (h1.run A env s1 δ1 rm eo (F.keeps K1) L1) fun v s' p => p.trans K1
theorem WT_not {x : Expr} {pos} {Q : Bool → MH → Prop} (h : WT C S n x ρ H fun c H1 => Q (!c) H1) : WT C S n (.UnaryOp .Not x pos) ρ H Q :=
  ⟨fun A env s δ rm eo F L => isTrue_not (wpAny_mono (h.run A env s δ rm eo F L) (fun _ _ x => x) fun _ _ x => x)⟩
end
end N226
end
noncomputable section
open PySem PySem.W PySem.Calls PyProof.Rows
set_option maxRecDepth 10000
namespace N226
section
variable {C : Cx} {S : St} {n : Nat} {ρ : Loc} {H : MH}
theorem WE_and {x y : Expr} {rest : List Expr} {pos} {Q : V → MH → Prop} (h : WE C S n x ρ H fun a H1 => ∃ b, a = .bool b ∧ if b then WE C S n (.BoolOp .And (y :: rest) pos) ρ H1 Q else Q a H1) : WE C S n (.BoolOp .And (x :: y :: rest) pos) ρ H Q := by
  refine ⟨fun A env s δ rm eo F L => BoolOp_and (h.bind rm eo F L fun a s1 δ1 H1 L1 K1 F1 ja h1 => ?_)⟩
  obtain ⟨b, hb, h1⟩ := h1
  obtain rfl := er_bool hb
  refine wpAny_truthy_bool ?_
  cases b
  · exact ⟨δ1, H1, L1, K1, ja, h1⟩
  · exact noE_any (h1.run A env s1 δ1 rm eo F1 L1) fun v s' p => p.trans K1
theorem WE_or {x y : Expr} {rest : List Expr} {pos} {Q : V → MH → Prop} (h : WE C S n x ρ H fun a H1 => ∃ b, a = .bool b ∧ if b then Q a H1 else WE C S n (.BoolOp .Or (y :: rest) pos) ρ H1 Q) : WE C S n (.BoolOp .Or (x :: y :: rest) pos) ρ H Q := by
  refine ⟨fun A env s δ rm eo F L => BoolOp_or (h.bind rm eo F L fun a s1 δ1 H1 L1 K1 F1 ja h1 => ?_)⟩
  obtain ⟨b, hb, h1⟩ := h1
  obtain rfl := er_bool hb
  refine wpAny_truthy_bool ?_
  cases b
  · exact noE_any (h1.run A env s1 δ1 rm eo F1 L1) fun v s' p => p.trans K1
  · exact ⟨δ1, H1, L1, K1, ja, h1⟩
theorem WE_bool1 {op : BoolOp} {x : Expr} {pos} {Q : V → MH → Prop} (h : WE C S n x ρ H Q) : WE C S n (.BoolOp op [x] pos) ρ H Q :=
  ⟨fun A env s δ rm eo F L => BoolOp_one (h.run A env s δ rm eo F L)⟩
theorem WT_andc {x : Expr} {rest : List Expr} {pos} {Q : Bool → MH → Prop} (h : WT C S n x ρ H fun c H1 => if c then WT C S n (.BoolOp .And rest pos) ρ H1 Q else Q false H1) : WT C S n (.BoolOp .And (x :: rest) pos) ρ H Q := by
  refine ⟨fun A env s δ rm eo F L => isTrue_and (noE_any (h.run A env s δ rm eo F L) fun c s1 pk => ?_)⟩
  obtain ⟨δ1, H1, L1, K1, h1⟩ := pk
  cases c
  · exact ⟨δ1, H1, L1, K1, h1⟩
  · exact noE_any (h1.run A env s1 δ1 rm eo (F.keeps K1) L1) fun b s2 ⟨δ2, H2, L2, K2, h2⟩ => ⟨δ2, H2, L2, K1.trans K2, h2⟩
theorem WT_orc {x : Expr} {rest : List Expr} {pos} {Q : Bool → MH → Prop} (h : WT C S n x ρ H fun c H1 => if c then Q true H1 else WT C S n (.BoolOp .Or rest pos) ρ H1 Q) : WT C S n (.BoolOp .Or (x :: rest) pos) ρ H Q := by
  refine ⟨fun A env s δ rm eo F L => isTrue_or (noE_any (h.run A env s δ rm eo F L) fun c s1 pk => ?_)⟩
  obtain ⟨δ1, H1, L1, K1, h1⟩ := pk
  cases c
  · exact noE_any (h1.run A env s1 δ1 rm eo (F.keeps K1) L1) fun b s2 ⟨δ2, H2, L2, K2, h2⟩ => ⟨δ2, H2, L2, K1.trans K2, h2⟩
  · exact ⟨δ1, H1, L1, K1, h1⟩
theorem WT_and0 {pos} {Q : Bool → MH → Prop} (h : Q true H) : WT C S n (.BoolOp .And [] pos) ρ H Q :=
  ⟨fun A env s δ _ _ _ L => isTrue_and_nil ⟨δ, H, L, Keeps.refl _ _ _ _, h⟩⟩
theorem WT_or0 {pos} {Q : Bool → MH → Prop} (h : Q false H) : WT C S n (.BoolOp .Or [] pos) ρ H Q :=
  ⟨fun A env s δ _ _ _ L => isTrue_or_nil ⟨δ, H, L, Keeps.refl _ _ _ _, h⟩⟩
theorem WT_ite {t a b : Expr} {pos} {Q : Bool → MH → Prop} (h : WT C S n t ρ H fun c H1 => if c then WT C S n a ρ H1 Q else WT C S n b ρ H1 Q) : WT C S n (.IfExp t a b pos) ρ H Q := by
  refine ⟨fun A env s δ rm eo F L => isTrue_IfExp (noE_any (h.run A env s δ rm eo F L) fun c s1 pk => ?_)⟩
  obtain ⟨δ1, H1, L1, K1, h1⟩ := pk
  cases c <;> exact noE_any (h1.run A env s1 δ1 rm eo (F.keeps K1) L1) fun b s2 ⟨δ2, H2, L2, K2, h2⟩ => ⟨δ2, H2, L2, K1.trans K2, h2⟩
theorem WT_cmp {l r : Expr} {op : CmpOp} {pos} {Q : Bool → MH → Prop} (hm : behindInMarks op r = false) (h : WE C S n l ρ H fun a H1 => WE C S n r ρ H1 fun b H2 => WOp2 C n (compareOp op) a b H2 fun c H3 => ∃ b, c = .bool b ∧ Q b H3) : WT C S n (.Compare l [op] [r] pos) ρ H Q := by
  refine ⟨fun A env s δ rm eo F L => wpAny_isTrue_Compare1 (h.bind rm eo F L fun a s1 δ1 H1 L1 K1 F1 ja h1 => h1.bind rm eo F1 L1 fun b s2 δ2 H2 L2 K2 F2 jb h2 => ?_) hm⟩
  refine noE_any (h2.run A s2 δ2 a b rm L2 rfl rfl) fun v s' pk => ?_
  obtain ⟨δ3, H3, L3, K3, jv, c, hc, q⟩ := pk
  obtain rfl := er_bool hc
  exact wpAny_truthy_bool ⟨δ3, H3, L3, (K1.trans K2).trans K3, q⟩
noncomputable def plainTest (e : Expr) : Bool := !(Nat.beq e.ctorIdx 0 || Nat.beq e.ctorIdx 3 || Nat.beq e.ctorIdx 5 || Nat.beq e.ctorIdx 15)
theorem WT_plain {e : Expr} {Q : Bool → MH → Prop} (he : plainTest e = true) (h : WE C S n e ρ H fun a H1 => ∃ b, a = .bool b ∧ Q b H1) : WT C S n e ρ H Q := by
  refine ⟨fun A env s δ rm eo F L => isTrue_plain (h.bind rm eo F L fun a s1 δ1 H1 L1 K1 F1 ja ⟨b, hb, q⟩ => ?_) ?_⟩
  · obtain rfl := er_bool hb
    exact wpAny_truthy_bool ⟨δ1, H1, L1, K1, q⟩
  · cases e <;> first | rfl | (cases he; done) | (rename_i op _ _; cases op <;> first | rfl | cases he)
noncomputable def notStarred (e : Expr) : Bool := !Nat.beq e.ctorIdx 22
theorem starEach_cons {e : Expr} {es : List Expr} {env : Env} (h : notStarred e = true) : starEach (e :: es) env = (false, eval e env) :: starEach es env := by
  cases e <;> first | rfl | cases h
theorem WEs_nil {Q : List V → MH → Prop} (q : Q [] H) : WEs C S n [] ρ H Q :=
  ⟨fun A env s δ rm eo F L pos => spliced_nil ⟨δ, H, L, Keeps.refl _ _ _ _, (fun _ h => nomatch h), q⟩⟩
theorem WEs_cons {e : Expr} {es : List Expr} {Q : List V → MH → Prop} (he : notStarred e = true) (h : WE C S n e ρ H fun a H1 => WEs C S n es ρ H1 fun vs H2 => Q (a :: vs) H2) : WEs C S n (e :: es) ρ H Q := by
  refine ⟨fun A env s δ rm eo F L pos => ?_⟩
  rw [starEach_cons he]
  refine spliced_cons (h.bind rm eo F L fun a s1 δ1 H1 L1 K1 F1 ja h1 => ?_)
  refine noE_any (h1.run A env s1 δ1 rm eo F1 L1 pos) fun vs s' ⟨δ2, H2, L2, K2, jv, q⟩ => ⟨δ2, H2, L2, K1.trans K2, fun v hv => ?_, q⟩
  rcases List.mem_cons.mp hv with rfl | hv
  · exact ja
  · exact jv v hv
theorem plain_of {es : List Expr} {env : Env} {pos : Pos} (h : es.all notStarred = true) : (backTo pos (starEach es env)).any (·.1) = false := by
  induction es with
  | nil => rfl
  | cons e es ih =>
    obtain ⟨h1, h2⟩ := Bool.and_eq_true_iff.mp (List.all_cons ▸ h)
    rw [starEach_cons h1]
    exact ih h2
theorem evalArgs_of {f : Value} {es : List Expr} {env : Env} {pos : Pos} {A : Around} {E : Value → Shared → Prop} {s : Shared} {Q : Args → Shared → Prop} (h : es.all notStarred = true) (hq : wpAny C.M A (spliced (backTo pos (starEach es env))) (fun vs s' => Q ⟨vs, []⟩ s') E s) :
    wpAny C.M A (evalArgs f true (backTo pos (starEach es env)) []) Q E s := by
  cases es with
  | nil =>
    have hq : wpAny C.M A (spliced []) (fun vs s' => Q ⟨vs, []⟩ s') E s := hq
    show wpAny C.M A (evalArgs f true [] []) Q E s
    unfold evalArgs
    show wpAny C.M A (spliced [] >>= _) Q E s
    refine wpAny_bind (wpAny_mono hq (fun vs s' h' => wpAny_bind (wpAny_pure ?_)) fun _ _ x => x)
    refine wpAny_holding ?_
    exact wpAny_bind (wpAny_pure (wpAny_bind (wpAny_pure (wpAny_pure h'))))
  | cons e es =>
    obtain ⟨h1, h2⟩ := Bool.and_eq_true_iff.mp (List.all_cons ▸ h)
    rw [starEach_cons h1] at hq ⊢
    exact evalArgs_plain hq
noncomputable def Callable (C : Cx) (f : V) : Prop := ∀ h : Heap, (∀ b o, C.hB.get? b = some o → h.get? b = some o) → ∀ f', er f' = f → ∃ k, (k = Keeper.frame ∨ k = Keeper.machine ∨ k = Keeper.boundFrame) ∧ Looks C.M h (keeperOf f') k
theorem Callable_K {a : Addr} (h : keepIn C.K (.ref a) = true) : Callable C (.ref a) := fun hh k f' e => by
  obtain rfl := er_ref e
  exact keeps_K h hh (C.X.keeps k)
theorem Callable_bi {i : String} : Callable C (.bi i) := fun hh k f' e => by
  obtain rfl := er_bi e
  exact ⟨.machine, .inr (.inl rfl), Looks.of_pure rfl⟩
theorem Callable_ty {i : String} : Callable C (.ty i) := fun hh k f' e => by
  obtain rfl := er_ty e
  exact ⟨.machine, .inr (.inl rfl), Looks.of_pure rfl⟩
theorem WC.on {f : V} {args : List V} {Q : V → MH → Prop} (h : WC C n f args H Q) {A : Around} {s : Shared} {δ : Addr → Addr} {f' : Value} {args' : List Value} {E : Value → Shared → Prop} {R : Value → Shared → Prop} (r : Room A n) (L : Lay C s.heap δ H) (hf : er f' = f) (ha : args'.map er = args) (hj : ∀ v ∈ args', er v ≠ .junk)
    (k : ∀ v s', Post C noπ δ H s Q v s' → R v s') : wpAny C.M A (call f' args') R E s := noE_any (h.run A s δ f' args' r L hf ha hj) k
theorem callWith_W {f' : Value} {first : List Value} {es : List Expr} {env : Env} {pos : Pos} {A : Around} {s : Shared} {δ : Addr → Addr} {Q : V → MH → Prop} (hp : es.all notStarred = true) (rm : Room A n) (eo : EnvOK S env) (F : FrOK C S env s.heap ρ δ H) (L : Lay C s.heap δ H) (hj : ∀ v ∈ first, er v ≠ .junk)
    (h : WEs C S n es ρ H fun vs H1 => Callable C (er f') ∧ WC C n (er f') (first.map er ++ vs) H1 Q) : wpAny C.M A (callWith pos f' first (backTo pos (starEach es env)) []) (Post C noπ δ H s Q) noE s := by
  refine callWith_of (P := fun hh => (∀ b o, C.hB.get? b = some o → hh.get? b = some o) ∧ Callable C (er f')) (by rw [plain_of hp]; rfl) (fun hh ⟨k, c⟩ => c hh k f' rfl) (evalArgs_of hp ?_)
  refine wpAny_mono (h.run A env s δ rm eo F L pos) (fun vs s1 ⟨δ1, H1, L1, K1, jv, c, h1⟩ => ⟨⟨L1.keep, c⟩, ?_⟩) fun _ _ x => x
  refine h1.on rm L1 rfl (by rw [List.map_append]) (fun v hv => ?_) fun v s' p => p.trans K1
  rcases List.mem_append.mp hv with hv | hv
  · exact hj v hv
  · exact jv v hv
noncomputable def notAttr (e : Expr) : Bool := !Nat.beq e.ctorIdx 20
theorem eval_call {f : Expr} {es : List Expr} {pos : Pos} {env : Env} (hf : notAttr f = true) : eval (.Call f es [] pos) env = (do callWith pos (← eval f env) [] (backTo pos (starEach es env)) []) := by
  cases f <;> first | rfl | cases hf
theorem WE_call {f : Expr} {es : List Expr} {pos} {Q : V → MH → Prop} (hf : notAttr f = true) (hp : es.all notStarred = true) (h : WE C S n f ρ H fun fv H1 => WEs C S n es ρ H1 fun vs H2 => Callable C fv ∧ WC C n fv vs H2 Q) : WE C S n (.Call f es [] pos) ρ H Q := by
  refine ⟨fun A env s δ rm eo F L => ?_⟩
  rw [eval_call hf]
  refine wpAny_bind (h.bind rm eo F L fun fv s1 δ1 H1 L1 K1 F1 ja h1 => ?_)
  exact noE_any (callWith_W (n := n) hp rm eo F1 L1 (fun _ q => nomatch q) h1) fun v s' p => p.trans K1
structure WMeth (C : Cx) (a : V) (name : Str) (H : MH) (Q : V → List V → Prop) : Prop where
  run : ∀ (A : Around) (s : Shared) (δ : Addr → Addr) (a' : Value) (pl : Sem Bool), Lay C s.heap δ H → er a' = a →
    wpAny C.M A (getMethod a' name pl) (fun r s' => s' = s ∧ (∀ v ∈ r.2, er v ≠ .junk) ∧ Q (er r.1) (r.2.map er)) noE s
theorem WE_meth {o : Expr} {name : Str} {apos pos : Pos} {es : List Expr} {Q : V → MH → Prop} (ha : ∀ env, attributeBase o name env (eval o env) = eval o env) (hp : es.all notStarred = true) (hl : (apos.endLine == pos.line) = true) (hn : (decide (es.length < 30)) = true)
    (h : WE C S n o ρ H fun a H1 => WMeth C a name H1 fun f first => WEs C S n es ρ H1 fun vs H2 => Callable C f ∧ WC C n f (first ++ vs) H2 Q) : WE C S n (.Call (.Attribute o name apos) es [] pos) ρ H Q := by
  refine ⟨fun A env s δ rm eo F L => ?_⟩
  rw [arm_eval_Call, ha]
  refine wpAny_bind (h.bind rm eo F L fun a s1 δ1 H1 L1 K1 F1 ja h1 => wpAny_bind (wpAny_standAt ?_))
  have hform : methodCallForm (es.length + ([] : List Keyword).length) (backTo pos (starEach es env)) (backToKw pos (keywordEach [] env)) = true := by
    have h1 : (backTo pos (starEach es env)).all (fun x => !x.1) = true := by
      have := plain_of (env := env) (pos := pos) hp
      rw [List.any_eq_false] at this
      rw [List.all_eq_true]
      intro x hx
      have := this x hx
      simpa using this
    show (_ && _ && _) = true
    rw [h1, show backToKw pos (keywordEach [] env) = [] from rfl]
    simpa using hn
  have hpos : methodCallPos true o env apos pos = pure pos := by unfold methodCallPos; simp [hl]
  unfold methodCall
  rw [hform]
  refine wpAny_bind (wpAny_holding ?_)
  unfold calleeOf
  rw [if_pos rfl]
  refine noE_any (h1.run A s1 δ1 a _ L1 rfl) fun r s2 pk => ?_
  obtain ⟨e, jf, h2⟩ := pk
  subst e
  refine wpAny_bind (wpAny_of_eq hpos ?_)
  exact noE_any (callWith_W (n := n) hp rm eo F1 L1 jf h2) fun v s' p => p.trans K1
end
end N226
end
noncomputable section
open PySem PySem.W PySem.Calls PyProof.Rows
set_option maxRecDepth 10000
namespace N226
section
variable {C : Cx} {S : St} {n : Nat} {ρ : Loc} {H : MH}
noncomputable abbrev lim : Nat := 1000000
theorem lim_le : lim ≤ sizeLine := by rw [sizeLine_eq]; decide
theorem WOp2.here {op : Value → Value → Sem Value} {a b : V} {Q : V → MH → Prop}
    (h : ∀ (A : Around) (s : Shared) (δ : Addr → Addr) (a' b' : Value), Room A n → Lay C s.heap δ H → er a' = a → er b' = b → wpAny C.M A (op a' b') (Post C noπ δ H s Q) noE s) : WOp2 C n op a b H Q := ⟨h⟩
noncomputable def ints2 (a b : V) (f : Int → Int → Prop) : Prop := match a with
  | .int x => (match b with
    | .int y => f x y
    | _ => False)
  | _ => False
theorem ints2_of {a b : V} {f : Int → Int → Prop} (h : ints2 a b f) : ∃ x y, a = .int x ∧ b = .int y ∧ f x y := by
  cases a with
  | int x => cases b with
    | int y => exact ⟨x, y, rfl, rfl, h⟩
    | _ => exact h.elim
  | _ => exact h.elim
noncomputable def addW (a b : V) (H : MH) (Q : V → MH → Prop) : Prop := match a with
  | .int x => (match b with
    | .int y => Q (.int (x + y)) H
    | _ => False)
  | .str x => (match b with
    | .str y => x.length + y.length ≤ lim ∧ Q (.str (x ++ y)) H
    | _ => False)
  | .ref a => (match b with
    | .ref b => ∃ xs ys, H a = some (.list xs) ∧ H b = some (.list ys) ∧ xs.length + ys.length ≤ lim ∧ ∀ c, H c = none → Q (.ref c) (H.set c (.list (xs ++ ys)))
    | _ => False)
  | _ => False
noncomputable def binW (op : Operator) (a b : V) (H : MH) (Q : V → MH → Prop) : Prop := match op with
  | .Add => addW a b H Q
  | .Sub => ints2 a b fun x y => Q (.int (x - y)) H
  | .Mult => ints2 a b fun x y => x.natAbs < 1000 ∧ Q (.int (x * y)) H
  | .FloorDiv => ints2 a b fun x y => y ≠ 0 ∧ y.natAbs < 1000 ∧ Q (.int (x.fdiv y)) H
  | .Mod => ints2 a b fun x y => y ≠ 0 ∧ Q (.int (x.fmod y)) H
  | .Pow => ints2 a b fun x y => 0 ≤ y ∧ y ≤ 1000 ∧ x.natAbs < 1000 ∧ Q (.int (x ^ y.toNat)) H
  | _ => False
theorem Post.list {s : Shared} {δ : Addr → Addr} {Q : V → MH → Prop} {vs : List Value} {t : Nat} (L : Lay C s.heap δ H) (nj : NJ (vs.map er)) (q : ∀ c, H c = none → Q (.ref c) (H.set c (.list (vs.map er)))) :
    Post C noπ δ H s Q (.ref s.heap.objs.size) { s with heap := s.heap.push { cls := .type "list", data := .seq vs.toArray }, toks := t } := by
  have hn := size_none s.heap
  have hB : C.hB.get? s.heap.objs.size = none := by
    cases e : C.hB.get? s.heap.objs.size with
    | none => rfl
    | some o => rw [L.keep _ _ e] at hn; cases hn
  refine ⟨δ, _, (L.push _).add (mo := .list (vs.map er)) ⟨hB, vs, 0, Heap.get?_push_size _ rfl, rfl, nj⟩ (fun _ _ e => by cases e) (L.freshδ hn), ?_, njk rfl, q _ (L.fresh hn)⟩
  exact Keeps.growAdd (fun _ _ e => by cases e) hn fun b o e => Heap.get?_push_of_some _ e
theorem Post.tuple {s : Shared} {δ : Addr → Addr} {Q : V → MH → Prop} {vs : List Value} {t : Nat} (L : Lay C s.heap δ H) (nj : NJ (vs.map er)) (q : ∀ c, H c = none → Q (.ref c) (H.set c (.tuple (vs.map er)))) :
    Post C noπ δ H s Q (.ref s.heap.objs.size) { s with heap := s.heap.push { cls := .type "tuple", data := .seq vs.toArray }, toks := t } := by
  have hn := size_none s.heap
  refine ⟨δ, _, (L.push _).add (mo := .tuple (vs.map er)) ⟨vs, 0, Heap.get?_push_size _ rfl, rfl, nj⟩ (fun _ _ e => by cases e) (L.freshδ hn), ?_, njk rfl, q _ (L.fresh hn)⟩
  exact Keeps.growAdd (fun _ _ e => by cases e) hn fun b o e => Heap.get?_push_of_some _ e
theorem lim_of {k : Nat} (h : k ≤ lim) : k ≤ sizeLine := Nat.le_trans h lim_le
theorem add_ok {a b : V} {Q : V → MH → Prop} (h : addW a b H Q) : WOp2 C n (binaryOp .Add) a b H Q := by
  refine ⟨fun A s δ a' b' rm L ha hb => ?_⟩
  cases a with
  | int x => cases b with
    | int y =>
      obtain ⟨t, rfl⟩ := er_int ha; obtain ⟨u, rfl⟩ := er_int hb
      exact wpAny_add_int (Post.here L (njk rfl) h)
    | _ => exact h.elim
  | str x => cases b with
    | str y =>
      obtain ⟨t, rfl⟩ := er_str ha; obtain ⟨u, rfl⟩ := er_str hb
      exact SB.add (fun t' k => Post.here L (njk rfl) h.2) (lim_of h.1)
    | _ => exact h.elim
  | ref a => cases b with
    | ref b =>
      obtain rfl := er_ref ha; obtain rfl := er_ref hb
      obtain ⟨xs, ys, hx, hy, hl, h⟩ := h
      obtain ⟨_, xs', m, ex, rfl, njx⟩ := L.obj a _ hx
      obtain ⟨_, ys', k, ey, rfl, njy⟩ := L.obj b _ hy
      rw [List.length_map, List.length_map] at hl
      refine concat_meets ⟨_, ex, rfl⟩ ⟨_, ey, rfl⟩ noFill_list_add seq_list_add PySem.F.slot_list_add PySem.F.entry_list_add (PySem.F.args_list_add_2 _ _) (list_addW a b xs'.toArray ys'.toArray m k _ _ _ _ (by simpa using lim_of hl)) ⟨ex, ey, ?_⟩
      have e : xs'.toArray ++ ys'.toArray = (xs' ++ ys').toArray := by simp
      rw [e]
      exact Post.list L (by rw [List.map_append]; exact fun v hv => (List.mem_append.mp hv).elim (njx v) (njy v)) fun c hc => by rw [List.map_append]; exact h c hc
    | _ => exact h.elim
  | _ => exact h.elim
theorem ints_ok {op : Value → Value → Sem Value} {a b : V} {f : Int → Int → Prop} {Q : V → MH → Prop} (h : ints2 a b f) (k : ∀ x y t u A s δ, f x y → Lay C s.heap δ H → wpAny C.M A (op (.int x t) (.int y u)) (Post C noπ δ H s Q) noE s) : WOp2 C n op a b H Q := by
  obtain ⟨x, y, rfl, rfl, h⟩ := ints2_of h
  refine ⟨fun A s δ a' b' rm L ha hb => ?_⟩
  obtain ⟨t, rfl⟩ := er_int ha; obtain ⟨u, rfl⟩ := er_int hb
  exact k x y t u A s δ h L
theorem bin_ok {op : Operator} {a b : V} {Q : V → MH → Prop} (h : binW op a b H Q) : WOp2 C n (binaryOp op) a b H Q := by
  cases op
  case Add => exact add_ok h
  case Sub => exact ints_ok h fun x y t u A s δ h L => sub_int (Post.here L (njk rfl) h)
  case Mult => exact ints_ok h fun x y t u A s δ h L => mul_int (Post.here L (njk rfl) h.2) (.of_left (intBits_le (by have := h.1; walk_at "O")))
  case FloorDiv => exact ints_ok h fun x y t u A s δ h L => floordiv_int h.1 (Post.here L (njk rfl) h.2.2) (.inl (PyProof.noPylong_small (by have := h.2.1; walk_at "O")))
  case Mod => exact ints_ok h fun x y t u A s δ h L => mod_int' h.1 (Post.here L (njk rfl) h.2)
  case Pow => exact ints_ok h fun x y t u A s δ h L => pow_int_small h.1 (by have := h.2.1; walk_at "O") (by have := h.2.2.1; walk_at "O") (Post.here L (njk rfl) h.2.2.2)
  all_goals exact (h : False).elim
noncomputable def known (H : MH) : V → Prop
  | .ref x => (∃ vs, H x = some (.list vs)) ∨ (∃ vs ep, H x = some (.dict vs ep)) ∨ (∃ Cl fs, H x = some (.inst Cl fs)) ∨ ∃ Cl, H x = some (.cinst Cl)
  | _ => False
noncomputable def isW (a b : V) (H : MH) : Prop := match a, b with
  | .ref x, .ref y => known H (.ref x) ∧ known H (.ref y)
  | .int _, .int _ => False
  | .str _, .str _ => False
  | .bi _, _ => False
  | _, .bi _ => False
  | .junk, _ => False
  | _, .junk => False
  | _, _ => True
theorem isW_junkL {b : V} (h : isW .junk b H) : False := by cases b <;> exact h
theorem isW_junkR {a : V} (h : isW a .junk H) : False := by cases a <;> exact h
theorem known_obj {C : Cx} {h : Heap} {δ : Addr → Addr} (L : Lay C h δ H) {x : Addr} (k : known H (.ref x)) : ∃ o, h.get? x = some o ∧ o.cls ≠ .type "tuple" := by
  rcases k with ⟨vs, e⟩ | ⟨vs, ep, e⟩ | ⟨Cl, fs, e⟩ | ⟨Cl, e⟩
  · obtain ⟨_, vs', m, ex, _⟩ := L.obj x _ e
    exact ⟨_, ex, by intro q; exact absurd (Value.type.inj q) (by decide)⟩
  · obtain ⟨_, kvs, ⟨o, es, ho, hc, _⟩, _⟩ := L.obj x _ e
    exact ⟨_, ho, by rw [hc.1]; intro q; exact absurd (Value.type.inj q) (by decide)⟩
  · obtain ⟨_, ex, _⟩ := L.obj x _ e
    exact ⟨_, ex, fun q => nomatch q⟩
  · obtain ⟨dx, od, ex, _⟩ := L.obj x _ e
    exact ⟨_, L.keep _ _ ex, fun q => nomatch q⟩
theorem isSame_plainW {C : Cx} {A : Around} {s : Shared} {x y : Value} {R : Bool → Shared → Prop} {E : Value → Shared → Prop} (hp : plainIs x y = true) (e : er x = er y ↔ x = y) (q : R (decide (er x = er y)) s) : wpAny C.M A (isSame x y) R E s := by
  refine wpAny_isSame_plain hp ?_
  have z : (x == y) = decide (er x = er y) := by rw [Bool.eq_iff_iff, beq_iff_eq, decide_eq_true_iff]; exact e.symm
  rw [z]; exact q
theorem isSame_W {C : Cx} {a b : V} {A : Around} {s : Shared} {δ : Addr → Addr} {a' b' : Value} {R : Bool → Shared → Prop} {E : Value → Shared → Prop} (L : Lay C s.heap δ H) (ha : er a' = a) (hb : er b' = b) (h : isW a b H) (q : R (decide (a = b)) s) : wpAny C.M A (isSame a' b') R E s := by
  subst ha hb
  by_cases hr : ∃ x y, a' = .ref x ∧ b' = .ref y
  · obtain ⟨x, y, rfl, rfl⟩ := hr
    obtain ⟨kx, ky⟩ : known H (.ref x) ∧ known H (.ref y) := h
    obtain ⟨ox, ex, hx⟩ := known_obj L kx
    obtain ⟨oy, ey, hy⟩ := known_obj L ky
    by_cases e : x = y
    · subst e
      exact wpAny_isSame_ref_self (by simpa using q)
    · exact wpAny_isSame_ref_other e ex ey hx (by rwa [er_r, er_r, decide_eq_false (fun z => e (V.ref.inj z))] at q)
  · have ja : er a' ≠ .junk := fun e => isW_junkL (b := er b') (e ▸ h)
    have jb : er b' ≠ .junk := fun e => isW_junkR (a := er a') (e ▸ h)
    refine isSame_plainW ?_ ?_ q
    · cases a' <;> first | exact absurd rfl ja | skip
      all_goals (cases b' <;> first | rfl | exact absurd rfl jb | exact (h : False).elim | exact absurd ⟨_, _, rfl, rfl⟩ hr)
    · refine ⟨fun e => ?_, fun e => e ▸ rfl⟩
      cases a' <;> first | exact absurd rfl ja | skip
      · exact (er_none e.symm).symm
      · exact (er_bool e.symm).symm
      · obtain ⟨t, rfl⟩ := er_int e.symm; exact (h : False).elim
      · obtain ⟨t, rfl⟩ := er_str e.symm; exact (h : False).elim
      · exact (er_ty e.symm).symm
      · obtain rfl := er_bi e.symm; exact (h : False).elim
      · exact (er_ref e.symm).symm
noncomputable def eqW (a b : V) (H : MH) (Q : V → MH → Prop) : Prop := match a, b with
  | .int x, .int y => Q (.bool (decide (x = y))) H
  | .str x, .str y => Q (.bool (decide (x = y))) H
  | .int _, .str _ => Q (.bool false) H
  | .str _, .int _ => Q (.bool false) H
  | .ref x, .ref y => (∃ xs ys, H x = some (.list xs) ∧ H y = some (.list ys) ∧ xs.all isKey = true ∧ ys.all isKey = true ∧ Q (.bool (decide (xs = ys))) H) ∨ ∃ xs ep ep', H x = some (.dict xs ep) ∧ H y = some (.dict [] ep') ∧ Q (.bool (decide (xs = []))) H
  | _, _ => False
noncomputable def neW (a b : V) (H : MH) (Q : V → MH → Prop) : Prop := match a, b with
  | .int x, .int y => Q (.bool (decide (x ≠ y))) H
  | .str x, .str y => Q (.bool (decide (x ≠ y))) H
  | .int _, .str _ => Q (.bool true) H
  | .str _, .int _ => Q (.bool true) H
  | .bool x, .bool y => Q (.bool (decide (x ≠ y))) H
  | .ref x, .ref y => (∃ xs ys, H x = some (.list xs) ∧ H y = some (.list ys) ∧ xs.all isKey = true ∧ ys.all isKey = true ∧ Q (.bool (decide (xs ≠ ys))) H) ∨ ∃ xs ep ep', H x = some (.dict xs ep) ∧ H y = some (.dict [] ep') ∧ Q (.bool (decide (xs ≠ []))) H
  | _, _ => False
noncomputable def ordW (r : Int → Int → Bool) (a b : V) (H : MH) (Q : V → MH → Prop) : Prop := ints2 a b fun x y => Q (.bool (r x y)) H
noncomputable def cmpW (op : CmpOp) (a b : V) (H : MH) (Q : V → MH → Prop) : Prop := match op with
  | .Is => isW a b H ∧ Q (.bool (decide (a = b))) H
  | .IsNot => isW a b H ∧ Q (.bool (!decide (a = b))) H
  | .Eq => eqW a b H Q
  | .NotEq => neW a b H Q
  | .Lt => ordW (fun x y => decide (x < y)) a b H Q
  | .LtE => ordW (fun x y => decide (x ≤ y)) a b H Q
  | .Gt => ordW (fun x y => decide (y < x)) a b H Q
  | .GtE => ordW (fun x y => decide (y ≤ x)) a b H Q
  | _ => False
theorem key_eqAt {x y : Value} (hx : isKey (er x) = true) (hy : isKey (er y) = true) (A : Around) (s : Shared) : SeqAt.EqAt A s x y (decide (er x = er y)) :=
  fun prog w E Q hq => mix_eq (a := er x) (b := er y) (by rw [decide_eq_true rfl, hx]; rfl) (by rw [decide_eq_true rfl, hy]; rfl) hq
theorem range_all_eq (xs ys : List Value) (h : xs.length = ys.length) : (List.range xs.length).all (fun j => decide (er (xs.getD j .none) = er (ys.getD j .none))) = decide (xs.map er = ys.map er) := by
  induction xs generalizing ys with
  | nil => cases ys with
    | nil => simp
    | cons y ys => cases h
  | cons x xs ih => cases ys with
    | nil => cases h
    | cons y ys =>
      have h' : xs.length = ys.length := by simpa using h
      rw [List.length_cons, List.range_succ_eq_map, List.all_cons, List.all_map]
      have e : (List.range xs.length).all ((fun j => decide (er ((x :: xs).getD j .none) = er ((y :: ys).getD j .none))) ∘ Nat.succ) = (List.range xs.length).all (fun j => decide (er (xs.getD j .none) = er (ys.getD j .none))) := by
        congr 1
      rw [e, ih ys h']
      simp [Bool.eq_iff_iff]
theorem notSys {C : Cx} {a : Addr} (h : C.hB.get? a = none) : (a == sysModules) = false := by
  obtain ⟨o, e⟩ := C.sm
  rw [beq_eq_false_iff_ne]
  rintro rfl
  rw [e] at h; cases h
theorem lists_len {xs ys : List Value} (h : xs.length ≠ ys.length) : xs.map er ≠ ys.map er := fun e => h (by have := congrArg List.length e; simpa using this)
theorem lists_keys {xs ys : List Value} {A : Around} {s : Shared} (kx : (xs.map er).all isKey = true) (ky : (ys.map er).all isKey = true) : ∀ j (h1 : j < xs.toArray.size) (h2 : j < ys.toArray.size), SeqAt.EqAt A s xs.toArray[j] ys.toArray[j] (decide (er (xs.getD j .none) = er (ys.getD j .none))) := by
  intro j h1 h2
  have h1' : j < xs.length := by simpa using h1
  have h2' : j < ys.length := by simpa using h2
  have e1 : xs.toArray[j] = xs[j] := by simp
  have e2 : ys.toArray[j] = ys[j] := by simp
  rw [e1, e2]
  have g1 : xs.getD j .none = xs[j] := by simp [List.getD, h1']
  have g2 : ys.getD j .none = ys[j] := by simp [List.getD, h2']
  rw [g1, g2]
  refine key_eqAt ?_ ?_ _ _
  · rw [List.all_map, List.all_eq_true] at kx; exact kx _ (List.getElem_mem h1')
  · rw [List.all_map, List.all_eq_true] at ky; exact ky _ (List.getElem_mem h2')
theorem cmp_lists_eq {x y : Addr} {xs ys : List V} {A : Around} {s : Shared} {δ : Addr → Addr} {Q : V → MH → Prop} (rm : Room A n) (L : Lay C s.heap δ H) (hx : H x = some (.list xs)) (hy : H y = some (.list ys)) (kx : xs.all isKey = true) (ky : ys.all isKey = true) (q : Q (.bool (decide (xs = ys))) H) :
    wpAny C.M A (compareOp .Eq (.ref x) (.ref y)) (Post C noπ δ H s Q) noE s := by
  obtain ⟨_, xs', m, ex, rfl, njx⟩ := L.obj _ _ hx
  obtain ⟨_, ys', k, ey, rfl, njy⟩ := L.obj _ _ hy
  have ix : s.heap.IsList _ xs'.toArray := ⟨_, ex, rfl, m, rfl⟩
  have iy : s.heap.IsList _ ys'.toArray := ⟨_, ey, rfl, k, rfl⟩
  by_cases hl : xs'.length = ys'.length
  · refine SeqAt.eq_listAt ix iy (by simpa using hl) rm.units (lists_keys kx ky) ?_
    rw [List.size_toArray, range_all_eq xs' ys' hl]
    exact Post.here (t := s.toks) L (njk rfl) q
  · refine SeqAt.eq_list_lengthsAt ix iy (by simpa using hl) rm.units (Post.here (t := s.toks) L (njk rfl) ?_)
    have e : decide (xs'.map er = ys'.map er) = false := decide_eq_false (lists_len hl)
    rw [e] at q; exact q
theorem cmp_lists_ne {x y : Addr} {xs ys : List V} {A : Around} {s : Shared} {δ : Addr → Addr} {Q : V → MH → Prop} (rm : Room A n) (L : Lay C s.heap δ H) (hx : H x = some (.list xs)) (hy : H y = some (.list ys)) (kx : xs.all isKey = true) (ky : ys.all isKey = true) (q : Q (.bool (decide (xs ≠ ys))) H) :
    wpAny C.M A (compareOp .NotEq (.ref x) (.ref y)) (Post C noπ δ H s Q) noE s := by
  obtain ⟨_, xs', m, ex, rfl, njx⟩ := L.obj _ _ hx
  obtain ⟨_, ys', k, ey, rfl, njy⟩ := L.obj _ _ hy
  have ix : s.heap.IsList _ xs'.toArray := ⟨_, ex, rfl, m, rfl⟩
  have iy : s.heap.IsList _ ys'.toArray := ⟨_, ey, rfl, k, rfl⟩
  by_cases hl : xs'.length = ys'.length
  · refine EqBoolInt.of_rcne (SeqAt.RcNeAt.lists ix iy (by simpa using hl) rm.units (lists_keys kx ky)) ?_
    rw [List.size_toArray, range_all_eq xs' ys' hl]
    have e : (!decide (xs'.map er = ys'.map er)) = decide (xs'.map er ≠ ys'.map er) := by simp
    rw [e]; exact Post.here (t := s.toks) L (njk rfl) q
  · refine EqBoolInt.of_rcne (SeqAt.RcNeAt.lists_lengths ix iy (by simpa using hl) rm.units) (Post.here (t := s.toks) L (njk rfl) ?_)
    have e : decide (xs'.map er ≠ ys'.map er) = true := decide_eq_true (lists_len hl)
    rw [e] at q; exact q
theorem Str.eq_of (x y : Str) : (x.cps.toList == y.cps.toList) = decide (x = y) := by
  rw [Bool.eq_iff_iff, beq_iff_eq, decide_eq_true_iff]
  exact ⟨fun e => by cases x; cases y; simp only [Str.mk.injEq]; exact Array.toList_inj.mp e, fun e => e ▸ rfl⟩
theorem Str.ne_of (x y : Str) : (x.cps.toList != y.cps.toList) = decide (x ≠ y) := by
  unfold bne
  rw [Str.eq_of]; simp
theorem eq_ok {a b : V} {Q : V → MH → Prop} (h : eqW a b H Q) : WOp2 C n (compareOp .Eq) a b H Q := by
  refine ⟨fun A s δ a' b' rm L ha hb => ?_⟩
  cases a <;> first | exact (h : False).elim | (cases b <;> first | exact (h : False).elim | skip)
  · obtain ⟨t, rfl⟩ := er_int ha; obtain ⟨u, rfl⟩ := er_int hb
    exact P.eq_int (Post.here (t := s.toks) L (njk rfl) h)
  · obtain ⟨t, rfl⟩ := er_int ha; obtain ⟨u, rfl⟩ := er_str hb
    exact EqMixed.eq_int_str (Post.here (t := s.toks) L (njk rfl) h)
  · obtain ⟨t, rfl⟩ := er_str ha; obtain ⟨u, rfl⟩ := er_int hb
    exact EqMixed.eq_str_int (Post.here (t := s.toks) L (njk rfl) h)
  · obtain ⟨t, rfl⟩ := er_str ha; obtain ⟨u, rfl⟩ := er_str hb
    refine P.eq_str (Post.here (t := s.toks) L (njk rfl) ?_)
    rw [Str.eq_of]; exact h
  · obtain rfl := er_ref ha; obtain rfl := er_ref hb
    rcases h with ⟨xs, ys, hx, hy, kx, ky, q⟩ | ⟨xs, ep, ep', hx, hy, q⟩
    · exact cmp_lists_eq rm L hx hy kx ky q
    · obtain ⟨na, kx, dx, rfl, _⟩ := L.obj _ _ hx
      obtain ⟨nb, ky, dy, ey, _⟩ := L.obj _ _ hy
      obtain rfl : ky = [] := by simpa using ey
      refine keq_eq (r := decide (kx = [])) (notSys na) (notSys nb) dx.dictOf dy.dictOf rm.units (fun e => ?_) ?_
      · obtain rfl : kx = [] := List.eq_nil_of_length_eq_zero e
        exact .nil
      · have e : (kx.length == ([] : List (V × Value)).length && decide (kx = [])) = decide (kx.map (fun kv => (kv.1, er kv.2)) = []) := by
          cases kx <;> simp
        rw [e]; exact Post.here (t := s.toks) L (njk rfl) q
set_option tactic.hygienic true in
theorem ne_ok {a b : V} {Q : V → MH → Prop} (h : neW a b H Q) : WOp2 C n (compareOp .NotEq) a b H Q := by
  refine ⟨fun A s δ a' b' rm L ha hb => ?_⟩
  cases a <;> first | exact (h : False).elim | (cases b <;> first | exact (h : False).elim | skip)
  · obtain rfl := er_bool ha; obtain rfl := er_bool hb
    rename_i x y
    refine ne_bool (Post.here (t := s.toks) L (njk rfl) ?_)
    have e : (x != y) = decide (x ≠ y) := by rw [Bool.eq_iff_iff]; simp
    rw [e]; exact h
  · obtain ⟨t, rfl⟩ := er_int ha; obtain ⟨u, rfl⟩ := er_int hb
    rename_i x y
    refine P.ne_int (Post.here (t := s.toks) L (njk rfl) ?_)
    have e : (x != y) = decide (x ≠ y) := by rw [Bool.eq_iff_iff]; simp
    rw [e]; exact h
  · obtain ⟨t, rfl⟩ := er_int ha; obtain ⟨u, rfl⟩ := er_str hb
    exact EqMixed.ne_int_str (Post.here (t := s.toks) L (njk rfl) h)
  · obtain ⟨t, rfl⟩ := er_str ha; obtain ⟨u, rfl⟩ := er_int hb
    exact EqMixed.ne_str_int (Post.here (t := s.toks) L (njk rfl) h)
  · obtain ⟨t, rfl⟩ := er_str ha; obtain ⟨u, rfl⟩ := er_str hb
    refine P.ne_str (Post.here (t := s.toks) L (njk rfl) ?_)
    rw [Str.ne_of]; exact h
  · obtain rfl := er_ref ha; obtain rfl := er_ref hb
    rcases h with ⟨xs, ys, hx, hy, kx, ky, q⟩ | ⟨xs, ep, ep', hx, hy, q⟩
    · exact cmp_lists_ne rm L hx hy kx ky q
    · obtain ⟨na, kx, dx, rfl, _⟩ := L.obj _ _ hx
      obtain ⟨nb, ky, dy, ey, _⟩ := L.obj _ _ hy
      obtain rfl : ky = [] := by simpa using ey
      refine keq_ne (r := decide (kx = [])) (notSys na) (notSys nb) dx.dictOf dy.dictOf rm.units (fun e => ?_) ?_
      · obtain rfl : kx = [] := List.eq_nil_of_length_eq_zero e
        exact .nil
      · have e : (!(kx.length == ([] : List (V × Value)).length && decide (kx = []))) = decide (kx.map (fun kv => (kv.1, er kv.2)) ≠ []) := by
          cases kx <;> simp
        rw [e]; exact Post.here (t := s.toks) L (njk rfl) q
theorem cmp_ok {op : CmpOp} {a b : V} {Q : V → MH → Prop} (h : cmpW op a b H Q) : WOp2 C n (compareOp op) a b H Q := by
  cases op
  case Eq => exact eq_ok h
  case NotEq => exact ne_ok h
  case Is =>
    refine ⟨fun A s δ a' b' rm L ha hb => ?_⟩
    show wpAny C.M A (do return Value.bool (← isSame a' b')) _ _ s
    exact wpAny_bind (isSame_W L ha hb h.1 (wpAny_pure (Post.here (t := s.toks) L (njk rfl) h.2)))
  case IsNot =>
    refine ⟨fun A s δ a' b' rm L ha hb => ?_⟩
    show wpAny C.M A (do return Value.bool (!(← isSame a' b'))) _ _ s
    exact wpAny_bind (isSame_W L ha hb h.1 (wpAny_pure (Post.here (t := s.toks) L (njk rfl) h.2)))
  case In => exact (h : False).elim
  case NotIn => exact (h : False).elim
  case Lt => exact ints_ok h fun x y t u A s δ h L => P.lt_int (Post.here (t := s.toks) L (njk rfl) h)
  case LtE => exact ints_ok h fun x y t u A s δ h L => P.le_int (Post.here (t := s.toks) L (njk rfl) h)
  case Gt => exact ints_ok h fun x y t u A s δ h L => P.gt_int (Post.here (t := s.toks) L (njk rfl) h)
  case GtE => exact ints_ok h fun x y t u A s δ h L => P.ge_int (Post.here (t := s.toks) L (njk rfl) h)
end
end N226
end
noncomputable section
open PySem PySem.W PySem.Calls PyProof.Rows
set_option maxRecDepth 10000
namespace N226
noncomputable def atKeyV (es : List (V × V)) (k : V) : Option V := (es.find? fun kv => kv.1 = k).map (·.2)
noncomputable def putV (es : List (V × V)) (k v : V) : List (V × V) := if es.any (fun kv => kv.1 = k) then es.map (fun kv => if kv.1 = k then (kv.1, v) else kv) else es ++ [(k, v)]
noncomputable abbrev erKV (kv : V × Value) : V × V := (kv.1, er kv.2)
theorem atKeyV_er (kvs : List (V × Value)) (k : V) : atKeyV (kvs.map erKV) k = (valueAt kvs k).map er := by
  unfold atKeyV valueAt
  induction kvs with
  | nil => rfl
  | cons a l ih =>
    simp only [List.map_cons, List.find?_cons]
    by_cases h : a.1 = k
    · simp [h]
    · simp only [h, decide_false]
      exact ih
theorem putV_er (kvs : List (V × Value)) (k : V) (v : Value) : putV (kvs.map erKV) k (er v) = (stored kvs k v).map erKV := by
  unfold putV stored
  have e : (kvs.map erKV).any (fun kv => kv.1 = k) = kvs.any (fun kv => kv.1 = k) := by
    rw [List.any_map]; rfl
  rw [e]
  by_cases h : kvs.any (fun kv => kv.1 = k) = true
  · rw [if_pos h, if_pos h, List.map_map, List.map_map]
    refine List.map_congr_left fun a _ => ?_
    show (if a.1 = k then _ else _) = erKV (if a.1 = k then _ else _)
    by_cases q : a.1 = k <;> simp [q]
  · rw [if_neg h, if_neg h, List.map_append]; rfl
theorem putV_NJ {es : List (V × V)} {k v : V} (h : NJ (es.map (·.2))) (hv : v ≠ .junk) : NJ ((putV es k v).map (·.2)) := by
  intro x hx
  unfold putV at hx
  split at hx
  · rw [List.map_map] at hx
    obtain ⟨kv, h1, h2⟩ := List.mem_map.mp hx
    by_cases q : kv.1 = k
    · simp only [Function.comp, q, if_true] at h2
      exact h2 ▸ hv
    · simp only [Function.comp, q, if_false] at h2
      exact h2 ▸ h _ (List.mem_map_of_mem h1)
  · rw [List.map_append] at hx
    rcases List.mem_append.mp hx with hx | hx
    · exact h _ hx
    · simp at hx; exact hx ▸ hv
noncomputable def pick (vs : List V) (i : Int) : Option V := if 0 ≤ i then vs[i.toNat]? else if -(vs.length : Int) ≤ i then vs[(i + vs.length).toNat]? else none
noncomputable def subW (a k : V) (H : MH) (Q : V → MH → Prop) : Prop := match a with
  | .ref x => match H x with
    | some (.list vs) => ∃ i v, k = .int i ∧ -1000000 ≤ i ∧ i ≤ 1000000 ∧ pick vs i = some v ∧ Q v H
    | some (.tuple vs) => ∃ i v, k = .int i ∧ -1000000 ≤ i ∧ i ≤ 1000000 ∧ pick vs i = some v ∧ Q v H
    | some (.dict es _) => ∃ v, isKey k = true ∧ atKeyV es k = some v ∧ Q v H
    | _ => False
  | _ => False
noncomputable def notSlice (e : Expr) : Bool := !Nat.beq e.ctorIdx 26
section
variable {C : Cx} {S : St} {n : Nat} {ρ : Loc} {H : MH}
theorem pick_get {vs' : List Value} {i : Int} {v : V} (h : pick (vs'.map er) i = some v) : ∃ x, er x = v ∧ (0 ≤ i ∧ vs'.toArray[i.toNat]? = some x ∨ i < 0 ∧ -(vs'.toArray.size : Int) ≤ i ∧ vs'.toArray[(i + vs'.toArray.size).toNat]? = some x) := by
  unfold pick at h
  rw [List.length_map] at h
  split at h
  · rw [List.getElem?_map] at h
    obtain ⟨x, h1, h2⟩ := Option.map_eq_some_iff.mp h
    exact ⟨x, h2, .inl ⟨by assumption, by simpa using h1⟩⟩
  · split at h
    · rw [List.getElem?_map] at h
      obtain ⟨x, h1, h2⟩ := Option.map_eq_some_iff.mp h
      exact ⟨x, h2, .inr ⟨by walk_at "O", by simpa using by assumption, by simpa using h1⟩⟩
    · cases h
theorem pick_nj {vs : List V} {i : Int} {v : V} (h : pick vs i = some v) (nj : NJ vs) : v ≠ .junk := by
  unfold pick at h
  split at h
  · exact nj _ (List.mem_of_getElem? h)
  · split at h
    · exact nj _ (List.mem_of_getElem? h)
    · cases h
theorem seqIndex_any {k : Int} {m j : Nat} (h : 0 ≤ k ∧ j = k.toNat ∨ k < 0 ∧ -(m : Int) ≤ k ∧ j = (k + m).toNat) (hj : j < m) : seqIndex? k m = some j := by
  unfold seqIndex?
  rcases h with ⟨h0, rfl⟩ | ⟨h0, h1, rfl⟩
  · simp [Int.not_lt.mpr h0, h0]; walk_at "O"
  · have h2 : 0 ≤ k + m := by walk_at "O"
    simp [h0, h2]; walk_at "O"
theorem size_of_get {α : Type} {xs : Array α} {j : Nat} {x : α} (h : xs[j]? = some x) : j < xs.size := by
  rcases Nat.lt_or_ge j xs.size with q | q
  · exact q
  · rw [Array.getElem?_eq_none q] at h; cases h
theorem subscripted_of {slice : Expr} {o i : Value} (h : notSlice slice = true) : subscripted slice false o i = operate [o, i] (getItem o i) := by
  cases slice <;> first | rfl | cases h
theorem sub_ok {a k : V} {Q : V → MH → Prop} {value slice : Expr} (hs : notSlice slice = true) (h : subW a k H Q) : WOp2 C n (fun o i => subscriptTail value slice o i) a k H Q := by
  refine ⟨fun A s δ a' k' rm L ha hk => ?_⟩
  cases a with
  | ref x =>
    obtain rfl := er_ref ha
    show wpAny C.M A (subscriptTail value slice (.ref x) k') _ _ s
    unfold subW at h
    dsimp only at h
    cases hx : H x with
    | none => rw [hx] at h; exact h.elim
    | some mo =>
      rw [hx] at h
      cases mo with
      | list vs =>
        obtain ⟨i, v, rfl, h1, h2, hp, q⟩ := h
        obtain ⟨t, rfl⟩ := er_int hk
        obtain ⟨_, vs', m, ex, rfl, nj⟩ := L.obj _ _ hx
        have ix : s.heap.IsList x vs'.toArray := ⟨_, ex, rfl, m, rfl⟩
        have jv := pick_nj hp nj
        obtain ⟨y, rfl, h3⟩ := pick_get hp
        refine tail_any ix.typeIs PySem.slot_list_getitem.lookup ?_ (subscripted_of hs)
        rcases h3 with ⟨h0, e⟩ | ⟨h0, hl, e⟩
        · exact wpAny_getItem_list ix h0 (by walk_at "O") e (Post.here (t := s.toks) L jv q)
        · exact wpAny_getItem_list_neg ix h0 hl (by walk_at "O") e (Post.here (t := s.toks) L jv q)
      | slist vs => exact h.elim
      | tuple vs =>
        obtain ⟨i, v, rfl, h1, h2, hp, q⟩ := h
        obtain ⟨t, rfl⟩ := er_int hk
        obtain ⟨vs', m, ex, rfl, nj⟩ := L.obj _ _ hx
        have ix : IsTup s.heap x vs'.toArray := ⟨_, ex, rfl, m, rfl⟩
        have jv := pick_nj hp nj
        obtain ⟨y, rfl, h3⟩ := pick_get hp
        refine tail_any ix.typeIs PyProof.Rows.slot_tuple_getitem.lookup ?_ (subscripted_of hs)
        rcases h3 with ⟨h0, e⟩ | ⟨h0, hl, e⟩
        · exact PyProof.Rows.getItem_tuple ix (by walk_at "O") (by walk_at "O") (seqIndex_any (.inl ⟨h0, rfl⟩) (size_of_get e)) e (Post.here (t := s.toks) L jv q)
        · exact PyProof.Rows.getItem_tuple ix (by walk_at "O") (by walk_at "O") (seqIndex_any (.inr ⟨h0, hl, rfl⟩) (size_of_get e)) e (Post.here (t := s.toks) L jv q)
      | rng a b c => exact h.elim
      | view d => exact h.elim
      | dict es ep =>
        obtain ⟨v, ik, hp, q⟩ := h
        obtain ⟨na, kvs, dx, rfl, nj⟩ := L.obj _ _ hx
        have hp' : (valueAt kvs k).map er = some v := by rw [← atKeyV_er]; exact hp
        obtain ⟨y, hy, rfl⟩ := Option.map_eq_some_iff.mp hp'
        have jv : er y ≠ .junk := by
          unfold valueAt at hy
          obtain ⟨kv, h1, h2⟩ := Option.map_eq_some_iff.mp hy
          refine nj _ (List.mem_map.mpr ⟨erKV kv, List.mem_map_of_mem (List.mem_of_find?_eq_some h1), ?_⟩)
          rw [← h2]
        refine tail_any dx.dictOf.typeIs PySem.slot_dict_getitem.lookup ?_ (subscripted_of hs)
        exact wpAny_getItem_of (mix_is hk ik) dx.dictOf.mapOf hy (Post.here L jv q)
      | inst Cl fs => exact h.elim
      | cinst Cl => exact h.elim
  | _ => exact h.elim
theorem WE_sub {value slice : Expr} {pos} {Q : V → MH → Prop} (hs : notSlice slice = true) (h : WE C S n value ρ H fun a H1 => WE C S n slice ρ H1 fun k H2 => subW a k H2 Q) : WE C S n (.Subscript value slice pos) ρ H Q := by
  refine ⟨fun A env s δ rm eo F L => Subscript_ (h.bind rm eo F L fun a s1 δ1 H1 L1 K1 F1 ja h1 => h1.bind rm eo F1 L1 fun b s2 δ2 H2 L2 K2 F2 jb h2 => ?_)⟩
  exact noE_any ((sub_ok hs h2).run A s2 δ2 a b rm L2 rfl rfl) fun v s' p => (p.trans K2).trans K1
structure WP (C : Cx) (S : St) (n : Nat) (e : Option Expr) (ρ : Loc) (H : MH) (Q : Option Int → MH → Prop) : Prop where
  run : ∀ (A : Around) (env : Env) (s : Shared) (δ : Addr → Addr), Room A n → EnvOK S env → FrOK C S env s.heap ρ δ H → Lay C s.heap δ H →
    wpAny C.M A (evalPart e env) (fun v s' => ∃ δ' H' p, Lay C s'.heap δ' H' ∧ Keeps noπ δ H s δ' H' s' ∧ IsPart v p ∧ Q p H') noE s
theorem WP_none {Q : Option Int → MH → Prop} (h : Q none H) : WP C S n none ρ H Q :=
  ⟨fun A env s δ rm eo F L => wpAny_evalPart_none ⟨δ, H, none, L, Keeps.refl _ _ _ _, .none, h⟩⟩
theorem WP_some {e : Expr} {Q : Option Int → MH → Prop} (h : WE C S n e ρ H fun v H1 => ∃ i, v = .int i ∧ Q (some i) H1) : WP C S n (some e) ρ H Q :=
  ⟨fun A env s δ rm eo F L => wpAny_evalPart_some (h.bind rm eo F L fun a s1 δ1 H1 L1 K1 F1 ja ⟨i, hi, q⟩ => by
    obtain ⟨t, rfl⟩ := er_int hi
    exact ⟨δ1, H1, some i, L1, K1, .int i t, q⟩)⟩
noncomputable def clip (m : Nat) (i : Int) : Nat := (max 0 (min (if i < 0 then i + m else i) m)).toNat
noncomputable def cut (vs : List V) (lo hi : Option Int) : List V := (vs.drop (lo.elim 0 (clip vs.length))).take (hi.elim vs.length (clip vs.length) - lo.elim 0 (clip vs.length))
noncomputable def sliceW (a : V) (lo hi : Option Int) (H : MH) (Q : V → MH → Prop) : Prop :=
  ∃ x vs, a = .ref x ∧ (H x = some (.list vs) ∨ H x = some (.slist vs)) ∧ vs.length ≤ lim ∧ ∀ c, H c = none → Q (.ref c) (H.set c (.list (cut vs lo hi)))
theorem WE_slice {value : Expr} {lo hi : Option Expr} {p pos : Pos} {Q : V → MH → Prop} (h : WE C S n value ρ H fun a H1 => WP C S n lo ρ H1 fun l H2 => WP C S n hi ρ H2 fun u H3 => sliceW a l u H3 Q) :
    WE C S n (.Subscript value (.Slice lo hi none p) pos) ρ H Q := by
  refine ⟨fun A env s δ rm eo F L => Subscript_ (h.bind rm eo F L fun a s1 δ1 H1 L1 K1 F1 ja h1 => wpAny_Slice (wpAny_mono (h1.run A env s1 δ1 rm eo F1 L1) (fun l s2 ⟨δ2, H2, pl, L2, K2, il, h2⟩ => wpAny_mono (h2.run A env s2 δ2 rm eo (F1.keeps K2) L2) (fun u s3 ⟨δ3, H3, pu, L3, K3, iu, h3⟩ => wpAny_evalPart_none ?_) fun _ _ x => x) fun _ _ x => x))⟩
  obtain ⟨x, vs, ea, hx, hl, q⟩ := h3
  obtain rfl := er_ref ea
  have L4 := L3.push ({ cls := .type "slice", data := .fields #[l, u, .none] } : Obj)
  obtain ⟨vs', ix, rfl, nj⟩ : ∃ vs', (s3.heap.push { cls := .type "slice", data := .fields #[l, u, .none] }).IsList x (List.toArray vs') ∧ vs'.map er = vs ∧ NJ vs := by
    rcases hx with hx | hx
    · obtain ⟨_, vs', m, ex, r⟩ := L4.obj _ _ hx
      exact ⟨vs', ⟨_, ex, rfl, m, rfl⟩, r⟩
    · obtain ⟨vs', ⟨o, ex, r⟩, q⟩ := L4.obj _ _ hx
      exact ⟨vs', ⟨o, L4.keep _ _ ex, r⟩, q⟩
  refine tail_any (s := { s3 with heap := s3.heap.push { cls := .type "slice", data := .fields #[l, u, .none] } }) (ops := [.ref s3.heap.objs.size, .ref x]) ix.typeIs PySem.list_getitem_lookup ?_ rfl
  refine wpAny_getItem_list_slice (s := { s3 with heap := s3.heap.push { cls := .type "slice", data := .fields #[l, u, .none] } }) ix (Heap.IsSliceOf.new _ l u .none) il iu .none (by simp) ?_ (by simpa using lim_of (by simpa using hl))
  rw [slicePick_plain]
  have e : ((vs'.toArray.toList.drop (pl.elim 0 (clipAt vs'.toArray.size))).take (pu.elim vs'.toArray.size (clipAt vs'.toArray.size) - pl.elim 0 (clipAt vs'.toArray.size))).map er = cut (vs'.map er) pl pu := by
    unfold cut
    rw [List.map_take, List.map_drop, List.length_map]
    rfl
  refine Post.trans ((K1.trans K2).trans (K3.trans (Keeps.grow (t := s3.toks) fun _ _ e => Heap.get?_push_of_some _ e))) (Post.list (t := s3.toks) L4 ?_ fun c hc => ?_)
  · rw [e]; unfold cut
    exact fun v hv => nj v (List.mem_of_mem_drop (List.mem_of_mem_take hv))
  · rw [e]; exact q c hc
theorem WE_list {es : List Expr} {pos} {Q : V → MH → Prop} (h : WEs C S n es ρ H fun vs H1 => vs.length ≤ lim ∧ ∀ c, H1 c = none → Q (.ref c) (H1.set c (.list vs))) : WE C S n (.List es pos) ρ H Q := by
  refine ⟨fun A env s δ rm eo F L => List_ (wpAny_mono (h.run A env s δ rm eo F L pos) (fun vs s1 ⟨δ1, H1, L1, K1, jv, hl, q⟩ => wpAny_newObj_type ?_ ?_) fun _ _ x => x)⟩
  · exact Post.trans K1 (Post.list (t := s1.toks) L1 (fun v hv => by obtain ⟨u, h1, rfl⟩ := List.mem_map.mp hv; exact jv u h1) q)
  · show vs.toArray.size ≤ sizeLine
    simpa using lim_of (by simpa using hl)
theorem WE_tuple {es : List Expr} {k : Nat} {pos} {Q : V → MH → Prop} (h : WEs C S n es ρ H fun vs H1 => vs.length ≤ lim ∧ ∀ c, H1 c = none → Q (.ref c) (H1.set c (.tuple vs))) : WE C S n (.Tuple es k pos) ρ H Q := by
  refine ⟨fun A env s δ rm eo F L => Tuple_ (wpAny_mono (h.run A env s δ rm eo F L pos) (fun vs s1 ⟨δ1, H1, L1, K1, jv, hl, q⟩ => wpAny_newObj_type ?_ ?_) fun _ _ x => x)⟩
  · exact Post.trans K1 (Post.tuple (t := s1.toks) L1 (fun v hv => by obtain ⟨u, h1, rfl⟩ := List.mem_map.mp hv; exact jv u h1) q)
  · show vs.toArray.size ≤ sizeLine
    simpa using lim_of (by simpa using hl)
theorem dictAt_new (h : Heap) : (h.push { cls := .type "dict", data := .dict #[] }).DictAt (mix C.prog C.w) h.objs.size [] 0 := by
  obtain ⟨o, es, ep, ho, hx, hd, r⟩ := Heap.DictOf.new (knd := mix C.prog C.w) h
  have := Heap.get?_push_size h (o := ({ cls := .type "dict", data := .dict #[] } : Obj)) rfl
  rw [this] at ho; cases ho; cases hd
  exact ⟨_, _, this, hx, rfl, r⟩
theorem Post.dict {s : Shared} {δ : Addr → Addr} {Q : V → MH → Prop} {t : Nat} (L : Lay C s.heap δ H) (q : ∀ c, H c = none → Q (.ref c) (H.set c (.dict [] 0))) :
    Post C noπ δ H s Q (.ref s.heap.objs.size) { s with heap := s.heap.push { cls := .type "dict", data := .dict #[] }, toks := t } := by
  have hn := size_none s.heap
  have hB : C.hB.get? s.heap.objs.size = none := by
    cases e : C.hB.get? s.heap.objs.size with
    | none => rfl
    | some o => rw [L.keep _ _ e] at hn; cases hn
  refine ⟨δ, _, (L.push _).add (mo := .dict [] 0) ⟨hB, [], dictAt_new _, rfl, fun _ h => nomatch h⟩ (fun _ _ e => by cases e) (L.freshδ hn), ?_, njk rfl, q _ (L.fresh hn)⟩
  exact Keeps.growAdd (fun _ _ e => by cases e) hn fun b o e => Heap.get?_push_of_some _ e
theorem WE_dict0 {pos} {Q : V → MH → Prop} (h : ∀ c, H c = none → Q (.ref c) (H.set c (.dict [] 0))) : WE C S n (.Dict [] [] pos) ρ H Q :=
  ⟨fun A env s δ rm eo F L => wpAny_Dict_empty (Post.dict (t := s.toks) L h)⟩
end
end N226
end
noncomputable section
open PySem PySem.W PySem.Calls PyProof.Rows
set_option maxRecDepth 10000
namespace N226
noncomputable def fieldOf (fs : List (Nat × V)) (i : Nat) : Option V := (fs.find? fun f => f.1 == i).map (·.2)
noncomputable def putF (i : Nat) (v : V) : List (Nat × V) → List (Nat × V)
  | [] => [(i, v)]
  | f :: r => if f.1 == i then (f.1, v) :: r else f :: putF i v r
theorem an_eq {f i : Nat} {name : Str} (hf : f < AN.length) (hi : idx AN name = some i) : (AN.getD f ⟨#[]⟩ == name) = (f == i) := by
  have h1 := idx_get hi
  have h2 : AN[f]? = some (AN.getD f ⟨#[]⟩) := by simp [List.getD, List.getElem?_eq_getElem hf]
  rw [Bool.eq_iff_iff, beq_iff_eq, beq_iff_eq]
  constructor
  · intro e
    rw [e, ← h1] at h2
    exact (List.getElem?_inj hf AN_nodup).mp h2
  · rintro rfl
    rw [h1] at h2; exact (Option.some.inj h2).symm
theorem isStr_of {v : Value} {x name : Str} (h : er v = .str x) : v.isStr name = (x == name) := by
  obtain ⟨t, rfl⟩ := er_str h; rfl
theorem FsRel.nil : FsRel [] [] := ⟨rfl, fun _ h => nomatch h⟩
theorem FsRel.uncons {e : DictEntry} {es : List DictEntry} {fs : List (Nat × V)} (h : FsRel (e :: es) fs) : ∃ f r, fs = f :: r ∧ er e.key = .str (AN.getD f.1 ⟨#[]⟩) ∧ er e.val = f.2 ∧ f.1 < AN.length ∧ FsRel es r := by
  obtain ⟨h1, h2⟩ := h
  cases fs with
  | nil => cases h1
  | cons f r =>
    simp only [List.map_cons, List.cons.injEq, Prod.mk.injEq] at h1
    exact ⟨f, r, rfl, h1.1.1, h1.1.2, h2 f (by simp), h1.2, fun x hx => h2 x (List.mem_cons_of_mem _ hx)⟩
theorem FsRel.cons {e : DictEntry} {es : List DictEntry} {f : Nat × V} {r : List (Nat × V)} (h1 : er e.key = .str (AN.getD f.1 ⟨#[]⟩)) (h2 : er e.val = f.2) (h3 : f.1 < AN.length) (h : FsRel es r) : FsRel (e :: es) (f :: r) :=
  ⟨by simp only [List.map_cons, h1, h2, h.1], fun x hx => by rcases List.mem_cons.mp hx with rfl | hx; exact h3; exact h.2 x hx⟩
theorem FsRel.get {es : List DictEntry} {fs : List (Nat × V)} {name : Str} {i : Nat} (h : FsRel es fs) (hi : idx AN name = some i) : (∀ v, fieldOf fs i = some v → ∃ val, getL name es = some (some val) ∧ er val = v) ∧ (fieldOf fs i = none → getL name es = some none) := by
  induction es generalizing fs with
  | nil =>
    have : fs = [] := by have := h.1; simpa using this.symm
    subst this
    exact ⟨fun v e => (nomatch e), fun _ => rfl⟩
  | cons e es ih =>
    obtain ⟨f, r, rfl, h1, h2, h3, h4⟩ := h.uncons
    have ih := ih h4
    have hk : e.key.isStr name = (f.1 == i) := (isStr_of h1).trans (an_eq h3 hi)
    have hr : e.refKey = false := by
      obtain ⟨t, ht⟩ := er_str h1
      unfold DictEntry.refKey; rw [ht]
    unfold fieldOf getL at *
    simp only [List.find?_cons, hk]
    cases q : (f.1 == i) with
    | true => exact ⟨fun v e' => ⟨e.val, rfl, h2.trans (Option.some.inj e')⟩, fun e' => by cases e'⟩
    | false =>
      simp only [List.any_cons, hr, Bool.false_or]
      exact ih
theorem FsRel.put {es : List DictEntry} {fs : List (Nat × V)} {name : Str} {i : Nat} {v : Value} {hsh : Int} {t : Tok} (h : FsRel es fs) (hi : idx AN name = some i) (hl : i < AN.length) : FsRel (putL name hsh (.str name t) v es) (putF i (er v) fs) := by
  induction es generalizing fs with
  | nil =>
    have : fs = [] := by have := h.1; simpa using this.symm
    subst this
    refine FsRel.cons ?_ rfl hl .nil
    have := idx_get hi
    simp [List.getD, this]; rfl
  | cons e es ih =>
    obtain ⟨f, r, rfl, h1, h2, h3, h4⟩ := h.uncons
    have hk : e.key.isStr name = (f.1 == i) := (isStr_of h1).trans (an_eq h3 hi)
    simp only [putL, putF, hk]
    cases q : (f.1 == i) with
    | true => exact FsRel.cons h1 rfl h3 h4
    | false => exact FsRel.cons h1 h2 h3 (ih h4)
theorem putF_NJ {fs : List (Nat × V)} {i : Nat} {v : V} (h : NJ (fs.map (·.2))) (hv : v ≠ .junk) : NJ ((putF i v fs).map (·.2)) := by
  induction fs with
  | nil => intro x hx; simp [putF] at hx; exact hx ▸ hv
  | cons f r ih =>
    have h1 : f.2 ≠ .junk := h _ (by simp)
    have h2 : NJ (r.map (·.2)) := fun x hx => h x (by simp only [List.map_cons]; exact List.mem_cons_of_mem _ hx)
    intro x hx
    unfold putF at hx
    split at hx
    · simp only [List.map_cons, List.mem_cons] at hx
      rcases hx with rfl | hx
      · exact hv
      · exact h2 x hx
    · simp only [List.map_cons, List.mem_cons] at hx
      rcases hx with rfl | hx
      · exact h1
      · exact ih h2 x hx
theorem idx_lt {ns : List Str} {x : Str} {i : Nat} (h : idx ns x = some i) : i < ns.length := by
  have := idx_get h
  exact (List.getElem?_eq_some_iff.mp this).1
noncomputable def getOK (K : Frag) (Cl : Addr) (name : Str) : Bool := plainGet K Cl name && hasDictIn K Cl && (match findIn K (.ref Cl) name with | some attr => noGet K attr | none => false)
noncomputable def setOK (K : Frag) (Cl : Addr) (name : Str) : Bool := findIn K (.ref Cl) "__setattr__" == some (some (.builtin "object.__setattr__")) && plainOver K Cl && takerIn K Cl name == some none && hasDictIn K Cl
noncomputable def methOK (K : Frag) (Cl : Addr) (name : Str) (f : Addr) : Bool := plainGet K Cl name && findIn K (.ref Cl) name == some (some (.ref f)) && isFn K (.ref f)
noncomputable def noBi : V → Bool
  | .bi _ => false
  | _ => true
theorem handedIn_of {v : Value} (h : noBi (er v) = true) : handedIn v = true := by
  cases v <;> first | rfl | cases h
section
variable {C : Cx} {S : St} {n : Nat} {ρ : Loc} {H : MH}
theorem Lay.inst {h : Heap} {δ : Addr → Addr} {x Cl : Addr} {fs : List (Nat × V)} (L : Lay C h δ H) (hx : H x = some (.inst Cl fs)) : C.hB.get? (δ x) = none ∧ h.get? x = some (instObj Cl (δ x)) ∧ ∃ es m, h.get? (δ x) = some (dictOf es m) ∧ FsRel es fs ∧ NJ (fs.map (·.2)) := L.obj _ _ hx
theorem instAt {h : Heap} {x Cl dx : Addr} {es : List DictEntry} {m : Nat} (e1 : h.get? x = some (instObj Cl dx)) (e2 : h.get? dx = some (dictOf es m)) : InstAt h x (instObj Cl dx) Cl (some (dictOf es m)) := ⟨e1, rfl, rfl, e2⟩
theorem attr_ok {a v : V} {x Cl : Addr} {fs : List (Nat × V)} {name : Str} {i : Nat} {Q : V → MH → Prop} (ha : a = .ref x) (hi : idx AN name = some i) (hx : H x = some (.inst Cl fs)) (hg : getOK C.K Cl name = true) (hv : fieldOf fs i = some v) (hb : noBi v = true) (q : Q v H) : WOp1 C n (fun o => getAttr o name true) a H Q := by
  refine ⟨fun A s δ a' rm L ha' => ?_⟩
  subst ha
  obtain rfl := er_ref ha'
  obtain ⟨_, e1, es, m, e2, r, nj⟩ := L.inst hx
  obtain ⟨val, h1, rfl⟩ := (r.get hi).1 v hv
  obtain ⟨hg, hn⟩ := Bool.and_eq_true_iff.mp hg
  obtain ⟨hp, hh⟩ := Bool.and_eq_true_iff.mp hg
  have jv : er val ≠ .junk := by
    unfold fieldOf at hv
    obtain ⟨f, h1, h2⟩ := Option.map_eq_some_iff.mp hv
    exact h2 ▸ nj _ (List.mem_map_of_mem (List.mem_of_find?_eq_some h1))
  cases hf : findIn C.K (.ref Cl) name with
  | none => rw [hf] at hn; cases hn
  | some attr =>
    rw [hf] at hn
    exact get_value (C.X.keeps L.keep) (instAt e1 e2) (plainGet_of hp).1 (findObj_own hh hf hn h1) (handedIn_of hb) (Post.here L jv q)
set_option tactic.hygienic true in
theorem osa_at {prog : Program} {w : World} {A : Around} {s : Shared} {R : Result → Shared → Prop} {K : Frag} {x Cl : Addr} {ox od od' : Obj} {dx : Addr} {name : Str} {tk : Tok} {v : Value} {es : List DictEntry} {m : Nat} (X : K.In s.heap)
    (I : InstAt s.heap x ox Cl (some od)) (hd : ox.dict = some dx) (hp : plainOver K Cl = true) (ht : takerIn K Cl name = some none) (hh : (clsIn K Cl).any (·.hasDict) = true)
    (hl : (lookIn name od).isSome = true)
    (e : Obj.putName name (PyData.keyHash w.params name) (.str name s.toks) v od = od') (e' : od' = dictOf es m) (hz : es.length ≤ 1000)
    (h : ∀ h', Heap.SameBut dx s.heap h' → h'.get? dx = some od' → R (.ok (.ret .none)) { s with heap := h', toks := s.toks + 1 }) :
    codeAny (model prog w) A (.call (.builtin "object.__setattr__") ⟨[.ref x, .str name tk, v], []⟩) R s := by
  refine osa_open X I hp ht fun b => ?_
  obtain ⟨cd, hc, hd'⟩ := any_some hh
  obtain ⟨hx, hcl, hn, D⟩ := I
  rw [hd] at D
  have D' : (s.heap.update dx (Obj.putName name (PyData.keyHash w.params name) (.str name s.toks) v)).get? dx = some od' := by
    have := Heap.get?_update_self (h := s.heap) (a := dx) (o := od) (Obj.putName name (PyData.keyHash w.params name) (.str name s.toks) v) D (by rw [e, e']; rfl)
    rw [this, e]
  obtain ⟨oc, odi, oda, osl⟩ := ox
  dsimp only at hcl hd
  subst hcl hd
  refine wpAny_bind (wpAny_pure (wpAny_bind (wpAny_bind (wpAny_loadPart hx (wpAny_bind ((looks_clsIn X hc).here ?_))))))
  rw [hd']
  refine wpAny_pure (a := some dx) (wpAny_bind (wpAny_pure (wpAny_bind ?_)))
  unfold nsSet
  refine wpAny_bind (wpAny_bind (wpAny_askSetting (wpAny_pure (wpAny_bind (wpAny_mkText (wpAny_bind (wpAny_loadPart D ?_)))))))
  unfold lookIn at hl
  split at hl
  · rename_i es₀ n₀ q
    rw [q]
    dsimp only
    have c : (!es₀.any (·.key.isStr name) && es₀.any (·.refKey)) = false := by
      rw [← Array.any_toList, ← Array.any_toList]
      split at hl
      · rename_i en he
        rw [List.any_eq_true.mpr ⟨en, List.mem_of_find?_eq_some he, List.find?_some he⟩]; rfl
      · split at hl
        · cases hl
        · rename_i z; rw [Bool.not_eq_true] at z; rw [z, Bool.and_false]
    rw [aRefKeyMayBeTheName_at, c]
    refine wpAny_updatePart D ?_
    refine wpAny_bind (wpAny_lookBehind D' (by rw [e']; exact pastItsLine_dict (by rw [List.size_toArray, sizeLine_eq]; walk_at "O")) ?_)
    exact wpAny_pure (h _ (Heap.SameBut.update _ _ _) D')
  · cases hl
structure WSet (C : Cx) (n : Nat) (a : V) (name : Str) (v : V) (H : MH) (Q : MH → Prop) : Prop where
  run : ∀ (A : Around) (s : Shared) (δ : Addr → Addr) (a' v' : Value), Room A n → Lay C s.heap δ H → er a' = a → er v' = v → v ≠ .junk → wpAny C.M A (setAttr a' name v') (fun _ s' => ∃ δ' H', Lay C s'.heap δ' H' ∧ Keeps noπ δ H s δ' H' s' ∧ Q H') noE s
theorem putL_len (name : Str) (hsh : Int) (key v : Value) (es : List DictEntry) : (putL name hsh key v es).length ≤ es.length + 1 := by
  induction es with
  | nil => simp [putL]
  | cons e r ih =>
    unfold putL
    split
    · simp
    · simp only [List.length_cons]; walk_at "O"
theorem FsRel.length {es : List DictEntry} {fs : List (Nat × V)} (h : FsRel es fs) : es.length = fs.length := by
  have := congrArg List.length h.1
  simpa using this
theorem set_ok {a v : V} {x Cl : Addr} {fs : List (Nat × V)} {name : Str} {i : Nat} {Q : MH → Prop} (ha : a = .ref x) (hi : idx AN name = some i) (hx : H x = some (.inst Cl fs)) (hz : fs.length < 900) (hg : setOK C.K Cl name = true) (q : Q (H.set x (.inst Cl (putF i v fs)))) : WSet C n a name v H Q := by
  refine ⟨fun A s δ a' v' rm L ha' hv' jv => ?_⟩
  subst ha hv'
  obtain rfl := er_ref ha'
  obtain ⟨nB, e1, es, m, e2, r, nj⟩ := L.inst hx
  obtain ⟨hg, hh⟩ := Bool.and_eq_true_iff.mp hg
  obtain ⟨hg, ht⟩ := Bool.and_eq_true_iff.mp hg
  obtain ⟨hs, hp⟩ := Bool.and_eq_true_iff.mp hg
  have hl : (lookIn name (dictOf es m)).isSome = true := by
    rw [lookIn_dict]
    cases q : fieldOf fs i with
    | none => rw [(r.get hi).2 q]; rfl
    | some v => obtain ⟨val, h1, _⟩ := (r.get hi).1 v q; rw [h1]; rfl
  refine set_plain (C.X.keeps L.keep) (instAt e1 e2) (beq_iff_eq.mp hs) (osa_at (s := { s with toks := s.toks + 1 }) (C.X.keeps L.keep) (instAt e1 e2) rfl hp (beq_iff_eq.mp ht) hh hl (putName_dict _ _ _ _ _ _) rfl ?_ fun h' sb ed => ?_)
  · have h1 := putL_len name (PyData.keyHash C.w.params name) (.str name (s.toks + 1)) v' es
    have h2 := r.length
    exact Nat.le_trans h1 (by walk_at "O")
  · exact ⟨δ, _, L.turnInst hx sb ed ⟨r.put hi (idx_lt hi), putF_NJ nj jv⟩, Keeps.turnInst ⟨_, _, hx⟩ sb ed, q⟩
theorem meth_ok {a : V} {x Cl f : Addr} {fs : List (Nat × V)} {name : Str} {i : Nat} {Q : V → List V → Prop} (ha : a = .ref x) (hi : idx AN name = some i) (hx : H x = some (.inst Cl fs)) (hg : methOK C.K Cl name f = true) (hv : fieldOf fs i = none) (q : Q (.ref f) [.ref x]) : WMeth C a name H Q := by
  refine ⟨fun A s δ a' pl L ha' => ?_⟩
  subst ha
  obtain rfl := er_ref ha'
  obtain ⟨_, e1, es, m, e2, r, nj⟩ := L.inst hx
  obtain ⟨hg, hf⟩ := Bool.and_eq_true_iff.mp hg
  obtain ⟨hp, hn⟩ := Bool.and_eq_true_iff.mp hg
  refine method_fn (C.X.keeps L.keep) (instAt e1 e2) (plainGet_of hp).1 (plainGet_of hp).2 (beq_iff_eq.mp hn) (beq_iff_eq.mp hf) (by show (lookIn name (dictOf es m)).map _ = _; rw [lookIn_dict, (r.get hi).2 hv]; rfl) ⟨rfl, ?_, q⟩
  intro v hv
  rcases List.mem_cons.mp hv with rfl | hv
  · exact njk rfl
  · cases hv
end
end N226
end
noncomputable section
open PySem PySem.W PySem.Calls PyProof.Rows
set_option maxRecDepth 10000
namespace N226
noncomputable def argLoc (vs : List V) : Loc := fun i => vs[i]?
noncomputable def stOK (S : St) (m : Nat) : Bool :=
  S.sc.names.all (fun p => p.2 != .free) && (cellsFrom 0 S.sc.names []).all (fun c => S.sc.names.lookup c.1 == some .cell) && decide (m ≤ S.ns.length) &&
  (S.ns.take m).all (fun x => S.sc.names.lookup x == some .local || S.sc.names.lookup x == some .cell) && decide S.ns.Nodup
structure DefIs (C : Cx) (f : Addr) (ex : List Value) (m : Nat) (S : St) (body : List Stmt) : Prop where
  fn : ∃ oc od osl fd, C.K.lookup f = some ⟨oc, od, .func fd, osl⟩ ∧ fd.scope = S.sc ∧ fd.body = .stmts body ∧ fd.closure = [] ∧ fd.globals = mainGlobals ∧ fd.builtins = builtinsNs ∧ codeIn C.K fd.code fd.qualname = true ∧
    fd.scope.isCoroutine = false ∧ fd.scope.isGenerator = false ∧ fd.scope.kind = .function ∧
    ∀ vals : List Value, vals.length + ex.length = m → ∀ s : Shared, C.K.In s.heap → BindsTo s fd ⟨vals, []⟩ ((S.ns.take m).zip (vals ++ ex))
  ok : stOK S m = true
  nj : ∀ v ∈ ex, er v ≠ .junk
  calls : keepIn C.K (.ref f) = true
theorem lookup1_ne {x y : Str} {v : Value} (h : x ≠ y) : List.lookup x [(y, v)] = none := by
  have : (x == y) = false := by simpa using h
  rw [List.lookup_cons, this]; rfl
theorem bindL_eq (kindOf : Str → Option NameKind) (x : Str) : ∀ (binds : List (Str × Value)) (m : Str → Option Value), bindL kindOf binds m x = if kindOf x = some .local then (binds.reverse.lookup x).or (m x) else m x
  | [], m => by unfold bindL; simp
  | (y, v) :: r, m => by
    unfold bindL
    rw [bindL_eq kindOf x r]
    by_cases hk : kindOf x = some .local
    · rw [if_pos hk, if_pos hk, List.reverse_cons, List.lookup_append]
      by_cases hy : kindOf y = some .local
      · rw [if_pos hy]
        by_cases e : x = y
        · subst e; simp
        · simp [e, lookup1_ne e]
      · rw [if_neg hy, lookup1_ne (by rintro rfl; exact hy hk), Option.or_none]
    · rw [if_neg hk, if_neg hk]
      by_cases hy : kindOf y = some .local
      · rw [if_pos hy]
        have e : x ≠ y := by rintro rfl; exact hk hy
        simp [e]
      · rw [if_neg hy]
theorem bindC_eq (kindOf : Str → Option NameKind) (x : Str) : ∀ (binds : List (Str × Value)) (m : Str → Option Value), bindC kindOf binds m x = if kindOf x = some .local then m x else (binds.reverse.lookup x).or (m x)
  | [], m => by unfold bindC; simp
  | (y, v) :: r, m => by
    unfold bindC
    rw [bindC_eq kindOf x r]
    by_cases hk : kindOf x = some .local
    · rw [if_pos hk, if_pos hk]
      by_cases hy : kindOf y = some .local
      · rw [if_pos hy]
      · rw [if_neg hy]
        have e : x ≠ y := by rintro rfl; exact hy hk
        simp [e]
    · rw [if_neg hk, if_neg hk, List.reverse_cons, List.lookup_append]
      by_cases hy : kindOf y = some .local
      · rw [if_pos hy, lookup1_ne (by rintro rfl; exact hk hy), Option.or_none]
      · rw [if_neg hy]
        by_cases e : x = y
        · subst e; simp
        · simp [e, lookup1_ne e]
theorem lookup_rev_nodup {l : List (Str × Value)} (hn : (l.map (·.1)).Nodup) (x : Str) : l.reverse.lookup x = l.lookup x := by
  induction l with
  | nil => rfl
  | cons p r ih =>
    obtain ⟨y, v⟩ := p
    rw [List.map_cons, List.nodup_cons] at hn
    rw [List.reverse_cons, List.lookup_append, ih hn.2, List.lookup_cons, List.lookup_cons]
    by_cases e : x = y
    · subst e
      have : r.lookup x = none := by
        rw [List.lookup_eq_none_iff]
        intro p hp
        rw [bne_iff_ne]
        intro q
        have h1 : p.1 ∈ r.map (·.1) := List.mem_map_of_mem hp
        rw [← q] at h1; exact hn.1 h1
      simp [this]
    · have : (x == y) = false := by simpa using e
      simp [this]
theorem zip_lookup {ns : List Str} (hn : ns.Nodup) {m : Nat} (hm : m ≤ ns.length) {x : Str} {i : Nat} (hx : idx ns x = some i) (vals : List Value) (hl : vals.length = m) : ((ns.take m).zip vals).lookup x = vals[i]? := by
  induction ns generalizing m i vals with
  | nil => cases hx
  | cons y ns ih =>
    rw [List.nodup_cons] at hn
    cases m with
    | zero =>
      obtain rfl : vals = [] := List.eq_nil_of_length_eq_zero hl
      simp
    | succ m =>
      cases vals with
      | nil => cases hl
      | cons v vals =>
        simp only [List.take_succ_cons, List.zip_cons_cons, List.lookup_cons]
        unfold idx at hx
        rw [List.findIdx?_cons] at hx
        by_cases e : y = x
        · subst e
          simp at hx
          subst hx
          simp
        · have e1 : (y == x) = false := by simpa using e
          have e2 : (x == y) = false := by simpa using fun q => e q.symm
          rw [e1] at hx
          simp only [Bool.false_eq_true, if_false] at hx
          obtain ⟨j, hj, rfl⟩ := Option.map_eq_some_iff.mp hx
          rw [e2]
          simp only [List.getElem?_cons_succ]
          exact ih hn.2 (by simpa using hm) hj vals (by simpa using hl)
section
variable {C : Cx} {S : St} {n : Nat} {ρ : Loc} {H : MH}
theorem Room.deeper {A : Around} {env : Env} (r : Room A (n + 1)) : Room (A.deeper env) n := by
  obtain ⟨a, b, c⟩ := r
  refine ⟨?_, ?_, c⟩
  · show A.depth + 1 + _ + _ ≤ _; walk_at "O"
  · show A.units + 3 + _ + _ ≤ _; walk_at "O"
theorem Lay.noB {h : Heap} {δ : Addr → Addr} (L : Lay C h δ H) {a : Addr} (e : h.get? a = none) : C.hB.get? a = none := by
  cases q : C.hB.get? a with
  | none => rfl
  | some o => rw [L.keep _ _ q] at e; cases e
theorem frame_new {s s1 : Shared} {δ : Addr → Addr} {env : Env} {m : Nat} {vals : List Value} (L : Lay C s.heap δ H) (hS : stOK S m = true) (hsc : env.scope = S.sc) (hL : env.locals = s.heap.objs.size) (hc : env.cells = cellsFrom (s.heap.objs.size + 1) S.sc.names []) (hv : vals.length = m) (hj : ∀ v ∈ vals, er v ≠ .junk)
    (x : InCallC s env.locals (bindL env.kindOf ((S.ns.take m).zip vals) fun _ => none) env.cells (bindC env.kindOf ((S.ns.take m).zip vals) fun _ => none) s1) : FrOK C S env s1.heap (argLoc (vals.map er)) δ H := by
  simp only [stOK, Bool.and_eq_true] at hS
  obtain ⟨⟨⟨⟨h1, h2⟩, h3⟩, h4⟩, h5⟩ := hS
  have h3 := of_decide_eq_true h3
  have h5 := of_decide_eq_true h5
  have kind : ∀ x, env.kindOf x = S.sc.names.lookup x := fun x => by unfold Env.kindOf; rw [hsc]
  have fresh : ∀ c, s.heap.objs.size ≤ c → s.heap.get? c = none := fun c h => Heap.get?_none_of_le h
  have own : ∀ c, s.heap.objs.size ≤ c → ¬ Owned δ H c := fun c h o => by
    obtain ⟨ob, e⟩ := L.aliveOwned o
    rw [fresh c h] at e; cases e
  have look : ∀ x i, idx S.ns x = some i → (((S.ns.take m).zip vals).reverse.lookup x) = vals[i]? := fun x i hx => by
    rw [lookup_rev_nodup, zip_lookup h5 h3 hx vals hv]
    rw [List.map_fst_zip]
    · exact h5.sublist (List.take_sublist _ _)
    · rw [List.length_take, hv]; walk_at "O"
  have nj : ∀ i, argLoc (vals.map er) i ≠ some .junk := fun i e => by
    unfold argLoc at e
    rw [List.getElem?_map] at e
    obtain ⟨v, e1, e2⟩ := Option.map_eq_some_iff.mp e
    exact hj v (List.mem_of_getElem? e1) e2
  have val : ∀ x i, idx S.ns x = some i → ((((S.ns.take m).zip vals).reverse.lookup x)).map er = argLoc (vals.map er) i := fun x i hx => by
    rw [look x i hx]; unfold argLoc; rw [List.getElem?_map]
  have cellKind : ∀ x c, env.cells.lookup x = some c → S.sc.names.lookup x = some .cell := fun x c e => by
    rw [hc] at e
    have hm := mem_of_lookup e
    have hn : x ∈ (cellsFrom (s.heap.objs.size + 1) S.sc.names []).map (·.1) := List.mem_map_of_mem hm
    rw [cellsFrom_names S.sc.names _ 0 [] [] rfl] at hn
    obtain ⟨p, hp, rfl⟩ := List.mem_map.mp hn
    exact beq_iff_eq.mp (List.all_eq_true.mp h2 p hp)
  refine ⟨⟨_, x.toInCall.ns, fun y i hy hl => ⟨?_, nj i⟩⟩, L.noB (fresh _ (by rw [hL]; exact Nat.le_refl _)), own _ (by rw [hL]; exact Nat.le_refl _), fun y c e => ?_, fun y hy => ?_, fun y hy => ?_, fun y z c e1 e2 => ?_⟩
  · rw [bindL_eq, if_pos hl, Option.or_none]
    exact val y i hy
  · have ab := x.above y c (mem_of_lookup e)
    rw [hL] at ab
    obtain ⟨o, ho, hd⟩ := x.cell y c e
    refine ⟨L.noB (fresh c (Nat.le_of_lt ab)), own c (Nat.le_of_lt ab), by rw [hL]; exact Nat.ne_of_gt ab, o, _, ho, hd, fun i hi => ⟨?_, nj i⟩⟩
    have hk := cellKind y c e
    rw [bindC_eq, if_neg (by rw [kind, hk]; decide), Option.or_none]
    exact val y i hi
  · rw [kind] at hy
    rcases hy with hy | hy
    · rw [hc]; exact cellsFrom_some _ _ _ (.inl hy)
    · have := List.all_eq_true.mp h1 _ (mem_of_lookup hy)
      exact absurd this (by simp)
  · cases e : env.cells.lookup y with
    | none => rfl
    | some c =>
      have := cellKind y c e
      rw [kind, this] at hy; cases hy
  · exact name_of_addr x.apart (mem_of_lookup e1) (mem_of_lookup e2)
noncomputable def retQ (Q : V → MH → Prop) : Fl → Loc → MH → Prop := fun f _ H' => match f with
  | .ret v => Q v H'
  | .next => Q .none H'
  | _ => False
structure WK (C : Cx) (n : Nat) (f : V) (args : List V) (H : MH) (Q : V → MH → Prop) : Prop where
  run : ∀ (A : Around) (s : Shared) (δ : Addr → Addr) (f' : Value) (args' : List Value), Room A n → Lay C s.heap δ H → er f' = f → args'.map er = args → (∀ v ∈ args', er v ≠ .junk) →
    codeAny C.M A (.call f' ⟨args', []⟩) (fun r s' => match r with | .ok (.ret v) => Post C noπ δ H s Q v s' | .ok _ => False | .error e => False) s
theorem WK.toWC {f : V} {args : List V} {Q : V → MH → Prop} (h : WK C n f args H Q) : WC C n f args H Q :=
  ⟨fun A s δ f' args' rm L hf ha hj => wpAny_call (h.run A s δ f' args' rm L hf ha hj)⟩
theorem WK_def {f : Addr} {ex : List Value} {m : Nat} {body : List Stmt} {vs : List V} {Q : V → MH → Prop} (D : DefIs C f ex m S body) (hv : vs.length + ex.length = m) (h : WSs C S n body (argLoc (vs ++ ex.map er)) H (retQ Q)) : WK C (n + 1) (.ref f) vs H Q := by
  refine ⟨fun A s δ f' args' rm L hf ha hj => ?_⟩
  obtain rfl := er_ref hf
  obtain ⟨oc, od, osl, fd, hl, hsc, hbody, hclo, hglob, hblt, hcd, hco, hgen, hk, hbind⟩ := D.fn
  have X := C.X.keeps L.keep
  subst ha
  rw [List.length_map] at hv
  have hstk := D.ok
  refine codeAny_call_function rm.depth (X f _ hl) rfl hco hgen hbody (codeRec_of X hcd) (hbind args' hv s X _ _ _ _ ?_)
  rw [hclo]
  refine wpAny_newFunctionEnv_cells hk ?_ fun env he s1 x => ?_
  · intro p hp
    rw [hsc]
    have hm : p.1 ∈ S.ns.take m := (List.of_mem_zip hp).1
    simp only [stOK, Bool.and_eq_true] at hstk
    have := List.all_eq_true.mp hstk.1.2 _ hm
    rcases Bool.or_eq_true_iff.mp this with q | q
    · exact .inl (beq_iff_eq.mp q)
    · exact .inr ⟨beq_iff_eq.mp q, cellsFrom_some _ _ _ (.inl (beq_iff_eq.mp q))⟩
  · have e1 : env.scope = S.sc := by rw [he]; exact hsc
    have e2 : env.locals = s.heap.objs.size := by rw [he]; rfl
    have e3 : env.cells = cellsFrom (s.heap.objs.size + 1) S.sc.names [] := by rw [he, ← hsc]; rfl
    have e4 : env.globals = mainGlobals := by rw [he]; exact hglob
    have e5 : env.builtins = builtinsNs := by rw [he]; exact hblt
    have F := frame_new L hstk e1 e2 e3 (by rw [List.length_append]; exact hv) (fun v hv => (List.mem_append.mp hv).elim (hj v) (D.nj v)) x
    rw [List.map_append] at F
    have L1 := L.mono x.toInCall.keep
    refine ⟨(C.lim.keeps L.keep).keeps x.toInCall.keep, codeAny_func ?_⟩
    refine wpAny_mono (h.run (A.deeper env) env s1 δ rm.deeper ⟨e1, e4, e5, by rw [← e1, he]; exact hk⟩ F L1) (fun fl s' ⟨δ', H', ρ', L', F', K', g, q⟩ => ?_) fun _ _ x => x.elim
    obtain ⟨hh, tk, rfl⟩ := x.toInCall.same
    have Kn : Keeps noπ δ H s δ' H' s' := by
      refine ⟨fun b o e no _ => K'.old b o (x.toInCall.keep b o e) no ?_, fun b ob => ?_, fun b o e => K'.alive b o (x.toInCall.keep b o e), K'.rest⟩
      · have hb := Heap.lt_size e
        rintro (rfl | ⟨y, hy⟩)
        · rw [e2] at hb; exact Nat.lt_irrefl _ hb
        · have := x.above y b (mem_of_lookup hy)
          rw [e2] at this; exact Nat.lt_asymm hb this
      · rcases K'.sub b ob with q | q
        · exact .inl q
        · refine .inr ?_
          cases e : s.heap.get? b with
          | none => rfl
          | some o => rw [x.toInCall.keep b o e] at q; cases q
    cases fl with
    | next => exact ⟨δ', H', L', Kn, njk rfl, q⟩
    | ret v => exact ⟨δ', H', L', Kn, g, q⟩
    | brk => exact q.elim
    | cont => exact q.elim
theorem WC_def {f : Addr} {ex : List Value} {m : Nat} {body : List Stmt} {vs : List V} {Q : V → MH → Prop} (D : DefIs C f ex m S body) (hv : vs.length + ex.length = m) (h : WSs C S n body (argLoc (vs ++ ex.map er)) H (retQ Q)) : WC C (n + 1) (.ref f) vs H Q := (WK_def D hv h).toWC
structure ClsIs (C : Cx) (Cl : Addr) (f : Addr) : Prop where
  makes : makesIn C.K Cl = true
  init : findIn C.K (.ref Cl) "__init__" = some (some (.ref f))
  fn : typeIn C.K (.ref f) = some (.type "function")
  calls : keepIn C.K (.ref Cl) = true
theorem WC_make {Cl f : Addr} {vs : List V} {Q : V → MH → Prop} (D : ClsIs C Cl f) (h : ∀ c, H c = none → WK C n (.ref f) (.ref c :: vs) (H.set c (.inst Cl [])) fun v H' => v = .none ∧ Q (.ref c) H') : WC C (n + 1) (.ref Cl) vs H Q := by
  refine ⟨fun A s δ f' args' rm L hf ha hj => ?_⟩
  obtain rfl := er_ref hf
  obtain ⟨hh, g, d, t, os⟩ := s
  have X := C.X.keeps L.keep
  have hd : hh.get? hh.objs.size = none := size_none hh
  have hx : hh.get? (hh.objs.size + 1) = none := Heap.get?_none_of_le (Nat.le_succ _)
  have e1 : ((hh.push emptyDict).push (instObj Cl hh.objs.size)).get? (hh.objs.size + 1) = some (instObj Cl hh.objs.size) := by
    have := Heap.get?_push_size (hh.push emptyDict) (o := instObj Cl hh.objs.size) rfl
    rwa [Heap.size_push] at this
  have e2 : ((hh.push emptyDict).push (instObj Cl hh.objs.size)).get? hh.objs.size = some (dictOf [] 0) := Heap.get?_push_of_some _ (Heap.get?_push_size hh rfl)
  have keep : ∀ b o, hh.get? b = some o → ((hh.push emptyDict).push (instObj Cl hh.objs.size)).get? b = some o := fun b o e => Heap.get?_push_of_some _ (Heap.get?_push_of_some _ e)
  have L1 : Lay C ((hh.push emptyDict).push (instObj Cl hh.objs.size)) (fun x => if x = hh.objs.size + 1 then hh.objs.size else δ x) (H.set (hh.objs.size + 1) (.inst Cl [])) :=
    (L.mono keep).addInst (d := hh.objs.size) (L.fresh hx) (Nat.ne_of_lt (Nat.lt_succ_self _)) (L.fresh hd) (L.freshδ hx) (L.freshδ hd) (L.noB hd) e1 e2 ⟨FsRel.nil, fun _ h => nomatch h⟩
  refine wpAny_call (make_core (makes_of X D.makes) (looks_findIn X D.init) (fun self => bind_fn X self D.fn) (.inl rfl) ?_)
  have rm' : Room (A.under (.builtin "type.__call__" ⟨.ref Cl :: args', []⟩)) n := by
    obtain ⟨a, b, c⟩ := rm
    have e1 := PyProof.Rows.depth_under_make A Cl args'
    have e2 : (A.under (.builtin "type.__call__" ⟨.ref Cl :: args', []⟩)).units = A.units + 1 := rfl
    refine ⟨?_, ?_, c⟩
    · rw [e1]; walk_at "O"
    · rw [e2]; walk_at "O"
  have key := (h (hh.objs.size + 1) (L.fresh hx)).run _ ⟨(hh.push emptyDict).push (instObj Cl hh.objs.size), g, d, t, os⟩ _ (.ref f) (.ref (hh.objs.size + 1) :: args') rm' L1 rfl (by rw [List.map_cons, ha]; rfl) (fun v hv => by
    rcases List.mem_cons.mp hv with rfl | hv
    · exact njk rfl
    · exact hj v hv)
  refine codeAny_mono key fun r s' p => ?_
  cases r with
  | error e => exact p.elim
  | ok fl =>
    cases fl with
    | ret v =>
      obtain ⟨δ', H', L', K', jv, hv, q⟩ := p
      refine ⟨er_none hv, δ', H', L', ?_, njk rfl, q⟩
      exact (Keeps.growInst (s := ⟨hh, g, d, t, os⟩) (t := t) hd keep).trans K'
    | _ => exact p.elim
theorem WC_new {Cl f : Addr} {m : Nat} {body : List Stmt} {vs : List V} {Q : V → MH → Prop} (D : ClsIs C Cl f) (F : DefIs C f [] m S body) (hv : vs.length + 1 = m) (h : ∀ c, H c = none → WSs C S n body (argLoc (.ref c :: vs)) (H.set c (.inst Cl [])) (retQ fun v H' => v = .none ∧ Q (.ref c) H')) : WC C (n + 2) (.ref Cl) vs H Q :=
  WC_make D fun c hc => WK_def F (by simpa using hv) (by simpa using h c hc)
end
end N226
end
noncomputable section
open PySem PySem.W PySem.Calls PyProof.Rows
set_option maxRecDepth 10000
namespace N226
structure Odd (o : Obj) : Prop where
  tup : ∀ vs n, o ≠ { cls := .type "tuple", data := .seq vs n }
  rng : ∀ a b c t u v, o ≠ { cls := .type "range", dict := none, data := .fields #[.int a t, .int b u, .int c v], slots := #[] }
  ins : ∀ Cl d, o ≠ instObj Cl d
  vew : ∀ d, o ≠ { cls := .type "dict_values", data := .fields #[.ref d] }
theorem Odd.dict {o : Obj} {es : Array DictEntry} {n : Nat} (h : o.data = .dict es n) : Odd o := ⟨fun _ _ e => (by rw [e] at h; cases h), fun _ _ _ _ _ _ e => (by rw [e] at h; cases h), fun _ _ e => (by rw [e] at h; cases h), fun _ e => (by rw [e] at h; cases h)⟩
theorem Odd.cell {o : Obj} {v : Option Value} (h : o.data = .cell v) : Odd o := ⟨fun _ _ e => (by rw [e] at h; cases h), fun _ _ _ _ _ _ e => (by rw [e] at h; cases h), fun _ _ e => (by rw [e] at h; cases h), fun _ e => (by rw [e] at h; cases h)⟩
theorem Odd.cls {o : Obj} {T : String} (h : o.cls = .type T) (h1 : T ≠ "tuple") (h2 : T ≠ "range") (h3 : T ≠ "dict_values") : Odd o :=
  ⟨fun _ _ e => (by rw [e] at h; exact h1 (Value.type.inj h).symm), fun _ _ _ _ _ _ e => (by rw [e] at h; exact h2 (Value.type.inj h).symm), fun _ _ e => (by rw [e] at h; cases h), fun _ e => (by rw [e] at h; exact h3 (Value.type.inj h).symm)⟩
section
variable {C : Cx} {S : St} {n : Nat} {ρ : Loc} {H : MH}
theorem Lay.notAt {h : Heap} {δ : Addr → Addr} (L : Lay C h δ H) {b : Addr} {o : Obj} (e : h.get? b = some o) (od : Odd o) (nB : C.hB.get? b = none) (no : ¬ Owned δ H b) : H b = none := by
  cases q : H b with
  | none => rfl
  | some mo =>
    have x := L.obj b mo q
    cases mo with
    | list vs => exact absurd (.inl (.inl ⟨_, q⟩)) no
    | slist vs => obtain ⟨vs', ⟨_, ex, _⟩, _⟩ := x; rw [nB] at ex; cases ex
    | dict es ep => exact absurd (.inl (.inr ⟨_, _, q⟩)) no
    | tuple vs => obtain ⟨vs', m, ex, _⟩ := x; rw [e] at ex; exact absurd (Option.some.inj ex) (od.tup _ _)
    | rng a c d => obtain ⟨t, u, v, ex⟩ := x; exact absurd (Option.some.inj (e.symm.trans ex)) (od.rng _ _ _ _ _ _)
    | view d => exact absurd (Option.some.inj (e.symm.trans x)) (od.vew _)
    | inst Cl fs => obtain ⟨_, ex, _⟩ := x; rw [e] at ex; exact absurd (Option.some.inj ex) (od.ins _ _)
    | cinst Cl => obtain ⟨dx, _, ex, _⟩ := x; rw [nB] at ex; cases ex
theorem Lay.but {h h' : Heap} {δ : Addr → Addr} (L : Lay C h δ H) {b : Addr} {o : Obj} (e : h.get? b = some o) (od : Odd o) (nB : C.hB.get? b = none) (no : ¬ Owned δ H b) (k : ∀ c oc, c ≠ b → h.get? c = some oc → h'.get? c = some oc) : Lay C h' δ H := by
  have hb := L.notAt e od nB no
  have same : ∀ c, c ≠ b → (∃ oc, h.get? c = some oc) → h'.get? c = h.get? c := fun c hc ⟨oc, q⟩ => (k c oc hc q).trans q.symm
  refine ⟨fun c oc q => k c oc (fun z => by rw [z, nB] at q; cases q) (L.keep c oc q), fun a mo q => ?_, L.inj, L.hid⟩
  refine (L.obj a mo q).congr (same a (fun z => by rw [z, hb] at q; cases q) (L.alive q)) fun pk => ?_
  obtain ⟨Cl, fs, z⟩ := pk
  have hI : IsInst H a := ⟨Cl, fs, z ▸ q⟩
  exact same _ (fun z => no (.inr ⟨a, hI, z.symm⟩)) (L.aliveδ hI)
theorem FrOK.but {env : Env} {h h' : Heap} {δ : Addr → Addr} (F : FrOK C S env h ρ δ H) {b : Addr} (hb : ¬ ownπ env b) (k : ∀ c oc, c ≠ b → h.get? c = some oc → h'.get? c = some oc) : FrOK C S env h' ρ δ H := by
  obtain ⟨m, ⟨oL, es, ep, hL, r⟩, hm⟩ := F.loc
  refine ⟨⟨m, ⟨oL, es, ep, k _ _ (fun e => hb (.inl e.symm)) hL, r⟩, hm⟩, F.new, F.priv, fun x c e => ?_, F.has, F.sep, F.apart⟩
  obtain ⟨a, bb, ne, o, vo, ho, hd, hv⟩ := F.cell x c e
  exact ⟨a, bb, ne, o, vo, k _ _ (fun z => hb (.inr ⟨x, z ▸ e⟩)) ho, hd, hv⟩
theorem Keeps.one {π : Addr → Prop} {δ : Addr → Addr} {s : Shared} {h' : Heap} {t : Nat} {b : Addr} {ob : Obj} (hb : π b) (eb : h'.get? b = some ob) (k : ∀ c oc, c ≠ b → s.heap.get? c = some oc → h'.get? c = some oc) : Keeps π δ H s δ H { s with heap := h', toks := t } := by
  refine ⟨fun c o e _ nb => k c o (fun z => nb (z ▸ hb)) e, fun _ h => .inl h, fun c o e => ?_, rfl, rfl, rfl⟩
  by_cases q : c = b
  · exact ⟨ob, q ▸ eb⟩
  · exact ⟨o, k c o q e⟩
theorem butOf {h h' : Heap} {b : Addr} (sb : Heap.SameBut b h h') : ∀ c oc, c ≠ b → h.get? c = some oc → h'.get? c = some oc := fun c oc hc e => (sb.2 c hc).trans e
noncomputable abbrev PostA (C : Cx) (S : St) (env : Env) (δ : Addr → Addr) (H : MH) (s : Shared) (Q : Loc → MH → Prop) : Shared → Prop :=
  fun s' => ∃ δ' H' ρ', Lay C s'.heap δ' H' ∧ FrOK C S env s'.heap ρ' δ' H' ∧ Keeps (ownπ env) δ H s δ' H' s' ∧ Q ρ' H'
noncomputable def canStore (S : St) (x : Str) : Bool := S.sc.names.lookup x == some .local || S.sc.names.lookup x == some .cell
theorem store_ok {env : Env} {s : Shared} {δ : Addr → Addr} {A : Around} {x : Str} {i : Nat} {v : Value} {Q : Loc → MH → Prop} (eo : EnvOK S env) (F : FrOK C S env s.heap ρ δ H) (L : Lay C s.heap δ H) (hx : idx S.ns x = some i) (hk : canStore S x = true) (jv : er v ≠ .junk) (q : Q (ρ.set i (er v)) H) :
    wpAny C.M A (storeName env x v) (fun _ => PostA C S env δ H s Q) noE s := by
  have nj : ∀ j, ρ j ≠ some .junk → (ρ.set i (er v)) j ≠ some .junk := fun j h => by
    rw [Loc.set_at]
    split
    · exact fun e => jv (Option.some.inj e)
    · exact h
  have other : ∀ y j, idx S.ns y = some j → y ≠ x → (ρ.set i (er v)) j = ρ j := fun y j hy hne => by
    rw [Loc.set_at]
    exact if_neg fun e => hne (idx_inj (e ▸ hy) hx)
  have self : ∀ j, idx S.ns x = some j → (ρ.set i (er v)) j = some (er v) := fun j hj => by
    rw [hx] at hj; cases hj; rw [Loc.set_at]; exact if_pos rfl
  have hkk : env.scope.kind = .function := by rw [eo.sc]; exact eo.kind
  rcases Bool.or_eq_true_iff.mp hk with hk | hk
  · have hl : env.kindOf x = some .local := (eo.kindOf x).trans (beq_iff_eq.mp hk)
    obtain ⟨m, hn, hm⟩ := F.loc
    have hn0 := hn
    obtain ⟨oL, es, ep, hL, hLd, _⟩ := hn0
    refine wpAny_storeName_local hl hn (fun h' hn' sb => ?_) (by rw [hkk]; rfl)
    have hn1 := hn'
    obtain ⟨oL', es', ep', hL', _⟩ := hn1
    refine ⟨δ, H, _, L.but hL (Odd.dict hLd) F.new F.priv (butOf sb), ?_, Keeps.one (.inl rfl) hL' (butOf sb), q⟩
    refine ⟨⟨_, hn', fun y j hy hly => ?_⟩, F.new, F.priv, fun y c e => ?_, F.has, F.sep, F.apart⟩
    · by_cases e : y = x
      · subst e
        rw [if_pos rfl, self j hy]
        exact ⟨rfl, fun e => jv (Option.some.inj e)⟩
      · rw [if_neg e, other y j hy e]
        exact hm y j hy hly
    · obtain ⟨a, b, ne, o, vo, ho, hd, hv⟩ := F.cell y c e
      refine ⟨a, b, ne, o, vo, butOf sb _ _ ne ho, hd, fun j hy => ?_⟩
      have hne : y ≠ x := fun z => by rw [z, F.sep x hl] at e; cases e
      rw [other y j hy hne]; exact hv j hy
  · have hl : env.kindOf x = some .cell := (eo.kindOf x).trans (beq_iff_eq.mp hk)
    obtain ⟨c, hc⟩ := Option.isSome_iff_exists.mp (F.has x (.inl hl))
    obtain ⟨a, b, ne, o, vo, ho, hd, hv⟩ := F.cell x c hc
    refine wpAny_storeName_cell hkk hl hc ⟨o, ho, hd⟩ fun h' hc' sb => ?_
    obtain ⟨oc, hoc, hdc⟩ := hc'
    refine ⟨δ, H, _, L.but ho (Odd.cell hd) a b (butOf sb), ?_, Keeps.one (t := s.toks) (.inr ⟨x, hc⟩) hoc (butOf sb), q⟩
    obtain ⟨m, ⟨oL, es, ep, hL, r⟩, hm⟩ := F.loc
    refine ⟨⟨m, ⟨oL, es, ep, butOf sb _ _ ne.symm hL, r⟩, fun y j hy hly => ?_⟩, F.new, F.priv, fun y c' e => ?_, F.has, F.sep, F.apart⟩
    · have hne : y ≠ x := fun z => by rw [z, hl] at hly; cases hly
      rw [other y j hy hne]; exact hm y j hy hly
    · obtain ⟨a', b', ne', o', vo', ho', hd', hv'⟩ := F.cell y c' e
      by_cases z : y = x
      · subst z
        rw [hc] at e; cases e
        refine ⟨a, b, ne, oc, _, hoc, hdc, fun j hj => ?_⟩
        rw [self j hj]
        exact ⟨rfl, fun e => jv (Option.some.inj e)⟩
      · have hcc : c' ≠ c := fun w => z (F.apart y x c' e (w ▸ hc))
        refine ⟨a', b', ne', o', vo', butOf sb _ _ hcc ho', hd', fun j hj => ?_⟩
        rw [other y j hj z]; exact hv' j hj
theorem PostS.trans {env : Env} {δ δ' : Addr → Addr} {s s' s'' : Shared} {H' : MH} {Q : Fl → Loc → MH → Prop} {f : Flow} (k : Keeps (ownπ env) δ H s δ' H' s') (p : PostS C S env δ' H' s' Q f s'') : PostS C S env δ H s Q f s'' :=
  let ⟨δ'', H'', ρ'', L, F, k', g, q⟩ := p
  ⟨δ'', H'', ρ'', L, F, k.trans k', g, q⟩
theorem PostS.here {env : Env} {δ : Addr → Addr} {s : Shared} {Q : Fl → Loc → MH → Prop} {f : Flow} {t : Nat} (L : Lay C s.heap δ H) (F : FrOK C S env s.heap ρ δ H) (g : GoodF f) (q : Q (erF f) ρ H) : PostS C S env δ H s Q f { s with toks := t } :=
  ⟨δ, H, ρ, L, F, Keeps.toks, g, q⟩
theorem WSs_nil {Q : Fl → Loc → MH → Prop} (q : Q .next ρ H) : WSs C S n [] ρ H Q :=
  ⟨fun A env s δ rm eo F L => wpAny_execs_nil (PostS.here (t := s.toks) L F trivial q)⟩
theorem WSs_cons {st : Stmt} {rest : List Stmt} {Q : Fl → Loc → MH → Prop} (h : WS C S n st ρ H fun f ρ1 H1 => match f with | .next => WSs C S n rest ρ1 H1 Q | f => Q f ρ1 H1) : WSs C S n (st :: rest) ρ H Q := by
  refine ⟨fun A env s δ rm eo F L => wpAny_execs_cons (noE_any (h.run A env s δ rm eo F L) fun f s1 pk => ?_)⟩
  obtain ⟨δ1, H1, ρ1, L1, F1, K1, g, q⟩ := pk
  cases f with
  | next => exact noE_any (q.run A env s1 δ1 rm eo F1 L1) fun f' s' p => p.trans K1
  | _ => exact ⟨δ1, H1, ρ1, L1, F1, K1, g, q⟩
theorem WS_pass {pos} {Q : Fl → Loc → MH → Prop} (q : Q .next ρ H) : WS C S n (.Pass pos) ρ H Q :=
  ⟨fun A env s δ rm eo F L => wpAny_Pass (PostS.here (t := s.toks) L F trivial q)⟩
theorem WS_if {t : Expr} {body orelse : List Stmt} {pos} {Q : Fl → Loc → MH → Prop} (h : WT C S n t ρ H fun c H1 => if c then WSs C S n body ρ H1 Q else WSs C S n orelse ρ H1 Q) : WS C S n (.If t body orelse pos) ρ H Q := by
  refine ⟨fun A env s δ rm eo F L => wpAny_If (noE_any (h.run A env s δ rm eo F L) fun c s1 pk => ?_)⟩
  obtain ⟨δ1, H1, L1, K1, h1⟩ := pk
  cases c
  · exact noE_any (h1.run A env s1 δ1 rm eo (F.keeps K1) L1) fun f s' p => p.trans K1.weak
  · exact noE_any (h1.run A env s1 δ1 rm eo (F.keeps K1) L1) fun f s' p => p.trans K1.weak
theorem WS_ret {e : Expr} {pos} {Q : Fl → Loc → MH → Prop} (h : WE C S n e ρ H fun v H1 => Q (.ret v) ρ H1) : WS C S n (.Return (some e) pos) ρ H Q :=
  ⟨fun A env s δ rm eo F L => wpAny_Return_some (h.bind rm eo F L fun v s1 δ1 H1 L1 K1 F1 ja q => ⟨δ1, H1, ρ, L1, F1, K1.weak, ja, q⟩)⟩
theorem WS_ret0 {pos} {Q : Fl → Loc → MH → Prop} (q : Q (.ret .none) ρ H) : WS C S n (.Return none pos) ρ H Q :=
  ⟨fun A env s δ rm eo F L => wpAny_Return_none (PostS.here (t := s.toks) L F (njk rfl) q)⟩
noncomputable def notComp (e : Expr) : Bool := !(Nat.beq e.ctorIdx 8 || Nat.beq e.ctorIdx 9 || Nat.beq e.ctorIdx 10)
theorem swaps_no {e : Expr} {t : Option Expr} {l : Nat} {env : Env} (h : notComp e = true) : swapsWith e t l env = pure false := by
  cases e <;> first | rfl | cases h
theorem interactive_no {env : Env} (eo : EnvOK S env) : interactive env = false := by
  unfold interactive
  rw [eo.sc, eo.kind]; rfl
theorem WS_expr {e : Expr} {pos} {Q : Fl → Loc → MH → Prop} (hc : notComp e = true) (h : WE C S n e ρ H fun v H1 => (∀ a, v ≠ .ref a) ∧ Q .next ρ H1) : WS C S n (.Expr e pos) ρ H Q := by
  refine ⟨fun A env s δ rm eo F L => wpAny_Expr (h.bind rm eo F L fun v s1 δ1 H1 L1 K1 F1 ja ⟨nr, q⟩ => ?_) (interactive_no eo) (swaps_no hc)⟩
  cases v with
  | ref a => exact absurd rfl (nr a)
  | _ => exact ⟨δ1, H1, ρ, L1, F1, K1.weak, trivial, q⟩
theorem WS_assign {x : Str} {i : Nat} {e : Expr} {xp pos : Pos} {Q : Fl → Loc → MH → Prop} (hx : idx S.ns x = some i) (hk : canStore S x = true) (hc : notComp e = true) (h : WE C S n e ρ H fun v H1 => Q .next (ρ.set i v) H1) : WS C S n (.Assign [.Name x xp] e pos) ρ H Q := by
  refine ⟨fun A env s δ rm eo F L => wpAny_Assign_Name (h.bind rm eo F L fun v s1 δ1 H1 L1 K1 F1 ja q => ?_) (swaps_no hc)⟩
  refine noE_any (store_ok (Q := fun ρ' H' => Q .next ρ' H') eo F1 L1 hx hk ja q) fun _ s' ⟨δ2, H2, ρ2, L2, F2, K2, q2⟩ => ⟨δ2, H2, ρ2, L2, F2, K1.weak.trans K2, trivial, q2⟩
theorem WS_setattr {o e : Expr} {name : Str} {p pos : Pos} {Q : Fl → Loc → MH → Prop} (hc : notComp e = true) (h : WE C S n e ρ H fun v H1 => WE C S n o ρ H1 fun a H2 => WSet C n a name v H2 fun H3 => Q .next ρ H3) : WS C S n (.Assign [.Attribute o name p] e pos) ρ H Q := by
  refine ⟨fun A env s δ rm eo F L => plainObj_wpAny_Assign_Attribute (h.bind rm eo F L fun v s1 δ1 H1 L1 K1 F1 ja h1 => h1.bind rm eo F1 L1 fun a s2 δ2 H2 L2 K2 F2 jb h2 => ?_) (swaps_no hc)⟩
  exact noE_any (h2.run A s2 δ2 a v rm L2 rfl rfl ja) fun _ s' ⟨δ3, H3, L3, K3, q⟩ => ⟨δ3, H3, ρ, L3, F2.keeps K3, ((K1.trans K2).trans K3).weak, trivial, q⟩
structure WItm (C : Cx) (n : Nat) (a k v : V) (H : MH) (Q : MH → Prop) : Prop where
  run : ∀ (A : Around) (s : Shared) (δ : Addr → Addr) (a' k' v' : Value), Room A n → Lay C s.heap δ H → er a' = a → er k' = k → er v' = v → v ≠ .junk → wpAny C.M A (setItem a' k' v') (fun _ s' => ∃ δ' H', Lay C s'.heap δ' H' ∧ Keeps noπ δ H s δ' H' s' ∧ Q H') noE s
theorem WS_setitem {o i e : Expr} {p pos : Pos} {Q : Fl → Loc → MH → Prop} (hc : notComp e = true) (h : WE C S n e ρ H fun v H1 => WE C S n o ρ H1 fun a H2 => WE C S n i ρ H2 fun k H3 => WItm C n a k v H3 fun H4 => Q .next ρ H4) : WS C S n (.Assign [.Subscript o i p] e pos) ρ H Q := by
  refine ⟨fun A env s δ rm eo F L => wpAny_Assign_Subscript (h.bind rm eo F L fun v s1 δ1 H1 L1 K1 F1 ja h1 => h1.bind rm eo F1 L1 fun a s2 δ2 H2 L2 K2 F2 jb h2 => h2.bind rm eo F2 L2 fun k s3 δ3 H3 L3 K3 F3 jc h3 => ?_) (swaps_no hc)⟩
  exact noE_any (h3.run A s3 δ3 a k v rm L3 rfl rfl rfl ja) fun _ s' ⟨δ4, H4, L4, K4, q⟩ => ⟨δ4, H4, ρ, L4, F3.keeps K4, (((K1.trans K2).trans K3).trans K4).weak, trivial, q⟩
structure WWh (C : Cx) (S : St) (n : Nat) (test : Expr) (body : List Stmt) (ρ : Loc) (H : MH) (Q : Fl → Loc → MH → Prop) : Prop where
  run : ∀ (A : Around) (env : Env) (s : Shared) (δ : Addr → Addr), Room A n → EnvOK S env → FrOK C S env s.heap ρ δ H → Lay C s.heap δ H →
    codeAny C.M A (.whileLoop test body [] env) (fun r s' => match r with | .ok f => PostS C S env δ H s Q f s' | .error e => False) s
noncomputable def loopQ (P : Loc → MH → Prop) (Q : Fl → Loc → MH → Prop) : Fl → Loc → MH → Prop := fun f ρ H => match f with
  | .next => P ρ H
  | .cont => P ρ H
  | .brk => Q .next ρ H
  | .ret v => Q (.ret v) ρ H
theorem WWh.turn {test : Expr} {body : List Stmt} {Q : Fl → Loc → MH → Prop} (h : WT C S n test ρ H fun c H1 => if c then WSs C S n body ρ H1 (loopQ (fun ρ2 H2 => WWh C S n test body ρ2 H2 Q) Q) else Q .next ρ H1) : WWh C S n test body ρ H Q := by
  refine ⟨fun A env s δ rm eo F L => codeAny_of_tree ?_⟩
  show wpAny _ A ((whileTurn test body [] env).onRaise (fun x => do noteFrame x env; theTreesLotGoes x)) _ _ s
  refine wpAny_noted ?_
  simp only [whileTurn]
  refine wpAny_bind (noE_any (h.run A env s δ rm eo F L) fun c s1 pk => ?_)
  obtain ⟨δ1, H1, L1, K1, h1⟩ := pk
  cases c with
  | false =>
    simp only [Bool.false_eq_true, if_false] at h1 ⊢
    exact wpAny_bind (wpAny_execs_nil (wpAny_pure ⟨δ1, H1, ρ, L1, F.keeps K1, K1.weak, trivial, h1⟩))
  | true =>
    simp only [if_true] at h1 ⊢
    refine wpAny_bind (noE_any (h1.run A env s1 δ1 rm eo (F.keeps K1) L1) fun f s2 pk => ?_)
    obtain ⟨δ2, H2, ρ2, L2, F2, K2, g, q⟩ := pk
    cases f with
    | next => exact wpAny_pure ⟨rfl, codeAny_mono (WWh.run q A env s2 δ2 rm eo F2 L2) fun r s' p => by cases r with | error e => exact p | ok f => exact p.trans (K1.weak.trans K2)⟩
    | cont => exact wpAny_pure ⟨rfl, codeAny_mono (WWh.run q A env s2 δ2 rm eo F2 L2) fun r s' p => by cases r with | error e => exact p | ok f => exact p.trans (K1.weak.trans K2)⟩
    | brk => exact wpAny_pure ⟨δ2, H2, ρ2, L2, F2, K1.weak.trans K2, trivial, q⟩
    | ret v => exact wpAny_pure ⟨δ2, H2, ρ2, L2, F2, K1.weak.trans K2, g, q⟩
theorem WS_while {test : Expr} {body : List Stmt} {pos : Pos} {Q : Fl → Loc → MH → Prop} (h : WWh C S n test body ρ H Q) : WS C S n (.While test body [] pos) ρ H Q :=
  ⟨fun A env s δ rm eo F L => wpAny_While (codeAny_mono (h.run A env s δ rm eo F L) fun r s' p => by cases r with | error e => exact p.elim | ok f => exact p)⟩
end
end N226
end
noncomputable section
open PySem PySem.W PySem.Calls PyProof.Rows
set_option maxRecDepth 10000
namespace N226
inductive Src where
  | lst (a : Addr) (i : Nat)
  | tup (a : Addr) (i : Nat)
  | rng (x : Int) (k : Nat) (step : Int)
  | keys (d : Addr) (i n ep : Nat)
noncomputable def Src.next : Src → Src
  | .lst a i => .lst a (i + 1)
  | .tup a i => .tup a (i + 1)
  | .rng x k st => .rng (x + st) (k - 1) st
  | .keys d i n ep => .keys d (i + 1) n ep
noncomputable def Src.item (H : MH) : Src → Option (Option V)
  | .lst a i => match H a with
    | some (.list vs) => some vs[i]?
    | _ => none
  | .tup a i => match H a with
    | some (.tuple vs) => some vs[i]?
    | _ => none
  | .rng x k _ => some (if k = 0 then none else some (.int x))
  | .keys d i n ep => match H d with
    | some (.dict es ep') => if ep = ep' ∧ es.length = n then some (es[i]?.map (·.1)) else none
    | _ => none
noncomputable def Src.at (h : Heap) (it : Addr) : Src → Prop
  | .lst a i => h.IsListIter it a i
  | .tup a i => h.IsTupleIter it a i
  | .rng x k st => IsRangeIter h it x k st
  | .keys d i n ep => h.IsKeyIter it d i n ep
theorem Src.at.obj {h : Heap} {it : Addr} {src : Src} (x : src.at h it) : ∃ o, h.get? it = some o ∧ Odd o := by
  cases src with
  | lst a i => obtain ⟨o, e, c, d⟩ := x; exact ⟨o, e, Odd.cls c (by decide) (by decide) (by decide)⟩
  | tup a i => obtain ⟨o, e, c, d⟩ := x; exact ⟨o, e, Odd.cls c (by decide) (by decide) (by decide)⟩
  | rng y k st => exact ⟨_, x, Odd.cls rfl (by decide) (by decide) (by decide)⟩
  | keys d i n ep => obtain ⟨o, e, c, d⟩ := x; exact ⟨o, e, Odd.cls c (by decide) (by decide) (by decide)⟩
theorem Src.at.congr {h h' : Heap} {it : Addr} {src : Src} (x : src.at h it) (k : ∀ o, h.get? it = some o → h'.get? it = some o) : src.at h' it := by
  cases src with
  | lst a i => obtain ⟨o, e, r⟩ := x; exact ⟨o, k o e, r⟩
  | tup a i => obtain ⟨o, e, r⟩ := x; exact ⟨o, k o e, r⟩
  | rng y c st => exact k _ x
  | keys d i n ep => obtain ⟨o, e, r⟩ := x; exact ⟨o, k o e, r⟩
section
variable {C : Cx} {S : St} {n : Nat} {ρ : Loc} {H : MH}
set_option tactic.hygienic true in
theorem next_ok {A : Around} {s : Shared} {δ : Addr → Addr} {it : Addr} {src : Src} {r : Option V} {R : Option Value → Shared → Prop} (hh : A.handled = none) (L : Lay C s.heap δ H) (hs : src.at s.heap it) (hi : src.item H = some r)
    (q : ∀ r' h' t, r'.map er = r → (∀ v, r' = some v → er v ≠ .junk) → (∀ c oc, c ≠ it → s.heap.get? c = some oc → h'.get? c = some oc) → (r ≠ none → src.next.at h' it) → R r' { s with heap := h', toks := t }) :
    wpAny C.M A (pyNext (.ref it)) R noE s := by
  cases src with
  | lst a i =>
    unfold Src.item at hi
    dsimp only at hi
    split at hi
    · rename_i vs hx
      obtain ⟨_, vs', m, ex, rfl, nj⟩ := L.obj _ _ hx
      have il : s.heap.IsList a vs'.toArray := ⟨_, ex, rfl, m, rfl⟩
      rw [List.getElem?_map] at hi
      cases e : vs'[i]? with
      | none =>
        rw [e] at hi; cases hi
        exact wpAny_pyNext_list_end hh hs il (by simpa using e) fun h' x => q none h' s.toks rfl (fun _ h => by cases h) x fun h => absurd rfl h
      | some v =>
        rw [e] at hi; cases hi
        exact wpAny_pyNext_list_item hs il (x := v) (by simpa using e) fun h' x sb => q (some v) h' s.toks rfl (fun u h => by cases h; exact nj _ (List.mem_map_of_mem (List.mem_of_getElem? e))) (butOf sb) fun _ => x
    · cases hi
  | tup a i =>
    unfold Src.item at hi
    dsimp only at hi
    split at hi
    · rename_i vs hx
      obtain ⟨vs', m, ex, rfl, nj⟩ := L.obj _ _ hx
      have il : s.heap.IsTuple a vs'.toArray := ⟨_, ex, rfl, m, rfl⟩
      rw [List.getElem?_map] at hi
      cases e : vs'[i]? with
      | none =>
        rw [e] at hi; cases hi
        exact wpAny_pyNext_tuple_end hh hs il (by simpa using e) fun h' x => q none h' s.toks rfl (fun _ h => by cases h) x fun h => absurd rfl h
      | some v =>
        rw [e] at hi; cases hi
        exact wpAny_pyNext_tuple_item hs il (x := v) (by simpa using e) fun h' x sb => q (some v) h' s.toks rfl (fun u h => by cases h; exact nj _ (List.mem_map_of_mem (List.mem_of_getElem? e))) (butOf sb) fun _ => x
    · cases hi
  | rng x k st =>
    cases hi
    by_cases hk : k = 0
    · subst hk
      exact wpAny_pyNext_range_end hh hs (Int.le_refl _) fun h' x => q none h' s.toks (by simp) (fun _ h => by cases h) x fun h => absurd (by simp) h
    · refine wpAny_pyNext_range_item hs (by walk_at "O") fun h' x' sb => q (some _) h' _ (by simp [hk]; rfl) (fun u h => by cases h; exact njk rfl) (butOf sb) fun _ => ?_
      have e : ((k : Int) - 1) = ((k - 1 : Nat) : Int) := by walk_at "O"
      rw [e] at x'
      exact x'
  | keys d i m ep =>
    unfold Src.item at hi
    dsimp only at hi
    split at hi
    · rename_i es ep' hx
      split at hi
      · rename_i hc
        obtain ⟨rfl, hl⟩ := hc
        obtain ⟨_, kvs, dx, rfl, nj⟩ := L.obj _ _ hx
        rw [List.length_map] at hl
        subst hl
        rw [List.getElem?_map] at hi
        cases e : kvs[i]? with
        | none =>
          rw [e] at hi; cases hi
          exact wpAny_pyNext_dict_end hh hs dx e fun h' x => q none h' s.toks rfl (fun _ h => by cases h) x fun h => absurd rfl h
        | some kv =>
          rw [e] at hi; cases hi
          refine wpAny_pyNext_dict_item hs dx e fun key h' hk x sb => ?_
          have hk' : er key = kv.1 ∧ isKey kv.1 = true := by
            obtain ⟨h1, h2⟩ := Bool.and_eq_true_iff.mp hk
            exact ⟨of_decide_eq_true h1, h2⟩
          exact q (some key) h' s.toks (by simp [hk'.1]) (fun u h => by cases h; rw [hk'.1]; intro z; rw [z] at hk'; cases hk'.2) (butOf sb) fun _ => x
      · cases hi
    · cases hi
noncomputable def rngCount (a b c : Int) : Nat := if c = 1 then (b - a).toNat else (a - b).toNat
noncomputable def iterOf (H : MH) : V → Option Src
  | .ref a => match H a with
    | some (.list _) => some (.lst a 0)
    | some (.tuple _) => some (.tup a 0)
    | some (.rng x y c) => if -1000000 ≤ x ∧ x ≤ 1000000 ∧ -1000000 ≤ y ∧ y ≤ 1000000 ∧ (c = 1 ∨ c = -1) then some (.rng x (rngCount x y c) c) else none
    | some (.dict es ep) => some (.keys a 0 es.length ep)
    | _ => none
  | _ => none
theorem rng_size {a b c : Int} (hc : c = 1 ∨ c = -1) : Builtin.Range.rangeSize a b c = (rngCount a b c : Int) := by
  unfold Builtin.Range.rangeSize rngCount
  rcases hc with rfl | rfl
  · simp only [show (1 : Int) > 0 by decide, if_true]
    by_cases h : a < b
    · rw [if_pos h]; walk_at "O"
    · rw [if_neg h]; walk_at "O"
  · simp only [show ¬ ((-1 : Int) > 0) by decide, if_false, show ¬ ((-1 : Int) = 1) by decide, show -(-1 : Int) = 1 by decide, Int.ediv_one]
    by_cases h : a > b
    · rw [if_pos h]; walk_at "O"
    · rw [if_neg h]; walk_at "O"
theorem rng_small {a b c : Int} (h1 : -1000000 ≤ a) (h2 : a ≤ 1000000) (h3 : -1000000 ≤ b) (h4 : b ≤ 1000000) (hc : c = 1 ∨ c = -1) : Builtin.Range.small a b c = true := by
  have hs := rng_size (a := a) (b := b) hc
  have hb : (rngCount a b c : Int) ≤ 2000000 := by unfold rngCount; split <;> walk_at "O"
  unfold Builtin.Range.small Builtin.Range.rangeFitsLong
  rw [hs]
  rcases hc with rfl | rfl <;> (simp; walk_at "O")
theorem iter_ok {A : Around} {s : Shared} {δ : Addr → Addr} {x : V} {x' : Value} {src : Src} {R : Value → Shared → Prop} (L : Lay C s.heap δ H) (hx : er x' = x) (hi : iterOf H x = some src)
    (q : ∀ o, src.at (s.heap.push o) s.heap.objs.size → R (.ref s.heap.objs.size) { s with heap := s.heap.push o }) : wpAny C.M A (pyIter x') R noE s := by
  cases x with
  | ref a =>
    obtain rfl := er_ref hx
    unfold iterOf at hi
    dsimp only at hi
    cases e : H a with
    | none => rw [e] at hi; cases hi
    | some mo =>
      rw [e] at hi
      cases mo with
      | list vs =>
        cases hi
        obtain ⟨_, vs', m, ex, rfl, nj⟩ := L.obj _ _ e
        exact wpAny_pyIter_list (items := vs'.toArray) ⟨_, ex, rfl, m, rfl⟩ (q _ ⟨_, Heap.get?_push_size _ rfl, rfl, rfl⟩)
      | tuple vs =>
        cases hi
        obtain ⟨vs', m, ex, rfl, nj⟩ := L.obj _ _ e
        exact wpAny_pyIter_tuple (items := vs'.toArray) ⟨_, ex, rfl, m, rfl⟩ (q _ ⟨_, Heap.get?_push_size _ rfl, rfl, rfl⟩)
      | rng x y c =>
        dsimp only at hi
        split at hi
        · rename_i hc
          cases hi
          obtain ⟨t, u, v, ex⟩ := L.obj _ _ e
          refine wpAny_pyIter_range ex (rng_small hc.1 hc.2.1 hc.2.2.1 hc.2.2.2.1 hc.2.2.2.2) ?_
          rw [rng_size hc.2.2.2.2]
          exact q _ (Heap.get?_push_size _ rfl)
        · cases hi
      | dict es ep =>
        cases hi
        obtain ⟨na, kvs, dx, rfl, nj⟩ := L.obj _ _ e
        refine wpAny_pyIter_dict (notSys na) dx (q _ ?_)
        rw [List.length_map]
        exact ⟨_, Heap.get?_push_size _ rfl, rfl, rfl⟩
      | inst _ _ => cases hi
      | view _ => cases hi
      | slist _ => cases hi
      | cinst _ => cases hi
  | _ => cases hi
structure WAsg (C : Cx) (S : St) (n : Nat) (t : Expr) (v : V) (ρ : Loc) (H : MH) (Q : Loc → MH → Prop) : Prop where
  run : ∀ (A : Around) (env : Env) (s : Shared) (δ : Addr → Addr) (v' : Value), Room A n → EnvOK S env → FrOK C S env s.heap ρ δ H → Lay C s.heap δ H → er v' = v → v ≠ .junk →
    wpAny C.M A (assign t env v') (fun _ => PostA C S env δ H s Q) noE s
theorem WAsg_name {x : Str} {i : Nat} {v : V} {p : Pos} {Q : Loc → MH → Prop} (hx : idx S.ns x = some i) (hk : canStore S x = true) (q : Q (ρ.set i v) H) : WAsg C S n (.Name x p) v ρ H Q :=
  ⟨fun A env s δ v' rm eo F L hv jv => assign_Name (store_ok eo F L hx hk (hv ▸ jv) (hv ▸ q))⟩
noncomputable def setAll (ρ : Loc) (is : List Nat) (vs : List V) : Loc := (is.zip vs).foldl (fun r p => r.set p.1 p.2) ρ
theorem setAll_nil {ρ : Loc} {vs : List V} : setAll ρ [] vs = ρ := rfl
theorem setAll_cons {ρ : Loc} {i : Nat} {is : List Nat} {v : V} {vs : List V} : setAll ρ (i :: is) (v :: vs) = setAll (ρ.set i v) is vs := rfl
noncomputable def Stores (env : Env) (f : Value → Sem Unit) (x : Str) : Prop := ∀ (M : Model) (A : Around) (E : Value → Shared → Prop) (Q : Unit → Shared → Prop) (s : Shared) (v : Value), wpAny M A (storeName env x v) Q E s → wpAny M A (f v) Q E s
theorem inOrder {env : Env} {A : Around} (eo : EnvOK S env) (fs : List (Value → Sem Unit)) : ∀ (xs : List Str) (is : List Nat) (vs : List Value) (ρ : Loc) (s : Shared) (δ : Addr → Addr) (Q : Loc → MH → Prop),
    Paired (Stores env) fs xs → Paired (fun x i => idx S.ns x = some i ∧ canStore S x = true) xs is → vs.length = fs.length → (∀ v ∈ vs, er v ≠ .junk) → FrOK C S env s.heap ρ δ H → Lay C s.heap δ H → Q (setAll ρ is (vs.map er)) H →
    wpAny C.M A (assignInOrder fs vs) (fun _ => PostA C S env δ H s Q) noE s := by
  induction fs with
  | nil =>
    intro xs is vs ρ s δ Q p1 p2 hl _ F L q
    cases p1; cases p2
    obtain rfl : vs = [] := List.eq_nil_of_length_eq_zero hl
    exact wpAny_pure ⟨δ, H, ρ, L, F, Keeps.refl _ _ _ _, q⟩
  | cons f fs ih =>
    intro xs is vs ρ s δ Q p1 p2 hl hj F L q
    cases p1 with | cons hf p1 =>
    cases p2 with | cons hi p2 =>
    cases vs with
    | nil => cases hl
    | cons v vs =>
    show wpAny C.M A (do holding vs (f v); assignInOrder fs vs) _ _ s
    refine wpAny_bind (wpAny_holding (hf _ _ _ _ _ _ (noE_any (store_ok (Q := fun ρ' H' => H = H' ∧ ρ.set _ (er v) = ρ') eo F L hi.1 hi.2 (hj v (by simp)) ⟨rfl, rfl⟩) fun _ s1 pk => ?_)))
    obtain ⟨δ1, H1, ρ1, L1, F1, K1, e1, e2⟩ := pk
    subst e1; subst e2
    refine noE_any (ih _ _ vs _ s1 δ1 Q p1 p2 (by simpa using hl) (fun u hu => hj u (List.mem_cons_of_mem _ hu)) F1 L1 q) fun _ s' pk => ?_
    obtain ⟨δ2, H2, ρ2, L2, F2, K2, q2⟩ := pk
    exact ⟨δ2, H2, ρ2, L2, F2, K1.trans K2, q2⟩
set_option genInjectivity false in
set_option genSizeOf false in
set_option genSizeOfSpec false in
inductive XV where
  | name (x : Str) (p : Pos) | call (f : Expr) (es : List Expr) (ks : List Keyword) (p : Pos) | attr (o : Expr) (x : Str) (p : Pos) | slice (a b c : Option Expr) (p : Pos) | lc (e : Expr) (gs : List Comprehension) (sc : Scope) (p : Pos) | tup (es : List Expr) (k : Nat) (p : Pos) | sub (o i : Expr) (p : Pos) | oth
noncomputable def xv : Expr → XV
  | .Name x p => .name x p
  | .Call f es ks p => .call f es ks p
  | .Attribute o x p => .attr o x p
  | .Slice a b c p => .slice a b c p
  | .ListComp e gs sc p => .lc e gs sc p
  | .Tuple es k p => .tup es k p
  | .Subscript o i p => .sub o i p
  | _ => .oth
noncomputable def XV.ok (t : Expr) : XV → Prop
  | .name x p => t = .Name x p
  | .call f es ks p => t = .Call f es ks p
  | .attr o x p => t = .Attribute o x p
  | .slice a b c p => t = .Slice a b c p
  | .lc e gs sc p => t = .ListComp e gs sc p
  | .tup es k p => t = .Tuple es k p
  | .sub o i p => t = .Subscript o i p
  | .oth => True
theorem xv_ok (t : Expr) : (xv t).ok t := by
  cases t <;> first | exact trivial | rfl
noncomputable def nameOf (e : Expr) : Option Str := match xv e with
  | .name x _ => some x
  | _ => none
noncomputable def namesOf (es : List Expr) : Option (List Str) := es.mapM nameOf
noncomputable def idxs (S : St) (xs : List Str) : Option (List Nat) := xs.mapM fun x => if canStore S x then idx S.ns x else none
theorem idxs_pair {xs : List Str} {is : List Nat} (h : idxs S xs = some is) : Paired (fun x i => idx S.ns x = some i ∧ canStore S x = true) xs is := by
  induction xs generalizing is with
  | nil => cases h; exact .nil
  | cons x xs ih =>
    unfold idxs at h
    rw [List.mapM_cons] at h
    simp only [Option.bind_eq_bind, Option.bind_eq_some_iff] at h
    obtain ⟨i, h1, r, h2, h3⟩ := h
    cases h3
    split at h1
    · rename_i hc
      exact .cons ⟨h1, hc⟩ (ih h2)
    · cases h1
noncomputable def callOf (e : Expr) : Option (Expr × List Expr × List Keyword) := match xv e with
  | .call f as ks _ => some (f, as, ks)
  | _ => none
noncomputable def attrOf (e : Expr) : Option (Expr × Str × Pos) := match xv e with
  | .attr o x p => some (o, x, p)
  | _ => none
noncomputable def sliceOf (e : Expr) : Option (Option Expr × Option Expr × Option Expr) := match xv e with
  | .slice a b c _ => some (a, b, c)
  | _ => none
noncomputable def lcOf (e : Expr) : Option (Expr × List Comprehension × Scope × Pos) := match xv e with
  | .lc elt gens sc p => some (elt, gens, sc, p)
  | _ => none
noncomputable def tupOf (e : Expr) : Option (List Expr × Nat × Pos) := match xv e with
  | .tup es k p => some (es, k, p)
  | _ => none
theorem som {α : Type} {x y : α} {P : α → Prop} (h : some x = some y) (q : P x) : P y := Option.some.inj h ▸ q
theorem nope {α : Type} {x : α} {P : Prop} (h : none = some x) : P := nomatch h
theorem nameOf_of {f : Expr} {x : Str} (h : nameOf f = some x) : ∃ p, f = .Name x p := by
  have k := xv_ok f
  unfold nameOf at h
  revert h k
  generalize xv f = v
  cases v <;> intro h k <;> first | exact nope h | exact som (P := fun x => ∃ p, f = .Name x p) h ⟨_, k⟩
theorem callOf_of {f : Expr} {q : Expr × List Expr × List Keyword} (h : callOf f = some q) : ∃ p, f = .Call q.1 q.2.1 q.2.2 p := by
  have k := xv_ok f
  unfold callOf at h
  revert h k
  generalize xv f = v
  cases v <;> intro h k <;> first | exact nope h | exact som (P := fun (q : Expr × List Expr × List Keyword) => ∃ p, f = .Call q.1 q.2.1 q.2.2 p) h ⟨_, k⟩
theorem attrOf_of {f : Expr} {q : Expr × Str × Pos} (h : attrOf f = some q) : f = .Attribute q.1 q.2.1 q.2.2 := by
  have k := xv_ok f
  unfold attrOf at h
  revert h k
  generalize xv f = v
  cases v <;> intro h k <;> first | exact nope h | exact som (P := fun (q : Expr × Str × Pos) => f = .Attribute q.1 q.2.1 q.2.2) h k
theorem sliceOf_of {f : Expr} {q : Option Expr × Option Expr × Option Expr} (h : sliceOf f = some q) : ∃ p, f = .Slice q.1 q.2.1 q.2.2 p := by
  have k := xv_ok f
  unfold sliceOf at h
  revert h k
  generalize xv f = v
  cases v <;> intro h k <;> first | exact nope h | exact som (P := fun (q : Option Expr × Option Expr × Option Expr) => ∃ p, f = .Slice q.1 q.2.1 q.2.2 p) h ⟨_, k⟩
theorem lcOf_of {f : Expr} {q : Expr × List Comprehension × Scope × Pos} (h : lcOf f = some q) : f = .ListComp q.1 q.2.1 q.2.2.1 q.2.2.2 := by
  have k := xv_ok f
  unfold lcOf at h
  revert h k
  generalize xv f = v
  cases v <;> intro h k <;> first | exact nope h | exact som (P := fun (q : Expr × List Comprehension × Scope × Pos) => f = .ListComp q.1 q.2.1 q.2.2.1 q.2.2.2) h k
theorem tupOf_of {f : Expr} {q : List Expr × Nat × Pos} (h : tupOf f = some q) : f = .Tuple q.1 q.2.1 q.2.2 := by
  have k := xv_ok f
  unfold tupOf at h
  revert h k
  generalize xv f = v
  cases v <;> intro h k <;> first | exact nope h | exact som (P := fun (q : List Expr × Nat × Pos) => f = .Tuple q.1 q.2.1 q.2.2) h k
theorem namesOf_cons {e : Expr} {es : List Expr} {xs : List Str} (h : namesOf (e :: es) = some xs) : ∃ x p r, e = .Name x p ∧ xs = x :: r ∧ namesOf es = some r := by
  unfold namesOf at h
  rw [List.mapM_cons] at h
  simp only [Option.bind_eq_bind, Option.bind_eq_some_iff] at h
  obtain ⟨x, h1, r, h2, h3⟩ := h
  cases h3
  obtain ⟨p, rfl⟩ := nameOf_of h1
  exact ⟨_, _, _, rfl, rfl, h2⟩
theorem each_names {env : Env} : ∀ {es : List Expr} {xs : List Str}, namesOf es = some xs → (assignEach es env).findIdx? (·.1) = none ∧ Paired (Stores env) ((assignEach es env).map (·.2)) xs ∧ (assignEach es env).length = xs.length
  | [], xs, h => by cases h; exact ⟨rfl, .nil, rfl⟩
  | e :: es, xs, h => by
    obtain ⟨x, p, r, rfl, rfl, h2⟩ := namesOf_cons h
    obtain ⟨a, b, c⟩ := each_names (env := env) h2
    have e1 : assignEach (.Name x p :: es) env = (false, assign (.Name x p) env) :: assignEach es env := rfl
    rw [e1]
    refine ⟨?_, .cons (fun M A E Q s v h => assign_Name h) b, by simp [c]⟩
    rw [List.findIdx?_cons]
    simp [a]
theorem WAsg_tuple {es : List Expr} {xs : List Str} {is : List Nat} {k : Nat} {p : Pos} {t : Addr} {vs : List V} {v : V} {Q : Loc → MH → Prop} (hn : namesOf es = some xs) (hi : idxs S xs = some is) (hv : v = .ref t) (ht : H t = some (.tuple vs)) (hl : vs.length = xs.length) (q : Q (setAll ρ is vs) H) : WAsg C S n (.Tuple es k p) v ρ H Q := by
  refine ⟨fun A env s δ v' rm eo F L hv' jv => ?_⟩
  subst hv
  obtain rfl := er_ref hv'
  obtain ⟨vs', m, ex, rfl, nj⟩ := L.obj _ _ ht
  obtain ⟨a, b, c⟩ := each_names (env := env) hn
  rw [List.length_map] at hl
  refine assign_Tuple_tuple (items := vs'.toArray) rm.2.2 ⟨_, ex, rfl, m, rfl⟩ (by simp [c, hl]) a fun h' eb => ?_
  have k0 : ∀ b o, s.heap.get? b = some o → h'.get? b = some o := fun b o e => eb b o (Nat.ne_of_lt (Heap.lt_size e)) e
  have K0 : Keeps (ownπ env) δ H s δ H { s with heap := h' } := Keeps.grow (t := s.toks) k0
  have F0 : FrOK C S env h' ρ δ H := F.keeps (Keeps.grow (π := noπ) (t := s.toks) k0)
  refine noE_any (inOrder (C := C) (H := H) eo _ xs is vs' ρ { s with heap := h' } δ Q b (idxs_pair hi) (by simp [c, hl]) (fun u hu => nj _ (List.mem_map_of_mem hu)) F0 (L.mono k0) q) fun _ s' ⟨δ2, H2, ρ2, L2, F2, K2, q2⟩ => ⟨δ2, H2, ρ2, L2, F2, K0.trans K2, q2⟩
theorem WS_unpack {es : List Expr} {k : Nat} {p : Pos} {value : Expr} {pos : Pos} {Q : Fl → Loc → MH → Prop} (hc : notComp value = true) (hw : ∀ env, swappedStores [.Tuple es k p] value env = pure none) (h : WE C S n value ρ H fun v H1 => WAsg C S n (.Tuple es k p) v ρ H1 fun ρ' H' => Q .next ρ' H') : WS C S n (.Assign [.Tuple es k p] value pos) ρ H Q := by
  refine ⟨fun A env s δ rm eo F L => Assign_Tuple (h.bind rm eo F L fun v s1 δ1 H1 L1 K1 F1 ja h1 => ?_) (swaps_no (t := some (.Tuple es k p)) (l := pos.line) (env := env) hc) (hw env)⟩
  exact noE_any (h1.run A env s1 δ1 v rm eo F1 L1 rfl ja) fun _ s' ⟨δ2, H2, ρ2, L2, F2, K2, q2⟩ => ⟨δ2, H2, ρ2, L2, F2, K1.weak.trans K2, trivial, q2⟩
noncomputable def swapNames (S : St) (ts vs : List Expr) : Option (List Str) :=
  if !(ts.length == 2 || ts.length == 3) || vs.length != ts.length then none
  else if vs.any (fun | .Starred .. => true | _ => false) then none
  else
    let line := (ts.head?.map (·.pos.line)).getD 0
    let names := ts.filterMap fun
      | .Name id pos => if S.sc.names.lookup id == some .local && pos.line == line then some id else none
      | _ => none
    if names.length != ts.length || names.eraseDups.length != names.length then none
    else if vs.all (foldedForSure 8) then none
    else if vs.all (constantsAlone 8) then none
    else some names
theorem if_none {α : Type} {c : Prop} [Decidable c] {t : Option α} {x : α} (h : (if c then none else t) = some x) : ¬c ∧ t = some x := by
  by_cases e : c
  · rw [if_pos e] at h; cases h
  · rw [if_neg e] at h; exact ⟨e, h⟩
theorem swap_of {env : Env} {ts vs : List Expr} {k k' : Nat} {p p' : Pos} {names : List Str} (eo : EnvOK S env) (h : swapNames S ts vs = some names) : swappedStores [.Tuple ts k p] (.Tuple vs k' p') env = pure (some names) := by
  have hb : env.blockKind = .function := by unfold Env.blockKind; rw [eo.sc, eo.kind]; rfl
  have hk : ∀ x, env.kindOf x = S.sc.names.lookup x := eo.kindOf
  unfold swapNames at h
  have h1 := if_none h
  have h2 := if_none h1.2
  have h3 := if_none h2.2
  have h4 := if_none h3.2
  have h5 := if_none h4.2
  cases h5.2
  delta swappedStores
  rw [hb, funext hk]
  exact (if_neg (fun e => h1.1 (by simpa using e))).trans ((if_neg h2.1).trans ((if_neg h3.1).trans ((if_neg h4.1).trans (if_neg h5.1))))
theorem WS_swap {ts vs : List Expr} {k k' : Nat} {p p' pos : Pos} {names : List Str} {is : List Nat} {Q : Fl → Loc → MH → Prop} (hs : swapNames S ts vs = some names) (hi : idxs S names.reverse = some is)
    (h : WE C S n (.Tuple vs k' p') ρ H fun v H1 => ∃ t us, v = .ref t ∧ H1 t = some (.tuple us) ∧ us.length = names.length ∧ Q .next (setAll ρ is us.reverse) H1) : WS C S n (.Assign [.Tuple ts k p] (.Tuple vs k' p') pos) ρ H Q := by
  refine ⟨fun A env s δ rm eo F L => Assign_Tuple_swapped (names := names) (h.bind rm eo F L fun v s1 δ1 H1 L1 K1 F1 ja ⟨t, us, hv, ht, hl, q⟩ => ?_) (swaps_no (e := .Tuple vs k' p') (t := some (.Tuple ts k p)) (l := pos.line) (env := env) rfl) (swap_of eo hs)⟩
  obtain rfl := er_ref hv
  obtain ⟨vs', m, ex, rfl, nj⟩ := L1.obj _ _ ht
  rw [List.length_map] at hl
  have hsz : names.length = vs'.toArray.size := by simp [hl]
  rw [hsz]
  refine unpackItems_tuple rm.2.2 ⟨_, ex, rfl, m, rfl⟩ fun h' eb => ?_
  have k0 : ∀ b o, s1.heap.get? b = some o → h'.get? b = some o := fun b o e => eb b o (Nat.ne_of_lt (Heap.lt_size e)) e
  have K0 : Keeps (ownπ env) δ1 H1 s1 δ1 H1 { s1 with heap := h' } := Keeps.grow (t := s1.toks) k0
  have F0 : FrOK C S env h' ρ δ1 H1 := F1.keeps (Keeps.grow (π := noπ) (t := s1.toks) k0)
  have pr : ∀ l : List Str, Paired (Stores env) (l.map fun x => bindName env x) l := fun l => by
    induction l with
    | nil => exact .nil
    | cons x l ih => exact .cons (fun M A E Q s v h => wpAny_bindName h) ih
  refine noE_any (inOrder (C := C) (H := H1) eo _ names.reverse is vs'.toArray.toList.reverse ρ { s1 with heap := h' } δ1 (fun ρ' H' => Q .next ρ' H') (pr _) (idxs_pair hi) (by simp [hl]) (fun u hu => nj _ (List.mem_map_of_mem (by simpa using hu))) F0 (L1.mono k0) (by simpa [List.map_reverse] using q)) fun _ s' ⟨δ2, H2, ρ2, L2, F2, K2, q2⟩ => ⟨δ2, H2, ρ2, L2, F2, (K1.weak.trans K0).trans K2, trivial, q2⟩
end
end N226
end
noncomputable section
open PySem PySem.W PySem.Calls PyProof.Rows
set_option maxRecDepth 10000
namespace N226
structure KeepsX (bad π : Addr → Prop) (δ : Addr → Addr) (H : MH) (s : Shared) (δ' : Addr → Addr) (H' : MH) (s' : Shared) : Prop where
  old : ∀ b o, ¬ bad b → s.heap.get? b = some o → ¬ Owned δ H b → ¬ π b → s'.heap.get? b = some o
  sub : ∀ b, ¬ bad b → Owned δ' H' b → Owned δ H b ∨ s.heap.get? b = none
  alive : ∀ b o, ¬ bad b → s.heap.get? b = some o → ∃ o', s'.heap.get? b = some o'
  rest : s'.gens = s.gens ∧ s'.drawn = s.drawn ∧ s'.os = s.os
  free : ∀ b, bad b → ¬ Owned δ' H' b
section
variable {C : Cx} {S : St} {n : Nat} {ρ : Loc} {H : MH} {bad π : Addr → Prop}
theorem KeepsX.trans {δ δ' δ'' : Addr → Addr} {H' H'' : MH} {s s' s'' : Shared} (x : KeepsX bad π δ H s δ' H' s') (y : KeepsX bad π δ' H' s' δ'' H'' s'') : KeepsX bad π δ H s δ'' H'' s'' := by
  refine ⟨fun b o nb e no np => y.old b o nb (x.old b o nb e no np) (fun q => ?_) np, fun b nb q => ?_, fun b o nb e => ?_, ⟨y.rest.1.trans x.rest.1, y.rest.2.1.trans x.rest.2.1, y.rest.2.2.trans x.rest.2.2⟩, y.free⟩
  · rcases x.sub b nb q with q | q
    · exact no q
    · rw [q] at e; cases e
  · rcases y.sub b nb q with q | q
    · exact x.sub b nb q
    · right
      cases e : s.heap.get? b with
      | none => rfl
      | some o =>
        obtain ⟨o', e'⟩ := x.alive b o nb e
        rw [e'] at q; cases q
  · obtain ⟨o', e'⟩ := x.alive b o nb e
    exact y.alive b o' nb e'
theorem Keeps.x {δ δ' : Addr → Addr} {H' : MH} {s s' : Shared} (k : Keeps π δ H s δ' H' s') (f : ∀ b, bad b → ¬ Owned δ' H' b) : KeepsX bad π δ H s δ' H' s' :=
  ⟨fun b o _ => k.old b o, fun b _ => k.sub b, fun b o _ => k.alive b o, k.rest, f⟩
theorem KeepsX.new {δ δ' : Addr → Addr} {H' : MH} {s s1 s' : Shared} (x : KeepsX bad π δ H s1 δ' H' s') (k : ∀ b o, s.heap.get? b = some o → s1.heap.get? b = some o) (r : s1.gens = s.gens ∧ s1.drawn = s.drawn ∧ s1.os = s.os) (nw : ∀ b, bad b → s.heap.get? b = none) : Keeps π δ H s δ' H' s' := by
  have nb : ∀ b o, s.heap.get? b = some o → ¬ bad b := fun b o e q => by rw [nw b q] at e; cases e
  refine ⟨fun b o e no np => x.old b o (nb b o e) (k b o e) no np, fun b q => ?_, fun b o e => x.alive b o (nb b o e) (k b o e), x.rest.1.trans r.1, x.rest.2.1.trans r.2.1, x.rest.2.2.trans r.2.2⟩
  by_cases hb : bad b
  · exact absurd q (x.free b hb)
  · rcases x.sub b hb q with q | q
    · exact .inl q
    · right
      cases e : s.heap.get? b with
      | none => rfl
      | some o => rw [k b o e] at q; cases q
noncomputable def ForEnd (C : Cx) (S : St) (env : Env) (it : Addr) (δ : Addr → Addr) (H : MH) (s : Shared) (Q : Fl → Loc → MH → Prop) (f : Flow) (s' : Shared) : Prop :=
  ∃ δ' H' ρ', Lay C s'.heap δ' H' ∧ FrOK C S env s'.heap ρ' δ' H' ∧ KeepsX (fun b => b = it) (ownπ env) δ H s δ' H' s' ∧ GoodF f ∧ Q (erF f) ρ' H'
noncomputable def ForPost (C : Cx) (S : St) (env : Env) (it : Addr) (δ : Addr → Addr) (H : MH) (s : Shared) (Q : Fl → Loc → MH → Prop) : Result → Shared → Prop := fun r s' => match r with
  | .ok f => ForEnd C S env it δ H s Q f s'
  | .error _ => False
structure WFor (C : Cx) (S : St) (n : Nat) (t : Expr) (body : List Stmt) (src : Src) (ρ : Loc) (H : MH) (Q : Fl → Loc → MH → Prop) : Prop where
  run : ∀ (A : Around) (env : Env) (s : Shared) (δ : Addr → Addr) (it : Addr), Room A n → EnvOK S env → FrOK C S env s.heap ρ δ H → Lay C s.heap δ H → src.at s.heap it → C.hB.get? it = none → ¬ Owned δ H it → ¬ ownπ env it →
    codeAny C.M A (.forLoop t (.ref it) body [] env) (ForPost C S env it δ H s Q) s
noncomputable def fineIter (T : String) : Bool := !(["enumerate", "zip", "dict_itemiterator", "dict_reverseitemiterator", "odict_iterator", "itertools.zip_longest", "itertools.pairwise"].contains T)
theorem Src.at.cls {h : Heap} {it : Addr} {src : Src} (x : src.at h it) : ∃ o T vs, h.get? it = some o ∧ o.cls = .type T ∧ o.data = .fields vs ∧ fineIter T = true := by
  cases src with
  | lst a i => obtain ⟨o, e, c, d⟩ := x; exact ⟨o, _, _, e, c, d, by decide⟩
  | tup a i => obtain ⟨o, e, c, d⟩ := x; exact ⟨o, _, _, e, c, d, by decide⟩
  | rng y k st => exact ⟨_, _, _, x, rfl, rfl, by decide⟩
  | keys d i n ep => obtain ⟨o, e, c, d⟩ := x; exact ⟨o, _, _, e, c, d, by decide⟩
theorem ForEnd.after {env : Env} {it : Addr} {δ δ1 : Addr → Addr} {H1 : MH} {s s1 s' : Shared} {f : Flow} {Q : Fl → Loc → MH → Prop} (X : KeepsX (fun b => b = it) (ownπ env) δ H s δ1 H1 s1) (p : ForEnd C S env it δ1 H1 s1 Q f s') : ForEnd C S env it δ H s Q f s' := by
  obtain ⟨δ', H', ρ', L', F', X', g', q'⟩ := p
  exact ⟨δ', H', ρ', L', F', X.trans X', g', q'⟩
theorem owned_or (t : Expr) (it v : Value) : letOwnedTupleGo t it v = bif Nat.beq t.ctorIdx 24 || Nat.beq t.ctorIdx 25 then letOwnedTupleGo (.Tuple [] 0 default) it v else pure () := by
  cases t <;> first | exact Eq.refl (pure ()) | exact rfl
theorem owned_go {A : Around} {s : Shared} {src : Src} {it : Addr} {t : Expr} {v : Value} {Q : Unit → Shared → Prop} (x : src.at s.heap it) (q : Q () s) : wpAny C.M A (letOwnedTupleGo t (.ref it) v) Q noE s := by
  obtain ⟨⟨cls, data, d3⟩, T, vs, e, c, d, f⟩ := x.cls
  have hf : (["enumerate", "zip", "dict_itemiterator", "dict_reverseitemiterator", "odict_iterator", "itertools.zip_longest", "itertools.pairwise"].contains T) = false := by
    unfold fineIter at f
    rwa [Bool.not_eq_true'] at f
  cases c; cases d
  rw [owned_or]
  cases Nat.beq t.ctorIdx 24 || Nat.beq t.ctorIdx 25
  · exact wpAny_pure q
  · cases v with
    | ref a =>
      refine wpAny_bind (wpAny_load e ?_)
      show wpAny _ _ (ite _ _ _) _ _ _
      rw [hf]
      exact wpAny_pure q
    | _ => exact wpAny_pure q
theorem WFor.turn {t : Expr} {body : List Stmt} {src : Src} {Q : Fl → Loc → MH → Prop} {r : Option V} (hi : src.item H = some r)
    (h : match r with | none => Q .next ρ H | some v => WAsg C S n t v ρ H fun ρ1 H1 => WSs C S n body ρ1 H1 (loopQ (fun ρ2 H2 => WFor C S n t body src.next ρ2 H2 Q) Q)) : WFor C S n t body src ρ H Q := by
  refine ⟨fun A env s δ it rm eo F L hs nB no np => codeAny_of_tree ?_⟩
  obtain ⟨oi, ei, oddi⟩ := hs.obj
  show wpAny _ A ((forTurn t (.ref it) body [] env).onRaise (fun x => do noteFrame x env; theTreesLotGoes x)) _ _ s
  refine wpAny_noted ?_
  simp only [forTurn]
  refine wpAny_bind (wpAny_standAt (wpAny_bind (wpAny_onRaise (noE_any (next_ok rm.2.2 L hs hi (R := fun r' s' => ∃ h' t', s' = { s with heap := h', toks := t' } ∧ r'.map er = r ∧ (∀ v, r' = some v → er v ≠ .junk) ∧ (∀ c oc, c ≠ it → s.heap.get? c = some oc → h'.get? c = some oc) ∧ (r ≠ none → src.next.at h' it)) fun r' h' t' a b c d => ⟨h', t', rfl, a, b, c, d⟩) fun r' s1 pk => ?_))))
  obtain ⟨h', t', e1, a, b, c, d⟩ := pk
  subst e1
  have L1 := L.but ei oddi nB no c
  have F1 := F.but np c
  have X1 : KeepsX (fun b => b = it) (ownπ env) δ H s δ H { s with heap := h', toks := t' } := ⟨fun b o nb e _ _ => c b o nb e, fun b _ q => .inl q, fun b o nb e => ⟨o, c b o nb e⟩, ⟨rfl, rfl, rfl⟩, fun b hb => hb ▸ no⟩
  cases r' with
  | none =>
    cases a
    refine wpAny_pure ⟨rfl, codeAny_block (wpAny_execs_nil ?_)⟩
    exact ⟨δ, H, ρ, L1, F1, X1, trivial, h⟩
  | some v =>
    cases a
    have hn := d (by simp)
    refine wpAny_bind (wpAny_mono (owned_go (s := { s with heap := h', toks := t' }) hn (Q := fun _ s2 => s2 = { s with heap := h', toks := t' }) rfl) (fun _ s2 e2 => ?_) fun _ _ x => x.elim)
    subst e2
    refine wpAny_bind (noE_any (WAsg.run h A env { s with heap := h', toks := t' } δ v rm eo F1 L1 rfl (b v rfl)) fun _ s3 pk => ?_)
    obtain ⟨δ3, H3, ρ3, L3, F3, K3, h3⟩ := pk
    refine wpAny_bind (noE_any (h3.run A env s3 δ3 rm eo F3 L3) fun f s4 pk => ?_)
    obtain ⟨δ4, H4, ρ4, L4, F4, K4, g, q⟩ := pk
    obtain ⟨on, en, oddn⟩ := hn.obj
    have no3 := K3.notOwned en no
    have en3 : s3.heap.get? it = some on := K3.old it on en no np
    have no4 := K4.notOwned en3 no3
    have en4 : s4.heap.get? it = some on := K4.old it on en3 no3 np
    have hn4 : src.next.at s4.heap it := hn.congr fun o e => by rw [en] at e; cases e; exact en4
    have X4 : KeepsX (fun b => b = it) (ownπ env) δ H s δ4 H4 s4 := X1.trans ((K3.trans K4).x fun b hb => hb ▸ no4)
    have again : loopQ (fun ρ2 H2 => WFor C S n t body src.next ρ2 H2 Q) Q .next ρ4 H4 → codeAny C.M A (.forLoop t (.ref it) body [] env) (ForPost C S env it δ H s Q) s4 := fun q => codeAny_mono (WFor.run q A env s4 δ4 it rm eo F4 L4 hn4 nB no4 np) fun r s' p => by
        cases r with
        | error e => exact p
        | ok f => exact ForEnd.after X4 p
    cases f with
    | next => exact wpAny_pure ⟨rfl, again q⟩
    | cont => exact wpAny_pure ⟨rfl, again q⟩
    | brk => exact wpAny_pure ⟨δ4, H4, ρ4, L4, F4, X4, trivial, q⟩
    | ret v => exact wpAny_pure ⟨δ4, H4, ρ4, L4, F4, X4, g, q⟩
noncomputable def notSet (e : Expr) : Bool := !Nat.beq e.ctorIdx 7
theorem folded_no {e : Expr} {env : Env} {x : Value} (h : notSet e = true) : foldedSetIterable e env x = pure x := by
  cases e <;> first | exact Eq.refl (pure x) | cases h
theorem frame_free {env : Env} {s : Shared} {δ : Addr → Addr} (F : FrOK C S env s.heap ρ δ H) : ¬ ownπ env s.heap.objs.size := by
  rintro (e | ⟨x, e⟩)
  · obtain ⟨m, ⟨oL, es, ep, hL, _⟩, _⟩ := F.loc
    rw [← e, size_none] at hL; cases hL
  · obtain ⟨_, _, _, o, vo, ho, _⟩ := F.cell x _ e
    rw [size_none] at ho; cases ho
theorem WS_for {t iter : Expr} {body : List Stmt} {pos : Pos} {Q : Fl → Loc → MH → Prop} (hns : notSet iter = true) (h : WE C S n iter ρ H fun x H1 => ∃ src, iterOf H1 x = some src ∧ WFor C S n t body src ρ H1 Q) : WS C S n (.For t iter body [] pos) ρ H Q := by
  refine ⟨fun A env s δ rm eo F L => wpAny_For (h.bind rm eo F L fun x s1 δ1 H1 L1 K1 F1 ja ⟨src, hi, h1⟩ => ?_) fun x => folded_no hns⟩
  refine iter_ok L1 rfl hi fun o ho => ?_
  have k0 : ∀ b ob, s1.heap.get? b = some ob → (s1.heap.push o).get? b = some ob := fun b ob e => Heap.get?_push_of_some _ e
  have hn := size_none s1.heap
  have no : ¬ Owned δ1 H1 s1.heap.objs.size := fun q => by obtain ⟨ob, e⟩ := L1.aliveOwned q; rw [hn] at e; cases e
  have F2 : FrOK C S env (s1.heap.push o) ρ δ1 H1 := F1.keeps (s' := { s1 with heap := s1.heap.push o }) (Keeps.grow (π := noπ) (t := s1.toks) k0)
  refine codeAny_mono (h1.run A env { s1 with heap := s1.heap.push o } δ1 s1.heap.objs.size rm eo F2 (L1.mono k0) ho (L1.noB hn) no (frame_free F1)) fun r s' p => ?_
  cases r with
  | error e => exact p.elim
  | ok f =>
    obtain ⟨δ', H', ρ', L', F', X', g, q⟩ := p
    refine ⟨δ', H', ρ', L', F', K1.weak.trans (X'.new (s := s1) k0 ⟨rfl, rfl, rfl⟩ fun b hb => hb ▸ hn), g, q⟩
noncomputable def St.inner (S : St) (sc : Scope) (x : Str) : St :=
  ⟨{ sc with names := sc.names.map fun (n, k) => if (k == .free && S.sc.names.lookup n == some .cell) then (n, .cell) else (n, k) }, x :: S.ns⟩
noncomputable def inLoc (v : Option V) (ρ : Loc) : Loc := fun i => match i with | 0 => v | i + 1 => ρ i
theorem relabel_of {env : Env} {sc : Scope} {x : Str} (eo : EnvOK S env) : relabel sc env = (S.inner sc x).sc := by
  unfold relabel St.inner
  have : env.scope.kind = .function := by rw [eo.sc]; exact eo.kind
  have e : (ScopeKind.function == ScopeKind.function) = true := rfl
  simp only [this, eo.kindOf, e, Bool.and_true]
noncomputable def AccAt (h : Heap) (acc : Addr) (done : List V) : Prop := ∃ ds m, h.get? acc = some { cls := .type "list", data := .seq (List.toArray ds) m } ∧ ds.map er = done ∧ NJ done
noncomputable def WTs (C : Cx) (S : St) (n : Nat) (ifs : List Expr) (ρ : Loc) (H : MH) (Q : Bool → MH → Prop) : Prop := match ifs with
  | [] => Q true H
  | [c] => WT C S n c ρ H Q
  | _ => False
noncomputable abbrev bad3 (it acc : Addr) (env : Env) : Addr → Prop := fun b => b = it ∨ b = acc ∨ b = env.locals
noncomputable def CmpEnd (C : Cx) (S : St) (env : Env) (ρ : Loc) (it acc : Addr) (δ : Addr → Addr) (H : MH) (s : Shared) (Q : List V → MH → Prop) (s' : Shared) : Prop :=
  ∃ δ' H' u' done', Lay C s'.heap δ' H' ∧ FrOK C S env s'.heap (inLoc u' ρ) δ' H' ∧ KeepsX (bad3 it acc env) noπ δ H s δ' H' s' ∧ AccAt s'.heap acc done' ∧ Q done' H'
noncomputable def CmpPost (C : Cx) (S : St) (env : Env) (ρ : Loc) (it acc : Addr) (δ : Addr → Addr) (H : MH) (s : Shared) (Q : List V → MH → Prop) : Result → Shared → Prop := fun r s' => match r with
  | .ok _ => CmpEnd C S env ρ it acc δ H s Q s'
  | .error _ => False
theorem CmpEnd.after {env : Env} {it acc : Addr} {δ δ1 : Addr → Addr} {H1 : MH} {s s1 s' : Shared} {Q : List V → MH → Prop} (X : KeepsX (bad3 it acc env) noπ δ H s δ1 H1 s1) (p : CmpEnd C S env ρ it acc δ1 H1 s1 Q s') : CmpEnd C S env ρ it acc δ H s Q s' := by
  obtain ⟨δ', H', u', done', L', F', X', g', q'⟩ := p
  exact ⟨δ', H', u', done', L', F', X.trans X', g', q'⟩
structure WCmp (C : Cx) (S : St) (n : Nat) (elt iter : Expr) (ifs : List Expr) (x : Str) (src : Src) (done : List V) (ρ : Loc) (H : MH) (Q : List V → MH → Prop) : Prop where
  run : ∀ (A : Around) (env : Env) (s : Shared) (δ : Addr → Addr) (it acc : Addr) (px pos : Pos) (scope : Scope) (u : Option V), Room A n → EnvOK S env → FrOK C S env s.heap (inLoc u ρ) δ H → Lay C s.heap δ H → src.at s.heap it → C.hB.get? it = none → ¬ Owned δ H it → ¬ ownπ env it →
    AccAt s.heap acc done → C.hB.get? acc = none → ¬ Owned δ H acc → ¬ ownπ env acc → acc ≠ it →
    codeAny C.M A (.compLoop (.ListComp elt [⟨.Name x px, iter, ifs, 0⟩] scope pos) 0 (.ref it) (.ref acc) env) (CmpPost C S env ρ it acc δ H s Q) s
theorem inLoc_set {u : Option V} {v : V} : (inLoc u ρ).set 0 v = inLoc (some v) ρ := by
  funext i
  cases i with
  | zero => rfl
  | succ i => rfl
theorem store_loc {env : Env} {s : Shared} {δ : Addr → Addr} {A : Around} {x : Str} {i : Nat} {v : Value} {R : Unit → Shared → Prop} {E : Value → Shared → Prop} (eo : EnvOK S env) (F : FrOK C S env s.heap ρ δ H) (L : Lay C s.heap δ H) (hx : idx S.ns x = some i) (hk : S.sc.names.lookup x = some .local) (jv : er v ≠ .junk)
    (q : ∀ h' t, Lay C h' δ H → FrOK C S env h' (ρ.set i (er v)) δ H → (∀ c oc, c ≠ env.locals → s.heap.get? c = some oc → h'.get? c = some oc) → R () { s with heap := h', toks := t }) :
    wpAny C.M A (storeName env x v) R E s := by
  have other : ∀ y j, idx S.ns y = some j → y ≠ x → (ρ.set i (er v)) j = ρ j := fun y j hy hne => by
    rw [Loc.set_at]
    exact if_neg fun e => hne (idx_inj (e ▸ hy) hx)
  have self : ∀ j, idx S.ns x = some j → (ρ.set i (er v)) j = some (er v) := fun j hj => by
    rw [hx] at hj; cases hj; rw [Loc.set_at]; exact if_pos rfl
  have hkk : env.scope.kind = .function := by rw [eo.sc]; exact eo.kind
  have hl : env.kindOf x = some .local := (eo.kindOf x).trans hk
  obtain ⟨m, hn, hm⟩ := F.loc
  have hn0 := hn
  obtain ⟨oL, es, ep, hL, hLd, _⟩ := hn0
  refine wpAny_storeName_local hl hn (fun h' hn' sb => q h' _ (L.but hL (Odd.dict hLd) F.new F.priv (butOf sb)) ?_ (butOf sb)) (by rw [hkk]; rfl)
  refine ⟨⟨_, hn', fun y j hy hly => ?_⟩, F.new, F.priv, fun y c e => ?_, F.has, F.sep, F.apart⟩
  · by_cases e : y = x
    · subst e
      rw [if_pos rfl, self j hy]
      exact ⟨rfl, fun e => jv (Option.some.inj e)⟩
    · rw [if_neg e, other y j hy e]
      exact hm y j hy hly
  · obtain ⟨a, b, ne, o, vo, ho, hd, hv⟩ := F.cell y c e
    refine ⟨a, b, ne, o, vo, butOf sb _ _ ne ho, hd, fun j hy => ?_⟩
    have hne : y ≠ x := fun z => by rw [z, F.sep x hl] at e; cases e
    rw [other y j hy hne]; exact hv j hy
theorem tests_ok {env : Env} {s : Shared} {δ : Addr → Addr} {A : Around} {ifs : List Expr} {Q : Bool → MH → Prop} (h : WTs C S n ifs ρ H Q) (rm : Room A n) (eo : EnvOK S env) (F : FrOK C S env s.heap ρ δ H) (L : Lay C s.heap δ H) :
    wpAny C.M A (forIn ifs true fun c r => if r = true then do let ok ← isTrue c env (eval c env); pure (ForInStep.yield ok) else pure (ForInStep.yield r)) (fun b s' => ∃ δ' H', Lay C s'.heap δ' H' ∧ Keeps noπ δ H s δ' H' s' ∧ Q b H') noE s := by
  match ifs, h with
  | [], h => exact wpAny_tests_nil ⟨δ, H, L, Keeps.refl _ _ _ _, h⟩
  | [c], h => exact wpAny_tests_one (h.run A env s δ rm eo F L)
theorem WCmp.turn {elt iter : Expr} {ifs : List Expr} {x : Str} {src : Src} {done : List V} {Q : List V → MH → Prop} {r : Option V} (hx : idx S.ns x = some 0) (hk : S.sc.names.lookup x = some .local) (hi : src.item H = some r)
    (h : match r with
      | none => Q done H
      | some v => WTs C S n ifs (inLoc (some v) ρ) H fun b H1 => if b then WE C S n elt (inLoc (some v) ρ) H1 fun y H2 => done.length ≤ lim ∧ WCmp C S n elt iter ifs x src.next (done ++ [y]) ρ H2 Q else WCmp C S n elt iter ifs x src.next done ρ H1 Q) :
    WCmp C S n elt iter ifs x src done ρ H Q := by
  refine ⟨fun A env s δ it acc px pos scope u rm eo F L hs nB no np ha aB ao ap hne => codeAny_of_tree ?_⟩
  obtain ⟨oi, ei, oddi⟩ := hs.obj
  show wpAny _ _ ((compTurn (.ListComp elt [⟨.Name x px, iter, ifs, 0⟩] scope pos) 0 (.ref it) (.ref acc) env).onRaise (fun x => do noteFrame x env; theTreesLotGoes x)) _ _ s
  have rm' : Room (A.under (.compLoop (.ListComp elt [⟨.Name x px, iter, ifs, 0⟩] scope pos) 0 (.ref it) (.ref acc) env)) n := by
    rw [Around.under_of_weight rfl rfl]; exact rm
  refine wpAny_noted ?_
  rw [compTurn_list]
  refine wpAny_bind (wpAny_standAt (wpAny_bind (noE_any (next_ok rm'.2.2 L hs hi (R := fun r' s' => ∃ h' t', s' = { s with heap := h', toks := t' } ∧ r'.map er = r ∧ (∀ v, r' = some v → er v ≠ .junk) ∧ (∀ c oc, c ≠ it → s.heap.get? c = some oc → h'.get? c = some oc) ∧ (r ≠ none → src.next.at h' it)) fun r' h' t' a b c d => ⟨h', t', rfl, a, b, c, d⟩) fun r' s1 pk => ?_)))
  obtain ⟨h', t', e1, a, b, c, d⟩ := pk
  subst e1
  have L1 := L.but ei oddi nB no c
  have F1 := F.but np c
  have bl : ¬ Owned δ H env.locals := F.priv
  have X1 : KeepsX (bad3 it acc env) noπ δ H s δ H { s with heap := h', toks := t' } := ⟨fun b o nb e _ _ => c b o (fun z => nb (.inl z)) e, fun b _ q => .inl q, fun b o nb e => ⟨o, c b o (fun z => nb (.inl z)) e⟩, ⟨rfl, rfl, rfl⟩, fun b hb => by rcases hb with rfl | rfl | rfl <;> assumption⟩
  have ha1 : AccAt h' acc done := by obtain ⟨ds, m, e, r⟩ := ha; exact ⟨ds, m, c _ _ hne e, r⟩
  cases r' with
  | none =>
    cases a
    exact wpAny_pure ⟨δ, H, u, done, L1, F1, X1, ha1, h⟩
  | some v =>
    cases a
    have hn := d (by simp)
    obtain ⟨on, en, oddn⟩ := hn.obj
    have go : letOwnedTupleGo (.Name x px) (.ref it) v = pure () := rfl
    refine wpAny_bind (wpAny_of_eq go ?_)
    refine wpAny_bind (assign_Name (store_loc (s := { s with heap := h', toks := t' }) (i := 0) eo F1 L1 hx hk (b v rfl) fun h3 t3 L3 F3 k3 => ?_))
    rw [inLoc_set] at F3
    have itL : it ≠ env.locals := fun z => np (.inl z)
    have acL : acc ≠ env.locals := fun z => ap (.inl z)
    have hn3 : src.next.at h3 it := hn.congr fun o e => k3 _ _ itL e
    have ha3 : AccAt h3 acc done := by obtain ⟨ds, m, e, r⟩ := ha1; exact ⟨ds, m, k3 _ _ acL e, r⟩
    have X3 : KeepsX (bad3 it acc env) noπ δ H s δ H { s with heap := h3, toks := t3 } := X1.trans ⟨fun b o nb e _ _ => k3 b o (fun z => nb (.inr (.inr z))) e, fun b _ q => .inl q, fun b o nb e => ⟨o, k3 b o (fun z => nb (.inr (.inr z))) e⟩, ⟨rfl, rfl, rfl⟩, X1.free⟩
    refine wpAny_bind (noE_any (tests_ok (s := { s with heap := h3, toks := t3 }) h rm' eo F3 L3) fun ok s4 pk => ?_)
    obtain ⟨δ4, H4, L4, K4, h4⟩ := pk
    obtain ⟨o3, e3, odd3⟩ := hn3.obj
    have no4 := K4.notOwned e3 no
    have hn4 : src.next.at s4.heap it := hn3.congr fun o e => K4.old _ _ e no id
    have ha3' := ha3
    obtain ⟨ds, m, ea, hd, nj⟩ := ha3'
    have ao4 := K4.notOwned ea ao
    have ea4 := K4.old _ _ ea ao id
    have ha4 : AccAt s4.heap acc done := ⟨ds, m, ea4, hd, nj⟩
    have F4 := F3.keeps (s := { s with heap := h3, toks := t3 }) K4
    have X4 : KeepsX (bad3 it acc env) noπ δ H s δ4 H4 s4 := X3.trans (K4.x fun b hb => by rcases hb with rfl | rfl | rfl; exact no4; exact ao4; exact F4.priv)
    have again : ∀ s5 δ5 H5 done5, Lay C s5.heap δ5 H5 → FrOK C S env s5.heap (inLoc (some (er v)) ρ) δ5 H5 → KeepsX (bad3 it acc env) noπ δ H s δ5 H5 s5 → src.next.at s5.heap it → AccAt s5.heap acc done5 → WCmp C S n elt iter ifs x src.next done5 ρ H5 Q →
        codeAny C.M A (.compLoop (.ListComp elt [⟨.Name x px, iter, ifs, 0⟩] scope pos) 0 (.ref it) (.ref acc) env) (CmpPost C S env ρ it acc δ H s Q) s5 := fun s5 δ5 H5 done5 L5 F5 X5 hs5 ha5 q => codeAny_mono (q.run A env s5 δ5 it acc px pos scope _ rm eo F5 L5 hs5 nB (X5.free _ (.inl rfl)) np ha5 aB (X5.free _ (.inr (.inl rfl))) ap hne) fun r s' p => by
        cases r with
        | error e => exact p
        | ok f => exact CmpEnd.after X5 p
    cases ok with
    | false => exact wpAny_pure ⟨rfl, again s4 δ4 H4 done L4 F4 X4 hn4 ha4 h4⟩
    | true =>
      refine wpAny_bind (wpAny_bind (WE.bind h4 rm' eo F4 L4 fun y s5 δ5 H5 L5 K5 F5 jy ⟨hl, h5⟩ => wpAny_bind ?_))
      have ea5 := K5.old _ _ ea4 ao4 id
      have ao5 := K5.notOwned ea4 ao4
      obtain ⟨o4, e4, _⟩ := hn4.obj
      have no5 := K5.notOwned e4 no4
      have hn5 : src.next.at s5.heap it := hn4.congr fun o e => K5.old _ _ e no4 id
      have X5 : KeepsX (bad3 it acc env) noπ δ H s δ5 H5 s5 := X4.trans (K5.x fun b hb => by rcases hb with rfl | rfl | rfl; exact no5; exact ao5; exact F5.priv)
      have lp : s5.heap.PlainList acc ds.toArray := ⟨m, ea5⟩
      refine wpAny_list_append_plain lp (fun h6 hp6 sb6 => wpAny_pure (wpAny_pure ⟨rfl, ?_⟩)) ?_
      · obtain ⟨m6, e6⟩ := hp6
        have odd6 : Odd { cls := .type "list", data := .seq (List.toArray ds) m } := Odd.cls rfl (by decide) (by decide) (by decide)
        have L6 := L5.but ea5 odd6 aB ao5 (butOf sb6)
        refine again { s5 with heap := h6 } δ5 H5 (done ++ [er y]) L6 (F5.but ap (butOf sb6)) (X5.trans ⟨fun b o nb e _ _ => butOf sb6 b o (fun z => nb (.inr (.inl z))) e, fun b _ q => .inl q, fun b o nb e => ⟨o, butOf sb6 b o (fun z => nb (.inr (.inl z))) e⟩, ⟨rfl, rfl, rfl⟩, X5.free⟩) (hn5.congr fun o e => butOf sb6 _ _ (fun z => hne z.symm) e) ⟨ds ++ [y], m6, ?_, ?_, ?_⟩ h5
        · rw [e6]; simp
        · rw [List.map_append, hd]; rfl
        · intro z hz
          rcases List.mem_append.mp hz with hz | hz
          · exact nj z hz
          · simp at hz; exact hz ▸ jy
      · have : ds.length ≤ lim := by rw [← hd, List.length_map] at hl; exact hl
        simpa using lim_of this
end
end N226
end
noncomputable section
open PySem PySem.W PySem.Calls PyProof.Rows
set_option maxRecDepth 10000
namespace N226
noncomputable def compOK (S : St) (sc : Scope) (x : Str) : Bool :=
  (sc.kind == .function) && sc.names.all (fun p => p.2 != .cell) && sc.names.all (fun p => p.2 != .free || (S.sc.names.lookup p.1 == some .cell && sc.names.lookup p.1 == some .free)) &&
  sc.names.all (fun p => p.2 != .local || ((p.1 == x || (idx S.ns p.1).isNone) && sc.names.lookup p.1 == some .local)) && sc.names.lookup x == some .local
structure CompOK (S : St) (sc : Scope) (x : Str) : Prop where
  kind : sc.kind = .function
  cell : ∀ p ∈ sc.names, p.2 ≠ .cell
  free : ∀ p ∈ sc.names, p.2 = .free → S.sc.names.lookup p.1 = some .cell ∧ sc.names.lookup p.1 = some .free
  loc : ∀ p ∈ sc.names, p.2 = .local → (p.1 = x ∨ idx S.ns p.1 = none) ∧ sc.names.lookup p.1 = some .local
  tgt : sc.names.lookup x = some .local
theorem CompOK.of {S : St} {sc : Scope} {x : Str} (h : compOK S sc x = true) : CompOK S sc x := by
  unfold compOK at h
  simp only [Bool.and_eq_true] at h
  obtain ⟨⟨⟨⟨h1, h2⟩, h3⟩, h4⟩, h5⟩ := h
  refine ⟨eq_of_beq h1, fun p hp => ?_, fun p hp e => ?_, fun p hp e => ?_, eq_of_beq h5⟩
  · simpa using List.all_eq_true.mp h2 p hp
  · have := List.all_eq_true.mp h3 p hp
    rw [e] at this
    simpa using this
  · have := List.all_eq_true.mp h4 p hp
    rw [e] at this
    simpa using this
noncomputable def clOf (cells : List (Str × Addr)) : List (Str × NameKind) → List (Str × Addr) → List (Str × Addr)
  | [], acc => acc
  | (y, k) :: r, acc => match k, cells.lookup y with
    | .free, some c => clOf cells r ((y, c) :: acc)
    | _, _ => clOf cells r acc
theorem closureFor_of {sc : Scope} {env : Env} (h : ∀ p ∈ sc.names, p.2 = .free → (env.cells.lookup p.1).isSome = true) : closureFor sc env = pure (clOf env.cells sc.names []) := by
  have key : ∀ (l : List (Str × NameKind)) (acc : List (Str × Addr)), (∀ p ∈ l, p.2 = .free → (env.cells.lookup p.1).isSome = true) →
      (forIn l acc (fun (x : Str × NameKind) (r : List (Str × Addr)) => if (x.2 == NameKind.free) = true then (do let a ← cellOf env x.1; pure (ForInStep.yield ((x.1, a) :: r))) else (pure (ForInStep.yield r) : Sem _))) = (pure (clOf env.cells l acc) : Sem _) := by
    intro l
    induction l with
    | nil => intro acc _; rfl
    | cons p r ih =>
      intro acc hp
      obtain ⟨y, k⟩ := p
      rw [List.forIn_cons]
      by_cases hk : k = .free
      · subst hk
        obtain ⟨c, hc⟩ := Option.isSome_iff_exists.mp (hp _ List.mem_cons_self rfl)
        have e : cellOf env y = pure c := by unfold cellOf; rw [hc]
        simp only [e, pure_bind, beq_self_eq_true, if_true]
        have e2 : clOf env.cells ((y, .free) :: r) acc = clOf env.cells r ((y, c) :: acc) := by
          show (match NameKind.free, env.cells.lookup y with | .free, some c => clOf env.cells r ((y, c) :: acc) | _, _ => clOf env.cells r acc) = _
          rw [hc]
        rw [e2]
        exact ih _ fun q hq => hp q (List.mem_cons_of_mem _ hq)
      · have e1 : (k == NameKind.free) = false := by simpa using hk
        simp only [e1, Bool.false_eq_true, if_false, pure_bind]
        have e2 : clOf env.cells ((y, k) :: r) acc = clOf env.cells r acc := by
          cases k <;> first | rfl | exact absurd rfl hk
        rw [e2]
        exact ih _ fun q hq => hp q (List.mem_cons_of_mem _ hq)
  unfold closureFor
  have := key sc.names [] h
  simp only [bind_pure_comp, map_pure] at this ⊢
  first
    | exact (congrArg (fun t => t >>= pure) this).trans (by simp)
    | (rw [show (forIn sc.names ([] : List (Str × Addr)) fun x r => _) = _ from this]; rfl)
    | simpa using this
set_option tactic.hygienic true in
theorem clOf_mem {cells : List (Str × Addr)} : ∀ {l : List (Str × NameKind)} {acc : List (Str × Addr)} {y : Str} {c : Addr}, (clOf cells l acc).lookup y = some c → ((y, .free) ∈ l ∧ cells.lookup y = some c) ∨ acc.lookup y = some c
  | [], acc, y, c, h => .inr h
  | (z, k) :: r, acc, y, c, h => by
    unfold clOf at h
    split at h
    · rename_i c' hk hz
      rcases clOf_mem h with ⟨a, b⟩ | h
      · exact .inl ⟨List.mem_cons_of_mem _ a, b⟩
      · rw [List.lookup_cons] at h
        by_cases e : y = z
        · subst e
          simp at h
          exact .inl ⟨List.mem_cons_self, h ▸ hz⟩
        · have : (y == z) = false := by simpa using e
          rw [this] at h
          exact .inr h
    · rcases clOf_mem h with ⟨a, b⟩ | h
      · exact .inl ⟨List.mem_cons_of_mem _ a, b⟩
      · exact .inr h
set_option tactic.hygienic true in
theorem clOf_has {cells : List (Str × Addr)} : ∀ {l : List (Str × NameKind)} {acc : List (Str × Addr)} {y : Str}, ((y, .free) ∈ l ∧ (cells.lookup y).isSome = true) ∨ (acc.lookup y).isSome = true → ((clOf cells l acc).lookup y).isSome = true
  | [], acc, y, h => h.elim (fun h => nomatch h.1) id
  | (z, k) :: r, acc, y, h => by
    unfold clOf
    split
    · rename_i c' hz
      refine clOf_has ?_
      by_cases e : y = z
      · subst e; right; simp
      · have e1 : (y == z) = false := by simpa using e
        rcases h with ⟨a, b⟩ | h
        · rcases List.mem_cons.mp a with a | a
          · cases a; exact absurd rfl e
          · exact .inl ⟨a, b⟩
        · right; rw [List.lookup_cons, e1]; exact h
    · rename_i hne
      refine clOf_has ?_
      rcases h with ⟨a, b⟩ | h
      · rcases List.mem_cons.mp a with a | a
        · cases a
          obtain ⟨c, hc⟩ := Option.isSome_iff_exists.mp b
          exact absurd hc (hne c rfl)
        · exact .inl ⟨a, b⟩
      · exact .inr h
theorem inner_lookup {S : St} {sc : Scope} {x y : Str} {k : NameKind} (h : (S.inner sc x).sc.names.lookup y = some k) : ∃ k', (y, k') ∈ sc.names ∧ sc.names.lookup y = some k' ∧ k = (if (k' == .free && S.sc.names.lookup y == some .cell) then .cell else k') := by
  have key : ∀ l : List (Str × NameKind), (l.map fun (n, k) => if (k == NameKind.free && S.sc.names.lookup n == some .cell) then (n, NameKind.cell) else (n, k)).lookup y = some k → ∃ k', (y, k') ∈ l ∧ l.lookup y = some k' ∧ k = (if (k' == .free && S.sc.names.lookup y == some .cell) then .cell else k') := by
    intro l
    induction l with
    | nil => intro h; cases h
    | cons p r ih =>
      obtain ⟨z, kz⟩ := p
      intro h
      rw [List.map_cons, List.lookup_cons] at h
      by_cases e : y = z
      · subst e
        refine ⟨kz, List.mem_cons_self, by simp, ?_⟩
        by_cases c : (kz == .free && S.sc.names.lookup y == some .cell) = true
        · simp only [c, if_true] at h ⊢
          simpa using h.symm
        · simp only [c, if_false] at h ⊢
          simpa using h.symm
      · have e1 : ∀ kk : NameKind, (y == (if (kz == NameKind.free && S.sc.names.lookup z == some .cell) then (z, NameKind.cell) else (z, kz)).1) = false := fun _ => by split <;> simpa using e
        rw [e1 kz] at h
        obtain ⟨k', a, b, c⟩ := ih h
        refine ⟨k', List.mem_cons_of_mem _ a, ?_, c⟩
        rw [List.lookup_cons, show (y == z) = false by simpa using e]
        exact b
  exact key _ h
theorem idx_cons {x y : Str} {ns : List Str} {i : Nat} (h : idx (x :: ns) y = some i) : (y = x ∧ i = 0) ∨ (y ≠ x ∧ ∃ j, idx ns y = some j ∧ i = j + 1) := by
  unfold idx at h
  rw [List.findIdx?_cons] at h
  by_cases e : x = y
  · subst e; simp at h; exact .inl ⟨rfl, h.symm⟩
  · have : (x == y) = false := by simpa using e
    rw [this] at h
    simp only [Bool.false_eq_true, if_false] at h
    obtain ⟨j, hj, rfl⟩ := Option.map_eq_some_iff.mp h
    exact .inr ⟨fun q => e q.symm, j, hj, rfl⟩
section
variable {C : Cx} {S : St} {n : Nat} {ρ : Loc} {H : MH}
theorem inner_frame {env cenv : Env} {s : Shared} {h' : Heap} {δ : Addr → Addr} {sc : Scope} {x : Str} (ok : CompOK S sc x) (eo : EnvOK S env) (F : FrOK C S env s.heap ρ δ H) (L : Lay C s.heap δ H)
    (hsc : cenv.scope = (S.inner sc x).sc) (hloc : s.heap.get? cenv.locals = none) (hcl : cenv.cells = clOf env.cells sc.names []) (hn : h'.Ns cenv.locals fun _ => none) (k : ∀ b o, s.heap.get? b = some o → h'.get? b = some o) :
    FrOK C (S.inner sc x) cenv h' (inLoc none ρ) δ H := by
  have kind : ∀ y, cenv.kindOf y = (S.inner sc x).sc.names.lookup y := fun y => by unfold Env.kindOf; rw [hsc]
  have cl : ∀ y c, cenv.cells.lookup y = some c → (y, .free) ∈ sc.names ∧ env.cells.lookup y = some c := fun y c e => by
    rw [hcl] at e
    rcases clOf_mem e with h | h
    · exact h
    · cases h
  refine ⟨⟨_, hn, fun y i hy hl => ?_⟩, L.noB hloc, (fun q => by obtain ⟨o, e⟩ := L.aliveOwned q; rw [hloc] at e; cases e), fun y c e => ?_, fun y hy => ?_, fun y hy => ?_, fun y z c e1 e2 => ?_⟩
  · rw [kind] at hl
    obtain ⟨k', a, b, c⟩ := inner_lookup hl
    have hk : k' = .local := by
      split at c
      · cases c
      · exact c.symm
    subst hk
    rcases idx_cons hy with ⟨rfl, rfl⟩ | ⟨hne, j, hj, rfl⟩
    · exact ⟨rfl, fun q => nomatch q⟩
    · rcases (ok.loc _ a rfl).1 with q | q
      · exact absurd q hne
      · simp only [hj] at q; cases q
  · obtain ⟨m1, e1⟩ := cl y c e
    obtain ⟨a, b, ne, o, vo, ho, hd, hv⟩ := F.cell y c e1
    refine ⟨a, b, fun z => ?_, o, vo, k _ _ ho, hd, fun i hi => ?_⟩
    · rw [z, hloc] at ho; cases ho
    · rcases idx_cons hi with ⟨rfl, rfl⟩ | ⟨hne, j, hj, rfl⟩
      · have := (ok.free _ m1 rfl).2
        rw [ok.tgt] at this; cases this
      · exact hv j hj
  · rw [kind] at hy
    have : ∃ k', (y, k') ∈ sc.names ∧ (k' = .free ∨ k' = .cell) := by
      rcases hy with hy | hy
      · obtain ⟨k', a, b, c⟩ := inner_lookup hy
        refine ⟨k', a, ?_⟩
        split at c
        · rename_i q
          exact .inl (eq_of_beq (Bool.and_eq_true_iff.mp q).1)
        · exact .inr c.symm
      · obtain ⟨k', a, b, c⟩ := inner_lookup hy
        refine ⟨k', a, ?_⟩
        split at c
        · cases c
        · exact .inl c.symm
    obtain ⟨k', a, q⟩ := this
    rcases q with rfl | rfl
    · have h1 := (ok.free _ a rfl).1
      rw [hcl]
      exact clOf_has (.inl ⟨a, F.has y (.inl ((eo.kindOf y).trans h1))⟩)
    · exact absurd rfl (ok.cell _ a)
  · rw [kind] at hy
    obtain ⟨k', a, b, c⟩ := inner_lookup hy
    have hk : k' = .local := by
      split at c
      · cases c
      · exact c.symm
    subst hk
    cases e : cenv.cells.lookup y with
    | none => rfl
    | some c =>
      have h1 := (ok.free _ (cl y c e).1 rfl).2
      simp only [b] at h1; cases h1
  · exact F.apart y z c (cl y c e1).2 (cl z c e2).2
theorem iter_self {A : Around} {s : Shared} {it : Addr} {src : Src} {R : Value → Shared → Prop} {E : Value → Shared → Prop} (h : src.at s.heap it) (q : R (.ref it) s) : wpAny C.M A (pyIter (.ref it)) R E s := by
  cases src with
  | lst a i => exact wpAny_pyIter_listiter h q
  | tup a i => exact wpAny_pyIter_tupleiter h q
  | rng x k st => exact wpAny_pyIter_rangeiter h q
  | keys d i m ep => exact wpAny_pyIter_keyiter h q
theorem comp_block {A : Around} {env : Env} {s : Shared} {δ : Addr → Addr} {elt iter : Expr} {x : Str} {px : Pos} {ifs : List Expr} {sc : Scope} {pos : Pos} {it : Addr} {src : Src} {Q : List V → MH → Prop} {E : Value → Shared → Prop} {RR : Value → Addr → Result → Shared → Prop}
    (ok : CompOK S sc x) (rm : Room A n) (eo : EnvOK S env) (F : FrOK C S env s.heap ρ δ H) (L : Lay C s.heap δ H) (hs : src.at s.heap it) (nB : C.hB.get? it = none) (no : ¬ Owned δ H it) (np : ¬ ownπ env it)
    (h : WCmp C (S.inner sc x) n elt iter ifs x src [] ρ H Q)
    (q : ∀ D acc f s' δ' H' done, s.heap.get? D = none → s.heap.get? acc = none → acc ≠ D → C.hB.get? D = none → C.hB.get? acc = none → Lay C s'.heap δ' H' → (∃ m, s'.heap.Ns D m) → KeepsX (fun b => b = it ∨ b = acc ∨ b = D) noπ δ H s δ' H' s' → AccAt s'.heap acc done → Q done H' → RR (.ref acc) D (.ok f) s') :
    wpAny C.M A (newList []) (fun acc s₃ => wpAny C.M A (newFunctionEnv sc env.globals (clOf env.cells sc.names []) [] env.qual none .none (some env)) (fun cenv s₄ =>
      codeAny C.M A (.compStart (.ListComp elt [⟨.Name x px, iter, ifs, 0⟩] sc pos) 0 (.ref it) acc { cenv with scope := relabel sc env }) (RR acc cenv.locals) s₄) E s₃) E s := by
  refine wpAny_newObj_type (wpAny_newFunctionEnv ok.cell (by intro y hy; simp at hy) (fun h₁ hns₁ hsb₁ => ?_) ok.kind)
  dsimp only at hns₁ hsb₁ ⊢
  generalize hH2 : s.heap.push { cls := .type "list", dict := none, data := .seq ([] : List Value).toArray } = H2 at hns₁ hsb₁ ⊢
  have hC : H2.objs.size = s.heap.objs.size + 1 := by rw [← hH2, Heap.size_push]
  have hacc : s.heap.get? s.heap.objs.size = none := size_none _
  have hD : s.heap.get? H2.objs.size = none := Heap.get?_none_of_le (by rw [hC]; exact Nat.le_succ _)
  have hne : s.heap.objs.size ≠ H2.objs.size := by rw [hC]; exact Nat.ne_of_lt (Nat.lt_succ_self _)
  have old2 : ∀ b o, H2.get? b = some o → h₁.get? b = some o := fun b o e => hsb₁.extBut b o (Nat.ne_of_lt (Heap.lt_size e)) (Heap.get?_push_of_some _ e)
  have old : ∀ b o, s.heap.get? b = some o → h₁.get? b = some o := fun b o e => old2 b o (hH2 ▸ Heap.get?_push_of_some _ e)
  have ea : h₁.get? s.heap.objs.size = some { cls := .type "list", data := .seq ([] : List Value).toArray } := old2 _ _ (hH2 ▸ Heap.get?_push_size _ rfl)
  have own : ∀ b, s.heap.get? b = none → ¬ Owned δ H b := fun b e z => by obtain ⟨o, e'⟩ := L.aliveOwned z; rw [e] at e'; cases e'
  have L1 : Lay C h₁ δ H := L.mono old
  have hn1 : h₁.Ns H2.objs.size fun _ => none := hns₁
  obtain ⟨oi, ei, _⟩ := hs.obj
  have itD : it ≠ H2.objs.size := fun z => by rw [z, hD] at ei; cases ei
  have itA : s.heap.objs.size ≠ it := fun z => by rw [← z, hacc] at ei; cases ei
  have hs1 : src.at h₁ it := hs.congr fun o e => old it o e
  have key : ∀ cenv : Env, cenv.scope = relabel sc env → cenv.locals = H2.objs.size → cenv.cells = clOf env.cells sc.names [] → cenv.globals = env.globals → cenv.builtins = env.builtins → ∀ s₃ : Shared, s₃ = { s with heap := h₁, toks := s.toks + ([] : List (Str × Value)).length } →
      codeAny C.M A (.compLoop (.ListComp elt [⟨.Name x px, iter, ifs, 0⟩] sc pos) 0 (.ref it) (.ref s.heap.objs.size) cenv) (RR (.ref s.heap.objs.size) H2.objs.size) s₃ := by
    rintro cenv e1 e2 e3 e4 e5 s₃ rfl
    have e1' : cenv.scope = (S.inner sc x).sc := e1.trans (relabel_of eo)
    have eo' : EnvOK (S.inner sc x) cenv := ⟨e1', e4.trans eo.glob, e5.trans eo.blt, ok.kind⟩
    have F1 : FrOK C (S.inner sc x) cenv h₁ (inLoc none ρ) δ H := inner_frame ok eo F L e1' (by rw [e2]; exact hD) e3 (by rw [e2]; exact hn1) old
    have nc : ∀ b, ¬ ownπ env b → b ≠ H2.objs.size → ¬ ownπ cenv b := fun b nb nD => by
      rintro (z | ⟨y, z⟩)
      · exact nD (z.trans e2)
      · rw [e3] at z
        rcases clOf_mem z with ⟨_, z⟩ | z
        · exact nb (.inr ⟨y, z⟩)
        · cases z
    refine codeAny_mono (h.run A cenv { s with heap := h₁, toks := s.toks + ([] : List (Str × Value)).length } δ it s.heap.objs.size px pos sc none rm eo' F1 L1 hs1 nB no (nc it np itD) ⟨[], 0, ea, rfl, fun _ h => nomatch h⟩ (L.noB hacc) (own _ hacc) (nc _ (frame_free F) hne) itA) fun r s' p => ?_
    cases r with
    | error e => exact p.elim
    | ok f =>
      obtain ⟨δ', H', u', done', L', F', X', a', q'⟩ := p
      obtain ⟨m', hm', _⟩ := F'.loc
      rw [e2] at hm'
      refine q _ _ f s' δ' H' done' hD hacc hne (L.noB hD) (L.noB hacc) L' ⟨m', hm'⟩ ?_ a' q'
      have X0 : KeepsX (fun b => b = it ∨ b = s.heap.objs.size ∨ b = H2.objs.size) noπ δ H s δ H { s with heap := h₁, toks := s.toks + ([] : List (Str × Value)).length } :=
        ⟨fun b o _ e _ _ => old b o e, fun b _ z => .inl z, fun b o _ e => ⟨o, old b o e⟩, ⟨rfl, rfl, rfl⟩, fun b hb => by rcases hb with rfl | rfl | rfl; exact no; exact own _ hacc; exact own _ hD⟩
      have X1 : KeepsX (fun b => b = it ∨ b = s.heap.objs.size ∨ b = H2.objs.size) noπ δ H { s with heap := h₁, toks := s.toks + ([] : List (Str × Value)).length } δ' H' s' := by
        have : bad3 it s.heap.objs.size cenv = (fun b => b = it ∨ b = s.heap.objs.size ∨ b = H2.objs.size) := by unfold bad3; rw [e2]
        rw [← this]; exact X'
      exact X0.trans X1
  exact codeAny_compStart_list (key (compEnvC sc (clOf env.cells sc.names []) H2.objs.size env) rfl rfl rfl rfl rfl _ rfl) (iter_self hs1 (key (compEnvC sc (clOf env.cells sc.names []) H2.objs.size env) rfl rfl rfl rfl rfl _ rfl))
theorem acc_in {s : Shared} {δ δ' : Addr → Addr} {H' : MH} {h' : Heap} {acc D it : Addr} {s' : Shared} {done : List V} (L' : Lay C s'.heap δ' H') (hD : ∃ m, s'.heap.Ns D m) (bD : C.hB.get? D = none) (bA : C.hB.get? acc = none) (hne : acc ≠ D) (X : KeepsX (fun b => b = it ∨ b = acc ∨ b = D) noπ δ H s δ' H' s') (a : AccAt s'.heap acc done) (sb : Heap.SameBut D s'.heap h') :
    H' acc = none ∧ Lay C h' δ' H' ∧ Lay C h' δ' (H'.set acc (.list done)) := by
  obtain ⟨ds, m, ea, rfl, nj⟩ := a
  obtain ⟨mD, oD, es, ep, hL, hLd, _⟩ := hD
  have nA : ¬ Owned δ' H' acc := X.free _ (.inr (.inl rfl))
  have nD : ¬ Owned δ' H' D := X.free _ (.inr (.inr rfl))
  have e0 := L'.notAt ea (Odd.cls rfl (by decide) (by decide) (by decide)) bA nA
  have L1 := L'.but hL (Odd.dict hLd) bD nD (butOf sb)
  refine ⟨e0, L1, L1.add (mo := .list (ds.map er)) ⟨bA, ds, m, butOf sb _ _ hne ea, rfl, nj⟩ (fun _ _ z => by cases z) fun y hy z => nA (.inr ⟨y, hy, z.symm⟩)⟩
theorem Keeps.out {π : Addr → Prop} {δ δ' : Addr → Addr} {H' : MH} {s s' : Shared} {h' : Heap} {D acc : Addr} {done : List V} (K : Keeps π δ H s δ' H' s') (hD : s.heap.get? D = none) (hA : s.heap.get? acc = none) (sb : Heap.SameBut D s'.heap h') : Keeps π δ H s δ' (H'.set acc (.list done)) { s' with heap := h' } := by
  have nD : ∀ b o, s.heap.get? b = some o → b ≠ D := fun b o e z => by rw [z, hD] at e; cases e
  refine ⟨fun b o e no np => butOf sb _ _ (nD b o e) (K.old b o e no np), fun b z => ?_, fun b o e => ?_, K.rest⟩
  · rcases owned_set (fun _ _ e => by cases e) z with z | z
    · exact K.sub b z
    · exact .inr (z ▸ hA)
  · obtain ⟨o', e'⟩ := K.alive b o e
    exact ⟨o', butOf sb _ _ (nD b o e) e'⟩
theorem Keeps.last {π : Addr → Prop} {δ δ' : Addr → Addr} {H' : MH} {s s' : Shared} {h4 h' : Heap} {t : Nat} {L D : Addr} (K : Keeps π δ H s δ' H' s') (k4 : ∀ b o, ¬ π b → s'.heap.get? b = some o → h4.get? b = some o) (pL : π L) (aL : ∃ o, h4.get? L = some o) (sb : Heap.SameBut D h4 h') (hD : s.heap.get? D = none) (al : ∀ b o, b ≠ L → s'.heap.get? b = some o → h4.get? b = some o) : Keeps π δ H s δ' H' { s' with heap := h', toks := t } := by
  have nD : ∀ b o, s.heap.get? b = some o → b ≠ D := fun b o e z => by rw [z, hD] at e; cases e
  refine ⟨fun b o e no np => butOf sb _ _ (nD b o e) (k4 b o np (K.old b o e no np)), K.sub, fun b o e => ?_, K.rest⟩
  obtain ⟨o', e'⟩ := K.alive b o e
  by_cases z : b = L
  · obtain ⟨oL, eL⟩ := aL
    exact ⟨oL, butOf sb _ _ (nD b o e) (z ▸ eL)⟩
  · exact ⟨o', butOf sb _ _ (nD b o e) (al b o' z e')⟩
theorem WE_comp {elt iter : Expr} {x : Str} {px : Pos} {ifs : List Expr} {sc : Scope} {pos : Pos} {Q : V → MH → Prop} (hok : compOK S sc x = true) (hns : notSet iter = true)
    (h : WE C S n iter ρ H fun xv H1 => ∃ src, iterOf H1 xv = some src ∧ WCmp C (S.inner sc x) n elt iter ifs x src [] ρ H1 fun done H2 => ∀ c, H2 c = none → Q (.ref c) (H2.set c (.list done))) :
    WE C S n (.ListComp elt [⟨.Name x px, iter, ifs, 0⟩] sc pos) ρ H Q := by
  have ok := CompOK.of hok
  refine ⟨fun A env s δ rm eo F L => ?_⟩
  rw [eval_ListComp]
  refine wpAny_comprehension_free (use := none) rfl (fun x => folded_no hns) (closureFor_of fun p hp e => F.has p.1 (.inl ((eo.kindOf _).trans (ok.free p hp e).1))) ok.kind (fun p hp e => (ok.loc p hp e).2)
    (h.bind rm eo F L fun xv s1 δ1 H1 L1 K1 F1 ja ⟨src, hi, h1⟩ => iter_ok L1 rfl hi fun o ho => ?_)
  have k0 : ∀ b ob, s1.heap.get? b = some ob → (s1.heap.push o).get? b = some ob := fun b ob e => Heap.get?_push_of_some _ e
  have hn := size_none s1.heap
  have no : ¬ Owned δ1 H1 s1.heap.objs.size := fun q => by obtain ⟨ob, e⟩ := L1.aliveOwned q; rw [hn] at e; cases e
  have F2 : FrOK C S env (s1.heap.push o) ρ δ1 H1 := F1.keeps (s' := { s1 with heap := s1.heap.push o }) (Keeps.grow (π := noπ) (t := s1.toks) k0)
  refine comp_block (s := { s1 with heap := s1.heap.push o }) (RR := fun acc C' => compPost C.M A noE none (Post C noπ δ H s Q) acc C') ok rm eo F2 (L1.mono k0) ho (L1.noB hn) no (frame_free F1) h1 fun D acc f s' δ' H' done hD hA hne bD bA L' hDn X a q => ?_
  obtain ⟨m, hm⟩ := hDn
  refine ⟨m, hm, fun h' sb => ?_⟩
  obtain ⟨e0, L2, L3⟩ := acc_in L' ⟨m, hm⟩ bD bA hne X a sb
  have nw : ∀ b, (b = s1.heap.objs.size ∨ b = acc ∨ b = D) → s1.heap.get? b = none := by
    have gone : ∀ b, (s1.heap.push o).get? b = none → s1.heap.get? b = none := fun b e => by
      cases z : s1.heap.get? b with
      | none => rfl
      | some ob => rw [k0 b ob z] at e; cases e
    rintro b (rfl | rfl | rfl)
    · exact hn
    · exact gone _ hA
    · exact gone _ hD
  have K2 : Keeps noπ δ1 H1 s1 δ' H' s' := X.new (s := s1) k0 ⟨rfl, rfl, rfl⟩ nw
  exact ⟨δ', _, L3, K1.trans (K2.out (nw _ (.inr (.inr rfl))) (nw _ (.inr (.inl rfl))) sb), njk rfl, q _ e0⟩
noncomputable def swapTo (S : St) (sc : Scope) (t : Str) (tp vp : Pos) (line : Nat) : Bool := S.sc.names.lookup t == some .local && tp.line == vp.line && !(sc.names.any fun (n, k) => n == t && (k == .local || k == .cell))
theorem swaps_yes {env : Env} {elt : Expr} {gens : List Comprehension} {sc : Scope} {t : Str} {tp vp : Pos} {line : Nat} (eo : EnvOK S env) (h : swapTo S sc t tp vp line = true) : swapsWith (.ListComp elt gens sc vp) (some (.Name t tp)) line env = pure true := by
  have hb : env.blockKind = .function := by unfold Env.blockKind; rw [eo.sc, eo.kind]; rfl
  unfold swapTo at h
  have e1 : (ScopeKind.function == ScopeKind.function) = true := rfl
  unfold swapsWith
  dsimp only
  simp only [hb, eo.kindOf, e1, Bool.true_and]
  exact congrArg pure h
theorem WS_comp {t : Str} {i : Nat} {tp : Pos} {elt iter : Expr} {x : Str} {px : Pos} {ifs : List Expr} {sc : Scope} {pos spos : Pos} {Q : Fl → Loc → MH → Prop} (hok : compOK S sc x = true) (hns : notSet iter = true) (ht : idx S.ns t = some i) (hsw : swapTo S sc t tp pos spos.line = true)
    (h : WE C S n iter ρ H fun xv H1 => ∃ src, iterOf H1 xv = some src ∧ WCmp C (S.inner sc x) n elt iter ifs x src [] ρ H1 fun done H2 => ∀ c, H2 c = none → Q .next (ρ.set i (.ref c)) (H2.set c (.list done))) :
    WS C S n (.Assign [.Name t tp] (.ListComp elt [⟨.Name x px, iter, ifs, 0⟩] sc pos) spos) ρ H Q := by
  have ok := CompOK.of hok
  refine ⟨fun A env s δ rm eo F L => ?_⟩
  rw [exec_Assign_Name_used _ _ _ _ (swaps_yes eo hsw)]
  refine wpAny_bind (wpAny_standAt (wpAny_bind ?_))
  show wpAny _ A (do let _ ← comprehension (.ListComp elt [⟨.Name x px, iter, ifs, 0⟩] sc pos) sc env _ (newList []) false (eval iter env) (some (assign (.Name t tp) env))) _ _ s
  refine wpAny_bind (wpAny_mono (wpAny_comprehension_free (use := some (assign (.Name t tp) env)) (Q := fun _ s' => PostS C S env δ H s Q .next s') (E := noE) rfl (fun x => folded_no hns) (closureFor_of fun p hp e => F.has p.1 (.inl ((eo.kindOf _).trans (ok.free p hp e).1))) ok.kind (fun p hp e => (ok.loc p hp e).2)
    (h.bind rm eo F L fun xv s1 δ1 H1 L1 K1 F1 ja ⟨src, hi, h1⟩ => iter_ok L1 rfl hi fun o ho => ?_)) (fun _ s' hq => wpAny_pure (wpAny_pure hq)) fun _ _ e => e)
  have k0 : ∀ b ob, s1.heap.get? b = some ob → (s1.heap.push o).get? b = some ob := fun b ob e => Heap.get?_push_of_some _ e
  have hn := size_none s1.heap
  have no : ¬ Owned δ1 H1 s1.heap.objs.size := fun q => by obtain ⟨ob, e⟩ := L1.aliveOwned q; rw [hn] at e; cases e
  have F2 : FrOK C S env (s1.heap.push o) ρ δ1 H1 := F1.keeps (s' := { s1 with heap := s1.heap.push o }) (Keeps.grow (π := noπ) (t := s1.toks) k0)
  refine comp_block (s := { s1 with heap := s1.heap.push o }) (RR := fun acc C' => compPost C.M A noE (some (assign (.Name t tp) env)) (fun _ s' => PostS C S env δ H s Q .next s') acc C') ok rm eo F2 (L1.mono k0) ho (L1.noB hn) no (frame_free F1) h1 fun D acc f s' δ' H' done hD hA hne bD bA L' hDn X a q => ?_
  obtain ⟨m, hm⟩ := hDn
  have nw : ∀ b, (b = s1.heap.objs.size ∨ b = acc ∨ b = D) → s1.heap.get? b = none := by
    have gone : ∀ b, (s1.heap.push o).get? b = none → s1.heap.get? b = none := fun b e => by
      cases z : s1.heap.get? b with
      | none => rfl
      | some ob => rw [k0 b ob z] at e; cases e
    rintro b (rfl | rfl | rfl)
    · exact hn
    · exact gone _ hA
    · exact gone _ hD
  have K2 : Keeps noπ δ1 H1 s1 δ' H' s' := X.new (s := s1) k0 ⟨rfl, rfl, rfl⟩ nw
  obtain ⟨e0, _, L3⟩ := acc_in L' ⟨m, hm⟩ bD bA hne X a (Heap.SameBut.refl D s'.heap)
  have K3 := K2.out (done := done) (nw _ (.inr (.inr rfl))) (nw _ (.inr (.inl rfl))) (Heap.SameBut.refl D s'.heap)
  have F3 := F1.keeps K3
  have hk : S.sc.names.lookup t = some .local := by
    unfold swapTo at hsw
    simp only [Bool.and_eq_true] at hsw
    exact eq_of_beq hsw.1.1
  have DL : D ≠ env.locals := fun z => by
    obtain ⟨m, ⟨oL, es, ep, hL, _⟩, _⟩ := F1.loc
    rw [← z, nw D (.inr (.inr rfl))] at hL; cases hL
  have Dc : ∀ y c, env.cells.lookup y = some c → c ≠ D := fun y c e z => by
    obtain ⟨_, _, _, ob, vo, ho, _⟩ := F1.cell y c e
    rw [z, nw D (.inr (.inr rfl))] at ho; cases ho
  show wpAny _ A (assign (.Name t tp) env (.ref acc)) _ _ s'
  refine assign_Name (store_loc (s := s') eo F3 L3 ht hk (njk rfl) fun h4 t4 L4 F4 k4 => ?_)
  obtain ⟨oD, es, ep, hDo, hDd, r⟩ := hm
  refine ⟨m, ⟨oD, es, ep, k4 _ _ DL hDo, hDd, r⟩, fun h5 sb5 => ?_⟩
  have dB : ¬ Owned δ' (H'.set acc (.list done)) D := fun z => by
    rcases owned_set (fun _ _ e => by cases e) z with z | z
    · exact X.free _ (.inr (.inr rfl)) z
    · exact hne z.symm
  have L5 := L4.but (k4 _ _ DL hDo) (Odd.dict hDd) bD dB (butOf sb5)
  have nDp : ¬ ownπ env D := by
    rintro (z | ⟨y, z⟩)
    · exact DL z
    · exact Dc y D z rfl
  have F5 := F4.but nDp (butOf sb5)
  obtain ⟨m4, ⟨oL, esL, epL, hL, _⟩, _⟩ := F4.loc
  have K4 : Keeps (ownπ env) δ1 H1 s1 δ' (H'.set acc (.list done)) { s' with heap := h5, toks := t4 } := Keeps.last (s' := s') (L := env.locals) K3.weak (fun b o hb e => k4 b o (fun z => hb (.inl z)) e) (.inl rfl) ⟨oL, hL⟩ sb5 (nw D (.inr (.inr rfl))) fun b o hb e => k4 b o hb e
  exact ⟨δ', _, _, L5, F5, K1.weak.trans K4, trivial, q _ e0⟩
end
end N226
end
noncomputable section
open PySem PySem.W PySem.Calls PyProof.Rows
set_option maxRecDepth 10000
namespace N226
section
variable {C : Cx} {S : St} {n : Nat} {ρ : Loc} {H : MH}
theorem map_one {vs : List Value} {v : V} (h : vs.map er = [v]) : ∃ a, vs = [a] ∧ er a = v :=
  let ⟨a, _, e, ha, hl⟩ := List.map_eq_cons_iff.mp h
  ⟨a, by rw [e, List.map_eq_nil_iff.mp hl], ha⟩
theorem map_two {vs : List Value} {v u : V} (h : vs.map er = [v, u]) : ∃ a b, vs = [a, b] ∧ er a = v ∧ er b = u :=
  let ⟨a, _, e, ha, hl⟩ := List.map_eq_cons_iff.mp h
  let ⟨b, e', hb⟩ := map_one hl
  ⟨a, b, by rw [e, e'], ha, hb⟩
theorem map_three {vs : List Value} {v u w : V} (h : vs.map er = [v, u, w]) : ∃ a b c, vs = [a, b, c] ∧ er a = v ∧ er b = u ∧ er c = w :=
  let ⟨a, _, e, ha, hl⟩ := List.map_eq_cons_iff.mp h
  let ⟨b, c, e', hb, hc⟩ := map_two hl
  ⟨a, b, c, by rw [e, e'], ha, hb, hc⟩
theorem fits63 {k : Nat} (h : k ≤ lim) : (k : Int) < 2 ^ 63 := by
  have : (k : Int) ≤ 1000000 := Int.ofNat_le.mpr h
  exact Int.lt_of_le_of_lt this (by decide)
theorem WC_len_list {a : Addr} {vs : List V} {Q : V → MH → Prop} (h : H a = some (.list vs)) (hl : vs.length ≤ lim) (q : Q (.int vs.length) H) : WC C n (.bi "len") [.ref a] H Q := by
  refine ⟨fun A s δ f' args' rm L hf ha hj => ?_⟩
  obtain rfl := er_bi hf
  obtain ⟨x, rfl, hx⟩ := map_one ha
  obtain rfl := er_ref hx
  obtain ⟨_, vs', m, ex, rfl, nj⟩ := L.obj _ _ h
  rw [List.length_map] at hl q
  exact call_len_list (items := vs'.toArray) ⟨_, ex, rfl, m, rfl⟩ (by rw [List.size_toArray]; exact fits63 hl) (by rw [List.size_toArray]; exact Post.here L (njk rfl) q)
theorem WC_len_tuple {a : Addr} {vs : List V} {Q : V → MH → Prop} (h : H a = some (.tuple vs)) (hl : vs.length ≤ lim) (q : Q (.int vs.length) H) : WC C n (.bi "len") [.ref a] H Q := by
  refine ⟨fun A s δ f' args' rm L hf ha hj => ?_⟩
  obtain rfl := er_bi hf
  obtain ⟨x, rfl, hx⟩ := map_one ha
  obtain rfl := er_ref hx
  obtain ⟨vs', m, ex, rfl, nj⟩ := L.obj _ _ h
  rw [List.length_map] at hl q
  exact PyProof.Rows.len_tuple (items := vs'.toArray) ⟨_, ex, rfl, m, rfl⟩ (by rw [List.size_toArray]; exact fits63 hl) (by rw [List.size_toArray]; exact Post.here L (njk rfl) q)
theorem Post.rng {s : Shared} {δ : Addr → Addr} {Q : V → MH → Prop} {a b c : Int} {t u v : Tok} {k : Nat} (L : Lay C s.heap δ H) (q : ∀ r, H r = none → Q (.ref r) (H.set r (.rng a b c))) :
    Post C noπ δ H s Q (.ref s.heap.objs.size) { s with heap := s.heap.push { cls := .type "range", data := .fields #[.int a t, .int b u, .int c v] }, toks := k } := by
  have hn := size_none s.heap
  refine ⟨δ, _, (L.push _).add (mo := .rng a b c) ⟨t, u, v, Heap.get?_push_size _ rfl⟩ (fun _ _ e => by cases e) (L.freshδ hn), ?_, njk rfl, q _ (L.fresh hn)⟩
  exact Keeps.growAdd (fun _ _ e => by cases e) hn fun b o e => Heap.get?_push_of_some _ e
theorem WC_range1 {i : Int} {Q : V → MH → Prop} (q : ∀ r, H r = none → Q (.ref r) (H.set r (.rng 0 i 1))) : WC C n (.ty "range") [.int i] H Q := by
  refine ⟨fun A s δ f' args' rm L hf ha hj => ?_⟩
  obtain rfl := er_ty hf
  obtain ⟨x, rfl, hx⟩ := map_one ha
  obtain ⟨t, rfl⟩ := er_int hx
  exact call_range_1 (Post.rng L q)
theorem WC_range3 {a b c : Int} {Q : V → MH → Prop} (hc : c ≠ 0) (hc' : c.natAbs < 1000) (q : ∀ r, H r = none → Q (.ref r) (H.set r (.rng a b c))) : WC C n (.ty "range") [.int a, .int b, .int c] H Q := by
  refine ⟨fun A s δ f' args' rm L hf ha hj => ?_⟩
  obtain rfl := er_ty hf
  obtain ⟨x, y, z, rfl, hx, hy, hz⟩ := map_three ha
  obtain ⟨t, rfl⟩ := er_int hx
  obtain ⟨u, rfl⟩ := er_int hy
  obtain ⟨v, rfl⟩ := er_int hz
  exact call_range_3 hc (Post.rng (k := s.toks) L q) (.inl (PyProof.noPylong_small (by walk_at "O")))
theorem WC_abs {i : Int} {Q : V → MH → Prop} (q : Q (.int (if i < 0 then -i else i)) H) : WC C n (.bi "abs") [.int i] H Q := by
  refine ⟨fun A s δ f' args' rm L hf ha hj => ?_⟩
  obtain rfl := er_bi hf
  obtain ⟨x, rfl, hx⟩ := map_one ha
  obtain ⟨t, rfl⟩ := er_int hx
  exact call_abs_int fun u tk => Post.here L (njk rfl) q
theorem WC_str_str {x : Str} {Q : V → MH → Prop} (q : Q (.str x) H) : WC C n (.ty "str") [.str x] H Q := by
  refine ⟨fun A s δ f' args' rm L hf ha hj => ?_⟩
  obtain rfl := er_ty hf
  obtain ⟨y, rfl, hy⟩ := map_one ha
  obtain ⟨t, rfl⟩ := er_str hy
  exact P.str_of_str (Post.here (t := s.toks) L (njk rfl) q)
theorem WC_str_int {i : Int} {Q : V → MH → Prop} (hi : i.natAbs.log2 < 1920) (q : Q (.str (Str.ofString (toString i))) H) : WC C n (.ty "str") [.int i] H Q := by
  refine ⟨fun A s δ f' args' rm L hf ha hj => ?_⟩
  obtain rfl := er_ty hf
  obtain ⟨y, rfl, hy⟩ := map_one ha
  obtain ⟨t, rfl⟩ := er_int hy
  exact P.str_of_int hi (Post.here L (njk rfl) q)
theorem WC_tuple_list {a : Addr} {vs : List V} {Q : V → MH → Prop} (h : H a = some (.list vs)) (hl : vs.length ≤ lim) (q : ∀ c, H c = none → Q (.ref c) (H.set c (.tuple vs))) : WC C n (.ty "tuple") [.ref a] H Q := by
  refine ⟨fun A s δ f' args' rm L hf ha hj => ?_⟩
  obtain rfl := er_ty hf
  obtain ⟨x, rfl, hx⟩ := map_one ha
  obtain rfl := er_ref hx
  obtain ⟨_, vs', m, ex, rfl, nj⟩ := L.obj _ _ h
  rw [List.length_map] at hl
  refine call_tuple_list (items := vs'.toArray) ⟨_, ex, rfl, m, rfl⟩ (fun h' hk => ?_) (by simpa using lim_of hl)
  have K : Keeps noπ δ H s δ H { s with heap := h' } := Keeps.grow (t := s.toks) hk
  exact Post.trans K (Post.tuple (s := { s with heap := h' }) (t := s.toks) (L.mono hk) nj q)
noncomputable def isiF (K : Frag) (D Cl : Addr) : Bool := kin_not K D Cl && plainGet K D "__class__" && hasDictIn K D && findIn K (.ref D) "__class__" == some (some (.builtin "object.__class__")) && specialIn K (.builtin "object.__class__") "__get__" == some (some (.builtin "getset_descriptor.__get__")) && takesIn K (.builtin "object.__class__") == some true && mroIn K D (.type "object") == some true
noncomputable def isiFT (K : Frag) (D : Addr) (T : String) : Bool := kin_notT K D T && plainGet K D "__class__" && hasDictIn K D && findIn K (.ref D) "__class__" == some (some (.builtin "object.__class__")) && specialIn K (.builtin "object.__class__") "__get__" == some (some (.builtin "getset_descriptor.__get__")) && takesIn K (.builtin "object.__class__") == some true && mroIn K D (.type "object") == some true
noncomputable def instOf (H : MH) (x : Addr) : Option Addr := match H x with
  | some (.inst D _) => some D
  | some (.cinst D) => some D
  | _ => none
set_option tactic.hygienic true in
theorem instOf_at {h : Heap} {δ : Addr → Addr} {x D : Addr} (L : Lay C h δ H) (e : instOf H x = some D) : ∃ dx od, InstAt h x (instObj D dx) D (some od) := by
  unfold instOf at e
  split at e
  · rename_i D' fs hx
    cases e
    obtain ⟨_, e1, es, m, e2, r, nj⟩ := L.inst hx
    exact ⟨_, _, instAt e1 e2⟩
  · rename_i D' hx
    cases e
    obtain ⟨dx, od, e1, e2⟩ := L.obj _ _ hx
    exact ⟨dx, od, L.keep _ _ e1, rfl, rfl, L.keep _ _ e2⟩
  · cases e
theorem WC_isi_yes {x D Cl : Addr} {Q : V → MH → Prop} (e : instOf H x = some D) (h : isIn C.K (.ref D) Cl = true) (q : Q (.bool true) H) : WC C n (.bi "isinstance") [.ref x, .ref Cl] H Q := by
  refine ⟨fun A s δ f' args' rm L hf ha hj => ?_⟩
  obtain rfl := er_bi hf
  obtain ⟨y, z, rfl, hy, hz⟩ := map_two ha
  obtain rfl := er_ref hy
  obtain rfl := er_ref hz
  obtain ⟨dx, od, I⟩ := instOf_at L e
  exact isi_call (C.X.keeps L.keep) (fun M => I.type) h (by intro q; cases q) (Post.here (t := s.toks) L (njk rfl) q)
theorem WC_isi_no {x D Cl : Addr} {Q : V → MH → Prop} (e : instOf H x = some D) (h : isiF C.K D Cl = true) (q : Q (.bool false) H) : WC C n (.bi "isinstance") [.ref x, .ref Cl] H Q := by
  refine ⟨fun A s δ f' args' rm L hf ha hj => ?_⟩
  obtain rfl := er_bi hf
  obtain ⟨y, z, rfl, hy, hz⟩ := map_two ha
  obtain rfl := er_ref hy
  obtain rfl := er_ref hz
  obtain ⟨dx, od, I⟩ := instOf_at L e
  simp only [isiF, Bool.and_eq_true] at h
  obtain ⟨⟨⟨⟨⟨⟨h1, h2⟩, h3⟩, h4⟩, h5⟩, h6⟩, h7⟩ := h
  exact kin_callC (C.X.keeps L.keep) I h1 h2 h3 (beq_iff_eq.mp h4) (beq_iff_eq.mp h5) (beq_iff_eq.mp h6) (beq_iff_eq.mp h7) (Post.here L (njk rfl) q)
theorem WC_isi_noT {x D : Addr} {T : String} {Q : V → MH → Prop} (e : instOf H x = some D) (h : isiFT C.K D T = true) (ht : typeOf (.type T) = pure (.type "type")) (q : Q (.bool false) H) : WC C n (.bi "isinstance") [.ref x, .ty T] H Q := by
  refine ⟨fun A s δ f' args' rm L hf ha hj => ?_⟩
  obtain rfl := er_bi hf
  obtain ⟨y, z, rfl, hy, hz⟩ := map_two ha
  obtain rfl := er_ref hy
  obtain rfl := er_ty hz
  obtain ⟨dx, od, I⟩ := instOf_at L e
  simp only [isiFT, Bool.and_eq_true] at h
  obtain ⟨⟨⟨⟨⟨⟨h1, h2⟩, h3⟩, h4⟩, h5⟩, h6⟩, h7⟩ := h
  exact kin_callT (C.X.keeps L.keep) I h1 ht h2 h3 (beq_iff_eq.mp h4) (beq_iff_eq.mp h5) (beq_iff_eq.mp h6) (beq_iff_eq.mp h7) (Post.here L (njk rfl) q)
theorem WC_isi_int {i : Int} {Cl : Addr} {Q : V → MH → Prop} (h : isNotIn C.K "int" Cl = true) (q : Q (.bool false) H) : WC C n (.bi "isinstance") [.int i, .ref Cl] H Q := by
  refine ⟨fun A s δ f' args' rm L hf ha hj => ?_⟩
  obtain rfl := er_bi hf
  obtain ⟨y, z, rfl, hy, hz⟩ := map_two ha
  obtain ⟨t, rfl⟩ := er_int hy
  obtain rfl := er_ref hz
  exact isn_call (P := fun _ => True) (C.X.keeps L.keep) (fun M => Looks.of_pure rfl) h (by intro q; cases q) trivial int_cls (Post.here L (njk rfl) q)
noncomputable def isiI (T : String) : Option Bool := if T = "int" then some true else if T = "bool" then some false else if T = "str" then some false else if T = "tuple" then some false else none
noncomputable def isiS (T : String) : Option Bool := if T = "str" then some true else if T = "tuple" then some false else none
theorem WC_isi_i {i : Int} {T : String} {b : Bool} {Q : V → MH → Prop} (h : isiI T = some b) (q : Q (.bool b) H) : WC C n (.bi "isinstance") [.int i, .ty T] H Q := by
  refine ⟨fun A s δ f' args' rm L hf ha hj => ?_⟩
  obtain rfl := er_bi hf
  obtain ⟨y, z, rfl, hy, hz⟩ := map_two ha
  obtain rfl := er_ty hz
  obtain ⟨t, rfl⟩ := er_int hy
  unfold isiI at h
  by_cases e : T = "int"
  · subst e; cases h; exact IsiPair.int_int (Post.here (t := s.toks) L (njk rfl) q)
  rw [if_neg e] at h
  by_cases e : T = "bool"
  · subst e; cases h; exact IsiPair.int_bool (Post.here L (njk rfl) q)
  rw [if_neg e] at h
  by_cases e : T = "str"
  · subst e; cases h; exact IsiPair.int_str (Post.here L (njk rfl) q)
  rw [if_neg e] at h
  by_cases e : T = "tuple"
  · subst e; cases h; exact IsiPair.int_tuple (Post.here L (njk rfl) q)
  rw [if_neg e] at h; cases h
theorem WC_isi_s {i : Str} {T : String} {b : Bool} {Q : V → MH → Prop} (h : isiS T = some b) (q : Q (.bool b) H) : WC C n (.bi "isinstance") [.str i, .ty T] H Q := by
  refine ⟨fun A s δ f' args' rm L hf ha hj => ?_⟩
  obtain rfl := er_bi hf
  obtain ⟨y, z, rfl, hy, hz⟩ := map_two ha
  obtain rfl := er_ty hz
  obtain ⟨t, rfl⟩ := er_str hy
  unfold isiS at h
  by_cases e : T = "str"
  · subst e; cases h; exact IsiPair.str_str (Post.here (t := s.toks) L (njk rfl) q)
  rw [if_neg e] at h
  by_cases e : T = "tuple"
  · subst e; cases h; exact IsiPair.str_tuple (Post.here L (njk rfl) q)
  rw [if_neg e] at h; cases h
theorem WC_isi_tt {a : Addr} {vs : List V} {Q : V → MH → Prop} (hx : H a = some (.tuple vs)) (q : Q (.bool true) H) : WC C n (.bi "isinstance") [.ref a, .ty "tuple"] H Q := by
  refine ⟨fun A s δ f' args' rm L hf ha hj => ?_⟩
  obtain rfl := er_bi hf
  obtain ⟨y, z, rfl, hy, hz⟩ := map_two ha
  obtain rfl := er_ty hz
  obtain rfl := er_ref hy
  obtain ⟨vs', m, ex, _⟩ := L.obj _ _ hx
  exact IsiPair.tuple_tuple ex rfl (Post.here (t := s.toks) L (njk rfl) q)
theorem WC_isi_ts {a : Addr} {vs : List V} {Q : V → MH → Prop} (hx : H a = some (.tuple vs)) (q : Q (.bool false) H) : WC C n (.bi "isinstance") [.ref a, .ty "str"] H Q := by
  refine ⟨fun A s δ f' args' rm L hf ha hj => ?_⟩
  obtain rfl := er_bi hf
  obtain ⟨y, z, rfl, hy, hz⟩ := map_two ha
  obtain rfl := er_ty hz
  obtain rfl := er_ref hy
  obtain ⟨vs', m, ex, _⟩ := L.obj _ _ hx
  exact IsiPair.tuple_str ex rfl (Post.here L (njk rfl) q)
noncomputable def methL (i : Nat) : Option String := if i = n_append then some "list.append" else if i = n_pop then some "list.pop" else if i = n_extend then some "list.extend" else none
theorem an_name {name : Str} {i j : Nat} (hi : idx AN name = some i) (e : i = j) {x : Str} (hx : AN[j]? = some x) : name = x := by
  subst e
  have := idx_get hi
  rw [hx] at this; exact (Option.some.inj this).symm
theorem meth_fin {s : Shared} {a : V} {a' : Value} {id : String} {Q : V → List V → Prop} (ha : er a' = a) (hj : a ≠ .junk) (q : Q (.bi id) [a]) :
    (fun (r : Value × List Value) s' => s' = s ∧ (∀ v ∈ r.2, er v ≠ .junk) ∧ Q (er r.1) (r.2.map er)) (.builtin id, [a']) s := by
  subst ha
  exact ⟨rfl, fun v hv => by rw [List.mem_singleton.mp hv]; exact hj, q⟩
theorem WMeth_list {a : Addr} {vs : List V} {name : Str} {i : Nat} {id : String} {Q : V → List V → Prop} (hi : idx AN name = some i) (hx : H a = some (.list vs)) (h : methL i = some id) (q : Q (.bi id) [.ref a]) : WMeth C (.ref a) name H Q := by
  refine ⟨fun A s δ a' pl L ha' => ?_⟩
  have fin := meth_fin (s := s) ha' (njk rfl) q
  obtain rfl := er_ref ha'
  obtain ⟨_, vs', m, ex, _⟩ := L.obj _ _ hx
  have hT : s.TypeIs (.ref a) "list" := ⟨_, ex, rfl⟩
  have hd : ∀ b, Value.ref a = .ref b → ∃ o, s.heap.get? b = some o ∧ o.dict = none := fun b e => by cases e; exact ⟨_, ex, rfl⟩
  unfold methL at h
  by_cases e : i = n_append
  · rw [if_pos e] at h; cases h
    obtain rfl := an_name hi e (x := Str.ofString "append") (by decide)
    exact getMethod_builtin hT F.plainAttrs_list F.slot_list_append F.type_list_append hd fin
  rw [if_neg e] at h
  by_cases e : i = n_pop
  · rw [if_pos e] at h; cases h
    obtain rfl := an_name hi e (x := Str.ofString "pop") (by decide)
    exact getMethod_builtin hT F.plainAttrs_list F.slot_list_pop F.type_list_pop hd fin
  rw [if_neg e] at h
  by_cases e : i = n_extend
  · rw [if_pos e] at h; cases h
    obtain rfl := an_name hi e (x := Str.ofString "extend") (by decide)
    exact getMethod_builtin hT F.plainAttrs_list F.slot_list_extend F.type_list_extend hd fin
  rw [if_neg e] at h; cases h
theorem WMeth_dict {a : Addr} {es : List (V × V)} {ep : Nat} {name : Str} {Q : V → List V → Prop} (hi : idx AN name = some n_get) (hx : H a = some (.dict es ep)) (q : Q (.bi "dict.get") [.ref a]) : WMeth C (.ref a) name H Q := by
  refine ⟨fun A s δ a' pl L ha' => ?_⟩
  have fin := meth_fin (s := s) ha' (njk rfl) q
  obtain rfl := er_ref ha'
  obtain ⟨_, kvs, dx, _⟩ := L.obj _ _ hx
  obtain rfl := an_name hi rfl (x := Str.ofString "get") (by decide)
  exact getMethod_builtin dx.dictOf.typeIs F.plainAttrs_dict F.slot_dict_get F.type_dict_get dx.dictOf.mapOf.noDict fin
theorem WMeth_join {x : Str} {name : Str} {Q : V → List V → Prop} (hi : idx AN name = some n_join) (q : Q (.bi "str.join") [.str x]) : WMeth C (.str x) name H Q := by
  refine ⟨fun A s δ a' pl L ha' => ?_⟩
  have fin := meth_fin (s := s) ha' (njk rfl) q
  obtain ⟨t, rfl⟩ := er_str ha'
  obtain rfl := an_name hi rfl (x := Str.ofString "join") (by decide)
  exact getMethod_builtin (typeIs_str _ _ _) F.plainAttrs_str F.slot_str_join F.type_str_join (fun b e => by cases e) fin
theorem lay_list {s : Shared} {δ : Addr → Addr} {a : Addr} {vs : List V} {ds : List Value} {h' : Heap} {m t : Nat} {Q : V → MH → Prop} {v : Value} (L : Lay C s.heap δ H) (ha : H a = some (.list vs)) (sb : Heap.SameBut a s.heap h') (e : h'.get? a = some { cls := .type "list", data := .seq (List.toArray ds) m }) (nj : NJ (ds.map er)) (jv : er v ≠ .junk)
    (q : Q (er v) (H.set a (.list (ds.map er)))) : Post C noπ δ H s Q v { s with heap := h', toks := t } := by
  obtain ⟨nB, vs', m', ex, rfl, _⟩ := L.obj _ _ ha
  refine ⟨δ, _, L.turn ha (mo' := .list (ds.map er)) (fun _ _ e => by cases e) nB sb ⟨nB, ds, m, e, rfl, nj⟩, Keeps.turn (fun _ _ e => by cases e) (.inl ⟨_, ha⟩) sb e, jv, q⟩
theorem WC_append {a : Addr} {vs : List V} {v : V} {Q : V → MH → Prop} (h : H a = some (.list vs)) (hl : vs.length ≤ lim) (q : Q .none (H.set a (.list (vs ++ [v])))) : WC C n (.bi "list.append") [.ref a, v] H Q := by
  refine ⟨fun A s δ f' args' rm L hf ha hj => ?_⟩
  obtain rfl := er_bi hf
  obtain ⟨y, z, rfl, hy, rfl⟩ := map_two ha
  obtain rfl := er_ref hy
  have h0 := h
  obtain ⟨nB, vs', m, ex, rfl, nj⟩ := L.obj _ _ h
  rw [List.length_map] at hl
  refine wpAny_list_append_plain (items := vs'.toArray) ⟨m, ex⟩ (fun h' ⟨m', e'⟩ sb => ?_) (by simpa using lim_of hl)
  refine lay_list (t := s.toks) (m := m') (ds := vs' ++ [z]) L h0 sb (by rw [e']; simp) ?_ (njk rfl) (by rw [List.map_append]; exact q)
  rw [List.map_append]
  intro u hu
  rcases List.mem_append.mp hu with hu | hu
  · exact nj u hu
  · simp at hu; exact hu ▸ hj z (by simp)
theorem mapSeq_list (f : Array Value → Array Value) (xs : Array Value) (k : Nat) : ∃ k', Obj.mapSeq f { cls := .type "list", data := .seq xs k } = { cls := .type "list", data := .seq (f xs) k' } := ⟨_, rfl⟩
theorem updated {h : Heap} {a : Addr} {xs : Array Value} {k : Nat} (f : Array Value → Array Value) (e : h.get? a = some { cls := .type "list", data := .seq xs k }) : ∃ k', (h.update a (Obj.mapSeq f)).get? a = some { cls := .type "list", data := .seq (f xs) k' } := by
  obtain ⟨k', q⟩ := mapSeq_list f xs k
  exact ⟨k', by rw [Heap.get?_update_self _ e (by rw [q]; rfl), q]⟩
theorem WC_pop {a : Addr} {vs : List V} {v : V} {Q : V → MH → Prop} (h : H a = some (.list (vs ++ [v]))) (hl : vs.length < lim) (q : Q v (H.set a (.list vs))) : WC C n (.bi "list.pop") [.ref a] H Q := by
  refine ⟨fun A s δ f' args' rm L hf ha hj => ?_⟩
  obtain rfl := er_bi hf
  obtain ⟨y, rfl, hy⟩ := map_one ha
  obtain rfl := er_ref hy
  have h0 := h
  obtain ⟨nB, vs', m, ex, e, nj⟩ := L.obj _ _ h
  obtain ⟨ws, z, rfl, e1, e2⟩ : ∃ ws z, vs' = ws ++ [z] ∧ ws.map er = vs ∧ er z = v := by
    have := List.map_eq_append_iff.mp e
    obtain ⟨l1, l2, e0, e1, e2⟩ := this
    obtain ⟨z, rfl, hz⟩ := map_one e2
    exact ⟨l1, z, e0, e1, hz⟩
  subst e1 e2
  rw [List.length_map] at hl
  have sz : (ws ++ [z]).toArray.size = ws.length + 1 := by simp
  obtain ⟨k', eu⟩ := updated (fun xs => xs.eraseIdxIfInBounds ((ws ++ [z]).toArray.size - 1)) ex
  have er' : ((ws ++ [z]).toArray).eraseIdxIfInBounds ((ws ++ [z]).toArray.size - 1) = ws.toArray := by
    rw [sz, Nat.add_sub_cancel]
    simp only [List.eraseIdxIfInBounds_toArray]
    rw [List.eraseIdx_append_of_length_le (Nat.le_refl _)]
    simp
  rw [er'] at eu
  refine call_meets F.slot_list_pop ⟨_, ex, rfl⟩ F.entry_list_pop (F.args_list_pop_1 _) (MeetsSeq.list_pop_last a (ws ++ [z]).toArray m z (by simp) (by rw [sz]; exact lim_of hl)) ⟨ex, ?_⟩
  have nj' : ∀ u ∈ ws.map er ++ [er z], u ≠ .junk := nj
  exact lay_list (t := s.toks) L h0 (Heap.SameBut.update _ _ _) eu (fun u hu => nj' u (List.mem_append_left _ hu)) (nj' _ (by simp)) q
theorem WC_pop0 {a : Addr} {vs : List V} {v : V} {Q : V → MH → Prop} (h : H a = some (.list (v :: vs))) (hl : vs.length < lim) (q : Q v (H.set a (.list vs))) : WC C n (.bi "list.pop") [.ref a, .int 0] H Q := by
  refine ⟨fun A s δ f' args' rm L hf ha hj => ?_⟩
  obtain rfl := er_bi hf
  obtain ⟨y, w, rfl, hy, hw⟩ := map_two ha
  obtain rfl := er_ref hy
  obtain ⟨u, rfl⟩ := er_int hw
  have h0 := h
  obtain ⟨nB, vs', m, ex, e, nj⟩ := L.obj _ _ h
  cases vs' with
  | nil => cases e
  | cons z ws =>
    rw [List.map_cons] at e
    injection e with e1 e2
    subst e1 e2
    rw [List.length_map] at hl
    obtain ⟨k', eu⟩ := updated (fun xs => xs.eraseIdxIfInBounds 0) ex
    have er' : ((z :: ws).toArray).eraseIdxIfInBounds 0 = ws.toArray := by simp
    rw [er'] at eu
    refine call_meets F.slot_list_pop ⟨_, ex, rfl⟩ F.entry_list_pop (F.args_list_pop_2 _ _) (MeetsSeq.list_pop_at a (z :: ws).toArray m 0 u 0 z (by decide) (seqIndex_of (Int.le_refl _) (by simp)) (by simp) (by have := lim_of hl; simpa using this)) ⟨ex, ?_⟩
    exact lay_list (t := s.toks) L h0 (Heap.SameBut.update _ _ _) eu (fun u hu => nj u (List.mem_cons_of_mem _ hu)) (nj _ (by simp)) q
theorem WC_extend {a b : Addr} {xs ys : List V} {Q : V → MH → Prop} (h : H a = some (.list xs)) (hb : H b = some (.list ys)) (hl : xs.length + ys.length ≤ lim) (q : Q .none (H.set a (.list (xs ++ ys)))) : WC C n (.bi "list.extend") [.ref a, .ref b] H Q := by
  refine ⟨fun A s δ f' args' rm L hf ha hj => ?_⟩
  obtain rfl := er_bi hf
  obtain ⟨y, w, rfl, hy, hw⟩ := map_two ha
  obtain rfl := er_ref hy
  obtain rfl := er_ref hw
  have h0 := h
  obtain ⟨nB, xs', m, ex, rfl, njx⟩ := L.obj _ _ h
  obtain ⟨_, ys', k, ey, rfl, njy⟩ := L.obj _ _ hb
  rw [List.length_map, List.length_map] at hl
  have hl' := lim_of hl
  obtain ⟨k', eu⟩ := updated (fun x => x ++ ys'.toArray) ex
  refine call_meets F.slot_list_extend ⟨_, ex, rfl⟩ F.entry_list_extend (F.args_list_extend_2 _ _) (AutoSeq1.list_extend_list_list_0 a xs'.toArray m b ys'.toArray k ?_ (by simp; walk_at "O") (by simp; walk_at "O")) ⟨ex, ey, ?_⟩
  · have : Builtin.List.listTooLong (xs'.toArray.size + ys'.toArray.size) = false := by
      unfold Builtin.List.listTooLong
      simpa using hl'
    rw [this]; simp
  · refine lay_list (t := s.toks) (m := k') (ds := xs' ++ ys') L h0 (Heap.SameBut.update _ _ _) (by rw [eu]; simp) ?_ (njk rfl) (by rw [List.map_append]; exact q)
    rw [List.map_append]
    intro u hu
    rcases List.mem_append.mp hu with hu | hu
    · exact njx u hu
    · exact njy u hu
theorem WC_get2 {a : Addr} {es : List (V × V)} {ep : Nat} {k d : V} {Q : V → MH → Prop} (h : H a = some (.dict es ep)) (hk : isKey k = true) (q : Q ((atKeyV es k).getD d) H) : WC C n (.bi "dict.get") [.ref a, k, d] H Q := by
  refine ⟨fun A s δ f' args' rm L hf ha hj => ?_⟩
  obtain rfl := er_bi hf
  obtain ⟨y, z, w, rfl, hy, hz, rfl⟩ := map_three ha
  obtain rfl := er_ref hy
  obtain ⟨nB, kvs, dx, rfl, nj⟩ := L.obj _ _ h
  have e : (atKeyV (kvs.map erKV) k).getD (er w) = er ((valueAt kvs k).getD w) := by
    rw [atKeyV_er]; cases valueAt kvs k <;> rfl
  have jv : er ((valueAt kvs k).getD w) ≠ .junk := by
    cases hv : valueAt kvs k with
    | none => exact hj w (by simp)
    | some y =>
      unfold valueAt at hv
      obtain ⟨kv, h1, h2⟩ := Option.map_eq_some_iff.mp hv
      refine nj _ (List.mem_map.mpr ⟨erKV kv, List.mem_map_of_mem (List.mem_of_find?_eq_some h1), ?_⟩)
      rw [← h2]; rfl
  refine call_meetsIn F.slot_dict_get dx.dictOf.typeIs F.entry_dict_get (F.args_dict_get_3 _ _ _) (meets_dict_get_default (mix C.prog C.w) (k := k) a (mix_is hz hk) (notSys nB) w) ⟨_, dx.dictOf.mapOf, ?_⟩
  have q' : Q (er ((valueAt kvs k).getD w)) H := e ▸ q
  exact Post.here L jv q'
theorem WC_join {x : Str} {a : Addr} {ts : List Str} {Q : V → MH → Prop} (h : H a = some (.list (ts.map V.str))) (hok : JoinOk x ts = true) (q : Q (.str (Txt.join x ts)) H) : WC C n (.bi "str.join") [.str x, .ref a] H Q := by
  refine ⟨fun A s δ f' args' rm L hf ha hj => ?_⟩
  obtain rfl := er_bi hf
  obtain ⟨y, z, rfl, hy, hz⟩ := map_two ha
  obtain ⟨t, rfl⟩ := er_str hy
  obtain rfl := er_ref hz
  obtain ⟨nB, vs', m, ex, e, nj⟩ := L.obj _ _ h
  obtain ⟨l, rfl, hl⟩ : ∃ l : List (Str × Tok), vs' = strValues l ∧ l.map (·.1) = ts := by
    clear ex nj h hok q
    induction vs' generalizing ts with
    | nil => cases ts with
      | nil => exact ⟨[], rfl, rfl⟩
      | cons _ _ => cases e
    | cons v vs' ih => cases ts with
      | nil => cases e
      | cons t ts =>
        simp only [List.map_cons, List.cons.injEq] at e
        obtain ⟨u, rfl⟩ := er_str e.1
        obtain ⟨l, rfl, hl⟩ := ih e.2
        exact ⟨(t, u) :: l, rfl, by simp [hl]⟩
  exact SC.join (l := l) ⟨_, ex, rfl, m, rfl⟩ hl hok fun t' k => Post.here L (njk rfl) q
theorem wpAny_setItem_list_plain {prog : Program} {w : World} {A : Around} {E : Value → Shared → Prop} {s : Shared} {l : Addr} {items : Array Value} {k : Int} {t : Tok} {v : Value} {Q : Unit → Shared → Prop} (hl : s.heap.PlainList l items)
    (h0 : 0 ≤ k) (hfit : k < 2 ^ 63) (hn : k < items.size)
    (hQ : ∀ h', h'.PlainList l (items.setIfInBounds k.toNat v) → Heap.SameBut l s.heap h' → Q () { s with heap := h' }) :
    wpAny (model prog w) A (setItem (.ref l) (.int k t) v) Q E s := by
  obtain ⟨n0, ho⟩ := hl
  have hT : s.TypeIs (.ref l) "list" := ⟨_, ho, rfl⟩
  unfold setItem
  try with_reducible refine wpAny_holding ?_
  first | refine wpAny_bind (wpAny_pure ?_) | skip
  refine wpAny_bind (wpAny_sequenceKey hT (by decide) ?_)
  refine wpAny_bind (wpAny_callSpecial?_slot (name := Str.ofString "__setitem__") hT slot_list_setitem
    (wpAny_call_entry slot_list_setitem hT entry_list_setitem ?_ (args_list_setitem _ _ _)))
  show wpAny _ _ (Builtin.List.listSubscript? (.int k t) >>= _) _ _ s
  refine wpAny_bind (wpAny_listSubscript_int (fitsIndex_of h0 hfit) ?_)
  clear hfit
  obtain ⟨j, rfl⟩ := Int.eq_ofNat_of_zero_le h0
  have hj : j < items.size := by walk_at "O"
  have hx' : items[j]? = some items[j] := Array.getElem?_eq_getElem hj
  show wpAny _ _ ((seqItemAt l j >>= fun r => pure (r.map (j, ·))) >>= _) _ _ s
  refine wpAny_bind (wpAny_bind (wpAny_seqItemAt ho rfl (wpAny_pure ?_)))
  rw [hx']
  show wpAny _ _ (setSeqItemAt l j v >>= _) _ _ s
  have hfin : (s.heap.update l (Obj.mapSeq (·.setIfInBounds j v))).PlainList l (items.setIfInBounds j v) := updated _ ho
  refine wpAny_bind (wpAny_setSeqItemAt ho rfl ?_)
  first
    | exact wpAny_bind (wpAny_pure (wpAny_pure ⟨.none, rfl, wpAny_pure (hQ _ hfin (Heap.SameBut.update ..))⟩))
    | exact wpAny_pure ⟨.none, rfl, wpAny_pure (hQ _ hfin (Heap.SameBut.update ..))⟩
theorem WItm_dict {a : Addr} {es : List (V × V)} {ep : Nat} {k v : V} {Q : MH → Prop} (h : H a = some (.dict es ep)) (hk : isKey k = true) (hl : es.length ≤ lim) (q : ∀ ep', Q (H.set a (.dict (putV es k v) ep'))) : WItm C n (.ref a) k v H Q := by
  refine ⟨fun A s δ a' k' v' rm L ha hk' hv jv => ?_⟩
  obtain rfl := er_ref ha
  subst hv
  have h0 := h
  obtain ⟨nB, kvs, dx, rfl, nj⟩ := L.obj _ _ h
  rw [List.length_map] at hl
  refine wpAny_setItem_pairs (mix_is hk' hk) dx.dictOf (fun h' hd sb => ?_) (lim_of hl)
  obtain ⟨o, eso, ep', ho, r⟩ := hd
  refine ⟨δ, _, L.turn h0 (mo' := .dict ((stored kvs k v').map erKV) ep') (fun _ _ e => by cases e) nB sb ⟨nB, _, ⟨o, eso, ho, r⟩, rfl, ?_⟩, Keeps.turn (fun _ _ e => by cases e) (.inr ⟨_, _, h0⟩) sb ho, ?_⟩
  · rw [← putV_er]; exact putV_NJ nj jv
  · rw [← putV_er]; exact q ep'
theorem WItm_list {a : Addr} {vs : List V} {i : Int} {v : V} {Q : MH → Prop} (h : H a = some (.list vs)) (h0 : 0 ≤ i) (h1 : i < vs.length) (hl : vs.length ≤ lim) (q : Q (H.set a (.list (vs.set i.toNat v)))) : WItm C n (.ref a) (.int i) v H Q := by
  refine ⟨fun A s δ a' k' v' rm L ha hk' hv jv => ?_⟩
  obtain rfl := er_ref ha
  obtain ⟨t, rfl⟩ := er_int hk'
  subst hv
  have hh := h
  obtain ⟨nB, vs', m, ex, rfl, nj⟩ := L.obj _ _ h
  rw [List.length_map] at hl h1
  have hlz : (vs'.length : Int) ≤ 1000000 := Int.ofNat_le.mpr hl
  refine wpAny_setItem_list_plain (items := vs'.toArray) ⟨m, ex⟩ h0 (by walk_at "O") (by simpa using h1) fun h' ⟨m', e'⟩ sb => ?_
  refine ⟨δ, _, L.turn hh (mo' := .list ((vs'.set i.toNat v').map er)) (fun _ _ e => by cases e) nB sb ⟨nB, vs'.set i.toNat v', m', ?_, rfl, ?_⟩, Keeps.turn (fun _ _ e => by cases e) (.inl ⟨_, hh⟩) sb e', ?_⟩
  · rw [e']; simp
  · intro u hu
    rw [List.map_set] at hu
    rcases List.mem_or_eq_of_mem_set hu with hu | rfl
    · exact nj u hu
    · exact jv
  · rw [List.map_set]; exact q
end
end N226
end
noncomputable section
open PySem PySem.W PySem.Calls PyProof.Rows PySem.Builtin.Str
set_option maxRecDepth 10000
namespace N226
theorem view_noContains : typeLookup (.type "dict_values") "__contains__" = pure none := by rw [typeLookup_type, builtinLookup_eq_fast]; kernel_rfl
theorem entry_contains_iter : entryFor table "proto.contains_iter" = some Builtin.«proto.contains_iter» := entryFor_of_tree (by kernel_rfl)
section
variable {C : Cx} {S : St} {n : Nat} {ρ : Loc} {H : MH}
theorem neg_ok {i : Int} {Q : V → MH → Prop} (q : Q (.int (-i)) H) : WOp1 C n (unaryOp .USub) (.int i) H Q := by
  refine ⟨fun A s δ a' rm L ha => ?_⟩
  obtain ⟨t, rfl⟩ := er_int ha
  exact P.neg_int (Post.here L (njk rfl) q)
noncomputable def inW (a k : V) (H : MH) (Q : Bool → Prop) : Prop :=
  (∃ x es ep, a = .ref x ∧ H x = some (.dict es ep) ∧ isKey k = true ∧ Q (atKeyV es k).isSome) ∨
  (∃ x vs, a = .ref x ∧ H x = some (.tuple vs) ∧ isKey k = true ∧ vs.all isKey = true ∧ Q (vs.any fun v => decide (v = k))) ∨
  (∃ x d es ep, a = .ref x ∧ H x = some (.view d) ∧ H d = some (.dict es ep) ∧ isKey k = true ∧ (es.map (·.2)).all isKey = true ∧ Q ((es.map (·.2)).any fun v => decide (v = k))) ∨
  ∃ x y, a = .str x ∧ k = .str y ∧ Q !(occurrences x y 0 x.length 1).isEmpty
theorem contains_iter {A : Around} {d x it : Addr} {kvs : List (V × Value)} {ep : Nat} {k : V} {k' : Value} {E : Value → Shared → Prop} (hh : A.handled = none) (hk : isKey k = true) (he : er k' = k) (hv : (kvs.map (er ·.2)).all isKey = true) :
    ∀ (m i : Nat) (s : Shared) (R : Value → Shared → Prop), m + i = kvs.length → s.heap.IsValIter it d i kvs.length ep → s.heap.DictAt (mix C.prog C.w) d kvs ep → it ≠ d →
      (∀ h' t, Heap.ExtBut it s.heap h' → R (.bool ((kvs.drop i).any fun kv => decide (er kv.2 = k))) { s with heap := h', toks := t }) →
      codeAny C.M A (.builtin "proto.contains_iter" ⟨[.ref it, k'], []⟩) (fun r s' => match r with | .ok (.ret v) => R v s' | .ok _ => False | .error e => E e s') s := by
  intro m
  induction m with
  | zero =>
    intro i s R hm hit hd hne q
    have e0 : kvs[i]? = none := List.getElem?_eq_none (by walk_at "O")
    refine codeAny_builtin entry_contains_iter ?_
    unfold Builtin.«proto.contains_iter»
    refine wpAny_bind (wpAny_pyNext_values_end (by exact hh) hit hd e0 fun h' x => ?_)
    refine wpAny_bind (wpAny_rule (wpAny_pure ?_))
    have := q h' s.toks x
    rw [List.drop_of_length_le (by walk_at "O")] at this
    exact this
  | succ m ih =>
    intro i s R hm hit hd hne q
    have hi : i < kvs.length := by walk_at "O"
    obtain ⟨kv, e0⟩ : ∃ kv, kvs[i]? = some kv := ⟨_, List.getElem?_eq_getElem hi⟩
    have hdrop : kvs.drop i = kv :: kvs.drop (i + 1) := by
      rw [List.drop_eq_getElem_cons hi]
      rw [List.getElem?_eq_getElem hi] at e0
      rw [Option.some.inj e0]
    refine codeAny_builtin entry_contains_iter ?_
    unfold Builtin.«proto.contains_iter»
    refine wpAny_bind (wpAny_pyNext_values_item (k := kv.1) (v := kv.2) hit hd e0 fun h' hit' sb => ?_)
    have hkv : isKey (er kv.2) = true := by
      rw [List.all_map, List.all_eq_true] at hv
      exact hv kv (List.mem_of_getElem? e0)
    refine wpAny_bind (mix_eq (prog := C.prog) (w := C.w) (a := er kv.2) (b := k) (by rw [decide_eq_true rfl, hkv]; rfl) (by rw [decide_eq_true he, hk]; rfl) ?_)
    by_cases hb : er kv.2 = k
    · rw [decide_eq_true hb]
      simp only [if_true]
      refine wpAny_bind (wpAny_rule (wpAny_pure ?_))
      have := q h' s.toks sb.extBut
      rw [hdrop, List.any_cons, decide_eq_true hb, Bool.true_or] at this
      exact this
    · rw [decide_eq_false hb]
      simp only [Bool.false_eq_true, if_false]
      refine wpAny_pure ⟨Code.quiet_builtin _ (by decide +kernel), ih (i + 1) { s with heap := h' } R (by walk_at "O") hit' (hd.extBut sb.extBut (fun z => hne z.symm)) hne fun h'' t x => ?_⟩
      have := q h'' t (fun b o hb e => x b o hb (sb.extBut b o hb e))
      rw [hdrop, List.any_cons, decide_eq_false hb, Bool.false_or] at this
      exact this
theorem dict_view_in {x d : Addr} {es : List (V × V)} {ep : Nat} {k : V} {A : Around} {s : Shared} {δ : Addr → Addr} {k' : Value} {Q : Bool → Shared → Prop} {E : Value → Shared → Prop} (rm : Room A n) (L : Lay C s.heap δ H) (hx : H x = some (.view d)) (hd : H d = some (.dict es ep)) (hk : isKey k = true) (hv : (es.map (·.2)).all isKey = true) (he : er k' = k)
    (q : ∀ h' t, (∀ c o, s.heap.get? c = some o → h'.get? c = some o) → Q ((es.map (·.2)).any fun v => decide (v = k)) { s with heap := h', toks := t }) : wpAny C.M A (contains (.ref x) k') Q E s := by
  have ex : s.heap.get? x = some { cls := .type "dict_values", data := .fields #[.ref d] } := L.obj _ _ hx
  obtain ⟨nB, kvs, dx, rfl, nj⟩ := L.obj _ _ hd
  have hT : s.TypeIs (.ref x) "dict_values" := ⟨_, ex, rfl⟩
  unfold contains
  refine wpAny_holding ?_
  have e0 : stdlibNamesSay? (.ref x) k' = none := rfl
  rw [e0]
  refine wpAny_bind (wpAny_specialOf hT view_noContains ?_)
  rw [if_neg (by decide)]
  refine wpAny_bind (wpAny_callSpecialUnlessNone?_none hT view_noContains ?_)
  refine wpAny_bind (wpAny_rule ?_)
  refine wpAny_bind (wpAny_tryCatch (wpAny_pyIter_values (v := x) (d := d) ⟨_, ex, rfl, rfl⟩ dx ?_))
  refine wpAny_bind (wpAny_runValue ?_)
  have hne : s.heap.objs.size ≠ d := fun z => by
    obtain ⟨o, eso, ho, _⟩ := dx
    have := Heap.lt_size ho
    rw [← z] at this; exact Nat.lt_irrefl _ this
  have ev : (kvs.map (er ·.2)).all isKey = true := by
    rw [List.map_map] at hv; exact hv
  refine contains_iter (it := s.heap.objs.size) (x := x) (d := d) (kvs := kvs) (ep := ep) (k := k) rm.2.2 hk he ev kvs.length 0 _ _ rfl ⟨_, Heap.get?_push_size _ rfl, rfl, rfl⟩ (dx.push _) hne fun h' t xb => ?_
  refine wpAny_pure ?_
  have := q h' t fun c o e => xb c o (Nat.ne_of_lt (Heap.lt_size e)) (Heap.get?_push_of_some _ e)
  rw [List.map_map, List.any_map] at this
  rw [List.drop_zero]
  exact this
set_option tactic.hygienic true in
theorem in_ok {a k : V} {Q : V → MH → Prop} (h : inW a k H fun b => Q (.bool b) H) : WOp2 C n (fun x y => compareOp .In x y) k a H Q := by
  refine ⟨fun A s δ k' a' rm L hk ha => ?_⟩
  rcases h with ⟨x, es, ep, rfl, hx, ik, q⟩ | ⟨x, vs, rfl, hx, ik, kv, q⟩ | ⟨x, d, es, ep, rfl, hx, hd, ik, iv, q⟩ | ⟨x, y, rfl, rfl, q⟩
  · obtain rfl := er_ref ha
    obtain ⟨nB, kvs, dx, rfl, nj⟩ := L.obj _ _ hx
    have e : (atKeyV (kvs.map erKV) k).isSome = (valueAt kvs k).isSome := by rw [atKeyV_er, Option.isSome_map]
    refine wpAny_in_of (mix_is hk ik) (notSys nB) dx.dictOf.mapOf (Post.here L (njk rfl) ?_)
    show Q (.bool _) H
    rw [← e]; exact q
  · obtain rfl := er_ref ha
    obtain ⟨vs', m, ex, rfl, nj⟩ := L.obj _ _ hx
    rw [List.all_map, List.all_eq_true] at kv
    refine SeqAt.in_tupleAt (items := vs'.toArray) (fun y => decide (er y = k)) ⟨_, ex, rfl, m, rfl⟩ (fun y hy => ?_) (Post.here (t := s.toks) L (njk rfl) ?_)
    · have := key_eqAt (x := y) (y := k') (kv y (by simpa using hy)) (by rw [hk]; exact ik) A.in1 s
      rwa [hk] at this
    · show Q (.bool _) H
      rw [List.any_map] at q
      simpa [Function.comp_def] using q
  · obtain rfl := er_ref ha
    show wpAny C.M A (do return Value.bool (← contains (.ref x) k')) _ _ s
    refine wpAny_bind (dict_view_in rm L hx hd ik iv hk fun h' t kk => wpAny_pure ?_)
    exact Post.trans (Keeps.grow (t := t) kk) (Post.here (s := { s with heap := h', toks := t }) (t := t) (L.mono kk) (njk rfl) q)
  · obtain ⟨t, rfl⟩ := er_str ha
    obtain ⟨u, rfl⟩ := er_str hk
    exact P.in_str (Post.here (t := s.toks) L (njk rfl) q)
theorem notIn_ok {a k : V} {Q : V → MH → Prop} {x : Addr} {es : List (V × V)} {ep : Nat} (ha : a = .ref x) (hx : H x = some (.dict es ep)) (ik : isKey k = true) (q : Q (.bool !(atKeyV es k).isSome) H) : WOp2 C n (fun x y => compareOp .NotIn x y) k a H Q := by
  refine ⟨fun A s δ k' a' rm L hk ha' => ?_⟩
  subst ha
  obtain rfl := er_ref ha'
  obtain ⟨nB, kvs, dx, rfl, nj⟩ := L.obj _ _ hx
  have e : (atKeyV (kvs.map erKV) k).isSome = (valueAt kvs k).isSome := by rw [atKeyV_er, Option.isSome_map]
  refine wpAny_notIn_of (mix_is hk ik) (notSys nB) dx.dictOf.mapOf (Post.here L (njk rfl) ?_)
  show Q (.bool _) H
  rw [← e]; exact q
theorem WMeth_values {x : Addr} {es : List (V × V)} {ep : Nat} {name : Str} {i : Nat} {Q : V → List V → Prop} (hi : idx AN name = some i) (e : i = n_values) (hx : H x = some (.dict es ep)) (q : Q (.bi "dict.values") [.ref x]) : WMeth C (.ref x) name H Q := by
  refine ⟨fun A s δ a' pl L ha' => ?_⟩
  obtain rfl := er_ref ha'
  obtain ⟨_, kvs, dx, _⟩ := L.obj _ _ hx
  obtain rfl := an_name hi e (x := Str.ofString "values") (by decide)
  refine getMethod_builtin dx.dictOf.typeIs F.plainAttrs_dict F.slot_dict_values F.type_dict_values dx.dictOf.mapOf.noDict ⟨rfl, ?_, q⟩
  intro v hv
  rw [List.mem_singleton.mp hv]; exact njk rfl
theorem WC_values {x : Addr} {es : List (V × V)} {ep : Nat} {Q : V → MH → Prop} (hx : H x = some (.dict es ep)) (q : ∀ c, H c = none → Q (.ref c) (H.set c (.view x))) : WC C n (.bi "dict.values") [.ref x] H Q := by
  refine ⟨fun A s δ f' args' rm L hf ha hj => ?_⟩
  obtain rfl := er_bi hf
  obtain ⟨y, rfl, hy⟩ := map_one ha
  obtain rfl := er_ref hy
  obtain ⟨nB, kvs, dx, rfl, nj⟩ := L.obj _ _ hx
  have hn := size_none s.heap
  refine call_meetsIn F.slot_dict_values dx.dictOf.typeIs F.entry_dict_values (F.args_dict_values_1 _) (meets_dict_values (mix C.prog C.w) x (notSys nB)) ⟨⟨_, dx.dictOf⟩, ?_⟩
  refine ⟨δ, _, (L.push _).add (mo := .view x) (Heap.get?_push_size _ rfl) (fun _ _ e => by cases e) (L.freshδ hn), ?_, njk rfl, q _ (L.fresh hn)⟩
  exact Keeps.growAdd (t := s.toks) (fun _ _ e => by cases e) hn fun b o e => Heap.get?_push_of_some _ e
end
end N226
end
noncomputable section
open PySem PySem.W PySem.Calls PyProof.Rows
set_option maxRecDepth 10000
namespace N226
section
variable {C : Cx} {S : St} {n : Nat} {ρ : Loc} {H : MH}
structure WEd (C : Cx) (S : St) (n : Nat) (ks : List (Option Expr)) (vs : List Expr) (ρ : Loc) (H : MH) (Q : List (V × V) → MH → Prop) : Prop where
  run : ∀ (A : Around) (env : Env) (s : Shared) (δ : Addr → Addr), Room A n → EnvOK S env → FrOK C S env s.heap ρ δ H → Lay C s.heap δ H → ∀ pos,
    wpAny C.M A (evalPairs (pairTrees ks vs env pos)) (fun ps s' => ∃ δ' H', Lay C s'.heap δ' H' ∧ Keeps noπ δ H s δ' H' s' ∧ (∀ p ∈ ps, er p.2 ≠ .junk) ∧ Q (ps.map fun p => (er p.1, er p.2)) H') noE s
theorem WEd_nil {Q : List (V × V) → MH → Prop} (q : Q [] H) : WEd C S n [] [] ρ H Q :=
  ⟨fun A env s δ rm eo F L pos => evalPairs_nil ⟨δ, H, L, Keeps.refl _ _ _ _, (fun _ h => nomatch h), q⟩⟩
theorem WEd_cons {k v : Expr} {ks : List (Option Expr)} {vs : List Expr} {Q : List (V × V) → MH → Prop} (h : WE C S n k ρ H fun a H1 => WE C S n v ρ H1 fun b H2 => WEd C S n ks vs ρ H2 fun ps H3 => Q ((a, b) :: ps) H3) : WEd C S n (some k :: ks) (v :: vs) ρ H Q := by
  refine ⟨fun A env s δ rm eo F L pos => ?_⟩
  refine evalPairs_cons (h.bind rm eo F L fun a s1 δ1 H1 L1 K1 F1 ja h1 => wpAny_bind (h1.bind rm eo F1 L1 fun b s2 δ2 H2 L2 K2 F2 jb h2 => wpAny_bind (wpAny_standAt (wpAny_pure ?_))))
  refine noE_any (h2.run A env s2 δ2 rm eo F2 L2 pos) fun ps s' ⟨δ3, H3, L3, K3, jv, q⟩ => ⟨δ3, H3, L3, (K1.trans K2).trans K3, fun p hp => ?_, q⟩
  rcases List.mem_cons.mp hp with rfl | hp
  · exact jb
  · exact jv p hp
noncomputable def madeOf (ps : List (V × V)) : List (V × V) := ps.foldl (fun acc kv => putV acc kv.1 kv.2) []
theorem merged_er (ps : List (Value × Value)) : ∀ acc : List (V × Value), (merged acc (ps.map fun p => (er p.1, p.2))).map erKV = (ps.map fun p => (er p.1, er p.2)).foldl (fun acc kv => putV acc kv.1 kv.2) (acc.map erKV) := by
  induction ps with
  | nil => intro acc; rfl
  | cons p ps ih =>
    intro acc
    simp only [List.map_cons, List.foldl_cons]
    rw [putV_er]
    have := ih (stored acc (er p.1) p.2)
    unfold merged at this ⊢
    simpa using this
theorem carries_of (ps : List (Value × Value)) (h : (ps.map fun p => (er p.1, er p.2)).all (fun kv => isKey kv.1) = true) : Carries (mix C.prog C.w) ps (ps.map fun p => (er p.1, p.2)) := by
  induction ps with
  | nil => trivial
  | cons p ps ih =>
    obtain ⟨a, b⟩ := p
    simp only [List.map_cons, List.all_cons, Bool.and_eq_true] at h
    exact ⟨mix_is rfl h.1, rfl, ih h.2⟩
theorem madeOf_NJ (ps : List (V × V)) (h : ∀ p ∈ ps, p.2 ≠ .junk) : NJ ((madeOf ps).map (·.2)) := by
  have key : ∀ (ps : List (V × V)) (acc : List (V × V)), (∀ p ∈ ps, p.2 ≠ .junk) → NJ (acc.map (·.2)) → NJ ((ps.foldl (fun acc kv => putV acc kv.1 kv.2) acc).map (·.2)) := by
    intro ps
    induction ps with
    | nil => intro acc _ h; exact h
    | cons p ps ih => intro acc h h2; exact ih _ (fun q hq => h q (List.mem_cons_of_mem _ hq)) (putV_NJ h2 (h p (by simp)))
  exact key ps [] h fun _ h => nomatch h
theorem WE_dict {ks : List (Option Expr)} {vs : List Expr} {pos} {Q : V → MH → Prop} (hall : ks.all (·.isSome) = true) (hl : ks.length = vs.length) (h0 : ks ≠ []) (hlen : ks.length ≤ 15)
    (h : WEd C S n ks vs ρ H fun ps H1 => ps.all (fun kv => isKey kv.1) = true ∧ ∀ c ep, H1 c = none → Q (.ref c) (H1.set c (.dict (madeOf ps) ep))) : WE C S n (.Dict ks vs pos) ρ H Q := by
  refine ⟨fun A env s δ rm eo F L => ?_⟩
  have k0 : ∀ b o, s.heap.get? b = some o → (s.heap.push { cls := .type "dict", data := .dict #[] }).get? b = some o := fun b o e => Heap.get?_push_of_some _ e
  have hn := size_none s.heap
  have no : ¬ Owned δ H s.heap.objs.size := fun q => by obtain ⟨ob, e⟩ := L.aliveOwned q; rw [hn] at e; cases e
  have F1 : FrOK C S env (s.heap.push { cls := .type "dict", data := .dict #[] }) ρ δ H := F.keeps (s' := { s with heap := s.heap.push { cls := .type "dict", data := .dict #[] } }) (Keeps.grow (π := noπ) (t := s.toks) k0)
  refine wpAny_Dict_walk (knd := mix C.prog C.w) hall hl h0 hlen (noE_any (h.run A env { s with heap := s.heap.push { cls := .type "dict", data := .dict #[] } } δ rm eo F1 (L.mono k0) pos) fun ps s1 pk => ?_)
  obtain ⟨δ1, H1, L1, K1, jv, ik, q⟩ := pk
  obtain ⟨oD, esD, hoD, hxD, hdD, rD⟩ := dictAt_new (C := C) s.heap
  have e1 : s1.heap.get? s.heap.objs.size = some oD := K1.old _ _ hoD no id
  have no1 := K1.notOwned hoD no
  have hB := L.noB hn
  have hH1 : H1 s.heap.objs.size = none := L1.notAt e1 (Odd.dict hdD) hB no1
  refine ⟨_, carries_of ps ik, ⟨oD, esD, 0, e1, hxD, hdD, rD⟩, fun h' hd sb => ?_⟩
  obtain ⟨o', es', ep', ho', r'⟩ := hd
  have L2 := L1.but e1 (Odd.dict hdD) hB no1 (butOf sb)
  have em : (merged [] (ps.map fun p => (er p.1, p.2))).map erKV = madeOf (ps.map fun p => (er p.1, er p.2)) := by rw [merged_er]; rfl
  have L3 : Lay C h' δ1 (H1.set s.heap.objs.size (.dict (madeOf (ps.map fun p => (er p.1, er p.2))) ep')) :=
    L2.add (mo := .dict (madeOf (ps.map fun p => (er p.1, er p.2))) ep') ⟨hB, _, ⟨o', es', ho', r'⟩, em, madeOf_NJ _ (fun p hp => by obtain ⟨u, hu, rfl⟩ := List.mem_map.mp hp; exact jv u hu)⟩ (fun _ _ e => by cases e) fun y hy z => no1 (.inr ⟨y, hy, z.symm⟩)
  refine ⟨δ1, _, L3, ?_, njk rfl, q _ ep' hH1⟩
  have nD : ∀ b o, s.heap.get? b = some o → b ≠ s.heap.objs.size := fun b o e z => by rw [z, hn] at e; cases e
  refine ⟨fun b o e nob np => butOf sb _ _ (nD b o e) (K1.old b o (k0 b o e) nob np), fun b z => ?_, fun b o e => ?_, K1.rest⟩
  · rcases owned_set (fun _ _ e => by cases e) z with z | z
    · rcases K1.sub b z with z | z
      · exact .inl z
      · right
        cases e : s.heap.get? b with
        | none => rfl
        | some o => rw [k0 b o e] at z; cases z
    · exact .inr (z ▸ hn)
  · obtain ⟨o', e'⟩ := K1.alive b o (k0 b o e)
    exact ⟨o', butOf sb _ _ (nD b o e) e'⟩
end
end N226
end
noncomputable section
open PySem PySem.W PySem.Calls PyProof.Rows
open Sem (wp)
set_option maxRecDepth 100000
namespace N226
section
variable {prog : Program} {w : World} {A : Around} {E : Value → Shared → Prop} {s : Shared}
theorem z_alive {a : Addr} {o : Obj} {Q : Option Obj → Shared → Prop} (ho : s.heap.get? a = some o) (h : Q (some o) s) : wpAny (model prog w) A (loadIfAlive a) Q E s := by
  have h' : Q (s.heap.get? a) s := by rw [ho]; exact h
  exact fun _ _ _ => h'
theorem z_next_tuple {it t : Addr} {i : Nat} {items} {x : Value} {Q : Value → Shared → Prop} (hit : s.heap.IsTupleIter it t i) (ht : s.heap.IsTuple t items) (hx : items[i]? = some x)
    (hQ : ∀ h', h'.IsTupleIter it t (i + 1) → Heap.SameBut it s.heap h' → Q x { s with heap := h' }) : wpAny (model prog w) A (Builtin.SmallTypes.nextOf (.ref it)) Q E s := by
  obtain ⟨o, ho, hc, hd⟩ := id hit
  obtain ⟨ol, hol, _, nl, hdl⟩ := ht
  unfold Builtin.SmallTypes.nextOf
  refine wpAny_bind (wpAny_callSpecial?_slot (name := Str.ofString "__next__") hit.typeIs PySem.F.slot_tuple_iterator_next
    (wpAny_call_entry PySem.F.slot_tuple_iterator_next hit.typeIs PySem.F.entry_tuple_iterator_next ?_ (PySem.F.args_tuple_iterator_next_1 _)))
  show wpAny _ _ (field (.ref it) 0 >>= _) _ _ s
  refine wpAny_bind (wpAny_field ho hd (x := .ref t) rfl ?_)
  show wpAny _ _ (if (Value.ref t == Value.none) = true then _ else _) _ _ s
  rw [if_neg (show ¬ ((Value.ref t == Value.none) = true) from Bool.false_ne_true)]
  show wpAny _ _ (field (.ref it) 1 >>= _) _ _ s
  refine wpAny_bind (wpAny_field ho hd (x := .int i 0) rfl ?_)
  show wpAny _ _ (seqItems? (.ref t) >>= _) _ _ s
  refine wpAny_bind (wpAny_seqItems hol hdl ?_)
  simp only [Int.toNat_natCast, hx]
  refine wpAny_bind (wpAny_setField ho hd (by simp) (wpAny_pure ⟨x, rfl, wpAny_pure (hQ _ ?_ (Heap.SameBut.update ..))⟩))
  exact ⟨_, Heap.get?_update_self _ ho (Obj.isFreed_of_fields (Obj.data_mapFields hd _)), (Obj.cls_mapFields ..).trans hc, by
    rw [Obj.data_mapFields hd]; simp [rawInt]⟩
theorem z_next_tuple_end {it t : Addr} {i : Nat} {items} {Q : Value → Shared → Prop} (hh : A.handled = none) (hit : s.heap.IsTupleIter it t i) (ht : s.heap.IsTuple t items) (hx : items[i]? = none)
    (hE : ∀ h' e, Heap.ExtBut it s.heap h' → (∃ o, h'.get? e = some o ∧ o.cls = .type "StopIteration") → E (.ref e) { s with heap := h' }) : wpAny (model prog w) A (Builtin.SmallTypes.nextOf (.ref it)) Q E s := by
  obtain ⟨o, ho, hc, hd⟩ := id hit
  obtain ⟨ol, hol, _, nl, hdl⟩ := ht
  unfold Builtin.SmallTypes.nextOf
  refine wpAny_bind (wpAny_callSpecial?_slot (name := Str.ofString "__next__") hit.typeIs PySem.F.slot_tuple_iterator_next
    (wpAny_call_entry PySem.F.slot_tuple_iterator_next hit.typeIs PySem.F.entry_tuple_iterator_next ?_ (PySem.F.args_tuple_iterator_next_1 _)))
  show wpAny _ _ (field (.ref it) 0 >>= _) _ _ s
  refine wpAny_bind (wpAny_field ho hd (x := .ref t) rfl ?_)
  show wpAny _ _ (if (Value.ref t == Value.none) = true then _ else _) _ _ s
  rw [if_neg (show ¬ ((Value.ref t == Value.none) = true) from Bool.false_ne_true)]
  show wpAny _ _ (field (.ref it) 1 >>= _) _ _ s
  refine wpAny_bind (wpAny_field ho hd (x := .int i 0) rfl ?_)
  show wpAny _ _ (seqItems? (.ref t) >>= _) _ _ s
  refine wpAny_bind (wpAny_seqItems hol hdl ?_)
  simp only [Int.toNat_natCast, hx]
  refine wpAny_bind (wpAny_rule (wpAny_bind (wpAny_setField ho hd (by simp) ?_)))
  show wpAny _ _ (newExc (.type "StopIteration") [] >>= _) _ _ _
  refine wpAny_bind ?_
  simp only [newExc, newTuple]
  refine wpAny_bind (wpAny_newObj_type ?_ (by size_fits))
  refine wpAny_bind (m := firstArgMember _ _) (wpAny_of_eq (a := Value.none) (by first | rfl | (simp only [firstArgMember]; rfl)) ?_)
  refine wpAny_newObj_type ?_ (by size_fits)
  simp only [raiseNew]
  refine wpAny_bind (wpAny_handled ?_)
  first | rw [show A.in1.handled = none from hh] | rw [hh]
  refine wpAny_bind (wpAny_pure (wpAny_throw ?_))
  exact hE _ _ (((Heap.SameBut.update ..).extBut.push _).push _) ⟨_, Heap.get?_push_size _ rfl, rfl⟩
theorem zn {a b : Nat} (h : a ≠ b) : @Ne Addr a b := h
noncomputable abbrev zipO (f0 : Value) (f : Bool) (b : Nat) : Obj := { cls := .type "zip", dict := none, data := .fields #[f0, .bool f, .bool false, .ref (b + 2), .ref (b + 3)], slots := #[] }
structure ZS (h : Heap) (b l1 l2 : Nat) (xs ys : Array Value) (i : Nat) : Prop where
  zip : (i = 0 ∧ h.get? (b + 4) = some (zipO .none false b) ∧ ∃ u v, IsPair h (b + 3) u v) ∨ (0 < i ∧ ∃ (T : Nat) (f : Bool) (oT : Obj), h.get? (b + 4) = some (zipO (rawInt (T : Nat)) f b) ∧ h.get? T = some oT ∧ b + 5 < T)
  TI : IsPair h (b + 2) (.ref b) (.ref (b + 1))
  i1 : h.IsTupleIter b l1 i
  i2 : h.IsListIter (b + 1) l2 i
  t1 : h.IsTuple l1 xs
  t2 : h.IsList l2 ys
theorem z_first {b l1 l2 : Nat} {xs ys : Array Value} {x y : Value} {Q : Value → Shared → Prop} (hS : ZS s.heap b l1 l2 xs ys 0) (n1 : l1 < b) (n2 : l2 < b) (hx : xs[0]? = some x) (hy : ys[0]? = some y)
    (hQ : ∀ h', ZS h' b l1 l2 xs ys 1 → IsPair h' s.heap.objs.size x y → h'.objs.size = s.heap.objs.size + 1 → (∀ (c : Nat) o, c < b ∨ b + 4 < c → s.heap.get? c = some o → h'.get? c = some o) → Q (.ref s.heap.objs.size) { s with heap := h' }) (hsz : b + 5 < s.heap.objs.size) :
    wpAny (model prog w) A (Builtin.«zip.__next__» ⟨[.ref (b + 4)], []⟩) (fun fin s' => ∃ v, fin = .done (.ret v) ∧ Q v s') E s := by
  obtain ⟨hz, u, v, hTO⟩ : s.heap.get? (b + 4) = some (zipO .none false b) ∧ ∃ u v, IsPair s.heap (b + 3) u v := by
    rcases hS.zip with ⟨_, h1, h2⟩ | ⟨h, _⟩
    · exact ⟨h1, h2⟩
    · walk_at "O"
  have hTI := hS.TI
  have h1 := hS.i1
  have h2 := hS.i2
  have hl1 := hS.t1
  have hl2 := hS.t2
  show wpAny _ _ (field (.ref (b + 4)) 2 >>= _) _ _ _
  refine wpAny_bind (wpAny_field hz rfl (x := .bool false) rfl ?_)
  show wpAny _ _ (field (.ref (b + 4)) 3 >>= _) _ _ _
  refine wpAny_bind (wpAny_field hz rfl (x := .ref (b + 2)) rfl ?_)
  refine wpAny_bind (wpAny_seqItems hTI rfl ?_)
  show wpAny _ _ (Builtin.SmallTypes.ownedTupleIsFree (.ref (b + 4)) >>= _) _ _ _
  refine wpAny_bind ?_
  unfold Builtin.SmallTypes.ownedTupleIsFree
  refine wpAny_bind (wpAny_field hz rfl (x := .none) rfl (wpAny_pure ?_))
  simp only [if_true]
  refine wpAny_bind (wpAny_rule ?_)
  refine wpAny_bind (wpAny_field hz rfl (x := .ref (b + 3)) rfl ?_)
  refine wpAny_bind (wpAny_setField_rec hz (by simp) fun h₁ hz₁ hs₁ => ?_)
  replace hz₁ : h₁.get? (b + 4) = some (zipO .ellipsis false b) := hz₁
  refine wpAny_bind ?_
  simp only [List.zipIdx_cons, List.zipIdx_nil, List.forIn_cons, List.forIn_nil]
  refine wpAny_bind (wpAny_bind (wpAny_onRaise ?_))
  show wpAny _ _ (Builtin.SmallTypes.nextOf (.ref b) >>= _) _ _ _
  refine wpAny_bind (z_next_tuple (h1.extBut hs₁.extBut (zn (by walk_at "O"))) (hl1.extBut hs₁.extBut (zn (by walk_at "O"))) hx fun h₂ h1₂ hs₂ => wpAny_pure ?_)
  have hTO₂ : IsPair h₂ (b + 3) u v := hs₂.extBut _ _ (zn (by walk_at "O")) (hs₁.extBut _ _ (zn (by walk_at "O")) hTO)
  refine wpAny_bind (wpAny_seqItems hTO₂ rfl ?_)
  refine wpAny_bind (wpAny_updateSeq_pair hTO₂ fun h₃ hTO₃ hs₃ => ?_)
  replace hTO₃ : IsPair h₃ (b + 3) x v := hTO₃
  refine wpAny_bind (wpAny_letGo (wpAny_pure ?_))
  refine wpAny_bind (wpAny_bind (wpAny_onRaise ?_))
  show wpAny _ _ (Builtin.SmallTypes.nextOf (.ref (b + 1)) >>= _) _ _ _
  refine wpAny_bind (wpAny_nextOf_list_item (((h2.extBut hs₁.extBut (zn (by walk_at "O"))).extBut hs₂.extBut (zn (by walk_at "O"))).extBut hs₃.extBut (zn (by walk_at "O")))
    (((hl2.extBut hs₁.extBut (zn (by walk_at "O"))).extBut hs₂.extBut (zn (by walk_at "O"))).extBut hs₃.extBut (zn (by walk_at "O"))) hy fun h₄ h2₄ hs₄ => wpAny_pure ?_)
  have hTO₄ : IsPair h₄ (b + 3) x v := hs₄.extBut _ _ (zn (by walk_at "O")) hTO₃
  refine wpAny_bind (wpAny_seqItems hTO₄ rfl ?_)
  refine wpAny_bind (wpAny_updateSeq_pair hTO₄ fun h₅ hTO₅ hs₅ => ?_)
  replace hTO₅ : IsPair h₅ (b + 3) x y := hTO₅
  refine wpAny_bind (wpAny_letGo (wpAny_pure (wpAny_pure ?_)))
  refine wpAny_bind (wpAny_seqItems hTO₅ rfl ?_)
  refine wpAny_bind (wpAny_newTuple ?_)
  have hsz5 : h₅.objs.size = s.heap.objs.size := by rw [hs₅.1, hs₄.1, hs₃.1, hs₂.1, hs₁.1]
  have hz₅ : h₅.get? (b + 4) = some (zipO .ellipsis false b) := hs₅.extBut _ _ (zn (by walk_at "O")) (hs₄.extBut _ _ (zn (by walk_at "O")) (hs₃.extBut _ _ (zn (by walk_at "O")) (hs₂.extBut _ _ (zn (by walk_at "O")) hz₁)))
  have hk₅ : ∀ (c : Nat) o, c ≠ b + 4 → c ≠ b + 3 → c ≠ b → c ≠ b + 1 → s.heap.get? c = some o → h₅.get? c = some o := fun c o c1 c2 c3 c4 e =>
    hs₅.extBut _ _ c2 (hs₄.extBut _ _ c4 (hs₃.extBut _ _ c2 (hs₂.extBut _ _ c3 (hs₁.extBut _ _ c1 e))))
  have h1₅ : h₅.IsTupleIter b l1 1 := ((h1₂.extBut hs₃.extBut (zn (by walk_at "O"))).extBut hs₄.extBut (zn (by walk_at "O"))).extBut hs₅.extBut (zn (by walk_at "O"))
  have h2₅ : h₅.IsListIter (b + 1) l2 1 := h2₄.extBut hs₅.extBut (zn (by walk_at "O"))
  show wpAny _ _ (Builtin.SmallTypes.ownedTupleHandOut (.ref (b + 4)) (.ref h₅.objs.size) >>= _) _ _ _
  refine wpAny_bind ?_
  unfold Builtin.SmallTypes.ownedTupleHandOut
  have hz₆ : (h₅.push { cls := .type "tuple", data := .seq #[x, y] }).get? (b + 4) = some (zipO .ellipsis false b) := Heap.get?_push_of_some _ hz₅
  refine wpAny_bind (wpAny_setField_rec hz₆ (by simp) fun h₇ hz₇ hs₇ => ?_)
  replace hz₇ : h₇.get? (b + 4) = some (zipO (rawInt h₅.objs.size) false b) := hz₇
  refine wpAny_setField_rec hz₇ (by simp) fun h₈ hz₈ hs₈ => ?_
  replace hz₈ : h₈.get? (b + 4) = some (zipO (rawInt h₅.objs.size) false b) := hz₈
  have up : ∀ (c : Nat) o, c ≠ b + 4 → h₅.get? c = some o → h₈.get? c = some o := fun c o c1 e => hs₈.extBut _ _ c1 (hs₇.extBut _ _ c1 (Heap.get?_push_of_some _ e))
  have hT₈ : IsPair h₈ h₅.objs.size x y := hs₈.extBut _ _ (zn (by walk_at "O")) (hs₇.extBut _ _ (zn (by walk_at "O")) (Heap.get?_push_size _ rfl))
  have hz8 : h₈.objs.size = h₅.objs.size + 1 := by rw [hs₈.1, hs₇.1, Heap.size_push]
  rw [hsz5] at hz₈ hT₈ hz8
  refine wpAny_pure ⟨_, rfl, ?_⟩
  show Q (.ref h₅.objs.size) _
  rw [hsz5]
  refine hQ h₈ ⟨.inr ⟨Nat.lt_succ_self 0, _, _, _, hz₈, hT₈, hsz⟩, up _ _ (zn (by walk_at "O")) (hk₅ _ _ (zn (by walk_at "O")) (zn (by walk_at "O")) (zn (by walk_at "O")) (zn (by walk_at "O")) hTI), h1₅.at fun o e => up _ o (zn (by walk_at "O")) e, h2₅.at fun o e => up _ o (zn (by walk_at "O")) e,
    hl1.at fun o e => up _ o (zn (by walk_at "O")) (hk₅ _ _ (zn (by walk_at "O")) (zn (by walk_at "O")) (zn (by walk_at "O")) (zn (by walk_at "O")) e), hl2.at fun o e => up _ o (zn (by walk_at "O")) (hk₅ _ _ (zn (by walk_at "O")) (zn (by walk_at "O")) (zn (by walk_at "O")) (zn (by walk_at "O")) e)⟩ hT₈ hz8 fun c o hc e => up c o (zn (by walk_at "O")) (hk₅ c o (zn (by walk_at "O")) (zn (by walk_at "O")) (zn (by walk_at "O")) (zn (by walk_at "O")) e)
end
end N226
end
noncomputable section
open PySem PySem.W PySem.Calls PyProof.Rows
open Sem (wp)
set_option maxRecDepth 100000
namespace N226
section
variable {prog : Program} {w : World} {A : Around} {E : Value → Shared → Prop} {s : Shared}
theorem z_out {b T : Nat} {f : Bool} {oT : Obj} {Q : Bool → Shared → Prop} (hz : s.heap.get? (b + 4) = some (zipO (rawInt T) f b)) (hT : s.heap.get? T = some oT)
    (hQ : ∀ h', h'.get? (b + 4) = some (zipO (rawInt T) true b) → Heap.SameBut (b + 4) s.heap h' → Q false { s with heap := h' }) : wpAny (model prog w) A (Builtin.SmallTypes.ownedTupleIsFree (.ref (b + 4))) Q E s := by
  unfold Builtin.SmallTypes.ownedTupleIsFree
  refine wpAny_bind (wpAny_field hz rfl (x := rawInt T) rfl ?_)
  show wpAny _ _ (loadIfAlive ((T : Int).toNat) >>= _) _ _ _
  rw [Int.toNat_natCast]
  refine wpAny_bind (z_alive hT ?_)
  simp only [Option.isNone_some, Bool.false_eq_true, if_false]
  refine wpAny_bind (wpAny_field hz rfl (x := .bool f) rfl ?_)
  cases f with
  | true =>
    rw [if_neg (show ¬ ((Value.bool true != Value.bool true) = true) from Bool.false_ne_true)]
    exact wpAny_pure (hQ _ hz (Heap.SameBut.refl _ _))
  | false =>
    rw [if_pos (show (Value.bool false != Value.bool true) = true from rfl)]
    refine wpAny_bind (wpAny_setField_rec hz (by simp) fun h₃ he₃ hs₃ => wpAny_pure ?_)
    exact hQ _ he₃ hs₃
theorem z_later {b l1 l2 i : Nat} {xs ys : Array Value} {x y : Value} {Q : Value → Shared → Prop} (hS : ZS s.heap b l1 l2 xs ys i) (hi : 0 < i) (n1 : l1 < b) (n2 : l2 < b) (hx : xs[i]? = some x) (hy : ys[i]? = some y)
    (hQ : ∀ h', ZS h' b l1 l2 xs ys (i + 1) → IsPair h' s.heap.objs.size x y → h'.objs.size = s.heap.objs.size + 1 → (∀ (c : Nat) o, c < b ∨ b + 4 < c → s.heap.get? c = some o → h'.get? c = some o) → Q (.ref s.heap.objs.size) { s with heap := h' }) (hsz : b + 5 < s.heap.objs.size) :
    wpAny (model prog w) A (Builtin.«zip.__next__» ⟨[.ref (b + 4)], []⟩) (fun fin s' => ∃ v, fin = .done (.ret v) ∧ Q v s') E s := by
  obtain ⟨T, f, oT, hz, hT, hTb⟩ : ∃ (T : Nat) (f : Bool) (oT : Obj), s.heap.get? (b + 4) = some (zipO (rawInt T) f b) ∧ s.heap.get? T = some oT ∧ b + 5 < T := by
    rcases hS.zip with ⟨h, _⟩ | ⟨_, h⟩
    · walk_at "O"
    · exact h
  have hTI := hS.TI
  have h1 := hS.i1
  have h2 := hS.i2
  have hl1 := hS.t1
  have hl2 := hS.t2
  show wpAny _ _ (field (.ref (b + 4)) 2 >>= _) _ _ _
  refine wpAny_bind (wpAny_field hz rfl (x := .bool false) rfl ?_)
  show wpAny _ _ (field (.ref (b + 4)) 3 >>= _) _ _ _
  refine wpAny_bind (wpAny_field hz rfl (x := .ref (b + 2)) rfl ?_)
  refine wpAny_bind (wpAny_seqItems hTI rfl ?_)
  show wpAny _ _ (Builtin.SmallTypes.ownedTupleIsFree (.ref (b + 4)) >>= _) _ _ _
  refine wpAny_bind (z_out hz hT fun h₁ hz₁ hs₁ => ?_)
  replace hs₁ : Heap.SameBut (b + 4) s.heap h₁ := hs₁
  simp only [Bool.false_eq_true, if_false]
  refine wpAny_bind ?_
  simp only [← Array.forIn_toList, List.forIn_cons, List.forIn_nil]
  refine wpAny_bind (wpAny_bind (wpAny_holding ?_))
  show wpAny _ _ (Builtin.SmallTypes.nextOf (.ref b) >>= _) _ _ _
  refine wpAny_bind (z_next_tuple (h1.extBut hs₁.extBut (zn (by walk_at "O"))) (hl1.extBut hs₁.extBut (zn (by walk_at "O"))) hx fun h₂ h1₂ hs₂ => wpAny_pure ?_)
  refine wpAny_pure ?_
  refine wpAny_bind (wpAny_bind (wpAny_holding ?_))
  show wpAny _ _ (Builtin.SmallTypes.nextOf (.ref (b + 1)) >>= _) _ _ _
  refine wpAny_bind (wpAny_nextOf_list_item ((h2.extBut hs₁.extBut (zn (by walk_at "O"))).extBut hs₂.extBut (zn (by walk_at "O")))
    ((hl2.extBut hs₁.extBut (zn (by walk_at "O"))).extBut hs₂.extBut (zn (by walk_at "O"))) hy fun h₃ h2₃ hs₃ => wpAny_pure ?_)
  refine wpAny_pure (wpAny_pure ?_)
  refine wpAny_bind (wpAny_newTuple (hsz := by show (2 : Nat) ≤ sizeLine; decide) ?_)
  have hsz3 : h₃.objs.size = s.heap.objs.size := by rw [hs₃.1, hs₂.1, hs₁.1]
  have hz₃ : h₃.get? (b + 4) = some (zipO (rawInt T) true b) := hs₃.extBut _ _ (zn (by walk_at "O")) (hs₂.extBut _ _ (zn (by walk_at "O")) hz₁)
  have hk₃ : ∀ (c : Nat) o, c ≠ b + 4 → c ≠ b → c ≠ b + 1 → s.heap.get? c = some o → h₃.get? c = some o := fun c o c1 c3 c4 e =>
    hs₃.extBut _ _ c4 (hs₂.extBut _ _ c3 (hs₁.extBut _ _ c1 e))
  refine wpAny_pure ⟨_, rfl, ?_⟩
  show Q (.ref h₃.objs.size) _
  have up : ∀ (c : Nat) o, h₃.get? c = some o → (h₃.push { cls := .type "tuple", data := .seq #[x, y] }).get? c = some o := fun c o e => Heap.get?_push_of_some _ e
  have hp : IsPair (h₃.push { cls := .type "tuple", data := .seq #[x, y] }) h₃.objs.size x y := Heap.get?_push_size _ rfl
  have hzp : (h₃.push { cls := .type "tuple", data := .seq #[x, y] }).objs.size = h₃.objs.size + 1 := Heap.size_push ..
  have h1₃ : h₃.IsTupleIter b l1 (i + 1) := h1₂.extBut hs₃.extBut (zn (by walk_at "O"))
  rw [hsz3] at hp hzp ⊢
  refine hQ _ ⟨.inr ⟨Nat.succ_pos _, T, true, oT, up _ _ hz₃, up _ _ (hk₃ _ _ (by walk_at "O") (by walk_at "O") (by walk_at "O") hT), hTb⟩, up _ _ (hk₃ _ _ (by walk_at "O") (by walk_at "O") (by walk_at "O") hTI), h1₃.at fun o e => up _ o e, h2₃.at fun o e => up _ o e,
    hl1.at fun o e => up _ o (hk₃ _ _ (by walk_at "O") (by walk_at "O") (by walk_at "O") e), hl2.at fun o e => up _ o (hk₃ _ _ (by walk_at "O") (by walk_at "O") (by walk_at "O") e)⟩ hp hzp fun c o hc e => up c o (hk₃ c o (by walk_at "O") (by walk_at "O") (by walk_at "O") e)
theorem z_end {b l1 l2 i : Nat} {xs ys : Array Value} {Q : Fin → Shared → Prop} (hh : A.handled = none) (hS : ZS s.heap b l1 l2 xs ys i) (hi : 0 < i) (n1 : l1 < b) (n2 : l2 < b) (hx : xs[i]? = none)
    (hE : ∀ h' e, (∀ (c : Nat) o, c < b ∨ b + 4 < c → s.heap.get? c = some o → h'.get? c = some o) → (∃ o, h'.get? e = some o ∧ o.cls = .type "StopIteration") → E (.ref e) { s with heap := h' }) :
    wpAny (model prog w) A (Builtin.«zip.__next__» ⟨[.ref (b + 4)], []⟩) Q E s := by
  obtain ⟨T, f, oT, hz, hT, hTb⟩ : ∃ (T : Nat) (f : Bool) (oT : Obj), s.heap.get? (b + 4) = some (zipO (rawInt T) f b) ∧ s.heap.get? T = some oT ∧ b + 5 < T := by
    rcases hS.zip with ⟨h, _⟩ | ⟨_, h⟩
    · walk_at "O"
    · exact h
  have hTI := hS.TI
  have h1 := hS.i1
  have hl1 := hS.t1
  show wpAny _ _ (field (.ref (b + 4)) 2 >>= _) _ _ _
  refine wpAny_bind (wpAny_field hz rfl (x := .bool false) rfl ?_)
  show wpAny _ _ (field (.ref (b + 4)) 3 >>= _) _ _ _
  refine wpAny_bind (wpAny_field hz rfl (x := .ref (b + 2)) rfl ?_)
  refine wpAny_bind (wpAny_seqItems hTI rfl ?_)
  show wpAny _ _ (Builtin.SmallTypes.ownedTupleIsFree (.ref (b + 4)) >>= _) _ _ _
  refine wpAny_bind (z_out hz hT fun h₁ hz₁ hs₁ => ?_)
  replace hs₁ : Heap.SameBut (b + 4) s.heap h₁ := hs₁
  simp only [Bool.false_eq_true, if_false]
  refine wpAny_bind ?_
  simp only [← Array.forIn_toList, List.forIn_cons, List.forIn_nil]
  refine wpAny_bind (wpAny_bind (wpAny_holding ?_))
  show wpAny _ _ (Builtin.SmallTypes.nextOf (.ref b) >>= _) _ _ _
  refine wpAny_bind (z_next_tuple_end hh (h1.extBut hs₁.extBut (zn (by walk_at "O"))) (hl1.extBut hs₁.extBut (zn (by walk_at "O"))) hx fun h₂ e hs₂ he => ?_)
  exact hE h₂ e (fun c o hc x => hs₂ _ _ (zn (by walk_at "O")) (hs₁.extBut _ _ (zn (by walk_at "O")) x)) he
theorem z_item {b l1 l2 i : Nat} {xs ys : Array Value} {x y : Value} {Q : Option Value → Shared → Prop} (hS : ZS s.heap b l1 l2 xs ys i) (n1 : l1 < b) (n2 : l2 < b) (hx : xs[i]? = some x) (hy : ys[i]? = some y)
    (hQ : ∀ h', ZS h' b l1 l2 xs ys (i + 1) → IsPair h' s.heap.objs.size x y → h'.objs.size = s.heap.objs.size + 1 → (∀ (c : Nat) o, c < b ∨ b + 4 < c → s.heap.get? c = some o → h'.get? c = some o) → Q (some (.ref s.heap.objs.size)) { s with heap := h' }) (hsz : b + 5 < s.heap.objs.size) :
    wpAny (model prog w) A (pyNext (.ref (b + 4))) Q E s := by
  have hT : s.TypeIs (.ref (b + 4)) "zip" := by
    rcases hS.zip with ⟨_, h, _⟩ | ⟨_, _, _, _, h, _⟩ <;> exact ⟨_, h, rfl⟩
  unfold pyNext
  refine wpAny_bind (wpAny_attempt (wpAny_callSpecial?_slot (name := Str.ofString "__next__") hT PySem.F.slot_zip_next
    (wpAny_call_entry PySem.F.slot_zip_next hT PySem.F.entry_zip_next ?_ (PySem.F.args_zip_next_1 _))))
  rcases Nat.eq_zero_or_pos i with rfl | hi
  · exact z_first hS n1 n2 hx hy (fun h' a1 a2 a3 a4 => wpAny_pure (hQ h' a1 a2 a3 a4)) hsz
  · exact z_later hS hi n1 n2 hx hy (fun h' a1 a2 a3 a4 => wpAny_pure (hQ h' a1 a2 a3 a4)) hsz
theorem z_done {b l1 l2 i : Nat} {xs ys : Array Value} {Q : Option Value → Shared → Prop} (hh : A.handled = none) (hS : ZS s.heap b l1 l2 xs ys i) (hi : 0 < i) (n1 : l1 < b) (n2 : l2 < b) (hx : xs[i]? = none)
    (hQ : ∀ h', (∀ (c : Nat) o, c < b ∨ b + 4 < c → s.heap.get? c = some o → h'.get? c = some o) → Q none { s with heap := h' }) : wpAny (model prog w) A (pyNext (.ref (b + 4))) Q E s := by
  have hT : s.TypeIs (.ref (b + 4)) "zip" := by
    rcases hS.zip with ⟨_, h, _⟩ | ⟨_, _, _, _, h, _⟩ <;> exact ⟨_, h, rfl⟩
  unfold pyNext
  refine wpAny_bind (wpAny_attempt (wpAny_callSpecial?_slot (name := Str.ofString "__next__") hT PySem.F.slot_zip_next
    (wpAny_call_entry PySem.F.slot_zip_next hT PySem.F.entry_zip_next (z_end hh hS hi n1 n2 hx fun h' e hk he => ?_) (PySem.F.args_zip_next_1 _))))
  obtain ⟨o, ho, hc⟩ := he
  refine wpAny_bind (wpAny_isInstance (T := "StopIteration") (b := true) ⟨o, ho, hc⟩ isSubtype_stop ?_)
  exact wpAny_pure (hQ _ hk)
end
section
variable {prog : Program} {w : World} {A : Around} {s : Shared} {R : Result → Shared → Prop}
noncomputable def ZOut (h : Heap) (b : Nat) (xs ys : Array Value) (acc : Array Value) : Prop := ∀ (j : Nat) v, acc[j]? = some v → ∃ (T : Nat) (x y : Value), v = .ref T ∧ b + 5 < T ∧ xs[j]? = some x ∧ ys[j]? = some y ∧ IsPair h T x y
theorem ZOut.keep {h h' : Heap} {b : Nat} {xs ys acc : Array Value} (z : ZOut h b xs ys acc) (k : ∀ (c : Nat) o, b + 5 < c → h.get? c = some o → h'.get? c = some o) : ZOut h' b xs ys acc := fun j v e => by
  obtain ⟨T, x, y, rfl, lo, e1, e2, e3⟩ := z j v e
  exact ⟨T, x, y, rfl, lo, e1, e2, k _ _ lo e3⟩
theorem z_loop {b l1 l2 : Nat} {xs ys : Array Value} (hh : A.handled = none) (n1 : l1 < b) (n2 : l2 < b) (hxy : xs.size = ys.size) (hn : xs.size ≤ sizeLine) (h0 : 0 < xs.size) (res : Value) {h₁ : Heap}
    (hR : ∀ h' tk acc c, (∀ (a : Nat) o, a < b → h₁.get? a = some o → h'.get? a = some o) → h'.get? (b + 5) = some { cls := .type "list", dict := none, data := .seq acc c, slots := #[] } → acc.size = xs.size → ZOut h' b xs ys acc → R (.ok (.ret res)) { s with heap := h', toks := tk }) :
    ∀ (k i : Nat) (h : Heap) (tk c : Nat) (acc : Array Value), xs.size - i = k → i ≤ xs.size → ZS h b l1 l2 xs ys i → (∀ (a : Nat) o, a < b → h₁.get? a = some o → h.get? a = some o) →
      h.get? (b + 5) = some { cls := .type "list", dict := none, data := .seq acc c, slots := #[] } → acc.size = i → ZOut h b xs ys acc →
      codeAny (model prog w) A (.builtin "list.extend.loop" ⟨[.ref (b + 5), .ref (b + 4), res], []⟩) R { s with heap := h, toks := tk } := by
  intro k
  induction k with
  | zero =>
    intro i h tk c acc hk hi hst hkeep hS hacc hG
    have hin : i = xs.size := by walk_at "O"
    refine codeAny_builtin PySem.F.entry_extend_loop ?_
    rw [Around.under_plainId PySem.F.plain_extend_loop _]
    show wpAny _ A.in1 (pyNext (.ref (b + 4)) >>= _) _ _ _
    refine wpAny_bind (z_done (s := { s with heap := h, toks := tk }) (A := A.in1) hh hst (by walk_at "O") n1 n2 (Array.getElem?_eq_none (by walk_at "O")) fun h' he => ?_)
    refine wpAny_pure (hR h' tk acc c (fun a o h1 e => he a o (.inl h1) (hkeep a o h1 e)) (he _ _ (.inr (Nat.lt_succ_self _)) hS) (by walk_at "O") (hG.keep fun a o ha e => he a o (.inr (by walk_at "O")) e))
  | succ k ih =>
    intro i h tk c acc hk hi hst hkeep hS hacc hG
    have hlt : i < xs.size := by walk_at "O"
    have hlt2 : i < ys.size := by walk_at "O"
    refine codeAny_builtin PySem.F.entry_extend_loop ?_
    rw [Around.under_plainId PySem.F.plain_extend_loop _]
    show wpAny _ A.in1 (pyNext (.ref (b + 4)) >>= _) _ _ _
    have hb5 : b + 5 < h.objs.size := Heap.lt_size hS
    refine wpAny_bind (z_item (s := { s with heap := h, toks := tk }) (A := A.in1) hst n1 n2 (Array.getElem?_eq_getElem hlt) (Array.getElem?_eq_getElem hlt2) (fun h' hst' hp hz hkp => ?_) hb5)
    replace hp : IsPair h' h.objs.size xs[i] ys[i] := hp
    replace hkp : ∀ (c : Nat) o, c < b ∨ b + 4 < c → h.get? c = some o → h'.get? c = some o := hkp
    have hS' := hkp (b + 5) _ (.inr (Nat.lt_succ_self _)) hS
    show wpAny _ A.in1 (updateSeq (b + 5) (·.push (.ref h.objs.size)) >>= _) _ _ _
    refine wpAny_bind ?_
    have up : ∀ (a : Nat) o, a ≠ b + 5 → h'.get? a = some o → (h'.update (b + 5) (Obj.mapSeq (·.push (.ref h.objs.size)))).get? a = some o := fun a o ha e => (Heap.get?_update_other _ _ (Ne.symm ha)).trans e
    refine wpAny_updateSeq hS' rfl (wpAny_pure ⟨plainId_quiet PySem.F.plain_extend_loop _, ih (i + 1) _ tk _ (acc.push (.ref h.objs.size)) (by walk_at "O") hlt ?_ (fun a o ha e => up _ _ (by walk_at "O") (hkp _ _ (.inl ha) (hkeep _ _ ha e))) (Heap.get?_update_self _ hS' rfl) (by rw [Array.size_push, hacc]) ?_⟩)
      (by rw [hacc]; walk_at "O") (by show (acc.push _).size ≤ sizeLine + 1; rw [Array.size_push, hacc]; walk_at "O")
    · obtain ⟨z, a1, a2, a3, a4, a5⟩ := hst'
      refine ⟨?_, up _ _ (by walk_at "O") a1, a2.at fun o e => up _ o (by walk_at "O") e, a3.at fun o e => up _ o (by walk_at "O") e, a4.at fun o e => up _ o (by walk_at "O") e, a5.at fun o e => up _ o (by walk_at "O") e⟩
      rcases z with ⟨z, _⟩ | ⟨z, T, f, oT, z1, z2, z3⟩
      · walk_at "O"
      · exact .inr ⟨z, T, f, oT, up _ _ (by walk_at "O") z1, up _ _ (by walk_at "O") z2, z3⟩
    · intro j v e
      rw [Array.getElem?_push] at e
      split at e
      · rename_i ej
        cases e
        refine ⟨h.objs.size, xs[i], ys[i], rfl, hb5, ?_, ?_, up _ _ (by walk_at "O") hp⟩
        · rw [ej, hacc]; exact Array.getElem?_eq_getElem hlt
        · rw [ej, hacc]; exact Array.getElem?_eq_getElem hlt2
      · obtain ⟨T, x, y, rfl, lo, e1, e2, e3⟩ := hG j v e
        exact ⟨T, x, y, rfl, lo, e1, e2, up _ _ (by walk_at "O") (hkp _ _ (.inr (by walk_at "O")) e3)⟩
end
end N226
end
noncomputable section
open PySem PySem.W PySem.Calls PyProof.Rows
open Sem (wp)
set_option maxRecDepth 100000
namespace N226
theorem z_no_len : typeLookup (.type "zip") "__len__" = pure none := by rw [typeLookup_type, builtinLookup_eq_fast]; kernel_rfl
theorem z_no_hint : typeLookup (.type "zip") "__length_hint__" = pure none := by rw [typeLookup_type, builtinLookup_eq_fast]; kernel_rfl
theorem ZS.type {s : Shared} {b l1 l2 i : Nat} {xs ys : Array Value} (hS : ZS s.heap b l1 l2 xs ys i) : s.TypeIs (.ref (b + 4)) "zip" := by
  rcases hS.zip with ⟨_, h, _⟩ | ⟨_, _, _, _, h, _⟩ <;> exact ⟨_, h, rfl⟩
theorem ZS.start {h h' : Heap} {b l1 l2 : Nat} {xs ys : Array Value} (hS : ZS h b l1 l2 xs ys 0) (up : ∀ (c : Nat) o, c < b + 5 → h.get? c = some o → h'.get? c = some o) (n1 : l1 < b) (n2 : l2 < b) : ZS h' b l1 l2 xs ys 0 := by
  obtain ⟨z, a1, a2, a3, a4, a5⟩ := hS
  refine ⟨?_, up _ _ (by walk_at "O") a1, a2.at fun o e => up _ o (by walk_at "O") e, a3.at fun o e => up _ o (by walk_at "O") e, a4.at fun o e => up _ o (by walk_at "O") e, a5.at fun o e => up _ o (by walk_at "O") e⟩
  rcases z with ⟨z, z1, u, v, z2⟩ | ⟨z, _⟩
  · exact .inl ⟨z, up _ _ (by walk_at "O") z1, u, v, up _ _ (by walk_at "O") z2⟩
  · walk_at "O"
section
variable {prog : Program} {w : World} {A : Around} {s : Shared} {R : Result → Shared → Prop}
theorem z_extend {b l1 l2 : Nat} {xs ys : Array Value} (hh : A.handled = none) (n1 : l1 < b) (n2 : l2 < b) (hxy : xs.size = ys.size) (hn : xs.size ≤ sizeLine) (h0 : 0 < xs.size) (res : Value) (c₀ : Nat) (hst : ZS s.heap b l1 l2 xs ys 0)
    (hS : s.heap.get? (b + 5) = some { cls := .type "list", data := .seq #[] c₀ })
    (hR : ∀ h' tk acc c, (∀ (a : Nat) o, a < b → s.heap.get? a = some o → h'.get? a = some o) → h'.get? (b + 5) = some { cls := .type "list", dict := none, data := .seq acc c, slots := #[] } → acc.size = xs.size → ZOut h' b xs ys acc → R (.ok (.ret res)) { s with heap := h', toks := tk }) :
    wpAny (model prog w) A.in1 (Builtin.List.listExtendWith (.ref (b + 5)) (.ref (b + 4)) res)
      (fun fin s' => match fin with | .done f => R (.ok f) s' | .again c' => c'.quiet = true ∧ codeAny (model prog w) A c' R s') (fun e s' => R (.error e) s') s := by
  have hSI : (b + 5 : Addr) ≠ b + 4 := zn (by walk_at "O")
  have hT := hst.type
  unfold Builtin.List.listExtendWith
  refine wpAny_bind (wpAny_typeOf hT ?_)
  have h1 : Builtin.List.listSameRef (.ref (b + 5)) (.ref (b + 4)) = false := by simp [Builtin.List.listSameRef]
  have h2 : (Value.type "zip" == Value.type "list") = false := by decide
  have h3 : (Value.type "zip" == Value.type "tuple") = false := by decide
  simp only [h1, h2, h3, Bool.or_false, Bool.false_eq_true, if_false]
  have hself : ∀ (Q : Value → Shared → Prop) (E : Value → Shared → Prop), Q (.ref (b + 4)) s → wpAny (model prog w) A.in1 (pyIter (.ref (b + 4))) Q E s := fun Q E hq => by
    rcases hst.zip with ⟨_, h, _⟩ | ⟨h, _⟩
    · refine wpAny_pyIter_slot hT PySem.F.slot_zip_iter (wpAny_call_entry PySem.F.slot_zip_iter hT PySem.F.entry_zip_iter ?_ (PySem.F.args_zip_iter_1 _))
      show wpAny _ _ (ret (.ref (b + 4))) _ _ s
      exact wpAny_pure ⟨_, rfl, "zip", _, hT, PySem.F.slot_zip_next.lookup, hq⟩
    · walk_at "O"
  refine wpAny_bind (hself _ _ ?_)
  refine wpAny_bind (wpAny_holding ?_)
  unfold Builtin.List.listLengthHint
  refine wpAny_bind (wpAny_specialOf hT z_no_len ?_)
  show wpAny _ A.in1 (specialOf (Value.ref (b + 4)) (Str.ofString "__length_hint__") >>= _) _ _ _
  refine wpAny_bind (wpAny_specialOf hT z_no_hint ?_)
  refine wpAny_pure ?_
  show wpAny _ A.in1 (rule "list.extend.makes-room" >>= fun _ => Builtin.List.listTouch (.ref (b + 5)) >>= fun _ =>
    again (.builtin "list.extend.loop" ⟨[.ref (b + 5), .ref (b + 4), res], []⟩)) _ _ _
  refine wpAny_bind (wpAny_rule ?_)
  refine wpAny_bind ?_
  show wpAny _ A.in1 (updateSeq (b + 5) (·.push .none) >>= fun _ => updateSeq (b + 5) (·.pop)) _ _ _
  refine wpAny_bind (wpAny_updateSeq hS rfl ?_)
  have hS₂ := Heap.get?_update_self (Obj.mapSeq (·.push Value.none)) hS rfl
  refine wpAny_updateSeq (hz := by seq_fits) hS₂ rfl ?_
  have hS₃ := Heap.get?_update_self (Obj.mapSeq (·.pop)) hS₂ rfl
  have oth : ∀ (a : Nat) o, a < b + 5 → s.heap.get? a = some o → ((s.heap.update (b + 5) (Obj.mapSeq (·.push Value.none))).update (b + 5) (Obj.mapSeq (·.pop))).get? a = some o :=
    fun a o hb e => (Heap.get?_update_other _ _ (zn (by walk_at "O"))).trans ((Heap.get?_update_other _ _ (zn (by walk_at "O"))).trans e)
  refine wpAny_pure ⟨plainId_quiet PySem.F.plain_extend_loop _, z_loop (s := s) hh n1 n2 hxy hn h0 res (h₁ := s.heap) hR xs.size 0 _ _ _ _ rfl (Nat.zero_le _) (hst.start oth n1 n2) (fun a o ha e => oth a o (by walk_at "O") e) hS₃ rfl (fun j v e => by simp at e)⟩
theorem z_init {b l1 l2 : Nat} {xs ys : Array Value} (hh : A.handled = none) (n1 : l1 < b) (n2 : l2 < b) (hxy : xs.size = ys.size) (hn : xs.size ≤ sizeLine) (h0 : 0 < xs.size) (hst : ZS s.heap b l1 l2 xs ys 0)
    (hS : s.heap.get? (b + 5) = some { cls := .type "list", data := .seq #[] })
    (hR : ∀ h' tk acc c, (∀ (a : Nat) o, a < b → s.heap.get? a = some o → h'.get? a = some o) → h'.get? (b + 5) = some { cls := .type "list", dict := none, data := .seq acc c, slots := #[] } → acc.size = xs.size → ZOut h' b xs ys acc → R (.ok (.ret .none)) { s with heap := h', toks := tk }) :
    wpAny (model prog w) A.in1 (Builtin.«list.__init__» ⟨[.ref (b + 5), .ref (b + 4)], []⟩)
      (fun fin s' => match fin with | .done f => R (.ok f) s' | .again c' => c'.quiet = true ∧ codeAny (model prog w) A c' R s') (fun e s' => R (.error e) s') s := by
  show wpAny _ A.in1 (do let old ← Builtin.List.listItems (.ref (b + 5)); Builtin.List.listUpdate (.ref (b + 5)) (fun _ => #[]); letGo old.toList.reverse; Builtin.List.listExtendWith (.ref (b + 5)) (.ref (b + 4)) .none) _ _ s
  refine wpAny_bind ?_
  unfold Builtin.List.listItems
  refine wpAny_bind (wpAny_seqItems hS rfl (wpAny_pure ?_))
  show wpAny _ A.in1 (updateSeq (b + 5) (fun _ => #[]) >>= fun _ => letGo (#[] : Array Value).toList.reverse >>= fun _ => Builtin.List.listExtendWith (.ref (b + 5)) (.ref (b + 4)) .none) _ _ s
  refine wpAny_bind (wpAny_updateSeq hS rfl ?_)
  have hS₂ := Heap.get?_update_self (Obj.mapSeq (fun _ => (#[] : Array Value))) hS rfl
  have oth : ∀ (a : Nat) o, a < b + 5 → s.heap.get? a = some o → (s.heap.update (b + 5) (Obj.mapSeq (fun _ => (#[] : Array Value)))).get? a = some o :=
    fun a o hb e => (Heap.get?_update_other _ _ (zn (by walk_at "O"))).trans e
  refine wpAny_bind (wpAny_letGo ?_)
  refine z_extend hh n1 n2 hxy hn h0 .none _ (hst.start oth n1 n2) hS₂ fun h' tk acc c hk hS' hz hG => ?_
  exact hR h' tk acc c (fun a o ha e => hk a o ha (oth a o (by walk_at "O") e)) hS' hz hG
end
section
variable {prog : Program} {w : World} {A : Around} {E : Value → Shared → Prop} {s : Shared}
theorem z_call_list {Q : Value → Shared → Prop} {b l1 l2 : Nat} {xs ys : Array Value} (hh : A.handled = none) (n1 : l1 < b) (n2 : l2 < b) (hxy : xs.size = ys.size) (hn : xs.size ≤ sizeLine) (h0 : 0 < xs.size) (hst : ZS s.heap b l1 l2 xs ys 0) (hb : s.heap.objs.size = b + 5)
    (hQ : ∀ h' tk acc c, (∀ (a : Nat) o, a < b → s.heap.get? a = some o → h'.get? a = some o) → h'.get? (b + 5) = some { cls := .type "list", dict := none, data := .seq acc c, slots := #[] } → acc.size = xs.size → ZOut h' b xs ys acc → Q (.ref (b + 5)) { s with heap := h', toks := tk }) :
    wpAny (model prog w) A (call (.type "list") [.ref (b + 4)]) Q E s := by
  refine callType_codes (Q₁ := fun obj s₁ => obj = .ref s.heap.objs.size ∧ s₁ = { s with heap := s.heap.push { cls := .type "list", data := .seq #[] } }) PySem.F.called_list (PySem.F.typeCall_list_1 _) PySem.F.entry_list_init
    (code_list_new _ ⟨rfl, rfl⟩) fun obj s₁ h₁ => ?_
  obtain ⟨rfl, rfl⟩ := h₁
  have hS : (s.heap.push { cls := .type "list", data := .seq #[] }).get? s.heap.objs.size = some { cls := .type "list", data := .seq #[] } := Heap.get?_push_size _ rfl
  rw [hb] at hS ⊢
  refine ⟨⟨_, hS, rfl⟩, PySem.F.args_list_init_2 _ _, z_init (A := A.in1) (s := { s with heap := s.heap.push { cls := .type "list", data := .seq #[] } }) hh n1 n2 hxy hn h0 (hst.start (fun c o _ e => Heap.get?_push_of_some _ e) n1 n2) hS fun h' tk acc c hk hS' hz hG => ?_⟩
  exact ⟨rfl, hQ h' tk acc c (fun a o ha e => hk a o ha (Heap.get?_push_of_some _ e)) hS' hz hG⟩
noncomputable abbrev zH1 (h : Heap) (l1 : Addr) : Heap := h.push { cls := .type "tuple_iterator", data := .fields #[.ref l1, .int 0 0] }
noncomputable abbrev zH2 (h : Heap) (l1 l2 : Addr) : Heap := (zH1 h l1).push { cls := .type "list_iterator", data := .fields #[.ref l2, .int 0 0] }
noncomputable abbrev zH3 (h : Heap) (l1 l2 : Addr) : Heap := (zH2 h l1 l2).push { cls := .type "tuple", data := .seq #[.ref h.objs.size, .ref (zH1 h l1).objs.size] }
noncomputable abbrev zH4 (h : Heap) (l1 l2 : Addr) : Heap := (zH3 h l1 l2).push { cls := .type "tuple", data := .seq #[.none, .none] }
noncomputable abbrev zH5 (h : Heap) (l1 l2 : Addr) : Heap := (zH4 h l1 l2).push { cls := .type "zip", data := .fields #[.none, .bool false, .bool false, .ref (zH2 h l1 l2).objs.size, .ref (zH3 h l1 l2).objs.size] }
theorem z_meets (l1 l2 : Addr) (xs ys : Array Value) :
    Meets (Builtin.«zip.__new__» ⟨[.type "zip", .ref l1, .ref l2], []⟩) (fun _ R s => s.heap.IsTuple l1 xs ∧ s.heap.IsList l2 ys ∧
      R (.ok (.ret (.ref (zH4 s.heap l1 l2).objs.size))) { s with heap := zH5 s.heap l1 l2 }) :=
  .of_wp fun prog w A R s h => by
    obtain ⟨hp, g, d, tk, os⟩ := s; obtain ⟨hl1, hl2, h⟩ := h
    have hsub := sub_zip
    have hL1 : Heap.IsTuple (Shared.heap ⟨hp, g, d, tk, os⟩) l1 xs := hl1
    have hL2 : Heap.IsList (Shared.heap ⟨hp.push { cls := .type "tuple_iterator", data := .fields #[.ref l1, .int 0 0] }, g, d, tk, os⟩) l2 ys := Heap.IsList.push hl2 _
    wp_walk using wpAny_pyIter_tuple hL1, wpAny_pyIter_list hL2
    exact ⟨_, rfl, h⟩
theorem z_call_zip {l1 l2 : Nat} {xs ys : Array Value} {Q : Value → Shared → Prop} (hl1 : s.heap.IsTuple l1 xs) (hl2 : s.heap.IsList l2 ys)
    (h : ∀ h', ZS h' s.heap.objs.size l1 l2 xs ys 0 → h'.objs.size = s.heap.objs.size + 5 → (∀ c o, s.heap.get? c = some o → h'.get? c = some o) → Q (.ref (s.heap.objs.size + 4)) { s with heap := h' }) :
    wpAny (model prog w) A (call (.type "zip") [.ref l1, .ref l2]) Q E s := by
  refine callType_new PySem.F.called_zip (by decide) (PySem.F.typeCall_zip_2 _ _) (PySem.F.newCall_zip_2 _ _) (fun obj => PySem.F.args_object_init_3 obj _ _) PySem.F.entry_zip_new
    (z_meets l1 l2 xs ys) ⟨hl1, hl2, ?_⟩
  have z1 : (zH1 s.heap l1).objs.size = s.heap.objs.size + 1 := Heap.size_push ..
  have z2 : (zH2 s.heap l1 l2).objs.size = s.heap.objs.size + 2 := by rw [Heap.size_push, z1]
  have z3 : (zH3 s.heap l1 l2).objs.size = s.heap.objs.size + 3 := by rw [Heap.size_push, z2]
  have z4 : (zH4 s.heap l1 l2).objs.size = s.heap.objs.size + 4 := by rw [Heap.size_push, z3]
  have z5 : (zH5 s.heap l1 l2).objs.size = s.heap.objs.size + 5 := by rw [Heap.size_push, z4]
  have g5 : (zH5 s.heap l1 l2).get? (zH4 s.heap l1 l2).objs.size = some _ := Heap.get?_push_size _ rfl
  have g4 : (zH5 s.heap l1 l2).get? (zH3 s.heap l1 l2).objs.size = some _ := Heap.get?_push_of_some _ (Heap.get?_push_size _ rfl)
  have g3 : (zH5 s.heap l1 l2).get? (zH2 s.heap l1 l2).objs.size = some _ := Heap.get?_push_of_some _ (Heap.get?_push_of_some _ (Heap.get?_push_size _ rfl))
  have g2 : (zH5 s.heap l1 l2).get? (zH1 s.heap l1).objs.size = some _ := Heap.get?_push_of_some _ (Heap.get?_push_of_some _ (Heap.get?_push_of_some _ (Heap.get?_push_size _ rfl)))
  have g1 : (zH5 s.heap l1 l2).get? s.heap.objs.size = some _ := Heap.get?_push_of_some _ (Heap.get?_push_of_some _ (Heap.get?_push_of_some _ (Heap.get?_push_of_some _ (Heap.get?_push_size _ rfl))))
  have up : ∀ c o, s.heap.get? c = some o → (zH5 s.heap l1 l2).get? c = some o := fun c o x => Heap.get?_push_of_some _ (Heap.get?_push_of_some _ (Heap.get?_push_of_some _ (Heap.get?_push_of_some _ (Heap.get?_push_of_some _ x))))
  show _ ∧ _
  rw [z2, z3, z4] at g5
  rw [z1, z2] at g3
  rw [z3] at g4
  rw [z1] at g2
  rw [z4]
  exact ⟨⟨_, g5, rfl⟩, h _ ⟨.inl ⟨rfl, g5, _, _, g4⟩, g3, ⟨_, g1, rfl, rfl⟩, ⟨_, g2, rfl, rfl⟩, hl1.at fun o e => up _ o e, hl2.at fun o e => up _ o e⟩ z5 up⟩
end
end N226
end
noncomputable section
open PySem PySem.W PySem.Calls PyProof.Rows
open Sem (wp)
set_option maxRecDepth 100000
namespace N226
theorem Lay.grow {C : Cx} {h h' : Heap} {δ : Addr → Addr} {H H' : MH} (L : Lay C h δ H) (k : ∀ b o, h.get? b = some o → h'.get? b = some o) (e : ∀ a mo, H a = some mo → H' a = some mo)
    (nw : ∀ a mo, H' a = some mo → H a = none → h.get? a = none ∧ LaidAt C h' δ a mo ∧ ∀ Cl fs, mo ≠ .inst Cl fs) : Lay C h' δ H' := by
  have L' := L.mono k
  have ins : ∀ b, IsInst H' b → IsInst H b := fun b ⟨Cl, fs, q⟩ => by
    cases z : H b with
    | none => exact absurd rfl ((nw b _ q z).2.2 Cl fs)
    | some mo => rw [e b mo z] at q; cases q; exact ⟨_, _, z⟩
  refine ⟨L'.keep, fun a mo q => ?_, fun a b ha hb q => L.inj a b (ins a ha) (ins b hb) q, fun a ha => ?_⟩
  · cases z : H a with
    | none => exact (nw a mo q z).2.1
    | some m => rw [e a m z] at q; cases q; exact L'.obj a _ z
  · have hd := L.hid a (ins a ha)
    cases z : H' (δ a) with
    | none => rfl
    | some mo =>
      obtain ⟨o, ho⟩ := L.aliveδ (ins a ha)
      rw [(nw _ mo z hd).1] at ho; cases ho
theorem Keeps.growMany {C : Cx} {π : Addr → Prop} {δ : Addr → Addr} {H H' : MH} {s : Shared} {h' : Heap} {t : Nat} (k : ∀ b o, s.heap.get? b = some o → h'.get? b = some o) (e : ∀ a mo, H a = some mo → H' a = some mo)
    (nw : ∀ a mo, H' a = some mo → H a = none → s.heap.get? a = none ∧ LaidAt C h' δ a mo ∧ ∀ Cl fs, mo ≠ .inst Cl fs) : Keeps π δ H s δ H' { s with heap := h', toks := t } := by
  refine ⟨fun b o q _ _ => k b o q, fun b q => ?_, fun b o q => ⟨o, k b o q⟩, rfl, rfl, rfl⟩
  have old : ∀ b mo, H' b = some mo → H b = some mo ∨ s.heap.get? b = none := fun b mo q => by
    cases z : H b with
    | none => exact .inr (nw b mo q z).1
    | some m => rw [e b m z] at q; cases q; exact .inl rfl
  rcases q with (⟨vs, q⟩ | ⟨es, ep, q⟩) | ⟨a, ⟨Cl, fs, q⟩, rfl⟩
  · exact (old b _ q).imp (fun x => .inl (.inl ⟨vs, x⟩)) id
  · exact (old b _ q).imp (fun x => .inl (.inr ⟨es, ep, x⟩)) id
  · cases z : H a with
    | none => exact absurd rfl ((nw a _ q z).2.2 Cl fs)
    | some m => rw [e a m z] at q; cases q; exact .inl (.inr ⟨a, ⟨_, _, z⟩, rfl⟩)
noncomputable def zipQ (us ws : List V) (H : MH) (Q : V → MH → Prop) : Prop :=
  ∀ (c : Addr) (ts : List V) (H' : MH), (∀ a mo, H a = some mo → H' a = some mo) → H c = none → H' c = some (.list ts) → ts.length = us.length →
    (∀ (i : Nat) t, ts[i]? = some t → ∃ (T : Addr) (u w : V), t = .ref T ∧ H T = none ∧ H' T = some (.tuple [u, w]) ∧ us[i]? = some u ∧ ws[i]? = some w) → Q (.ref c) H'
noncomputable def zipW (vs : List V) (H : MH) (Q : V → MH → Prop) : Prop :=
  ∃ (x y : Addr) (us ws : List V), vs = [.ref x, .ref y] ∧ H x = some (.tuple us) ∧ H y = some (.list ws) ∧ us.length = ws.length ∧ us ≠ [] ∧ us.length ≤ lim ∧ zipQ us ws H Q
section
variable {C : Cx} {S : St} {n : Nat} {ρ : Loc} {H : MH}
theorem getq {vs : List Value} {us : List V} (h : vs.map er = us) {i : Nat} {x : Value} (e : vs.toArray[i]? = some x) : us[i]? = some (er x) := by
  have e : vs[i]? = some x := by simpa using e
  rw [← h, List.getElem?_map, e]; rfl
noncomputable def GP (h' : Heap) (a : Nat) (p : Value × Value) : Prop := IsPair h' a p.1 p.2 ∧ er p.1 ≠ .junk ∧ er p.2 ≠ .junk
open Classical in
noncomputable def lzH (H : MH) (h' : Heap) (N : Nat) (ts : List V) : MH := fun a : Nat => if a < N then H a else if a = N + 5 then some (.list ts) else
    if q : ∃ p : Value × Value, GP h' a p then some (.tuple [er q.choose.1, er q.choose.2]) else none
theorem lzH_old {h' : Heap} {N : Nat} {ts : List V} (lt : ∀ (a : Nat) mo, H a = some mo → a < N) (a : Addr) (mo : MO) (q : H a = some mo) : lzH H h' N ts a = some mo := by
  unfold lzH
  rw [if_pos (lt a mo q)]; exact q
theorem lzH_c {h' : Heap} {N : Nat} {ts : List V} : lzH H h' N ts (N + 5) = some (.list ts) := by
  unfold lzH
  rw [if_neg (show ¬ N + 5 < N from by walk_at "O"), if_pos rfl]
theorem pair_inj {h' : Heap} {T : Nat} {a b x y : Value} (h1 : IsPair h' T a b) (h2 : IsPair h' T x y) : a = x ∧ b = y := by
  have z := h1.symm.trans h2
  injection z with z
  injection z with _ _ z
  injection z with z
  injection z with z
  injection z with z1 z
  injection z with z2 z
  exact ⟨z1, z2⟩
theorem lzH_pick {h' : Heap} {N : Nat} {ts : List V} {T : Nat} {x y : Value} (hT : N + 5 < T) (hp : GP h' T (x, y)) : lzH H h' N ts T = some (.tuple [er x, er y]) := by
  have q : ∃ p : Value × Value, GP h' T p := ⟨(x, y), hp⟩
  unfold lzH
  rw [if_neg (show ¬ T < N from by walk_at "O"), if_neg (show ¬ T = N + 5 from by walk_at "O"), dif_pos q]
  have z := pair_inj q.choose_spec.1 hp.1
  rw [z.1, z.2]
theorem lzH_new {h' : Heap} {N : Nat} {ts : List V} {a : Nat} {mo : MO} (q : lzH H h' N ts a = some mo) (z : H a = none) : N ≤ a ∧ ((a = N + 5 ∧ mo = .list ts) ∨ ∃ p, GP h' a p ∧ mo = .tuple [er p.1, er p.2]) := by
  unfold lzH at q
  by_cases h1 : a < N
  · rw [if_pos h1, z] at q; cases q
  refine ⟨Nat.not_lt.mp h1, ?_⟩
  rw [if_neg h1] at q
  by_cases h2 : a = N + 5
  · rw [if_pos h2] at q; exact .inl ⟨h2, (Option.some.inj q).symm⟩
  rw [if_neg h2] at q
  by_cases h3 : ∃ p, GP h' a p
  · rw [dif_pos h3] at q; exact .inr ⟨_, h3.choose_spec, (Option.some.inj q).symm⟩
  · rw [dif_neg h3] at q; cases q
theorem lz_laid {s : Shared} {δ : Addr → Addr} {h' : Heap} {us ws : List Value} {acc : Array Value} {c : Nat} (L : Lay C s.heap δ H) (nolt : ∀ a : Nat, s.heap.objs.size ≤ a → s.heap.get? a = none)
    (hc : h'.get? (s.heap.objs.size + 5) = some { cls := .type "list", dict := none, data := .seq acc c, slots := #[] }) (hG : ZOut h' s.heap.objs.size us.toArray ws.toArray acc) (a : Addr) (mo : MO) (q : lzH H h' s.heap.objs.size (acc.toList.map er) a = some mo) (z : H a = none) : s.heap.get? a = none ∧ LaidAt C h' δ a mo ∧ ∀ Cl fs, mo ≠ .inst Cl fs := by
  have k := lzH_new q z
  have hB : C.hB.get? a = none := by
    cases z : C.hB.get? a with
    | none => rfl
    | some o => have := L.keep _ _ z; rw [nolt a k.1] at this; cases this
  refine ⟨nolt a k.1, ?_⟩
  rcases k.2 with ⟨rfl, rfl⟩ | ⟨p, hp, rfl⟩
  · refine ⟨⟨hB, acc.toList, c, hc, rfl, fun v hv => ?_⟩, fun _ _ e => MO.noConfusion e⟩
    obtain ⟨w, hw, rfl⟩ := List.mem_map.mp hv
    obtain ⟨i, hi⟩ := List.getElem?_of_mem hw
    obtain ⟨T, x, y, rfl, _⟩ := hG i w (by simpa using hi)
    exact njk rfl
  · refine ⟨⟨[p.1, p.2], 0, hp.1, rfl, fun v hv => ?_⟩, fun _ _ e => MO.noConfusion e⟩
    rcases List.mem_cons.mp hv with rfl | hv
    · exact hp.2.1
    · rw [List.mem_singleton.mp hv]; exact hp.2.2
theorem lzip_end {s : Shared} {δ : Addr → Addr} {h' : Heap} {tk : Nat} {us ws : List Value} {acc : Array Value} {c : Nat} {Q : V → MH → Prop} (L : Lay C s.heap δ H)
    (nu : NJ (us.map er)) (nw : NJ (ws.map er)) 
    (hQ : zipQ (us.map er) (ws.map er) H Q)
    (hk : ∀ (a : Nat) o, s.heap.get? a = some o → h'.get? a = some o) (hc : h'.get? (s.heap.objs.size + 5) = some { cls := .type "list", dict := none, data := .seq acc c, slots := #[] }) (ha : acc.size = us.length) (hG : ZOut h' s.heap.objs.size us.toArray ws.toArray acc) :
    Post C noπ δ H s Q (.ref (s.heap.objs.size + 5)) { s with heap := h', toks := tk } := by
  have lt : ∀ (a : Nat) mo, H a = some mo → a < s.heap.objs.size := fun a mo e => by
    obtain ⟨o, q⟩ := L.alive e
    exact Heap.lt_size q
  have nolt : ∀ a : Nat, s.heap.objs.size ≤ a → s.heap.get? a = none := fun a q => by
    cases e : s.heap.get? a with
    | none => rfl
    | some o => exact absurd (Heap.lt_size e) (Nat.not_lt.mpr q)
  have nom : ∀ a : Nat, s.heap.objs.size ≤ a → H a = none := fun a q => by
    cases z : H a with
    | none => rfl
    | some m => exact absurd (lt _ _ z) (Nat.not_lt.mpr q)
  have new := lz_laid L nolt hc hG
  have old := lzH_old (h' := h') (ts := acc.toList.map er) lt
  refine ⟨δ, _, L.grow hk old new, Keeps.growMany hk old new, njk rfl, ?_⟩
  refine hQ _ (acc.toList.map er) _ old (nom _ (Nat.le_add_right _ _)) lzH_c (by rw [List.length_map, List.length_map]; exact ha) fun i t ht => ?_
  rw [List.getElem?_map] at ht
  obtain ⟨v, hv, rfl⟩ := Option.map_eq_some_iff.mp ht
  obtain ⟨T, x, y, rfl, lo, h1, h2, hp⟩ := hG i v (by simpa using hv)
  have h1' := getq rfl h1
  have h2' := getq rfl h2
  exact ⟨T, er x, er y, rfl, nom T (by walk_at "O"), lzH_pick lo ⟨hp, nu _ (List.mem_of_getElem? h1'), nw _ (List.mem_of_getElem? h2')⟩, h1', h2'⟩
theorem WE_lzip {lst zp : Expr} {es : List Expr} {p3 p4 : Pos} {Q : V → MH → Prop} (f1 : notAttr lst = true) (f2 : notAttr zp = true) (hp : es.all notStarred = true)
    (h : WE C S n lst ρ H fun v H1 => v = .ty "list" ∧ WE C S n zp ρ H1 fun u H2 => u = .ty "zip" ∧ WEs C S n es ρ H2 fun vs H3 => zipW vs H3 Q) : WE C S n (.Call lst [.Call zp es [] p3] [] p4) ρ H Q := by
  refine ⟨fun A env s δ rm eo F L => ?_⟩
  rw [eval_call f1]
  refine wpAny_bind (h.bind rm eo F L fun fv s1 δ1 H1 L1 K1 F1 ja pk => ?_)
  obtain ⟨hv, h1⟩ := pk
  obtain rfl := er_ty hv
  refine callWith_of (P := fun hh => True) (by rw [plain_of rfl]; rfl) (fun hh _ => ⟨.machine, .inr (.inl rfl), Looks.of_pure rfl⟩) (evalArgs_of rfl ?_)
  rw [starEach_cons rfl]
  refine spliced_cons ?_
  rw [eval_call f2]
  refine wpAny_bind (h1.bind rm eo F1 L1 fun fu s2 δ2 H2 L2 K2 F2 jb pk => ?_)
  obtain ⟨hu, h2⟩ := pk
  obtain rfl := er_ty hu
  refine callWith_of (P := fun hh => True) (by rw [plain_of hp]; rfl) (fun hh _ => ⟨.machine, .inr (.inl rfl), Looks.of_pure rfl⟩) (evalArgs_of hp ?_)
  refine wpAny_mono (h2.run A env s2 δ2 rm eo F2 L2 p3) (fun vs s3 pk => ⟨trivial, ?_⟩) fun _ _ x => x.elim
  obtain ⟨δ3, H3, L3, K3, jv, h3⟩ := pk
  have K : Keeps noπ δ H s δ3 H3 s3 := (K1.trans K2).trans K3
  obtain ⟨x, y, us, ws, ev, hx, hy, hl, h0, hn, hQ⟩ := id h3
  obtain ⟨a, b, rfl, ea, eb⟩ := map_two ev
  obtain rfl := er_ref ea
  obtain rfl := er_ref eb
  obtain ⟨us', m1, ex, rfl, nju⟩ := L3.obj _ _ hx
  obtain ⟨_, ws', m2, ey, rfl, njw⟩ := L3.obj _ _ hy
  rw [List.length_map] at hl hn
  rw [List.length_map] at hl
  have h0' : us' ≠ [] := fun q => h0 (by rw [q]; rfl)
  refine z_call_zip (xs := us'.toArray) (ys := ws'.toArray) ⟨_, ex, rfl, m1, rfl⟩ ⟨_, ey, rfl, m2, rfl⟩ fun h' hst hsz hk => ?_
  refine spliced_nil ⟨trivial, ?_⟩
  refine z_call_list (b := s3.heap.objs.size) rm.2.2 (Heap.lt_size ex) (Heap.lt_size ey) (by simpa using hl) (by rw [List.size_toArray]; exact lim_of hn) (by rw [List.size_toArray]; exact List.length_pos_iff.mpr h0') hst hsz fun h'' tk acc c hk' hc ha hG => ?_
  refine Post.trans K (lzip_end L3 nju njw hQ (fun a o q => ?_) hc (by rw [ha, List.size_toArray]) hG)
  exact hk' a o (Heap.lt_size q) (hk a o q)
end
end N226
end
noncomputable section
open PySem PySem.W PySem.Calls PyProof.Rows PySem.Builtin.Str
set_option maxRecDepth 10000
namespace N226
set_option genInjectivity false in
set_option genSizeOf false in
set_option genSizeOfSpec false in
inductive E where
  | bad
  | none | bool (b : Bool) | int (i : Int) | str (s : Str)
  | var (i : Nat) | con (v : V)
  | bin (op : Operator) (l r : E) | neg (x : E)
  | cmp (op : CmpOp) (l r : E) | isin (l r : E) | notin (l r : E)
  | andv (x y : E) | orv (x y : E)
  | ite (t a b : E)
  | attr (x : E) (i : Nat)
  | call (f args : E) | lzip (args : E) | meth (o : E) (i : Nat) (args : E)
  | sub (x i : E) | slice (x : E) (a : Bool) (lo : E) (b : Bool) (hi : E)
  | tuple (args : E) | list (args : E) | dict0 | dict (kvs : E)
  | comp (elt iter conds : E)
  | nil | cons (e es : E) | kv (k v es : E)
  | tval (x : E) | tno (x : E) | tand (x y : E) | tor (x y : E) | ttrue | tfalse | tite (t a b : E) | tcmp (op : CmpOp) (l r : E) | tin (l r : E) | tnotin (l r : E)
noncomputable abbrev PE := Loc → MH → (V → MH → Prop) → Prop
noncomputable abbrev PT := Loc → MH → (Bool → MH → Prop) → Prop
noncomputable abbrev PL := Loc → MH → (List V → MH → Prop) → Prop
noncomputable abbrev PD := Loc → MH → (List (V × V) → MH → Prop) → Prop
structure W4 where
  e : PE
  t : PT
  l : PL
  d : PD
noncomputable def W4.ofE (p : PE) : W4 := ⟨p, fun _ _ _ => False, fun _ _ _ => False, fun _ _ _ => False⟩
noncomputable def W4.ofT (p : PT) : W4 := ⟨fun _ _ _ => False, p, fun _ _ _ => False, fun _ _ _ => False⟩
noncomputable def notinW (a k : V) (H : MH) (Q : Bool → Prop) : Prop := ∃ x es ep, a = .ref x ∧ H x = some (.dict es ep) ∧ isKey k = true ∧ Q !(atKeyV es k).isSome
noncomputable def attrW (C : Cx) (n : Nat) (i : Nat) (a : V) (H : MH) (Q : V → MH → Prop) : Prop := ∀ name, idx AN name = some i → WOp1 C n (fun o => getAttr o name true) a H Q
noncomputable def methW (C : Cx) (i : Nat) (a : V) (H : MH) (Q : V → List V → Prop) : Prop := ∀ name, idx AN name = some i → WMeth C a name H Q
noncomputable def setW (C : Cx) (n : Nat) (i : Nat) (a v : V) (H : MH) (Q : MH → Prop) : Prop := ∀ name, idx AN name = some i → WSet C n a name v H Q
noncomputable def partW (has : Bool) (p : PE) (ρ : Loc) (H : MH) (Q : Option Int → MH → Prop) : Prop := bif has then p ρ H fun v H1 => ∃ i, v = .int i ∧ Q (some i) H1 else Q none H
noncomputable def onV (o : Option V) (k : V → Prop) : Prop := match o with
  | some v => k v
  | none => False
theorem onV_some {v : V} {k : V → Prop} : onV (some v) k = k v := rfl
theorem onV_of {o : Option V} {v : V} {k : V → Prop} (h : o = some v) (q : k v) : onV o k := h ▸ q
theorem onV_elim {o : Option V} {k : V → Prop} (h : onV o k) : ∃ v, o = some v ∧ k v := by
  cases o with
  | none => exact h.elim
  | some v => exact ⟨v, rfl, h⟩
noncomputable def compTurn (We : PE) (Wt : PT) (ρ : Loc) (Q : List V → MH → Prop) (P : Src → List V → MH → Prop) (src : Src) (done : List V) (H : MH) : Prop := match src.item H with
  | some none => Q done H
  | some (some v) => Wt (inLoc (some v) ρ) H fun b H1 => bif b then We (inLoc (some v) ρ) H1 fun y H2 => done.length ≤ lim ∧ P src.next (done ++ [y]) H2 else P src.next done H1
  | none => False
noncomputable def compW (We : PE) (Wt : PT) (ρ : Loc) (Q : List V → MH → Prop) (src : Src) (done : List V) (H : MH) : Prop :=
  ∀ P : Src → List V → MH → Prop, (∀ src done H P', (∀ s d h, P' s d h → P s d h) → compTurn We Wt ρ Q P' src done H → P src done H) → P src done H
theorem compW.turn {We : PE} {Wt : PT} {ρ : Loc} {Q : List V → MH → Prop} {src : Src} {done : List V} {H : MH} (h : compTurn We Wt ρ Q (compW We Wt ρ Q) src done H) : compW We Wt ρ Q src done H :=
  fun P hP => hP src done H _ (fun s d h' x => x P hP) h
noncomputable def wps (C : Cx) (n : Nat) : E → W4
  | .bad => ⟨fun _ _ _ => False, fun _ _ _ => False, fun _ _ _ => False, fun _ _ _ => False⟩
  | .none => .ofE fun ρ H Q => Q .none H
  | .bool b => .ofE fun ρ H Q => Q (.bool b) H
  | .int i => .ofE fun ρ H Q => Q (.int i) H
  | .str s => .ofE fun ρ H Q => Q (.str s) H
  | .var i => .ofE fun ρ H Q => onV (ρ i) fun v => Q v H
  | .con v => .ofE fun ρ H Q => Q v H
  | .bin op l r => .ofE fun ρ H Q => (wps C n l).e ρ H fun a H1 => (wps C n r).e ρ H1 fun b H2 => binW op a b H2 Q
  | .neg x => .ofE fun ρ H Q => (wps C n x).e ρ H fun a H1 => ∃ i, a = .int i ∧ Q (.int (-i)) H1
  | .cmp op l r => .ofE fun ρ H Q => (wps C n l).e ρ H fun a H1 => (wps C n r).e ρ H1 fun b H2 => cmpW op a b H2 Q
  | .isin l r => .ofE fun ρ H Q => (wps C n l).e ρ H fun a H1 => (wps C n r).e ρ H1 fun b H2 => inW b a H2 fun c => Q (.bool c) H2
  | .notin l r => .ofE fun ρ H Q => (wps C n l).e ρ H fun a H1 => (wps C n r).e ρ H1 fun b H2 => notinW b a H2 fun c => Q (.bool c) H2
  | .andv x y => .ofE fun ρ H Q => (wps C n x).e ρ H fun a H1 => ∃ b, a = .bool b ∧ bif b then (wps C n y).e ρ H1 Q else Q a H1
  | .orv x y => .ofE fun ρ H Q => (wps C n x).e ρ H fun a H1 => ∃ b, a = .bool b ∧ bif b then Q a H1 else (wps C n y).e ρ H1 Q
  | .ite t a b => .ofE fun ρ H Q => (wps C n t).t ρ H fun c H1 => bif c then (wps C n a).e ρ H1 Q else (wps C n b).e ρ H1 Q
  | .attr x i => .ofE fun ρ H Q => (wps C n x).e ρ H fun a H1 => attrW C n i a H1 Q
  | .call f args => .ofE fun ρ H Q => (wps C n f).e ρ H fun fv H1 => (wps C n args).l ρ H1 fun vs H2 => Callable C fv ∧ WC C n fv vs H2 Q
  | .lzip args => .ofE fun ρ H Q => (wps C n args).l ρ H fun vs H1 => zipW vs H1 Q
  | .meth o i args => .ofE fun ρ H Q => (wps C n o).e ρ H fun a H1 => methW C i a H1 fun f first => (wps C n args).l ρ H1 fun vs H2 => Callable C f ∧ WC C n f (first ++ vs) H2 Q
  | .sub x i => .ofE fun ρ H Q => (wps C n x).e ρ H fun a H1 => (wps C n i).e ρ H1 fun k H2 => subW a k H2 Q
  | .slice x a lo b hi => .ofE fun ρ H Q => (wps C n x).e ρ H fun v H1 => partW a (wps C n lo).e ρ H1 fun l H2 => partW b (wps C n hi).e ρ H2 fun u H3 => sliceW v l u H3 Q
  | .tuple args => .ofE fun ρ H Q => (wps C n args).l ρ H fun vs H1 => vs.length ≤ lim ∧ ∀ c, H1 c = Option.none → Q (.ref c) (H1.set c (.tuple vs))
  | .list args => .ofE fun ρ H Q => (wps C n args).l ρ H fun vs H1 => vs.length ≤ lim ∧ ∀ c, H1 c = Option.none → Q (.ref c) (H1.set c (.list vs))
  | .dict0 => .ofE fun ρ H Q => ∀ c, H c = Option.none → Q (.ref c) (H.set c (.dict [] 0))
  | .dict kvs => .ofE fun ρ H Q => (wps C n kvs).d ρ H fun ps H1 => ps.all (fun kv => isKey kv.1) = true ∧ ∀ c ep, H1 c = Option.none → Q (.ref c) (H1.set c (.dict (madeOf ps) ep))
  | .comp elt iter conds => .ofE fun ρ H Q => (wps C n iter).e ρ H fun xv H1 => ∃ src, iterOf H1 xv = some src ∧ compW (wps C n elt).e (wps C n conds).t ρ (fun done H2 => ∀ c, H2 c = Option.none → Q (.ref c) (H2.set c (.list done))) src [] H1
  | .nil => ⟨fun _ _ _ => False, fun _ _ _ => False, fun ρ H Q => Q [] H, fun ρ H Q => Q [] H⟩
  | .cons e es => ⟨fun _ _ _ => False, fun _ _ _ => False, fun ρ H Q => (wps C n e).e ρ H fun a H1 => (wps C n es).l ρ H1 fun vs H2 => Q (a :: vs) H2, fun _ _ _ => False⟩
  | .kv k v es => ⟨fun _ _ _ => False, fun _ _ _ => False, fun _ _ _ => False, fun ρ H Q => (wps C n k).e ρ H fun a H1 => (wps C n v).e ρ H1 fun b H2 => (wps C n es).d ρ H2 fun ps H3 => Q ((a, b) :: ps) H3⟩
  | .tval x => .ofT fun ρ H Q => (wps C n x).e ρ H fun a H1 => ∃ b, a = .bool b ∧ Q b H1
  | .tno x => .ofT fun ρ H Q => (wps C n x).t ρ H fun c H1 => Q (!c) H1
  | .tand x y => .ofT fun ρ H Q => (wps C n x).t ρ H fun c H1 => bif c then (wps C n y).t ρ H1 Q else Q false H1
  | .tor x y => .ofT fun ρ H Q => (wps C n x).t ρ H fun c H1 => bif c then Q true H1 else (wps C n y).t ρ H1 Q
  | .ttrue => .ofT fun ρ H Q => Q true H
  | .tfalse => .ofT fun ρ H Q => Q false H
  | .tite t a b => .ofT fun ρ H Q => (wps C n t).t ρ H fun c H1 => bif c then (wps C n a).t ρ H1 Q else (wps C n b).t ρ H1 Q
  | .tcmp op l r => .ofT fun ρ H Q => (wps C n l).e ρ H fun a H1 => (wps C n r).e ρ H1 fun b H2 => cmpW op a b H2 fun c H3 => ∃ b, c = .bool b ∧ Q b H3
  | .tin l r => .ofT fun ρ H Q => (wps C n l).e ρ H fun a H1 => (wps C n r).e ρ H1 fun b H2 => inW b a H2 fun c => Q c H2
  | .tnotin l r => .ofT fun ρ H Q => (wps C n l).e ρ H fun a H1 => (wps C n r).e ρ H1 fun b H2 => notinW b a H2 fun c => Q c H2
noncomputable abbrev wpE (C : Cx) (n : Nat) (e : E) : PE := (wps C n e).e
noncomputable abbrev wpT (C : Cx) (n : Nat) (e : E) : PT := (wps C n e).t
noncomputable def andvs : List E → E
  | [] => .bad
  | [x] => x
  | x :: xs => .andv x (andvs xs)
noncomputable def orvs : List E → E
  | [] => .bad
  | [x] => x
  | x :: xs => .orv x (orvs xs)
noncomputable def plainBase (e : Expr) : Bool := match callOf e with
  | some q => !(Nat.beq q.1.ctorIdx 23 && q.2.1.isEmpty && q.2.2.isEmpty)
  | none => true
noncomputable def debugName : Str := ⟨#[95, 95, 100, 101, 98, 117, 103, 95, 95]⟩
theorem debugName_eq : debugName = ("__debug__" : Str) := by decide
noncomputable def nameE (G : List (Str × V)) (S : St) (x : Str) : E :=
  if x == debugName then .bad else
  match S.sc.names.lookup x with
  | some .local => match idx S.ns x with
    | some i => .var i
    | none => .bad
  | some .cell => match idx S.ns x with
    | some i => .var i
    | none => .bad
  | some .globalImplicit => match G.lookup x with
    | some v => if v = .junk then .bad else .con v
    | none => .bad
  | _ => .bad
noncomputable def isGlob (G : List (Str × V)) (S : St) (x : Str) (v : V) : Bool := !(x == debugName) && decide (S.sc.names.lookup x = some .globalImplicit) && decide (G.lookup x = some v)
noncomputable def one {α : Type} : List α → Option α
  | [x] => some x
  | _ => none
noncomputable def genOf (gs : List Comprehension) : Option (Str × Expr × List Expr) := (one gs).bind fun g => (nameOf g.target).bind fun x => if g.is_async = 0 then some (x, g.iter, g.ifs) else none
noncomputable def lzipOf (G : List (Str × V)) (S : St) (f : Expr) (es : List Expr) : Option (List Expr) := (nameOf f).bind fun l => (one es).bind fun c => (callOf c).bind fun q => if q.2.2.isEmpty then (nameOf q.1).bind fun z =>
  if isGlob G S l (.ty "list") && isGlob G S z (.ty "zip") && q.2.1.all notStarred then some q.2.1 else none else none
noncomputable abbrev Rec := Bool → St → Expr → E
noncomputable def constE : Const → E
  | .none => .none
  | .bool b => .bool b
  | .int i => .int i
  | .str s => .str s
  | _ => .bad
noncomputable def negE : UnaryOp → E → E
  | .USub, x => .neg x
  | _, _ => .bad
noncomputable def cmp1 : CmpOp → E → E → E
  | .In, a, b => .isin a b
  | .NotIn, a, b => .notin a b
  | op, a, b => .cmp op a b
noncomputable def cmp1T : CmpOp → E → E → E
  | .In, a, b => .tin a b
  | .NotIn, a, b => .tnotin a b
  | op, a, b => .tcmp op a b
noncomputable def boolE : BoolOp → List E → E
  | .And, xs => andvs xs
  | .Or, xs => orvs xs
noncomputable def boolT : BoolOp → List E → E
  | .And, xs => xs.foldr .tand .ttrue
  | .Or, xs => xs.foldr .tor .tfalse
section
variable (G : List (Str × V)) (r : Rec) (S : St)
noncomputable def seqE (es : List Expr) : E := (es.map (r false S)).foldr .cons .nil
noncomputable def partE (o : Option Expr) : E := match o with
  | some e => r false S e
  | none => .bad
noncomputable def cmpE (l : Expr) (ops : List CmpOp) (rs : List Expr) : E := match one ops, one rs with
  | some op, some q => if behindInMarks op q then .bad else cmp1 op (r false S l) (r false S q)
  | _, _ => .bad
noncomputable def attrE (x : Expr) (name : Str) : E := if plainBase x then match idx AN name with
  | some i => .attr (r false S x) i
  | none => .bad
  else .bad
noncomputable def methE (o : Expr) (name : Str) (apos pos : Pos) (es : List Expr) : E := if plainBase o && es.all notStarred && apos.endLine == pos.line && decide (es.length < 30) then match idx AN name with
  | some i => .meth (r false S o) i (seqE r S es)
  | none => .bad
  else .bad
noncomputable def funE (f : Expr) (es : List Expr) : E := match lzipOf G S f es with
  | some as => .lzip (seqE r S as)
  | none => if notAttr f && es.all notStarred then .call (r false S f) (seqE r S es) else .bad
noncomputable def callE (f : Expr) (es : List Expr) (ks : List Keyword) (pos : Pos) : E := if ks.isEmpty then match attrOf f with
  | some q => methE r S q.1 q.2.1 q.2.2 pos es
  | none => funE G r S f es
  else .bad
noncomputable def subE (x i : Expr) : E := match sliceOf i with
  | some q => if q.2.2.isNone then .slice (r false S x) q.1.isSome (partE r S q.1) q.2.1.isSome (partE r S q.2.1) else .bad
  | none => if notSlice i then .sub (r false S x) (r false S i) else .bad
noncomputable def tupE (es : List Expr) : E := if es.all notStarred then .tuple (seqE r S es) else .bad
noncomputable def listE (es : List Expr) : E := if es.all notStarred then .list (seqE r S es) else .bad
noncomputable def dictE (ks : List (Option Expr)) (vs : List Expr) : E := if ks.isEmpty then (if vs.isEmpty then .dict0 else .bad) else
  if ks.all (·.isSome) && ks.length == vs.length && decide (ks.length ≤ 15) then .dict ((ks.zip vs).foldr (fun p t => .kv (partE r S p.1) (r false S p.2) t) .nil) else .bad
noncomputable def condsE (x : St) (ifs : List Expr) : E := match ifs with
  | [] => .ttrue
  | [c] => r true x c
  | _ => .bad
noncomputable def lcompE (elt : Expr) (gens : List Comprehension) (sc : Scope) : E := match genOf gens with
  | some q => if compOK S sc q.1 && notSet q.2.1 then .comp (r false (S.inner sc q.1) elt) (r false S q.2.1) (condsE r (S.inner sc q.1) q.2.2) else .bad
  | none => .bad
noncomputable def plainT (e : Expr) : E := if plainTest e then .tval (r false S e) else .bad
noncomputable def notT (op : UnaryOp) (x : Expr) (p : Pos) : E := match op with
  | .Not => .tno (r true S x)
  | op => plainT r S (.UnaryOp op x p)
noncomputable def cmpT (l : Expr) (ops : List CmpOp) (rs : List Expr) : E := match one ops, one rs with
  | some op, some q => if behindInMarks op q then .bad else cmp1T op (r false S l) (r false S q)
  | _, _ => .bad
noncomputable def mkT (e : Expr) : E := match e with
  | .UnaryOp op x p => notT r S op x p
  | .BoolOp op xs _ => boolT op (xs.map (r true S))
  | .IfExp t a b _ => .tite (r true S t) (r true S a) (r true S b)
  | .Compare l ops rs _ => cmpT r S l ops rs
  | e => plainT r S e
noncomputable def mkV (e : Expr) : E := match e with
  | .Constant c _ _ => constE c
  | .Name x _ => nameE G S x
  | .BinOp l op q _ => .bin op (r false S l) (r false S q)
  | .UnaryOp op x _ => negE op (r false S x)
  | .Compare l ops rs _ => cmpE r S l ops rs
  | .BoolOp op xs _ => boolE op (xs.map (r false S))
  | .IfExp t a b _ => .ite (r true S t) (r false S a) (r false S b)
  | .Attribute x name _ => attrE r S x name
  | .Call f es ks pos => callE G r S f es ks pos
  | .Subscript x i _ => subE r S x i
  | .Tuple es _ _ => tupE r S es
  | .List es _ => listE r S es
  | .Dict ks vs _ => dictE r S ks vs
  | .ListComp elt gens sc _ => lcompE r S elt gens sc
  | _ => .bad
noncomputable def mkE (b : Bool) (e : Expr) : E := match b with
  | true => mkT r S e
  | false => mkV G r S e
end
noncomputable def compE (G : List (Str × V)) : Nat → Rec
  | 0 => fun _ _ _ => .bad
  | k + 1 => fun b S e => mkE G (compE G k) S b e
end N226
end
noncomputable section
open PySem PySem.W PySem.Calls PyProof.Rows PySem.Builtin.Str
set_option maxRecDepth 10000
namespace N226
theorem inW.mono {a k : V} {H : MH} {P Q : Bool → Prop} (h : inW a k H P) (q : ∀ b, P b → Q b) : inW a k H Q := by
  rcases h with ⟨x, es, ep, a, b, c, d⟩ | ⟨x, vs, a, b, c, d, e⟩ | ⟨x, d, es, ep, a, b, c, d, e, f⟩ | ⟨x, y, a, b, c⟩
  · exact .inl ⟨x, es, ep, a, b, c, q _ d⟩
  · exact .inr (.inl ⟨x, vs, a, b, c, d, q _ e⟩)
  · exact .inr (.inr (.inl ⟨x, _, es, ep, a, b, c, d, e, q _ f⟩))
  · exact .inr (.inr (.inr ⟨x, y, a, b, q _ c⟩))
theorem plainBase_of {o : Expr} (h : plainBase o = true) (name : Str) (env : Env) : attributeBase o name env (eval o env) = eval o env := by
  cases o with
  | Call f as ks p => cases f with
    | Name x q => cases as with
      | nil => cases ks with
        | nil => cases h
        | cons _ _ => rfl
      | cons _ _ => rfl
    | _ => rfl
  | _ => rfl
theorem inner_tgt {S : St} {sc : Scope} {x : Str} (h : sc.names.lookup x = some .local) : (S.inner sc x).sc.names.lookup x = some .local := by
  have key : ∀ l : List (Str × NameKind), l.lookup x = some .local → (l.map fun (n, k) => if (k == NameKind.free && S.sc.names.lookup n == some .cell) then (n, NameKind.cell) else (n, k)).lookup x = some .local := by
    intro l
    induction l with
    | nil => intro h; cases h
    | cons p r ih =>
      obtain ⟨z, kz⟩ := p
      intro h
      rw [List.lookup_cons] at h
      rw [List.map_cons]
      by_cases e : x = z
      · subst e
        simp at h
        subst h
        simp
      · have e1 : (x == z) = false := by simpa using e
        rw [e1] at h
        have e2 : (x == (if (kz == NameKind.free && S.sc.names.lookup z == some .cell) then (z, NameKind.cell) else (z, kz)).1) = false := by split <;> simpa using e
        rw [List.lookup_cons, e2]
        exact ih h
  exact key _ h
section
variable {C : Cx} {S : St} {n : Nat} {ρ : Loc} {H : MH}
theorem WT.mono {e : Expr} {Q Q' : Bool → MH → Prop} (h : WT C S n e ρ H Q) (hQ : ∀ v H', Q v H' → Q' v H') : WT C S n e ρ H Q' :=
  ⟨fun A env s δ r eo F L => wpAny_mono (h.run A env s δ r eo F L) (fun _ _ ⟨δ', H', a, b, d⟩ => ⟨δ', H', a, b, hQ _ _ d⟩) fun _ _ x => x⟩
theorem WP.mono {o : Option Expr} {Q Q' : Option Int → MH → Prop} (h : WP C S n o ρ H Q) (hQ : ∀ v H', Q v H' → Q' v H') : WP C S n o ρ H Q' :=
  ⟨fun A env s δ r eo F L => wpAny_mono (h.run A env s δ r eo F L) (fun _ _ ⟨δ', H', p, a, b, c, d⟩ => ⟨δ', H', p, a, b, c, hQ _ _ d⟩) fun _ _ x => x⟩
theorem notin_ok {a k : V} {Q : V → MH → Prop} (h : notinW a k H fun b => Q (.bool b) H) : WOp2 C n (compareOp .NotIn) k a H Q := by
  obtain ⟨x, es, ep, e, hx, ik, q⟩ := h
  exact notIn_ok e hx ik q
variable {G : List (Str × V)}
noncomputable def Good (C : Cx) (n : Nat) (r : Rec) : Prop := ∀ (S : St) (e : Expr) (ρ : Loc) (H : MH),
  (∀ Q, (wps C n (r false S e)).e ρ H Q → WE C S n e ρ H Q) ∧ (∀ Q, (wps C n (r true S e)).t ρ H Q → WT C S n e ρ H Q)
theorem list_ok {r : Rec} (g : Good C n r) : ∀ (es : List Expr) (ρ : Loc) (H : MH) (Q : List V → MH → Prop), es.all notStarred = true → (wps C n ((es.map (r false S)).foldr .cons .nil)).l ρ H Q → WEs C S n es ρ H Q
  | [], ρ, H, Q, _, h => WEs_nil h
  | e :: es, ρ, H, Q, ha, h => by
    obtain ⟨h1, h2⟩ := Bool.and_eq_true_iff.mp (List.all_cons ▸ ha)
    exact WEs_cons h1 (((g S e ρ H).1 _ h).mono fun a H1 h' => list_ok g es ρ H1 _ h2 h')
theorem dict_ok {r : Rec} (g : Good C n r) : ∀ (ks : List (Option Expr)) (vs : List Expr) (ρ : Loc) (H : MH) (Q : List (V × V) → MH → Prop), ks.all (·.isSome) = true → ks.length = vs.length →
    (wps C n ((ks.zip vs).foldr (fun p t => .kv (partE r S p.1) (r false S p.2) t) .nil)).d ρ H Q → WEd C S n ks vs ρ H Q
  | [], [], ρ, H, Q, _, _, h => WEd_nil h
  | some a :: ks, b :: vs, ρ, H, Q, ha, hl, h => by
    have h2 : ks.all (·.isSome) = true := by simpa using ha
    exact WEd_cons (((g S a ρ H).1 _ h).mono fun x H1 h' => ((g S b ρ H1).1 _ h').mono fun y H2 h'' => dict_ok g ks vs ρ H2 _ h2 (by simpa using hl) h'')
  | none :: _, _ :: _, _, _, _, ha, _, _ => by simp at ha
  | [], _ :: _, _, _, _, _, hl, _ => by simp at hl
  | _ :: _, [], _, _, _, _, hl, _ => by simp at hl
theorem tand_ok {r : Rec} (g : Good C n r) {pos : Pos} : ∀ (es : List Expr) (ρ : Loc) (H : MH) (Q : Bool → MH → Prop), (wps C n ((es.map (r true S)).foldr .tand .ttrue)).t ρ H Q → WT C S n (.BoolOp .And es pos) ρ H Q
  | [], ρ, H, Q, h => WT_and0 h
  | e :: es, ρ, H, Q, h => WT_andc (((g S e ρ H).2 _ h).mono fun c H1 h' => by
    cases c
    · exact h'
    · exact tand_ok g es ρ H1 Q h')
theorem tor_ok {r : Rec} (g : Good C n r) {pos : Pos} : ∀ (es : List Expr) (ρ : Loc) (H : MH) (Q : Bool → MH → Prop), (wps C n ((es.map (r true S)).foldr .tor .tfalse)).t ρ H Q → WT C S n (.BoolOp .Or es pos) ρ H Q
  | [], ρ, H, Q, h => WT_or0 h
  | e :: es, ρ, H, Q, h => WT_orc (((g S e ρ H).2 _ h).mono fun c H1 h' => by
    cases c
    · exact tor_ok g es ρ H1 Q h'
    · exact h')
theorem andv_ok {r : Rec} (g : Good C n r) {pos : Pos} : ∀ (es : List Expr) (ρ : Loc) (H : MH) (Q : V → MH → Prop), (wps C n (andvs (es.map (r false S)))).e ρ H Q → WE C S n (.BoolOp .And es pos) ρ H Q
  | [], ρ, H, Q, h => h.elim
  | [e], ρ, H, Q, h => WE_bool1 ((g S e ρ H).1 _ h)
  | e :: e' :: es, ρ, H, Q, h => WE_and (((g S e ρ H).1 _ h).mono fun a H1 ⟨b, hb, h'⟩ => ⟨b, hb, by
    cases b
    · exact h'
    · exact andv_ok g (e' :: es) ρ H1 Q h'⟩)
theorem orv_ok {r : Rec} (g : Good C n r) {pos : Pos} : ∀ (es : List Expr) (ρ : Loc) (H : MH) (Q : V → MH → Prop), (wps C n (orvs (es.map (r false S)))).e ρ H Q → WE C S n (.BoolOp .Or es pos) ρ H Q
  | [], ρ, H, Q, h => h.elim
  | [e], ρ, H, Q, h => WE_bool1 ((g S e ρ H).1 _ h)
  | e :: e' :: es, ρ, H, Q, h => WE_or (((g S e ρ H).1 _ h).mono fun a H1 ⟨b, hb, h'⟩ => ⟨b, hb, by
    cases b
    · exact orv_ok g (e' :: es) ρ H1 Q h'
    · exact h'⟩)
set_option tactic.hygienic true in
theorem name_ok (hG : ∀ x v, G.lookup x = some v → GlobIs C x v) {x : Str} {pos : Pos} {Q : V → MH → Prop} (h : (wps C n (nameE G S x)).e ρ H Q) : WE C S n (.Name x pos) ρ H Q := by
  unfold nameE at h
  by_cases hd : (x == debugName) = true
  · rw [if_pos hd] at h; exact h.elim
  rw [if_neg hd] at h
  have hd' : (x == ("__debug__" : Str)) = false := by
    rw [← debugName_eq]; simpa using hd
  cases hk : S.sc.names.lookup x with
  | none => rw [hk] at h; exact h.elim
  | some k =>
    rw [hk] at h
    cases k with
    | «local» =>
      cases hx : idx S.ns x with
      | none => rw [hx] at h; exact h.elim
      | some i =>
        rw [hx] at h
        obtain ⟨v, hv, q⟩ := onV_elim h
        exact WE_local hx hk hd' hv q
    | cell =>
      cases hx : idx S.ns x with
      | none => rw [hx] at h; exact h.elim
      | some i =>
        rw [hx] at h
        obtain ⟨v, hv, q⟩ := onV_elim h
        exact WE_cell hx hk hd' hv q
    | globalImplicit =>
      cases hv : G.lookup x with
      | none => rw [hv] at h; exact h.elim
      | some v =>
        rw [hv] at h
        by_cases hj : v = .junk
        · subst hj; exact h.elim
        · have h : (wps C n (if v = .junk then E.bad else .con v)).e ρ H Q := h
          rw [if_neg hj] at h
          exact WE_glob (hG x v hv) hk hd' hj h
    | _ => exact h.elim
theorem part_ok {r : Rec} (g : Good C n r) {o : Option Expr} {Q : Option Int → MH → Prop} (h : partW o.isSome (wps C n (partE r S o)).e ρ H Q) : WP C S n o ρ H Q := by
  cases o with
  | none => exact WP_none h
  | some e => exact WP_some ((g S e ρ H).1 _ h)
theorem comp_ok {r : Rec} (g : Good C n r) {elt iter : Expr} {x : Str} {ifs : List Expr} {sc : Scope} {Q : List V → MH → Prop} (hok : compOK S sc x = true) {src : Src} {done : List V}
    (h : compW (wps C n (r false (S.inner sc x) elt)).e (wps C n (condsE r (S.inner sc x) ifs)).t ρ Q src done H) : WCmp C (S.inner sc x) n elt iter ifs x src done ρ H Q := by
  refine h (fun src done H => WCmp C (S.inner sc x) n elt iter ifs x src done ρ H Q) fun src done H P' hP ht => ?_
  have hx : idx (S.inner sc x).ns x = some 0 := by
    show idx (x :: S.ns) x = some 0
    unfold idx; rw [List.findIdx?_cons]; simp
  have hk := inner_tgt (S := S) (CompOK.of hok).tgt
  unfold compTurn at ht
  cases hi : src.item H with
  | none => rw [hi] at ht; exact ht.elim
  | some r =>
    rw [hi] at ht
    refine WCmp.turn hx hk hi ?_
    cases r with
    | none => exact ht
    | some v =>
      dsimp only at ht ⊢
      have step : ∀ b H1, (bif b then (wps C n (r false (S.inner sc x) elt)).e (inLoc (some v) ρ) H1 (fun y H2 => done.length ≤ lim ∧ P' src.next (done ++ [y]) H2) else P' src.next done H1) →
          (if b = true then WE C (S.inner sc x) n elt (inLoc (some v) ρ) H1 fun y H2 => done.length ≤ lim ∧ WCmp C (S.inner sc x) n elt iter ifs x src.next (done ++ [y]) ρ H2 Q else WCmp C (S.inner sc x) n elt iter ifs x src.next done ρ H1 Q) := fun b H1 h' => by
        cases b
        · exact hP _ _ _ h'
        · exact ((g (S.inner sc x) elt _ H1).1 _ h').mono fun y H2 ⟨a, c⟩ => ⟨a, hP _ _ _ c⟩
      match ifs, ht with
      | [], ht => exact step true H ht
      | [c], ht => exact ((g (S.inner sc x) c _ H).2 _ ht).mono step
      | _ :: _ :: _, ht => exact ht.elim
theorem isGlob_of {x : Str} {t : String} (h : isGlob G S x (.ty t) = true) : nameE G S x = .con (.ty t) := by
  unfold isGlob at h
  rw [Bool.and_eq_true, Bool.and_eq_true, decide_eq_true_eq, decide_eq_true_eq] at h
  obtain ⟨⟨h1, h2⟩, h3⟩ := h
  unfold nameE
  rw [h2, h3, if_neg (fun e => by rw [e] at h1; cases h1)]
  exact if_neg (njk rfl)
theorem one_of {α : Type} {l : List α} {x : α} (h : one l = some x) : l = [x] := by
  match l, h with
  | [y], h => cases h; rfl
theorem genOf_of {gs : List Comprehension} {q : Str × Expr × List Expr} (h : genOf gs = some q) : ∃ p, gs = [⟨.Name q.1 p, q.2.1, q.2.2, 0⟩] := by
  unfold genOf at h
  obtain ⟨g, h1, h⟩ := Option.bind_eq_some_iff.mp h
  obtain ⟨x, h2, h⟩ := Option.bind_eq_some_iff.mp h
  obtain ⟨p, h3⟩ := nameOf_of h2
  split at h
  · rename_i h4
    cases h
    obtain ⟨t, it, ifs, a⟩ := g
    dsimp only at h3 h4
    subst h3 h4
    exact ⟨p, one_of h1⟩
  · cases h
theorem lzipOf_of {f : Expr} {es as : List Expr} (h : lzipOf G S f es = some as) : ∃ l lp z zp p3, f = .Name l lp ∧ es = [.Call (.Name z zp) as [] p3] ∧ nameE G S l = .con (.ty "list") ∧ nameE G S z = .con (.ty "zip") ∧ as.all notStarred = true := by
  unfold lzipOf at h
  obtain ⟨l, h1, h⟩ := Option.bind_eq_some_iff.mp h
  obtain ⟨c, h2, h⟩ := Option.bind_eq_some_iff.mp h
  obtain ⟨q, h3, h⟩ := Option.bind_eq_some_iff.mp h
  obtain ⟨lp, hl⟩ := nameOf_of h1
  obtain ⟨p3, hc3⟩ := callOf_of h3
  obtain ⟨qf, qa, qk⟩ := q
  dsimp only at h hc3
  split at h
  · rename_i h4
    obtain ⟨z, h5, h⟩ := Option.bind_eq_some_iff.mp h
    obtain ⟨zp, h6⟩ := nameOf_of h5
    split at h
    · rename_i hc
      cases h
      simp only [Bool.and_eq_true] at hc
      subst h6
      obtain rfl : qk = [] := List.isEmpty_iff.mp h4
      exact ⟨_, _, _, _, _, hl, hc3 ▸ one_of h2, isGlob_of hc.1.1, isGlob_of hc.1.2, hc.2⟩
    · cases h
  · cases h
theorem cmp1_ok {op : CmpOp} {l q : Expr} {pos : Pos} {a b : E} {Q : V → MH → Prop} (hm : behindInMarks op q = false) (ha : ∀ {ρ H} Q, (wps C n a).e ρ H Q → WE C S n l ρ H Q) (hb : ∀ {ρ H} Q, (wps C n b).e ρ H Q → WE C S n q ρ H Q) (h : (wps C n (cmp1 op a b)).e ρ H Q) : WE C S n (.Compare l [op] [q] pos) ρ H Q := by
  cases op <;> first
    | exact WE_cmp hm ((ha _ h).mono fun a H1 h1 => (hb _ h1).mono fun b H2 h2 => in_ok h2)
    | exact WE_cmp hm ((ha _ h).mono fun a H1 h1 => (hb _ h1).mono fun b H2 h2 => notin_ok h2)
    | exact WE_cmp hm ((ha _ h).mono fun a H1 h1 => (hb _ h1).mono fun b H2 h2 => cmp_ok h2)
theorem cmp1T_ok {op : CmpOp} {l q : Expr} {pos : Pos} {a b : E} {Q : Bool → MH → Prop} (hm : behindInMarks op q = false) (ha : ∀ {ρ H} Q, (wps C n a).e ρ H Q → WE C S n l ρ H Q) (hb : ∀ {ρ H} Q, (wps C n b).e ρ H Q → WE C S n q ρ H Q) (h : (wps C n (cmp1T op a b)).t ρ H Q) : WT C S n (.Compare l [op] [q] pos) ρ H Q := by
  cases op <;> first
    | exact WT_cmp hm ((ha _ h).mono fun a H1 h1 => (hb _ h1).mono fun b H2 h2 => in_ok (h2.mono fun c q => ⟨c, rfl, q⟩))
    | exact WT_cmp hm ((ha _ h).mono fun a H1 h1 => (hb _ h1).mono fun b H2 ⟨x, es, ep, a, b, c, d⟩ => notin_ok ⟨x, es, ep, a, b, c, _, rfl, d⟩)
    | exact WT_cmp hm ((ha _ h).mono fun a H1 h1 => (hb _ h1).mono fun b H2 h2 => cmp_ok h2)
section
variable {r : Rec} {Q : V → MH → Prop} {T : Bool → MH → Prop} {pos : Pos}
theorem cmpE_ok (g : Good C n r) {l : Expr} {ops : List CmpOp} {rs : List Expr} (h : (wps C n (cmpE r S l ops rs)).e ρ H Q) : WE C S n (.Compare l ops rs pos) ρ H Q := by
  unfold cmpE at h
  cases h1 : one ops with
  | none => rw [h1] at h; exact h.elim
  | some op =>
    cases h2 : one rs with
    | none => rw [h1, h2] at h; exact h.elim
    | some q =>
      rw [h1, h2] at h
      obtain rfl := one_of h1
      obtain rfl := one_of h2
      dsimp only at h
      split at h
      · exact h.elim
      · rename_i hm
        exact cmp1_ok (Bool.eq_false_iff.mpr hm) (fun {ρ H} => (g S l ρ H).1) (fun {ρ H} => (g S q ρ H).1) h
theorem cmpT_ok (g : Good C n r) {l : Expr} {ops : List CmpOp} {rs : List Expr} (h : (wps C n (cmpT r S l ops rs)).t ρ H T) : WT C S n (.Compare l ops rs pos) ρ H T := by
  unfold cmpT at h
  cases h1 : one ops with
  | none => rw [h1] at h; exact h.elim
  | some op =>
    cases h2 : one rs with
    | none => rw [h1, h2] at h; exact h.elim
    | some q =>
      rw [h1, h2] at h
      obtain rfl := one_of h1
      obtain rfl := one_of h2
      dsimp only at h
      split at h
      · exact h.elim
      · rename_i hm
        exact cmp1T_ok (Bool.eq_false_iff.mpr hm) (fun {ρ H} => (g S l ρ H).1) (fun {ρ H} => (g S q ρ H).1) h
set_option tactic.hygienic true in
theorem attrE_ok (g : Good C n r) {x : Expr} {name : Str} (h : (wps C n (attrE r S x name)).e ρ H Q) : WE C S n (.Attribute x name pos) ρ H Q := by
  unfold attrE at h
  split at h
  · rename_i hb
    split at h
    · rename_i i hi
      exact WE_attr (fun env => plainBase_of hb _ env) (((g S _ ρ H).1 _ h).mono fun a H1 h1 => h1 _ hi)
    · exact h.elim
  · exact h.elim
set_option tactic.hygienic true in
theorem methE_ok (g : Good C n r) {o : Expr} {name : Str} {apos : Pos} {es : List Expr} (h : (wps C n (methE r S o name apos pos es)).e ρ H Q) : WE C S n (.Call (.Attribute o name apos) es [] pos) ρ H Q := by
  unfold methE at h
  split at h
  · rename_i hc
    simp only [Bool.and_eq_true] at hc
    split at h
    · rename_i i hi
      exact WE_meth (fun env => plainBase_of hc.1.1.1 _ env) hc.1.1.2 hc.1.2 hc.2 (((g S _ ρ H).1 _ h).mono fun a H1 h1 => by
        have h1 := h1 _ hi
        exact ⟨fun A s δ a' pl L ha => wpAny_mono (h1.run A s δ a' pl L ha) (fun r s' ⟨x, y, z⟩ => ⟨x, y, list_ok g _ ρ H1 _ hc.1.1.2 z⟩) fun _ _ x => x⟩)
    · exact h.elim
  · exact h.elim
theorem funE_ok (hG : ∀ x v, G.lookup x = some v → GlobIs C x v) (g : Good C n r) {f : Expr} {es : List Expr} (h : (wps C n (funE G r S f es)).e ρ H Q) : WE C S n (.Call f es [] pos) ρ H Q := by
  unfold funE at h
  split at h
  · rename_i ha
    obtain ⟨l, lp, z, zp, p3, rfl, rfl, e1, e2, hn⟩ := lzipOf_of ha
    exact WE_lzip rfl rfl hn (name_ok hG (e1 ▸ ⟨rfl, name_ok hG (e2 ▸ ⟨rfl, list_ok g _ ρ H _ hn h⟩)⟩))
  · split at h
    · rename_i hc
      simp only [Bool.and_eq_true] at hc
      exact WE_call hc.1 hc.2 (((g S _ ρ H).1 _ h).mono fun a H1 h1 => list_ok g _ ρ H1 _ hc.2 h1)
    · exact h.elim
set_option tactic.hygienic true in
theorem callE_ok (hG : ∀ x v, G.lookup x = some v → GlobIs C x v) (g : Good C n r) {f : Expr} {es : List Expr} {ks : List Keyword} (h : (wps C n (callE G r S f es ks pos)).e ρ H Q) : WE C S n (.Call f es ks pos) ρ H Q := by
  unfold callE at h
  split at h
  · rename_i hk
    obtain rfl := List.isEmpty_iff.mp hk
    split at h
    · rename_i q hq
      obtain rfl := attrOf_of hq
      exact methE_ok g h
    · exact funE_ok hG g h
  · exact h.elim
set_option tactic.hygienic true in
theorem subE_ok (g : Good C n r) {x i : Expr} (h : (wps C n (subE r S x i)).e ρ H Q) : WE C S n (.Subscript x i pos) ρ H Q := by
  unfold subE at h
  split at h
  · rename_i q hq
    obtain ⟨p, rfl⟩ := sliceOf_of hq
    split at h
    · rename_i hn
      obtain ⟨a, b, c⟩ := q
      obtain rfl : c = none := Option.isNone_iff_eq_none.mp hn
      exact WE_slice (((g S _ ρ H).1 _ h).mono fun a H1 h1 => WP.mono (part_ok g h1) fun l H2 h2 => part_ok g h2)
    · exact h.elim
  · split at h
    · rename_i hs
      exact WE_sub hs (((g S _ ρ H).1 _ h).mono fun a H1 h1 => ((g S _ ρ H1).1 _ h1).mono fun b H2 h2 => h2)
    · exact h.elim
theorem tupE_ok (g : Good C n r) {es : List Expr} {k : Nat} (h : (wps C n (tupE r S es)).e ρ H Q) : WE C S n (.Tuple es k pos) ρ H Q := by
  unfold tupE at h
  split at h
  · rename_i hs; exact WE_tuple (list_ok g _ ρ H _ hs h)
  · exact h.elim
theorem listE_ok (g : Good C n r) {es : List Expr} (h : (wps C n (listE r S es)).e ρ H Q) : WE C S n (.List es pos) ρ H Q := by
  unfold listE at h
  split at h
  · rename_i hs; exact WE_list (list_ok g _ ρ H _ hs h)
  · exact h.elim
theorem dictE_ok (g : Good C n r) {ks : List (Option Expr)} {vs : List Expr} (h : (wps C n (dictE r S ks vs)).e ρ H Q) : WE C S n (.Dict ks vs pos) ρ H Q := by
  unfold dictE at h
  split at h
  · rename_i h1
    split at h
    · rename_i h2
      obtain rfl := List.isEmpty_iff.mp h1
      obtain rfl := List.isEmpty_iff.mp h2
      exact WE_dict0 h
    · exact h.elim
  · rename_i hne
    split at h
    · rename_i hc
      simp only [Bool.and_eq_true, beq_iff_eq, decide_eq_true_eq] at hc
      exact WE_dict hc.1.1 hc.1.2 (fun e => hne (List.isEmpty_iff.mpr e)) hc.2 (dict_ok g _ _ ρ H _ hc.1.1 hc.1.2 h)
    · exact h.elim
set_option tactic.hygienic true in
theorem lcompE_ok (g : Good C n r) {elt : Expr} {gens : List Comprehension} {sc : Scope} (h : (wps C n (lcompE r S elt gens sc)).e ρ H Q) : WE C S n (.ListComp elt gens sc pos) ρ H Q := by
  unfold lcompE at h
  split at h
  · rename_i q hq
    obtain ⟨p, rfl⟩ := genOf_of hq
    split at h
    · rename_i hc
      simp only [Bool.and_eq_true] at hc
      exact WE_comp hc.1 hc.2 (((g S _ ρ H).1 _ h).mono fun xv H1 ⟨src, hi, h1⟩ => ⟨src, hi, comp_ok g hc.1 h1⟩)
    · exact h.elim
  · exact h.elim
theorem plainT_ok (g : Good C n r) {e : Expr} (h : (wps C n (plainT r S e)).t ρ H T) : WT C S n e ρ H T := by
  unfold plainT at h
  split at h
  · rename_i hp; exact WT_plain hp ((g S _ ρ H).1 _ h)
  · exact h.elim
theorem sound_v (hG : ∀ x v, G.lookup x = some v → GlobIs C x v) (g : Good C n r) {e : Expr} (h : (wps C n (mkV G r S e)).e ρ H Q) : WE C S n e ρ H Q := by
  cases e with
  | Constant c _ _ => cases c <;> first | exact WE_none h | exact WE_bool h | exact WE_int h | exact WE_str h | exact h.elim
  | Name x _ => exact name_ok hG h
  | BinOp l op q _ => exact WE_bin (((g S _ ρ H).1 _ h).mono fun a H1 h1 => ((g S _ ρ H1).1 _ h1).mono fun b H2 h2 => bin_ok h2)
  | UnaryOp op x _ => cases op <;> first | exact WE_un (((g S _ ρ H).1 _ h).mono fun a H1 ⟨i, e, q⟩ => e ▸ neg_ok q) | exact h.elim
  | Compare l ops rs _ => exact cmpE_ok g h
  | BoolOp op xs _ => cases op <;> first | exact andv_ok g _ ρ H Q h | exact orv_ok g _ ρ H Q h
  | IfExp t a b _ => exact WE_ite (((g S _ ρ H).2 _ h).mono fun c H1 h1 => by
      cases c
      · exact (g S _ ρ H1).1 _ h1
      · exact (g S _ ρ H1).1 _ h1)
  | Attribute x name _ => exact attrE_ok g h
  | Call f es ks pos => exact callE_ok hG g h
  | Subscript x i _ => exact subE_ok g h
  | Tuple es _ _ => exact tupE_ok g h
  | List es _ => exact listE_ok g h
  | Dict ks vs _ => exact dictE_ok g h
  | ListComp elt gens sc _ => exact lcompE_ok g h
  | _ => exact h.elim
theorem sound_t (g : Good C n r) {e : Expr} (h : (wps C n (mkT r S e)).t ρ H T) : WT C S n e ρ H T := by
  cases e with
  | UnaryOp op x _ => cases op <;> first | exact WT_not ((g S _ ρ H).2 _ h) | exact plainT_ok g h
  | BoolOp op xs _ => cases op <;> first | exact tand_ok g _ ρ H T h | exact tor_ok g _ ρ H T h
  | IfExp t a b _ => exact WT_ite (((g S _ ρ H).2 _ h).mono fun c H1 h1 => by
      cases c
      · exact (g S _ ρ H1).2 _ h1
      · exact (g S _ ρ H1).2 _ h1)
  | Compare l ops rs _ => exact cmpT_ok g h
  | _ => exact plainT_ok g h
end
theorem good (hG : ∀ x v, G.lookup x = some v → GlobIs C x v) : ∀ k, Good C n (compE G k)
  | 0 => fun S e ρ H => ⟨fun Q h => h.elim, fun Q h => h.elim⟩
  | k + 1 => fun S e ρ H => ⟨fun Q h => sound_v hG (good hG k) h, fun Q h => sound_t (good hG k) h⟩
end
end N226
end
noncomputable section
open PySem PySem.W PySem.Calls PyProof.Rows PySem.Builtin.Str
set_option maxRecDepth 10000
namespace N226
set_option genInjectivity false in
set_option genSizeOf false in
set_option genSizeOfSpec false in
inductive Tg where
  | bad | one (i : Nat) | many (is : List Nat)
noncomputable def asgW (t : Tg) (v : V) (ρ : Loc) (H : MH) (Q : Loc → MH → Prop) : Prop := match t with
  | .bad => False
  | .one i => Q (ρ.set i v) H
  | .many is => ∃ a vs, v = .ref a ∧ H a = some (.tuple vs) ∧ vs.length = is.length ∧ Q (setAll ρ is vs) H
set_option genInjectivity false in
set_option genSizeOf false in
set_option genSizeOfSpec false in
inductive K where
  | bad | pass
  | expr (e : E) | set (i : Nat) (e : E) | setA (o : E) (i : Nat) (e : E) | setI (o i e : E)
  | unpack (t : Tg) (e : E) | swap (is : List Nat) (e : E)
  | ifs (t : E) (a b : K) | whil (t : E) (b : K) | fors (t : Tg) (iter : E) (b : K)
  | ret (e : E) | ret0
  | nil | seq (s rest : K)
noncomputable abbrev PK := Loc → MH → (Fl → Loc → MH → Prop) → Prop
noncomputable def whileTurn' (Wt : PT) (Wb : PK) (Q : Fl → Loc → MH → Prop) (P : Loc → MH → Prop) (ρ : Loc) (H : MH) : Prop :=
  Wt ρ H fun c H1 => bif c then Wb ρ H1 (loopQ P Q) else Q .next ρ H1
noncomputable def whileW (Wt : PT) (Wb : PK) (Q : Fl → Loc → MH → Prop) (ρ : Loc) (H : MH) : Prop :=
  ∀ P : Loc → MH → Prop, (∀ ρ H P', (∀ r h, P' r h → P r h) → whileTurn' Wt Wb Q P' ρ H → P ρ H) → P ρ H
theorem whileW.turn {Wt : PT} {Wb : PK} {Q : Fl → Loc → MH → Prop} {ρ : Loc} {H : MH} (h : whileTurn' Wt Wb Q (whileW Wt Wb Q) ρ H) : whileW Wt Wb Q ρ H :=
  fun P hP => hP ρ H _ (fun r h' x => x P hP) h
noncomputable def forTurn' (t : Tg) (Wb : PK) (Q : Fl → Loc → MH → Prop) (P : Src → Loc → MH → Prop) (src : Src) (ρ : Loc) (H : MH) : Prop := match src.item H with
  | some none => Q .next ρ H
  | some (some v) => asgW t v ρ H fun ρ1 H1 => Wb ρ1 H1 (loopQ (fun ρ2 H2 => P src.next ρ2 H2) Q)
  | none => False
noncomputable def forW (t : Tg) (Wb : PK) (Q : Fl → Loc → MH → Prop) (src : Src) (ρ : Loc) (H : MH) : Prop :=
  ∀ P : Src → Loc → MH → Prop, (∀ src ρ H P', (∀ s r h, P' s r h → P s r h) → forTurn' t Wb Q P' src ρ H → P src ρ H) → P src ρ H
theorem forW.turn {t : Tg} {Wb : PK} {Q : Fl → Loc → MH → Prop} {src : Src} {ρ : Loc} {H : MH} (h : forTurn' t Wb Q (forW t Wb Q) src ρ H) : forW t Wb Q src ρ H :=
  fun P hP => hP src ρ H _ (fun s r h' x => x P hP) h
noncomputable def isNoRef (v : V) : Prop := ∀ a, v ≠ .ref a
noncomputable def itemW (C : Cx) (n : Nat) (a k v : V) (H : MH) (Q : MH → Prop) : Prop := WItm C n a k v H Q
noncomputable def seqQ (P : Loc → MH → Prop) (Q : Fl → Loc → MH → Prop) : Fl → Loc → MH → Prop := fun f ρ H => match f with
  | .next => P ρ H
  | f => Q f ρ H
noncomputable def wpK (C : Cx) (n : Nat) : K → PK
  | .bad => fun _ _ _ => False
  | .pass => fun ρ H Q => Q .next ρ H
  | .expr e => fun ρ H Q => wpE C n e ρ H fun v H1 => isNoRef v ∧ Q .next ρ H1
  | .set i e => fun ρ H Q => wpE C n e ρ H fun v H1 => Q .next (ρ.set i v) H1
  | .setA o i e => fun ρ H Q => wpE C n e ρ H fun v H1 => wpE C n o ρ H1 fun a H2 => setW C n i a v H2 fun H3 => Q .next ρ H3
  | .setI o i e => fun ρ H Q => wpE C n e ρ H fun v H1 => wpE C n o ρ H1 fun a H2 => wpE C n i ρ H2 fun k H3 => itemW C n a k v H3 fun H4 => Q .next ρ H4
  | .unpack t e => fun ρ H Q => wpE C n e ρ H fun v H1 => asgW t v ρ H1 fun ρ' H' => Q .next ρ' H'
  | .swap is e => fun ρ H Q => wpE C n e ρ H fun v H1 => ∃ t us, v = .ref t ∧ H1 t = some (.tuple us) ∧ us.length = is.length ∧ Q .next (setAll ρ is us.reverse) H1
  | .ifs t a b => fun ρ H Q => wpT C n t ρ H fun c H1 => bif c then wpK C n a ρ H1 Q else wpK C n b ρ H1 Q
  | .whil t b => fun ρ H Q => whileW (wpT C n t) (wpK C n b) Q ρ H
  | .fors t iter b => fun ρ H Q => wpE C n iter ρ H fun x H1 => ∃ src, iterOf H1 x = some src ∧ forW t (wpK C n b) Q src ρ H1
  | .ret e => fun ρ H Q => wpE C n e ρ H fun v H1 => Q (.ret v) ρ H1
  | .ret0 => fun ρ H Q => Q (.ret .none) ρ H
  | .nil => fun ρ H Q => Q .next ρ H
  | .seq s r => fun ρ H Q => wpK C n s ρ H (seqQ (fun ρ1 H1 => wpK C n r ρ1 H1 Q) Q)
noncomputable def tgOf (S : St) (e : Expr) : Tg := match xv e with
  | .name x _ => (idx S.ns x).elim .bad fun i => if canStore S x then .one i else .bad
  | .tup es _ _ => ((namesOf es).bind (idxs S)).elim .bad .many
  | _ => .bad
noncomputable def isTuple (e : Expr) : Bool := Nat.beq e.ctorIdx 24 || Nat.beq e.ctorIdx 25
section
variable (G : List (Str × V)) (r : St → Stmt → K) (S : St)
noncomputable abbrev ceE (e : Expr) : E := compE G 30 false S e
noncomputable def seqK (b : List Stmt) : K := (b.map (r S)).foldr .seq .nil
noncomputable def nameK (x : Str) (tp spos : Pos) (e : Expr) : K := (idx S.ns x).elim .bad fun i =>
  (lcOf e).elim (if canStore S x && notComp e then .set i (ceE G S e) else .bad) fun q => (genOf q.2.1).elim .bad fun g =>
    if swapTo S q.2.2.1 x tp q.2.2.2 spos.line && (compOK S q.2.2.1 g.1 && notSet g.2.1) then .set i (ceE G S e) else .bad
noncomputable def attrK (o : Expr) (name : Str) (e : Expr) : K := (idx AN name).elim .bad fun i => if notComp e then .setA (ceE G S o) i (ceE G S e) else .bad
noncomputable def tupK (ts : List Expr) (k : Nat) (p : Pos) (e : Expr) : K := (tupOf e).elim (if notComp e && !isTuple e then .unpack (tgOf S (.Tuple ts k p)) (ceE G S e) else .bad) fun q =>
  (swapNames S ts q.1).elim .bad fun names => (idxs S names.reverse).elim .bad fun is => if is.length == names.length then .swap is (ceE G S e) else .bad
noncomputable def asgK (t e : Expr) (spos : Pos) : K := match xv t with
  | .name x tp => nameK G S x tp spos e
  | .attr o name _ => attrK G S o name e
  | .sub o i _ => if notComp e then .setI (ceE G S o) (ceE G S i) (ceE G S e) else .bad
  | .tup ts k p => tupK G S ts k p e
  | _ => .bad
noncomputable def retK (o : Option Expr) : K := match o with
  | some e => .ret (ceE G S e)
  | none => .ret0
noncomputable def mkK (st : Stmt) : K := match st with
  | .Pass _ => .pass
  | .Expr e _ => if notComp e then .expr (ceE G S e) else .bad
  | .Return o _ => retK G S o
  | .If t a b _ => .ifs (compE G 30 true S t) (seqK r S a) (seqK r S b)
  | .While t b o _ => if o.isEmpty then .whil (compE G 30 true S t) (seqK r S b) else .bad
  | .For t iter b o _ => if o.isEmpty && notSet iter then .fors (tgOf S t) (ceE G S iter) (seqK r S b) else .bad
  | .Assign ts e p => (one ts).elim .bad fun t => asgK G S t e p
  | _ => .bad
end
noncomputable def compK (G : List (Str × V)) : Nat → St → Stmt → K
  | 0 => fun _ _ => .bad
  | k + 1 => fun S st => mkK G (compK G k) S st
noncomputable def bodyOf (G : List (Str × V)) (S : St) (b : List Stmt) : K := (b.map (compK G 30 S)).foldr .seq .nil
section
variable {C : Cx} {S : St} {n : Nat} {ρ : Loc} {H : MH} {G : List (Str × V)}
theorem WSs.mono {b : List Stmt} {Q Q' : Fl → Loc → MH → Prop} (h : WSs C S n b ρ H Q) (hQ : ∀ f ρ' H', Q f ρ' H' → Q' f ρ' H') : WSs C S n b ρ H Q' :=
  ⟨fun A env s δ r eo F L => wpAny_mono (h.run A env s δ r eo F L) (fun _ _ => .imp fun δ' => .imp fun H' => .imp fun ρ' h => ⟨h.1, h.2.1, h.2.2.1, h.2.2.2.1, hQ _ _ _ h.2.2.2.2⟩) fun _ _ x => x⟩
theorem WS.mono {b : Stmt} {Q Q' : Fl → Loc → MH → Prop} (h : WS C S n b ρ H Q) (hQ : ∀ f ρ' H', Q f ρ' H' → Q' f ρ' H') : WS C S n b ρ H Q' :=
  ⟨fun A env s δ r eo F L => wpAny_mono (h.run A env s δ r eo F L) (fun _ _ => .imp fun δ' => .imp fun H' => .imp fun ρ' h => ⟨h.1, h.2.1, h.2.2.1, h.2.2.2.1, hQ _ _ _ h.2.2.2.2⟩) fun _ _ x => x⟩
theorem WAsg.mono {t : Expr} {v : V} {Q Q' : Loc → MH → Prop} (h : WAsg C S n t v ρ H Q) (hQ : ∀ ρ' H', Q ρ' H' → Q' ρ' H') : WAsg C S n t v ρ H Q' :=
  ⟨fun A env s δ v' r eo F L e j => wpAny_mono (h.run A env s δ v' r eo F L e j) (fun _ _ => .imp fun δ' => .imp fun H' => .imp fun ρ' h => ⟨h.1, h.2.1, h.2.2.1, hQ _ _ h.2.2.2⟩) fun _ _ x => x⟩
theorem loopQ.mono {P P' : Loc → MH → Prop} {Q : Fl → Loc → MH → Prop} (h : ∀ r h, P' r h → P r h) : ∀ f ρ H, loopQ P' Q f ρ H → loopQ P Q f ρ H := fun f ρ H x => by
  cases f with
  | next => exact h _ _ x
  | cont => exact h _ _ x
  | brk => exact x
  | ret v => exact x
theorem idxs_len {xs : List Str} {is : List Nat} (h : idxs S xs = some is) : is.length = xs.length := (idxs_pair h).length.symm
theorem tE {α : Type} {o : Option α} {f : α → Tg} {v : V} {Q : Loc → MH → Prop} (h : asgW (o.elim .bad f) v ρ H Q) : ∃ x, o = some x ∧ asgW (f x) v ρ H Q := by
  cases o with
  | none => exact h.elim
  | some x => exact ⟨x, rfl, h⟩
set_option tactic.hygienic true in
theorem asg_ok {t : Expr} {v : V} {Q : Loc → MH → Prop} (h : asgW (tgOf S t) v ρ H Q) : WAsg C S n t v ρ H Q := by
  have k := xv_ok t
  unfold tgOf at h
  revert h k
  generalize xv t = w
  cases w with
  | name x p =>
    intro h k
    obtain ⟨i, hx, h⟩ := tE h
    by_cases hk : canStore S x = true
    · rw [if_pos hk] at h
      cases k
      exact WAsg_name hx hk h
    · rw [if_neg hk] at h; exact h.elim
  | tup es p q =>
    intro h k
    obtain ⟨is, hx, a, vs, hv, ha, hl, q⟩ := tE h
    obtain ⟨xs, hn, hi⟩ := Option.bind_eq_some_iff.mp hx
    cases k
    exact WAsg_tuple hn hi hv ha (hl.trans (idxs_len hi)) q
  | _ => exact fun h k => h.elim
noncomputable def GoodK (C : Cx) (n : Nat) (r : St → Stmt → K) : Prop := ∀ (S : St) (st : Stmt) (ρ : Loc) (H : MH) (Q : Fl → Loc → MH → Prop), wpK C n (r S st) ρ H Q → WS C S n st ρ H Q
theorem body_ok {r : St → Stmt → K} (g : GoodK C n r) : ∀ (b : List Stmt) (ρ : Loc) (H : MH) (Q : Fl → Loc → MH → Prop), wpK C n (seqK r S b) ρ H Q → WSs C S n b ρ H Q
  | [], ρ, H, Q, h => WSs_nil h
  | st :: b, ρ, H, Q, h => WSs_cons ((g S st ρ H _ h).mono fun f ρ1 H1 h1 => by
    cases f with
    | next => exact body_ok g b ρ1 H1 Q h1
    | brk => exact h1
    | cont => exact h1
    | ret v => exact h1)
theorem while_ok {r : St → Stmt → K} (hG : ∀ x v, G.lookup x = some v → GlobIs C x v) (g : GoodK C n r) {t : Expr} {b : List Stmt} {Q : Fl → Loc → MH → Prop} (h : whileW (wpT C n (compE G 30 true S t)) (wpK C n (seqK r S b)) Q ρ H) : WWh C S n t b ρ H Q := by
  refine h (fun ρ H => WWh C S n t b ρ H Q) fun ρ H P' hP ht => WWh.turn (((good hG 30 S t ρ H).2 _ ht).mono fun c H1 h1 => ?_)
  cases c
  · exact h1
  · exact (body_ok g b ρ H1 _ h1).mono (loopQ.mono hP)
theorem for_ok {r : St → Stmt → K} (g : GoodK C n r) {t : Expr} {b : List Stmt} {Q : Fl → Loc → MH → Prop} {src : Src} (h : forW (tgOf S t) (wpK C n (seqK r S b)) Q src ρ H) : WFor C S n t b src ρ H Q := by
  refine h (fun src ρ H => WFor C S n t b src ρ H Q) fun src ρ H P' hP ht => ?_
  unfold forTurn' at ht
  cases hi : src.item H with
  | none => rw [hi] at ht; exact ht.elim
  | some r =>
    rw [hi] at ht
    refine WFor.turn hi ?_
    cases r with
    | none => exact ht
    | some v => exact (asg_ok ht).mono fun ρ1 H1 h1 => (body_ok g b ρ1 H1 _ h1).mono (loopQ.mono fun r h' x => hP _ _ _ x)
theorem swapped_none {env : Env} {es : List Expr} {k : Nat} {p : Pos} {value : Expr} (h : isTuple value = false) : swappedStores [.Tuple es k p] value env = pure none := by
  cases value <;> first | exact Eq.refl (pure none) | cases h
theorem kE {α : Type} {o : Option α} {f : α → K} {Q : Fl → Loc → MH → Prop} (h : wpK C n (o.elim .bad f) ρ H Q) : ∃ x, o = some x ∧ wpK C n (f x) ρ H Q := by
  cases o with
  | none => exact h.elim
  | some x => exact ⟨x, rfl, h⟩
theorem kO {α : Type} {o : Option α} {k : K} {f : α → K} {Q : Fl → Loc → MH → Prop} (h : wpK C n (o.elim k f) ρ H Q) : (o = none ∧ wpK C n k ρ H Q) ∨ ∃ x, o = some x ∧ wpK C n (f x) ρ H Q := by
  cases o with
  | none => exact .inl ⟨rfl, h⟩
  | some x => exact .inr ⟨x, rfl, h⟩
theorem kI {c : Bool} {k : K} {Q : Fl → Loc → MH → Prop} (h : wpK C n (if c then k else .bad) ρ H Q) : c = true ∧ wpK C n k ρ H Q := by
  cases c
  · exact h.elim
  · exact ⟨rfl, h⟩
theorem kI2 {c d : Bool} {k : K} {Q : Fl → Loc → MH → Prop} (h : wpK C n (if c && d then k else .bad) ρ H Q) : c = true ∧ d = true ∧ wpK C n k ρ H Q :=
  ⟨(Bool.and_eq_true_iff.mp (kI h).1).1, (Bool.and_eq_true_iff.mp (kI h).1).2, (kI h).2⟩
theorem lc_ok (hG : ∀ x v, G.lookup x = some v → GlobIs C x v) {x : Str} {i : Nat} {tp spos p : Pos} {elt : Expr} {gens : List Comprehension} {sc : Scope} {g : Str × Expr × List Expr} {Q : Fl → Loc → MH → Prop} (hx : idx S.ns x = some i) (hg : genOf gens = some g) (c1 : swapTo S sc x tp p spos.line = true) (c2 : (compOK S sc g.1 && notSet g.2.1) = true) (h : (wps C n (lcompE (compE G 29) S elt gens sc)).e ρ H fun v H1 => Q .next (ρ.set i v) H1) : WS C S n (.Assign [.Name x tp] (.ListComp elt gens sc p) spos) ρ H Q := by
  obtain ⟨yp, hgs⟩ := genOf_of hg
  have c3 := Bool.and_eq_true_iff.mp c2
  unfold lcompE at h
  rw [hg] at h
  replace h : (wps C n (if (compOK S sc g.1 && notSet g.2.1) = true then _ else .bad)).e ρ H _ := h
  rw [c2] at h
  subst hgs
  exact WS_comp c3.1 c3.2 hx c1 (((good (C := C) (n := n) hG 29 S _ ρ H).1 _ h).mono fun xv H1 h1 => h1.imp fun src h1 => ⟨h1.1, comp_ok (good hG 29) c3.1 h1.2⟩)
theorem nameK_ok (hG : ∀ x v, G.lookup x = some v → GlobIs C x v) {x : Str} {tp spos : Pos} {e : Expr} {Q : Fl → Loc → MH → Prop} (h : wpK C n (nameK G S x tp spos e) ρ H Q) : WS C S n (.Assign [.Name x tp] e spos) ρ H Q := by
  obtain ⟨i, hx, h⟩ := kE h
  rcases kO h with h | ⟨q, hq, h⟩
  · have k := kI2 h.2
    exact WS_assign hx k.1 k.2.1 ((good (C := C) (n := n) hG 30 S _ ρ H).1 _ k.2.2)
  · obtain ⟨g, hg, h⟩ := kE h
    have k := kI2 h
    cases lcOf_of hq
    exact lc_ok hG hx hg k.1 k.2.1 k.2.2
theorem tupK_ok (hG : ∀ x v, G.lookup x = some v → GlobIs C x v) {ts : List Expr} {k : Nat} {p : Pos} {e : Expr} {spos : Pos} {Q : Fl → Loc → MH → Prop} (h : wpK C n (tupK G S ts k p e) ρ H Q) : WS C S n (.Assign [.Tuple ts k p] e spos) ρ H Q := by
  rcases kO h with ⟨_, h⟩ | ⟨q, hq, h⟩
  · have k := kI2 h
    exact WS_unpack k.1 (fun env => swapped_none ((Bool.not_eq_true' _).mp k.2.1)) (((good (C := C) (n := n) hG 30 S _ ρ H).1 _ k.2.2).mono fun v H1 q => asg_ok q)
  · obtain ⟨names, hn, h⟩ := kE h
    obtain ⟨is, hi, h⟩ := kE h
    have k := kI h
    have hl := eq_of_beq k.1
    cases tupOf_of hq
    refine WS_swap hn hi (((good (C := C) (n := n) hG 30 S _ ρ H).1 _ k.2).mono fun v H1 h => ?_)
    rw [← hl]; exact h
set_option tactic.hygienic true in
theorem asgK_ok (hG : ∀ x v, G.lookup x = some v → GlobIs C x v) {t e : Expr} {spos : Pos} {Q : Fl → Loc → MH → Prop} (h : wpK C n (asgK G S t e spos) ρ H Q) : WS C S n (.Assign [t] e spos) ρ H Q := by
  have ge := good (C := C) (n := n) hG 30
  have k := xv_ok t
  unfold asgK at h
  revert h k
  generalize xv t = w
  cases w with
  | name x tp => intro h k; cases k; exact nameK_ok hG h
  | attr o name p =>
    intro h k; cases k
    obtain ⟨i, hx, h⟩ := kE h
    exact WS_setattr (kI h).1 (((ge S _ ρ H).1 _ (kI h).2).mono fun v H1 h1 => ((ge S _ ρ H1).1 _ h1).mono fun a H2 h2 => h2 _ hx)
  | sub o i p =>
    intro h k; cases k
    exact WS_setitem (kI h).1 (((ge S _ ρ H).1 _ (kI h).2).mono fun v H1 h1 => ((ge S _ ρ H1).1 _ h1).mono fun a H2 h2 => (ge S _ ρ H2).1 _ h2)
  | tup ts k' p => intro h k; cases k; exact tupK_ok hG h
  | _ => exact fun h k => h.elim
theorem sound_k (hG : ∀ x v, G.lookup x = some v → GlobIs C x v) {r : St → Stmt → K} (g : GoodK C n r) {st : Stmt} {Q : Fl → Loc → MH → Prop} (h : wpK C n (mkK G r S st) ρ H Q) : WS C S n st ρ H Q := by
  have ge := good (C := C) (n := n) hG 30
  cases st with
  | Pass _ => exact WS_pass h
  | Expr e _ =>
    exact WS_expr (kI h).1 ((ge S _ ρ H).1 _ (kI h).2)
  | Return o _ => cases o with
    | some e => exact WS_ret ((ge S _ ρ H).1 _ h)
    | none => exact WS_ret0 h
  | If t a b _ => exact WS_if (((ge S _ ρ H).2 _ h).mono fun c H1 h1 => by
      cases c
      · exact body_ok g _ ρ H1 _ h1
      · exact body_ok g _ ρ H1 _ h1)
  | While t b o _ =>
    obtain ⟨hc, h2⟩ := kI h
    cases List.isEmpty_iff.mp hc
    exact WS_while (while_ok hG g h2)
  | For t iter b o _ =>
    obtain ⟨c1, c2, h2⟩ := kI2 h
    cases List.isEmpty_iff.mp c1
    exact WS_for c2 (((ge S _ ρ H).1 _ h2).mono fun x H1 h1 => h1.imp fun src h1 => ⟨h1.1, for_ok g h1.2⟩)
  | Assign ts e p =>
    obtain ⟨t, h1, h⟩ := kE h
    cases one_of h1
    exact asgK_ok hG h
  | _ => exact h.elim
theorem goodK (hG : ∀ x v, G.lookup x = some v → GlobIs C x v) : ∀ k, GoodK C n (compK G k)
  | 0 => fun S st ρ H Q h => h.elim
  | k + 1 => fun S st ρ H Q h => sound_k hG (goodK hG k) h
theorem WC_fun {f : Addr} {ex : List Value} {m : Nat} {body : List Stmt} {vs : List V} {Q : V → MH → Prop} {b : K} (hG : ∀ x v, G.lookup x = some v → GlobIs C x v) (D : DefIs C f ex m S body) (hb : bodyOf G S body = b) (hv : vs.length + ex.length = m) (h : wpK C n b (argLoc (vs ++ ex.map er)) H (retQ Q)) : WC C (n + 1) (.ref f) vs H Q :=
  WC_def D hv (body_ok (goodK hG 30) body _ H _ (by rw [← hb] at h; exact h))
theorem WC_cls {Cl f : Addr} {m : Nat} {body : List Stmt} {vs : List V} {Q : V → MH → Prop} {b : K} (hG : ∀ x v, G.lookup x = some v → GlobIs C x v) (D : ClsIs C Cl f) (F : DefIs C f [] m S body) (hb : bodyOf G S body = b) (hv : vs.length + 1 = m) (h : ∀ c, H c = none → wpK C n b (argLoc (.ref c :: vs)) (H.set c (.inst Cl [])) (retQ fun v H' => v = .none ∧ Q (.ref c) H')) : WC C (n + 2) (.ref Cl) vs H Q :=
  WC_new D F hv fun c hc => body_ok (goodK hG 30) body _ _ _ (by have := h c hc; rw [← hb] at this; exact this)
end
end N226
end
noncomputable section
open PySem PySem.W PySem.Calls PyProof.Rows PySem.Builtin.Str
set_option maxRecDepth 10000
namespace N226
noncomputable def WH (C : Cx) (n : Nat) (t : E) (b : K) (Q : Fl → Loc → MH → Prop) (ρ : Loc) (H : MH) : Prop := whileW (wpT C n t) (wpK C n b) Q ρ H
noncomputable def FR (C : Cx) (n : Nat) (tg : Tg) (b : K) (Q : Fl → Loc → MH → Prop) (src : Src) (ρ : Loc) (H : MH) : Prop := forW tg (wpK C n b) Q src ρ H
noncomputable def CP (C : Cx) (n : Nat) (elt conds : E) (ρ : Loc) (Q : List V → MH → Prop) (src : Src) (done : List V) (H : MH) : Prop := compW (wps C n elt).e (wps C n conds).t ρ Q src done H
section
variable {C : Cx} {n : Nat} {ρ : Loc} {H : MH}
theorem WH.turn {t : E} {b : K} {Q : Fl → Loc → MH → Prop} (h : (wps C n t).t ρ H fun c H1 => bif c then wpK C n b ρ H1 (loopQ (WH C n t b Q) Q) else Q .next ρ H1) : WH C n t b Q ρ H := whileW.turn h
theorem FR.done {tg : Tg} {b : K} {Q : Fl → Loc → MH → Prop} {src : Src} (hi : src.item H = some none) (h : Q .next ρ H) : FR C n tg b Q src ρ H := by
  refine forW.turn ?_
  unfold forTurn'; rw [hi]; exact h
theorem FR.item {tg : Tg} {b : K} {Q : Fl → Loc → MH → Prop} {src : Src} {v : V} (hi : src.item H = some (some v)) (h : asgW tg v ρ H fun ρ1 H1 => wpK C n b ρ1 H1 (loopQ (fun ρ2 H2 => FR C n tg b Q src.next ρ2 H2) Q)) : FR C n tg b Q src ρ H := by
  refine forW.turn ?_
  unfold forTurn'; rw [hi]; exact h
theorem FR.step {tg : Tg} {b : K} {Q : Fl → Loc → MH → Prop} {src : Src} {v : V} (hi : src.item H = some (some v)) (h : ∀ T : Fl → Loc → MH → Prop, (∀ ρ2 H2, FR C n tg b Q src.next ρ2 H2 → T .next ρ2 H2) → (∀ u ρ2 H2, Q (.ret u) ρ2 H2 → T (.ret u) ρ2 H2) → asgW tg v ρ H fun ρ1 H1 => wpK C n b ρ1 H1 T) : FR C n tg b Q src ρ H :=
  FR.item hi (h _ (fun _ _ h => h) fun _ _ _ h => h)
theorem WH.step {t : E} {b : K} {Q : Fl → Loc → MH → Prop} (h : ∀ T : Fl → Loc → MH → Prop, (∀ ρ2 H2, WH C n t b Q ρ2 H2 → T .next ρ2 H2) → (∀ u ρ2 H2, Q (.ret u) ρ2 H2 → T (.ret u) ρ2 H2) → (wps C n t).t ρ H fun c H1 => bif c then wpK C n b ρ H1 T else Q .next ρ H1) : WH C n t b Q ρ H :=
  WH.turn (h _ (fun _ _ h => h) fun _ _ _ h => h)
theorem asg_many {is : List Nat} {a : Addr} {vs : List V} {P : Loc → MH → Prop} (h : H a = some (.tuple vs)) (hl : vs.length = is.length) (q : P (setAll ρ is vs) H) : asgW (.many is) (.ref a) ρ H P := ⟨a, vs, rfl, h, hl, q⟩
theorem CP.done {elt conds : E} {Q : List V → MH → Prop} {src : Src} {done : List V} (hi : src.item H = some none) (h : Q done H) : CP C n elt conds ρ Q src done H := by
  refine compW.turn ?_
  unfold compTurn; rw [hi]; exact h
theorem CP.item {elt conds : E} {Q : List V → MH → Prop} {src : Src} {done : List V} {v : V} (hi : src.item H = some (some v)) (h : (wps C n conds).t (inLoc (some v) ρ) H fun b H1 => bif b then (wps C n elt).e (inLoc (some v) ρ) H1 fun y H2 => done.length ≤ lim ∧ CP C n elt conds ρ Q src.next (done ++ [y]) H2 else CP C n elt conds ρ Q src.next done H1) : CP C n elt conds ρ Q src done H := by
  refine compW.turn ?_
  unfold compTurn; rw [hi]; exact h
variable {Q : V → MH → Prop} {R : Fl → Loc → MH → Prop} {T : Bool → MH → Prop} {L : List V → MH → Prop} {D : List (V × V) → MH → Prop}
theorem ee_none : (wps C n .none).e ρ H Q = Q .none H := rfl
theorem ee_bool {b : Bool} : (wps C n (.bool b)).e ρ H Q = Q (.bool b) H := rfl
theorem ee_int {i : Int} : (wps C n (.int i)).e ρ H Q = Q (.int i) H := rfl
theorem ee_str {s : Str} : (wps C n (.str s)).e ρ H Q = Q (.str s) H := rfl
theorem ee_var {i : Nat} : (wps C n (.var i)).e ρ H Q = onV (ρ i) fun v => Q v H := rfl
theorem ee_con {v : V} : (wps C n (.con v)).e ρ H Q = Q v H := rfl
theorem ee_bin {op : Operator} {l r : E} : (wps C n (.bin op l r)).e ρ H Q = (wps C n l).e ρ H fun a H1 => (wps C n r).e ρ H1 fun b H2 => binW op a b H2 Q := rfl
theorem ee_neg {x : E} : (wps C n (.neg x)).e ρ H Q = (wps C n x).e ρ H fun a H1 => ∃ i, a = .int i ∧ Q (.int (-i)) H1 := rfl
theorem ee_cmp {op : CmpOp} {l r : E} : (wps C n (.cmp op l r)).e ρ H Q = (wps C n l).e ρ H fun a H1 => (wps C n r).e ρ H1 fun b H2 => cmpW op a b H2 Q := rfl
theorem ee_andv {x y : E} : (wps C n (.andv x y)).e ρ H Q = (wps C n x).e ρ H fun a H1 => ∃ b, a = .bool b ∧ bif b then (wps C n y).e ρ H1 Q else Q a H1 := rfl
theorem ee_orv {x y : E} : (wps C n (.orv x y)).e ρ H Q = (wps C n x).e ρ H fun a H1 => ∃ b, a = .bool b ∧ bif b then Q a H1 else (wps C n y).e ρ H1 Q := rfl
theorem ee_ite {t a b : E} : (wps C n (.ite t a b)).e ρ H Q = (wps C n t).t ρ H fun c H1 => bif c then (wps C n a).e ρ H1 Q else (wps C n b).e ρ H1 Q := rfl
theorem ee_attr {x : E} {i : Nat} : (wps C n (.attr x i)).e ρ H Q = (wps C n x).e ρ H fun a H1 => attrW C n i a H1 Q := rfl
theorem ee_call {f args : E} : (wps C n (.call f args)).e ρ H Q = (wps C n f).e ρ H fun fv H1 => (wps C n args).l ρ H1 fun vs H2 => Callable C fv ∧ WC C n fv vs H2 Q := rfl
theorem ee_lzip {args : E} : (wps C n (.lzip args)).e ρ H Q = (wps C n args).l ρ H fun vs H1 => zipW vs H1 Q := rfl
theorem ee_meth {o args : E} {i : Nat} : (wps C n (.meth o i args)).e ρ H Q = (wps C n o).e ρ H fun a H1 => methW C i a H1 fun f first => (wps C n args).l ρ H1 fun vs H2 => Callable C f ∧ WC C n f (first ++ vs) H2 Q := rfl
theorem ee_sub {x i : E} : (wps C n (.sub x i)).e ρ H Q = (wps C n x).e ρ H fun a H1 => (wps C n i).e ρ H1 fun k H2 => subW a k H2 Q := rfl
theorem ee_slice {x lo hi : E} {a b : Bool} : (wps C n (.slice x a lo b hi)).e ρ H Q = (wps C n x).e ρ H fun v H1 => partW a (wps C n lo).e ρ H1 fun l H2 => partW b (wps C n hi).e ρ H2 fun u H3 => sliceW v l u H3 Q := rfl
theorem ee_tuple {args : E} : (wps C n (.tuple args)).e ρ H Q = (wps C n args).l ρ H fun vs H1 => vs.length ≤ lim ∧ ∀ c, H1 c = Option.none → Q (.ref c) (H1.set c (.tuple vs)) := rfl
theorem ee_list {args : E} : (wps C n (.list args)).e ρ H Q = (wps C n args).l ρ H fun vs H1 => vs.length ≤ lim ∧ ∀ c, H1 c = Option.none → Q (.ref c) (H1.set c (.list vs)) := rfl
theorem ee_dict0 : (wps C n .dict0).e ρ H Q = ∀ c, H c = Option.none → Q (.ref c) (H.set c (.dict [] 0)) := rfl
theorem ee_dict {kvs : E} : (wps C n (.dict kvs)).e ρ H Q = (wps C n kvs).d ρ H fun ps H1 => ps.all (fun kv => isKey kv.1) = true ∧ ∀ c ep, H1 c = Option.none → Q (.ref c) (H1.set c (.dict (madeOf ps) ep)) := rfl
theorem ee_comp {elt iter conds : E} : (wps C n (.comp elt iter conds)).e ρ H Q = (wps C n iter).e ρ H fun xv H1 => ∃ src, iterOf H1 xv = some src ∧ CP C n elt conds ρ (fun done H2 => ∀ c, H2 c = Option.none → Q (.ref c) (H2.set c (.list done))) src [] H1 := rfl
theorem el_nil : (wps C n .nil).l ρ H L = L [] H := rfl
theorem el_cons {e es : E} : (wps C n (.cons e es)).l ρ H L = (wps C n e).e ρ H fun a H1 => (wps C n es).l ρ H1 fun vs H2 => L (a :: vs) H2 := rfl
theorem ed_nil : (wps C n .nil).d ρ H D = D [] H := rfl
theorem ed_kv {k v es : E} : (wps C n (.kv k v es)).d ρ H D = (wps C n k).e ρ H fun a H1 => (wps C n v).e ρ H1 fun b H2 => (wps C n es).d ρ H2 fun ps H3 => D ((a, b) :: ps) H3 := rfl
theorem et_val {x : E} : (wps C n (.tval x)).t ρ H T = (wps C n x).e ρ H fun a H1 => ∃ b, a = .bool b ∧ T b H1 := rfl
theorem et_no {x : E} : (wps C n (.tno x)).t ρ H T = (wps C n x).t ρ H fun c H1 => T (!c) H1 := rfl
theorem et_and {x y : E} : (wps C n (.tand x y)).t ρ H T = (wps C n x).t ρ H fun c H1 => bif c then (wps C n y).t ρ H1 T else T false H1 := rfl
theorem et_or {x y : E} : (wps C n (.tor x y)).t ρ H T = (wps C n x).t ρ H fun c H1 => bif c then T true H1 else (wps C n y).t ρ H1 T := rfl
theorem et_true : (wps C n .ttrue).t ρ H T = T true H := rfl
theorem et_false : (wps C n .tfalse).t ρ H T = T false H := rfl
theorem et_ite {t a b : E} : (wps C n (.tite t a b)).t ρ H T = (wps C n t).t ρ H fun c H1 => bif c then (wps C n a).t ρ H1 T else (wps C n b).t ρ H1 T := rfl
theorem et_cmp {op : CmpOp} {l r : E} : (wps C n (.tcmp op l r)).t ρ H T = (wps C n l).e ρ H fun a H1 => (wps C n r).e ρ H1 fun b H2 => cmpW op a b H2 fun c H3 => ∃ b, c = .bool b ∧ T b H3 := rfl
theorem et_in {l r : E} : (wps C n (.tin l r)).t ρ H T = (wps C n l).e ρ H fun a H1 => (wps C n r).e ρ H1 fun b H2 => inW b a H2 fun c => T c H2 := rfl
theorem et_notin {l r : E} : (wps C n (.tnotin l r)).t ρ H T = (wps C n l).e ρ H fun a H1 => (wps C n r).e ρ H1 fun b H2 => notinW b a H2 fun c => T c H2 := rfl
theorem kk_pass : wpK C n .pass ρ H R = R .next ρ H := rfl
theorem kk_expr {e : E} : wpK C n (.expr e) ρ H R = (wps C n e).e ρ H fun v H1 => isNoRef v ∧ R .next ρ H1 := rfl
theorem kk_set {i : Nat} {e : E} : wpK C n (.set i e) ρ H R = (wps C n e).e ρ H fun v H1 => R .next (ρ.set i v) H1 := rfl
theorem kk_setA {o e : E} {i : Nat} : wpK C n (.setA o i e) ρ H R = (wps C n e).e ρ H fun v H1 => (wps C n o).e ρ H1 fun a H2 => setW C n i a v H2 fun H3 => R .next ρ H3 := rfl
theorem kk_setI {o i e : E} : wpK C n (.setI o i e) ρ H R = (wps C n e).e ρ H fun v H1 => (wps C n o).e ρ H1 fun a H2 => (wps C n i).e ρ H2 fun k H3 => itemW C n a k v H3 fun H4 => R .next ρ H4 := rfl
theorem kk_unpack {t : Tg} {e : E} : wpK C n (.unpack t e) ρ H R = (wps C n e).e ρ H fun v H1 => asgW t v ρ H1 fun ρ' H' => R .next ρ' H' := rfl
theorem kk_swap {is : List Nat} {e : E} : wpK C n (.swap is e) ρ H R = (wps C n e).e ρ H fun v H1 => ∃ t us, v = .ref t ∧ H1 t = some (.tuple us) ∧ us.length = is.length ∧ R .next (setAll ρ is us.reverse) H1 := rfl
theorem kk_if {t : E} {a b : K} : wpK C n (.ifs t a b) ρ H R = (wps C n t).t ρ H fun c H1 => bif c then wpK C n a ρ H1 R else wpK C n b ρ H1 R := rfl
theorem kk_while {t : E} {b : K} : wpK C n (.whil t b) ρ H R = WH C n t b R ρ H := rfl
theorem kk_for {t : Tg} {iter : E} {b : K} : wpK C n (.fors t iter b) ρ H R = (wps C n iter).e ρ H fun x H1 => ∃ src, iterOf H1 x = some src ∧ FR C n t b R src ρ H1 := rfl
theorem kk_ret {e : E} : wpK C n (.ret e) ρ H R = (wps C n e).e ρ H fun v H1 => R (.ret v) ρ H1 := rfl
theorem kk_ret0 : wpK C n .ret0 ρ H R = R (.ret .none) ρ H := rfl
theorem kk_nil : wpK C n .nil ρ H R = R .next ρ H := rfl
theorem kk_seq {s r : K} : wpK C n (.seq s r) ρ H R = wpK C n s ρ H (seqQ (fun ρ1 H1 => wpK C n r ρ1 H1 R) R) := rfl
theorem kk_seq_i {s r : K} (h : wpK C n s ρ H (seqQ (fun ρ1 H1 => wpK C n r ρ1 H1 R) R)) : wpK C n (.seq s r) ρ H R := h
theorem q_next {P : Loc → MH → Prop} : seqQ P R .next ρ H = P ρ H := rfl
theorem q_ret {P : Loc → MH → Prop} {v : V} : seqQ P R (.ret v) ρ H = R (.ret v) ρ H := rfl
theorem r_next : retQ Q .next ρ H = Q .none H := rfl
theorem r_ret {v : V} : retQ Q (.ret v) ρ H = Q v H := rfl
theorem l_next {P : Loc → MH → Prop} : loopQ P R .next ρ H = P ρ H := rfl
theorem l_ret {P : Loc → MH → Prop} {v : V} : loopQ P R (.ret v) ρ H = R (.ret v) ρ H := rfl
theorem a_one {i : Nat} {v : V} {P : Loc → MH → Prop} : asgW (.one i) v ρ H P = P (ρ.set i v) H := rfl
theorem a_many {is : List Nat} {v : V} {P : Loc → MH → Prop} : asgW (.many is) v ρ H P = ∃ a vs, v = .ref a ∧ H a = some (.tuple vs) ∧ vs.length = is.length ∧ P (setAll ρ is vs) H := rfl
theorem in_zero {u : Option V} : inLoc u ρ 0 = u := rfl
theorem in_succ {u : Option V} {i : Nat} : inLoc u ρ (i + 1) = ρ i := rfl
end
end N226
end
set_option hygiene false
local macro_rules | `(tactic| wide_open with ($a, $bs,*)) => `(tactic| simp (decide := true) only [ee_none, ee_bool, ee_int, ee_str, ee_var, ee_con, ee_bin, ee_neg, ee_cmp, ee_andv, ee_orv, ee_ite, ee_attr, ee_call, ee_lzip, ee_meth, ee_sub, ee_slice, ee_tuple, ee_list, ee_dict0, ee_dict, ee_comp, el_nil, el_cons, ed_nil, ed_kv, et_val, et_no, et_and, et_or, et_true, et_false, et_ite, et_cmp, et_in, et_notin, kk_pass, kk_expr, kk_set, kk_setA, kk_setI, kk_unpack, kk_swap, kk_if, kk_while, kk_for, kk_ret, kk_ret0, kk_nil, q_next, q_ret, r_next, r_ret, l_next, l_ret, a_one, a_many, in_zero, in_succ, partW, setAll_cons, setAll_nil, argLoc, Loc.set, List.map_nil, List.map_cons, List.nil_append, List.cons_append, List.append_nil, List.getElem?_cons_zero, List.getElem?_cons_succ, Option.some.injEq, exists_eq_left', Bool.false_eq_true, if_true, if_false, reduceIte, V.bool.injEq, V.int.injEq, V.str.injEq, V.ref.injEq, Bool.not_true, Bool.not_false, reduceCtorEq, onV_some, cond_true, cond_false, Nat.reduceBEq, decide_true, decide_false, $a:term, $[$bs:term],*])
local macro_rules | `(tactic| wide_open using $t:term) => `(tactic| ((try wide_open with $t:term); (repeat (with_reducible refine kk_seq_i ?_; (try wide_open with $t:term)))))
local macro_rules | `(tactic| walk_at "L") => `(tactic| wide_open using (kk_nil, kk_nil))
set_option hygiene true
noncomputable section
open PySem PySem.W PySem.Calls PyProof.Rows
set_option maxRecDepth 10000
namespace N226
noncomputable abbrev c_Real : Addr := 38
noncomputable abbrev c_Special_data : Addr := 59
noncomputable abbrev c_Symbol : Addr := 83
noncomputable abbrev c_SymbolTable : Addr := 146
noncomputable abbrev c_Pair : Addr := 167
noncomputable abbrev c_Char : Addr := 188
noncomputable abbrev c_Text : Addr := 209
noncomputable abbrev c_Vector : Addr := 230
noncomputable abbrev c_Ratio : Addr := 312
noncomputable abbrev c_Alias : Addr := 333
noncomputable abbrev c_GlobalName : Addr := 396
noncomputable abbrev c_Macro : Addr := 417
noncomputable abbrev c_Scope : Addr := 508
noncomputable abbrev c_Rule : Addr := 579
noncomputable abbrev c_PatternReader : Addr := 633
noncomputable abbrev c_TemplateReader : Addr := 682
noncomputable abbrev c_Matcher : Addr := 771
noncomputable abbrev c_Writer : Addr := 827
noncomputable abbrev c_Names : Addr := 939
noncomputable abbrev f_list_of : Addr := 242
noncomputable abbrev f_split_list : Addr := 249
noncomputable abbrev f_is_whole : Addr := 256
noncomputable abbrev f_is_identifier : Addr := 428
noncomputable abbrev f_key_of : Addr := 435
noncomputable abbrev f_root_symbol : Addr := 442
noncomputable abbrev f_is_named : Addr := 449
noncomputable abbrev f_alias_of : Addr := 533
noncomputable abbrev f_strip_take : Addr := 540
noncomputable abbrev f_strip : Addr := 547
noncomputable abbrev f_has_alias : Addr := 554
noncomputable abbrev f_plain : Addr := 561
noncomputable abbrev f_is_ellipsis : Addr := 590
noncomputable abbrev f_literal_keys : Addr := 700
noncomputable abbrev f_read_rule : Addr := 707
noncomputable abbrev f_is_rules_word : Addr := 714
noncomputable abbrev f_read_rules : Addr := 719
noncomputable abbrev f_same_atom : Addr := 726
noncomputable abbrev f_match : Addr := 782
noncomputable abbrev f_fill : Addr := 845
noncomputable abbrev f_first_fitting : Addr := 852
noncomputable abbrev f_transcribe : Addr := 859
noncomputable abbrev f_law_deck : Addr := 948
noncomputable abbrev f_law_draw : Addr := 955
noncomputable abbrev f_law_drawn : Addr := 960
noncomputable abbrev f_law_datum : Addr := 965
noncomputable abbrev f_law_leaves : Addr := 972
noncomputable abbrev f_law_right : Addr := 979
noncomputable abbrev f_law_text : Addr := 984
noncomputable abbrev f_law : Addr := 989
noncomputable abbrev f_Symbol_init : Addr := 80
noncomputable abbrev f_SymbolTable_init : Addr := 101
noncomputable abbrev f_SymbolTable_symbol : Addr := 108
noncomputable abbrev f_Pair_init : Addr := 164
noncomputable abbrev f_Vector_init : Addr := 227
noncomputable abbrev f_Alias_init : Addr := 330
noncomputable abbrev f_GlobalName_init : Addr := 393
noncomputable abbrev f_Macro_init : Addr := 414
noncomputable abbrev f_Scope_init : Addr := 463
noncomputable abbrev f_Scope_bound : Addr := 484
noncomputable abbrev f_Scope_find : Addr := 491
noncomputable abbrev f_Rule_init : Addr := 576
noncomputable abbrev f_PatternReader_init : Addr := 604
noncomputable abbrev f_PatternReader_node : Addr := 611
noncomputable abbrev f_PatternReader_name : Addr := 618
noncomputable abbrev f_PatternReader_parts : Addr := 623
noncomputable abbrev f_PatternReader_row : Addr := 630
noncomputable abbrev f_TemplateReader_init : Addr := 651
noncomputable abbrev f_TemplateReader_node : Addr := 658
noncomputable abbrev f_TemplateReader_name : Addr := 665
noncomputable abbrev f_TemplateReader_parts : Addr := 672
noncomputable abbrev f_Matcher_init : Addr := 740
noncomputable abbrev f_Matcher_fits : Addr := 747
noncomputable abbrev f_Matcher_fits_row : Addr := 768
noncomputable abbrev f_Writer_init : Addr := 796
noncomputable abbrev f_Writer_alias : Addr := 803
noncomputable abbrev f_Writer_datum : Addr := 810
noncomputable abbrev f_Writer_parts : Addr := 817
noncomputable abbrev f_Names_init : Addr := 873
noncomputable abbrev f_Names_fresh : Addr := 880
noncomputable abbrev f_Names_symbol : Addr := 887
noncomputable abbrev a_EMPTY : Addr := 65
noncomputable abbrev a_NOTHING : Addr := 562
noncomputable def s_list : Str := ⟨#[108, 105, 115, 116]⟩
noncomputable def s_take : Str := ⟨#[116, 97, 107, 101]⟩
noncomputable def s_vector : Str := ⟨#[118, 101, 99, 116, 111, 114]⟩
noncomputable def s_dots : Str := ⟨#[46, 46, 46]⟩
noncomputable def s_syntax_rules : Str := ⟨#[115, 121, 110, 116, 97, 120, 45, 114, 117, 108, 101, 115]⟩
noncomputable def s_t : Str := ⟨#[116]⟩
noncomputable def s_a : Str := ⟨#[97]⟩
noncomputable def s_b : Str := ⟨#[98]⟩
noncomputable def s_let : Str := ⟨#[108, 101, 116]⟩
noncomputable def s_x : Str := ⟨#[120]⟩
noncomputable def s_end : Str := ⟨#[101, 110, 100]⟩
noncomputable def s_vopen : Str := ⟨#[35, 40]⟩
noncomputable def s_space : Str := ⟨#[32]⟩
noncomputable def s_close : Str := ⟨#[41]⟩
noncomputable def s_what : Str := ⟨#[63]⟩
noncomputable def s_dot : Str := ⟨#[46]⟩
noncomputable def s_open : Str := ⟨#[40]⟩
noncomputable def s_under : Str := ⟨#[95]⟩
noncomputable def s_m : Str := ⟨#[109]⟩
noncomputable def s_unit : Str := ⟨#[40, 41]⟩
noncomputable def GT : List (Str × V) := [
  (⟨#[114, 97, 110, 103, 101]⟩, .ty "range"),
  (⟨#[108, 101, 110]⟩, .bi "len"),
  (⟨#[80, 97, 105, 114]⟩, .ref c_Pair),
  (⟨#[105, 115, 105, 110, 115, 116, 97, 110, 99, 101]⟩, .bi "isinstance"),
  (⟨#[105, 110, 116]⟩, .ty "int"),
  (⟨#[98, 111, 111, 108]⟩, .ty "bool"),
  (⟨#[83, 121, 109, 98, 111, 108]⟩, .ref c_Symbol),
  (⟨#[65, 108, 105, 97, 115]⟩, .ref c_Alias),
  (⟨#[105, 115, 95, 105, 100, 101, 110, 116, 105, 102, 105, 101, 114]⟩, .ref f_is_identifier),
  (⟨#[114, 111, 111, 116, 95, 115, 121, 109, 98, 111, 108]⟩, .ref f_root_symbol),
  (⟨#[115, 112, 108, 105, 116, 95, 108, 105, 115, 116]⟩, .ref f_split_list),
  (⟨#[86, 101, 99, 116, 111, 114]⟩, .ref c_Vector),
  (⟨#[115, 116, 114, 105, 112, 95, 116, 97, 107, 101]⟩, .ref f_strip_take),
  (⟨#[108, 105, 115, 116, 95, 111, 102]⟩, .ref f_list_of),
  (⟨#[104, 97, 115, 95, 97, 108, 105, 97, 115]⟩, .ref f_has_alias),
  (⟨#[115, 116, 114, 105, 112]⟩, .ref f_strip),
  (⟨#[105, 115, 95, 110, 97, 109, 101, 100]⟩, .ref f_is_named),
  (⟨#[69, 76, 76, 73, 80, 83, 73, 83]⟩, .str s_dots),
  (⟨#[69, 77, 80, 84, 89]⟩, .ref a_EMPTY),
  (⟨#[83, 121, 110, 116, 97, 120, 84, 114, 111, 117, 98, 108, 101]⟩, .ref 293),
  (⟨#[105, 115, 95, 101, 108, 108, 105, 112, 115, 105, 115]⟩, .ref f_is_ellipsis),
  (⟨#[80, 97, 116, 116, 101, 114, 110, 82, 101, 97, 100, 101, 114]⟩, .ref c_PatternReader),
  (⟨#[82, 117, 108, 101]⟩, .ref c_Rule),
  (⟨#[84, 101, 109, 112, 108, 97, 116, 101, 82, 101, 97, 100, 101, 114]⟩, .ref c_TemplateReader),
  (⟨#[82, 85, 76, 69, 83, 95, 87, 79, 82, 68]⟩, .str s_syntax_rules),
  (⟨#[71, 108, 111, 98, 97, 108, 78, 97, 109, 101]⟩, .ref c_GlobalName),
  (⟨#[105, 115, 95, 114, 117, 108, 101, 115, 95, 119, 111, 114, 100]⟩, .ref f_is_rules_word),
  (⟨#[108, 105, 116, 101, 114, 97, 108, 95, 107, 101, 121, 115]⟩, .ref f_literal_keys),
  (⟨#[107, 101, 121, 95, 111, 102]⟩, .ref f_key_of),
  (⟨#[77, 97, 99, 114, 111]⟩, .ref c_Macro),
  (⟨#[105, 115, 95, 119, 104, 111, 108, 101]⟩, .ref f_is_whole),
  (⟨#[82, 97, 116, 105, 111]⟩, .ref c_Ratio),
  (⟨#[82, 101, 97, 108]⟩, .ref c_Real),
  (⟨#[67, 104, 97, 114]⟩, .ref c_Char),
  (⟨#[84, 101, 120, 116]⟩, .ref c_Text),
  (⟨#[83, 112, 101, 99, 105, 97, 108, 95, 100, 97, 116, 97]⟩, .ref c_Special_data),
  (⟨#[77, 97, 116, 99, 104, 101, 114]⟩, .ref c_Matcher),
  (⟨#[87, 114, 105, 116, 101, 114]⟩, .ref c_Writer),
  (⟨#[109, 97, 116, 99, 104]⟩, .ref f_match),
  (⟨#[102, 105, 114, 115, 116, 95, 102, 105, 116, 116, 105, 110, 103]⟩, .ref f_first_fitting),
  (⟨#[102, 105, 108, 108]⟩, .ref f_fill),
  (⟨#[95, 108, 97, 119, 95, 100, 114, 97, 119]⟩, .ref f_law_draw),
  (⟨#[116, 117, 112, 108, 101]⟩, .ty "tuple"),
  (⟨#[115, 116, 114]⟩, .ty "str"),
  (⟨#[108, 105, 115, 116]⟩, .ty "list"),
  (⟨#[122, 105, 112]⟩, .ty "zip"),
  (⟨#[95, 108, 97, 119, 95, 108, 101, 97, 118, 101, 115]⟩, .ref f_law_leaves),
  (⟨#[95, 108, 97, 119, 95, 116, 101, 120, 116]⟩, .ref f_law_text),
  (⟨#[95, 108, 97, 119, 95, 100, 101, 99, 107]⟩, .ref f_law_deck),
  (⟨#[78, 97, 109, 101, 115]⟩, .ref c_Names),
  (⟨#[83, 99, 111, 112, 101]⟩, .ref c_Scope),
  (⟨#[95, 108, 97, 119, 95, 100, 114, 97, 119, 110]⟩, .ref f_law_drawn),
  (⟨#[95, 108, 97, 119, 95, 100, 97, 116, 117, 109]⟩, .ref f_law_datum),
  (⟨#[114, 101, 97, 100, 95, 114, 117, 108, 101, 115]⟩, .ref f_read_rules),
  (⟨#[116, 114, 97, 110, 115, 99, 114, 105, 98, 101]⟩, .ref f_transcribe),
  (⟨#[95, 108, 97, 119, 95, 114, 105, 103, 104, 116]⟩, .ref f_law_right),
  (⟨#[112, 108, 97, 105, 110]⟩, .ref f_plain),
  (⟨#[67, 69, 76, 76, 83]⟩, .int (5)),
  (⟨#[65, 84, 79, 77]⟩, .int (3)),
  (⟨#[76, 73, 84, 69, 82, 65, 76]⟩, .int (2)),
  (⟨#[78, 65, 77, 69]⟩, .int (1)),
  (⟨#[82, 79, 87]⟩, .int (4)),
  (⟨#[78, 79, 84, 72, 73, 78, 71]⟩, .ref a_NOTHING),
  (⟨#[65, 76, 73, 65, 83]⟩, .int (6)),
  (⟨#[77, 65, 78, 89]⟩, .int (7)),
  (⟨#[115, 97, 109, 101]⟩, .ref 526),
  (⟨#[115, 97, 109, 101, 95, 97, 116, 111, 109]⟩, .ref f_same_atom),
  (⟨#[97, 108, 105, 97, 115, 95, 111, 102]⟩, .ref f_alias_of),
  (⟨#[83, 121, 109, 98, 111, 108, 84, 97, 98, 108, 101]⟩, .ref c_SymbolTable),
  (⟨#[97, 98, 115]⟩, .bi "abs"),
  (⟨#[114, 101, 97, 100, 95, 114, 117, 108, 101]⟩, .ref f_read_rule)]
noncomputable def k_list_of : K :=
  (.seq (.set 2 (.var 1))
  (.seq (.fors (.one 3) (.call (.con (.ty "range")) (.cons (.bin .Sub (.call (.con (.bi "len")) (.cons (.var 0) .nil)) (.int (1))) (.cons (.neg (.int (1))) (.cons (.neg (.int (1))) .nil))))
    (.seq (.set 2 (.call (.con (.ref c_Pair)) (.cons (.sub (.var 0) (.var 3)) (.cons (.var 2) .nil)))) .nil))
  (.seq (.ret (.var 2)) .nil)))
noncomputable def k_split_list : K :=
  (.seq (.set 1 (.list .nil))
  (.seq (.set 2 (.var 0))
  (.seq (.set 3 (.var 0))
  (.seq (.whil (.tval (.call (.con (.bi "isinstance")) (.cons (.var 2) (.cons (.con (.ref c_Pair)) .nil))))
    (.seq (.expr (.meth (.var 1) n_append (.cons (.attr (.var 2) n_car) .nil)))
    (.seq (.set 2 (.attr (.var 2) n_cdr))
    (.seq (.ifs (.tcmp .Eq (.bin .Mod (.call (.con (.bi "len")) (.cons (.var 1) .nil)) (.int (2))) (.int (0)))
      (.seq (.set 3 (.attr (.var 3) n_cdr))
      (.seq (.ifs (.tcmp .Is (.var 2) (.var 3))
        (.seq (.ret (.tuple (.cons (.var 1) (.cons .none .nil)))) .nil)
        .nil) .nil))
      .nil) .nil))))
  (.seq (.ret (.tuple (.cons (.var 1) (.cons (.var 2) .nil)))) .nil)))))
noncomputable def k_is_whole : K :=
  (.seq (.ret (.andv (.call (.con (.bi "isinstance")) (.cons (.var 0) (.cons (.con (.ty "int")) .nil))) .bad)) .nil)
noncomputable def k_is_identifier : K :=
  (.seq (.ret (.orv (.call (.con (.bi "isinstance")) (.cons (.var 0) (.cons (.con (.ref c_Symbol)) .nil))) (.call (.con (.bi "isinstance")) (.cons (.var 0) (.cons (.con (.ref c_Alias)) .nil))))) .nil)
noncomputable def k_key_of : K :=
  (.seq (.ifs (.tval (.call (.con (.bi "isinstance")) (.cons (.var 0) (.cons (.con (.ref c_Symbol)) .nil))))
    (.seq (.ret (.bin .Mult (.int (2)) (.attr (.var 0) n_number))) .nil)
    .nil)
  (.seq (.ret (.bin .Add (.bin .Mult (.int (2)) (.attr (.var 0) n_number)) (.int (1)))) .nil))
noncomputable def k_root_symbol : K :=
  (.seq (.set 1 (.var 0))
  (.seq (.whil (.tval (.call (.con (.bi "isinstance")) (.cons (.var 1) (.cons (.con (.ref c_Alias)) .nil))))
    (.seq (.set 1 (.attr (.var 1) n_base)) .nil))
  (.seq (.ret (.var 1)) .nil)))
noncomputable def k_is_named : K :=
  (.seq (.ret (.andv (.call (.con (.ref f_is_identifier)) (.cons (.var 0) .nil)) (.cmp .Eq (.attr (.call (.con (.ref f_root_symbol)) (.cons (.var 0) .nil)) n_text) (.var 1)))) .nil)
noncomputable def k_alias_of : K :=
  (.seq (.ret (.call (.con (.ref c_Alias)) (.cons (.meth (.var 2) n_fresh .nil) (.cons (.var 0) (.cons (.var 1) .nil))))) .nil)
noncomputable def k_strip_take : K :=
  (.seq (.ifs (.tval (.call (.con (.bi "isinstance")) (.cons (.var 0) (.cons (.con (.ref c_Alias)) .nil))))
    (.seq (.expr (.meth (.var 2) n_append (.cons (.call (.con (.ref f_root_symbol)) (.cons (.var 0) .nil)) .nil))) .nil)
    (.seq (.ifs (.tval (.call (.con (.bi "isinstance")) (.cons (.var 0) (.cons (.con (.ref c_Pair)) .nil))))
      (.seq (.unpack (.many [3, 4]) (.call (.con (.ref f_split_list)) (.cons (.var 0) .nil)))
      (.seq (.ifs (.tcmp .Is (.var 4) .none)
        (.seq (.expr (.meth (.var 2) n_append (.cons (.var 0) .nil)))
        (.seq .ret0 .nil))
        .nil)
      (.seq (.expr (.meth (.var 1) n_append (.cons (.tuple (.cons (.str s_list) (.cons (.call (.con (.bi "len")) (.cons (.var 3) .nil)) .nil))) .nil)))
      (.seq (.expr (.meth (.var 1) n_append (.cons (.tuple (.cons (.str s_take) (.cons (.var 4) .nil))) .nil)))
      (.seq (.fors (.one 5) (.call (.con (.ty "range")) (.cons (.bin .Sub (.call (.con (.bi "len")) (.cons (.var 3) .nil)) (.int (1))) (.cons (.neg (.int (1))) (.cons (.neg (.int (1))) .nil))))
        (.seq (.expr (.meth (.var 1) n_append (.cons (.tuple (.cons (.str s_take) (.cons (.sub (.var 3) (.var 5)) .nil))) .nil))) .nil)) .nil)))))
      (.seq (.ifs (.tval (.call (.con (.bi "isinstance")) (.cons (.var 0) (.cons (.con (.ref c_Vector)) .nil))))
        (.seq (.expr (.meth (.var 1) n_append (.cons (.tuple (.cons (.str s_vector) (.cons (.call (.con (.bi "len")) (.cons (.attr (.var 0) n_things) .nil)) .nil))) .nil)))
        (.seq (.fors (.one 5) (.call (.con (.ty "range")) (.cons (.bin .Sub (.call (.con (.bi "len")) (.cons (.attr (.var 0) n_things) .nil)) (.int (1))) (.cons (.neg (.int (1))) (.cons (.neg (.int (1))) .nil))))
          (.seq (.expr (.meth (.var 1) n_append (.cons (.tuple (.cons (.str s_take) (.cons (.sub (.attr (.var 0) n_things) (.var 5)) .nil))) .nil))) .nil)) .nil))
        (.seq (.expr (.meth (.var 2) n_append (.cons (.var 0) .nil))) .nil)) .nil)) .nil)) .nil)
noncomputable def k_strip : K :=
  (.seq (.set 1 (.list (.cons (.tuple (.cons (.str s_take) (.cons (.var 0) .nil))) .nil)))
  (.seq (.set 2 (.list .nil))
  (.seq (.whil (.tcmp .Gt (.call (.con (.bi "len")) (.cons (.var 1) .nil)) (.int (0)))
    (.seq (.unpack (.many [3, 4]) (.meth (.var 1) n_pop .nil))
    (.seq (.ifs (.tcmp .Eq (.var 3) (.str s_take))
      (.seq (.expr (.call (.con (.ref f_strip_take)) (.cons (.var 4) (.cons (.var 1) (.cons (.var 2) .nil))))) .nil)
      (.seq (.ifs (.tcmp .Eq (.var 3) (.str s_list))
        (.seq (.set 5 (.bin .Sub (.bin .Sub (.call (.con (.bi "len")) (.cons (.var 2) .nil)) (.var 4)) (.int (1))))
        (.seq (.set 6 (.call (.con (.ref f_list_of)) (.cons (.slice (.var 2) true (.var 5) true (.bin .Add (.var 5) (.var 4))) (.cons (.sub (.var 2) (.neg (.int (1)))) .nil))))
        (.seq (.set 2 (.slice (.var 2) false .bad true (.var 5)))
        (.seq (.expr (.meth (.var 2) n_append (.cons (.var 6) .nil))) .nil))))
        (.seq (.set 5 (.bin .Sub (.call (.con (.bi "len")) (.cons (.var 2) .nil)) (.var 4)))
        (.seq (.set 6 (.call (.con (.ref c_Vector)) (.cons (.slice (.var 2) true (.var 5) false .bad) .nil)))
        (.seq (.set 2 (.slice (.var 2) false .bad true (.var 5)))
        (.seq (.expr (.meth (.var 2) n_append (.cons (.var 6) .nil))) .nil))))) .nil)) .nil)))
  (.seq (.ret (.sub (.var 2) (.int (0)))) .nil))))
noncomputable def k_has_alias : K :=
  (.seq (.set 1 (.list (.cons (.var 0) .nil)))
  (.seq (.whil (.tcmp .Gt (.call (.con (.bi "len")) (.cons (.var 1) .nil)) (.int (0)))
    (.seq (.set 2 (.meth (.var 1) n_pop .nil))
    (.seq (.ifs (.tval (.call (.con (.bi "isinstance")) (.cons (.var 2) (.cons (.con (.ref c_Alias)) .nil))))
      (.seq (.ret (.bool true)) .nil)
      .nil)
    (.seq (.ifs (.tval (.call (.con (.bi "isinstance")) (.cons (.var 2) (.cons (.con (.ref c_Pair)) .nil))))
      (.seq (.unpack (.many [3, 4]) (.call (.con (.ref f_split_list)) (.cons (.var 2) .nil)))
      (.seq (.ifs (.tcmp .IsNot (.var 4) .none)
        (.seq (.expr (.meth (.var 1) n_extend (.cons (.var 3) .nil)))
        (.seq (.expr (.meth (.var 1) n_append (.cons (.var 4) .nil))) .nil))
        .nil) .nil))
      (.seq (.ifs (.tval (.call (.con (.bi "isinstance")) (.cons (.var 2) (.cons (.con (.ref c_Vector)) .nil))))
        (.seq (.expr (.meth (.var 1) n_extend (.cons (.attr (.var 2) n_things) .nil))) .nil)
        .nil) .nil)) .nil))))
  (.seq (.ret (.bool false)) .nil)))
noncomputable def k_plain : K :=
  (.seq (.ifs (.tval (.call (.con (.ref f_has_alias)) (.cons (.var 0) .nil)))
    (.seq (.ret (.call (.con (.ref f_strip)) (.cons (.var 0) .nil))) .nil)
    .nil)
  (.seq (.ret (.var 0)) .nil))
noncomputable def k_is_ellipsis : K :=
  (.seq (.ret (.call (.con (.ref f_is_named)) (.cons (.var 0) (.cons (.con (.str s_dots)) .nil)))) .nil)
noncomputable def k_literal_keys : K :=
  (.seq (.unpack (.many [1, 2]) (.call (.con (.ref f_split_list)) (.cons (.var 0) .nil)))
  (.seq (.ifs (.tcmp .IsNot (.var 2) (.con (.ref a_EMPTY)))
    (.seq .bad .nil)
    .nil)
  (.seq (.fors (.one 3) (.var 1)
    (.seq (.ifs (.tor (.tno (.tval (.call (.con (.ref f_is_identifier)) (.cons (.var 3) .nil)))) (.tor (.tval (.call (.con (.ref f_is_ellipsis)) (.cons (.var 3) .nil))) .tfalse))
      (.seq .bad .nil)
      .nil) .nil))
  (.seq (.ret (.var 1)) .nil))))
noncomputable def k_read_rule : K :=
  (.seq (.unpack (.many [2, 3]) (.call (.con (.ref f_split_list)) (.cons (.var 0) .nil)))
  (.seq (.ifs (.tor (.tcmp .IsNot (.var 3) (.con (.ref a_EMPTY))) (.tor (.tcmp .NotEq (.call (.con (.bi "len")) (.cons (.var 2) .nil)) (.int (2))) .tfalse))
    (.seq .bad .nil)
    .nil)
  (.seq (.set 4 (.sub (.var 2) (.int (0))))
  (.seq (.ifs (.tor (.tno (.tval (.call (.con (.bi "isinstance")) (.cons (.var 4) (.cons (.con (.ref c_Pair)) .nil))))) (.tor (.tno (.tval (.call (.con (.ref f_is_identifier)) (.cons (.attr (.var 4) n_car) .nil)))) (.tor (.tval (.call (.con (.ref f_is_ellipsis)) (.cons (.attr (.var 4) n_car) .nil))) .tfalse)))
    (.seq .bad .nil)
    .nil)
  (.seq (.set 5 (.call (.con (.ref c_PatternReader)) (.cons (.var 1) .nil)))
  (.seq (.set 6 (.meth (.var 5) n_node (.cons (.attr (.var 4) n_cdr) (.cons (.int (0)) .nil))))
  (.seq (.ret (.call (.con (.ref c_Rule)) (.cons (.var 6) (.cons (.attr (.var 5) n_depths) (.cons (.meth (.call (.con (.ref c_TemplateReader)) (.cons (.attr (.var 5) n_depths) .nil)) n_node (.cons (.sub (.var 2) (.int (1))) (.cons (.int (0)) .nil))) .nil))))) .nil)))))))
noncomputable def k_is_rules_word : K :=
  (.seq (.ret (.andv (.call (.con (.ref f_is_named)) (.cons (.var 0) (.cons (.con (.str s_syntax_rules)) .nil))) (.call (.con (.bi "isinstance")) (.cons (.meth (.var 1) n_find (.cons (.var 0) .nil)) (.cons (.con (.ref c_GlobalName)) .nil))))) .nil)
noncomputable def k_read_rules : K :=
  (.seq (.unpack (.many [3, 4]) (.call (.con (.ref f_split_list)) (.cons (.var 0) .nil)))
  (.seq (.ifs (.tand (.tcmp .Is (.var 4) (.con (.ref a_EMPTY))) (.tand (.tor (.tcmp .Eq (.call (.con (.bi "len")) (.cons (.var 3) .nil)) (.int (0))) (.tor (.tno (.tval (.call (.con (.ref f_is_rules_word)) (.cons (.sub (.var 3) (.int (0))) (.cons (.var 1) .nil))))) .tfalse)) .ttrue))
    (.seq .bad .nil)
    .nil)
  (.seq (.ifs (.tor (.tcmp .IsNot (.var 4) (.con (.ref a_EMPTY))) (.tor (.tcmp .Lt (.call (.con (.bi "len")) (.cons (.var 3) .nil)) (.int (2))) .tfalse))
    (.seq .bad .nil)
    .nil)
  (.seq (.set 5 (.call (.con (.ref f_literal_keys)) (.cons (.sub (.var 3) (.int (1))) .nil)))
  (.seq (.set 6 .dict0)
  (.seq (.fors (.one 7) (.var 5)
    (.seq (.setI (.var 6) (.call (.con (.ref f_key_of)) (.cons (.var 7) .nil)) (.bool true)) .nil))
  (.seq (.set 8 (.comp (.call (.con (.ref f_read_rule)) (.cons (.var 0) (.cons (.var 7) .nil))) (.slice (.var 3) true (.int (2)) false .bad) .ttrue))
  (.seq (.ret (.call (.con (.ref c_Macro)) (.cons (.var 5) (.cons (.var 8) (.cons (.var 1) .nil))))) .nil))))))))
noncomputable def k_same_atom : K :=
  (.seq (.ifs (.tor (.tval (.call (.con (.bi "isinstance")) (.cons (.var 0) (.cons (.con (.ty "bool")) .nil)))) (.tor (.tval (.call (.con (.bi "isinstance")) (.cons (.var 1) (.cons (.con (.ty "bool")) .nil)))) .tfalse))
    (.seq (.ret (.andv (.call (.con (.bi "isinstance")) (.cons (.var 0) (.cons (.con (.ty "bool")) .nil))) (.andv (.call (.con (.bi "isinstance")) (.cons (.var 1) (.cons (.con (.ty "bool")) .nil))) (.cmp .Eq (.var 0) (.var 1))))) .nil)
    .nil)
  (.seq (.ifs (.tand (.tval (.call (.con (.ref f_is_whole)) (.cons (.var 0) .nil))) (.tand (.tval (.call (.con (.ref f_is_whole)) (.cons (.var 1) .nil))) .ttrue))
    (.seq (.ret (.cmp .Eq (.var 0) (.var 1))) .nil)
    .nil)
  (.seq (.ifs (.tand (.tval (.call (.con (.bi "isinstance")) (.cons (.var 0) (.cons (.con (.ref c_Ratio)) .nil)))) (.tand (.tval (.call (.con (.bi "isinstance")) (.cons (.var 1) (.cons (.con (.ref c_Ratio)) .nil)))) .ttrue))
    (.seq (.ret (.andv (.cmp .Eq (.attr (.var 0) n_top) (.attr (.var 1) n_top)) (.cmp .Eq (.attr (.var 0) n_bottom) (.attr (.var 1) n_bottom)))) .nil)
    .nil)
  (.seq (.ifs (.tand (.tval (.call (.con (.bi "isinstance")) (.cons (.var 0) (.cons (.con (.ref c_Real)) .nil)))) (.tand (.tval (.call (.con (.bi "isinstance")) (.cons (.var 1) (.cons (.con (.ref c_Real)) .nil)))) .ttrue))
    (.seq (.ret (.andv (.cmp .Eq (.attr (.var 0) n_mantissa) (.attr (.var 1) n_mantissa)) (.cmp .Eq (.attr (.var 0) n_exponent) (.attr (.var 1) n_exponent)))) .nil)
    .nil)
  (.seq (.ifs (.tand (.tval (.call (.con (.bi "isinstance")) (.cons (.var 0) (.cons (.con (.ref c_Char)) .nil)))) (.tand (.tval (.call (.con (.bi "isinstance")) (.cons (.var 1) (.cons (.con (.ref c_Char)) .nil)))) .ttrue))
    (.seq (.ret (.cmp .Eq (.attr (.var 0) n_code) (.attr (.var 1) n_code))) .nil)
    .nil)
  (.seq (.ifs (.tand (.tval (.call (.con (.bi "isinstance")) (.cons (.var 0) (.cons (.con (.ref c_Text)) .nil)))) (.tand (.tval (.call (.con (.bi "isinstance")) (.cons (.var 1) (.cons (.con (.ref c_Text)) .nil)))) .ttrue))
    (.seq (.ret (.cmp .Eq (.attr (.var 0) n_codes) (.attr (.var 1) n_codes))) .nil)
    .nil)
  (.seq (.ifs (.tand (.tval (.call (.con (.bi "isinstance")) (.cons (.var 0) (.cons (.con (.ref c_Special_data)) .nil)))) (.tand (.tval (.call (.con (.bi "isinstance")) (.cons (.var 1) (.cons (.con (.ref c_Special_data)) .nil)))) .ttrue))
    (.seq (.ret (.cmp .Is (.var 0) (.var 1))) .nil)
    .nil)
  (.seq (.ret (.bool false)) .nil))))))))
noncomputable def k_match : K :=
  (.seq (.set 4 (.call (.con (.ref c_Matcher)) (.cons (.var 1) (.cons (.var 3) .nil))))
  (.seq (.ifs (.tno (.tval (.meth (.var 4) n_fits (.cons (.attr (.var 0) n_pattern) (.cons (.attr (.var 2) n_cdr) .nil)))))
    (.seq (.ret .none) .nil)
    .nil)
  (.seq (.ret (.attr (.var 4) n_found)) .nil)))
noncomputable def k_fill : K :=
  (.seq (.ret (.meth (.call (.con (.ref c_Writer)) (.cons (.var 1) (.cons (.var 3) .nil))) n_datum (.cons (.attr (.var 0) n_template) (.cons (.var 2) .nil)))) .nil)
noncomputable def k_first_fitting : K :=
  (.seq (.fors (.one 3) (.attr (.var 0) n_rules)
    (.seq (.set 4 (.call (.con (.ref f_match)) (.cons (.var 3) (.cons (.var 0) (.cons (.var 1) (.cons (.var 2) .nil))))))
    (.seq (.ifs (.tcmp .IsNot (.var 4) .none)
      (.seq (.ret (.tuple (.cons (.var 3) (.cons (.var 4) .nil)))) .nil)
      .nil) .nil)))
  (.seq (.ret (.tuple (.cons .none (.cons .none .nil)))) .nil))
noncomputable def k_transcribe : K :=
  (.seq (.unpack (.many [4, 5]) (.call (.con (.ref f_first_fitting)) (.cons (.var 0) (.cons (.var 1) (.cons (.var 2) .nil)))))
  (.seq (.ifs (.tcmp .Is (.var 4) .none)
    (.seq .bad .nil)
    .nil)
  (.seq (.ret (.call (.con (.ref f_fill)) (.cons (.var 4) (.cons (.var 0) (.cons (.var 5) (.cons (.var 3) .nil)))))) .nil)))
noncomputable def k_law_deck : K :=
  (.seq (.ret (.comp (.bin .Mod (.call (.con (.bi "abs")) (.cons (.var 0) .nil)) (.bin .Pow (.int (10)) (.int (16)))) (.slice (.var 0) false .bad true (.int (16))) .ttrue)) .nil)
noncomputable def k_law_draw : K :=
  (.seq (.whil (.tand (.tcmp .NotEq (.var 0) (.list .nil)) (.tand (.tcmp .Eq (.sub (.var 0) (.int (0))) (.int (0))) .ttrue))
    (.seq (.expr (.meth (.var 0) n_pop (.cons (.int (0)) .nil))) .nil))
  (.seq (.ifs (.tcmp .Eq (.var 0) (.list .nil))
    (.seq (.ret (.int (0))) .nil)
    .nil)
  (.seq (.set 2 (.bin .Mod (.sub (.var 0) (.int (0))) (.var 1)))
  (.seq (.setI (.var 0) (.int (0)) (.bin .FloorDiv (.sub (.var 0) (.int (0))) (.var 1)))
  (.seq (.ret (.var 2)) .nil)))))
noncomputable def k_law_drawn : K :=
  (.seq (.set 2 (.call (.con (.ref f_law_draw)) (.cons (.var 0) (.cons (.int (9)) .nil))))
  (.seq (.ifs (.tand (.tcmp .Gt (.var 1) (.int (0))) (.tand (.tin (.var 2) (.tuple (.cons (.int (0)) (.cons (.int (7)) (.cons (.int (8)) .nil))))) .ttrue))
    (.seq (.set 3 (.call (.con (.ty "tuple")) (.cons (.comp (.call (.con (.ref f_law_drawn)) (.cons (.var 1) (.cons (.bin .Sub (.var 2) (.int (1))) .nil))) (.call (.con (.ty "range")) (.cons (.bin .Add (.int (1)) (.call (.con (.ref f_law_draw)) (.cons (.var 0) (.cons (.int (4)) .nil)))) .nil)) .ttrue) .nil)))
    (.seq (.ret (.tuple (.cons (.ite (.tcmp .Eq (.var 2) (.int (8))) (.str s_vector) (.str s_list)) (.cons (.var 3) (.cons (.ite (.tcmp .Eq (.var 2) (.int (7))) (.sub (.list (.cons (.str s_t) (.cons (.str s_a) .nil))) (.call (.con (.ref f_law_draw)) (.cons (.var 0) (.cons (.int (2)) .nil)))) .none) .nil))))) .nil))
    .nil)
  (.seq (.ret (.sub (.list (.cons (.str s_t) (.cons (.str s_a) (.cons (.str s_b) (.cons (.str s_let) (.cons (.str s_x) (.cons (.int (5)) (.cons (.str s_a) (.cons (.str s_t) (.cons (.str s_let) .nil)))))))))) (.var 2))) .nil)))
noncomputable def k_law_datum : K :=
  (.seq (.ifs (.tval (.call (.con (.bi "isinstance")) (.cons (.var 0) (.cons (.con (.ty "str")) .nil))))
    (.seq (.ret (.meth (.var 1) n_symbol (.cons (.var 0) .nil))) .nil)
    .nil)
  (.seq (.ifs (.tno (.tval (.call (.con (.bi "isinstance")) (.cons (.var 0) (.cons (.con (.ty "tuple")) .nil)))))
    (.seq (.ret (.var 0)) .nil)
    .nil)
  (.seq (.set 2 (.comp (.call (.con (.ref f_law_datum)) (.cons (.var 0) (.cons (.var 2) .nil))) (.sub (.var 0) (.int (1))) .ttrue))
  (.seq (.ifs (.tcmp .Eq (.sub (.var 0) (.int (0))) (.str s_vector))
    (.seq (.ret (.call (.con (.ref c_Vector)) (.cons (.var 2) .nil))) .nil)
    .nil)
  (.seq (.ret (.call (.con (.ref f_list_of)) (.cons (.var 2) (.cons (.ite (.tcmp .Is (.sub (.var 0) (.int (2))) .none) (.con (.ref a_EMPTY)) (.meth (.var 1) n_symbol (.cons (.sub (.var 0) (.int (2))) .nil))) .nil)))) .nil)))))
noncomputable def k_law_leaves : K :=
  (.seq (.ifs (.tno (.tval (.call (.con (.bi "isinstance")) (.cons (.var 0) (.cons (.con (.ty "tuple")) .nil)))))
    (.seq (.ret (.list (.cons (.tuple (.cons (.var 0) (.cons (.var 1) .nil))) .nil))) .nil)
    .nil)
  (.seq (.ifs (.tcmp .Eq (.sub (.var 0) (.int (0))) (.str s_vector))
    (.seq (.ifs (.tor (.tno (.tval (.call (.con (.bi "isinstance")) (.cons (.var 1) (.cons (.con (.ref c_Vector)) .nil))))) (.tor (.tcmp .NotEq (.call (.con (.bi "len")) (.cons (.attr (.var 1) n_things) .nil)) (.call (.con (.bi "len")) (.cons (.sub (.var 0) (.int (1))) .nil))) .tfalse))
      (.seq (.ret .none) .nil)
      .nil)
    (.seq (.set 2 (.lzip (.cons (.sub (.var 0) (.int (1))) (.cons (.attr (.var 1) n_things) .nil)))) .nil))
    (.seq (.swap [3, 2] (.tuple (.cons (.list .nil) (.cons (.var 1) .nil))))
    (.seq (.fors (.one 4) (.sub (.var 0) (.int (1)))
      (.seq (.ifs (.tno (.tval (.call (.con (.bi "isinstance")) (.cons (.var 3) (.cons (.con (.ref c_Pair)) .nil)))))
        (.seq (.ret .none) .nil)
        .nil)
      (.seq (.expr (.meth (.var 2) n_append (.cons (.tuple (.cons (.var 4) (.cons (.attr (.var 3) n_car) .nil))) .nil)))
      (.seq (.set 3 (.attr (.var 3) n_cdr)) .nil))))
    (.seq (.expr (.meth (.var 2) n_append (.cons (.tuple (.cons (.ite (.tcmp .Is (.sub (.var 0) (.int (2))) .none) (.str s_end) (.sub (.var 0) (.int (2)))) (.cons (.var 3) .nil))) .nil))) .nil))))
  (.seq (.set 5 (.list .nil))
  (.seq (.fors (.many [4, 6]) (.var 2)
    (.seq (.set 7 (.call (.con (.ref f_law_leaves)) (.cons (.var 4) (.cons (.var 6) .nil))))
    (.seq (.ifs (.tcmp .Is (.var 7) .none)
      (.seq (.ret .none) .nil)
      .nil)
    (.seq (.set 5 (.bin .Add (.var 5) (.var 7))) .nil))))
  (.seq (.ret (.var 5)) .nil)))))
noncomputable def k_law_right : K :=
  (.seq (.set 4 .dict0)
  (.seq (.fors (.many [5, 6]) (.var 0)
    (.seq (.ifs (.tin (.var 5) (.var 1))
      (.seq (.ifs (.tcmp .IsNot (.var 6) (.sub (.var 1) (.var 5)))
        (.seq (.ret .none) .nil)
        .nil) .nil)
      (.seq (.ifs (.tor (.tcmp .Eq (.var 5) (.str s_end)) (.tor (.tno (.tval (.call (.con (.bi "isinstance")) (.cons (.var 5) (.cons (.con (.ty "str")) .nil))))) .tfalse))
        (.seq (.ifs (.tite (.tcmp .Eq (.var 5) (.str s_end)) (.tcmp .IsNot (.var 6) (.con (.ref a_EMPTY))) (.tcmp .NotEq (.var 6) (.var 5)))
          (.seq (.ret .none) .nil)
          .nil) .nil)
        (.seq (.ifs (.tor (.tno (.tval (.call (.con (.bi "isinstance")) (.cons (.var 6) (.cons (.con (.ref c_Alias)) .nil))))) (.tor (.tcmp .IsNot (.attr (.var 6) n_base) (.meth (.var 2) n_symbol (.cons (.var 5) .nil))) (.tor (.tcmp .IsNot (.attr (.var 6) n_scope) (.var 3)) .tfalse)))
          (.seq (.ret .none) .nil)
          (.seq (.ifs (.tcmp .NotEq (.meth (.var 4) n_get (.cons (.var 5) (.cons (.call (.con (.ref f_key_of)) (.cons (.var 6) .nil)) .nil))) (.call (.con (.ref f_key_of)) (.cons (.var 6) .nil)))
            (.seq (.ret .none) .nil)
            (.seq (.setI (.var 4) (.var 5) (.call (.con (.ref f_key_of)) (.cons (.var 6) .nil))) .nil)) .nil)) .nil)) .nil)) .nil))
  (.seq (.ret (.var 4)) .nil)))
noncomputable def k_law_text : K :=
  (.seq (.ifs (.tval (.call (.con (.bi "isinstance")) (.cons (.var 0) (.cons (.con (.ref c_Symbol)) .nil))))
    (.seq (.ret (.attr (.var 0) n_text)) .nil)
    .nil)
  (.seq (.ifs (.tval (.call (.con (.bi "isinstance")) (.cons (.var 0) (.cons (.con (.ref c_Vector)) .nil))))
    (.seq (.ret (.bin .Add (.bin .Add (.str s_vopen) (.meth (.str s_space) n_join (.cons (.comp (.call (.con (.ref f_law_text)) (.cons (.var 0) .nil)) (.attr (.var 0) n_things) .ttrue) .nil))) (.str s_close))) .nil)
    .nil)
  (.seq (.ifs (.tand (.tno (.tval (.call (.con (.bi "isinstance")) (.cons (.var 0) (.cons (.con (.ref c_Pair)) .nil))))) (.tand (.tcmp .IsNot (.var 0) (.con (.ref a_EMPTY))) .ttrue))
    (.seq (.ret (.ite (.tval (.call (.con (.bi "isinstance")) (.cons (.var 0) (.cons (.con (.ref c_Alias)) .nil)))) (.str s_what) (.call (.con (.ty "str")) (.cons (.var 0) .nil)))) .nil)
    .nil)
  (.seq (.unpack (.many [1, 2]) (.call (.con (.ref f_split_list)) (.cons (.var 0) .nil)))
  (.seq (.set 3 (.ite (.tcmp .Is (.var 2) (.con (.ref a_EMPTY))) (.list .nil) (.list (.cons (.str s_dot) (.cons (.call (.con (.ref f_law_text)) (.cons (.var 2) .nil)) .nil)))))
  (.seq (.ret (.bin .Add (.bin .Add (.str s_open) (.meth (.str s_space) n_join (.cons (.bin .Add (.comp (.call (.con (.ref f_law_text)) (.cons (.var 0) .nil)) (.var 1) .ttrue) (.var 3)) .nil))) (.str s_close))) .nil))))))
noncomputable def k_law : K :=
  (.seq (.swap [2, 1] (.tuple (.cons (.call (.con (.ref f_law_deck)) (.cons (.var 0) .nil)) (.cons (.call (.con (.ref c_Names)) .nil) .nil))))
  (.seq (.swap [4, 3] (.tuple (.cons (.call (.con (.ref c_Scope)) (.cons (.call (.con (.ref c_Scope)) (.cons .none .nil)) .nil)) (.cons (.tuple (.cons (.str s_list) (.cons (.tuple (.cons (.call (.con (.ref f_law_drawn)) (.cons (.var 1) (.cons (.int (2)) .nil))) (.cons (.call (.con (.ref f_law_drawn)) (.cons (.var 1) (.cons (.int (1)) .nil))) .nil))) (.cons .none .nil)))) .nil))))
  (.seq (.set 5 (.call (.con (.ref f_list_of)) (.cons (.list (.cons (.call (.con (.ref f_list_of)) (.cons (.list (.cons (.meth (.var 2) n_symbol (.cons (.str s_under) .nil)) (.cons (.meth (.var 2) n_symbol (.cons (.str s_a) .nil)) (.cons (.meth (.var 2) n_symbol (.cons (.str s_b) .nil)) .nil)))) .nil)) (.cons (.call (.con (.ref f_law_datum)) (.cons (.var 4) (.cons (.var 2) .nil))) .nil))) .nil)))
  (.seq (.set 6 (.call (.con (.ref f_read_rules)) (.cons (.call (.con (.ref f_list_of)) (.cons (.list (.cons (.meth (.var 2) n_symbol (.cons (.str s_syntax_rules) .nil)) (.cons (.con (.ref a_EMPTY)) (.cons (.var 5) .nil)))) .nil)) (.cons (.var 3) (.cons (.var 2) .nil)))))
  (.seq (.swap [8, 7] (.tuple (.cons (.call (.con (.ref f_list_of)) (.cons (.list (.cons (.meth (.var 2) n_symbol (.cons (.str s_t) .nil)) (.cons (.int (1)) .nil))) .nil)) (.cons (.meth (.var 2) n_symbol (.cons (.str s_x) .nil)) .nil))))
  (.seq (.set 9 (.call (.con (.ref f_transcribe)) (.cons (.var 6) (.cons (.call (.con (.ref f_list_of)) (.cons (.list (.cons (.meth (.var 2) n_symbol (.cons (.str s_m) .nil)) (.cons (.var 7) (.cons (.var 8) .nil)))) .nil)) (.cons (.var 3) (.cons (.var 2) .nil))))))
  (.seq (.set 10 (.call (.con (.ref f_transcribe)) (.cons (.var 6) (.cons (.call (.con (.ref f_list_of)) (.cons (.list (.cons (.meth (.var 2) n_symbol (.cons (.str s_m) .nil)) (.cons (.var 9) (.cons (.var 7) .nil)))) .nil)) (.cons (.var 3) (.cons (.var 2) .nil))))))
  (.seq (.swap [12, 11] (.tuple (.cons (.call (.con (.ref f_law_leaves)) (.cons (.var 4) (.cons (.var 9) .nil))) (.cons (.call (.con (.ref f_law_leaves)) (.cons (.var 4) (.cons (.var 10) .nil))) .nil))))
  (.seq (.ifs (.tor (.tcmp .Is (.var 11) .none) (.tor (.tcmp .Is (.var 12) .none) .tfalse))
    (.seq (.ret (.bool false)) .nil)
    .nil)
  (.seq (.set 13 (.call (.con (.ref f_law_right)) (.cons (.var 11) (.cons (.dict (.kv (.str s_a) (.var 7) (.kv (.str s_b) (.var 8) .nil))) (.cons (.var 2) (.cons (.var 3) .nil))))))
  (.seq (.set 14 (.call (.con (.ref f_law_right)) (.cons (.var 12) (.cons (.dict (.kv (.str s_a) (.var 9) (.kv (.str s_b) (.var 7) .nil))) (.cons (.var 2) (.cons (.var 3) .nil))))))
  (.seq (.ifs (.tor (.tcmp .Is (.var 13) .none) (.tor (.tcmp .Is (.var 14) .none) (.tor (.tcmp .NotEq (.comp (.int (1)) (.var 13) (.tin (.sub (.var 14) (.var 0)) (.meth (.var 15) n_values .nil))) (.list .nil)) .tfalse)))
    (.seq (.ret (.bool false)) .nil)
    .nil)
  (.seq (.ifs (.tor (.tcmp .NotEq (.call (.con (.ref f_has_alias)) (.cons (.var 9) .nil)) (.cmp .NotEq (.var 13) .dict0)) (.tor (.tcmp .NotEq (.cmp .Is (.call (.con (.ref f_plain)) (.cons (.var 9) .nil)) (.var 9)) (.cmp .Eq (.var 13) .dict0)) .tfalse))
    (.seq (.ret (.bool false)) .nil)
    .nil)
  (.seq (.swap [17, 16] (.tuple (.cons (.list (.cons (.call (.con (.ref f_law_text)) (.cons (.var 9) .nil)) (.cons (.call (.con (.ref f_law_text)) (.cons (.var 10) .nil)) .nil))) (.cons (.dict (.kv (.str s_a) (.call (.con (.ref f_law_text)) (.cons (.var 7) .nil)) (.kv (.str s_b) (.str s_x) (.kv (.str s_end) (.str s_unit) .nil)))) .nil))))
  (.seq (.set 18 (.call (.con (.ref f_law_leaves)) (.cons (.var 4) (.cons (.call (.con (.ref f_strip)) (.cons (.var 9) .nil)) .nil))))
  (.seq (.ifs (.tor (.tcmp .Is (.var 18) .none) (.tor (.tin (.str s_what) (.call (.con (.ref f_law_text)) (.cons (.call (.con (.ref f_strip)) (.cons (.var 10) .nil)) .nil))) .tfalse))
    (.seq (.ret (.bool false)) .nil)
    .nil)
  (.seq (.fors (.many [15, 19]) (.var 18)
    (.seq (.ifs (.tcmp .NotEq (.call (.con (.ref f_law_text)) (.cons (.var 19) .nil)) (.meth (.var 17) n_get (.cons (.var 15) (.cons (.call (.con (.ty "str")) (.cons (.var 15) .nil)) .nil))))
      (.seq (.ret (.bool false)) .nil)
      .nil) .nil))
  (.seq (.ret (.cmp .Eq (.list (.cons (.call (.con (.ref f_law_text)) (.cons (.var 9) .nil)) (.cons (.call (.con (.ref f_law_text)) (.cons (.var 10) .nil)) .nil))) (.var 16))) .nil))))))))))))))))))
noncomputable def k_Symbol_init : K :=
  (.seq (.setA (.var 0) n_number (.var 1))
  (.seq (.setA (.var 0) n_text (.var 2)) .nil))
noncomputable def k_SymbolTable_init : K :=
  (.seq (.setA (.var 0) n_rows (.list .nil))
  (.seq (.setA (.var 0) n_by_text .dict0) .nil))
noncomputable def k_SymbolTable_symbol : K :=
  (.seq (.set 2 (.meth (.attr (.var 0) n_by_text) n_get (.cons (.var 1) (.cons .none .nil))))
  (.seq (.ifs (.tcmp .Is (.var 2) .none)
    (.seq (.set 2 (.call (.con (.ref c_Symbol)) (.cons (.call (.con (.bi "len")) (.cons (.attr (.var 0) n_rows) .nil)) (.cons (.var 1) .nil))))
    (.seq (.expr (.meth (.attr (.var 0) n_rows) n_append (.cons (.var 2) .nil)))
    (.seq (.setI (.attr (.var 0) n_by_text) (.var 1) (.var 2)) .nil)))
    .nil)
  (.seq (.ret (.var 2)) .nil)))
noncomputable def k_Pair_init : K :=
  (.seq (.setA (.var 0) n_car (.var 1))
  (.seq (.setA (.var 0) n_cdr (.var 2)) .nil))
noncomputable def k_Vector_init : K :=
  (.seq (.setA (.var 0) n_things (.var 1)) .nil)
noncomputable def k_Alias_init : K :=
  (.seq (.setA (.var 0) n_number (.var 1))
  (.seq (.setA (.var 0) n_base (.var 2))
  (.seq (.setA (.var 0) n_scope (.var 3)) .nil)))
noncomputable def k_GlobalName_init : K :=
  (.seq (.setA (.var 0) n_symbol (.var 1)) .nil)
noncomputable def k_Macro_init : K :=
  (.seq (.setA (.var 0) n_literals (.var 1))
  (.seq (.setA (.var 0) n_rules (.var 2))
  (.seq (.setA (.var 0) n_scope (.var 3)) .nil)))
noncomputable def k_Scope_init : K :=
  (.seq (.setA (.var 0) n_parent (.var 1))
  (.seq (.setA (.var 0) n_names .dict0) .nil))
noncomputable def k_Scope_bound : K :=
  (.seq (.set 2 (.call (.con (.ref f_key_of)) (.cons (.var 1) .nil)))
  (.seq (.set 3 (.var 0))
  (.seq (.whil (.tcmp .IsNot (.var 3) .none)
    (.seq (.set 4 (.meth (.attr (.var 3) n_names) n_get (.cons (.var 2) (.cons .none .nil))))
    (.seq (.ifs (.tcmp .IsNot (.var 4) .none)
      (.seq (.ret (.var 4)) .nil)
      .nil)
    (.seq (.set 3 (.attr (.var 3) n_parent)) .nil))))
  (.seq (.ret .none) .nil))))
noncomputable def k_Scope_find : K :=
  (.seq (.set 2 (.var 0))
  (.seq (.set 3 (.var 1))
  (.seq (.set 4 (.meth (.var 2) n_bound (.cons (.var 3) .nil)))
  (.seq (.whil (.tand (.tcmp .Is (.var 4) .none) (.tand (.tval (.call (.con (.bi "isinstance")) (.cons (.var 3) (.cons (.con (.ref c_Alias)) .nil)))) .ttrue))
    (.seq (.set 2 (.attr (.var 3) n_scope))
    (.seq (.set 3 (.attr (.var 3) n_base))
    (.seq (.set 4 (.meth (.var 2) n_bound (.cons (.var 3) .nil))) .nil))))
  (.seq (.ifs (.tcmp .Is (.var 4) .none)
    (.seq (.ret (.call (.con (.ref c_GlobalName)) (.cons (.var 3) .nil))) .nil)
    .nil)
  (.seq (.ret (.var 4)) .nil))))))
noncomputable def k_Rule_init : K :=
  (.seq (.setA (.var 0) n_pattern (.var 1))
  (.seq (.setA (.var 0) n_depths (.var 2))
  (.seq (.setA (.var 0) n_template (.var 3)) .nil)))
noncomputable def k_PatternReader_init : K :=
  (.seq (.setA (.var 0) n_literals (.var 1))
  (.seq (.setA (.var 0) n_depths .dict0) .nil))
noncomputable def k_PatternReader_node : K :=
  (.seq (.ifs (.tval (.call (.con (.ref f_is_identifier)) (.cons (.var 1) .nil)))
    (.seq (.ret (.meth (.var 0) n_name (.cons (.var 1) (.cons (.var 2) .nil)))) .nil)
    .nil)
  (.seq (.ifs (.tval (.call (.con (.bi "isinstance")) (.cons (.var 1) (.cons (.con (.ref c_Pair)) .nil))))
    (.seq (.ret (.meth (.var 0) n_row (.cons (.var 1) (.cons (.var 2) .nil)))) .nil)
    .nil)
  (.seq (.ifs (.tval (.call (.con (.bi "isinstance")) (.cons (.var 1) (.cons (.con (.ref c_Vector)) .nil))))
    (.seq (.unpack (.many [3, 4]) (.meth (.var 0) n_parts (.cons (.attr (.var 1) n_things) (.cons (.var 2) (.cons (.var 1) .nil)))))
    (.seq (.ret (.tuple (.cons (.con (.int (5))) (.cons (.var 3) (.cons (.var 4) .nil))))) .nil))
    .nil)
  (.seq (.ret (.tuple (.cons (.con (.int (3))) (.cons (.var 1) .nil)))) .nil))))
noncomputable def k_PatternReader_name : K :=
  (.seq (.ifs (.tval (.call (.con (.ref f_is_ellipsis)) (.cons (.var 1) .nil)))
    (.seq .bad .nil)
    .nil)
  (.seq (.set 3 (.call (.con (.ref f_key_of)) (.cons (.var 1) .nil)))
  (.seq (.ifs (.tin (.var 3) (.attr (.var 0) n_literals))
    (.seq (.ret (.tuple (.cons (.con (.int (2))) (.cons (.var 1) .nil)))) .nil)
    .nil)
  (.seq (.ifs (.tin (.var 3) (.attr (.var 0) n_depths))
    (.seq .bad .nil)
    .nil)
  (.seq (.setI (.attr (.var 0) n_depths) (.var 3) (.var 2))
  (.seq (.ret (.tuple (.cons (.con (.int (1))) (.cons (.var 3) .nil)))) .nil))))))
noncomputable def k_PatternReader_parts : K :=
  (.seq (.set 4 (.call (.con (.bi "len")) (.cons (.var 1) .nil)))
  (.seq (.set 5 (.andv (.cmp .Gt (.var 4) (.int (0))) (.call (.con (.ref f_is_ellipsis)) (.cons (.sub (.var 1) (.bin .Sub (.var 4) (.int (1)))) .nil))))
  (.seq (.ifs (.tand (.tval (.var 5)) (.tand (.tcmp .Eq (.var 4) (.int (1))) .ttrue))
    (.seq .bad .nil)
    .nil)
  (.seq (.set 6 (.ite (.tval (.var 5)) (.bin .Sub (.var 4) (.int (2))) (.var 4)))
  (.seq (.set 7 (.comp (.meth (.var 1) n_node (.cons (.sub (.var 2) (.var 0)) (.cons (.var 3) .nil))) (.call (.con (.ty "range")) (.cons (.var 6) .nil)) .ttrue))
  (.seq (.set 8 (.ite (.tval (.var 5)) (.meth (.var 0) n_node (.cons (.sub (.var 1) (.var 6)) (.cons (.bin .Add (.var 2) (.int (1))) .nil))) .none))
  (.seq (.ret (.tuple (.cons (.var 7) (.cons (.var 8) .nil)))) .nil)))))))
noncomputable def k_PatternReader_row : K :=
  (.seq (.unpack (.many [3, 4]) (.call (.con (.ref f_split_list)) (.cons (.var 1) .nil)))
  (.seq (.ifs (.tcmp .Is (.var 4) .none)
    (.seq .bad .nil)
    .nil)
  (.seq (.unpack (.many [5, 6]) (.meth (.var 0) n_parts (.cons (.var 3) (.cons (.var 2) (.cons (.var 1) .nil)))))
  (.seq (.ifs (.tand (.tcmp .IsNot (.var 6) .none) (.tand (.tcmp .IsNot (.var 4) (.con (.ref a_EMPTY))) .ttrue))
    (.seq .bad .nil)
    .nil)
  (.seq (.ret (.tuple (.cons (.con (.int (4))) (.cons (.var 5) (.cons (.var 6) (.cons (.ite (.tcmp .Is (.var 4) (.con (.ref a_EMPTY))) (.con (.ref a_NOTHING)) (.meth (.var 0) n_node (.cons (.var 4) (.cons (.var 2) .nil)))) .nil)))))) .nil)))))
noncomputable def k_TemplateReader_init : K :=
  (.seq (.setA (.var 0) n_depths (.var 1)) .nil)
noncomputable def k_TemplateReader_node : K :=
  (.seq (.ifs (.tval (.call (.con (.ref f_is_identifier)) (.cons (.var 1) .nil)))
    (.seq (.ret (.meth (.var 0) n_name (.cons (.var 1) (.cons (.var 2) .nil)))) .nil)
    .nil)
  (.seq (.ifs (.tval (.call (.con (.bi "isinstance")) (.cons (.var 1) (.cons (.con (.ref c_Pair)) .nil))))
    (.seq (.unpack (.many [3, 4]) (.call (.con (.ref f_split_list)) (.cons (.var 1) .nil)))
    (.seq (.ifs (.tcmp .Is (.var 4) .none)
      (.seq .bad .nil)
      .nil)
    (.seq (.set 5 (.meth (.var 0) n_parts (.cons (.var 3) (.cons (.var 2) (.cons (.var 1) .nil)))))
    (.seq (.ret (.tuple (.cons (.con (.int (4))) (.cons (.var 5) (.cons (.ite (.tcmp .Is (.var 4) (.con (.ref a_EMPTY))) (.con (.ref a_NOTHING)) (.meth (.var 0) n_node (.cons (.var 4) (.cons (.var 2) .nil)))) .nil))))) .nil))))
    .nil)
  (.seq (.ifs (.tval (.call (.con (.bi "isinstance")) (.cons (.var 1) (.cons (.con (.ref c_Vector)) .nil))))
    (.seq (.ret (.tuple (.cons (.con (.int (5))) (.cons (.meth (.var 0) n_parts (.cons (.attr (.var 1) n_things) (.cons (.var 2) (.cons (.var 1) .nil)))) .nil)))) .nil)
    .nil)
  (.seq (.ret (.tuple (.cons (.con (.int (3))) (.cons (.var 1) .nil)))) .nil))))
noncomputable def k_TemplateReader_name : K :=
  (.seq (.ifs (.tval (.call (.con (.ref f_is_ellipsis)) (.cons (.var 1) .nil)))
    (.seq .bad .nil)
    .nil)
  (.seq (.set 3 (.call (.con (.ref f_key_of)) (.cons (.var 1) .nil)))
  (.seq (.ifs (.tnotin (.var 3) (.attr (.var 0) n_depths))
    (.seq (.ret (.tuple (.cons (.con (.int (6))) (.cons (.var 1) .nil)))) .nil)
    .nil)
  (.seq (.ifs (.tcmp .Lt (.var 2) (.sub (.attr (.var 0) n_depths) (.var 3)))
    (.seq .bad .nil)
    .nil)
  (.seq (.ret (.tuple (.cons (.con (.int (1))) (.cons (.var 3) .nil)))) .nil)))))
noncomputable def k_TemplateReader_parts : K :=
  (.seq (.set 4 (.list .nil))
  (.seq (.set 5 (.int (0)))
  (.seq (.whil (.tcmp .Lt (.var 5) (.call (.con (.bi "len")) (.cons (.var 1) .nil)))
    (.seq (.ifs (.tval (.call (.con (.ref f_is_ellipsis)) (.cons (.sub (.var 1) (.var 5)) .nil)))
      (.seq .bad .nil)
      .nil)
    (.seq (.set 6 (.bin .Add (.var 5) (.int (1))))
    (.seq (.whil (.tand (.tcmp .Lt (.var 6) (.call (.con (.bi "len")) (.cons (.var 1) .nil))) (.tand (.tval (.call (.con (.ref f_is_ellipsis)) (.cons (.sub (.var 1) (.var 6)) .nil))) .ttrue))
      (.seq (.set 6 (.bin .Add (.var 6) (.int (1)))) .nil))
    (.seq (.set 7 (.bin .Sub (.bin .Sub (.var 6) (.var 5)) (.int (1))))
    (.seq (.set 8 (.meth (.var 0) n_node (.cons (.sub (.var 1) (.var 5)) (.cons (.bin .Add (.var 2) (.var 7)) .nil))))
    (.seq (.fors (.one 9) (.call (.con (.ty "range")) (.cons (.var 7) .nil))
      (.seq (.ifs (.tno (.tval .bad))
        (.seq .bad .nil)
        .nil)
      (.seq (.set 8 (.tuple (.cons (.con (.int (7))) (.cons (.var 8) .nil)))) .nil)))
    (.seq (.expr (.meth (.var 4) n_append (.cons (.var 8) .nil)))
    (.seq (.set 5 (.var 6)) .nil)))))))))
  (.seq (.ret (.var 4)) .nil))))
noncomputable def k_Matcher_init : K :=
  (.seq (.setA (.var 0) n_macro (.var 1))
  (.seq (.setA (.var 0) n_scope (.var 2))
  (.seq (.setA (.var 0) n_found .dict0) .nil)))
noncomputable def k_Matcher_fits : K :=
  (.seq (.set 3 (.sub (.var 1) (.int (0))))
  (.seq (.ifs (.tcmp .Eq (.var 3) (.con (.int (1))))
    (.seq (.setI (.attr (.var 0) n_found) (.sub (.var 1) (.int (1))) (.var 2))
    (.seq (.ret (.bool true)) .nil))
    .nil)
  (.seq (.ifs (.tcmp .Eq (.var 3) (.con (.int (2))))
    (.seq (.ret (.andv (.call (.con (.ref f_is_identifier)) (.cons (.var 2) .nil)) (.call (.con (.ref 526)) (.cons (.var 2) (.cons (.attr (.var 0) n_scope) (.cons (.sub (.var 1) (.int (1))) (.cons (.attr (.attr (.var 0) n_macro) n_scope) .nil))))))) .nil)
    .nil)
  (.seq (.ifs (.tcmp .Eq (.var 3) (.con (.int (4))))
    (.seq (.ret (.meth (.var 0) n_fits_row (.cons (.var 1) (.cons (.var 2) .nil)))) .nil)
    .nil)
  (.seq (.ifs (.tcmp .Eq (.var 3) (.con (.int (5))))
    (.seq (.ifs (.tor (.tno (.tval (.call (.con (.bi "isinstance")) (.cons (.var 2) (.cons (.con (.ref c_Vector)) .nil))))) (.tor (.tno (.tval (.meth (.var 0) n_fits_parts (.cons (.sub (.var 1) (.int (1))) (.cons (.sub (.var 1) (.int (2))) (.cons (.attr (.var 2) n_things) .nil)))))) .tfalse))
      (.seq (.ret (.bool false)) .nil)
      .nil)
    (.seq (.ret (.orv (.cmp .IsNot (.sub (.var 1) (.int (2))) .none) (.cmp .Eq (.call (.con (.bi "len")) (.cons (.attr (.var 2) n_things) .nil)) (.call (.con (.bi "len")) (.cons (.sub (.var 1) (.int (1))) .nil))))) .nil))
    .nil)
  (.seq (.ret (.call (.con (.ref f_same_atom)) (.cons (.sub (.var 1) (.int (1))) (.cons (.var 2) .nil)))) .nil))))))
noncomputable def k_Matcher_fits_row : K :=
  (.seq (.swap [5, 4, 3] (.tuple (.cons (.sub (.var 1) (.int (1))) (.cons (.sub (.var 1) (.int (2))) (.cons (.sub (.var 1) (.int (3))) .nil)))))
  (.seq (.ifs (.tcmp .IsNot (.var 4) .none)
    (.seq (.unpack (.many [6, 7]) (.call (.con (.ref f_split_list)) (.cons (.var 2) .nil)))
    (.seq (.ret (.andv (.cmp .Is (.var 7) (.con (.ref a_EMPTY))) (.meth (.var 0) n_fits_parts (.cons (.var 3) (.cons (.var 4) (.cons (.var 6) .nil)))))) .nil))
    .nil)
  (.seq (.set 8 (.var 2))
  (.seq (.fors (.one 9) (.var 3)
    (.seq (.ifs (.tor (.tno (.tval (.call (.con (.bi "isinstance")) (.cons (.var 8) (.cons (.con (.ref c_Pair)) .nil))))) (.tor (.tno (.tval (.meth (.var 0) n_fits (.cons (.var 9) (.cons (.attr (.var 8) n_car) .nil))))) .tfalse))
      (.seq (.ret (.bool false)) .nil)
      .nil)
    (.seq (.set 8 (.attr (.var 8) n_cdr)) .nil)))
  (.seq (.ret (.meth (.var 0) n_fits (.cons (.var 5) (.cons (.var 8) .nil)))) .nil)))))
noncomputable def k_Writer_init : K :=
  (.seq (.setA (.var 0) n_macro (.var 1))
  (.seq (.setA (.var 0) n_world (.var 2))
  (.seq (.setA (.var 0) n_aliases .dict0) .nil)))
noncomputable def k_Writer_alias : K :=
  (.seq (.set 2 (.call (.con (.ref f_key_of)) (.cons (.var 1) .nil)))
  (.seq (.ifs (.tnotin (.var 2) (.attr (.var 0) n_aliases))
    (.seq (.setI (.attr (.var 0) n_aliases) (.var 2) (.call (.con (.ref f_alias_of)) (.cons (.var 1) (.cons (.attr (.attr (.var 0) n_macro) n_scope) (.cons (.attr (.var 0) n_world) .nil))))) .nil)
    .nil)
  (.seq (.ret (.sub (.attr (.var 0) n_aliases) (.var 2))) .nil)))
noncomputable def k_Writer_datum : K :=
  (.seq (.set 3 (.sub (.var 1) (.int (0))))
  (.seq (.ifs (.tcmp .Eq (.var 3) (.con (.int (1))))
    (.seq (.ret (.sub (.var 2) (.sub (.var 1) (.int (1))))) .nil)
    .nil)
  (.seq (.ifs (.tcmp .Eq (.var 3) (.con (.int (6))))
    (.seq (.ret (.meth (.var 0) n_alias (.cons (.sub (.var 1) (.int (1))) .nil))) .nil)
    .nil)
  (.seq (.ifs (.tcmp .Eq (.var 3) (.con (.int (4))))
    (.seq (.ret (.call (.con (.ref f_list_of)) (.cons (.meth (.var 0) n_parts (.cons (.sub (.var 1) (.int (1))) (.cons (.var 2) .nil))) (.cons (.meth (.var 0) n_datum (.cons (.sub (.var 1) (.int (2))) (.cons (.var 2) .nil))) .nil)))) .nil)
    .nil)
  (.seq (.ifs (.tcmp .Eq (.var 3) (.con (.int (5))))
    (.seq (.ret (.call (.con (.ref c_Vector)) (.cons (.meth (.var 0) n_parts (.cons (.sub (.var 1) (.int (1))) (.cons (.var 2) .nil))) .nil))) .nil)
    .nil)
  (.seq (.ret (.sub (.var 1) (.int (1)))) .nil))))))
noncomputable def k_Writer_parts : K :=
  (.seq (.set 3 (.list .nil))
  (.seq (.fors (.one 4) (.var 1)
    (.seq (.ifs (.tcmp .Eq (.sub (.var 4) (.int (0))) (.con (.int (7))))
      (.seq (.expr (.meth (.var 3) n_extend (.cons .bad .nil))) .nil)
      (.seq (.expr (.meth (.var 3) n_append (.cons (.meth (.var 0) n_datum (.cons (.var 4) (.cons (.var 2) .nil))) .nil))) .nil)) .nil))
  (.seq (.ret (.var 3)) .nil)))
noncomputable def k_Names_init : K :=
  (.seq (.setA (.var 0) n_table (.call (.con (.ref c_SymbolTable)) .nil))
  (.seq (.setA (.var 0) n_last (.int (0)))
  (.seq (.setA (.var 0) n_titles .dict0)
  (.seq (.setA (.var 0) n_ops .dict0)
  (.seq (.setA (.var 0) n_root .none) .nil)))))
noncomputable def k_Names_fresh : K :=
  (.seq (.setA (.var 0) n_last (.bin .Add (.attr (.var 0) n_last) (.int (1))))
  (.seq (.ret (.attr (.var 0) n_last)) .nil))
noncomputable def k_Names_symbol : K :=
  (.seq (.ret (.meth (.attr (.var 0) n_table) n_symbol (.cons (.var 1) .nil))) .nil)
noncomputable def FunIs (C : Cx) (f : Addr) (ex : List Value) (m : Nat) (b : K) : Prop := ∃ S body, DefIs C f ex m S body ∧ bodyOf GT S body = b
noncomputable def GETS : List (Addr × Nat) := [(c_Symbol, n_number), (c_Symbol, n_text), (c_SymbolTable, n_rows), (c_SymbolTable, n_by_text), (c_Pair, n_car), (c_Pair, n_cdr), (c_Vector, n_things), (c_Alias, n_number), (c_Alias, n_base), (c_Alias, n_scope), (c_Macro, n_rules), (c_Macro, n_scope), (c_Scope, n_parent), (c_Scope, n_names), (c_Rule, n_pattern), (c_Rule, n_template), (c_PatternReader, n_literals), (c_PatternReader, n_depths), (c_TemplateReader, n_depths), (c_Matcher, n_found), (c_Writer, n_macro), (c_Writer, n_world), (c_Writer, n_aliases), (c_Names, n_table), (c_Names, n_last)]
noncomputable def SETS : List (Addr × Nat) := [(c_Symbol, n_number), (c_Symbol, n_text), (c_SymbolTable, n_rows), (c_SymbolTable, n_by_text), (c_Pair, n_car), (c_Pair, n_cdr), (c_Vector, n_things), (c_Alias, n_number), (c_Alias, n_base), (c_Alias, n_scope), (c_GlobalName, n_symbol), (c_Macro, n_literals), (c_Macro, n_rules), (c_Macro, n_scope), (c_Scope, n_parent), (c_Scope, n_names), (c_Rule, n_pattern), (c_Rule, n_depths), (c_Rule, n_template), (c_PatternReader, n_literals), (c_PatternReader, n_depths), (c_TemplateReader, n_depths), (c_Matcher, n_macro), (c_Matcher, n_scope), (c_Matcher, n_found), (c_Writer, n_macro), (c_Writer, n_world), (c_Writer, n_aliases), (c_Names, n_table), (c_Names, n_last), (c_Names, n_titles), (c_Names, n_ops), (c_Names, n_root)]
noncomputable def MTHS : List (Addr × Nat × Addr) := [(c_SymbolTable, n_symbol, f_SymbolTable_symbol), (c_Scope, n_bound, f_Scope_bound), (c_Scope, n_find, f_Scope_find), (c_PatternReader, n_node, f_PatternReader_node), (c_PatternReader, n_name, f_PatternReader_name), (c_PatternReader, n_parts, f_PatternReader_parts), (c_PatternReader, n_row, f_PatternReader_row), (c_TemplateReader, n_node, f_TemplateReader_node), (c_TemplateReader, n_name, f_TemplateReader_name), (c_TemplateReader, n_parts, f_TemplateReader_parts), (c_Matcher, n_fits, f_Matcher_fits), (c_Matcher, n_fits_row, f_Matcher_fits_row), (c_Writer, n_alias, f_Writer_alias), (c_Writer, n_datum, f_Writer_datum), (c_Writer, n_parts, f_Writer_parts), (c_Names, n_fresh, f_Names_fresh), (c_Names, n_symbol, f_Names_symbol)]
noncomputable def ISY : List Addr := [c_Symbol, c_Alias, c_Pair, c_Vector, c_GlobalName, c_Special_data]
noncomputable def ISN : List (Addr × Addr) := [(c_Symbol, c_Alias), (c_Symbol, c_Pair), (c_Symbol, c_Vector), (c_Symbol, c_GlobalName), (c_Symbol, c_Ratio), (c_Symbol, c_Real), (c_Symbol, c_Char), (c_Symbol, c_Text), (c_Symbol, c_Special_data), (c_Alias, c_Symbol), (c_Alias, c_Pair), (c_Alias, c_Vector), (c_Alias, c_GlobalName), (c_Alias, c_Ratio), (c_Alias, c_Real), (c_Alias, c_Char), (c_Alias, c_Text), (c_Alias, c_Special_data), (c_Pair, c_Symbol), (c_Pair, c_Alias), (c_Pair, c_Vector), (c_Pair, c_GlobalName), (c_Pair, c_Ratio), (c_Pair, c_Real), (c_Pair, c_Char), (c_Pair, c_Text), (c_Pair, c_Special_data), (c_Vector, c_Symbol), (c_Vector, c_Alias), (c_Vector, c_Pair), (c_Vector, c_GlobalName), (c_Vector, c_Ratio), (c_Vector, c_Real), (c_Vector, c_Char), (c_Vector, c_Text), (c_Vector, c_Special_data), (c_Special_data, c_Symbol), (c_Special_data, c_Alias), (c_Special_data, c_Pair), (c_Special_data, c_Vector), (c_Special_data, c_GlobalName), (c_Special_data, c_Ratio), (c_Special_data, c_Real), (c_Special_data, c_Char), (c_Special_data, c_Text), (c_GlobalName, c_Symbol), (c_GlobalName, c_Alias), (c_GlobalName, c_Pair), (c_GlobalName, c_Vector), (c_GlobalName, c_Ratio), (c_GlobalName, c_Real), (c_GlobalName, c_Char), (c_GlobalName, c_Text), (c_GlobalName, c_Special_data)]
noncomputable def IST : List (Addr × String) := [(c_Special_data, "bool"), (c_Special_data, "int")]
noncomputable def ISI : List Addr := [c_Symbol, c_Alias, c_Pair, c_Vector]
structure Fit (C : Cx) : Prop where
  glob : ∀ x v, GT.lookup x = some v → GlobIs C x v
  list_of : FunIs C f_list_of [] 2 k_list_of
  split_list : FunIs C f_split_list [] 1 k_split_list
  is_whole : FunIs C f_is_whole [] 1 k_is_whole
  is_identifier : FunIs C f_is_identifier [] 1 k_is_identifier
  key_of : FunIs C f_key_of [] 1 k_key_of
  root_symbol : FunIs C f_root_symbol [] 1 k_root_symbol
  is_named : FunIs C f_is_named [] 2 k_is_named
  alias_of : FunIs C f_alias_of [] 3 k_alias_of
  strip_take : FunIs C f_strip_take [] 3 k_strip_take
  strip : FunIs C f_strip [] 1 k_strip
  has_alias : FunIs C f_has_alias [] 1 k_has_alias
  plain : FunIs C f_plain [] 1 k_plain
  is_ellipsis : FunIs C f_is_ellipsis [] 1 k_is_ellipsis
  literal_keys : FunIs C f_literal_keys [] 1 k_literal_keys
  read_rule : FunIs C f_read_rule [] 2 k_read_rule
  is_rules_word : FunIs C f_is_rules_word [] 2 k_is_rules_word
  read_rules : FunIs C f_read_rules [] 3 k_read_rules
  same_atom : FunIs C f_same_atom [] 2 k_same_atom
  «match» : FunIs C f_match [] 4 k_match
  fill : FunIs C f_fill [] 4 k_fill
  first_fitting : FunIs C f_first_fitting [] 3 k_first_fitting
  transcribe : FunIs C f_transcribe [] 4 k_transcribe
  law_deck : FunIs C f_law_deck [] 1 k_law_deck
  law_draw : FunIs C f_law_draw [] 2 k_law_draw
  law_drawn : FunIs C f_law_drawn [] 2 k_law_drawn
  law_datum : FunIs C f_law_datum [] 2 k_law_datum
  law_leaves : FunIs C f_law_leaves [] 2 k_law_leaves
  law_right : FunIs C f_law_right [] 4 k_law_right
  law_text : FunIs C f_law_text [] 1 k_law_text
  law : FunIs C f_law [] 1 k_law
  Symbol_init : FunIs C f_Symbol_init [] 3 k_Symbol_init
  SymbolTable_init : FunIs C f_SymbolTable_init [] 1 k_SymbolTable_init
  SymbolTable_symbol : FunIs C f_SymbolTable_symbol [] 2 k_SymbolTable_symbol
  Pair_init : FunIs C f_Pair_init [] 3 k_Pair_init
  Vector_init : FunIs C f_Vector_init [] 2 k_Vector_init
  Alias_init : FunIs C f_Alias_init [] 4 k_Alias_init
  GlobalName_init : FunIs C f_GlobalName_init [] 2 k_GlobalName_init
  Macro_init : FunIs C f_Macro_init [] 4 k_Macro_init
  Scope_init : FunIs C f_Scope_init [] 2 k_Scope_init
  Scope_bound : FunIs C f_Scope_bound [] 2 k_Scope_bound
  Scope_find : FunIs C f_Scope_find [] 2 k_Scope_find
  Rule_init : FunIs C f_Rule_init [] 4 k_Rule_init
  PatternReader_init : FunIs C f_PatternReader_init [] 2 k_PatternReader_init
  PatternReader_node : FunIs C f_PatternReader_node [] 3 k_PatternReader_node
  PatternReader_name : FunIs C f_PatternReader_name [] 3 k_PatternReader_name
  PatternReader_parts : FunIs C f_PatternReader_parts [] 4 k_PatternReader_parts
  PatternReader_row : FunIs C f_PatternReader_row [] 3 k_PatternReader_row
  TemplateReader_init : FunIs C f_TemplateReader_init [] 2 k_TemplateReader_init
  TemplateReader_node : FunIs C f_TemplateReader_node [] 3 k_TemplateReader_node
  TemplateReader_name : FunIs C f_TemplateReader_name [] 3 k_TemplateReader_name
  TemplateReader_parts : FunIs C f_TemplateReader_parts [] 4 k_TemplateReader_parts
  Matcher_init : FunIs C f_Matcher_init [] 3 k_Matcher_init
  Matcher_fits : FunIs C f_Matcher_fits [] 3 k_Matcher_fits
  Matcher_fits_row : FunIs C f_Matcher_fits_row [] 3 k_Matcher_fits_row
  Writer_init : FunIs C f_Writer_init [] 3 k_Writer_init
  Writer_alias : FunIs C f_Writer_alias [] 2 k_Writer_alias
  Writer_datum : FunIs C f_Writer_datum [] 3 k_Writer_datum
  Writer_parts : FunIs C f_Writer_parts [] 3 k_Writer_parts
  Names_init : FunIs C f_Names_init [] 1 k_Names_init
  Names_fresh : FunIs C f_Names_fresh [] 1 k_Names_fresh
  Names_symbol : FunIs C f_Names_symbol [] 2 k_Names_symbol
  list_of1 : FunIs C f_list_of [.ref a_EMPTY] 2 k_list_of
  cSymbol : ClsIs C c_Symbol f_Symbol_init
  cSymbolTable : ClsIs C c_SymbolTable f_SymbolTable_init
  cPair : ClsIs C c_Pair f_Pair_init
  cVector : ClsIs C c_Vector f_Vector_init
  cAlias : ClsIs C c_Alias f_Alias_init
  cGlobalName : ClsIs C c_GlobalName f_GlobalName_init
  cMacro : ClsIs C c_Macro f_Macro_init
  cScope : ClsIs C c_Scope f_Scope_init
  cRule : ClsIs C c_Rule f_Rule_init
  cPatternReader : ClsIs C c_PatternReader f_PatternReader_init
  cTemplateReader : ClsIs C c_TemplateReader f_TemplateReader_init
  cMatcher : ClsIs C c_Matcher f_Matcher_init
  cWriter : ClsIs C c_Writer f_Writer_init
  cNames : ClsIs C c_Names f_Names_init
  get : ∀ p ∈ GETS, ∀ name, idx AN name = some p.2 → getOK C.K p.1 name = true
  put : ∀ p ∈ SETS, ∀ name, idx AN name = some p.2 → setOK C.K p.1 name = true
  mth : ∀ p ∈ MTHS, ∀ name, idx AN name = some p.2.1 → methOK C.K p.1 name p.2.2 = true
  isy : ∀ c ∈ ISY, isIn C.K (.ref c) c = true
  isn : ∀ p ∈ ISN, isiF C.K p.1 p.2 = true
  ist : ∀ p ∈ IST, isiFT C.K p.1 p.2 = true
  isi : ∀ c ∈ ISI, isNotIn C.K "int" c = true
end N226
end
noncomputable section
open PySem PySem.W PySem.Calls PyProof.Rows
set_option maxRecDepth 10000
namespace N226
section
variable {C : Cx} {n : Nat} {ρ : Loc} {H : MH}
theorem FunIs.on (F : Fit C) {f : Addr} {ex : List Value} {m : Nat} {b : K} (h : FunIs C f ex m b) {vs : List V} {Q : V → MH → Prop} (hv : vs.length + ex.length = m) (w : wpK C n b (argLoc (vs ++ ex.map er)) H (retQ Q)) : WC C (n + 1) (.ref f) vs H Q := by
  obtain ⟨S, body, D, hb⟩ := h
  exact WC_fun F.glob D hb hv w
theorem FunIs.can {f : Addr} {ex : List Value} {m : Nat} {b : K} (h : FunIs C f ex m b) : Callable C (.ref f) := by
  obtain ⟨S, body, D, hb⟩ := h
  exact Callable_K D.calls
theorem ClsIs.on (F : Fit C) {Cl f : Addr} (c : ClsIs C Cl f) {m : Nat} {b : K} (h : FunIs C f [] m b) {vs : List V} {Q : V → MH → Prop} (hv : vs.length + 1 = m) (w : ∀ c, H c = none → wpK C n b (argLoc (.ref c :: vs)) (H.set c (.inst Cl [])) (retQ fun v H' => v = .none ∧ Q (.ref c) H')) : WC C (n + 2) (.ref Cl) vs H Q := by
  obtain ⟨S, body, D, hb⟩ := h
  exact WC_cls F.glob c D hb hv w
theorem ClsIs.can {Cl f : Addr} (c : ClsIs C Cl f) : Callable C (.ref Cl) := Callable_K c.calls
theorem attr_at (F : Fit C) {x Cl : Addr} {i : Nat} {fs : List (Nat × V)} {v : V} {Q : V → MH → Prop} (hx : H x = some (.inst Cl fs)) (hm : (Cl, i) ∈ GETS) (hv : fieldOf fs i = some v) (hb : noBi v = true) (q : Q v H) : attrW C n i (.ref x) H Q :=
  fun name hi => attr_ok rfl hi hx (F.get _ hm name hi) hv hb q
theorem put_at (F : Fit C) {x Cl : Addr} {i : Nat} {fs : List (Nat × V)} {v : V} {Q : MH → Prop} (hx : H x = some (.inst Cl fs)) (hm : (Cl, i) ∈ SETS) (hz : fs.length < 900) (q : Q (H.set x (.inst Cl (putF i v fs)))) : setW C n i (.ref x) v H Q :=
  fun name hi => set_ok rfl hi hx hz (F.put _ hm name hi) q
theorem meth_at (F : Fit C) {x Cl f : Addr} {i : Nat} {fs : List (Nat × V)} {Q : V → List V → Prop} (hx : H x = some (.inst Cl fs)) (hm : (Cl, i, f) ∈ MTHS) (hv : fieldOf fs i = none) (q : Q (.ref f) [.ref x]) : methW C i (.ref x) H Q :=
  fun name hi => meth_ok rfl hi hx (F.mth _ hm name hi) hv q
theorem bi_list {a : Addr} {vs : List V} {i : Nat} {id : String} {Q : V → List V → Prop} (hx : H a = some (.list vs)) (h : methL i = some id) (q : Q (.bi id) [.ref a]) : methW C i (.ref a) H Q := fun name hi => WMeth_list hi hx h q
theorem bi_dict {a : Addr} {es : List (V × V)} {ep : Nat} {Q : V → List V → Prop} (hx : H a = some (.dict es ep)) (q : Q (.bi "dict.get") [.ref a]) : methW C n_get (.ref a) H Q := fun name hi => WMeth_dict hi hx q
theorem bi_join {x : Str} {Q : V → List V → Prop} (q : Q (.bi "str.join") [.str x]) : methW C n_join (.str x) H Q := fun name hi => WMeth_join hi q
theorem isi_yes (F : Fit C) {x Cl : Addr} {Q : V → MH → Prop} (e : instOf H x = some Cl) (hm : Cl ∈ ISY) (q : Q (.bool true) H) : Callable C (.bi "isinstance") ∧ WC C n (.bi "isinstance") [.ref x, .ref Cl] H Q := by
  have h := F.isy Cl hm
  exact ⟨Callable_bi, WC_isi_yes e h q⟩
theorem isi_no (F : Fit C) {x D Cl : Addr} {Q : V → MH → Prop} (e : instOf H x = some D) (hm : (D, Cl) ∈ ISN) (q : Q (.bool false) H) : Callable C (.bi "isinstance") ∧ WC C n (.bi "isinstance") [.ref x, .ref Cl] H Q := by
  have h := F.isn (D, Cl) hm
  exact ⟨Callable_bi, WC_isi_no e h q⟩
theorem isi_int (F : Fit C) {i : Int} {Cl : Addr} {Q : V → MH → Prop} (hm : Cl ∈ ISI) (q : Q (.bool false) H) : Callable C (.bi "isinstance") ∧ WC C n (.bi "isinstance") [.int i, .ref Cl] H Q := by
  have h := F.isi Cl hm
  exact ⟨Callable_bi, WC_isi_int h q⟩
theorem ne_of {a b : Addr} {x y : MO} (h1 : H a = some x) (h2 : H b = some y) (h : x ≠ y) : a ≠ b := fun e => h (by rw [e, h2] at h1; exact (Option.some.inj h1).symm)
theorem ne_new {a b : Addr} {x : MO} (h1 : H a = some x) (h2 : H b = none) : a ≠ b := fun e => by rw [e, h2] at h1; cases h1
theorem set_old {a b : Addr} {x y : MO} (h1 : H a = some x) (h2 : H b = none) : (H.set b y) a = some x := by rw [MH.set_ne _ _ (ne_new h1 h2)]; exact h1
theorem set_set {a : Addr} {x y : MO} : (H.set a x).set a y = H.set a y := by
  funext b; unfold MH.set; split <;> rfl
noncomputable def Ext (H H' : MH) : Prop := ∀ a o, H a = some o → H' a = some o
theorem Ext.refl : Ext H H := fun _ _ e => e
theorem Ext.trans {H' H'' : MH} (x : Ext H H') (y : Ext H' H'') : Ext H H'' := fun a o e => y a o (x a o e)
theorem Ext.new {c : Addr} {o : MO} (h : H c = none) : Ext H (H.set c o) := fun a x e => set_old e h
noncomputable def But (M : List Addr) (H H' : MH) : Prop := ∀ a o, H a = some o → a ∉ M → H' a = some o
theorem Ext.but {M : List Addr} {H' : MH} (x : Ext H H') : But M H H' := fun a o e _ => x a o e
theorem But.trans {M : List Addr} {H' H'' : MH} (x : But M H H') (y : But M H' H'') : But M H H'' := fun a o e n => y a o (x a o e n) n
theorem But.more {M N : List Addr} {H' : MH} (x : But M H H') (h : ∀ a ∈ M, a ∈ N) : But N H H' := fun a o e n => x a o e fun q => n (h a q)
theorem But.set {a : Addr} {o : MO} {M : List Addr} (h : a ∈ M) : But M H (H.set a o) := fun b x e n => by
  rw [MH.set_ne _ _ (fun q : b = a => n (by rw [q]; exact h))]; exact e
end
section
variable {C : Cx} {n : Nat} {ρ : Loc} {H : MH}
theorem putF_len (i : Nat) (v : V) (fs : List (Nat × V)) : (putF i v fs).length ≤ fs.length + 1 := by
  induction fs with
  | nil => simp [putF]
  | cons f r ih => unfold putF; split <;> simp <;> walk_at "O"
theorem putF_0 (x : Unit) : ([] : List (Nat × V)).length < 900 := by simp
theorem putF_1 (i : Nat) (v : V) (x : Unit) : (putF i v []).length < 900 := by have := putF_len i v []; simp at this; walk_at "O"
theorem putF_2 (i : Nat) (v : V) (j : Nat) (u : V) (x : Unit) : (putF i v (putF j u [])).length < 900 := by have := putF_len i v (putF j u []); have := putF_len j u []; simp at this; walk_at "O"
theorem putF_3 (i : Nat) (v : V) (j : Nat) (u : V) (k : Nat) (w : V) (x : Unit) : (putF i v (putF j u (putF k w []))).length < 900 := by
  have := putF_len i v (putF j u (putF k w [])); have := putF_len j u (putF k w []); have := putF_len k w []; simp at this; walk_at "O"
theorem putF_4 (i : Nat) (v : V) (j : Nat) (u : V) (k : Nat) (w : V) (l : Nat) (z : V) (x : Unit) : (putF i v (putF j u (putF k w (putF l z [])))).length < 900 := by
  have := putF_len i v (putF j u (putF k w (putF l z []))); have := putF_len j u (putF k w (putF l z [])); have := putF_len k w (putF l z []); have := putF_len l z []; simp at this; walk_at "O"
noncomputable abbrev symFs (k : Int) (t : Str) : List (Nat × V) := [(n_number, .int k), (n_text, .str t)]
noncomputable abbrev pairFs (a d : V) : List (Nat × V) := [(n_car, a), (n_cdr, d)]
theorem mk_Pair (F : Fit C) {a d : V} {Q : V → MH → Prop} (q : ∀ c H', Ext H H' → H c = none → H' c = some (.inst c_Pair (pairFs a d)) → Q (.ref c) H') : WC C (n + 2) (.ref c_Pair) [a, d] H Q := by
  refine F.cPair.on F F.Pair_init rfl fun c hc => ?_
  unfold k_Pair_init
  walk_at "L"
  refine put_at F (MH.set_self _ _ _) (by decide) (by simp) ?_
  simp only [set_set]
  refine put_at F (MH.set_self _ _ _) (by decide) (by first | exact putF_0 () | exact putF_1 _ _ () | exact putF_2 _ _ _ _ () | exact putF_3 _ _ _ _ _ _ () | exact putF_4 _ _ _ _ _ _ _ _ ()) ?_
  simp only [set_set]
  exact ⟨by trivial, q c _ (Ext.new hc) hc (MH.set_self _ _ _)⟩
theorem mk_Symbol (F : Fit C) {k : Int} {t : Str} {Q : V → MH → Prop} (q : ∀ c H', Ext H H' → H c = none → H' c = some (.inst c_Symbol (symFs k t)) → Q (.ref c) H') : WC C (n + 2) (.ref c_Symbol) [.int k, .str t] H Q := by
  refine F.cSymbol.on F F.Symbol_init rfl fun c hc => ?_
  unfold k_Symbol_init
  walk_at "L"
  refine put_at F (MH.set_self _ _ _) (by decide) (by simp) ?_
  simp only [set_set]
  refine put_at F (MH.set_self _ _ _) (by decide) (by first | exact putF_0 () | exact putF_1 _ _ () | exact putF_2 _ _ _ _ () | exact putF_3 _ _ _ _ _ _ () | exact putF_4 _ _ _ _ _ _ _ _ ()) ?_
  simp only [set_set]
  exact ⟨by trivial, q c _ (Ext.new hc) hc (MH.set_self _ _ _)⟩
theorem mk_Vector (F : Fit C) {l : V} {Q : V → MH → Prop} (q : ∀ c H', Ext H H' → H c = none → H' c = some (.inst c_Vector [(n_things, l)]) → Q (.ref c) H') : WC C (n + 2) (.ref c_Vector) [l] H Q := by
  refine F.cVector.on F F.Vector_init rfl fun c hc => ?_
  unfold k_Vector_init
  walk_at "L"
  refine put_at F (MH.set_self _ _ _) (by decide) (by simp) ?_
  simp only [set_set]
  exact ⟨by trivial, q c _ (Ext.new hc) hc (MH.set_self _ _ _)⟩
theorem mk_Alias (F : Fit C) {k b s : V} {Q : V → MH → Prop} (q : ∀ c H', Ext H H' → H c = none → H' c = some (.inst c_Alias [(n_number, k), (n_base, b), (n_scope, s)]) → Q (.ref c) H') : WC C (n + 2) (.ref c_Alias) [k, b, s] H Q := by
  refine F.cAlias.on F F.Alias_init rfl fun c hc => ?_
  unfold k_Alias_init
  walk_at "L"
  refine put_at F (MH.set_self _ _ _) (by decide) (by simp) ?_
  simp only [set_set]
  refine put_at F (MH.set_self _ _ _) (by decide) (by first | exact putF_0 () | exact putF_1 _ _ () | exact putF_2 _ _ _ _ () | exact putF_3 _ _ _ _ _ _ () | exact putF_4 _ _ _ _ _ _ _ _ ()) ?_
  simp only [set_set]
  refine put_at F (MH.set_self _ _ _) (by decide) (by first | exact putF_0 () | exact putF_1 _ _ () | exact putF_2 _ _ _ _ () | exact putF_3 _ _ _ _ _ _ () | exact putF_4 _ _ _ _ _ _ _ _ ()) ?_
  simp only [set_set]
  exact ⟨by trivial, q c _ (Ext.new hc) hc (MH.set_self _ _ _)⟩
theorem mk_GlobalName (F : Fit C) {s : V} {Q : V → MH → Prop} (q : ∀ c H', Ext H H' → H c = none → H' c = some (.inst c_GlobalName [(n_symbol, s)]) → Q (.ref c) H') : WC C (n + 2) (.ref c_GlobalName) [s] H Q := by
  refine F.cGlobalName.on F F.GlobalName_init rfl fun c hc => ?_
  unfold k_GlobalName_init
  walk_at "L"
  refine put_at F (MH.set_self _ _ _) (by decide) (by simp) ?_
  simp only [set_set]
  exact ⟨by trivial, q c _ (Ext.new hc) hc (MH.set_self _ _ _)⟩
theorem mk_Macro (F : Fit C) {l r s : V} {Q : V → MH → Prop} (q : ∀ c H', Ext H H' → H c = none → H' c = some (.inst c_Macro [(n_literals, l), (n_rules, r), (n_scope, s)]) → Q (.ref c) H') : WC C (n + 2) (.ref c_Macro) [l, r, s] H Q := by
  refine F.cMacro.on F F.Macro_init rfl fun c hc => ?_
  unfold k_Macro_init
  walk_at "L"
  refine put_at F (MH.set_self _ _ _) (by decide) (by simp) ?_
  simp only [set_set]
  refine put_at F (MH.set_self _ _ _) (by decide) (by first | exact putF_0 () | exact putF_1 _ _ () | exact putF_2 _ _ _ _ () | exact putF_3 _ _ _ _ _ _ () | exact putF_4 _ _ _ _ _ _ _ _ ()) ?_
  simp only [set_set]
  refine put_at F (MH.set_self _ _ _) (by decide) (by first | exact putF_0 () | exact putF_1 _ _ () | exact putF_2 _ _ _ _ () | exact putF_3 _ _ _ _ _ _ () | exact putF_4 _ _ _ _ _ _ _ _ ()) ?_
  simp only [set_set]
  exact ⟨by trivial, q c _ (Ext.new hc) hc (MH.set_self _ _ _)⟩
theorem mk_Rule (F : Fit C) {l r s : V} {Q : V → MH → Prop} (q : ∀ c H', Ext H H' → H c = none → H' c = some (.inst c_Rule [(n_pattern, l), (n_depths, r), (n_template, s)]) → Q (.ref c) H') : WC C (n + 2) (.ref c_Rule) [l, r, s] H Q := by
  refine F.cRule.on F F.Rule_init rfl fun c hc => ?_
  unfold k_Rule_init
  walk_at "L"
  refine put_at F (MH.set_self _ _ _) (by decide) (by simp) ?_
  simp only [set_set]
  refine put_at F (MH.set_self _ _ _) (by decide) (by first | exact putF_0 () | exact putF_1 _ _ () | exact putF_2 _ _ _ _ () | exact putF_3 _ _ _ _ _ _ () | exact putF_4 _ _ _ _ _ _ _ _ ()) ?_
  simp only [set_set]
  refine put_at F (MH.set_self _ _ _) (by decide) (by first | exact putF_0 () | exact putF_1 _ _ () | exact putF_2 _ _ _ _ () | exact putF_3 _ _ _ _ _ _ () | exact putF_4 _ _ _ _ _ _ _ _ ()) ?_
  simp only [set_set]
  exact ⟨by trivial, q c _ (Ext.new hc) hc (MH.set_self _ _ _)⟩
theorem mk_TemplateReader (F : Fit C) {s : V} {Q : V → MH → Prop} (q : ∀ c H', Ext H H' → H c = none → H' c = some (.inst c_TemplateReader [(n_depths, s)]) → Q (.ref c) H') : WC C (n + 2) (.ref c_TemplateReader) [s] H Q := by
  refine F.cTemplateReader.on F F.TemplateReader_init rfl fun c hc => ?_
  unfold k_TemplateReader_init
  walk_at "L"
  refine put_at F (MH.set_self _ _ _) (by decide) (by simp) ?_
  simp only [set_set]
  exact ⟨by trivial, q c _ (Ext.new hc) hc (MH.set_self _ _ _)⟩
theorem mk_Scope (F : Fit C) {p : V} {Q : V → MH → Prop} (q : ∀ c d H', Ext H H' → H c = none → H d = none → H' c = some (.inst c_Scope [(n_parent, p), (n_names, .ref d)]) → H' d = some (.dict [] 0) → Q (.ref c) H') : WC C (n + 2) (.ref c_Scope) [p] H Q := by
  refine F.cScope.on F F.Scope_init rfl fun c hc => ?_
  unfold k_Scope_init
  walk_at "L"
  refine put_at F (MH.set_self _ _ _) (by decide) (by simp) ?_
  simp only [set_set]
  intro d hd
  have hdc : d ≠ c := (ne_new (MH.set_self _ _ _) hd).symm
  rw [MH.set_ne _ _ hdc] at hd
  refine put_at F (fs := putF n_parent p []) (Cl := c_Scope) (by rw [MH.set_ne _ _ hdc.symm]; exact MH.set_self _ _ _) (by decide) (by first | exact putF_0 () | exact putF_1 _ _ () | exact putF_2 _ _ _ _ () | exact putF_3 _ _ _ _ _ _ () | exact putF_4 _ _ _ _ _ _ _ _ ()) ?_
  exact ⟨by trivial, q c d _ (fun a o e => by rw [MH.set_ne _ _ (ne_new e hc), MH.set_ne _ _ (ne_new e hd), MH.set_ne _ _ (ne_new e hc)]; exact e) hc hd (MH.set_self _ _ _) (by rw [MH.set_ne _ _ hdc]; exact MH.set_self _ _ _)⟩
theorem mk_PatternReader (F : Fit C) {p : V} {Q : V → MH → Prop} (q : ∀ c d H', Ext H H' → H c = none → H d = none → H' c = some (.inst c_PatternReader [(n_literals, p), (n_depths, .ref d)]) → H' d = some (.dict [] 0) → Q (.ref c) H') : WC C (n + 2) (.ref c_PatternReader) [p] H Q := by
  refine F.cPatternReader.on F F.PatternReader_init rfl fun c hc => ?_
  unfold k_PatternReader_init
  walk_at "L"
  refine put_at F (MH.set_self _ _ _) (by decide) (by simp) ?_
  simp only [set_set]
  intro d hd
  have hdc : d ≠ c := (ne_new (MH.set_self _ _ _) hd).symm
  rw [MH.set_ne _ _ hdc] at hd
  refine put_at F (fs := putF n_literals p []) (Cl := c_PatternReader) (by rw [MH.set_ne _ _ hdc.symm]; exact MH.set_self _ _ _) (by decide) (by first | exact putF_0 () | exact putF_1 _ _ () | exact putF_2 _ _ _ _ () | exact putF_3 _ _ _ _ _ _ () | exact putF_4 _ _ _ _ _ _ _ _ ()) ?_
  exact ⟨by trivial, q c d _ (fun a o e => by rw [MH.set_ne _ _ (ne_new e hc), MH.set_ne _ _ (ne_new e hd), MH.set_ne _ _ (ne_new e hc)]; exact e) hc hd (MH.set_self _ _ _) (by rw [MH.set_ne _ _ hdc]; exact MH.set_self _ _ _)⟩
theorem mk_Matcher (F : Fit C) {p r : V} {Q : V → MH → Prop} (q : ∀ c d H', Ext H H' → H c = none → H d = none → H' c = some (.inst c_Matcher [(n_macro, p), (n_scope, r), (n_found, .ref d)]) → H' d = some (.dict [] 0) → Q (.ref c) H') : WC C (n + 2) (.ref c_Matcher) [p, r] H Q := by
  refine F.cMatcher.on F F.Matcher_init rfl fun c hc => ?_
  unfold k_Matcher_init
  walk_at "L"
  refine put_at F (MH.set_self _ _ _) (by decide) (by simp) ?_
  simp only [set_set]
  refine put_at F (MH.set_self _ _ _) (by decide) (by first | exact putF_0 () | exact putF_1 _ _ () | exact putF_2 _ _ _ _ () | exact putF_3 _ _ _ _ _ _ () | exact putF_4 _ _ _ _ _ _ _ _ ()) ?_
  simp only [set_set]
  intro d hd
  have hdc : d ≠ c := (ne_new (MH.set_self _ _ _) hd).symm
  rw [MH.set_ne _ _ hdc] at hd
  refine put_at F (fs := putF n_scope r (putF n_macro p [])) (Cl := c_Matcher) (by rw [MH.set_ne _ _ hdc.symm]; exact MH.set_self _ _ _) (by decide) (by first | exact putF_0 () | exact putF_1 _ _ () | exact putF_2 _ _ _ _ () | exact putF_3 _ _ _ _ _ _ () | exact putF_4 _ _ _ _ _ _ _ _ ()) ?_
  exact ⟨by trivial, q c d _ (fun a o e => by rw [MH.set_ne _ _ (ne_new e hc), MH.set_ne _ _ (ne_new e hd), MH.set_ne _ _ (ne_new e hc)]; exact e) hc hd (MH.set_self _ _ _) (by rw [MH.set_ne _ _ hdc]; exact MH.set_self _ _ _)⟩
theorem mk_Writer (F : Fit C) {p r : V} {Q : V → MH → Prop} (q : ∀ c d H', Ext H H' → H c = none → H d = none → H' c = some (.inst c_Writer [(n_macro, p), (n_world, r), (n_aliases, .ref d)]) → H' d = some (.dict [] 0) → Q (.ref c) H') : WC C (n + 2) (.ref c_Writer) [p, r] H Q := by
  refine F.cWriter.on F F.Writer_init rfl fun c hc => ?_
  unfold k_Writer_init
  walk_at "L"
  refine put_at F (MH.set_self _ _ _) (by decide) (by simp) ?_
  simp only [set_set]
  refine put_at F (MH.set_self _ _ _) (by decide) (by first | exact putF_0 () | exact putF_1 _ _ () | exact putF_2 _ _ _ _ () | exact putF_3 _ _ _ _ _ _ () | exact putF_4 _ _ _ _ _ _ _ _ ()) ?_
  simp only [set_set]
  intro d hd
  have hdc : d ≠ c := (ne_new (MH.set_self _ _ _) hd).symm
  rw [MH.set_ne _ _ hdc] at hd
  refine put_at F (fs := putF n_world r (putF n_macro p [])) (Cl := c_Writer) (by rw [MH.set_ne _ _ hdc.symm]; exact MH.set_self _ _ _) (by decide) (by first | exact putF_0 () | exact putF_1 _ _ () | exact putF_2 _ _ _ _ () | exact putF_3 _ _ _ _ _ _ () | exact putF_4 _ _ _ _ _ _ _ _ ()) ?_
  exact ⟨by trivial, q c d _ (fun a o e => by rw [MH.set_ne _ _ (ne_new e hc), MH.set_ne _ _ (ne_new e hd), MH.set_ne _ _ (ne_new e hc)]; exact e) hc hd (MH.set_self _ _ _) (by rw [MH.set_ne _ _ hdc]; exact MH.set_self _ _ _)⟩
theorem mk_SymbolTable (F : Fit C) {Q : V → MH → Prop} (q : ∀ c r d H', Ext H H' → H c = none → H r = none → H d = none → H' c = some (.inst c_SymbolTable [(n_rows, .ref r), (n_by_text, .ref d)]) → H' r = some (.list []) → H' d = some (.dict [] 0) → Q (.ref c) H') : WC C (n + 2) (.ref c_SymbolTable) [] H Q := by
  refine F.cSymbolTable.on F F.SymbolTable_init rfl fun c hc => ?_
  unfold k_SymbolTable_init
  walk_at "L"
  refine ⟨by decide, fun r hr => ?_⟩
  have hrc : r ≠ c := (ne_new (MH.set_self _ _ _) hr).symm
  rw [MH.set_ne _ _ hrc] at hr
  refine put_at F (fs := []) (Cl := c_SymbolTable) (by rw [MH.set_ne _ _ hrc.symm]; exact MH.set_self _ _ _) (by decide) (by simp) ?_
  intro d hd
  have hdc : d ≠ c := (ne_new (MH.set_self _ _ _) hd).symm
  rw [MH.set_ne _ _ hdc] at hd
  have hdr : d ≠ r := (ne_new (MH.set_self _ _ _) hd).symm
  rw [MH.set_ne _ _ hdr, MH.set_ne _ _ hdc] at hd
  refine put_at F (fs := putF n_rows (.ref r) []) (Cl := c_SymbolTable) (by rw [MH.set_ne _ _ hdc.symm]; exact MH.set_self _ _ _) (by decide) (by first | exact putF_0 () | exact putF_1 _ _ () | exact putF_2 _ _ _ _ () | exact putF_3 _ _ _ _ _ _ () | exact putF_4 _ _ _ _ _ _ _ _ ()) ?_
  refine ⟨by trivial, q c r d _ (fun a o e => ?_) hc hr hd (MH.set_self _ _ _) ?_ ?_⟩
  · rw [MH.set_ne _ _ (ne_new e hc), MH.set_ne _ _ (ne_new e hd), MH.set_ne _ _ (ne_new e hc), MH.set_ne _ _ (ne_new e hr), MH.set_ne _ _ (ne_new e hc)]; exact e
  · rw [MH.set_ne _ _ hrc, MH.set_ne _ _ hdr.symm, MH.set_ne _ _ hrc]; exact MH.set_self _ _ _
  · rw [MH.set_ne _ _ hdc]; exact MH.set_self _ _ _
end
end N226
end
noncomputable section
open PySem PySem.W PySem.Calls PyProof.Rows
set_option maxRecDepth 10000
namespace N226
section
variable {C : Cx} {n : Nat} {ρ : Loc} {H : MH}
noncomputable def Chain (H : MH) : V → List V → V → Prop
  | v, [], t => v = t
  | v, x :: xs, t => ∃ a d, v = .ref a ∧ H a = some (.inst c_Pair (pairFs x d)) ∧ Chain H d xs t
theorem Chain.ext {H' : MH} (x : Ext H H') : ∀ {xs : List V} {v t : V}, Chain H v xs t → Chain H' v xs t
  | [], _, _, h => h
  | _ :: xs, _, _, ⟨a, d, e, h1, h2⟩ => ⟨a, d, e, x _ _ h1, Chain.ext x h2⟩
theorem bin_sub {x y : Int} {Q : V → MH → Prop} (q : Q (.int (x - y)) H) : binW .Sub (.int x) (.int y) H Q := q
theorem bin_add {x y : Int} {Q : V → MH → Prop} (q : Q (.int (x + y)) H) : binW .Add (.int x) (.int y) H Q := q
theorem sub_list {x : Addr} {vs : List V} {i : Int} {v : V} {Q : V → MH → Prop} (h : H x = some (.list vs)) (h1 : -1000000 ≤ i) (h2 : i ≤ 1000000) (hp : pick vs i = some v) (q : Q v H) : subW (.ref x) (.int i) H Q := by
  unfold subW; simp only [h]; exact ⟨i, v, rfl, h1, h2, hp, q⟩
theorem sub_tuple {x : Addr} {vs : List V} {i : Int} {v : V} {Q : V → MH → Prop} (h : H x = some (.tuple vs)) (h1 : -1000000 ≤ i) (h2 : i ≤ 1000000) (hp : pick vs i = some v) (q : Q v H) : subW (.ref x) (.int i) H Q := by
  unfold subW; simp only [h]; exact ⟨i, v, rfl, h1, h2, hp, q⟩
theorem sub_dict {x : Addr} {es : List (V × V)} {ep : Nat} {k v : V} {Q : V → MH → Prop} (h : H x = some (.dict es ep)) (hk : isKey k = true) (hp : atKeyV es k = some v) (q : Q v H) : subW (.ref x) k H Q := by
  unfold subW; simp only [h]; exact ⟨v, hk, hp, q⟩
theorem pick_nat {vs : List V} {k : Nat} {v : V} (h : vs[k]? = some v) : pick vs (k : Int) = some v := by
  unfold pick; rw [if_pos (Int.natCast_nonneg k)]; simpa using h
theorem iter_rng {r : Addr} {a b c : Int} (hr : H r = some (.rng a b c)) (h : -1000000 ≤ a ∧ a ≤ 1000000 ∧ -1000000 ≤ b ∧ b ≤ 1000000 ∧ (c = 1 ∨ c = -1)) : iterOf H (.ref r) = some (.rng a (rngCount a b c) c) := by
  unfold iterOf; simp only [hr]; rw [if_pos h]
theorem iter_list {a : Addr} {vs : List V} (h : H a = some (.list vs)) : iterOf H (.ref a) = some (.lst a 0) := by unfold iterOf; simp only [h]
theorem iter_tuple {a : Addr} {vs : List V} (h : H a = some (.tuple vs)) : iterOf H (.ref a) = some (.tup a 0) := by unfold iterOf; simp only [h]
theorem Ext.old_none {H' : MH} (x : Ext H H') {a : Addr} (h : H' a = none) : H a = none := by
  cases e : H a with
  | none => rfl
  | some o => rw [x a o e] at h; cases h
theorem list_loop (F : Fit C) {l : Addr} {xs : List V} {t : V} {R : Fl → Loc → MH → Prop} {b : K} (H0 : MH) (hn : xs.length ≤ lim)
    (hb : b = .seq (.set 2 (.call (.con (.ref c_Pair)) (.cons (.sub (.var 0) (.var 3)) (.cons (.var 2) .nil)))) .nil) :
    ∀ (k : Nat) (ρ : Loc) (H1 : MH) (v : V), k ≤ xs.length → ρ 0 = some (.ref l) → ρ 2 = some v → H1 l = some (.list xs) → Chain H1 v (xs.drop k) t → Ext H0 H1 → (k < xs.length → ∃ a, v = .ref a ∧ H0 a = none) →
      (∀ (ρ' : Loc) v' H', ρ' 2 = some v' → Ext H0 H' → Chain H' v' xs t → (xs ≠ [] → ∃ a, v' = .ref a ∧ H0 a = none) → R .next ρ' H') →
      FR C (n + 2) (.one 3) b R (.rng ((k : Int) - 1) k (-1)) ρ H1 := by
  intro k
  induction k with
  | zero =>
    intro ρ H1 v _ h0 h2 hl hc x hv q
    refine FR.done rfl ?_
    exact q ρ v H1 h2 x (by simpa using hc) (fun h => hv (List.length_pos_iff.mpr h))
  | succ k ih =>
    intro ρ H1 v hk h0 h2 hl hc x0 hv q
    have hlt : k < xs.length := by walk_at "O"
    have hlim : (xs.length : Int) ≤ 1000000 := Int.ofNat_le.mpr hn
    refine FR.item (v := .int (((k + 1 : Nat) : Int) - 1)) (by simp [Src.item]) ?_
    subst hb
    wide_open using (h0, h2)
    have e1 : (((k + 1 : Nat) : Int) - 1) = (k : Int) := by walk_at "O"
    rw [e1]
    refine sub_list hl (by walk_at "O") (by walk_at "O") (pick_nat (List.getElem?_eq_getElem hlt)) ⟨F.cPair.can, mk_Pair F fun c H' x hc0 hc1 => ?_⟩
    have e2 : ((Src.rng (k : Int) (k + 1) (-1)).next) = Src.rng ((k : Int) - 1) k (-1) := by
      unfold Src.next; simp; walk_at "O"
    rw [e2]
    refine ih _ H' (.ref c) (by walk_at "O") (by simp [Loc.set, h0]) (by simp [Loc.set]) (x _ _ hl) ?_ (x0.trans x) (fun _ => ⟨c, rfl, x0.old_none hc0⟩) q
    rw [List.drop_eq_getElem_cons hlt]
    exact ⟨c, v, rfl, hc1, Chain.ext x hc⟩
theorem wc_list_of (F : Fit C) {l : Addr} {t : V} {xs : List V} {Q : V → MH → Prop} (hl : H l = some (.list xs)) (hn : xs.length ≤ lim) (q : ∀ v H', Ext H H' → Chain H' v xs t → (xs ≠ [] → ∃ a, v = .ref a ∧ H a = none) → Q v H') : WC C (n + 3) (.ref f_list_of) [.ref l, t] H Q := by
  refine F.list_of.on F rfl ?_
  have hlim : (xs.length : Int) ≤ 1000000 := Int.ofNat_le.mpr hn
  unfold k_list_of
  walk_at "L"
  refine ⟨Callable_bi, WC_len_list hl hn ?_⟩
  refine bin_sub ?_
  refine ⟨Callable_ty, WC_range3 (by decide) (by decide) fun r hr => ?_⟩
  refine ⟨_, iter_rng (MH.set_self _ _ _) (by walk_at "O"), ?_⟩
  have e : rngCount ((xs.length : Int) - 1) (-1) (-1) = xs.length := by unfold rngCount; simp
  rw [e]
  exact list_loop F (t := t) H hn rfl xs.length _ _ t (Nat.le_refl _) rfl rfl (set_old hl hr) (by rw [List.drop_length]; rfl) (Ext.new hr) (fun h => absurd h (Nat.lt_irrefl _)) fun ρ' v' H' h2 x hc hp => onV_of h2 (q v' H' x hc hp)
theorem wc_list_of1 (F : Fit C) {l : Addr} {xs : List V} {Q : V → MH → Prop} (hl : H l = some (.list xs)) (hn : xs.length ≤ lim) (q : ∀ v H', Ext H H' → Chain H' v xs (.ref a_EMPTY) → (xs ≠ [] → ∃ a, v = .ref a ∧ H a = none) → Q v H') : WC C (n + 3) (.ref f_list_of) [.ref l] H Q := by
  refine F.list_of1.on F rfl ?_
  have hlim : (xs.length : Int) ≤ 1000000 := Int.ofNat_le.mpr hn
  unfold k_list_of
  wide_open using (er_r, er_r)
  refine ⟨Callable_bi, WC_len_list hl hn ?_⟩
  refine bin_sub ?_
  refine ⟨Callable_ty, WC_range3 (by decide) (by decide) fun r hr => ?_⟩
  refine ⟨_, iter_rng (MH.set_self _ _ _) (by walk_at "O"), ?_⟩
  have e : rngCount ((xs.length : Int) - 1) (-1) (-1) = xs.length := by unfold rngCount; simp
  rw [e]
  exact list_loop F (t := .ref a_EMPTY) H hn rfl xs.length _ _ (.ref a_EMPTY) (Nat.le_refl _) rfl rfl (set_old hl hr) (by rw [List.drop_length]; rfl) (Ext.new hr) (fun h => absurd h (Nat.lt_irrefl _)) fun ρ' v' H' h2 x hc hp => onV_of h2 (q v' H' x hc hp)
theorem wc_is_identifier_sym (F : Fit C) {a : Addr} {fs : List (Nat × V)} {Q : V → MH → Prop} (h : H a = some (.inst c_Symbol fs)) (q : Q (.bool true) H) : WC C (n + 1) (.ref f_is_identifier) [.ref a] H Q := by
  refine F.is_identifier.on F rfl ?_
  unfold k_is_identifier
  walk_at "L"
  refine isi_yes F (by unfold instOf; simp only [h]) (by decide) ⟨true, rfl, ?_⟩
  exact q
theorem wc_is_identifier_no (F : Fit C) {a D : Addr} {Q : V → MH → Prop} (h : instOf H a = some D) (hD : (D, c_Symbol) ∈ ISN) (hD' : (D, c_Alias) ∈ ISN) (q : Q (.bool false) H) : WC C (n + 1) (.ref f_is_identifier) [.ref a] H Q := by
  refine F.is_identifier.on F rfl ?_
  unfold k_is_identifier
  walk_at "L"
  refine isi_no F h hD ⟨false, rfl, ?_⟩
  refine isi_no F h hD' ?_
  exact q
theorem wc_is_identifier_int (F : Fit C) {i : Int} {Q : V → MH → Prop} (q : Q (.bool false) H) : WC C (n + 1) (.ref f_is_identifier) [.int i] H Q := by
  refine F.is_identifier.on F rfl ?_
  unfold k_is_identifier
  walk_at "L"
  refine isi_int F (by decide) ⟨false, rfl, ?_⟩
  refine isi_int F (by decide) ?_
  exact q
theorem bin_mul {x y : Int} {Q : V → MH → Prop} (h : x.natAbs < 1000) (q : Q (.int (x * y)) H) : binW .Mult (.int x) (.int y) H Q := ⟨h, q⟩
theorem wc_key_of_sym (F : Fit C) {a : Addr} {k : Int} {t : Str} {Q : V → MH → Prop} (h : H a = some (.inst c_Symbol (symFs k t))) (q : Q (.int (2 * k)) H) : WC C (n + 1) (.ref f_key_of) [.ref a] H Q := by
  refine F.key_of.on F rfl ?_
  unfold k_key_of
  walk_at "L"
  refine isi_yes F (by unfold instOf; simp only [h]) (by decide) ⟨true, rfl, ?_⟩
  walk_at "L"
  exact attr_at F h (by decide) rfl rfl (bin_mul (by decide) q)
noncomputable abbrev aliasFs (k b s : V) : List (Nat × V) := [(n_number, k), (n_base, b), (n_scope, s)]
theorem wc_key_of_alias (F : Fit C) {a : Addr} {k : Int} {b s : V} {Q : V → MH → Prop} (h : H a = some (.inst c_Alias (aliasFs (.int k) b s))) (q : Q (.int (2 * k + 1)) H) : WC C (n + 1) (.ref f_key_of) [.ref a] H Q := by
  refine F.key_of.on F rfl ?_
  unfold k_key_of
  walk_at "L"
  refine isi_no F (D := c_Alias) (by unfold instOf; simp only [h]) (by decide) ⟨false, rfl, ?_⟩
  walk_at "L"
  exact attr_at F h (by decide) rfl rfl (bin_mul (by decide) (bin_add q))
theorem wc_root_sym (F : Fit C) {a : Addr} {fs : List (Nat × V)} {Q : V → MH → Prop} (h : H a = some (.inst c_Symbol fs)) (q : Q (.ref a) H) : WC C (n + 1) (.ref f_root_symbol) [.ref a] H Q := by
  refine F.root_symbol.on F rfl ?_
  unfold k_root_symbol
  walk_at "L"
  refine WH.turn ?_
  walk_at "L"
  refine isi_no F (D := c_Symbol) (by unfold instOf; simp only [h]) (by decide) ⟨false, rfl, ?_⟩
  walk_at "L"
  exact q
theorem wc_root_alias (F : Fit C) {a b : Addr} {k s : V} {fs : List (Nat × V)} {Q : V → MH → Prop} (h : H a = some (.inst c_Alias (aliasFs k (.ref b) s))) (hb : H b = some (.inst c_Symbol fs)) (q : Q (.ref b) H) : WC C (n + 1) (.ref f_root_symbol) [.ref a] H Q := by
  refine F.root_symbol.on F rfl ?_
  unfold k_root_symbol
  walk_at "L"
  refine WH.turn ?_
  walk_at "L"
  refine isi_yes F (by unfold instOf; simp only [h]) (by decide) ⟨true, rfl, ?_⟩
  walk_at "L"
  refine attr_at F h (by decide) rfl rfl ?_
  refine WH.turn ?_
  walk_at "L"
  refine isi_no F (D := c_Symbol) (by unfold instOf; simp only [hb]) (by decide) ⟨false, rfl, ?_⟩
  walk_at "L"
  exact q
end
end N226
end
noncomputable section
open PySem PySem.W PySem.Calls PyProof.Rows
set_option maxRecDepth 10000
namespace N226
section
variable {C : Cx} {n : Nat} {ρ : Loc} {H : MH}
theorem wc_is_named_sym (F : Fit C) {a : Addr} {k : Int} {t u : Str} {Q : V → MH → Prop} (h : H a = some (.inst c_Symbol (symFs k t))) (q : Q (.bool (decide (t = u))) H) : WC C (n + 2) (.ref f_is_named) [.ref a, .str u] H Q := by
  refine F.is_named.on F rfl ?_
  unfold k_is_named
  walk_at "L"
  refine ⟨F.is_identifier.can, wc_is_identifier_sym F h ⟨true, rfl, ?_⟩⟩
  refine ⟨F.root_symbol.can, wc_root_sym F h ?_⟩
  exact attr_at F h (by decide) rfl rfl q
theorem wc_is_named_no (F : Fit C) {a D : Addr} {u : Str} {Q : V → MH → Prop} (h : instOf H a = some D) (hD : (D, c_Symbol) ∈ ISN) (hD' : (D, c_Alias) ∈ ISN) (q : Q (.bool false) H) : WC C (n + 2) (.ref f_is_named) [.ref a, .str u] H Q := by
  refine F.is_named.on F rfl ?_
  unfold k_is_named
  walk_at "L"
  exact ⟨F.is_identifier.can, wc_is_identifier_no F h hD hD' ⟨false, rfl, q⟩⟩
theorem wc_is_named_int (F : Fit C) {i : Int} {u : Str} {Q : V → MH → Prop} (q : Q (.bool false) H) : WC C (n + 2) (.ref f_is_named) [.int i, .str u] H Q := by
  refine F.is_named.on F rfl ?_
  unfold k_is_named
  walk_at "L"
  exact ⟨F.is_identifier.can, wc_is_identifier_int F ⟨false, rfl, q⟩⟩
noncomputable def NotPair (H : MH) (t : V) : Prop := (∃ a D, t = .ref a ∧ instOf H a = some D ∧ (D, c_Pair) ∈ ISN) ∨ ∃ i, t = .int i
theorem NotPair.ext {H' : MH} (x : Ext H H') {t : V} (h : NotPair H t) : NotPair H' t := by
  rcases h with ⟨a, D, e, h, hm⟩ | h
  · refine .inl ⟨a, D, e, ?_, hm⟩
    unfold instOf at h ⊢
    split at h
    · rename_i e1; cases h; rw [x _ _ e1]
    · rename_i e1; cases h; rw [x _ _ e1]
    · cases h
  · exact .inr h
theorem NotPair.ne {t : V} (h : NotPair H t) {a : Addr} {fs : List (Nat × V)} (e : H a = some (.inst c_Pair fs)) : t ≠ .ref a := by
  rintro rfl
  rcases h with ⟨b, D, e1, h, hm⟩ | ⟨i, e1⟩
  · cases e1
    unfold instOf at h
    rw [e] at h
    cases h
    revert hm; decide
  · cases e1
theorem Chain.len {xs ys : List V} {v t u : V} (h1 : Chain H v xs t) (h2 : Chain H v ys u) (n1 : NotPair H t) (n2 : NotPair H u) : xs.length = ys.length := by
  induction xs generalizing ys v with
  | nil =>
    cases ys with
    | nil => rfl
    | cons y ys =>
      obtain ⟨a, d, e, e1, _⟩ := h2
      have : v = t := h1
      subst this
      exact absurd e (n1.ne e1)
  | cons x xs ih =>
    obtain ⟨a, d, e, e1, h1⟩ := h1
    cases ys with
    | nil =>
      have : v = u := h2
      subst this
      exact absurd e (n2.ne e1)
    | cons y ys =>
      obtain ⟨b, d', e', e1', h2⟩ := h2
      rw [e] at e'; cases e'
      rw [e1] at e1'
      have : d = d' := by
        injection e1' with e1'
        injection e1' with _ e1'
        simp [pairFs] at e1'
        exact e1'.2
      subst this
      simp [ih h1 h2]
theorem isi_pair_no (F : Fit C) {t : V} {Q : V → MH → Prop} (h : NotPair H t) (q : Q (.bool false) H) : Callable C (.bi "isinstance") ∧ WC C n (.bi "isinstance") [t, .ref c_Pair] H Q := by
  rcases h with ⟨a, D, rfl, h, hm⟩ | ⟨i, rfl⟩
  · exact isi_no F h hm q
  · exact isi_int F (by decide) q
theorem isW_ref {a b : Addr} (h1 : ∃ D, instOf H a = some D) (h2 : ∃ D, instOf H b = some D) : isW (.ref a) (.ref b) H := by
  have k : ∀ c, (∃ D, instOf H c = some D) → known H (.ref c) := fun c ⟨D, h⟩ => by
    unfold instOf at h
    unfold known
    split at h
    · rename_i e; exact .inr (.inr (.inl ⟨_, _, e⟩))
    · rename_i e; exact .inr (.inr (.inr ⟨_, e⟩))
    · cases h
  exact ⟨k a h1, k b h2⟩
theorem instOf_set {l a D : Addr} {xs : List V} (h : instOf H a = some D) (hl : H l = none) : instOf (H.set l (.list xs)) a = some D := by
  unfold instOf at h ⊢
  by_cases e : a = l
  · rw [e, hl] at h; cases h
  · rw [MH.set_ne _ _ e]; exact h
theorem NotPair.noBi {t : V} (h : NotPair H t) : noBi t = true := by
  rcases h with ⟨a, D, rfl, _⟩ | ⟨i, rfl⟩ <;> rfl
theorem Chain.noBi {xs : List V} {v t : V} (h : Chain H v xs t) (nt : NotPair H t) : noBi v = true := by
  cases xs with
  | nil => have : v = t := h; subst this; exact nt.noBi
  | cons x xs => obtain ⟨a, d, rfl, _⟩ := h; rfl
theorem split_loop (F : Fit C) {l : Addr} {xs : List V} {t : V} {R : Fl → Loc → MH → Prop} (hnb : ∀ x ∈ xs, noBi x = true) (hn : xs.length ≤ lim) (hl : H l = none) (nt : NotPair H t) {b : K}
    (hb : b = .seq (.expr (.meth (.var 1) n_append (.cons (.attr (.var 2) n_car) .nil)))
      (.seq (.set 2 (.attr (.var 2) n_cdr))
      (.seq (.ifs (.tcmp .Eq (.bin .Mod (.call (.con (.bi "len")) (.cons (.var 1) .nil)) (.int (2))) (.int (0)))
        (.seq (.set 3 (.attr (.var 3) n_cdr))
        (.seq (.ifs (.tcmp .Is (.var 2) (.var 3))
          (.seq (.ret (.tuple (.cons (.var 1) (.cons .none .nil)))) .nil)
          .nil) .nil))
        .nil) .nil))) :
    ∀ (rest done : List V) (ρ : Loc) (at_ slow : V), done ++ rest = xs → ρ 1 = some (.ref l) → ρ 2 = some at_ → ρ 3 = some slow → Chain H at_ rest t → Chain H slow (xs.drop (done.length / 2)) t →
      (∀ (ρ' : Loc), ρ' 1 = some (.ref l) → ρ' 2 = some t → R .next ρ' (H.set l (.list xs))) →
      WH C (n + 1) (.tval (.call (.con (.bi "isinstance")) (.cons (.var 2) (.cons (.con (.ref c_Pair)) .nil)))) b R ρ (H.set l (.list done)) := by
  intro rest
  induction rest with
  | nil =>
    intro done ρ at_ slow he h1 h2 h3 hc hs q
    have : at_ = t := hc
    subst this
    rw [List.append_nil] at he
    subst he
    refine WH.turn ?_
    wide_open using (h2, h2)
    refine isi_pair_no F (nt.ext (Ext.new hl)) ⟨false, rfl, ?_⟩
    walk_at "L"
    exact q ρ h1 h2
  | cons x rest ih =>
    intro done ρ at_ slow he h1 h2 h3 hc hs q
    obtain ⟨a, d, rfl, ha, hc⟩ := hc
    have ne : ∀ {c : Addr} {o : MO} {ys : List V}, H c = some o → (H.set l (.list ys)) c = some o := fun e => set_old e hl
    have hlen : done.length < xs.length := by rw [← he]; simp
    refine WH.turn ?_
    wide_open using (h2, h2)
    refine isi_yes F (by unfold instOf; rw [ne ha]) (by decide) ⟨true, rfl, ?_⟩
    subst hb
    wide_open using (h1, h2, h3)
    refine bi_list (id := "list.append") (MH.set_self _ _ _) rfl ?_
    refine attr_at F (ne ha) (by decide) rfl (hnb x (by rw [← he]; simp)) ⟨Callable_bi, ?_⟩
    refine WC_append (MH.set_self _ _ _) (by walk_at "O") ⟨(fun _ e => by cases e), ?_⟩
    rw [set_set]
    wide_open using (h1, h2, h3)
    refine attr_at F (ne ha) (by decide) rfl (hc.noBi nt) ?_
    wide_open using (h1, h2, h3)
    refine ⟨Callable_bi, WC_len_list (MH.set_self _ _ _) (by simp; walk_at "O") ?_⟩
    refine ⟨by decide, ?_⟩
    refine ⟨_, rfl, ?_⟩
    have he' : (done ++ [x]) ++ rest = xs := by rw [List.append_assoc]; exact he
    have hl' : (done ++ [x]).length = done.length + 1 := by simp
    rw [hl']
    by_cases hm : (done.length + 1) % 2 = 0
    · have hm' : ((done.length + 1 : Nat) : Int).fmod 2 = 0 := by
        rw [Int.fmod_eq_emod_of_nonneg _ (by decide)]; walk_at "O"
      wide_open using (hm', decide_true)
      have hj : done.length / 2 < xs.length := by walk_at "O"
      rw [List.drop_eq_getElem_cons hj] at hs
      obtain ⟨s, d2, rfl, hs0, hs⟩ := hs
      wide_open using (h1, h2, h3)
      refine attr_at F (ne hs0) (by decide) rfl (hs.noBi nt) ?_
      have e2 : done.length / 2 + 1 = (done.length + 1) / 2 := by walk_at "O"
      rw [e2] at hs
      have hj2 : (done.length + 1) / 2 < xs.length := by walk_at "O"
      have hs' := hs
      rw [List.drop_eq_getElem_cons hj2] at hs'
      obtain ⟨s2, d3, rfl, hs2, _⟩ := hs'
      have hne : d ≠ .ref s2 := by
        rintro rfl
        have := Chain.len hc hs nt nt
        have e3 : rest.length = xs.length - (done.length + 1) := by rw [← he]; simp; walk_at "O"
        rw [List.length_drop] at this
        walk_at "O"
      refine ⟨?_, ?_⟩
      · cases rest with
        | nil =>
          have : d = t := hc
          subst this
          rcases nt with ⟨b, D, rfl, h, _⟩ | ⟨i, rfl⟩
          · exact isW_ref ⟨D, instOf_set h hl⟩ ⟨_, by unfold instOf; rw [ne hs2]⟩
          · trivial
        | cons y rest =>
          obtain ⟨b, d4, rfl, hb, _⟩ := hc
          exact isW_ref ⟨_, by unfold instOf; rw [ne hb]⟩ ⟨_, by unfold instOf; rw [ne hs2]⟩
      · refine ⟨_, rfl, ?_⟩
        rw [decide_eq_false hne]
        walk_at "L"
        exact ih (done ++ [x]) _ d (.ref s2) he' (by simp [Loc.set, h1]) (by simp [Loc.set]) (by simp [Loc.set]) hc (by rw [hl']; exact hs) q
    · have hm' : ¬ ((done.length + 1 : Nat) : Int).fmod 2 = 0 := by
        rw [Int.fmod_eq_emod_of_nonneg _ (by decide)]; walk_at "O"
      wide_open using (hm', decide_false)
      have e2 : (done.length + 1) / 2 = done.length / 2 := by walk_at "O"
      exact ih (done ++ [x]) _ d slow he' (by simp [Loc.set, h1]) (by simp [Loc.set]) (by simp [Loc.set, h3]) hc (by rw [hl', e2]; exact hs) q
theorem wc_split_list (F : Fit C) {v t : V} {xs : List V} {Q : V → MH → Prop} (hc : Chain H v xs t) (nt : NotPair H t) (hnb : ∀ x ∈ xs, noBi x = true) (hn : xs.length ≤ lim)
    (q : ∀ c l H', Ext H H' → H l = none → H c = none → H' c = some (.tuple [.ref l, t]) → H' l = some (.list xs) → Q (.ref c) H') : WC C (n + 2) (.ref f_split_list) [v] H Q := by
  refine F.split_list.on F rfl ?_
  unfold k_split_list
  walk_at "L"
  refine ⟨by decide, fun l hl => ?_⟩
  refine split_loop F hnb hn hl nt rfl xs [] _ v v rfl ?_ ?_ ?_ hc (by simpa using hc) fun ρ' h1 h2 => ?_
  · rfl
  · rfl
  · rfl
  wide_open using (h1, h2)
  refine ⟨by show 2 ≤ lim; decide, fun c hcc => ?_⟩
  have hcl : l ≠ c := ne_new (MH.set_self _ _ _) hcc
  refine q c l _ ((Ext.new hl).trans (Ext.new hcc)) hl ((Ext.new hl).old_none hcc) (MH.set_self _ _ _) ?_
  rw [MH.set_ne _ _ hcl]; exact MH.set_self _ _ _
end
end N226
end
noncomputable section
open PySem PySem.W PySem.Calls PyProof.Rows
set_option maxRecDepth 10000
namespace N226
structure Wd where
  w : Addr
  tb : Addr
  r : Addr
  d : Addr
noncomputable abbrev Syms := List (Str × Addr)
structure Wld (H : MH) (W : Wd) (σ : Syms) (k : Int) : Prop where
  names : ∃ ti op, H W.w = some (.inst c_Names [(n_table, .ref W.tb), (n_last, .int k), (n_titles, .ref ti), (n_ops, .ref op), (n_root, .none)])
  table : H W.tb = some (.inst c_SymbolTable [(n_rows, .ref W.r), (n_by_text, .ref W.d)])
  rows : H W.r = some (.list (σ.map fun p => .ref p.2))
  text : ∃ ep, H W.d = some (.dict (σ.map fun p => (.str p.1, .ref p.2)) ep)
  sym : ∀ (i : Nat) (p : Str × Addr), σ[i]? = some p → H p.2 = some (.inst c_Symbol (symFs i p.1))
  nodup : (σ.map (·.1)).Nodup
section
variable {C : Cx} {n : Nat} {ρ : Loc} {H : MH}
theorem Wld.ext {H' : MH} {W : Wd} {σ : Syms} {k : Int} (h : Wld H W σ k) (x : Ext H H') : Wld H' W σ k := by
  obtain ⟨ti, op, e⟩ := h.names
  obtain ⟨ep, e'⟩ := h.text
  exact ⟨⟨ti, op, x _ _ e⟩, x _ _ h.table, x _ _ h.rows, ⟨ep, x _ _ e'⟩, fun i p e => x _ _ (h.sym i p e), h.nodup⟩
theorem lookup_at {σ : Syms} {t : Str} {a : Addr} (h : σ.lookup t = some a) : ∃ i : Nat, σ[i]? = some (t, a) := by
  obtain ⟨i, hi, e⟩ := List.getElem_of_mem (mem_of_lookup h)
  exact ⟨i, by rw [List.getElem?_eq_getElem hi, e]⟩
theorem Wld.at {W : Wd} {σ : Syms} {k : Int} (h : Wld H W σ k) {t : Str} {a : Addr} (e : σ.lookup t = some a) : ∃ i : Nat, H a = some (.inst c_Symbol (symFs i t)) := by
  obtain ⟨i, e⟩ := lookup_at e
  exact ⟨i, h.sym i _ e⟩
theorem atKey_syms (σ : Syms) (t : Str) : atKeyV (σ.map fun p => (V.str p.1, V.ref p.2)) (.str t) = (σ.lookup t).map V.ref := by
  unfold atKeyV
  induction σ with
  | nil => rfl
  | cons p σ ih =>
    obtain ⟨s, a⟩ := p
    simp only [List.map_cons, List.find?_cons, List.lookup_cons, V.str.injEq]
    by_cases e : s = t
    · subst e; simp
    · have e1 : (t == s) = false := by simpa using fun q => e q.symm
      simp only [e, decide_false, e1]
      exact ih
theorem putV_syms {σ : Syms} {t : Str} {c : Addr} (h : σ.lookup t = none) : putV (σ.map fun p => (V.str p.1, V.ref p.2)) (.str t) (.ref c) = (σ ++ [(t, c)]).map fun p => (V.str p.1, V.ref p.2) := by
  unfold putV
  have : (σ.map fun p => (V.str p.1, V.ref p.2)).any (fun kv => decide (kv.1 = V.str t)) = false := by
    rw [List.any_eq_false]
    intro x hx
    obtain ⟨p, hp, rfl⟩ := List.mem_map.mp hx
    have := List.lookup_eq_none_iff.mp h p hp
    simpa using fun e : p.1 = t => by simp [e] at this
  rw [if_neg (by rw [this]; exact Bool.false_ne_true)]
  simp
theorem cmp_is {a b : V} {Q : V → MH → Prop} (h : isW a b H) (q : Q (.bool (decide (a = b))) H) : cmpW .Is a b H Q := ⟨h, q⟩
theorem cmp_isnot {a b : V} {Q : V → MH → Prop} (h : isW a b H) (q : Q (.bool (!decide (a = b))) H) : cmpW .IsNot a b H Q := ⟨h, q⟩
theorem wc_symbol_old (F : Fit C) {W : Wd} {σ : Syms} {k : Int} {t : Str} {a : Addr} {Q : V → MH → Prop} (hw : Wld H W σ k) (ht : σ.lookup t = some a) (q : Q (.ref a) H) : WC C (n + 2) (.ref f_Names_symbol) [.ref W.w, .str t] H Q := by
  obtain ⟨ti, op, hn⟩ := hw.names
  obtain ⟨ep, hd⟩ := hw.text
  refine F.Names_symbol.on F rfl ?_
  unfold k_Names_symbol
  walk_at "L"
  refine attr_at F hn (by decide) rfl rfl ?_
  refine meth_at F hw.table (by decide) rfl ⟨F.SymbolTable_symbol.can, ?_⟩
  refine F.SymbolTable_symbol.on F rfl ?_
  unfold k_SymbolTable_symbol
  walk_at "L"
  refine attr_at F hw.table (by decide) rfl rfl ?_
  refine bi_dict hd ⟨Callable_bi, WC_get2 hd rfl ?_⟩
  rw [atKey_syms, ht]
  walk_at "L"
  refine cmp_is (by trivial) ⟨_, rfl, ?_⟩
  wide_open using (Option.map_some, Option.getD_some, decide_false)
  exact q
theorem wc_symbol_new (F : Fit C) {W : Wd} {σ : Syms} {k : Int} {t : Str} {Q : V → MH → Prop} (hw : Wld H W σ k) (ht : σ.lookup t = none) (hσ : σ.length ≤ 1000)
    (q : ∀ c H', But [W.r, W.d] H H' → Wld H' W (σ ++ [(t, c)]) k → H c = none → Q (.ref c) H') : WC C (n + 4) (.ref f_Names_symbol) [.ref W.w, .str t] H Q := by
  obtain ⟨ti, op, hn⟩ := hw.names
  obtain ⟨ep, hd⟩ := hw.text
  refine F.Names_symbol.on F rfl ?_
  unfold k_Names_symbol
  walk_at "L"
  refine attr_at F hn (by decide) rfl rfl ?_
  refine meth_at F hw.table (by decide) rfl ⟨F.SymbolTable_symbol.can, ?_⟩
  refine F.SymbolTable_symbol.on F rfl ?_
  unfold k_SymbolTable_symbol
  walk_at "L"
  refine attr_at F hw.table (by decide) rfl rfl ?_
  refine bi_dict hd ⟨Callable_bi, WC_get2 hd rfl ?_⟩
  rw [atKey_syms, ht]
  walk_at "L"
  refine cmp_is (by trivial) ⟨_, rfl, ?_⟩
  wide_open using (Option.map_none, Option.getD_none, decide_true)
  refine attr_at F hw.table (by decide) rfl rfl ⟨Callable_bi, WC_len_list hw.rows (by rw [List.length_map]; exact Nat.le_trans hσ (by decide)) ?_⟩
  refine ⟨F.cSymbol.can, mk_Symbol F fun c H1 x hc0 hc1 => ?_⟩
  have h1 := hw.ext x
  obtain ⟨ti1, op1, hn1⟩ := h1.names
  obtain ⟨ep1, hd1⟩ := h1.text
  refine attr_at F h1.table (by decide) rfl rfl ?_
  refine bi_list (id := "list.append") h1.rows rfl ⟨Callable_bi, WC_append h1.rows (by rw [List.length_map]; exact Nat.le_trans hσ (by decide)) ⟨(fun _ e => by cases e), ?_⟩⟩
  have ner : ∀ {b : Addr} {o : MO}, H1 b = some o → (∀ vs, o ≠ .list vs) → b ≠ W.r := fun e h => ne_of e h1.rows (h _)
  have ned : ∀ {b : Addr} {o : MO}, H1 b = some o → (∀ es ep, o ≠ .dict es ep) → b ≠ W.d := fun e h => ne_of e hd1 (h _ _)
  have htb : W.tb ≠ W.r := ner h1.table (fun _ e => by cases e)
  refine attr_at F (fs := [(n_rows, .ref W.r), (n_by_text, .ref W.d)]) (Cl := c_SymbolTable) (by rw [MH.set_ne _ _ htb]; exact h1.table) (by decide) rfl rfl ?_
  have hdr : W.d ≠ W.r := ner hd1 (fun _ e => by cases e)
  refine WItm_dict (es := σ.map fun p => (V.str p.1, V.ref p.2)) (ep := ep1) (by rw [MH.set_ne _ _ hdr]; exact hd1) rfl (by rw [List.length_map]; exact Nat.le_trans hσ (by decide)) fun ep' => ?_
  rw [putV_syms ht]
  have out : ∀ {b : Addr} {o : MO}, H1 b = some o → (∀ vs, o ≠ .list vs) → (∀ es ep, o ≠ .dict es ep) → ((H1.set W.r (.list ((σ.map fun p => V.ref p.2) ++ [.ref c]))).set W.d (.dict ((σ ++ [(t, c)]).map fun p => (V.str p.1, V.ref p.2)) ep')) b = some o := fun e h h' => by
    rw [MH.set_ne _ _ (ned e h'), MH.set_ne _ _ (ner e h)]; exact e
  refine q c _ (fun b o e nm => ?_) ⟨⟨ti1, op1, out hn1 (fun _ e => by cases e) (fun _ _ e => by cases e)⟩, out h1.table (fun _ e => by cases e) (fun _ _ e => by cases e), ?_, ⟨ep', MH.set_self _ _ _⟩, fun i p e => ?_, ?_⟩ hc0
  · simp only [List.mem_cons, List.not_mem_nil, or_false, not_or] at nm
    rw [MH.set_ne _ _ nm.2, MH.set_ne _ _ nm.1]; exact x _ _ e
  · rw [MH.set_ne _ _ hdr.symm, MH.set_self, List.map_append]; rfl
  · rcases Nat.lt_or_ge i σ.length with hi | hi
    · rw [List.getElem?_append_left hi] at e
      exact out (h1.sym i p e) (fun _ e => by cases e) (fun _ _ e => by cases e)
    · rw [List.getElem?_append_right hi] at e
      cases hj : i - σ.length with
      | zero =>
        rw [hj] at e
        simp at e
        subst e
        have : i = σ.length := by walk_at "O"
        subst this
        rw [List.length_map] at hc1
        exact out hc1 (fun _ e => by cases e) (fun _ _ e => by cases e)
      | succ j => rw [hj] at e; simp at e
  · rw [List.map_append, List.nodup_append]
    refine ⟨hw.nodup, by simp, ?_⟩
    intro a ha b hb
    simp at hb
    subst hb
    rintro rfl
    obtain ⟨p, hp, e⟩ := List.mem_map.mp ha
    have := List.lookup_eq_none_iff.mp ht p hp
    simp [e] at this
theorem wc_symbol (F : Fit C) {W : Wd} {σ : Syms} {k : Int} {t : Str} {Q : V → MH → Prop} (hw : Wld H W σ k) (hσ : σ.length ≤ 1000)
    (q : ∀ c τ H', But [W.r, W.d] H H' → Wld H' W (σ ++ τ) k → (σ ++ τ).lookup t = some c → τ.length ≤ 1 → (∀ p ∈ τ, p.1 = t) → Q (.ref c) H') : WC C (n + 4) (.ref f_Names_symbol) [.ref W.w, .str t] H Q := by
  cases ht : σ.lookup t with
  | some a => exact wc_symbol_old F hw ht (q a [] H (Ext.refl.but) (by simpa using hw) (by simpa using ht) (by simp) (by simp))
  | none => exact wc_symbol_new F hw ht hσ fun c H' b hw' _ => q c [(t, c)] H' b hw' (by rw [List.lookup_append, ht]; simp) (by simp) (by simp)
theorem Wld.last {H' : MH} {W : Wd} {σ : Syms} {k k' : Int} {ti op : Addr} (hw : Wld H W σ k) (e : H' = H.set W.w (.inst c_Names [(n_table, .ref W.tb), (n_last, .int k'), (n_titles, .ref ti), (n_ops, .ref op), (n_root, .none)])) : Wld H' W σ k' := by
  subst e
  obtain ⟨ti', op', hn⟩ := hw.names
  obtain ⟨ep, hd⟩ := hw.text
  have out : ∀ {b : Addr} {o : MO}, H b = some o → (∀ fs, o ≠ .inst c_Names fs) → (H.set W.w (.inst c_Names [(n_table, .ref W.tb), (n_last, .int k'), (n_titles, .ref ti), (n_ops, .ref op), (n_root, .none)])) b = some o := fun e h => by
    rw [MH.set_ne _ _ (ne_of e hn (h _))]; exact e
  exact ⟨⟨ti, op, MH.set_self _ _ _⟩, out hw.table (fun _ e => by injection e with e; revert e; decide), out hw.rows (fun _ e => by cases e), ⟨ep, out hd (fun _ e => by cases e)⟩, fun i p e => out (hw.sym i p e) (fun _ e => by injection e with e; revert e; decide), hw.nodup⟩
theorem wc_fresh (F : Fit C) {W : Wd} {σ : Syms} {k : Int} {Q : V → MH → Prop} (hw : Wld H W σ k) (q : ∀ H', But [W.w] H H' → Wld H' W σ (k + 1) → Q (.int (k + 1)) H') : WC C (n + 1) (.ref f_Names_fresh) [.ref W.w] H Q := by
  obtain ⟨ti, op, hn⟩ := hw.names
  refine F.Names_fresh.on F rfl ?_
  unfold k_Names_fresh
  walk_at "L"
  refine attr_at F hn (by decide) rfl rfl (bin_add ?_)
  refine put_at F hn (by decide) (by simp) ?_
  refine attr_at F (MH.set_self _ _ _) (by decide) rfl rfl ?_
  exact q _ (But.set (by simp)) (hw.last rfl)
theorem wc_alias_of (F : Fit C) {W : Wd} {σ : Syms} {k : Int} {b s : V} {Q : V → MH → Prop} (hw : Wld H W σ k) (q : ∀ c H', But [W.w] H H' → Wld H' W σ (k + 1) → H c = none → H' c = some (.inst c_Alias (aliasFs (.int (k + 1)) b s)) → Q (.ref c) H') : WC C (n + 3) (.ref f_alias_of) [b, s, .ref W.w] H Q := by
  obtain ⟨ti, op, hn⟩ := hw.names
  refine F.alias_of.on F rfl ?_
  unfold k_alias_of
  walk_at "L"
  refine meth_at F hn (by decide) rfl ⟨F.Names_fresh.can, wc_fresh F hw fun H1 hb h1 => ?_⟩
  refine ⟨F.cAlias.can, mk_Alias F fun c H2 x hc0 hc1 => q c H2 (hb.trans x.but) (h1.ext x) ?_ hc1⟩
  cases e : H c with
  | none => rfl
  | some o =>
    by_cases hcw : c = W.w
    · obtain ⟨_, _, e'⟩ := h1.names
      rw [hcw, e'] at hc0; cases hc0
    · rw [hb c o e (by simpa using hcw)] at hc0; cases hc0
end
end N226
end
noncomputable section
open PySem PySem.W PySem.Calls PyProof.Rows
set_option maxRecDepth 10000
namespace N226
inductive Lf where
  | name (s : Str) | int (i : Int) | fin
inductive F where
  | lf (x : Lf) | lst (fs : List F) (tl : Lf) | vec (fs : List F)
theorem F.ind {P : F → Prop} (hl : ∀ x, P (.lf x)) (hc : ∀ fs tl, (∀ f ∈ fs, P f) → P (.lst fs tl)) (hv : ∀ fs, (∀ f ∈ fs, P f) → P (.vec fs)) (f : F) : P f := by
  refine F.rec (motive_1 := P) (motive_2 := fun fs => ∀ f ∈ fs, P f) hl hc hv (fun _ h => nomatch h) (fun f fs ih1 ih2 g hg => ?_) f
  rcases List.mem_cons.mp hg with rfl | hg
  · exact ih1
  · exact ih2 g hg
structure All2 {α β : Type} (P : α → β → Prop) (xs : List α) (ys : List β) : Prop where
  len : xs.length = ys.length
  at_ : ∀ (i : Nat) x y, xs[i]? = some x → ys[i]? = some y → P x y
section
variable {α β γ : Type} {P Q : α → β → Prop}
theorem All2.nil : All2 P [] [] := ⟨rfl, fun i x y e => by simp at e⟩
theorem All2.cons {x : α} {y : β} {xs : List α} {ys : List β} (h : P x y) (t : All2 P xs ys) : All2 P (x :: xs) (y :: ys) := by
  refine ⟨by simp [t.len], fun i a b e1 e2 => ?_⟩
  cases i with
  | zero => simp at e1 e2; subst e1 e2; exact h
  | succ i => simp at e1 e2; exact t.at_ i a b e1 e2
theorem All2.head {x : α} {xs : List α} {ys : List β} (h : All2 P (x :: xs) ys) : ∃ y r, ys = y :: r ∧ P x y ∧ All2 P xs r := by
  cases ys with
  | nil => have := h.len; simp at this
  | cons y r => exact ⟨y, r, rfl, h.at_ 0 x y rfl rfl, by have := h.len; simpa using this, fun i a b e1 e2 => h.at_ (i + 1) a b (by simpa using e1) (by simpa using e2)⟩
theorem All2.nil_of {ys : List β} (h : All2 P [] ys) : ys = [] := List.eq_nil_of_length_eq_zero h.len.symm
theorem All2.mono {xs : List α} {ys : List β} (h : All2 P xs ys) (m : ∀ x ∈ xs, ∀ y, P x y → Q x y) : All2 Q xs ys :=
  ⟨h.len, fun i x y e1 e2 => m x (List.mem_of_getElem? e1) y (h.at_ i x y e1 e2)⟩
theorem All2.snoc {x : α} {y : β} {xs : List α} {ys : List β} (t : All2 P xs ys) (h : P x y) : All2 P (xs ++ [x]) (ys ++ [y]) := by
  refine ⟨by simp [t.len], fun i a b e1 e2 => ?_⟩
  rcases Nat.lt_trichotomy i xs.length with hi | hi | hi
  · rw [List.getElem?_append_left hi] at e1
    rw [List.getElem?_append_left (t.len ▸ hi)] at e2
    exact t.at_ i a b e1 e2
  · subst hi
    simp at e1
    rw [t.len] at e2
    simp at e2
    subst e1 e2
    exact h
  · rw [List.getElem?_eq_none (by simp; walk_at "O")] at e1; cases e1
theorem All2.mem {xs : List α} {ys : List β} (h : All2 P xs ys) {y : β} (hy : y ∈ ys) : ∃ x ∈ xs, P x y := by
  obtain ⟨i, hi, e⟩ := List.getElem_of_mem hy
  have hi' : i < xs.length := h.len ▸ hi
  exact ⟨xs[i], List.getElem_mem hi', h.at_ i _ _ (List.getElem?_eq_getElem hi') (by rw [List.getElem?_eq_getElem hi, e])⟩
end
inductive Shape (H : MH) (X : Addr → Prop) (L : Lf → V → Prop) : F → V → Prop
  | lf {x : Lf} {v : V} : L x v → Shape H X L (.lf x) v
  | lst {fs : List F} {tl : Lf} {v t : V} {vs : List V} : Chain H v vs t → fs.length = vs.length → (∀ (i : Nat) f w, fs[i]? = some f → vs[i]? = some w → Shape H X L f w) → L tl t → Shape H X L (.lst fs tl) v
  | vec {fs : List F} {a l : Addr} {vs : List V} : H a = some (.inst c_Vector [(n_things, .ref l)]) → H l = some (.list vs) → ¬ X l → fs.length = vs.length → (∀ (i : Nat) f w, fs[i]? = some f → vs[i]? = some w → Shape H X L f w) → Shape H X L (.vec fs) (.ref a)
noncomputable def Away (H : MH) (X : Addr → Prop) (M : List Addr) : Prop := ∀ m ∈ M, (∃ es ep, H m = some (.dict es ep)) ∨ (∃ fs, H m = some (.inst c_Names fs)) ∨ (X m ∧ ∃ xs, H m = some (.list xs))
theorem away_nil {H : MH} {X : Addr → Prop} : Away H X [] := fun _ h => nomatch h
theorem Away.out {H : MH} {X : Addr → Prop} {M : List Addr} (h : Away H X M) {a : Addr} {o : MO} (e : H a = some o) (h1 : ∀ es ep, o ≠ .dict es ep) (h2 : ∀ fs, o ≠ .inst c_Names fs) (h3 : (∀ xs, o ≠ .list xs) ∨ ¬ X a) : a ∉ M := fun q => by
  rcases h a q with ⟨es, ep, e'⟩ | ⟨fs, e'⟩ | ⟨hx, xs, e'⟩
  · rw [e] at e'; exact h1 es ep (Option.some.inj e')
  · rw [e] at e'; exact h2 fs (Option.some.inj e')
  · rcases h3 with h3 | h3
    · rw [e] at e'; exact h3 xs (Option.some.inj e')
    · exact h3 hx
theorem Chain.but {H H' : MH} {X : Addr → Prop} {M : List Addr} (hm : Away H X M) (b : But M H H') : ∀ {xs : List V} {v t : V}, Chain H v xs t → Chain H' v xs t
  | [], _, _, h => h
  | _ :: xs, _, _, ⟨a, d, e, h1, h2⟩ =>
    ⟨a, d, e, b a _ h1 (hm.out h1 (fun _ _ e => by cases e) (fun _ e => by injection e with e; revert e; decide) (.inl fun _ e => by cases e)), Chain.but hm b h2⟩
theorem Shape.but {H H' : MH} {X : Addr → Prop} {L L' : Lf → V → Prop} {M : List Addr} (hm : Away H X M) (b : But M H H') (hL : ∀ x v, L x v → L' x v) {f : F} {v : V} (h : Shape H X L f v) : Shape H' X L' f v := by
  induction h with
  | lf h => exact .lf (hL _ _ h)
  | lst hc hl _ ht ih => exact .lst (hc.but hm b) hl ih (hL _ _ ht)
  | vec ha hll hne hl _ ih =>
    refine .vec (b _ _ ha (hm.out ha (fun _ _ e => by cases e) (fun _ e => by injection e with e; revert e; decide) (.inl fun _ e => by cases e))) (b _ _ hll (hm.out hll (fun _ _ e => by cases e) (fun _ e => by cases e) (.inr hne))) hne hl ih
theorem Shape.ext {H H' : MH} {X : Addr → Prop} {L : Lf → V → Prop} (x : Ext H H') {f : F} {v : V} (h : Shape H X L f v) : Shape H' X L f v := by
  induction h with
  | lf h => exact .lf h
  | lst hc hl _ ht ih => exact .lst (hc.ext x) hl ih ht
  | vec ha hll hne hl _ ih => exact .vec (x _ _ ha) (x _ _ hll) hne hl ih
theorem Shape.leaf {H : MH} {X X' : Addr → Prop} {L L' : Lf → V → Prop} (hX : ∀ a, X' a → X a) (hL : ∀ x v, L x v → L' x v) {f : F} {v : V} (h : Shape H X L f v) : Shape H X' L' f v := by
  induction h with
  | lf h => exact .lf (hL _ _ h)
  | lst hc hl _ ht ih => exact .lst hc hl ih (hL _ _ ht)
  | vec ha hll hne hl _ ih => exact .vec ha hll (fun h => hne (hX _ h)) hl ih
noncomputable def lfV : Lf → V
  | .name s => .str s
  | .int i => .int i
  | .fin => .none
inductive FormIs (H : MH) : F → V → Prop
  | lf {x : Lf} : x ≠ .fin → FormIs H (.lf x) (lfV x)
  | lst {fs : List F} {tl : Lf} {a p : Addr} {vs : List V} : (∀ i, tl ≠ .int i) → fs ≠ [] → fs.length ≤ 4 → H a = some (.tuple [.str s_list, .ref p, lfV tl]) → H p = some (.tuple vs) → fs.length = vs.length → (∀ (i : Nat) f w, fs[i]? = some f → vs[i]? = some w → FormIs H f w) → FormIs H (.lst fs tl) (.ref a)
  | vec {fs : List F} {a p : Addr} {vs : List V} : fs ≠ [] → fs.length ≤ 4 → H a = some (.tuple [.str s_vector, .ref p, .none]) → H p = some (.tuple vs) → fs.length = vs.length → (∀ (i : Nat) f w, fs[i]? = some f → vs[i]? = some w → FormIs H f w) → FormIs H (.vec fs) (.ref a)
theorem FormIs.but {H H' : MH} {M : List Addr} (hm : ∀ m ∈ M, ∀ vs, H m ≠ some (.tuple vs)) (b : But M H H') {f : F} {v : V} (h : FormIs H f v) : FormIs H' f v := by
  have out : ∀ {a : Addr} {vs : List V}, H a = some (.tuple vs) → H' a = some (.tuple vs) := fun e => b _ _ e fun q => hm _ q _ e
  induction h with
  | lf h => exact .lf h
  | lst h1 h2 h4 ha hp hl _ ih => exact .lst h1 h2 h4 (out ha) (out hp) hl ih
  | vec h2 h4 ha hp hl _ ih => exact .vec h2 h4 (out ha) (out hp) hl ih
theorem FormIs.ext {H H' : MH} (x : Ext H H') {f : F} {v : V} (h : FormIs H f v) : FormIs H' f v := h.but (M := []) (fun _ h => nomatch h) x.but
mutual
noncomputable def F.dep : F → Nat
  | .lf _ => 0
  | .lst fs _ => 1 + depFs fs
  | .vec fs => 1 + depFs fs
noncomputable def depFs : List F → Nat
  | [] => 0
  | f :: fs => max f.dep (depFs fs)
end
theorem le_depFs {f : F} : ∀ {fs : List F}, f ∈ fs → f.dep ≤ depFs fs
  | g :: fs, h => by
    rcases List.mem_cons.mp h with rfl | h
    · exact Nat.le_max_left _ _
    · exact Nat.le_trans (le_depFs h) (Nat.le_max_right _ _)
theorem F.dep_lst {fs : List F} {tl : Lf} {f : F} (h : f ∈ fs) : f.dep < (F.lst fs tl).dep := by
  have := le_depFs h
  show f.dep < 1 + depFs fs
  walk_at "O"
theorem F.dep_vec {fs : List F} {f : F} (h : f ∈ fs) : f.dep < (F.vec fs).dep := F.dep_lst (tl := .fin) h
end N226
end
noncomputable section
open PySem PySem.W PySem.Calls PyProof.Rows
set_option maxRecDepth 10000
namespace N226
section
variable {C : Cx} {n : Nat} {ρ : Loc} {H : MH}
noncomputable def Deck (ds : List Int) : Prop := (∀ x ∈ ds, 0 ≤ x ∧ x < 10 ^ 16) ∧ ds.length ≤ 16
noncomputable abbrev intV (ds : List Int) : List V := ds.map V.int
theorem intV_key (ds : List Int) : (intV ds).all isKey = true := by
  rw [List.all_eq_true]; intro v hv; obtain ⟨i, _, rfl⟩ := List.mem_map.mp hv; rfl
theorem cmp_ne_list {x y : Addr} {xs ys : List V} {Q : V → MH → Prop} (hx : H x = some (.list xs)) (hy : H y = some (.list ys)) (kx : xs.all isKey = true) (ky : ys.all isKey = true) (q : Q (.bool (decide (xs ≠ ys))) H) : cmpW .NotEq (.ref x) (.ref y) H Q :=
  .inl ⟨xs, ys, hx, hy, kx, ky, q⟩
theorem cmp_eq_list {x y : Addr} {xs ys : List V} {Q : V → MH → Prop} (hx : H x = some (.list xs)) (hy : H y = some (.list ys)) (kx : xs.all isKey = true) (ky : ys.all isKey = true) (q : Q (.bool (decide (xs = ys))) H) : cmpW .Eq (.ref x) (.ref y) H Q :=
  .inl ⟨xs, ys, hx, hy, kx, ky, q⟩
theorem cmp_eq_int {x y : Int} {Q : V → MH → Prop} (q : Q (.bool (decide (x = y))) H) : cmpW .Eq (.int x) (.int y) H Q := q
theorem cmp_ne_int {x y : Int} {Q : V → MH → Prop} (q : Q (.bool (decide (x ≠ y))) H) : cmpW .NotEq (.int x) (.int y) H Q := q
theorem cmp_gt_int {x y : Int} {Q : V → MH → Prop} (q : Q (.bool (decide (y < x))) H) : cmpW .Gt (.int x) (.int y) H Q := q
theorem cmp_lt_int {x y : Int} {Q : V → MH → Prop} (q : Q (.bool (decide (x < y))) H) : cmpW .Lt (.int x) (.int y) H Q := q
theorem cmp_eq_str {x y : Str} {Q : V → MH → Prop} (q : Q (.bool (decide (x = y))) H) : cmpW .Eq (.str x) (.str y) H Q := q
theorem cmp_ne_str {x y : Str} {Q : V → MH → Prop} (q : Q (.bool (decide (x ≠ y))) H) : cmpW .NotEq (.str x) (.str y) H Q := q
theorem deck_loop (F : Fit C) {dk : Addr} {many : Int} {R : Fl → Loc → MH → Prop} {b : K} (hb : b = .seq (.expr (.meth (.var 0) n_pop (.cons (.int (0)) .nil))) .nil) :
    ∀ (ds : List Int) (ρ : Loc) (H : MH), Deck ds → ρ 0 = some (.ref dk) → H dk = some (.list (intV ds)) →
      (∀ ds' H', But [dk] H H' → H' dk = some (.list (intV ds')) → Deck ds' → R .next ρ H') →
      WH C n (.tand (.tcmp .NotEq (.var 0) (.list .nil)) (.tand (.tcmp .Eq (.sub (.var 0) (.int (0))) (.int (0))) .ttrue)) b R ρ H := by
  intro ds
  induction ds with
  | nil =>
    intro ρ H hd h0 hl q
    refine WH.turn ?_
    wide_open using (h0, h0)
    refine ⟨by decide, fun c hc => ?_⟩
    refine cmp_ne_list (set_old hl hc) (MH.set_self _ _ _) rfl rfl ⟨false, rfl, ?_⟩
    wide_open with (kk_seq, kk_seq)
    exact q [] _ (Ext.new hc).but (set_old hl hc) hd
  | cons x ds ih =>
    intro ρ H hd h0 hl q
    refine WH.turn ?_
    wide_open using (h0, h0)
    refine ⟨by decide, fun c hc => ?_⟩
    refine cmp_ne_list (set_old hl hc) (MH.set_self _ _ _) (intV_key _) rfl ⟨true, rfl, ?_⟩
    wide_open with (kk_seq, kk_seq)
    refine sub_list (set_old hl hc) (by decide) (by decide) (v := .int x) (by simp [pick]) (cmp_eq_int ⟨_, rfl, ?_⟩)
    have hd' : Deck ds := ⟨fun y hy => hd.1 y (List.mem_cons_of_mem _ hy), by have := hd.2; simp at this; walk_at "O"⟩
    by_cases hx : x = 0
    · wide_open with (kk_seq, hx, decide_true)
      subst hb
      wide_open using (h0, h0)
      refine bi_list (id := "list.pop") (set_old hl hc) rfl ⟨Callable_bi, WC_pop0 (set_old hl hc) (by have := hd.2; simp at this; simp [lim]; walk_at "O") ⟨(fun _ e => by cases e), ?_⟩⟩
      refine ih ρ _ hd' h0 (MH.set_self _ _ _) fun ds' H' bt hl' hd'' => q ds' H' (((Ext.new hc).but.trans (But.set (by simp))).trans bt) hl' hd''
    · wide_open with (kk_seq, hx, decide_false)
      exact q (x :: ds) _ (Ext.new hc).but (set_old hl hc) hd
theorem wc_draw (F : Fit C) {dk : Addr} {many : Int} {ds : List Int} {Q : V → MH → Prop} (hl : H dk = some (.list (intV ds))) (hd : Deck ds) (h1 : 1 ≤ many) (h2 : many < 1000)
    (q : ∀ r ds' H', But [dk] H H' → H' dk = some (.list (intV ds')) → Deck ds' → 0 ≤ r → r < many → Q (.int r) H') : WC C (n + 1) (.ref f_law_draw) [.ref dk, .int many] H Q := by
  refine F.law_draw.on F rfl ?_
  unfold k_law_draw
  walk_at "L"
  refine deck_loop F (many := many) rfl ds _ H hd rfl hl fun ds1 H1 b1 hl1 hd1 => ?_
  walk_at "L"
  refine ⟨by decide, fun c hc => ?_⟩
  refine cmp_eq_list (set_old hl1 hc) (MH.set_self _ _ _) (intV_key _) rfl ⟨_, rfl, ?_⟩
  cases ds1 with
  | nil =>
    walk_at "L"
    exact q 0 [] _ (b1.trans (Ext.new hc).but) (set_old hl1 hc) hd1 (by walk_at "O") (by walk_at "O")
  | cons x ds1 =>
    walk_at "L"
    have hx := hd1.1 x (by simp)
    refine sub_list (set_old hl1 hc) (by decide) (by decide) (v := .int x) (by simp [pick]) ?_
    refine ⟨by walk_at "O", ?_⟩
    walk_at "L"
    refine sub_list (set_old hl1 hc) (by decide) (by decide) (v := .int x) (by simp [pick]) ?_
    refine ⟨by walk_at "O", by walk_at "O", ?_⟩
    refine WItm_list (set_old hl1 hc) (Int.le_refl _) (by simp) (by have := hd1.2; simp at this; simp [lim]; walk_at "O") ?_
    have hm : 0 < many := by walk_at "O"
    refine q (x.fmod many) (x.fdiv many :: ds1) _ ((b1.trans (Ext.new hc).but).trans (But.set (by simp))) (by rw [MH.set_self]; simp) ⟨fun y hy => ?_, by have := hd1.2; simpa using this⟩ (Int.fmod_nonneg_of_pos x hm) (Int.fmod_lt_of_pos x hm)
    rcases List.mem_cons.mp hy with rfl | hy
    · rw [Int.fdiv_eq_ediv_of_nonneg _ (by walk_at "O")]
      exact ⟨Int.ediv_nonneg hx.1 (by walk_at "O"), Int.lt_of_le_of_lt (Int.ediv_le_self _ hx.1) hx.2⟩
    · exact hd1.1 y (List.mem_cons_of_mem _ hy)
noncomputable def okL : Lf → Prop
  | .name s => s = s_t ∨ s = s_a ∨ s = s_b ∨ s = s_let ∨ s = s_x
  | .int i => i = 5
  | .fin => False
noncomputable def okT : Lf → Prop
  | .name s => s = s_t ∨ s = s_a
  | .int _ => False
  | .fin => True
noncomputable def Ok : Nat → F → Prop
  | 0, f => ∃ x, f = .lf x ∧ okL x
  | d + 1, f => (∃ x, f = .lf x ∧ okL x) ∨ (∃ fs tl, f = .lst fs tl ∧ fs ≠ [] ∧ fs.length ≤ 4 ∧ okT tl ∧ ∀ g ∈ fs, Ok d g) ∨ (∃ fs, f = .vec fs ∧ fs ≠ [] ∧ fs.length ≤ 4 ∧ ∀ g ∈ fs, Ok d g)
theorem Ok.leaf {d : Nat} {x : Lf} (h : okL x) : Ok d (.lf x) := by
  cases d with
  | zero => exact ⟨x, rfl, h⟩
  | succ d => exact .inl ⟨x, rfl, h⟩
theorem Ok.up {d : Nat} : ∀ {f : F}, Ok d f → Ok (d + 1) f := by
  induction d with
  | zero => rintro f ⟨x, rfl, h⟩; exact .inl ⟨x, rfl, h⟩
  | succ d ih =>
    intro f h
    rcases h with h | ⟨fs, tl, e, h1, h2, h3, h4⟩ | ⟨fs, e, h1, h2, h4⟩
    · exact .inl h
    · exact .inr (.inl ⟨fs, tl, e, h1, h2, h3, fun g hg => ih (h4 g hg)⟩)
    · exact .inr (.inr ⟨fs, e, h1, h2, fun g hg => ih (h4 g hg)⟩)
theorem drawn_leaf {w : Int} (h0 : 0 ≤ w) (h1 : w < 9) : ∃ x, okL x ∧ pick [.str s_t, .str s_a, .str s_b, .str s_let, .str s_x, .int 5, .str s_a, .str s_t, .str s_let] w = some (lfV x) := by
  have : w = 0 ∨ w = 1 ∨ w = 2 ∨ w = 3 ∨ w = 4 ∨ w = 5 ∨ w = 6 ∨ w = 7 ∨ w = 8 := by walk_at "O"
  rcases this with rfl | rfl | rfl | rfl | rfl | rfl | rfl | rfl | rfl
  · exact ⟨.name s_t, .inl rfl, rfl⟩
  · exact ⟨.name s_a, .inr (.inl rfl), rfl⟩
  · exact ⟨.name s_b, .inr (.inr (.inl rfl)), rfl⟩
  · exact ⟨.name s_let, .inr (.inr (.inr (.inl rfl))), rfl⟩
  · exact ⟨.name s_x, .inr (.inr (.inr (.inr rfl))), rfl⟩
  · exact ⟨.int 5, rfl, rfl⟩
  · exact ⟨.name s_a, .inr (.inl rfl), rfl⟩
  · exact ⟨.name s_t, .inl rfl, rfl⟩
  · exact ⟨.name s_let, .inr (.inr (.inr (.inl rfl))), rfl⟩
theorem drawn_tail {w : Int} (h0 : 0 ≤ w) (h1 : w < 2) : ∃ x, okT x ∧ x ≠ .fin ∧ pick [.str s_t, .str s_a] w = some (lfV x) := by
  have : w = 0 ∨ w = 1 := by walk_at "O"
  rcases this with rfl | rfl
  · exact ⟨.name s_t, .inl rfl, (fun e => by cases e), rfl⟩
  · exact ⟨.name s_a, .inr rfl, (fun e => by cases e), rfl⟩
end
end N226
end
noncomputable section
open PySem PySem.W PySem.Calls PyProof.Rows
set_option maxRecDepth 10000
namespace N226
section
variable {C : Cx} {n : Nat} {ρ : Loc} {H : MH}
theorem deck_comp (F : Fit C) {l : Addr} {xs : List Int} {Q : List V → MH → Prop} (hl : H l = some (.list (intV xs))) (hn : xs.length ≤ lim) :
    ∀ (k : Nat) (done : List Int), k ≤ xs.length → (∀ y ∈ done, 0 ≤ y ∧ y < 10 ^ 16) → done.length + k = xs.length →
      (∀ ds : List Int, (∀ y ∈ ds, 0 ≤ y ∧ y < 10 ^ 16) → ds.length = xs.length → Q (intV ds) H) →
      CP C n (.bin .Mod (.call (.con (.bi "abs")) (.cons (.var 0) .nil)) (.bin .Pow (.int (10)) (.int (16)))) .ttrue ρ Q (.lst l (xs.length - k)) (intV done) H := by
  intro k
  induction k with
  | zero =>
    intro done _ hd hlen q
    refine CP.done (by simp [Src.item, hl]) (q done hd (by walk_at "O"))
  | succ k ih =>
    intro done hk hd hlen q
    have hlt : xs.length - (k + 1) < xs.length := by walk_at "O"
    refine CP.item (v := .int xs[xs.length - (k + 1)]) (by simp only [Src.item, hl]; rw [List.getElem?_map, List.getElem?_eq_getElem hlt]; rfl) ?_
    wide_open with (kk_seq, kk_seq)
    refine ⟨Callable_bi, WC_abs ⟨by walk_at "O", by walk_at "O", by decide, ?_⟩⟩
    refine ⟨by decide, by rw [List.length_map]; exact Nat.le_trans (m := xs.length) (by walk_at "O") hn, ?_⟩
    have e : (Src.lst l (xs.length - (k + 1))).next = .lst l (xs.length - k) := by
      show Src.lst l (xs.length - (k + 1) + 1) = _
      rw [show xs.length - (k + 1) + 1 = xs.length - k by walk_at "O"]
    rw [e, ← List.map_singleton, ← List.map_append]
    have hp : (0 : Int) < 10 ^ (16 : Int).toNat := by decide
    refine ih _ (by walk_at "O") (fun y hy => ?_) (by simp; walk_at "O") q
    rcases List.mem_append.mp hy with hy | hy
    · exact hd y hy
    · simp at hy
      subst hy
      exact ⟨Int.fmod_nonneg_of_pos _ hp, Int.fmod_lt_of_pos _ hp⟩
theorem wc_law_deck (F : Fit C) {s : Addr} {xs : List Int} {Q : V → MH → Prop} (h : H s = some (.slist (intV xs))) (hn : xs.length ≤ lim)
    (q : ∀ dk ds H', Ext H H' → H dk = none → H' dk = some (.list (intV ds)) → Deck ds → Q (.ref dk) H') : WC C (n + 1) (.ref f_law_deck) [.ref s] H Q := by
  refine F.law_deck.on F rfl ?_
  simp (decide := true) only [k_law_deck, ee_none, ee_bool, ee_int, ee_str, ee_var, ee_con, ee_bin, ee_neg, ee_cmp, ee_andv, ee_orv, ee_ite, ee_attr, ee_call, ee_lzip, ee_meth, ee_sub, ee_slice, ee_tuple, ee_list, ee_dict0, ee_dict, ee_comp, el_nil, el_cons, ed_nil, ed_kv, et_val, et_no, et_and, et_or, et_true, et_false, et_ite, et_cmp, et_in, et_notin, kk_pass, kk_expr, kk_set, kk_setA, kk_setI, kk_unpack, kk_swap, kk_if, kk_while, kk_for, kk_ret, kk_ret0, kk_nil, kk_seq, q_next, q_ret, r_next, r_ret, l_next, l_ret, a_one, a_many, in_zero, in_succ, partW, setAll_cons, setAll_nil, argLoc, Loc.set, List.map_nil, List.map_cons, List.nil_append, List.cons_append, List.append_nil, List.getElem?_cons_zero, List.getElem?_cons_succ, Option.some.injEq, exists_eq_left', Bool.false_eq_true, if_true, if_false, reduceIte, V.bool.injEq, V.int.injEq, V.str.injEq, V.ref.injEq, Bool.not_true, Bool.not_false, reduceCtorEq, onV_some, cond_true, cond_false, Nat.reduceBEq, decide_true, decide_false]
  refine ⟨s, _, rfl, .inr h, by simpa using hn, fun c hc => ?_⟩
  have ec : cut (intV xs) none (some 16) = intV (xs.take (clip (intV xs).length 16)) := by
    unfold cut intV; simp [List.map_take]
  rw [ec]
  have hm : (xs.take (clip (intV xs).length 16)).length ≤ 16 := by
    rw [List.length_take]; unfold clip; simp; walk_at "O"
  refine ⟨_, iter_list (MH.set_self _ _ _), ?_⟩
  have := deck_comp (ρ := fun i => [V.ref s][i]?) (Q := fun done H2 => ∀ c, H2 c = none → Q (.ref c) (H2.set c (.list done))) (n := n) F (H := H.set c (.list (intV (xs.take (clip (intV xs).length 16))))) (l := c) (xs := xs.take (clip (intV xs).length 16)) (MH.set_self _ _ _) (by unfold lim; walk_at "O") (xs.take (clip (intV xs).length 16)).length [] (Nat.le_refl _) (fun y hy => by cases hy) (by simp) fun ds hd hdl d hdn => ?_
  · rw [Nat.sub_self] at this; exact this
  · exact q d ds _ ((Ext.new hc).trans (Ext.new hdn)) ((Ext.new hc).old_none hdn) (MH.set_self _ _ _) ⟨hd, by walk_at "O"⟩
end
end N226
end
noncomputable section
open PySem PySem.W PySem.Calls PyProof.Rows
set_option maxRecDepth 10000
namespace N226
noncomputable abbrev Fm := F
section
variable {C : Cx} {n : Nat} {ρ : Loc} {H : MH}
noncomputable def Drawn (C : Cx) (n : Nat) (d : Nat) : Prop := ∀ {H : MH} {dk : Addr} {ds : List Int} {Q : V → MH → Prop}, H dk = some (.list (intV ds)) → Deck ds →
  (∀ f v ds' H', But [dk] H H' → H' dk = some (.list (intV ds')) → Deck ds' → Ok d f → FormIs H' f v → Q v H') → WC C n (.ref f_law_drawn) [.ref dk, .int d] H Q
theorem FormIs.deck {H' : MH} {dk : Addr} {vs : List V} (h : H dk = some (.list vs)) (b : But [dk] H H') {f : Fm} {v : V} (x : FormIs H f v) : FormIs H' f v :=
  x.but (M := [dk]) (fun m hm us e => by simp at hm; subst hm; rw [h] at e; cases e) b
theorem drawn_comp {d : Nat} {dk : Addr} {Q : List V → MH → Prop} (F : Fit C) (hD : Drawn C n d) (h0 : ρ 0 = some (.ref dk)) (h1 : ρ 1 = some (.int ((d + 1 : Nat) : Int))) :
    ∀ (k : Nat) (x : Int) (fs : List Fm) (vs : List V) (ds : List Int) (H H0 : MH), H dk = some (.list (intV ds)) → Deck ds → But [dk] H0 H → All2 (FormIs H) fs vs → (∀ f ∈ fs, Ok d f) → fs.length + k ≤ 4 →
      (∀ fs' vs' ds' H', But [dk] H0 H' → H' dk = some (.list (intV ds')) → Deck ds' → All2 (FormIs H') fs' vs' → (∀ f ∈ fs', Ok d f) → fs'.length = fs.length + k → Q vs' H') →
      CP C n (.call (.con (.ref f_law_drawn)) (.cons (.var 1) (.cons (.bin .Sub (.var 2) (.int (1))) .nil))) .ttrue ρ Q (.rng x k 1) vs H := by
  intro k
  induction k with
  | zero =>
    intro x fs vs ds H H0 hl hd b ha ho hk q
    refine CP.done rfl ?_
    exact q fs vs ds H b hl hd ha ho rfl
  | succ k ih =>
    intro x fs vs ds H H0 hl hd b ha ho hk q
    refine CP.item (v := .int x) (by simp [Src.item]) ?_
    wide_open with (kk_seq, h0, h1)
    refine bin_sub ?_
    have e : (((d + 1 : Nat) : Int) - 1) = (d : Int) := by walk_at "O"
    rw [e]
    refine ⟨F.law_drawn.can, hD hl hd fun f v ds' H' b' hl' hd' hf hv => ?_⟩
    refine ⟨by rw [← ha.len]; exact Nat.le_trans (m := 4) (by walk_at "O") (by decide), ?_⟩
    have e2 : (Src.rng x (k + 1) 1).next = .rng (x + 1) k 1 := rfl
    rw [e2]
    refine ih _ (fs ++ [f]) (vs ++ [v]) ds' H' H0 hl' hd' (b.trans b') (All2.snoc (ha.mono fun g _ u hu => hu.deck hl b') hv) (fun g hg => ?_) (by simp; walk_at "O") fun fs' vs' ds'' H'' b'' hl'' hd'' ha'' ho'' hlen => q fs' vs' ds'' H'' b'' hl'' hd'' ha'' ho'' (by simp at hlen; walk_at "O")
    rcases List.mem_append.mp hg with hg | hg
    · exact ho g hg
    · simp at hg; subst hg; exact hf
theorem drawn_leafW {Q : V → MH → Prop} {d : Nat} {dk : Addr} {ds : List Int} {w : Int} {H0 : MH} (h2 : ρ 2 = some (.int w)) (w0 : 0 ≤ w) (w1 : w < 9) (hl : H dk = some (.list (intV ds))) (hd : Deck ds) (b : But [dk] H0 H)
    (q : ∀ f v ds' H', But [dk] H0 H' → H' dk = some (.list (intV ds')) → Deck ds' → Ok d f → FormIs H' f v → Q v H') :
    (wps C n (.sub (.list (.cons (.str s_t) (.cons (.str s_a) (.cons (.str s_b) (.cons (.str s_let) (.cons (.str s_x) (.cons (.int (5)) (.cons (.str s_a) (.cons (.str s_t) (.cons (.str s_let) .nil)))))))))) (.var 2))).e ρ H Q := by
  wide_open with (kk_seq, h2)
  refine ⟨by decide, fun c hc => ?_⟩
  obtain ⟨x, hx, hp⟩ := drawn_leaf w0 w1
  refine sub_list (MH.set_self _ _ _) (by walk_at "O") (by walk_at "O") hp ?_
  exact q (.lf x) (lfV x) ds _ (b.trans (Ext.new hc).but) (set_old hl hc) hd (Ok.leaf hx) (.lf fun e => by subst e; exact hx)
theorem in_tuple {x : Addr} {vs : List V} {k : V} {Q : Bool → Prop} (h : H x = some (.tuple vs)) (hk : isKey k = true) (hv : vs.all isKey = true) (q : Q (vs.any fun v => decide (v = k))) : inW (.ref x) k H Q := by
  exact .inr (.inl ⟨x, vs, rfl, h, hk, hv, q⟩)
theorem rngCount_up {m : Int} (h : 0 ≤ m) : rngCount 0 m 1 = m.toNat := by
  unfold rngCount
  simp
theorem drawn_all (F : Fit C) : ∀ (d : Nat), Drawn C (n + d + 2) d := by
  intro d
  induction d with
  | zero =>
    intro H dk ds Q hl hd q
    refine F.law_drawn.on F rfl ?_
    unfold k_law_drawn
    walk_at "L"
    refine ⟨F.law_draw.can, wc_draw F hl hd (by decide) (by decide) fun w ds1 H1 b1 hl1 hd1 w0 w1 => ?_⟩
    walk_at "L"
    refine cmp_gt_int ⟨_, rfl, ?_⟩
    walk_at "L"
    have := drawn_leafW (ρ := Loc.set (argLoc [.ref dk, .int 0]) 2 (.int w)) (C := C) (n := n + 0 + 1) (Q := Q) (d := 0) rfl w0 w1 hl1 hd1 b1 q
    simp (decide := true) only [ee_none, ee_bool, ee_int, ee_str, ee_var, ee_con, ee_bin, ee_neg, ee_cmp, ee_andv, ee_orv, ee_ite, ee_attr, ee_call, ee_lzip, ee_meth, ee_sub, ee_slice, ee_tuple, ee_list, ee_dict0, ee_dict, ee_comp, el_nil, el_cons, ed_nil, ed_kv, et_val, et_no, et_and, et_or, et_true, et_false, et_ite, et_cmp, et_in, et_notin, kk_pass, kk_expr, kk_set, kk_setA, kk_setI, kk_unpack, kk_swap, kk_if, kk_while, kk_for, kk_ret, kk_ret0, kk_nil, kk_seq, q_next, q_ret, r_next, r_ret, l_next, l_ret, a_one, a_many, in_zero, in_succ, partW, setAll_cons, setAll_nil, argLoc, Loc.set, List.map_nil, List.map_cons, List.nil_append, List.cons_append, List.append_nil, List.getElem?_cons_zero, List.getElem?_cons_succ, Option.some.injEq, exists_eq_left', Bool.false_eq_true, if_true, if_false, reduceIte, V.bool.injEq, V.int.injEq, V.str.injEq, V.ref.injEq, Bool.not_true, Bool.not_false, reduceCtorEq, onV_some, cond_true, cond_false, Nat.reduceBEq, decide_true, decide_false] at this
    exact this
  | succ d ih =>
    intro H dk ds Q hl hd q
    refine F.law_drawn.on F rfl ?_
    unfold k_law_drawn
    walk_at "L"
    refine ⟨F.law_draw.can, wc_draw F hl hd (by decide) (by decide) fun w ds1 H1 b1 hl1 hd1 w0 w1 => ?_⟩
    walk_at "L"
    refine cmp_gt_int ⟨_, rfl, ?_⟩
    have e0 : decide ((0 : Int) < ((d + 1 : Nat) : Int)) = true := by simp
    wide_open using (e0, e0)
    refine ⟨by decide, fun c hc => ?_⟩
    refine in_tuple (MH.set_self _ _ _) rfl rfl ?_
    have hl2 := set_old (y := .tuple [.int 0, .int 7, .int 8]) hl1 hc
    have b2 := b1.trans (M := [dk]) (Ext.new (o := .tuple [.int 0, .int 7, .int 8]) hc).but
    have e1 : ([V.int 0, .int 7, .int 8].any fun v => decide (v = .int w)) = (decide ((0:Int) = w) || decide ((7:Int) = w) || decide ((8:Int) = w)) := by simp [Bool.or_assoc]
    rw [e1]
    by_cases hw : (decide ((0:Int) = w) || decide ((7:Int) = w) || decide ((8:Int) = w)) = true
    · rw [hw]
      walk_at "L"
      refine ⟨F.law_draw.can, wc_draw F hl2 hd1 (by decide) (by decide) fun m ds2 H2 b3 hl3 hd2 m0 m1 => ?_⟩
      refine bin_add ⟨Callable_ty, WC_range1 fun r hr => ⟨_, iter_rng (MH.set_self _ _ _) (by walk_at "O"), ?_⟩⟩
      rw [rngCount_up (by walk_at "O")]
      refine drawn_comp F ih rfl rfl _ 0 [] [] ds2 _ H (set_old hl3 hr) hd2 ((b2.trans b3).trans (Ext.new hr).but) All2.nil (fun _ h => nomatch h) (by simp; walk_at "O") fun fs vs ds3 H3 b4 hl4 hd3 ha ho hlen c2 hc2 => ?_
      simp at hlen
      refine ⟨Callable_ty, WC_tuple_list (MH.set_self _ _ _) (by rw [← ha.len]; exact Nat.le_trans (m := 4) (by walk_at "O") (by decide)) fun p hp => ?_⟩
      have hne : fs ≠ [] := fun e => by rw [e] at hlen; simp at hlen; walk_at "O"
      have h4 : fs.length ≤ 4 := by walk_at "O"
      have hl5 := set_old (y := .tuple vs) (set_old (y := .list vs) hl4 hc2) hp
      have b5 := (b4.trans (M := [dk]) (Ext.new (o := .list vs) hc2).but).trans (M := [dk]) (Ext.new (o := .tuple vs) hp).but
      have ha5 : All2 (FormIs ((H3.set c2 (.list vs)).set p (.tuple vs))) fs vs := ha.mono fun g _ u hu => (hu.ext (Ext.new hc2)).ext (Ext.new hp)
      walk_at "L"
      refine cmp_eq_int ⟨_, rfl, ?_⟩
      have hw3 : w = 0 ∨ w = 7 ∨ w = 8 := by
        simp at hw; walk_at "O"
      rcases hw3 with rfl | rfl | rfl
      · walk_at "L"
        refine cmp_eq_int ⟨_, rfl, ?_⟩
        walk_at "L"
        refine ⟨by show 3 ≤ lim; decide, fun c3 hc3 => ?_⟩
        refine q (.lst fs .fin) _ ds3 _ (b5.trans (Ext.new hc3).but) (set_old hl5 hc3) hd3 (.inr (.inl ⟨fs, .fin, rfl, hne, h4, trivial, ho⟩)) ?_
        exact .lst (fun i e => by cases e) hne h4 (MH.set_self _ _ _) (set_old (MH.set_self _ _ _) hc3) ha5.len fun i f u e1 e2 => (ha5.at_ i f u e1 e2).ext (Ext.new hc3)
      · walk_at "L"
        refine cmp_eq_int ⟨_, rfl, ?_⟩
        walk_at "L"
        refine ⟨by decide, fun c4 hc4 => ?_⟩
        refine ⟨F.law_draw.can, wc_draw F (set_old hl5 hc4) hd3 (by decide) (by decide) fun z ds4 H4 b6 hl6 hd4 z0 z1 => ?_⟩
        obtain ⟨x, hx, hxf, hpk⟩ := drawn_tail z0 z1
        have ndk : c4 ∉ [dk] := by simp; exact (ne_new hl5 hc4).symm
        refine sub_list (b6 _ _ (MH.set_self _ _ _) ndk) (by walk_at "O") (by walk_at "O") hpk ?_
        refine ⟨by show 3 ≤ lim; decide, fun c3 hc3 => ?_⟩
        have b7 := ((b5.trans (M := [dk]) (Ext.new (o := .list [V.str s_t, V.str s_a]) hc4).but).trans b6)
        refine q (.lst fs x) _ ds4 _ (b7.trans (Ext.new hc3).but) (set_old hl6 hc3) hd4 (.inr (.inl ⟨fs, x, rfl, hne, h4, hx, ho⟩)) ?_
        have hp' : p ∉ [dk] := by simp; exact ne_of (MH.set_self _ _ _) hl5 (fun e => by cases e)
        refine .lst (fun i e => by subst e; exact hx) hne h4 (MH.set_self _ _ _) (set_old (b6 _ _ (set_old (MH.set_self _ _ _) hc4) hp') hc3) ha5.len fun i f u e1 e2 => ?_
        exact (((ha5.at_ i f u e1 e2).ext (Ext.new hc4)).deck (set_old hl5 hc4) b6).ext (Ext.new hc3)
      · walk_at "L"
        refine cmp_eq_int ⟨_, rfl, ?_⟩
        walk_at "L"
        refine ⟨by show 3 ≤ lim; decide, fun c3 hc3 => ?_⟩
        refine q (.vec fs) _ ds3 _ (b5.trans (Ext.new hc3).but) (set_old hl5 hc3) hd3 (.inr (.inr ⟨fs, rfl, hne, h4, ho⟩)) ?_
        exact .vec hne h4 (MH.set_self _ _ _) (set_old (MH.set_self _ _ _) hc3) ha5.len fun i f u e1 e2 => (ha5.at_ i f u e1 e2).ext (Ext.new hc3)
    · rw [Bool.not_eq_true] at hw
      rw [hw]
      walk_at "L"
      have := drawn_leafW (ρ := Loc.set (argLoc [.ref dk, .int ((d + 1 : Nat) : Int)]) 2 (.int w)) (C := C) (n := n + (d + 1) + 1) (Q := Q) (d := d + 1) rfl w0 w1 hl2 hd1 b2 q
      simp (decide := true) only [ee_none, ee_bool, ee_int, ee_str, ee_var, ee_con, ee_bin, ee_neg, ee_cmp, ee_andv, ee_orv, ee_ite, ee_attr, ee_call, ee_lzip, ee_meth, ee_sub, ee_slice, ee_tuple, ee_list, ee_dict0, ee_dict, ee_comp, el_nil, el_cons, ed_nil, ed_kv, et_val, et_no, et_and, et_or, et_true, et_false, et_ite, et_cmp, et_in, et_notin, kk_pass, kk_expr, kk_set, kk_setA, kk_setI, kk_unpack, kk_swap, kk_if, kk_while, kk_for, kk_ret, kk_ret0, kk_nil, kk_seq, q_next, q_ret, r_next, r_ret, l_next, l_ret, a_one, a_many, in_zero, in_succ, partW, setAll_cons, setAll_nil, argLoc, Loc.set, List.map_nil, List.map_cons, List.nil_append, List.cons_append, List.append_nil, List.getElem?_cons_zero, List.getElem?_cons_succ, Option.some.injEq, exists_eq_left', Bool.false_eq_true, if_true, if_false, reduceIte, V.bool.injEq, V.int.injEq, V.str.injEq, V.ref.injEq, Bool.not_true, Bool.not_false, reduceCtorEq, onV_some, cond_true, cond_false, Nat.reduceBEq, decide_true, decide_false] at this
      exact this
end
end N226
end
noncomputable section
open PySem PySem.W PySem.Calls PyProof.Rows
set_option maxRecDepth 10000
namespace N226
section
variable {C : Cx} {n : Nat} {ρ : Loc} {H : MH}
noncomputable def NM : List Str := [s_under, s_a, s_b, s_t, s_let, s_x, s_syntax_rules, s_m]
theorem nodup_le {α : Type} [DecidableEq α] {xs : List α} (h : xs.Nodup) : ∀ {ys : List α}, (∀ x ∈ xs, x ∈ ys) → xs.length ≤ ys.length := by
  induction xs with
  | nil => intro ys _; simp
  | cons x xs ih =>
    intro ys hs
    rw [List.nodup_cons] at h
    have hx := hs x (by simp)
    have := ih h.2 (ys := ys.erase x) (fun y hy => by
      have hne : y ≠ x := fun e => h.1 (e ▸ hy)
      exact (List.mem_erase_of_ne hne).mpr (hs y (List.mem_cons_of_mem _ hy)))
    rw [List.length_erase_of_mem hx] at this
    have := List.length_pos_of_mem hx
    simp; walk_at "O"
structure Wk (H : MH) (W : Wd) (σ : Syms) (k : Int) : Prop where
  wld : Wld H W σ k
  nm : ∀ p ∈ σ, p.1 ∈ NM
theorem Wk.ext {H' : MH} {W : Wd} {σ : Syms} {k : Int} (h : Wk H W σ k) (x : Ext H H') : Wk H' W σ k := ⟨h.wld.ext x, h.nm⟩
theorem Wk.len {W : Wd} {σ : Syms} {k : Int} (h : Wk H W σ k) : σ.length ≤ 8 := by
  have := nodup_le h.wld.nodup (ys := NM) (fun x hx => by
    obtain ⟨p, hp, rfl⟩ := List.mem_map.mp hx
    exact h.nm p hp)
  simpa [NM] using this
theorem Wk.dict {W : Wd} {σ : Syms} {k : Int} (h : Wk H W σ k) {f : Nat → V → Prop} : ∃ es ep, H W.d = some (.dict es ep) := by
  obtain ⟨ep, e⟩ := h.wld.text
  exact ⟨_, ep, e⟩
theorem Wk.away {W : Wd} {σ : Syms} {k : Int} (h : Wk H W σ k) : Away H (· = W.r) [W.r, W.d] := by
  intro m hm
  simp at hm
  rcases hm with rfl | rfl
  · exact .inr (.inr ⟨rfl, _, h.wld.rows⟩)
  · obtain ⟨ep, e⟩ := h.wld.text
    exact .inl ⟨_, ep, e⟩
theorem Wk.list {W : Wd} {σ : Syms} {k : Int} (h : Wk H W σ k) : ∃ xs, H W.r = some (.list xs) := ⟨_, h.wld.rows⟩
theorem Wk.new {W : Wd} {σ : Syms} {k : Int} (h : Wk H W σ k) {c : Addr} (hc : H c = none) : c ∉ [W.r, W.d] := by
  obtain ⟨ep, e⟩ := h.wld.text
  simp only [List.mem_cons, List.not_mem_nil, or_false, not_or]
  exact ⟨(ne_new h.wld.rows hc).symm, (ne_new e hc).symm⟩
theorem wc_sym (F : Fit C) {W : Wd} {σ : Syms} {k : Int} {t : Str} {Q : V → MH → Prop} (hw : Wk H W σ k) (ht : t ∈ NM)
    (q : ∀ c τ H', But [W.r, W.d] H H' → Wk H' W (σ ++ τ) k → (σ ++ τ).lookup t = some c → Q (.ref c) H') : WC C (n + 4) (.ref f_Names_symbol) [.ref W.w, .str t] H Q :=
  wc_symbol F hw.wld (Nat.le_trans hw.len (by decide)) fun c τ H' b h' hl hτ hn => q c τ H' b ⟨h', fun p hp => by
    rcases List.mem_append.mp hp with hp | hp
    · exact hw.nm p hp
    · rw [hn p hp]; exact ht⟩ hl
theorem Wk.meth (F : Fit C) {W : Wd} {σ : Syms} {k : Int} (hw : Wk H W σ k) {Q : V → List V → Prop} (q : Q (.ref f_Names_symbol) [.ref W.w]) : methW C n_symbol (.ref W.w) H Q := by
  obtain ⟨ti, op, hn⟩ := hw.wld.names
  exact meth_at F hn (by decide) rfl q
noncomputable def Ls (σ : Syms) : Lf → V → Prop
  | .name s, v => ∃ c, σ.lookup s = some c ∧ v = .ref c
  | .int i, v => v = .int i
  | .fin, v => v = .ref a_EMPTY
theorem Ls.more {σ τ : Syms} {x : Lf} {v : V} (h : Ls σ x v) : Ls (σ ++ τ) x v := by
  cases x with
  | name s => obtain ⟨c, e, e'⟩ := h; exact ⟨c, by rw [List.lookup_append, e]; rfl, e'⟩
  | int i => exact h
  | fin => exact h
theorem okL_nm {s : Str} (h : okL (.name s)) : s ∈ NM := by
  rcases h with rfl | rfl | rfl | rfl | rfl <;> decide
theorem okT_nm {s : Str} (h : okT (.name s)) : s ∈ NM := by
  rcases h with rfl | rfl <;> decide
noncomputable def Datum (C : Cx) (n d : Nat) : Prop := ∀ {H : MH} {W : Wd} {σ : Syms} {k : Int} {f : Fm} {v : V} {Q : V → MH → Prop}, Ok d f → FormIs H f v → Wk H W σ k →
  (∀ u τ H', But [W.r, W.d] H H' → Wk H' W (σ ++ τ) k → Shape H' (· = W.r) (Ls (σ ++ τ)) f u → Q u H') → WC C n (.ref f_law_datum) [v, .ref W.w] H Q
theorem Wk.form {W : Wd} {σ : Syms} {k : Int} (h : Wk H W σ k) {H' : MH} (b : But [W.r, W.d] H H') {f : Fm} {v : V} (x : FormIs H f v) : FormIs H' f v :=
  x.but (M := [W.r, W.d]) (fun m hm us e => by
    simp at hm
    obtain ⟨ep, e2⟩ := h.wld.text
    rcases hm with rfl | rfl
    · rw [h.wld.rows] at e; cases e
    · rw [e2] at e; cases e) b
theorem Wk.tup {W : Wd} {σ : Syms} {k : Int} (h : Wk H W σ k) {H' : MH} (b : But [W.r, W.d] H H') {a : Addr} {vs : List V} (x : H a = some (.tuple vs)) : H' a = some (.tuple vs) := by
  obtain ⟨ep, e2⟩ := h.wld.text
  refine b a _ x ?_
  simp only [List.mem_cons, List.not_mem_nil, or_false, not_or]
  exact ⟨ne_of x h.wld.rows (fun e => by cases e), ne_of x e2 (fun e => by cases e)⟩
theorem Wk.shape {W : Wd} {σ τ : Syms} {k : Int} (h : Wk H W σ k) {H' : MH} (b : But [W.r, W.d] H H') {f : Fm} {v : V} (x : Shape H (· = W.r) (Ls σ) f v) : Shape H' (· = W.r) (Ls (σ ++ τ)) f v :=
  x.but h.away b fun _ _ e => e.more
theorem datum_comp {d : Nat} {W : Wd} {p : Addr} {us : List V} {fs : List Fm} {k : Int} {Q : List V → MH → Prop} (F : Fit C) (hD : Datum C n d) (h1 : ρ 1 = some (.ref W.w)) (hlen : fs.length = us.length) (h4 : fs.length ≤ 4) (ho : ∀ f ∈ fs, Ok d f) :
    ∀ (m i : Nat) (vs : List V) (σ : Syms) (H H0 : MH), i + m = fs.length → H p = some (.tuple us) → (∀ (i : Nat) f w, fs[i]? = some f → us[i]? = some w → FormIs H f w) → Wk H W σ k → But [W.r, W.d] H0 H → All2 (Shape H (· = W.r) (Ls σ)) (fs.take i) vs →
      (∀ vs' τ H', But [W.r, W.d] H0 H' → Wk H' W (σ ++ τ) k → All2 (Shape H' (· = W.r) (Ls (σ ++ τ))) fs vs' → Q vs' H') →
      CP C n (.call (.con (.ref f_law_datum)) (.cons (.var 0) (.cons (.var 2) .nil))) .ttrue ρ Q (.tup p i) vs H := by
  intro m
  induction m with
  | zero =>
    intro i vs σ H H0 hi hp hf hw b ha q
    refine CP.done (by simp only [Src.item, hp]; rw [List.getElem?_eq_none (by walk_at "O")]) ?_
    have := q vs [] H b (by simpa using hw)
    simp only [List.append_nil] at this
    rw [List.take_of_length_le (by walk_at "O")] at ha
    exact this ha
  | succ m ih =>
    intro i vs σ H H0 hi hp hf hw b ha q
    have h1i : i < fs.length := by walk_at "O"
    have h2i : i < us.length := by walk_at "O"
    refine CP.item (v := us[i]) (by simp only [Src.item, hp]; rw [List.getElem?_eq_getElem h2i]) ?_
    wide_open using (h1, h1)
    refine ⟨F.law_datum.can, hD (ho fs[i] (List.getElem_mem h1i)) (hf i _ _ (List.getElem?_eq_getElem h1i) (List.getElem?_eq_getElem h2i)) hw fun u τ H' b' hw' hs => ?_⟩
    refine ⟨by rw [← ha.len, List.length_take]; exact Nat.le_trans (m := 4) (by walk_at "O") (by decide), ?_⟩
    have e : (Src.tup p i).next = .tup p (i + 1) := rfl
    rw [e]
    refine ih (i + 1) (vs ++ [u]) (σ ++ τ) H' H0 (by walk_at "O") (hw.tup b' hp) (fun j f w e1 e2 => hw.form b' (hf j f w e1 e2)) hw' (b.trans b') ?_ fun vs' τ' H'' b'' hw'' ha'' => ?_
    · rw [List.take_succ_eq_append_getElem h1i]
      exact (ha.mono fun f _ w hs => hw.shape b' hs).snoc hs
    · rw [List.append_assoc] at hw'' ha''
      exact q vs' (τ ++ τ') H'' b'' hw'' ha''
theorem is_none_str {s : Str} {Q : V → MH → Prop} (q : Q (.bool false) H) : cmpW .Is (.str s) .none H Q := ⟨trivial, q⟩
theorem is_none_none {Q : V → MH → Prop} (q : Q (.bool true) H) : cmpW .Is .none .none H Q := ⟨trivial, q⟩
theorem datum_leaf (F : Fit C) {W : Wd} {σ : Syms} {k : Int} {x : Lf} {Q : V → MH → Prop} (hx : okL x) (hw : Wk H W σ k)
    (q : ∀ u τ H', But [W.r, W.d] H H' → Wk H' W (σ ++ τ) k → Ls (σ ++ τ) x u → Q u H') : WC C (n + 5) (.ref f_law_datum) [lfV x, .ref W.w] H Q := by
  refine F.law_datum.on F rfl ?_
  cases x with
  | fin => cases hx
  | name s =>
    unfold k_law_datum
    wide_open using (lfV, lfV)
    refine ⟨Callable_bi, WC_isi_s rfl ⟨true, rfl, ?_⟩⟩
    walk_at "L"
    refine hw.meth F ⟨F.Names_symbol.can, wc_sym F hw (okL_nm hx) fun c τ H' b hw' hl => q (.ref c) τ H' b hw' ⟨c, hl, rfl⟩⟩
  | int i =>
    unfold k_law_datum
    wide_open using (lfV, lfV)
    refine ⟨Callable_bi, WC_isi_i rfl ⟨false, rfl, ?_⟩⟩
    walk_at "L"
    refine ⟨Callable_bi, WC_isi_i rfl ⟨false, rfl, ?_⟩⟩
    walk_at "L"
    exact q (.int i) [] H Ext.refl.but (by simpa using hw) rfl
set_option tactic.hygienic true in
theorem datum_all (F : Fit C) : ∀ (d : Nat), Datum C (n + d + 5) d := by
  intro d
  induction d with
  | zero =>
    intro H W σ k f v Q ho hf hw q
    obtain ⟨x, rfl, hx⟩ := ho
    cases hf
    exact datum_leaf F hx hw fun u τ H' b hw' hl => q u τ H' b hw' (.lf hl)
  | succ d ih =>
    intro H W σ k f v Q ho hf hw q
    rcases ho with ⟨x, rfl, hx⟩ | ⟨fs, tl, rfl, hne, h4, ht, ho⟩ | ⟨fs, rfl, hne, h4, ho⟩
    · cases hf
      exact datum_leaf F hx hw fun u τ H' b hw' hl => q u τ H' b hw' (.lf hl)
    · cases hf with
      | lst z1 z2 z3 ha hp hlen hf =>
      rename_i a p us
      refine F.law_datum.on F rfl ?_
      unfold k_law_datum
      walk_at "L"
      refine ⟨Callable_bi, WC_isi_ts ha ⟨false, rfl, ?_⟩⟩
      walk_at "L"
      refine ⟨Callable_bi, WC_isi_tt ha ⟨true, rfl, ?_⟩⟩
      walk_at "L"
      refine sub_tuple ha (by decide) (by decide) (v := .ref p) rfl ⟨_, iter_tuple hp, ?_⟩
      refine datum_comp F ih rfl hlen h4 ho fs.length 0 [] σ H H (by walk_at "O") hp hf hw Ext.refl.but (by simpa using All2.nil) fun vs τ H1 b1 hw1 ha1 l hl => ?_
      have hw2 := hw1.ext (Ext.new (o := .list vs) hl)
      have b2 := b1.trans (M := [W.r, W.d]) (Ext.new (o := .list vs) hl).but
      walk_at "L"
      refine sub_tuple (hw.tup b2 ha) (by decide) (by decide) (v := .str s_list) rfl ?_
      refine cmp_eq_str ⟨_, rfl, ?_⟩
      walk_at "L"
      refine sub_tuple (hw.tup b2 ha) (by decide) (by decide) (v := lfV tl) rfl ?_
      have fin : ∀ (t : V) (τ' : Syms) (H3 : MH), But [W.r, W.d] (H1.set l (.list vs)) H3 → Wk H3 W (σ ++ (τ ++ τ')) k → Ls (σ ++ (τ ++ τ')) tl t → WC C (n + (d + 1) + 4) (.ref f_list_of) [.ref l, t] H3 Q := by
        intro t τ' H3 b3 hw3 hlt
        have ha3 : All2 (Shape H3 (· = W.r) (Ls (σ ++ (τ ++ τ')))) fs vs := by
          rw [← List.append_assoc]
          exact ha1.mono fun f _ w hs => (hw1.ext (Ext.new (o := .list vs) hl)).shape (τ := τ') b3 (hs.ext (Ext.new hl))
        refine wc_list_of F (t := t) (b3 _ _ (MH.set_self _ _ _) (hw1.new hl)) (by rw [← ha1.len]; exact Nat.le_trans h4 (by decide)) fun v' H4 x hc _ => ?_
        refine q v' (τ ++ τ') H4 ((b2.trans b3).trans x.but) (hw3.ext x) (.lst hc ha3.len (fun i f w e1 e2 => (ha3.at_ i f w e1 e2).ext x) hlt)
      cases tl with
      | int i => cases ht
      | fin =>
        refine is_none_none ⟨true, rfl, ?_⟩
        walk_at "L"
        exact ⟨F.list_of.can, fin _ [] _ Ext.refl.but (by simpa using hw2) rfl⟩
      | name s =>
        refine is_none_str ⟨false, rfl, ?_⟩
        walk_at "L"
        refine hw2.meth F ?_
        refine sub_tuple (hw.tup b2 ha) (by decide) (by decide) (v := .str s) rfl ?_
        refine ⟨F.Names_symbol.can, wc_sym F hw2 (okT_nm ht) fun c τ' H3 b3 hw3 hlk => ?_⟩
        rw [List.append_assoc] at hw3 hlk
        exact ⟨F.list_of.can, fin _ τ' _ b3 hw3 ⟨c, hlk, rfl⟩⟩
    · cases hf with
      | vec z1 z2 ha hp hlen hf =>
      rename_i a p us
      refine F.law_datum.on F rfl ?_
      unfold k_law_datum
      walk_at "L"
      refine ⟨Callable_bi, WC_isi_ts ha ⟨false, rfl, ?_⟩⟩
      walk_at "L"
      refine ⟨Callable_bi, WC_isi_tt ha ⟨true, rfl, ?_⟩⟩
      walk_at "L"
      refine sub_tuple ha (by decide) (by decide) (v := .ref p) rfl ⟨_, iter_tuple hp, ?_⟩
      refine datum_comp F ih rfl hlen h4 ho fs.length 0 [] σ H H (by walk_at "O") hp hf hw Ext.refl.but (by simpa using All2.nil) fun vs τ H1 b1 hw1 ha1 l hl => ?_
      have hw2 := hw1.ext (Ext.new (o := .list vs) hl)
      have b2 := b1.trans (M := [W.r, W.d]) (Ext.new (o := .list vs) hl).but
      walk_at "L"
      refine sub_tuple (hw.tup b2 ha) (by decide) (by decide) (v := .str s_vector) rfl ?_
      refine cmp_eq_str ⟨_, rfl, ?_⟩
      walk_at "L"
      refine ⟨F.cVector.can, mk_Vector F fun c H3 x hc0 hc1 => ?_⟩
      have ha3 : All2 (Shape H3 (· = W.r) (Ls (σ ++ τ))) fs vs := ha1.mono fun f _ w hs => (hs.ext (Ext.new hl)).ext x
      have hnl := hw1.new hl
      simp only [List.mem_cons, List.not_mem_nil, or_false, not_or] at hnl
      exact q (.ref c) τ H3 (b2.trans x.but) (hw2.ext x) (.vec hc1 (x _ _ (MH.set_self _ _ _)) hnl.1 ha3.len fun i f w e1 e2 => ha3.at_ i f w e1 e2)
end
end N226
end
noncomputable section
open PySem PySem.W PySem.Calls PyProof.Rows
set_option maxRecDepth 10000
namespace N226
section
variable {C : Cx} {n : Nat} {ρ : Loc} {H : MH}
theorem But.ext {M : List Addr} {H' : MH} (b : But M H H') (h : ∀ m ∈ M, H m = none) : Ext H H' := fun a o e => b a o e fun q => by
  rw [h a q] at e; cases e
theorem mk_Names (F : Fit C) {Q : V → MH → Prop} (q : ∀ W H', Ext H H' → H W.w = none → H W.r = none → H W.d = none → Wk H' W [] 0 → Q (.ref W.w) H') : WC C (n + 4) (.ref c_Names) [] H Q := by
  refine F.cNames.on F F.Names_init rfl fun c hc => ?_
  unfold k_Names_init
  walk_at "L"
  refine ⟨F.cSymbolTable.can, mk_SymbolTable F fun tb r d H1 x1 ht hr hd e1 e2 e3 => ?_⟩
  have hc1 : H1 c = some (.inst c_Names []) := x1 _ _ (MH.set_self _ _ _)
  have x0 : But [c] H H1 := (But.set (by simp)).trans x1.but
  have ntc : tb ≠ c := (ne_new (MH.set_self _ _ _) ht).symm
  have nrc : r ≠ c := (ne_new (MH.set_self _ _ _) hr).symm
  have ndc : d ≠ c := (ne_new (MH.set_self _ _ _) hd).symm
  rw [MH.set_ne _ _ nrc] at hr
  rw [MH.set_ne _ _ ndc] at hd
  refine put_at F hc1 (by decide) (by simp) ?_
  refine put_at F (MH.set_self _ _ _) (by decide) (by first | exact putF_0 () | exact putF_1 _ _ () | exact putF_2 _ _ _ _ () | exact putF_3 _ _ _ _ _ _ () | exact putF_4 _ _ _ _ _ _ _ _ ()) ?_
  simp only [set_set]
  intro ti hti
  have nti : ti ≠ c := (ne_new (MH.set_self _ _ _) hti).symm
  rw [MH.set_ne _ _ nti] at hti
  refine put_at F (fs := putF n_last (.int 0) (putF n_table (.ref tb) [])) (Cl := c_Names) (by rw [MH.set_ne _ _ nti.symm]; exact MH.set_self _ _ _) (by decide) (by first | exact putF_0 () | exact putF_1 _ _ () | exact putF_2 _ _ _ _ () | exact putF_3 _ _ _ _ _ _ () | exact putF_4 _ _ _ _ _ _ _ _ ()) ?_
  intro op hop
  have nop : op ≠ c := (ne_new (MH.set_self _ _ _) hop).symm
  rw [MH.set_ne _ _ nop] at hop
  have nopti : op ≠ ti := (ne_new (MH.set_self _ _ _) hop).symm
  rw [MH.set_ne _ _ nopti, MH.set_ne _ _ nop] at hop
  refine put_at F (fs := putF n_titles (.ref ti) (putF n_last (.int 0) (putF n_table (.ref tb) []))) (Cl := c_Names) (by rw [MH.set_ne _ _ nop.symm]; exact MH.set_self _ _ _) (by decide) (by first | exact putF_0 () | exact putF_1 _ _ () | exact putF_2 _ _ _ _ () | exact putF_3 _ _ _ _ _ _ () | exact putF_4 _ _ _ _ _ _ _ _ ()) ?_
  refine put_at F (MH.set_self _ _ _) (by decide) (by first | exact putF_0 () | exact putF_1 _ _ () | exact putF_2 _ _ _ _ () | exact putF_3 _ _ _ _ _ _ () | exact putF_4 _ _ _ _ _ _ _ _ ()) ?_
  simp only [set_set]
  have keep : ∀ a o, H1 a = some o → a ≠ c → ((((H1.set c (.inst c_Names (putF n_last (.int 0) (putF n_table (.ref tb) [])))).set ti (.dict [] 0)).set c (.inst c_Names (putF n_titles (.ref ti) (putF n_last (.int 0) (putF n_table (.ref tb) []))))).set op (.dict [] 0)).set c (.inst c_Names (putF n_root .none (putF n_ops (.ref op) (putF n_titles (.ref ti) (putF n_last (.int 0) (putF n_table (.ref tb) [])))))) a = some o := fun a o e ne => by
    rw [MH.set_ne _ _ ne, MH.set_ne _ _ (ne_new e hop), MH.set_ne _ _ ne, MH.set_ne _ _ (ne_new e hti), MH.set_ne _ _ ne]; exact e
  walk_at "L"
  refine ⟨trivial, q ⟨c, tb, r, d⟩ _ (fun a o e => keep a o (x0 a o e (by simp; exact ne_new e hc)) (ne_new e hc)) hc hr hd ⟨⟨⟨ti, op, MH.set_self _ _ _⟩, keep _ _ e1 ntc, keep _ _ e2 nrc, ⟨0, keep _ _ e3 ndc⟩, fun i p e => by simp at e, by simp⟩, fun p hp => nomatch hp⟩⟩
structure Base (H : MH) : Prop where
  emp : H a_EMPTY = some (.cinst c_Special_data)
  nothing : H a_NOTHING = some (.tuple [.int 3, .ref a_EMPTY])
theorem Base.ext {H' : MH} (h : Base H) (x : Ext H H') : Base H' := ⟨x _ _ h.emp, x _ _ h.nothing⟩
theorem Base.but {H' : MH} (h : Base H) {M : List Addr} {B : Addr → Prop} (hm : Away H B M) (b : But M H H') : Base H' :=
  ⟨b _ _ h.emp (hm.out h.emp (fun _ _ e => by cases e) (fun _ e => by cases e) (.inl fun _ e => by cases e)), b _ _ h.nothing (hm.out h.nothing (fun _ _ e => by cases e) (fun _ e => by cases e) (.inl fun _ e => by cases e))⟩
theorem Base.inst (h : Base H) : instOf H a_EMPTY = some c_Special_data := by unfold instOf; simp only [h.emp]
theorem isnot_emp (h : Base H) {Q : V → MH → Prop} (q : Q (.bool false) H) : cmpW .IsNot (.ref a_EMPTY) (.ref a_EMPTY) H Q := ⟨isW_ref ⟨_, h.inst⟩ ⟨_, h.inst⟩, by simpa using q⟩
theorem is_emp (h : Base H) {Q : V → MH → Prop} (q : Q (.bool true) H) : cmpW .Is (.ref a_EMPTY) (.ref a_EMPTY) H Q := ⟨isW_ref ⟨_, h.inst⟩ ⟨_, h.inst⟩, by simpa using q⟩
theorem is_not_emp (h : Base H) {a D : Addr} (ha : instOf H a = some D) (hD : D ≠ c_Special_data) {Q : V → MH → Prop} (q : Q (.bool false) H) : cmpW .Is (.ref a) (.ref a_EMPTY) H Q :=
  ⟨isW_ref ⟨_, ha⟩ ⟨_, h.inst⟩, by
    have : a ≠ a_EMPTY := fun e => by rw [e, h.inst] at ha; exact hD (Option.some.inj ha).symm
    simpa [this] using q⟩
theorem isnot_not_emp (h : Base H) {a D : Addr} (ha : instOf H a = some D) (hD : D ≠ c_Special_data) {Q : V → MH → Prop} (q : Q (.bool true) H) : cmpW .IsNot (.ref a) (.ref a_EMPTY) H Q :=
  ⟨isW_ref ⟨_, ha⟩ ⟨_, h.inst⟩, by
    have : a ≠ a_EMPTY := fun e => by rw [e, h.inst] at ha; exact hD (Option.some.inj ha).symm
    simpa [this] using q⟩
theorem Base.np (h : Base H) : NotPair H (.ref a_EMPTY) := .inl ⟨_, c_Special_data, rfl, by unfold instOf; simp only [h.emp], by decide⟩
structure Sc (H : MH) (s : Addr) (d0 d1 : Addr) : Prop where
  at_ : ∃ s0, H s = some (.inst c_Scope [(n_parent, .ref s0), (n_names, .ref d1)]) ∧ H s0 = some (.inst c_Scope [(n_parent, .none), (n_names, .ref d0)])
  e0 : ∃ ep, H d0 = some (.dict [] ep)
  e1 : ∃ ep, H d1 = some (.dict [] ep)
theorem Sc.ext {H' : MH} {s d0 d1 : Addr} (h : Sc H s d0 d1) (x : Ext H H') : Sc H' s d0 d1 := by
  obtain ⟨⟨s0, a, b⟩, ⟨ep, c⟩, ⟨ep', d⟩⟩ := h
  exact ⟨⟨s0, x _ _ a, x _ _ b⟩, ⟨ep, x _ _ c⟩, ⟨ep', x _ _ d⟩⟩
theorem Sc.but {H' : MH} {s d0 d1 : Addr} (h : Sc H s d0 d1) {M : List Addr} {B : Addr → Prop} (hm : Away H B M) (h0 : d0 ∉ M) (h1 : d1 ∉ M) (b : But M H H') : Sc H' s d0 d1 := by
  obtain ⟨⟨s0, e1, e2⟩, ⟨ep, c⟩, ⟨ep', d⟩⟩ := h
  exact ⟨⟨s0, b _ _ e1 (hm.out e1 (fun _ _ e => by cases e) (fun _ e => by injection e with e; revert e; decide) (.inl fun _ e => by cases e)), b _ _ e2 (hm.out e2 (fun _ _ e => by cases e) (fun _ e => by injection e with e; revert e; decide) (.inl fun _ e => by cases e))⟩, ⟨ep, b _ _ c h0⟩, ⟨ep', b _ _ d h1⟩⟩
theorem isnot_none_ref {a : Addr} {Q : V → MH → Prop} (q : Q (.bool true) H) : cmpW .IsNot (.ref a) .none H Q := ⟨trivial, by simpa using q⟩
theorem isnot_none_none {Q : V → MH → Prop} (q : Q (.bool false) H) : cmpW .IsNot .none .none H Q := ⟨trivial, by simpa using q⟩
theorem is_none_ref {a : Addr} {Q : V → MH → Prop} (q : Q (.bool false) H) : cmpW .Is (.ref a) .none H Q := ⟨trivial, by simpa using q⟩
theorem wc_bound (F : Fit C) {s d0 d1 a : Addr} {i : Int} {t : Str} {Q : V → MH → Prop} (hs : Sc H s d0 d1) (ha : H a = some (.inst c_Symbol (symFs i t))) (q : Q .none H) : WC C (n + 2) (.ref f_Scope_bound) [.ref s, .ref a] H Q := by
  obtain ⟨⟨s0, e1, e2⟩, ⟨ep, c⟩, ⟨ep', d⟩⟩ := hs
  refine F.Scope_bound.on F rfl ?_
  unfold k_Scope_bound
  walk_at "L"
  refine ⟨F.key_of.can, wc_key_of_sym F ha ?_⟩
  refine WH.turn ?_
  walk_at "L"
  refine isnot_none_ref ⟨true, rfl, ?_⟩
  walk_at "L"
  refine attr_at F e1 (by decide) rfl rfl ?_
  refine bi_dict d ⟨Callable_bi, WC_get2 d rfl ?_⟩
  walk_at "L"
  refine isnot_none_none ⟨false, rfl, ?_⟩
  walk_at "L"
  refine attr_at F e1 (by decide) rfl rfl ?_
  refine WH.turn ?_
  walk_at "L"
  refine isnot_none_ref ⟨true, rfl, ?_⟩
  walk_at "L"
  refine attr_at F e2 (by decide) rfl rfl ?_
  refine bi_dict c ⟨Callable_bi, WC_get2 c rfl ?_⟩
  walk_at "L"
  refine isnot_none_none ⟨false, rfl, ?_⟩
  walk_at "L"
  refine attr_at F e2 (by decide) rfl rfl ?_
  refine WH.turn ?_
  walk_at "L"
  refine isnot_none_none ⟨false, rfl, ?_⟩
  walk_at "L"
  exact q
theorem wc_find (F : Fit C) {s d0 d1 a : Addr} {i : Int} {t : Str} {Q : V → MH → Prop} (hs : Sc H s d0 d1) (ha : H a = some (.inst c_Symbol (symFs i t))) (q : ∀ c H', Ext H H' → H' c = some (.inst c_GlobalName [(n_symbol, .ref a)]) → Q (.ref c) H') : WC C (n + 3) (.ref f_Scope_find) [.ref s, .ref a] H Q := by
  obtain ⟨s0, e1, e2⟩ := hs.at_
  refine F.Scope_find.on F rfl ?_
  unfold k_Scope_find
  walk_at "L"
  refine meth_at F e1 (by decide) rfl ⟨F.Scope_bound.can, wc_bound F hs ha ?_⟩
  refine WH.turn ?_
  walk_at "L"
  refine is_none_none ⟨true, rfl, ?_⟩
  walk_at "L"
  refine isi_no F (D := c_Symbol) (by unfold instOf; simp only [ha]) (by decide) ⟨false, rfl, ?_⟩
  walk_at "L"
  refine is_none_none ⟨true, rfl, ?_⟩
  walk_at "L"
  exact ⟨F.cGlobalName.can, mk_GlobalName F fun c H' x _ hc => q c H' x hc⟩
theorem wc_is_rules_word (F : Fit C) {s d0 d1 a : Addr} {i : Int} {Q : V → MH → Prop} (hs : Sc H s d0 d1) (ha : H a = some (.inst c_Symbol (symFs i s_syntax_rules))) (q : ∀ H', Ext H H' → Q (.bool true) H') : WC C (n + 4) (.ref f_is_rules_word) [.ref a, .ref s] H Q := by
  obtain ⟨s0, e1, e2⟩ := hs.at_
  refine F.is_rules_word.on F rfl ?_
  unfold k_is_rules_word
  walk_at "L"
  refine ⟨F.is_named.can, wc_is_named_sym F ha ⟨true, rfl, ?_⟩⟩
  walk_at "L"
  refine meth_at F e1 (by decide) rfl ⟨F.Scope_find.can, wc_find F hs ha fun c H' x hc => ?_⟩
  exact isi_yes F (by unfold instOf; simp only [hc]) (by decide) (q H' x)
theorem wc_is_ellipsis_sym (F : Fit C) {a : Addr} {i : Int} {t : Str} {Q : V → MH → Prop} (ha : H a = some (.inst c_Symbol (symFs i t))) (ht : t ≠ s_dots) (q : Q (.bool false) H) : WC C (n + 3) (.ref f_is_ellipsis) [.ref a] H Q := by
  refine F.is_ellipsis.on F rfl ?_
  unfold k_is_ellipsis
  walk_at "L"
  exact ⟨F.is_named.can, wc_is_named_sym F ha (by simpa [ht] using q)⟩
theorem wc_is_ellipsis_no (F : Fit C) {a D : Addr} {Q : V → MH → Prop} (h : instOf H a = some D) (hD : (D, c_Symbol) ∈ ISN) (hD' : (D, c_Alias) ∈ ISN) (q : Q (.bool false) H) : WC C (n + 3) (.ref f_is_ellipsis) [.ref a] H Q := by
  refine F.is_ellipsis.on F rfl ?_
  unfold k_is_ellipsis
  walk_at "L"
  exact ⟨F.is_named.can, wc_is_named_no F h hD hD' q⟩
theorem wc_is_ellipsis_int (F : Fit C) {i : Int} {Q : V → MH → Prop} (q : Q (.bool false) H) : WC C (n + 3) (.ref f_is_ellipsis) [.int i] H Q := by
  refine F.is_ellipsis.on F rfl ?_
  unfold k_is_ellipsis
  walk_at "L"
  exact ⟨F.is_named.can, wc_is_named_int F q⟩
theorem wc_literal_keys (F : Fit C) {Q : V → MH → Prop} (hb : Base H) (q : ∀ l H', Ext H H' → H l = none → H' l = some (.list []) → Q (.ref l) H') : WC C (n + 4) (.ref f_literal_keys) [.ref a_EMPTY] H Q := by
  refine F.literal_keys.on F rfl ?_
  unfold k_literal_keys
  walk_at "L"
  refine ⟨F.split_list.can, wc_split_list F (v := .ref a_EMPTY) (t := .ref a_EMPTY) (xs := []) rfl hb.np (fun _ h => nomatch h) (by simp) fun c l H' x hl hc h1 h2 => ?_⟩
  refine ⟨c, _, rfl, h1, rfl, ?_⟩
  walk_at "L"
  have hb' := hb.ext x
  refine isnot_emp hb' ⟨false, rfl, ?_⟩
  walk_at "L"
  refine ⟨_, iter_list h2, FR.done (by simp only [Src.item, h2]; rfl) ?_⟩
  walk_at "L"
  exact q l H' x hl h2
end
end N226
end
noncomputable section
open PySem PySem.W PySem.Calls PyProof.Rows
set_option maxRecDepth 10000
namespace N226
section
variable {C : Cx} {n : Nat} {ρ : Loc} {H : MH}
theorem atKey_nil {k : V} : atKeyV [] k = none := rfl
theorem atKey_cons {e : V × V} {es : List (V × V)} {k : V} : atKeyV (e :: es) k = if e.1 = k then some e.2 else atKeyV es k := by
  unfold atKeyV
  by_cases h : e.1 = k <;> simp [h]
theorem atKey_none {es : List (V × V)} {k : V} : atKeyV es k = none ↔ k ∉ es.map (·.1) := by
  induction es with
  | nil => simp [atKey_nil]
  | cons e es ih =>
    rw [atKey_cons]
    by_cases h : e.1 = k
    · simp [h]
    · rw [if_neg h, ih]
      simp only [List.map_cons, List.mem_cons, not_or]
      exact ⟨fun q => ⟨fun x => h x.symm, q⟩, fun q => q.2⟩
theorem any_key {es : List (V × V)} {k : V} : es.any (fun kv => decide (kv.1 = k)) = (atKeyV es k).isSome := by
  induction es with
  | nil => rfl
  | cons e es ih =>
    rw [atKey_cons, List.any_cons, ih]
    by_cases h : e.1 = k <;> simp [h]
theorem atKey_app {es fs : List (V × V)} {k : V} : atKeyV (es ++ fs) k = (atKeyV es k).or (atKeyV fs k) := by
  induction es with
  | nil => simp [atKey_nil]
  | cons e es ih =>
    rw [List.cons_append, atKey_cons, atKey_cons, ih]
    by_cases h : e.1 = k <;> simp [h]
theorem putV_new {es : List (V × V)} {k v : V} (h : atKeyV es k = none) : putV es k v = es ++ [(k, v)] := by
  unfold putV
  rw [any_key, h]; rfl
theorem put_keys {es : List (V × V)} {k v : V} : (putV es k v).map (·.1) = if k ∈ es.map (·.1) then es.map (·.1) else es.map (·.1) ++ [k] := by
  unfold putV
  rw [any_key]
  cases h : atKeyV es k with
  | none => rw [if_neg (atKey_none.mp h)]; simp
  | some x =>
    have : k ∈ es.map (·.1) := Classical.byContradiction fun e => by rw [atKey_none.mpr e] at h; cases h
    rw [if_pos this]
    simp only [Option.isSome_some, if_true, List.map_map]
    refine List.map_congr_left fun e _ => ?_
    simp only [Function.comp]
    split <;> rfl
theorem put_nodup {es : List (V × V)} {k v : V} (h : (es.map (·.1)).Nodup) : ((putV es k v).map (·.1)).Nodup := by
  rw [put_keys]
  split
  · exact h
  · rename_i h1
    rw [List.nodup_append]
    refine ⟨h, by simp, fun a ha b hb => ?_⟩
    simp at hb
    subst hb
    rintro rfl
    exact h1 ha
theorem in_dict {x : Addr} {es : List (V × V)} {ep : Nat} {k : V} {Q : Bool → Prop} (h : H x = some (.dict es ep)) (hk : isKey k = true) (q : Q (atKeyV es k).isSome) : inW (.ref x) k H Q := by
  exact .inl ⟨x, es, ep, rfl, h, hk, q⟩
theorem notin_dict {x : Addr} {es : List (V × V)} {ep : Nat} {k : V} {Q : Bool → Prop} (h : H x = some (.dict es ep)) (hk : isKey k = true) (q : Q (!(atKeyV es k).isSome)) : notinW (.ref x) k H Q := ⟨x, es, ep, rfl, h, hk, q⟩
theorem wc_pname (F : Fit C) {pr kn dd a : Addr} {i : Int} {t : Str} {es : List (V × V)} {ep ep0 : Nat} {Q : V → MH → Prop} (h0 : H pr = some (.inst c_PatternReader [(n_literals, .ref kn), (n_depths, .ref dd)]))
    (h1 : H kn = some (.dict [] ep0)) (h2 : H dd = some (.dict es ep)) (ha : H a = some (.inst c_Symbol (symFs i t))) (ht : t ≠ s_dots) (hk : atKeyV es (.int (2 * i)) = none) (hl : es.length ≤ 100)
    (q : ∀ c ep' H', But [dd] H H' → H' dd = some (.dict (putV es (.int (2 * i)) (.int 0)) ep') → H' c = some (.tuple [.int 1, .int (2 * i)]) → Q (.ref c) H') : WC C (n + 4) (.ref f_PatternReader_name) [.ref pr, .ref a, .int 0] H Q := by
  refine F.PatternReader_name.on F rfl ?_
  unfold k_PatternReader_name
  walk_at "L"
  refine ⟨F.is_ellipsis.can, wc_is_ellipsis_sym F ha ht ⟨false, rfl, ?_⟩⟩
  walk_at "L"
  refine ⟨F.key_of.can, wc_key_of_sym F ha ?_⟩
  refine attr_at F h0 (by decide) rfl rfl ?_
  refine in_dict h1 rfl ?_
  wide_open using (atKey_nil, Option.isSome_none)
  refine attr_at F h0 (by decide) rfl rfl ?_
  refine in_dict h2 rfl ?_
  rw [hk]
  wide_open using (Option.isSome_none, Option.isSome_none)
  refine attr_at F h0 (by decide) rfl rfl ?_
  refine WItm_dict h2 rfl (Nat.le_trans hl (by decide)) fun ep' => ?_
  refine ⟨by show 2 ≤ lim; decide, fun c hc => ?_⟩
  exact q c ep' _ ((But.set (by simp)).trans (Ext.new hc).but) (set_old (MH.set_self _ _ _) hc) (MH.set_self _ _ _)
theorem wc_pnode (F : Fit C) {pr kn dd a : Addr} {i : Int} {t : Str} {es : List (V × V)} {ep ep0 : Nat} {Q : V → MH → Prop} (h0 : H pr = some (.inst c_PatternReader [(n_literals, .ref kn), (n_depths, .ref dd)]))
    (h1 : H kn = some (.dict [] ep0)) (h2 : H dd = some (.dict es ep)) (ha : H a = some (.inst c_Symbol (symFs i t))) (ht : t ≠ s_dots) (hk : atKeyV es (.int (2 * i)) = none) (hl : es.length ≤ 100)
    (q : ∀ c ep' H', But [dd] H H' → H' dd = some (.dict (putV es (.int (2 * i)) (.int 0)) ep') → H' c = some (.tuple [.int 1, .int (2 * i)]) → Q (.ref c) H') : WC C (n + 5) (.ref f_PatternReader_node) [.ref pr, .ref a, .int 0] H Q := by
  refine F.PatternReader_node.on F rfl ?_
  unfold k_PatternReader_node
  walk_at "L"
  refine ⟨F.is_identifier.can, wc_is_identifier_sym F ha ⟨true, rfl, ?_⟩⟩
  walk_at "L"
  exact meth_at F h0 (by decide) rfl ⟨F.PatternReader_name.can, wc_pname F h0 h1 h2 ha ht hk hl q⟩
theorem wc_len2 {l : Addr} {a b : V} {Q : V → MH → Prop} (h : H l = some (.list [a, b])) (q : Q (.int 2) H) : WC C n (.bi "len") [.ref l] H Q := WC_len_list h (by show 2 ≤ lim; decide) q
theorem wc_pparts (F : Fit C) {pr kn dd a b l : Addr} {ia ib : Int} {ep ep0 : Nat} {v : V} {Q : V → MH → Prop} (h0 : H pr = some (.inst c_PatternReader [(n_literals, .ref kn), (n_depths, .ref dd)]))
    (h1 : H kn = some (.dict [] ep0)) (h2 : H dd = some (.dict [] ep)) (ha : H a = some (.inst c_Symbol (symFs ia s_a))) (hb' : H b = some (.inst c_Symbol (symFs ib s_b))) (hab : ia ≠ ib) (hl0 : H l = some (.list [.ref a, .ref b])) (hkd : kn ≠ dd)
    (q : ∀ c ln na nb ep' H', But [dd] H H' → H ln = none → H' dd = some (.dict [(.int (2 * ia), .int 0), (.int (2 * ib), .int 0)] ep') → H' c = some (.tuple [.ref ln, .none]) → H' ln = some (.list [.ref na, .ref nb]) → H' na = some (.tuple [.int 1, .int (2 * ia)]) → H' nb = some (.tuple [.int 1, .int (2 * ib)]) → Q (.ref c) H') :
    WC C (n + 6) (.ref f_PatternReader_parts) [.ref pr, .ref l, .int 0, v] H Q := by
  refine F.PatternReader_parts.on F rfl ?_
  unfold k_PatternReader_parts
  walk_at "L"
  refine ⟨Callable_bi, wc_len2 hl0 ?_⟩
  walk_at "L"
  refine cmp_gt_int ⟨true, rfl, ?_⟩
  walk_at "L"
  refine bin_sub (sub_list hl0 (by decide) (by decide) (v := .ref b) rfl ⟨F.is_ellipsis.can, wc_is_ellipsis_sym F hb' (by decide) ?_⟩)
  refine ⟨false, rfl, ?_⟩
  walk_at "L"
  refine ⟨Callable_ty, WC_range1 fun r hr => ⟨_, iter_rng (MH.set_self _ _ _) (by decide), ?_⟩⟩
  have x2 := Ext.new (o := .rng 0 2 1) hr
  rw [rngCount_up (by decide)]
  refine CP.item (v := .int 0) rfl ?_
  walk_at "L"
  refine meth_at F (f := f_PatternReader_node) (x2 _ _ h0) (by decide) rfl ?_
  refine sub_list (x2 _ _ hl0) (by decide) (by decide) (v := .ref a) rfl ?_
  refine ⟨F.PatternReader_node.can, wc_pnode F (x2 _ _ h0) (x2 _ _ h1) (x2 _ _ h2) (x2 _ _ ha) (by decide) rfl (by decide) fun na ep1 H2 b2 hd2 hna => ?_⟩
  rw [putV_new rfl] at hd2
  have out : ∀ {b : Addr} {o : MO}, H b = some o → (∀ es ep, o ≠ .dict es ep) → b ∉ [dd] := fun e h => by simp; exact ne_of e h2 (h _ _)
  have k2 : ∀ {b : Addr} {o : MO}, H b = some o → b ∉ [dd] → H2 b = some o := fun e h => b2 _ _ (x2 _ _ e) h
  refine ⟨by decide, ?_⟩
  refine CP.item (v := .int 1) rfl ?_
  walk_at "L"
  refine meth_at F (f := f_PatternReader_node) (k2 h0 (out h0 fun _ _ e => by cases e)) (by decide) rfl ?_
  refine sub_list (k2 hl0 (out hl0 fun _ _ e => by cases e)) (by decide) (by decide) (v := .ref b) rfl ?_
  have hne : atKeyV ([] ++ [(V.int (2 * ia), V.int 0)]) (.int (2 * ib)) = none := by
    rw [List.nil_append, atKey_cons, if_neg (by simp; walk_at "O")]; rfl
  refine ⟨F.PatternReader_node.can, wc_pnode F (k2 h0 (out h0 fun _ _ e => by cases e)) (k2 h1 (by simpa using hkd)) hd2 (k2 hb' (out hb' fun _ _ e => by cases e)) (by decide) hne (by show 1 ≤ 100; decide) fun nb ep2 H3 b3 hd3 hnb => ?_⟩
  rw [putV_new hne] at hd3
  refine ⟨by show 1 ≤ lim; decide, ?_⟩
  refine CP.done rfl fun ln hln => ?_
  walk_at "L"
  refine ⟨by show 2 ≤ lim; decide, fun c hc => ?_⟩
  have x4 := (Ext.new (o := .list [V.ref na, V.ref nb]) hln).trans (Ext.new (o := .tuple [V.ref ln, V.none]) hc)
  have nad : na ∉ [dd] := by simp; exact ne_of hna hd2 (fun e => by cases e)
  have hln0 : H ln = none := by
    cases e : H ln with
    | none => rfl
    | some o =>
      have hne : ln ∉ [dd] := by simp; exact (ne_new hd3 hln).symm
      rw [((x2.but.trans b2).trans b3) _ _ e hne] at hln; cases hln
  exact q c ln na nb ep2 _ (((x2.but.trans b2).trans b3).trans x4.but) hln0 (x4 _ _ hd3) (MH.set_self _ _ _) (set_old (MH.set_self _ _ _) hc) (x4 _ _ (b3 _ _ hna nad)) (x4 _ _ hnb)
theorem wc_prow (F : Fit C) {pr kn dd a b : Addr} {ia ib : Int} {ep ep0 : Nat} {v : V} {Q : V → MH → Prop} (hb : Base H) (h0 : H pr = some (.inst c_PatternReader [(n_literals, .ref kn), (n_depths, .ref dd)]))
    (h1 : H kn = some (.dict [] ep0)) (h2 : H dd = some (.dict [] ep)) (ha : H a = some (.inst c_Symbol (symFs ia s_a))) (hb' : H b = some (.inst c_Symbol (symFs ib s_b))) (hab : ia ≠ ib) (hkd : kn ≠ dd) (hc : Chain H v [.ref a, .ref b] (.ref a_EMPTY))
    (q : ∀ c ln na nb ep' H', But [dd] H H' → H ln = none → H' dd = some (.dict [(.int (2 * ia), .int 0), (.int (2 * ib), .int 0)] ep') → H' c = some (.tuple [.int 4, .ref ln, .none, .ref a_NOTHING]) → H' ln = some (.list [.ref na, .ref nb]) → H' na = some (.tuple [.int 1, .int (2 * ia)]) → H' nb = some (.tuple [.int 1, .int (2 * ib)]) → Q (.ref c) H') :
    WC C (n + 7) (.ref f_PatternReader_row) [.ref pr, v, .int 0] H Q := by
  refine F.PatternReader_row.on F rfl ?_
  unfold k_PatternReader_row
  walk_at "L"
  refine ⟨F.split_list.can, wc_split_list F hc hb.np (fun x hx => by simp at hx; rcases hx with rfl | rfl <;> rfl) (by show 2 ≤ lim; decide) fun c l H1 x hl hcn hc0 hl0 => ?_⟩
  refine ⟨c, _, rfl, hc0, rfl, ?_⟩
  walk_at "L"
  refine is_none_ref ⟨false, rfl, ?_⟩
  walk_at "L"
  refine meth_at F (x _ _ h0) (by decide) rfl ⟨F.PatternReader_parts.can, wc_pparts F (x _ _ h0) (x _ _ h1) (x _ _ h2) (x _ _ ha) (x _ _ hb') hab hl0 hkd fun c2 ln na nb ep2 H2 b2 hln0 hd2 hc2 hln hna hnb => ?_⟩
  refine ⟨c2, _, rfl, hc2, rfl, ?_⟩
  walk_at "L"
  refine isnot_none_none ⟨false, rfl, ?_⟩
  walk_at "L"
  have hb2 : Base H2 := (hb.ext x).but (B := fun _ => False) (fun m hm => by simp at hm; subst hm; exact .inl ⟨_, _, x _ _ h2⟩) b2
  refine is_emp hb2 ⟨true, rfl, ?_⟩
  walk_at "L"
  refine ⟨by show 4 ≤ lim; decide, fun c3 hc3 => ?_⟩
  have x3 := Ext.new (o := .tuple [V.int 4, .ref ln, .none, .ref a_NOTHING]) hc3
  exact q c3 ln na nb ep2 _ ((x.but.trans b2).trans x3.but) (x.old_none hln0) (x3 _ _ hd2) (MH.set_self _ _ _) (x3 _ _ hln) (x3 _ _ hna) (x3 _ _ hnb)
theorem wc_pattern (F : Fit C) {pr kn dd a b : Addr} {ia ib : Int} {ep ep0 : Nat} {v : V} {Q : V → MH → Prop} (hb : Base H) (h0 : H pr = some (.inst c_PatternReader [(n_literals, .ref kn), (n_depths, .ref dd)]))
    (h1 : H kn = some (.dict [] ep0)) (h2 : H dd = some (.dict [] ep)) (ha : H a = some (.inst c_Symbol (symFs ia s_a))) (hb' : H b = some (.inst c_Symbol (symFs ib s_b))) (hab : ia ≠ ib) (hkd : kn ≠ dd) (hc : Chain H v [.ref a, .ref b] (.ref a_EMPTY))
    (q : ∀ c ln na nb ep' H', But [dd] H H' → H ln = none → H' dd = some (.dict [(.int (2 * ia), .int 0), (.int (2 * ib), .int 0)] ep') → H' c = some (.tuple [.int 4, .ref ln, .none, .ref a_NOTHING]) → H' ln = some (.list [.ref na, .ref nb]) → H' na = some (.tuple [.int 1, .int (2 * ia)]) → H' nb = some (.tuple [.int 1, .int (2 * ib)]) → Q (.ref c) H') :
    WC C (n + 8) (.ref f_PatternReader_node) [.ref pr, v, .int 0] H Q := by
  obtain ⟨p1, d1, rfl, e1, hc1⟩ := id hc
  refine F.PatternReader_node.on F rfl ?_
  unfold k_PatternReader_node
  walk_at "L"
  refine ⟨F.is_identifier.can, wc_is_identifier_no F (D := c_Pair) (by unfold instOf; simp only [e1]) (by decide) (by decide) ⟨false, rfl, ?_⟩⟩
  walk_at "L"
  refine isi_yes F (by unfold instOf; simp only [e1]) (by decide) ⟨true, rfl, ?_⟩
  walk_at "L"
  exact meth_at F h0 (by decide) rfl ⟨F.PatternReader_row.can, wc_prow F hb h0 h1 h2 ha hb' hab hkd hc q⟩
end
end N226
end
noncomputable section
open PySem PySem.W PySem.Calls PyProof.Rows
set_option maxRecDepth 10000
namespace N226
section
variable {C : Cx} {n : Nat} {ρ : Loc} {H : MH}
noncomputable def ndT (ka kb : Int) (s : Str) (c : Addr) : List V := if s = s_a then [.int 1, .int ka] else if s = s_b then [.int 1, .int kb] else [.int 6, .ref c]
noncomputable def NdL (H : MH) (σ : Syms) (ka kb : Int) : Lf → V → Prop
  | .name s, v => ∃ a c, v = .ref a ∧ σ.lookup s = some c ∧ H a = some (.tuple (ndT ka kb s c))
  | .int i, v => ∃ a, v = .ref a ∧ H a = some (.tuple [.int 3, .int i])
  | .fin, v => v = .ref a_NOTHING
inductive Node (H : MH) (X : Addr → Prop) (σ : Syms) (ka kb : Int) : F → V → Prop
  | lf {x : Lf} {v : V} : NdL H σ ka kb x v → Node H X σ ka kb (.lf x) v
  | lst {fs : List F} {tl : Lf} {a l : Addr} {t : V} {vs : List V} : H a = some (.tuple [.int 4, .ref l, t]) → H l = some (.list vs) → ¬ X l → fs.length = vs.length → (∀ (i : Nat) f w, fs[i]? = some f → vs[i]? = some w → Node H X σ ka kb f w) → NdL H σ ka kb tl t → Node H X σ ka kb (.lst fs tl) (.ref a)
  | vec {fs : List F} {a l : Addr} {vs : List V} : H a = some (.tuple [.int 5, .ref l]) → H l = some (.list vs) → ¬ X l → fs.length = vs.length → (∀ (i : Nat) f w, fs[i]? = some f → vs[i]? = some w → Node H X σ ka kb f w) → Node H X σ ka kb (.vec fs) (.ref a)
variable {H' : MH} {X X' : Addr → Prop} {σ : Syms} {ka kb : Int} {M : List Addr} {f : Fm} {v : V} {x : Lf}
theorem Away.tup (hm : Away H X M) (b : But M H H') {a : Addr} {vs : List V} (h : H a = some (.tuple vs)) : H' a = some (.tuple vs) :=
  b _ _ h (hm.out h (fun _ _ e => by cases e) (fun _ e => by cases e) (.inl fun _ e => by cases e))
theorem Away.inst (hm : Away H X M) (b : But M H H') {a Cl : Addr} {fs : List (Nat × V)} (h : H a = some (.inst Cl fs)) (hC : Cl ≠ c_Names) : H' a = some (.inst Cl fs) :=
  b _ _ h (hm.out h (fun _ _ e => by cases e) (fun _ e => by injection e with e; cases e; exact hC rfl) (.inl fun _ e => by cases e))
theorem NdL.but (hm : Away H X M) (b : But M H H') (h : NdL H σ ka kb x v) : NdL H' σ ka kb x v := by
  cases x with
  | name s => obtain ⟨a, c, e, h1, h2⟩ := h; exact ⟨a, c, e, h1, hm.tup b h2⟩
  | int i => obtain ⟨a, e, h2⟩ := h; exact ⟨a, e, hm.tup b h2⟩
  | fin => exact h
theorem Node.but (hm : Away H X M) (b : But M H H') (h : Node H X σ ka kb f v) : Node H' X σ ka kb f v := by
  induction h with
  | lf h => exact .lf (h.but hm b)
  | lst ha hl hx hlen _ ht ih => exact .lst (hm.tup b ha) (b _ _ hl (hm.out hl (fun _ _ e => by cases e) (fun _ e => by cases e) (.inr hx))) hx hlen ih (ht.but hm b)
  | vec ha hl hx hlen _ ih => exact .vec (hm.tup b ha) (b _ _ hl (hm.out hl (fun _ _ e => by cases e) (fun _ e => by cases e) (.inr hx))) hx hlen ih
theorem Node.ext (x : Ext H H') (h : Node H X σ ka kb f v) : Node H' X σ ka kb f v := h.but (M := []) away_nil x.but
theorem Node.weak (hX : ∀ a, X' a → X a) (h : Node H X σ ka kb f v) : Node H X' σ ka kb f v := by
  induction h with
  | lf h => exact .lf h
  | lst ha hl hx hlen _ ht ih => exact .lst ha hl (fun q => hx (hX _ q)) hlen ih ht
  | vec ha hl hx hlen _ ih => exact .vec ha hl (fun q => hx (hX _ q)) hlen ih
theorem Wk.sym {W : Wd} {σ : Syms} {k : Int} (h : Wk H W σ k) {s : Str} {c : Addr} (e : σ.lookup s = some c) : ∃ i : Nat, σ[i]? = some (s, c) ∧ H c = some (.inst c_Symbol (symFs i s)) ∧ s ∈ NM := by
  obtain ⟨i, hi⟩ := lookup_at e
  exact ⟨i, hi, h.wld.sym i _ hi, h.nm _ (List.mem_of_getElem? hi)⟩
theorem NM_dots {s : Str} (h : s ∈ NM) : s ≠ s_dots := by
  revert s; decide
theorem idx_uniq {σ : Syms} (h : (σ.map (·.1)).Nodup) : ∀ {i j : Nat} {s : Str} {c d : Addr}, σ[i]? = some (s, c) → σ[j]? = some (s, d) → i = j := by
  induction σ with
  | nil => intro i j s c d e; simp at e
  | cons p σ ih =>
    rw [List.map_cons, List.nodup_cons] at h
    intro i j s c d e1 e2
    have out : ∀ {k : Nat} {x : Str} {b : Addr}, σ[k]? = some (x, b) → x ≠ p.1 := fun e q => h.1 (by
      rw [← q]; exact List.mem_map.mpr ⟨_, List.mem_of_getElem? e, rfl⟩)
    cases i with
    | zero =>
      cases j with
      | zero => rfl
      | succ j =>
        simp at e1 e2
        exact absurd (by rw [e1]) (out e2)
    | succ i =>
      cases j with
      | zero =>
        simp at e1 e2
        exact absurd (by rw [e2]) (out e1)
      | succ j =>
        simp at e1 e2
        rw [ih h.2 e1 e2]
structure TE (H : MH) (W : Wd) (σ : Syms) (k : Int) (tr dd : Addr) (ia ib : Nat) : Prop where
  wk : Wk H W σ k
  base : Base H
  hia : ∃ a, σ[ia]? = some (s_a, a)
  hib : ∃ b, σ[ib]? = some (s_b, b)
  tr : H tr = some (.inst c_TemplateReader [(n_depths, .ref dd)])
  dd : ∃ ep, H dd = some (.dict [(.int (2 * (ia : Int)), .int 0), (.int (2 * (ib : Int)), .int 0)] ep)
theorem TE.ext {W : Wd} {k : Int} {tr dd : Addr} {ia ib : Nat} (h : TE H W σ k tr dd ia ib) (x : Ext H H') : TE H' W σ k tr dd ia ib := by
  obtain ⟨a, b, c, d, e, ⟨ep, f⟩⟩ := h
  exact ⟨a.ext x, b.ext x, c, d, x _ _ e, ⟨ep, x _ _ f⟩⟩
theorem wc_tname (F : Fit C) {W : Wd} {k : Int} {tr dd c : Addr} {ia ib : Nat} {s : Str} {Q : V → MH → Prop} (T : TE H W σ k tr dd ia ib) (hs : σ.lookup s = some c)
    (q : ∀ v H', Ext H H' → NdL H' σ (2 * ia) (2 * ib) (.name s) v → Q v H') : WC C (n + 4) (.ref f_TemplateReader_name) [.ref tr, .ref c, .int 0] H Q := by
  obtain ⟨i, hi, hc, hnm⟩ := T.wk.sym hs
  obtain ⟨a, hia⟩ := T.hia
  obtain ⟨b, hib⟩ := T.hib
  obtain ⟨ep, hd⟩ := T.dd
  refine F.TemplateReader_name.on F rfl ?_
  unfold k_TemplateReader_name
  walk_at "L"
  refine ⟨F.is_ellipsis.can, wc_is_ellipsis_sym F hc (NM_dots hnm) ⟨false, rfl, ?_⟩⟩
  walk_at "L"
  refine ⟨F.key_of.can, wc_key_of_sym F hc ?_⟩
  refine attr_at F T.tr (by decide) rfl rfl (notin_dict hd rfl ?_)
  have uniq : ∀ {j : Nat} {t : Str} {b : Addr}, σ[j]? = some (t, b) → j = i → t = s := fun e ej => by
    subst ej; rw [hi] at e; cases e; rfl
  have fin : ∀ (H2 : MH) (vs : List V), H2 = H → vs = ndT (2 * ia) (2 * ib) s c → vs.length ≤ lim → vs.length ≤ lim ∧ ∀ c, H2 c = none → Q (.ref c) (H2.set c (.tuple vs)) := fun H2 vs e1 e2 e3 => by
    subst e1 e2
    exact ⟨e3, fun z hz => q (.ref z) _ (Ext.new hz) ⟨z, c, rfl, hs, MH.set_self _ _ _⟩⟩
  by_cases h1 : i = ia
  · have e1 : s = s_a := (uniq hia h1.symm).symm
    have e2 : atKeyV [(V.int (2 * (ia : Int)), V.int 0), (.int (2 * (ib : Int)), .int 0)] (.int (2 * (i : Int))) = some (.int 0) := by rw [h1]; simp [atKey_cons]
    rw [e2]
    wide_open using (Option.isSome_some, Option.isSome_some)
    refine attr_at F T.tr (by decide) rfl rfl (sub_dict hd rfl e2 ?_)
    refine cmp_lt_int ⟨false, rfl, ?_⟩
    walk_at "L"
    refine fin _ _ rfl ?_ (by show 2 ≤ lim; decide)
    simp [ndT, e1, h1]
  · by_cases h2 : i = ib
    · have e1 : s = s_b := (uniq hib h2.symm).symm
      have e2 : atKeyV [(V.int (2 * (ia : Int)), V.int 0), (.int (2 * (ib : Int)), .int 0)] (.int (2 * (i : Int))) = some (.int 0) := by
        have : ¬ (2 * (ia : Int)) = 2 * (i : Int) := by walk_at "O"
        rw [atKey_cons, if_neg (by simpa using this), atKey_cons, if_pos (by rw [h2])]
      rw [e2]
      wide_open using (Option.isSome_some, Option.isSome_some)
      refine attr_at F T.tr (by decide) rfl rfl (sub_dict hd rfl e2 ?_)
      refine cmp_lt_int ⟨false, rfl, ?_⟩
      walk_at "L"
      refine fin _ _ rfl ?_ (by show 2 ≤ lim; decide)
      have : ¬ s_b = s_a := by decide
      simp [ndT, e1, h2, this]
    · have e2 : atKeyV [(V.int (2 * (ia : Int)), V.int 0), (.int (2 * (ib : Int)), .int 0)] (.int (2 * (i : Int))) = none := by
        have t1 : ¬ (2 * (ia : Int)) = 2 * (i : Int) := by walk_at "O"
        have t2 : ¬ (2 * (ib : Int)) = 2 * (i : Int) := by walk_at "O"
        rw [atKey_cons, if_neg (by simpa using t1), atKey_cons, if_neg (by simpa using t2)]; rfl
      rw [e2]
      wide_open using (Option.isSome_none, Option.isSome_none)
      refine fin _ _ rfl ?_ (by show 2 ≤ lim; decide)
      have n1 : s ≠ s_a := fun e => by subst e; exact h1 (idx_uniq T.wk.wld.nodup hi hia)
      have n2 : s ≠ s_b := fun e => by subst e; exact h2 (idx_uniq T.wk.wld.nodup hi hib)
      simp [ndT, n1, n2]
end
end N226
end
noncomputable section
open PySem PySem.W PySem.Calls PyProof.Rows
set_option maxRecDepth 10000
namespace N226
section
variable {C : Cx} {n : Nat} {ρ : Loc} {H : MH}
theorem inst_at {a D : Addr} {fs : List (Nat × V)} (h : H a = some (.inst D fs)) : instOf H a = some D := by unfold instOf; simp only [h]
theorem wc_tleaf (F : Fit C) {W : Wd} {σ : Syms} {k : Int} {tr dd : Addr} {ia ib : Nat} {x : Lf} {v : V} {Q : V → MH → Prop} (T : TE H W σ k tr dd ia ib) (hx : x ≠ .fin) (hl : Ls σ x v)
    (q : ∀ v H', Ext H H' → NdL H' σ (2 * ia) (2 * ib) x v → Q v H') : WC C (n + 5) (.ref f_TemplateReader_node) [.ref tr, v, .int 0] H Q := by
  cases x with
  | fin => exact absurd rfl hx
  | name s =>
    obtain ⟨c, hs, rfl⟩ := hl
    obtain ⟨i, hi, hc, hnm⟩ := T.wk.sym hs
    refine F.TemplateReader_node.on F rfl ?_
    unfold k_TemplateReader_node
    walk_at "L"
    refine ⟨F.is_identifier.can, wc_is_identifier_sym F hc ⟨true, rfl, ?_⟩⟩
    walk_at "L"
    exact meth_at F T.tr (by decide) rfl ⟨F.TemplateReader_name.can, wc_tname F T hs q⟩
  | int i =>
    obtain rfl : v = .int i := hl
    refine F.TemplateReader_node.on F rfl ?_
    unfold k_TemplateReader_node
    walk_at "L"
    refine ⟨F.is_identifier.can, wc_is_identifier_int F ⟨false, rfl, ?_⟩⟩
    walk_at "L"
    refine isi_int F (by decide) ⟨false, rfl, ?_⟩
    walk_at "L"
    refine isi_int F (by decide) ⟨false, rfl, ?_⟩
    walk_at "L"
    exact ⟨by show 2 ≤ lim; decide, fun c hc => q (.ref c) _ (Ext.new hc) ⟨c, rfl, MH.set_self _ _ _⟩⟩
set_option tactic.hygienic true in
theorem wc_not_dots (F : Fit C) {W : Wd} {σ : Syms} {k : Int} {d : Nat} {f : Fm} {v : V} {X : Addr → Prop} {Q : V → MH → Prop} (hw : Wk H W σ k) (ho : Ok d f) (hs : Shape H X (Ls σ) f v) (q : Q (.bool false) H) : WC C (n + 3) (.ref f_is_ellipsis) [v] H Q := by
  have leaf : ∀ x, okL x → Ls σ x v → WC C (n + 3) (.ref f_is_ellipsis) [v] H Q := by
    intro x hx hl
    cases x with
    | fin => cases hx
    | name s =>
      obtain ⟨c, hlk, rfl⟩ := hl
      obtain ⟨i, hi, hc, hnm⟩ := hw.sym hlk
      exact wc_is_ellipsis_sym F hc (NM_dots hnm) q
    | int i =>
      obtain rfl : v = .int i := hl
      exact wc_is_ellipsis_int F q
  have rest : ∀ e, Ok (e + 1) f → WC C (n + 3) (.ref f_is_ellipsis) [v] H Q := by
    intro e ho
    rcases ho with ⟨x, rfl, hx⟩ | ⟨fs, tl, rfl, hne, h4, ht, ho⟩ | ⟨fs, rfl, hne, h4, ho⟩
    · cases hs with | lf hl => exact leaf x hx hl
    · cases hs with
      | lst hc hlen z1 z2 =>
        rename_i us
        cases us with
        | nil => exact absurd (List.eq_nil_of_length_eq_zero hlen) hne
        | cons u us =>
          obtain ⟨a, d, rfl, e1, _⟩ := hc
          exact wc_is_ellipsis_no F (inst_at e1) (by decide) (by decide) q
    · cases hs with
      | vec ha _ _ _ _ => exact wc_is_ellipsis_no F (inst_at ha) (by decide) (by decide) q
  cases d with
  | zero =>
    obtain ⟨x, rfl, hx⟩ := ho
    cases hs with | lf hl => exact leaf x hx hl
  | succ d => exact rest d ho
noncomputable def TNode (C : Cx) (n d : Nat) : Prop := ∀ {H : MH} {W : Wd} {σ : Syms} {k : Int} {tr dd : Addr} {ia ib : Nat} {f : Fm} {v : V} {Q : V → MH → Prop}, Ok d f → Shape H (· = W.r) (Ls σ) f v → TE H W σ k tr dd ia ib →
  (∀ nd H', Ext H H' → Node H' (fun a => H a ≠ none) σ (2 * ia) (2 * ib) f nd → Q nd H') → WC C n (.ref f_TemplateReader_node) [.ref tr, v, .int 0] H Q
noncomputable abbrev partsBody : K :=
    (.seq (.ifs (.tval (.call (.con (.ref f_is_ellipsis)) (.cons (.sub (.var 1) (.var 5)) .nil)))
      (.seq .bad .nil)
      .nil)
    (.seq (.set 6 (.bin .Add (.var 5) (.int (1))))
    (.seq (.whil (.tand (.tcmp .Lt (.var 6) (.call (.con (.bi "len")) (.cons (.var 1) .nil))) (.tand (.tval (.call (.con (.ref f_is_ellipsis)) (.cons (.sub (.var 1) (.var 6)) .nil))) .ttrue))
      (.seq (.set 6 (.bin .Add (.var 6) (.int (1)))) .nil))
    (.seq (.set 7 (.bin .Sub (.bin .Sub (.var 6) (.var 5)) (.int (1))))
    (.seq (.set 8 (.meth (.var 0) n_node (.cons (.sub (.var 1) (.var 5)) (.cons (.bin .Add (.var 2) (.var 7)) .nil))))
    (.seq (.fors (.one 9) (.call (.con (.ty "range")) (.cons (.var 7) .nil))
      (.seq (.ifs (.tno (.tval .bad))
        (.seq .bad .nil)
        .nil)
      (.seq (.set 8 (.tuple (.cons (.con (.int (7))) (.cons (.var 8) .nil)))) .nil)))
    (.seq (.expr (.meth (.var 4) n_append (.cons (.var 8) .nil)))
    (.seq (.set 5 (.var 6)) .nil))))))))
theorem tparts_loop (F : Fit C) {d : Nat} (hD : TNode C (n + 3) d) {W : Wd} {σ : Syms} {k : Int} {tr dd l nl : Addr} {ia ib : Nat} {fs : List Fm} {vs : List V} {R : Fl → Loc → MH → Prop} {H0 : MH} (h4 : fs.length ≤ 4) (hlen : fs.length = vs.length) (ho : ∀ f ∈ fs, Ok d f) (hnl : H0 nl = none) (T0 : TE H0 W σ k tr dd ia ib) (hl0 : H0 l = some (.list vs)) (hs0 : All2 (Shape H0 (· = W.r) (Ls σ)) fs vs) :
    ∀ (m i : Nat) (done : List V) (ρ : Loc) (H : MH), i + m = fs.length → Ext H0 H → H nl = some (.list done) →
      All2 (Node H (fun a => H0 a ≠ none ∨ a = nl) σ (2 * ia) (2 * ib)) (fs.take i) done → ρ 0 = some (.ref tr) → ρ 1 = some (.ref l) → ρ 2 = some (.int 0) → ρ 4 = some (.ref nl) → ρ 5 = some (.int i) →
      (∀ (ρ' : Loc) done' H', Ext H0 H' → H' nl = some (.list done') → All2 (Node H' (fun a => H0 a ≠ none ∨ a = nl) σ (2 * ia) (2 * ib)) fs done' → ρ' 4 = some (.ref nl) → R .next ρ' H') →
      WH C (n + 3) (.tcmp .Lt (.var 5) (.call (.con (.bi "len")) (.cons (.var 1) .nil))) partsBody R ρ H := by
  intro m
  induction m with
  | zero =>
    intro i done ρ H hi x0 hn ha p0 p1 p2 p4 p5 q
    have T := T0.ext x0
    have hl := x0 _ _ hl0
    have hs := hs0.mono fun f _ v h => h.ext x0
    refine WH.turn ?_
    wide_open using (p1, p5)
    refine ⟨Callable_bi, WC_len_list hl (by rw [← hlen]; exact Nat.le_trans h4 (by decide)) ?_⟩
    refine cmp_lt_int ⟨false, ?_, ?_⟩
    · congr 1; rw [decide_eq_false]; walk_at "O"
    walk_at "L"
    rw [List.take_of_length_le (by walk_at "O")] at ha
    exact q ρ done H x0 hn ha p4
  | succ m ih =>
    intro i done ρ H hi x0 hn ha p0 p1 p2 p4 p5 q
    have T := T0.ext x0
    have hl := x0 _ _ hl0
    have hs := hs0.mono fun f _ v h => h.ext x0
    have h1i : i < fs.length := by walk_at "O"
    have h2i : i < vs.length := by walk_at "O"
    have hlim : vs.length ≤ lim := by rw [← hlen]; exact Nat.le_trans h4 (by decide)
    refine WH.turn ?_
    wide_open using (p1, p5)
    refine ⟨Callable_bi, WC_len_list hl hlim ?_⟩
    refine cmp_lt_int ⟨true, ?_, ?_⟩
    · congr 1; rw [decide_eq_true]; walk_at "O"
    unfold partsBody
    wide_open using (p0, p1, p2, p4, p5)
    have hsi := hs.at_ i _ _ (List.getElem?_eq_getElem h1i) (List.getElem?_eq_getElem h2i)
    have hoi := ho fs[i] (List.getElem_mem h1i)
    refine sub_list hl (by walk_at "O") (by walk_at "O") (pick_nat (List.getElem?_eq_getElem h2i)) ⟨F.is_ellipsis.can, wc_not_dots F T.wk hoi hsi ⟨false, rfl, ?_⟩⟩
    wide_open using (p0, p1, p2, p4, p5)
    refine bin_add ?_
    have next : ∀ (R' : Fl → Loc → MH → Prop) (ρ' : Loc), ρ' 6 = some (.int ((i : Int) + 1)) → ρ' 1 = some (.ref l) → R' .next ρ' H →
        WH C (n + 3) (.tand (.tcmp .Lt (.var 6) (.call (.con (.bi "len")) (.cons (.var 1) .nil))) (.tand (.tval (.call (.con (.ref f_is_ellipsis)) (.cons (.sub (.var 1) (.var 6)) .nil))) .ttrue)) (.seq (.set 6 (.bin .Add (.var 6) (.int (1)))) .nil) R' ρ' H := by
      intro R' ρ' e6 e1 r
      refine WH.turn ?_
      wide_open using (e6, e1)
      refine ⟨Callable_bi, WC_len_list hl hlim ?_⟩
      refine cmp_lt_int ⟨_, rfl, ?_⟩
      by_cases hj : i + 1 < vs.length
      · have : decide ((i : Int) + 1 < (vs.length : Int)) = true := by rw [decide_eq_true]; walk_at "O"
        rw [this]
        walk_at "L"
        have e3 : ((i : Int) + 1) = ((i + 1 : Nat) : Int) := by walk_at "O"
        rw [e3]
        refine sub_list hl (by walk_at "O") (by walk_at "O") (pick_nat (List.getElem?_eq_getElem hj)) ⟨F.is_ellipsis.can, wc_not_dots F T.wk (ho fs[i + 1] (List.getElem_mem (by walk_at "O"))) (hs.at_ (i + 1) _ _ (List.getElem?_eq_getElem (by walk_at "O")) (List.getElem?_eq_getElem hj)) ⟨false, rfl, ?_⟩⟩
        walk_at "L"
        exact r
      · have : decide ((i : Int) + 1 < (vs.length : Int)) = false := by rw [decide_eq_false]; walk_at "O"
        rw [this]
        walk_at "L"
        exact r
    refine next _ _ rfl (by simp [Loc.set, p1]) ?_
    wide_open using (p0, p1, p2, p4, p5)
    refine bin_sub (bin_sub ?_)
    have e0 : ((i : Int) + 1 - i - 1) = 0 := by walk_at "O"
    rw [e0]
    wide_open using (p0, p1, p2, p4, p5)
    refine meth_at F (f := f_TemplateReader_node) T.tr (by decide) rfl ?_
    refine sub_list hl (by walk_at "O") (by walk_at "O") (pick_nat (List.getElem?_eq_getElem h2i)) ?_
    refine bin_add ⟨F.TemplateReader_node.can, hD hoi hsi T fun nd H1 x1 hnd => ?_⟩
    refine ⟨Callable_ty, WC_range1 fun r hr => ⟨_, iter_rng (MH.set_self _ _ _) (by decide), FR.done rfl ?_⟩⟩
    have x2 := x1.trans (Ext.new (o := .rng 0 0 1) hr)
    wide_open using (p0, p1, p2, p4, p5)
    refine bi_list (id := "list.append") (x2 _ _ hn) rfl ⟨Callable_bi, WC_append (x2 _ _ hn) (by rw [← ha.len, List.length_take]; exact Nat.le_trans (m := 4) (by walk_at "O") (by decide)) ⟨(fun _ e => by cases e), ?_⟩⟩
    have hav : Away (H1.set r (.rng 0 0 1)) (fun a => H0 a ≠ none ∨ a = nl) [nl] := fun m hm => by
      simp at hm; subst hm; exact .inr (.inr ⟨.inr rfl, _, x2 _ _ hn⟩)
    have hnl1 : H nl ≠ none := by rw [hn]; exact fun e => by cases e
    refine ih (i + 1) (done ++ [nd]) _ _ (by walk_at "O") (fun a o e => ?_) (MH.set_self _ _ _) ?_ ?_ ?_ ?_ ?_ ?_ q
    · rw [MH.set_ne _ _ (ne_new e hnl)]; exact x2 _ _ (x0 _ _ e)
    · rw [List.take_succ_eq_append_getElem h1i]
      refine (ha.mono fun f _ w h => (h.ext x2).but hav (But.set (by simp))).snoc ?_
      refine ((hnd.weak fun a h => ?_).ext (Ext.new hr)).but hav (But.set (by simp))
      rcases h with h | rfl
      · cases e : H0 a with
        | none => exact absurd e h
        | some o => rw [x0 _ _ e]; exact fun e => by cases e
      · exact hnl1
    all_goals simp [Loc.set, p0, p1, p2, p4]
theorem wc_tparts (F : Fit C) {d : Nat} (hD : TNode C (n + 3) d) {W : Wd} {σ : Syms} {k : Int} {tr dd l : Addr} {ia ib : Nat} {fs : List Fm} {vs : List V} {z : V} {Q : V → MH → Prop} (h4 : fs.length ≤ 4) (ho : ∀ f ∈ fs, Ok d f) (T : TE H W σ k tr dd ia ib) (hl : H l = some (.list vs)) (hs : All2 (Shape H (· = W.r) (Ls σ)) fs vs)
    (q : ∀ nl done H', Ext H H' → H nl = none → H' nl = some (.list done) → All2 (Node H' (fun a => H a ≠ none) σ (2 * ia) (2 * ib)) fs done → Q (.ref nl) H') : WC C (n + 4) (.ref f_TemplateReader_parts) [.ref tr, .ref l, .int 0, z] H Q := by
  refine F.TemplateReader_parts.on F rfl ?_
  simp (decide := true) only [k_TemplateReader_parts, ee_none, ee_bool, ee_int, ee_str, ee_var, ee_con, ee_bin, ee_neg, ee_cmp, ee_andv, ee_orv, ee_ite, ee_attr, ee_call, ee_lzip, ee_meth, ee_sub, ee_slice, ee_tuple, ee_list, ee_dict0, ee_dict, ee_comp, el_nil, el_cons, ed_nil, ed_kv, et_val, et_no, et_and, et_or, et_true, et_false, et_ite, et_cmp, et_in, et_notin, kk_pass, kk_expr, kk_set, kk_setA, kk_setI, kk_unpack, kk_swap, kk_if, kk_while, kk_for, kk_ret, kk_ret0, kk_nil, kk_seq, q_next, q_ret, r_next, r_ret, l_next, l_ret, a_one, a_many, in_zero, in_succ, partW, setAll_cons, setAll_nil, argLoc, Loc.set, List.map_nil, List.map_cons, List.nil_append, List.cons_append, List.append_nil, List.getElem?_cons_zero, List.getElem?_cons_succ, Option.some.injEq, exists_eq_left', Bool.false_eq_true, if_true, if_false, reduceIte, V.bool.injEq, V.int.injEq, V.str.injEq, V.ref.injEq, Bool.not_true, Bool.not_false, reduceCtorEq, onV_some, cond_true, cond_false, Nat.reduceBEq, decide_true, decide_false]
  refine ⟨by decide, fun nl hnl => ?_⟩
  refine tparts_loop F hD h4 hs.len ho hnl T hl hs fs.length 0 [] _ _ (by walk_at "O") (Ext.new hnl) (MH.set_self _ _ _) (by simpa using All2.nil) rfl rfl rfl rfl rfl fun ρ' done' H' x hn ha p4 => ?_
  wide_open with (kk_seq, p4)
  exact q nl done' H' x hnl hn (ha.mono fun f _ v h => h.weak fun a h => .inl h)
theorem Ls.noBi {σ : Syms} {x : Lf} {v : V} (h : Ls σ x v) : noBi v = true := by
  cases x with
  | name s => obtain ⟨c, _, rfl⟩ := h; rfl
  | int i => obtain rfl : v = .int i := h; rfl
  | fin => obtain rfl : v = .ref a_EMPTY := h; rfl
set_option tactic.hygienic true in
theorem Shape.noBi {X : Addr → Prop} {L : Lf → V → Prop} {f : Fm} {v : V} (hL : ∀ x v, L x v → noBi v = true) (h : Shape H X L f v) : noBi v = true := by
  cases h with
  | lf h => exact hL _ _ h
  | lst hc hlen z1 z2 =>
    rename_i t us
    cases us with
    | nil => obtain rfl : v = t := hc; exact hL _ _ z2
    | cons u us => obtain ⟨a, d, rfl, _⟩ := hc; rfl
  | vec _ _ _ _ _ => rfl
theorem Ls.np {W : Wd} {σ : Syms} {k : Int} {x : Lf} {v : V} (hw : Wk H W σ k) (hb : Base H) (h : Ls σ x v) : NotPair H v := by
  cases x with
  | name s =>
    obtain ⟨c, hs, rfl⟩ := h
    obtain ⟨i, hi, hc, hnm⟩ := hw.sym hs
    exact .inl ⟨c, c_Symbol, rfl, inst_at hc, by decide⟩
  | int i => obtain rfl : v = .int i := h; exact .inr ⟨i, rfl⟩
  | fin => obtain rfl : v = .ref a_EMPTY := h; exact hb.np
theorem is_emp_sym {W : Wd} {σ : Syms} {k : Int} {s : Str} {c : Addr} (hw : Wk H W σ k) (hb : Base H) (h : σ.lookup s = some c) {Q : V → MH → Prop} (q : Q (.bool false) H) : cmpW .Is (.ref c) (.ref a_EMPTY) H Q := by
  obtain ⟨i, hi, hc, hnm⟩ := hw.sym h
  exact is_not_emp hb (inst_at hc) (by decide) q
set_option tactic.hygienic true in
theorem tnode_all (F : Fit C) : ∀ (d : Nat), TNode C (n + 2 * d + 5) d := by
  intro d
  induction d with
  | zero =>
    intro H W σ k tr dd ia ib f v Q ho hs T q
    obtain ⟨x, rfl, hx⟩ := ho
    cases hs with
    | lf hl => exact wc_tleaf F T (fun e => by subst e; exact hx) hl fun v H' x h => q v H' x (.lf h)
  | succ d ih =>
    intro H W σ k tr dd ia ib f v Q ho hs T q
    rcases ho with ⟨x, rfl, hx⟩ | ⟨fs, tl, rfl, hne, h4, ht, ho⟩ | ⟨fs, rfl, hne, h4, ho⟩
    · cases hs with
      | lf hl => exact wc_tleaf F T (fun e => by subst e; exact hx) hl fun v H' x h => q v H' x (.lf h)
    · cases hs with
      | lst hc hlen hs1 htl =>
      rename_i t us
      have hnb : ∀ u ∈ us, noBi u = true := fun u hu => by
        obtain ⟨f, _, hf⟩ := All2.mem (P := Shape H (· = W.r) (Ls σ)) ⟨hlen, hs1⟩ hu
        exact hf.noBi fun _ _ h => h.noBi
      have hnp : NotPair H t := htl.np T.wk T.base
      have hlim : us.length ≤ lim := by rw [← hlen]; exact Nat.le_trans h4 (by decide)
      have h2 : ∃ a u d, v = .ref a ∧ H a = some (.inst c_Pair (pairFs u d)) := by
        cases us with
        | nil => exact absurd (List.eq_nil_of_length_eq_zero hlen) hne
        | cons u us =>
          obtain ⟨a, d, rfl, e1, _⟩ := hc
          exact ⟨a, u, d, rfl, e1⟩
      obtain ⟨a, u0, d0, rfl, e1⟩ := h2
      refine F.TemplateReader_node.on F rfl ?_
      unfold k_TemplateReader_node
      walk_at "L"
      refine ⟨F.is_identifier.can, wc_is_identifier_no F (inst_at e1) (by decide) (by decide) ⟨false, rfl, ?_⟩⟩
      walk_at "L"
      refine isi_yes F (inst_at e1) (by decide) ⟨true, rfl, ?_⟩
      walk_at "L"
      refine ⟨F.split_list.can, wc_split_list F hc hnp hnb hlim fun c l H1 x1 hln hcn hc1 hl1 => ?_⟩
      refine ⟨c, _, rfl, hc1, rfl, ?_⟩
      walk_at "L"
      have T1 := T.ext x1
      have isn : ∀ {Q : V → MH → Prop}, Q (.bool false) H1 → cmpW .Is t .none H1 Q := fun {Q} y => by
        cases tl with
        | int i => cases ht
        | fin => obtain rfl : t = .ref a_EMPTY := htl; exact is_none_ref y
        | name s => obtain ⟨c, _, rfl⟩ := htl; exact is_none_ref y
      refine isn ⟨false, rfl, ?_⟩
      walk_at "L"
      refine meth_at F (f := f_TemplateReader_parts) T1.tr (by decide) rfl ⟨F.TemplateReader_parts.can, wc_tparts F ih h4 ho T1 hl1 ⟨hlen, fun i f w e1 e2 => (hs1 i f w e1 e2).ext x1⟩ fun nl done H2 x2 hnl hn hnd => ?_⟩
      have T2 := T1.ext x2
      have hnl0 : H nl = none := x1.old_none hnl
      have up : ∀ a, H a ≠ none → H1 a ≠ none := fun a h => by
        cases e : H a with
        | none => exact absurd e h
        | some o => rw [x1 _ _ e]; exact fun e => by cases e
      have fin : ∀ (tn : V) (H3 : MH), Ext H2 H3 → NdL H3 σ (2 * ia) (2 * ib) tl tn → [V.int 4, .ref nl, tn].length ≤ lim ∧ ∀ c, H3 c = none → Q (.ref c) (H3.set c (.tuple [.int 4, .ref nl, tn])) := fun tn H3 x3 ht3 => by
        refine ⟨by show 3 ≤ lim; decide, fun c hc => ?_⟩
        have x4 := Ext.new (o := .tuple [.int 4, .ref nl, tn]) hc
        refine q (.ref c) _ (((x1.trans x2).trans x3).trans x4) (.lst (MH.set_self _ _ _) (x4 _ _ (x3 _ _ hn)) (fun h => h hnl0) hnd.len (fun i f w e1 e2 => (((hnd.at_ i f w e1 e2).weak up).ext x3).ext x4) (ht3.but (X := fun _ => False) (M := []) away_nil x4.but))
      cases tl with
      | int i => cases ht
      | fin =>
        obtain rfl : t = .ref a_EMPTY := htl
        walk_at "L"
        refine is_emp T2.base ⟨true, rfl, ?_⟩
        walk_at "L"
        exact fin _ H2 Ext.refl rfl
      | name s =>
        have htl' := htl
        obtain ⟨z, hz, rfl⟩ := htl
        walk_at "L"
        refine is_emp_sym T2.wk T2.base hz ⟨false, rfl, ?_⟩
        walk_at "L"
        refine meth_at F (f := f_TemplateReader_node) T2.tr (by decide) rfl ⟨F.TemplateReader_node.can, wc_tleaf F T2 (fun e => by cases e) htl' fun tn H3 x3 h3 => fin tn H3 x3 h3⟩
    · cases hs with
      | vec ha hl hx hlen hs1 =>
      rename_i a l us
      refine F.TemplateReader_node.on F rfl ?_
      unfold k_TemplateReader_node
      walk_at "L"
      refine ⟨F.is_identifier.can, wc_is_identifier_no F (inst_at ha) (by decide) (by decide) ⟨false, rfl, ?_⟩⟩
      walk_at "L"
      refine isi_no F (inst_at ha) (by decide) ⟨false, rfl, ?_⟩
      walk_at "L"
      refine isi_yes F (inst_at ha) (by decide) ⟨true, rfl, ?_⟩
      walk_at "L"
      refine meth_at F (f := f_TemplateReader_parts) T.tr (by decide) rfl ?_
      refine attr_at F ha (by decide) rfl rfl ⟨F.TemplateReader_parts.can, wc_tparts F ih h4 ho T hl ⟨hlen, hs1⟩ fun nl done H' x hnl hn hnd => ?_⟩
      refine ⟨by show 2 ≤ lim; decide, fun c hc => ?_⟩
      refine q (.ref c) _ (x.trans (Ext.new hc)) (.vec (MH.set_self _ _ _) (set_old hn hc) (fun h => h hnl) hnd.len fun i f w e1 e2 => (hnd.at_ i f w e1 e2).ext (Ext.new hc))
end
end N226
end
noncomputable section
open PySem PySem.W PySem.Calls PyProof.Rows
set_option maxRecDepth 10000
namespace N226
section
variable {C : Cx} {n : Nat} {ρ : Loc} {H : MH}
structure Rul (H : MH) (X : Addr → Prop) (σ : Syms) (ka kb : Int) (G : Fm) (ru : Addr) : Prop where
  all : ∃ pn dd nd ln na nb, H ru = some (.inst c_Rule [(n_pattern, .ref pn), (n_depths, .ref dd), (n_template, nd)]) ∧ H pn = some (.tuple [.int 4, .ref ln, .none, .ref a_NOTHING]) ∧ H ln = some (.list [.ref na, .ref nb]) ∧ ¬ X ln ∧ H na = some (.tuple [.int 1, .int ka]) ∧ H nb = some (.tuple [.int 1, .int kb]) ∧ Node H X σ ka kb G nd
theorem Rul.but {H' : MH} {X : Addr → Prop} {σ : Syms} {ka kb : Int} {G : Fm} {ru : Addr} {M : List Addr} (h : Rul H X σ ka kb G ru) (hm : Away H X M) (b : But M H H') : Rul H' X σ ka kb G ru := by
  obtain ⟨pn, dd, nd, ln, na, nb, h1, h2, h3, h4, h5, h6, h7⟩ := h
  exact ⟨pn, dd, nd, ln, na, nb, hm.inst b h1 (by decide), hm.tup b h2, b _ _ h3 (hm.out h3 (fun _ _ e => by cases e) (fun _ e => by cases e) (.inr h4)), h4, hm.tup b h5, hm.tup b h6, h7.but hm b⟩
theorem Rul.weak {X X' : Addr → Prop} {σ : Syms} {ka kb : Int} {G : Fm} {ru : Addr} (hX : ∀ a, X' a → X a) (h : Rul H X σ ka kb G ru) : Rul H X' σ ka kb G ru := by
  obtain ⟨pn, dd, nd, ln, na, nb, h1, h2, h3, h4, h5, h6, h7⟩ := h
  exact ⟨pn, dd, nd, ln, na, nb, h1, h2, h3, fun q => h4 (hX _ q), h5, h6, h7.weak hX⟩
theorem dom_up {H' : MH} (x : Ext H H') : ∀ a, H a ≠ none → H' a ≠ none := fun a h => by
  cases e : H a with
  | none => exact absurd e h
  | some o => rw [x _ _ e]; exact fun e => by cases e
theorem cmp_ne_int2 {Q : V → MH → Prop} (q : Q (.bool false) H) : cmpW .NotEq (.int 2) (.int 2) H Q := cmp_ne_int (by simpa using q)
theorem wc_read_rule (F : Fit C) {W : Wd} {σ : Syms} {k : Int} {kn u a b : Addr} {iu : Int} {ia ib d : Nat} {ep0 : Nat} {dv pat tem : V} {su : Str} {G : Fm} {Q : V → MH → Prop} (hw : Wk H W σ k) (hb : Base H)
    (hia : σ[ia]? = some (s_a, a)) (hib : σ[ib]? = some (s_b, b)) (hu : H u = some (.inst c_Symbol (symFs iu su))) (hsu : su ≠ s_dots) (hkn : H kn = some (.dict [] ep0)) (hdv : Chain H dv [pat, tem] (.ref a_EMPTY)) (hpat : Chain H pat [.ref u, .ref a, .ref b] (.ref a_EMPTY)) (ho : Ok d G) (hs : Shape H (· = W.r) (Ls σ) G tem)
    (q : ∀ ru H', Ext H H' → Rul H' (fun a => H a ≠ none) σ (2 * ia) (2 * ib) G ru → Q (.ref ru) H') : WC C (n + 2 * d + 9) (.ref f_read_rule) [dv, .ref kn] H Q := by
  obtain ⟨p0, d1, rfl, hp0, hab⟩ := id hpat
  have hnt : noBi tem = true := hs.noBi fun _ _ h => h.noBi
  have hne : ia ≠ ib := fun e => by rw [e, hib] at hia; have := congrArg (fun o => (o.map Prod.fst)) hia; simp at this; revert this; decide
  refine F.read_rule.on F rfl ?_
  unfold k_read_rule
  walk_at "L"
  refine ⟨F.split_list.can, wc_split_list F hdv hb.np (fun x hx => by simp at hx; rcases hx with rfl | rfl <;> first | rfl | exact hnt) (by show 2 ≤ lim; decide) fun c l H1 x1 hln hcn hc1 hl1 => ?_⟩
  refine ⟨c, _, rfl, hc1, rfl, ?_⟩
  walk_at "L"
  have hb1 := hb.ext x1
  refine isnot_emp hb1 ⟨false, rfl, ?_⟩
  walk_at "L"
  refine ⟨Callable_bi, wc_len2 hl1 ?_⟩
  refine cmp_ne_int2 ⟨false, rfl, ?_⟩
  walk_at "L"
  refine sub_list hl1 (by decide) (by decide) (v := .ref p0) rfl ?_
  have hp1 := x1 _ _ hp0
  have hu1 := x1 _ _ hu
  refine isi_yes F (inst_at hp1) (by decide) ⟨true, rfl, ?_⟩
  walk_at "L"
  refine attr_at F hp1 (by decide) rfl rfl ⟨F.is_identifier.can, wc_is_identifier_sym F hu1 ⟨true, rfl, ?_⟩⟩
  walk_at "L"
  refine attr_at F hp1 (by decide) rfl rfl ⟨F.is_ellipsis.can, wc_is_ellipsis_sym F hu1 hsu ⟨false, rfl, ?_⟩⟩
  walk_at "L"
  refine ⟨F.cPatternReader.can, mk_PatternReader F fun pr dd H2 x2 hprn hddn hpr hdd => ?_⟩
  have x02 := x1.trans x2
  refine meth_at F (f := f_PatternReader_node) hpr (by decide) rfl ?_
  have hd1 : noBi d1 = true := hab.noBi hb.np
  refine attr_at F (x2 _ _ hp1) (by decide) rfl hd1 ⟨F.PatternReader_node.can, ?_⟩
  have sa := hw.wld.sym ia _ hia
  have sb := hw.wld.sym ib _ hib
  refine wc_pattern F (hb.ext x02) hpr (x02 _ _ hkn) hdd (x02 _ _ sa) (x02 _ _ sb) (fun e => hne (Int.ofNat.inj e)) (ne_new (x1 _ _ hkn) hddn) (hab.ext x02) fun pn ln na nb ep' H3 b3 hln0 hdd3 hpn hln3 hna hnb => ?_
  have hdd0 : H dd = none := x1.old_none hddn
  have x03 : Ext H H3 := But.ext (x02.but.trans b3) (fun m hm => by simp at hm; subst hm; exact hdd0)
  have x13 : Ext H1 H3 := But.ext (x2.but.trans b3) (fun m hm => by simp at hm; subst hm; exact hddn)
  have hpr3 : H3 pr = some (.inst c_PatternReader [(n_literals, .ref kn), (n_depths, .ref dd)]) := b3 _ _ hpr (by simp; exact ne_of hpr hdd (fun e => by cases e))
  refine attr_at F hpr3 (by decide) rfl rfl ?_
  refine attr_at F hpr3 (by decide) rfl rfl ⟨F.cTemplateReader.can, mk_TemplateReader F fun tr H4 x4 htrn htr => ?_⟩
  refine meth_at F (f := f_TemplateReader_node) htr (by decide) rfl ?_
  have x04 := x03.trans x4
  walk_at "L"
  refine sub_list (x4 _ _ (x13 _ _ hl1)) (by decide) (by decide) (v := tem) rfl ⟨F.TemplateReader_node.can, ?_⟩
  have T : TE H4 W σ k tr dd ia ib := ⟨hw.ext x04, hb.ext x04, ⟨a, hia⟩, ⟨b, hib⟩, htr, ⟨ep', x4 _ _ hdd3⟩⟩
  rw [show n + 2 * d + 8 = n + 3 + 2 * d + 5 by walk_at "O"]
  refine tnode_all F (n := n + 3) d ho (hs.ext x04) T fun nd H5 x5 hnd => ?_
  refine ⟨F.cRule.can, mk_Rule F fun ru H6 x6 hrun hru => ?_⟩
  have x46 := x5.trans x6
  refine q ru H6 (x04.trans x46) ⟨pn, dd, nd, ln, na, nb, hru, x46 _ _ (x4 _ _ hpn), x46 _ _ (x4 _ _ hln3), ?_, x46 _ _ (x4 _ _ hna), x46 _ _ (x4 _ _ hnb), (hnd.weak (dom_up x04)).ext x6⟩
  exact fun h => h (x02.old_none hln0)
end
end N226
end
noncomputable section
open PySem PySem.W PySem.Calls PyProof.Rows
set_option maxRecDepth 10000
namespace N226
section
variable {C : Cx} {n : Nat} {ρ : Loc} {H : MH}
structure Mac (H : MH) (X : Addr → Prop) (σ : Syms) (ka kb : Int) (G : Fm) (mc s : Addr) : Prop where
  all : ∃ ll rl ru, H mc = some (.inst c_Macro [(n_literals, .ref ll), (n_rules, .ref rl), (n_scope, .ref s)]) ∧ H rl = some (.list [.ref ru]) ∧ ¬ X rl ∧ Rul H X σ ka kb G ru
theorem Mac.but {H' : MH} {X : Addr → Prop} {σ : Syms} {ka kb : Int} {G : Fm} {mc s : Addr} {M : List Addr} (h : Mac H X σ ka kb G mc s) (hm : Away H X M) (b : But M H H') : Mac H' X σ ka kb G mc s := by
  obtain ⟨ll, rl, ru, h1, h2, h3, h4⟩ := h
  exact ⟨ll, rl, ru, hm.inst b h1 (by decide), b _ _ h2 (hm.out h2 (fun _ _ e => by cases e) (fun _ e => by cases e) (.inr h3)), h3, h4.but hm b⟩
theorem Mac.weak {X X' : Addr → Prop} {σ : Syms} {ka kb : Int} {G : Fm} {mc s : Addr} (hX : ∀ a, X' a → X a) (h : Mac H X σ ka kb G mc s) : Mac H X' σ ka kb G mc s := by
  obtain ⟨ll, rl, ru, h1, h2, h3, h4⟩ := h
  exact ⟨ll, rl, ru, h1, h2, fun q => h3 (hX _ q), h4.weak hX⟩
theorem wc_len3 {l : Addr} {a b c : V} {Q : V → MH → Prop} (h : H l = some (.list [a, b, c])) (q : Q (.int 3) H) : WC C n (.bi "len") [.ref l] H Q := WC_len_list h (by show 3 ≤ lim; decide) q
theorem kk_step {s r : K} {R : Fl → Loc → MH → Prop} (h : ∀ P : Loc → MH → Prop, (∀ ρ H, wpK C n r ρ H R → P ρ H) → wpK C n s ρ H (seqQ P R)) : wpK C n (.seq s r) ρ H R := by
  rw [kk_seq]
  exact h _ fun _ _ h => h
theorem wc_read_rules (F : Fit C) {W : Wd} {σ : Syms} {k : Int} {u a b s d0 d1 sr : Addr} {iu isr : Int} {ia ib d : Nat} {fv rv pat tem : V} {su : Str} {G : Fm} {Q : V → MH → Prop} (hw : Wk H W σ k) (hb : Base H) (hsc : Sc H s d0 d1)
    (hia : σ[ia]? = some (s_a, a)) (hib : σ[ib]? = some (s_b, b)) (hu : H u = some (.inst c_Symbol (symFs iu su))) (hsu : su ≠ s_dots) (hsr : H sr = some (.inst c_Symbol (symFs isr s_syntax_rules)))
    (hfv : Chain H fv [.ref sr, .ref a_EMPTY, rv] (.ref a_EMPTY)) (hrv : Chain H rv [pat, tem] (.ref a_EMPTY)) (hpat : Chain H pat [.ref u, .ref a, .ref b] (.ref a_EMPTY)) (ho : Ok d G) (hs : Shape H (· = W.r) (Ls σ) G tem)
    (q : ∀ mc H', Ext H H' → Mac H' (fun a => H a ≠ none) σ (2 * ia) (2 * ib) G mc s → Q (.ref mc) H') : WC C (n + 2 * d + 10) (.ref f_read_rules) [fv, .ref s, .ref W.w] H Q := by
  obtain ⟨p0, dd1, rfl, hp0, _⟩ := id hrv
  refine F.read_rules.on F rfl ?_
  unfold k_read_rules
  refine kk_step fun P hP => ?_
  walk_at "L"
  refine ⟨F.split_list.can, wc_split_list F hfv hb.np (fun x hx => by simp at hx; rcases hx with rfl | rfl | rfl <;> rfl) (by show 3 ≤ lim; decide) fun c l H1 x1 hln hcn hc1 hl1 => ?_⟩
  refine ⟨c, _, rfl, hc1, rfl, hP _ _ ?_⟩
  clear P hP
  have hb1 := hb.ext x1
  refine kk_step fun P hP => ?_
  walk_at "L"
  refine is_emp hb1 ⟨true, rfl, ?_⟩
  walk_at "L"
  refine ⟨Callable_bi, wc_len3 hl1 ?_⟩
  refine cmp_eq_int ⟨false, rfl, ?_⟩
  walk_at "L"
  refine sub_list hl1 (by decide) (by decide) (v := .ref sr) rfl ⟨F.is_rules_word.can, ?_⟩
  refine wc_is_rules_word F (n := n + 2 * d + 5) (hsc.ext x1) (x1 _ _ hsr) fun H2 x2 => ⟨true, rfl, ?_⟩
  walk_at "L"
  refine hP _ _ ?_
  clear P hP
  have hb2 := hb1.ext x2
  have hl2 := x2 _ _ hl1
  refine kk_step fun P hP => ?_
  walk_at "L"
  refine isnot_emp hb2 ⟨false, rfl, ?_⟩
  walk_at "L"
  refine ⟨Callable_bi, wc_len3 hl2 ?_⟩
  refine cmp_lt_int ⟨false, rfl, ?_⟩
  walk_at "L"
  refine hP _ _ ?_
  clear P hP
  refine kk_step fun P hP => ?_
  walk_at "L"
  refine sub_list hl2 (by decide) (by decide) (v := .ref a_EMPTY) rfl ⟨F.literal_keys.can, ?_⟩
  refine wc_literal_keys F (n := n + 2 * d + 5) hb2 fun ll H3 x3 hlln hll => hP _ _ ?_
  clear P hP
  have x03 := (x1.trans x2).trans x3
  walk_at "L"
  intro kn hkn
  have x4 := Ext.new (o := .dict [] 0) hkn
  refine ⟨_, iter_list (x4 _ _ hll), FR.done (by simp only [Src.item, x4 _ _ hll]; rfl) ?_⟩
  walk_at "L"
  have hl4 := x4 _ _ (x3 _ _ hl2)
  refine ⟨l, _, rfl, .inl hl4, by show 3 ≤ lim; decide, fun c2 hc2 => ?_⟩
  have x5 := Ext.new (o := .list (cut [.ref sr, .ref a_EMPTY, .ref p0] (some 2) none)) hc2
  have x05 := (x03.trans x4).trans x5
  refine ⟨_, iter_list (MH.set_self _ _ _), ?_⟩
  refine CP.item (v := .ref p0) (by simp only [Src.item, MH.set_self]; rfl) ?_
  walk_at "L"
  refine ⟨F.read_rule.can, wc_read_rule F (hw.ext x05) (hb.ext x05) hia hib (x05 _ _ hu) hsu (x5 _ _ (MH.set_self _ _ _)) (hrv.ext x05) (hpat.ext x05) ho (hs.ext x05) fun ru H6 x6 hru => ?_⟩
  refine ⟨by decide, ?_⟩
  refine CP.done (by simp only [Src.item, Src.next, x6 _ _ (MH.set_self _ _ _)]; rfl) fun rl hrl => ?_
  have x7 := Ext.new (o := .list [V.ref ru]) hrl
  refine ⟨F.cMacro.can, mk_Macro F fun mc H8 x8 hmcn hmc => ?_⟩
  have x68 := x7.trans x8
  refine q mc H8 ((x05.trans x6).trans x68) ⟨ll, rl, ru, hmc, x8 _ _ (MH.set_self _ _ _), fun h => h ((x05.trans x6).old_none hrl), ?_⟩
  exact (hru.weak (dom_up x05)).but (M := []) away_nil x68.but
end
end N226
end
noncomputable section
open PySem PySem.W PySem.Calls PyProof.Rows
set_option maxRecDepth 10000
namespace N226
section
variable {C : Cx} {n : Nat} {ρ : Loc} {H : MH}
theorem isi_noT (F : Fit C) {x D : Addr} {T : String} {Q : V → MH → Prop} (e : instOf H x = some D) (hm : (D, T) ∈ IST) (ht : typeOf (.type T) = pure (.type "type")) (q : Q (.bool false) H) : Callable C (.bi "isinstance") ∧ WC C n (.bi "isinstance") [.ref x, .ty T] H Q := by
  have h := F.ist (D, T) hm
  exact ⟨Callable_bi, WC_isi_noT e h ht q⟩
theorem wc_is_whole_emp (F : Fit C) {Q : V → MH → Prop} (hb : Base H) (q : Q (.bool false) H) : WC C (n + 1) (.ref f_is_whole) [.ref a_EMPTY] H Q := by
  refine F.is_whole.on F rfl ?_
  unfold k_is_whole
  walk_at "L"
  refine isi_noT F hb.inst (by decide) rfl ⟨false, rfl, ?_⟩
  exact q
theorem wc_same_atom_emp (F : Fit C) {Q : V → MH → Prop} (hb : Base H) (q : Q (.bool true) H) : WC C (n + 2) (.ref f_same_atom) [.ref a_EMPTY, .ref a_EMPTY] H Q := by
  refine F.same_atom.on F rfl ?_
  unfold k_same_atom
  refine kk_step fun P hP => ?_
  walk_at "L"
  refine isi_noT F hb.inst (by decide) rfl ⟨false, rfl, ?_⟩
  walk_at "L"
  refine isi_noT F hb.inst (by decide) rfl ⟨false, rfl, ?_⟩
  walk_at "L"
  refine hP _ _ ?_
  clear P hP
  refine kk_step fun P hP => ?_
  walk_at "L"
  refine ⟨F.is_whole.can, wc_is_whole_emp F hb ⟨false, rfl, ?_⟩⟩
  walk_at "L"
  refine hP _ _ ?_
  clear P hP
  refine kk_step fun P hP => ?_
  walk_at "L"
  refine isi_no F hb.inst (by decide) ⟨false, rfl, ?_⟩
  walk_at "L"
  refine hP _ _ ?_
  clear P hP
  refine kk_step fun P hP => ?_
  walk_at "L"
  refine isi_no F hb.inst (by decide) ⟨false, rfl, ?_⟩
  walk_at "L"
  refine hP _ _ ?_
  clear P hP
  refine kk_step fun P hP => ?_
  walk_at "L"
  refine isi_no F hb.inst (by decide) ⟨false, rfl, ?_⟩
  walk_at "L"
  refine hP _ _ ?_
  clear P hP
  refine kk_step fun P hP => ?_
  walk_at "L"
  refine isi_no F hb.inst (by decide) ⟨false, rfl, ?_⟩
  walk_at "L"
  refine hP _ _ ?_
  clear P hP
  walk_at "L"
  refine isi_yes F hb.inst (by decide) ⟨true, rfl, ?_⟩
  walk_at "L"
  refine isi_yes F hb.inst (by decide) ⟨true, rfl, ?_⟩
  walk_at "L"
  exact is_emp hb q
theorem wc_fits_name (F : Fit C) {mt fd nd : Addr} {m s : V} {key : Int} {es : List (V × V)} {ep : Nat} {v : V} {Q : V → MH → Prop} (hm : H mt = some (.inst c_Matcher [(n_macro, m), (n_scope, s), (n_found, .ref fd)])) (hfd : H fd = some (.dict es ep)) (hn : H nd = some (.tuple [.int 1, .int key])) (hk : atKeyV es (.int key) = none) (hl : es.length ≤ 100)
    (q : ∀ ep', Q (.bool true) (H.set fd (.dict (es ++ [(.int key, v)]) ep'))) : WC C (n + 1) (.ref f_Matcher_fits) [.ref mt, .ref nd, v] H Q := by
  refine F.Matcher_fits.on F rfl ?_
  unfold k_Matcher_fits
  refine kk_step fun P hP => ?_
  walk_at "L"
  refine sub_tuple hn (by decide) (by decide) (v := .int 1) rfl (hP _ _ ?_)
  clear P hP
  refine kk_step fun P hP => ?_
  walk_at "L"
  refine cmp_eq_int ⟨true, rfl, ?_⟩
  walk_at "L"
  refine attr_at F hm (by decide) rfl rfl ?_
  refine sub_tuple hn (by decide) (by decide) (v := .int key) rfl ?_
  refine WItm_dict hfd rfl (Nat.le_trans hl (by decide)) fun ep' => ?_
  rw [putV_new hk]
  exact q ep'
theorem wc_fits_nothing (F : Fit C) {mt : Addr} {Q : V → MH → Prop} (hb : Base H) (q : Q (.bool true) H) : WC C (n + 3) (.ref f_Matcher_fits) [.ref mt, .ref a_NOTHING, .ref a_EMPTY] H Q := by
  refine F.Matcher_fits.on F rfl ?_
  unfold k_Matcher_fits
  refine kk_step fun P hP => ?_
  walk_at "L"
  refine sub_tuple hb.nothing (by decide) (by decide) (v := .int 3) rfl (hP _ _ ?_)
  clear P hP
  refine kk_step fun P hP => ?_
  walk_at "L"
  refine cmp_eq_int ⟨false, rfl, ?_⟩
  walk_at "L"
  refine hP _ _ ?_
  clear P hP
  refine kk_step fun P hP => ?_
  walk_at "L"
  refine cmp_eq_int ⟨false, rfl, ?_⟩
  walk_at "L"
  refine hP _ _ ?_
  clear P hP
  refine kk_step fun P hP => ?_
  walk_at "L"
  refine cmp_eq_int ⟨false, rfl, ?_⟩
  walk_at "L"
  refine hP _ _ ?_
  clear P hP
  refine kk_step fun P hP => ?_
  walk_at "L"
  refine cmp_eq_int ⟨false, rfl, ?_⟩
  walk_at "L"
  refine hP _ _ ?_
  clear P hP
  walk_at "L"
  refine sub_tuple hb.nothing (by decide) (by decide) (v := .ref a_EMPTY) rfl ⟨F.same_atom.can, wc_same_atom_emp F hb q⟩
theorem wc_fits_row (F : Fit C) {mt fd pn ln na nb : Addr} {m s va vb dv : V} {ka kb : Int} {ep : Nat} {Q : V → MH → Prop} (hb : Base H) (hm : H mt = some (.inst c_Matcher [(n_macro, m), (n_scope, s), (n_found, .ref fd)])) (hfd : H fd = some (.dict [] ep))
    (hpn : H pn = some (.tuple [.int 4, .ref ln, .none, .ref a_NOTHING])) (hln : H ln = some (.list [.ref na, .ref nb])) (hna : H na = some (.tuple [.int 1, .int ka])) (hnb : H nb = some (.tuple [.int 1, .int kb])) (hk : ka ≠ kb) (hc : Chain H dv [va, vb] (.ref a_EMPTY)) (ba : noBi va = true) (bb : noBi vb = true)
    (q : ∀ ep' H', But [fd] H H' → H' fd = some (.dict [(.int ka, va), (.int kb, vb)] ep') → Q (.bool true) H') : WC C (n + 4) (.ref f_Matcher_fits_row) [.ref mt, .ref pn, dv] H Q := by
  obtain ⟨p1, d1, rfl, h1, hc1⟩ := id hc
  obtain ⟨p2, d2, rfl, h2, hc2⟩ := id hc1
  obtain rfl : d2 = .ref a_EMPTY := hc2
  refine F.Matcher_fits_row.on F rfl ?_
  unfold k_Matcher_fits_row
  refine kk_step fun P hP => ?_
  walk_at "L"
  refine sub_tuple hpn (by decide) (by decide) (v := .ref ln) rfl ?_
  refine sub_tuple hpn (by decide) (by decide) (v := .none) rfl ?_
  refine sub_tuple hpn (by decide) (by decide) (v := .ref a_NOTHING) rfl ?_
  refine ⟨by show 3 ≤ lim; decide, fun c hcn => ⟨c, _, rfl, MH.set_self _ _ _, rfl, hP _ _ ?_⟩⟩
  clear P hP
  have x0 := Ext.new (o := .tuple [V.ref ln, .none, .ref a_NOTHING]) hcn
  refine kk_step fun P hP => ?_
  wide_open using (List.reverse_cons, List.reverse_nil)
  refine isnot_none_none ⟨false, rfl, ?_⟩
  walk_at "L"
  refine hP _ _ ?_
  clear P hP
  wide_open using (List.reverse_cons, List.reverse_nil)
  refine ⟨_, iter_list (x0 _ _ hln), ?_⟩
  refine FR.item (v := .ref na) (by simp only [Src.item, x0 _ _ hln]; rfl) ?_
  walk_at "L"
  refine isi_yes F (inst_at (x0 _ _ h1)) (by decide) ⟨true, rfl, ?_⟩
  walk_at "L"
  refine meth_at F (f := f_Matcher_fits) (x0 _ _ hm) (by decide) rfl ?_
  refine attr_at F (x0 _ _ h1) (by decide) rfl ba ⟨F.Matcher_fits.can, wc_fits_name F (x0 _ _ hm) (x0 _ _ hfd) (x0 _ _ hna) rfl (by decide) fun ep1 => ⟨true, rfl, ?_⟩⟩
  walk_at "L"
  have b1 : But [fd] H ((H.set c (.tuple [V.ref ln, .none, .ref a_NOTHING])).set fd (.dict [(.int ka, va)] ep1)) := x0.but.trans (But.set (by simp))
  have av : Away H (fun _ => False) [fd] := fun z hz => by simp at hz; subst hz; exact .inl ⟨_, _, hfd⟩
  have hln1 : ∀ {H'}, But [fd] H H' → H' ln = some (.list [.ref na, .ref nb]) := fun b => b _ _ hln (av.out hln (fun _ _ e => by cases e) (fun _ e => by cases e) (.inr fun h => h))
  refine attr_at F (av.inst b1 h1 (by decide)) (by decide) rfl rfl ?_
  refine FR.item (v := .ref nb) (by simp only [Src.item, Src.next, hln1 b1]; rfl) ?_
  walk_at "L"
  refine isi_yes F (inst_at (av.inst b1 h2 (by decide))) (by decide) ⟨true, rfl, ?_⟩
  walk_at "L"
  refine meth_at F (f := f_Matcher_fits) (av.inst b1 hm (by decide)) (by decide) rfl ?_
  have hk1 : atKeyV [(V.int ka, va)] (.int kb) = none := by rw [atKey_cons, if_neg (by simpa using hk)]; rfl
  refine attr_at F (av.inst b1 h2 (by decide)) (by decide) rfl bb ⟨F.Matcher_fits.can, wc_fits_name F (av.inst b1 hm (by decide)) (MH.set_self _ _ _) (av.tup b1 hnb) hk1 (by show 1 ≤ 100; decide) fun ep2 => ⟨true, rfl, ?_⟩⟩
  walk_at "L"
  have b2 : But [fd] H (((H.set c (.tuple [V.ref ln, .none, .ref a_NOTHING])).set fd (.dict [(.int ka, va)] ep1)).set fd (.dict [(.int ka, va), (.int kb, vb)] ep2)) := b1.trans (But.set (by simp))
  refine attr_at F (av.inst b2 h2 (by decide)) (by decide) rfl rfl ?_
  refine FR.done (by simp only [Src.item, Src.next, hln1 b2]; rfl) ?_
  walk_at "L"
  refine meth_at F (f := f_Matcher_fits) (av.inst b2 hm (by decide)) (by decide) rfl ⟨F.Matcher_fits.can, wc_fits_nothing F (hb.but av b2) ?_⟩
  exact q ep2 _ b2 (MH.set_self _ _ _)
end
end N226
end
noncomputable section
open PySem PySem.W PySem.Calls PyProof.Rows
set_option maxRecDepth 10000
namespace N226
section
variable {C : Cx} {n : Nat} {ρ : Loc} {H : MH}
theorem wc_fits_pat (F : Fit C) {mt fd pn ln na nb : Addr} {m s va vb dv : V} {ka kb : Int} {ep : Nat} {Q : V → MH → Prop} (hb : Base H) (hm : H mt = some (.inst c_Matcher [(n_macro, m), (n_scope, s), (n_found, .ref fd)])) (hfd : H fd = some (.dict [] ep))
    (hpn : H pn = some (.tuple [.int 4, .ref ln, .none, .ref a_NOTHING])) (hln : H ln = some (.list [.ref na, .ref nb])) (hna : H na = some (.tuple [.int 1, .int ka])) (hnb : H nb = some (.tuple [.int 1, .int kb])) (hk : ka ≠ kb) (hc : Chain H dv [va, vb] (.ref a_EMPTY)) (ba : noBi va = true) (bb : noBi vb = true)
    (q : ∀ ep' H', But [fd] H H' → H' fd = some (.dict [(.int ka, va), (.int kb, vb)] ep') → Q (.bool true) H') : WC C (n + 5) (.ref f_Matcher_fits) [.ref mt, .ref pn, dv] H Q := by
  refine F.Matcher_fits.on F rfl ?_
  unfold k_Matcher_fits
  refine kk_step fun P hP => ?_
  walk_at "L"
  refine sub_tuple hpn (by decide) (by decide) (v := .int 4) rfl (hP _ _ ?_)
  clear P hP
  refine kk_step fun P hP => ?_
  walk_at "L"
  refine cmp_eq_int ⟨false, rfl, ?_⟩
  walk_at "L"
  refine hP _ _ ?_
  clear P hP
  refine kk_step fun P hP => ?_
  walk_at "L"
  refine cmp_eq_int ⟨false, rfl, ?_⟩
  walk_at "L"
  refine hP _ _ ?_
  clear P hP
  refine kk_step fun P hP => ?_
  walk_at "L"
  refine cmp_eq_int ⟨true, rfl, ?_⟩
  walk_at "L"
  exact meth_at F hm (by decide) rfl ⟨F.Matcher_fits_row.can, wc_fits_row F hb hm hfd hpn hln hna hnb hk hc ba bb q⟩
theorem wc_match (F : Fit C) {X : Addr → Prop} {σ : Syms} {ka kb : Int} {G : Fm} {ru : Addr} {mc s m va vb form : V} {Q : V → MH → Prop} (hb : Base H) (hr : Rul H X σ ka kb G ru) (hk : ka ≠ kb) (hf : Chain H form [m, va, vb] (.ref a_EMPTY)) (ba : noBi va = true) (bb : noBi vb = true)
    (q : ∀ fd ep H', Ext H H' → H fd = none → H' fd = some (.dict [(.int ka, va), (.int kb, vb)] ep) → Q (.ref fd) H') : WC C (n + 6) (.ref f_match) [.ref ru, mc, form, s] H Q := by
  obtain ⟨pn, dd, nd, ln, na, nb, h1, h2, h3, h4, h5, h6, h7⟩ := hr
  obtain ⟨p0, d0, rfl, hp0, hc⟩ := id hf
  have hd0 : noBi d0 = true := hc.noBi hb.np
  refine F.match.on F rfl ?_
  unfold k_match
  refine kk_step fun P hP => ?_
  walk_at "L"
  refine ⟨F.cMatcher.can, mk_Matcher F fun mt fd H1 x1 hmtn hfdn hmt hfd => hP _ _ ?_⟩
  clear P hP
  refine kk_step fun P hP => ?_
  walk_at "L"
  refine meth_at F (f := f_Matcher_fits) hmt (by decide) rfl ?_
  refine attr_at F (x1 _ _ h1) (by decide) rfl rfl ?_
  refine attr_at F (x1 _ _ hp0) (by decide) rfl hd0 ⟨F.Matcher_fits.can, wc_fits_pat F (hb.ext x1) hmt hfd (x1 _ _ h2) (x1 _ _ h3) (x1 _ _ h5) (x1 _ _ h6) hk (hc.ext x1) ba bb fun ep' H2 b2 hfd2 => ⟨true, rfl, ?_⟩⟩
  walk_at "L"
  refine hP _ _ ?_
  clear P hP
  walk_at "L"
  have av : Away H1 (fun _ => False) [fd] := fun z hz => by simp at hz; subst hz; exact .inl ⟨_, _, hfd⟩
  refine attr_at F (av.inst b2 hmt (by decide)) (by decide) rfl rfl ?_
  exact q fd ep' H2 (But.ext (x1.but.trans b2) (fun z hz => by simp at hz; subst hz; exact hfdn)) hfdn hfd2
theorem wc_first_fitting (F : Fit C) {X : Addr → Prop} {σ : Syms} {ka kb : Int} {G : Fm} {mc s : Addr} {s' m va vb form : V} {Q : V → MH → Prop} (hb : Base H) (hm : Mac H X σ ka kb G mc s) (hk : ka ≠ kb) (hf : Chain H form [m, va, vb] (.ref a_EMPTY)) (ba : noBi va = true) (bb : noBi vb = true)
    (q : ∀ c ru fd ep H', Ext H H' → H fd = none → Rul H' X σ ka kb G ru → H' c = some (.tuple [.ref ru, .ref fd]) → H' fd = some (.dict [(.int ka, va), (.int kb, vb)] ep) → Q (.ref c) H') : WC C (n + 7) (.ref f_first_fitting) [.ref mc, form, s'] H Q := by
  obtain ⟨ll, rl, ru, h1, h2, h3, h4⟩ := hm
  refine F.first_fitting.on F rfl ?_
  unfold k_first_fitting
  refine kk_step fun P hP => ?_
  walk_at "L"
  refine attr_at F h1 (by decide) rfl rfl ⟨_, iter_list h2, ?_⟩
  refine FR.item (v := .ref ru) (by simp only [Src.item, h2]; rfl) ?_
  walk_at "L"
  refine ⟨F.match.can, wc_match F hb h4 hk hf ba bb fun fd ep H1 x1 hfdn hfd => ?_⟩
  walk_at "L"
  refine isnot_none_ref ⟨true, rfl, ?_⟩
  walk_at "L"
  refine ⟨by show 2 ≤ lim; decide, fun c hc => ?_⟩
  have x2 := Ext.new (o := .tuple [V.ref ru, .ref fd]) hc
  exact q c ru fd ep _ (x1.trans x2) hfdn (h4.but (M := []) away_nil (x1.trans x2).but) (MH.set_self _ _ _) (x2 _ _ hfd)
noncomputable def Lw (va vb : V) (α : Syms) : Lf → V → Prop
  | .name s, v => (s = s_a ∧ v = va) ∨ (s = s_b ∧ v = vb) ∨ (s ≠ s_a ∧ s ≠ s_b ∧ ∃ c, α.lookup s = some c ∧ v = .ref c)
  | .int i, v => v = .int i
  | .fin, v => v = .ref a_EMPTY
theorem Lw.more {va vb : V} {α β : Syms} {x : Lf} {v : V} (h : Lw va vb α x v) : Lw va vb (α ++ β) x v := by
  cases x with
  | name s =>
    rcases h with h | h | ⟨h1, h2, c, e, e'⟩
    · exact .inl h
    · exact .inr (.inl h)
    · exact .inr (.inr ⟨h1, h2, c, by rw [List.lookup_append, e]; rfl, e'⟩)
  | int i => exact h
  | fin => exact h
structure WSt (H : MH) (W : Wd) (σ : Syms) (k0 k : Int) (wr al mc s : Addr) (α : Syms) : Prop where
  wk : Wk H W σ k
  base : Base H
  hwr : H wr = some (.inst c_Writer [(n_macro, .ref mc), (n_world, .ref W.w), (n_aliases, .ref al)])
  hmc : ∃ ll rl, H mc = some (.inst c_Macro [(n_literals, ll), (n_rules, rl), (n_scope, .ref s)])
  hal : ∃ es ep, H al = some (.dict es ep) ∧ es.length = α.length ∧ ∀ (i : Nat) t c, σ[i]? = some (t, c) → atKeyV es (.int (2 * (i : Int))) = (α.lookup t).map V.ref
  ald : al ≠ W.d
  nodup : (α.map (·.1)).Nodup
  nm : ∀ p ∈ α, p.1 ∈ NM
  lek : k0 ≤ k
  ali : ∀ p ∈ α, ∃ j c, σ.lookup p.1 = some c ∧ k0 < j ∧ j ≤ k ∧ H p.2 = some (.inst c_Alias (aliasFs (.int j) (.ref c) (.ref s)))
theorem Wld.frame {H' : MH} {W : Wd} {σ : Syms} {k : Int} {M : List Addr} (h : Wld H W σ k) (b : But M H H') (hm : ∀ m ∈ M, (m ≠ W.d ∧ ∃ es ep, H m = some (.dict es ep)) ∨ (m ≠ W.r ∧ ∃ xs, H m = some (.list xs))) : Wld H' W σ k := by
  obtain ⟨ti, op, hn⟩ := h.names
  obtain ⟨ep, hd⟩ := h.text
  have inst : ∀ {a Cl : Addr} {fs : List (Nat × V)}, H a = some (.inst Cl fs) → H' a = some (.inst Cl fs) := fun e => b _ _ e fun q => by
    rcases hm _ q with ⟨_, _, _, e'⟩ | ⟨_, _, e'⟩ <;> · rw [e] at e'; cases e'
  refine ⟨⟨ti, op, inst hn⟩, inst h.table, b _ _ h.rows fun q => ?_, ⟨ep, b _ _ hd fun q => ?_⟩, fun i p e => inst (h.sym i p e), h.nodup⟩
  · rcases hm _ q with ⟨_, _, _, e'⟩ | ⟨e, _⟩
    · rw [h.rows] at e'; cases e'
    · exact e rfl
  · rcases hm _ q with ⟨e, _⟩ | ⟨_, _, e'⟩
    · exact e rfl
    · rw [hd] at e'; cases e'
theorem wc_walias (F : Fit C) {W : Wd} {σ α : Syms} {k0 k : Int} {wr al mc s c : Addr} {t : Str} {Q : V → MH → Prop} (S : WSt H W σ k0 k wr al mc s α) (ht : σ.lookup t = some c)
    (q : ∀ a β k' H', But [W.w, al] H H' → WSt H' W σ k0 k' wr al mc s (α ++ β) → (α ++ β).lookup t = some a → Q (.ref a) H') : WC C (n + 4) (.ref f_Writer_alias) [.ref wr, .ref c] H Q := by
  obtain ⟨i, hi, hc, hnm⟩ := S.wk.sym ht
  obtain ⟨ll, rl, hmc⟩ := S.hmc
  obtain ⟨es, ep, hal, hlen, hkey⟩ := S.hal
  have hα : α.length ≤ 8 := by
    have := nodup_le S.nodup (ys := NM) (fun x hx => by
      obtain ⟨p, hp, rfl⟩ := List.mem_map.mp hx
      exact S.nm p hp)
    simpa [NM] using this
  refine F.Writer_alias.on F rfl ?_
  unfold k_Writer_alias
  refine kk_step fun P hP => ?_
  walk_at "L"
  refine ⟨F.key_of.can, wc_key_of_sym F hc (hP _ _ ?_)⟩
  clear P hP
  refine kk_step fun P hP => ?_
  walk_at "L"
  refine attr_at F S.hwr (by decide) rfl rfl (notin_dict hal rfl ?_)
  rw [hkey i t c hi]
  cases hl : α.lookup t with
  | some a =>
    wide_open using (Option.map_some, Option.isSome_some)
    refine hP _ _ ?_
    clear P hP
    walk_at "L"
    refine attr_at F S.hwr (by decide) rfl rfl (sub_dict hal rfl (v := .ref a) (by rw [hkey i t c hi, hl]; rfl) ?_)
    exact q a [] k H Ext.refl.but (by simpa using S) (by simpa using hl)
  | none =>
    wide_open using (Option.map_none, Option.isSome_none)
    refine attr_at F S.hwr (by decide) rfl rfl ?_
    refine attr_at F hmc (by decide) rfl rfl ?_
    refine attr_at F S.hwr (by decide) rfl rfl ⟨F.alias_of.can, wc_alias_of F S.wk.wld fun a H1 b1 w1 han ha => ?_⟩
    have nw : ∀ {x : Addr} {o : MO}, H x = some o → (∀ fs, o ≠ .inst c_Names fs) → H1 x = some o := fun {x o} e h => b1 _ _ e (by
      obtain ⟨ti, op, hn⟩ := S.wk.wld.names
      simp; exact ne_of e hn (h _))
    have hwr1 := nw S.hwr (fun _ e => by injection e with e; revert e; decide)
    have hal1 := nw hal (fun _ e => by cases e)
    refine attr_at F hwr1 (by decide) rfl rfl ?_
    refine WItm_dict hal1 rfl (by rw [hlen]; exact Nat.le_trans hα (by decide)) fun ep' => hP _ _ ?_
    clear P hP
    have hk : atKeyV es (.int (2 * (i : Int))) = none := by rw [hkey i t c hi, hl]; rfl
    rw [putV_new hk]
    have nal : ∀ {x : Addr} {o : MO}, H1 x = some o → (∀ es ep, o ≠ .dict es ep) → (H1.set al (.dict (es ++ [(.int (2 * (i : Int)), .ref a)]) ep')) x = some o := fun e h => by
      rw [MH.set_ne _ _ (ne_of e hal1 (h _ _))]; exact e
    have hwr2 := nal hwr1 (fun _ _ e => by cases e)
    walk_at "L"
    refine attr_at F hwr2 (by decide) rfl rfl (sub_dict (MH.set_self _ _ _) rfl (v := .ref a) (by rw [atKey_app, hk, atKey_cons]; simp) ?_)
    have hα' : (α ++ [(t, a)]).lookup t = some a := by rw [List.lookup_append, hl]; simp
    refine q a [(t, a)] (k + 1) _ ((b1.more (fun z hz => by simp at hz; subst hz; simp)).trans (But.set (by simp))) ⟨⟨?_, S.wk.nm⟩, ⟨?_, ?_⟩, hwr2, ⟨ll, rl, ?_⟩, ⟨_, ep', MH.set_self _ _ _, by simp [hlen], ?_⟩, S.ald, ?_, ?_, ?_, ?_⟩ hα'
    · exact w1.frame (M := [al]) (But.set (by simp)) (fun z hz => by simp at hz; subst hz; exact .inl ⟨S.ald, _, _, hal1⟩)
    · exact nal (nw S.base.emp (fun _ e => by cases e)) (fun _ _ e => by cases e)
    · exact nal (nw S.base.nothing (fun _ e => by cases e)) (fun _ _ e => by cases e)
    · exact nal (nw hmc (fun _ e => by injection e with e; revert e; decide)) (fun _ _ e => by cases e)
    · intro j u b hj
      rw [atKey_app, hkey j u b hj, atKey_cons, List.lookup_append]
      by_cases hij : i = j
      · subst hij
        rw [hi] at hj; cases hj
        rw [hl]; simp
      · have : ¬ (V.int (2 * (i : Int))) = .int (2 * (j : Int)) := by simp; walk_at "O"
        rw [if_neg this, atKey_nil]
        have hne : u ≠ t := fun e => by subst e; exact hij (idx_uniq S.wk.wld.nodup hi hj)
        have : (u == t) = false := by simpa using hne
        simp [List.lookup_cons, this]
    · rw [List.map_append, List.nodup_append]
      refine ⟨S.nodup, by simp, fun x hx y hy => ?_⟩
      simp at hy
      subst hy
      rintro rfl
      obtain ⟨p, hp, e⟩ := List.mem_map.mp hx
      have := List.lookup_eq_none_iff.mp hl p hp
      simp [e] at this
    · intro p hp
      rcases List.mem_append.mp hp with hp | hp
      · exact S.nm p hp
      · simp at hp; subst hp; exact hnm
    · have := S.lek; walk_at "O"
    · intro p hp
      rcases List.mem_append.mp hp with hp | hp
      · obtain ⟨j, b, e1, e2, e3, e4⟩ := S.ali p hp
        exact ⟨j, b, e1, e2, by walk_at "O", nal (nw e4 (fun _ e => by injection e with e; revert e; decide)) (fun _ _ e => by cases e)⟩
      · simp at hp; subst hp
        have := S.lek
        exact ⟨k + 1, c, ht, by walk_at "O", by walk_at "O", nal ha (fun _ _ e => by cases e)⟩
end
end N226
end
noncomputable section
open PySem PySem.W PySem.Calls PyProof.Rows
set_option maxRecDepth 10000
namespace N226
section
variable {C : Cx} {n : Nat} {ρ : Loc} {H : MH}
theorem WSt.away {W : Wd} {σ α : Syms} {k0 k : Int} {wr al mc s : Addr} {X : Addr → Prop} (S : WSt H W σ k0 k wr al mc s α) : Away H X [W.w, al] := fun m hm => by
  simp at hm
  rcases hm with rfl | rfl
  · obtain ⟨ti, op, hn⟩ := S.wk.wld.names
    exact .inr (.inl ⟨_, hn⟩)
  · obtain ⟨es, ep, hal, _⟩ := S.hal
    exact .inl ⟨_, _, hal⟩
theorem WSt.new {W : Wd} {σ α : Syms} {k0 k : Int} {wr al mc s c : Addr} (S : WSt H W σ k0 k wr al mc s α) (hc : H c = none) : c ∉ [W.w, al] := by
  obtain ⟨ti, op, hn⟩ := S.wk.wld.names
  obtain ⟨es, ep, hal, _⟩ := S.hal
  simp only [List.mem_cons, List.not_mem_nil, or_false, not_or]
  exact ⟨(ne_new hn hc).symm, (ne_new hal hc).symm⟩
theorem WSt.ext {H' : MH} {W : Wd} {σ α : Syms} {k0 k : Int} {wr al mc s : Addr} (S : WSt H W σ k0 k wr al mc s α) (x : Ext H H') : WSt H' W σ k0 k wr al mc s α := by
  obtain ⟨h1, h2, h3, ⟨ll, rl, h4⟩, ⟨es, ep, h5, h6⟩, h7, h8, h9, h10, h11⟩ := S
  exact ⟨h1.ext x, h2.ext x, x _ _ h3, ⟨ll, rl, x _ _ h4⟩, ⟨es, ep, x _ _ h5, h6⟩, h7, h8, h9, h10, fun p hp => by
    obtain ⟨j, c, e1, e2, e3, e4⟩ := h11 p hp
    exact ⟨j, c, e1, e2, e3, x _ _ e4⟩⟩
theorem WSt.list {W : Wd} {σ α : Syms} {k0 k : Int} {wr al mc s it : Addr} {xs ys : List V} (S : WSt H W σ k0 k wr al mc s α) (hi : H it = some (.list xs)) (hr : it ≠ W.r) : WSt (H.set it (.list ys)) W σ k0 k wr al mc s α := by
  have nl : ∀ {x : Addr} {o : MO}, H x = some o → (∀ xs, o ≠ .list xs) → (H.set it (.list ys)) x = some o := fun e h => by
    rw [MH.set_ne _ _ (ne_of e hi (h _))]; exact e
  obtain ⟨h1, h2, h3, ⟨ll, rl, h4⟩, ⟨es, ep, h5, h6⟩, h7, h8, h9, h10, h11⟩ := S
  refine ⟨⟨h1.wld.frame (M := [it]) (But.set (by simp)) (fun z hz => by simp at hz; subst hz; exact .inr ⟨hr, _, hi⟩), h1.nm⟩, ⟨nl h2.emp (fun _ e => by cases e), nl h2.nothing (fun _ e => by cases e)⟩, nl h3 (fun _ e => by cases e), ⟨ll, rl, nl h4 (fun _ e => by cases e)⟩, ⟨es, ep, nl h5 (fun _ e => by cases e), h6⟩, h7, h8, h9, h10, fun p hp => by
    obtain ⟨j, c, e1, e2, e3, e4⟩ := h11 p hp
    exact ⟨j, c, e1, e2, e3, nl e4 (fun _ e => by cases e)⟩⟩
structure Fd (H : MH) (fd : Addr) (ka kb : Int) (va vb : V) : Prop where
  at_ : ∃ ep, H fd = some (.dict [(.int ka, va), (.int kb, vb)] ep)
  ne : ka ≠ kb
theorem wc_wleaf (F : Fit C) {W : Wd} {σ α : Syms} {k0 k ka kb : Int} {wr al mc s fd : Addr} {va vb nd : V} {x : Lf} {Q : V → MH → Prop} (S : WSt H W σ k0 k wr al mc s α) (hf : Fd H fd ka kb va vb) (hn : NdL H σ ka kb x nd)
    (q : ∀ v β k' H', But [W.w, al] H H' → WSt H' W σ k0 k' wr al mc s (α ++ β) → Lw va vb (α ++ β) x v → Q v H') : WC C (n + 5) (.ref f_Writer_datum) [.ref wr, nd, .ref fd] H Q := by
  obtain ⟨ep, hfd⟩ := hf.at_
  have three : ∀ (a : Addr) (v : V), H a = some (.tuple [.int 3, v]) → Q v H → WC C (n + 5) (.ref f_Writer_datum) [.ref wr, .ref a, .ref fd] H Q := by
    intro a v ha q
    refine F.Writer_datum.on F rfl ?_
    unfold k_Writer_datum
    refine kk_step fun P hP => ?_
    walk_at "L"
    refine sub_tuple ha (by decide) (by decide) (v := .int 3) rfl (hP _ _ ?_)
    clear P hP
    refine kk_step fun P hP => ?_
    wide_open with (kk_seq, kk_seq)
    refine cmp_eq_int ⟨false, rfl, ?_⟩
    wide_open with (kk_seq, kk_seq)
    refine hP _ _ ?_
    clear P hP
    refine kk_step fun P hP => ?_
    wide_open with (kk_seq, kk_seq)
    refine cmp_eq_int ⟨false, rfl, ?_⟩
    wide_open with (kk_seq, kk_seq)
    refine hP _ _ ?_
    clear P hP
    refine kk_step fun P hP => ?_
    wide_open with (kk_seq, kk_seq)
    refine cmp_eq_int ⟨false, rfl, ?_⟩
    wide_open with (kk_seq, kk_seq)
    refine hP _ _ ?_
    clear P hP
    refine kk_step fun P hP => ?_
    wide_open with (kk_seq, kk_seq)
    refine cmp_eq_int ⟨false, rfl, ?_⟩
    wide_open with (kk_seq, kk_seq)
    refine hP _ _ ?_
    clear P hP
    walk_at "L"
    exact sub_tuple ha (by decide) (by decide) (v := v) rfl q
  have one : ∀ (a : Addr) (key : Int) (v : V), H a = some (.tuple [.int 1, .int key]) → atKeyV [(.int ka, va), (.int kb, vb)] (.int key) = some v → Q v H → WC C (n + 5) (.ref f_Writer_datum) [.ref wr, .ref a, .ref fd] H Q := by
    intro a key v ha hk q
    refine F.Writer_datum.on F rfl ?_
    unfold k_Writer_datum
    refine kk_step fun P hP => ?_
    walk_at "L"
    refine sub_tuple ha (by decide) (by decide) (v := .int 1) rfl (hP _ _ ?_)
    clear P hP
    refine kk_step fun P hP => ?_
    walk_at "L"
    refine cmp_eq_int ⟨true, rfl, ?_⟩
    walk_at "L"
    refine sub_tuple ha (by decide) (by decide) (v := .int key) rfl ?_
    exact sub_dict hfd rfl hk q
  cases x with
  | fin =>
    obtain rfl : nd = .ref a_NOTHING := hn
    exact three _ _ S.base.nothing (q _ [] k H Ext.refl.but (by simpa using S) rfl)
  | int i =>
    obtain ⟨a, rfl, ha⟩ := hn
    exact three _ _ ha (q _ [] k H Ext.refl.but (by simpa using S) rfl)
  | name t =>
    obtain ⟨a, c, rfl, hc, ha⟩ := hn
    by_cases h1 : t = s_a
    · rw [ndT, if_pos h1] at ha
      exact one a ka va ha (by rw [atKey_cons, if_pos rfl]) (q _ [] k H Ext.refl.but (by simpa using S) (.inl ⟨h1, rfl⟩))
    · by_cases h2 : t = s_b
      · rw [ndT, if_neg h1, if_pos h2] at ha
        exact one a kb vb ha (by rw [atKey_cons, if_neg (by simpa using hf.ne), atKey_cons, if_pos rfl]) (q _ [] k H Ext.refl.but (by simpa using S) (.inr (.inl ⟨h2, rfl⟩)))
      · rw [ndT, if_neg h1, if_neg h2] at ha
        refine F.Writer_datum.on F rfl ?_
        unfold k_Writer_datum
        refine kk_step fun P hP => ?_
        walk_at "L"
        refine sub_tuple ha (by decide) (by decide) (v := .int 6) rfl (hP _ _ ?_)
        clear P hP
        refine kk_step fun P hP => ?_
        wide_open with (kk_seq, kk_seq)
        refine cmp_eq_int ⟨false, rfl, ?_⟩
        wide_open with (kk_seq, kk_seq)
        refine hP _ _ ?_
        clear P hP
        refine kk_step fun P hP => ?_
        walk_at "L"
        refine cmp_eq_int ⟨true, rfl, ?_⟩
        walk_at "L"
        refine meth_at F (f := f_Writer_alias) S.hwr (by decide) rfl ?_
        refine sub_tuple ha (by decide) (by decide) (v := .ref c) rfl ⟨F.Writer_alias.can, wc_walias F S hc fun z β k' H' b S' hl => ?_⟩
        exact q _ β k' H' b S' (.inr (.inr ⟨h1, h2, z, hl, rfl⟩))
set_option tactic.hygienic true in
theorem node_word {X : Addr → Prop} {σ : Syms} {ka kb : Int} {f : Fm} {nd : V} (hb : Base H) (h : Node H X σ ka kb f nd) : ∃ a vs w, nd = .ref a ∧ H a = some (.tuple vs) ∧ pick vs 0 = some (.int w) ∧ w ≠ 7 := by
  cases h with
  | lf h =>
    rename_i x
    cases x with
    | fin =>
      obtain rfl : nd = .ref a_NOTHING := h
      exact ⟨_, _, 3, rfl, hb.nothing, rfl, by decide⟩
    | int i =>
      obtain ⟨a, rfl, ha⟩ := h
      exact ⟨_, _, 3, rfl, ha, rfl, by decide⟩
    | name t =>
      obtain ⟨a, c, rfl, hc, ha⟩ := h
      rw [ndT] at ha
      split at ha
      · exact ⟨_, _, 1, rfl, ha, rfl, by decide⟩
      · split at ha
        · exact ⟨_, _, 1, rfl, ha, rfl, by decide⟩
        · exact ⟨_, _, 6, rfl, ha, rfl, by decide⟩
  | lst ha _ _ _ _ _ => exact ⟨_, _, 4, rfl, ha, rfl, by decide⟩
  | vec ha _ _ _ _ => exact ⟨_, _, 5, rfl, ha, rfl, by decide⟩
noncomputable def WDat (C : Cx) (n d : Nat) : Prop := ∀ {H : MH} {W : Wd} {σ α : Syms} {k0 k ka kb : Int} {wr al mc s fd : Addr} {va vb nd : V} {f : Fm} {Q : V → MH → Prop} {X : Addr → Prop}, Ok d f → Node H X σ ka kb f nd → WSt H W σ k0 k wr al mc s α → Fd H fd ka kb va vb → fd ∉ [W.w, al] →
  (∀ v β k' H', But [W.w, al] H H' → WSt H' W σ k0 k' wr al mc s (α ++ β) → Shape H' (fun a => H a ≠ none) (Lw va vb (α ++ β)) f v → Q v H') → WC C n (.ref f_Writer_datum) [.ref wr, nd, .ref fd] H Q
theorem Fd.but {H' : MH} {fd : Addr} {ka kb : Int} {va vb : V} {M : List Addr} (h : Fd H fd ka kb va vb) (b : But M H H') (hm : fd ∉ M) : Fd H' fd ka kb va vb := by
  obtain ⟨⟨ep, h1⟩, h2⟩ := h
  exact ⟨⟨ep, b _ _ h1 hm⟩, h2⟩
noncomputable abbrev wpartsBody : K :=
    (.seq (.ifs (.tcmp .Eq (.sub (.var 4) (.int (0))) (.con (.int (7))))
      (.seq (.expr (.meth (.var 3) n_extend (.cons .bad .nil))) .nil)
      (.seq (.expr (.meth (.var 3) n_append (.cons (.meth (.var 0) n_datum (.cons (.var 4) (.cons (.var 2) .nil))) .nil))) .nil)) .nil)
theorem wparts_loop (F : Fit C) {d : Nat} (hD : WDat C n d) {W : Wd} {σ α : Syms} {k0 ka kb : Int} {wr al mc s fd l it : Addr} {va vb : V} {fs : List Fm} {nds : List V} {R : Fl → Loc → MH → Prop} {H0 : MH} {X : Addr → Prop} (h4 : fs.length ≤ 4) (ho : ∀ f ∈ fs, Ok d f) (hit : H0 it = none) (hl0 : H0 l = some (.list nds)) (hs0 : All2 (Node H0 X σ ka kb) fs nds) (hb0 : Base H0)
    (hF0 : Fd H0 fd ka kb va vb) (hfd : fd ∉ [W.w, al]) (aw0 : Away H0 X [W.w, al]) (aw1 : Away H0 (fun _ => True) [W.w, al]) (hlm : l ∉ [W.w, al]) (hrn : H0 W.r ≠ none) :
    ∀ (m i : Nat) (done : List V) (β : Syms) (k : Int) (ρ : Loc) (H : MH), i + m = fs.length → But [W.w, al] H0 H → WSt H W σ k0 k wr al mc s (α ++ β) → H it = some (.list done) →
      All2 (Shape H (fun a => H0 a ≠ none ∨ a = it) (Lw va vb (α ++ β))) (fs.take i) done → ρ 0 = some (.ref wr) → ρ 2 = some (.ref fd) → ρ 3 = some (.ref it) →
      (∀ (ρ' : Loc) done' β' k' H', But [W.w, al] H0 H' → WSt H' W σ k0 k' wr al mc s (α ++ β') → H' it = some (.list done') → All2 (Shape H' (fun a => H0 a ≠ none ∨ a = it) (Lw va vb (α ++ β'))) fs done' → ρ' 3 = some (.ref it) → R .next ρ' H') →
      FR C n (.one 4) wpartsBody R (.lst l i) ρ H := by
  intro m
  have hlen := hs0.len
  induction m with
  | zero =>
    intro i done β k ρ H hi b S hn ha p0 p2 p3 q
    refine FR.done (by simp only [Src.item, b _ _ hl0 hlm]; rw [List.getElem?_eq_none (by walk_at "O")]) ?_
    rw [List.take_of_length_le (by walk_at "O")] at ha
    exact q ρ done β k H b S hn ha p3
  | succ m ih =>
    intro i done β k ρ H hi b S hn ha p0 p2 p3 q
    have h1i : i < fs.length := by walk_at "O"
    have h2i : i < nds.length := by walk_at "O"
    refine FR.item (v := nds[i]) (by simp only [Src.item, b _ _ hl0 hlm]; rw [List.getElem?_eq_getElem h2i]) ?_
    have hnd := (hs0.at_ i _ _ (List.getElem?_eq_getElem h1i) (List.getElem?_eq_getElem h2i)).but aw0 b
    obtain ⟨a, us, w, ea, ha1, hw, hw7⟩ := node_word S.base hnd
    unfold wpartsBody
    wide_open using (p0, p2, p3, ea)
    refine sub_tuple ha1 (by decide) (by decide) hw ?_
    refine cmp_eq_int ⟨false, by rw [decide_eq_false hw7], ?_⟩
    wide_open using (p0, p2, p3)
    refine bi_list (id := "list.append") hn rfl ?_
    refine meth_at F (f := f_Writer_datum) S.hwr (by decide) rfl ⟨F.Writer_datum.can, ?_⟩
    rw [← ea]
    refine hD (ho fs[i] (List.getElem_mem h1i)) hnd S (hF0.but b hfd) hfd fun v β' k' H1 b1 S1 hs => ?_
    have hitm : it ∉ [W.w, al] := S.new (c := it) |> fun _ => fun q => by
      have := aw1 it q
      rcases this with ⟨_, _, e⟩ | ⟨_, e⟩ | ⟨_, _, e⟩ <;> · rw [hit] at e; cases e
    have hit1 := b1 _ _ hn hitm
    refine ⟨Callable_bi, WC_append hit1 (by rw [← ha.len, List.length_take]; exact Nat.le_trans (m := 4) (by walk_at "O") (by decide)) ⟨(fun _ e => by cases e), ?_⟩⟩
    have hav : Away H1 (fun a => H0 a ≠ none ∨ a = it) [it] := fun m hm => by
      simp at hm; subst hm; exact .inr (.inr ⟨.inr rfl, _, hit1⟩)
    have hitr : it ≠ W.r := fun e => hrn (by rw [← e]; exact hit)
    have S2 := S1.list (ys := done ++ [v]) hit1 hitr
    rw [List.append_assoc] at S2 hs
    refine ih (i + 1) (done ++ [v]) (β ++ β') k' _ _ (by walk_at "O") (fun a o e nm => ?_) S2 (MH.set_self _ _ _) ?_ ?_ ?_ ?_ q
    · rw [MH.set_ne _ _ (ne_new e hit)]; exact b1 _ _ (b _ _ e nm) nm
    · rw [List.take_succ_eq_append_getElem h1i]
      refine (ha.mono fun f _ w h => ?_).snoc ?_
      · exact (h.but S.away b1 fun x v h => by have := h.more (β := β'); rwa [List.append_assoc] at this).but hav (But.set (by simp)) fun _ _ h => h
      · refine (hs.leaf (fun a h => ?_) fun _ _ h => h).but hav (But.set (by simp)) fun _ _ h => h
        rcases h with h | rfl
        · intro e
          cases e0 : H0 a with
          | none => exact h e0
          | some o =>
            by_cases hm : a ∈ [W.w, al]
            · have := (S.away (X := fun _ => True)) a hm
              rcases this with ⟨_, _, e'⟩ | ⟨_, e'⟩ | ⟨_, _, e'⟩ <;> · rw [e] at e'; cases e'
            · rw [b _ _ e0 hm] at e; cases e
        · rw [hn]; exact fun e => by cases e
    all_goals simp [Loc.set, p0, p2, p3]
end
end N226
end
noncomputable section
open PySem PySem.W PySem.Calls PyProof.Rows
set_option maxRecDepth 10000
namespace N226
section
variable {C : Cx} {n : Nat} {ρ : Loc} {H : MH}
theorem wc_wparts (F : Fit C) {d : Nat} (hD : WDat C n d) {W : Wd} {σ α : Syms} {k0 k ka kb : Int} {wr al mc s fd l : Addr} {va vb : V} {fs : List Fm} {nds : List V} {Q : V → MH → Prop} {X : Addr → Prop} (h4 : fs.length ≤ 4) (ho : ∀ f ∈ fs, Ok d f) (hl0 : H l = some (.list nds)) (hs0 : All2 (Node H X σ ka kb) fs nds) (S : WSt H W σ k0 k wr al mc s α)
    (hF0 : Fd H fd ka kb va vb) (hfd : fd ∉ [W.w, al])
    (q : ∀ it done β k' H', But [W.w, al] H H' → H it = none → WSt H' W σ k0 k' wr al mc s (α ++ β) → H' it = some (.list done) → All2 (Shape H' (fun a => H a ≠ none) (Lw va vb (α ++ β))) fs done → Q (.ref it) H') : WC C (n + 1) (.ref f_Writer_parts) [.ref wr, .ref l, .ref fd] H Q := by
  have hlm : l ∉ [W.w, al] := fun h => by
    rcases (S.away (X := fun _ => False)) l h with ⟨_, _, e⟩ | ⟨_, e⟩ | ⟨e, _⟩
    · rw [hl0] at e; cases e
    · rw [hl0] at e; cases e
    · exact e
  refine F.Writer_parts.on F rfl ?_
  unfold k_Writer_parts
  refine kk_step fun P hP => ?_
  walk_at "L"
  refine ⟨by decide, fun it hit => hP _ _ ?_⟩
  clear P hP
  have x := Ext.new (o := .list []) hit
  walk_at "L"
  refine ⟨_, iter_list (x _ _ hl0), ?_⟩
  refine wparts_loop F hD h4 ho hit hl0 hs0 S.base hF0 hfd S.away S.away hlm (by rw [S.wk.wld.rows]; exact fun e => by cases e) fs.length 0 [] [] k _ _ (by walk_at "O") x.but (by simpa using S.ext x) (MH.set_self _ _ _) (by simpa using All2.nil) rfl rfl rfl fun ρ' done' β' k' H' b' S' hn' ha' p3 => ?_
  wide_open using (p3, p3)
  exact q it done' β' k' H' b' hit S' hn' (ha'.mono fun f _ v h => h.leaf (fun a h => .inl h) fun _ _ h => h)
set_option tactic.hygienic true in
theorem wdat_all (F : Fit C) : ∀ (d : Nat), WDat C (n + 2 * d + 5) d := by
  intro d
  induction d with
  | zero =>
    intro H W σ α k0 k ka kb wr al mc s fd va vb nd f Q X ho hn S hF hfd q
    obtain ⟨x, rfl, hx⟩ := ho
    cases hn with
    | lf h => exact wc_wleaf F S hF h fun v β k' H' b S' hl => q v β k' H' b S' (.lf hl)
  | succ d ih =>
    intro H W σ α k0 k ka kb wr al mc s fd va vb nd f Q X ho hn S hF hfd q
    rcases ho with ⟨x, rfl, hx⟩ | ⟨fs, tl, rfl, hne, h4, ht, ho⟩ | ⟨fs, rfl, hne, h4, ho⟩
    · cases hn with
      | lf h => exact wc_wleaf F S hF h fun v β k' H' b S' hl => q v β k' H' b S' (.lf hl)
    · cases hn with
      | lst ha hl hx hlen hs1 htl =>
      rename_i a l t us
      refine F.Writer_datum.on F rfl ?_
      unfold k_Writer_datum
      refine kk_step fun P hP => ?_
      walk_at "L"
      refine sub_tuple ha (by decide) (by decide) (v := .int 4) rfl (hP _ _ ?_)
      clear P hP
      refine kk_step fun P hP => ?_
      wide_open with (kk_seq, kk_seq)
      refine cmp_eq_int ⟨false, rfl, ?_⟩
      wide_open with (kk_seq, kk_seq)
      refine hP _ _ ?_
      clear P hP
      refine kk_step fun P hP => ?_
      wide_open with (kk_seq, kk_seq)
      refine cmp_eq_int ⟨false, rfl, ?_⟩
      wide_open with (kk_seq, kk_seq)
      refine hP _ _ ?_
      clear P hP
      refine kk_step fun P hP => ?_
      walk_at "L"
      refine cmp_eq_int ⟨true, rfl, ?_⟩
      walk_at "L"
      refine meth_at F (f := f_Writer_parts) S.hwr (by decide) rfl ?_
      refine sub_tuple ha (by decide) (by decide) (v := .ref l) rfl ⟨F.Writer_parts.can, ?_⟩
      refine wc_wparts F ih h4 ho hl ⟨hlen, hs1⟩ S hF hfd fun it done β k1 H1 b1 hit S1 hn1 hs => ?_
      have itm := S.new hit
      have ha1 := S.away.tup (X := fun _ => False) b1 ha
      refine meth_at F (f := f_Writer_datum) S1.hwr (by decide) rfl ?_
      refine sub_tuple ha1 (by decide) (by decide) (v := t) rfl ⟨F.Writer_datum.can, ?_⟩
      refine wc_wleaf F S1 (hF.but b1 hfd) (htl.but (X := fun _ => False) S.away b1) fun v β' k2 H2 b2 S2 hlf => ?_
      have hn2 := b2 _ _ hn1 itm
      refine ⟨F.list_of.can, wc_list_of F (n := n + 2 * d + 3) hn2 (by rw [← hs.len]; exact Nat.le_trans h4 (by decide)) fun u H3 x3 hc _ => ?_⟩
      rw [List.append_assoc] at S2 hlf
      refine q u (β ++ β') k2 H3 ((b1.trans b2).trans x3.but) (S2.ext x3) (.lst hc hs.len (fun i f w e1 e2 => ?_) hlf)
      have := (hs.at_ i f w e1 e2).but S1.away b2 fun x v h => h.more (β := β')
      rw [List.append_assoc] at this
      exact this.ext x3
    · cases hn with
      | vec ha hl hx hlen hs1 =>
      rename_i a l us
      refine F.Writer_datum.on F rfl ?_
      unfold k_Writer_datum
      refine kk_step fun P hP => ?_
      walk_at "L"
      refine sub_tuple ha (by decide) (by decide) (v := .int 5) rfl (hP _ _ ?_)
      clear P hP
      refine kk_step fun P hP => ?_
      wide_open with (kk_seq, kk_seq)
      refine cmp_eq_int ⟨false, rfl, ?_⟩
      wide_open with (kk_seq, kk_seq)
      refine hP _ _ ?_
      clear P hP
      refine kk_step fun P hP => ?_
      wide_open with (kk_seq, kk_seq)
      refine cmp_eq_int ⟨false, rfl, ?_⟩
      wide_open with (kk_seq, kk_seq)
      refine hP _ _ ?_
      clear P hP
      refine kk_step fun P hP => ?_
      wide_open with (kk_seq, kk_seq)
      refine cmp_eq_int ⟨false, rfl, ?_⟩
      wide_open with (kk_seq, kk_seq)
      refine hP _ _ ?_
      clear P hP
      refine kk_step fun P hP => ?_
      walk_at "L"
      refine cmp_eq_int ⟨true, rfl, ?_⟩
      walk_at "L"
      refine meth_at F (f := f_Writer_parts) S.hwr (by decide) rfl ?_
      refine sub_tuple ha (by decide) (by decide) (v := .ref l) rfl ⟨F.Writer_parts.can, ?_⟩
      refine wc_wparts F ih h4 ho hl ⟨hlen, hs1⟩ S hF hfd fun it done β k1 H1 b1 hit S1 hn1 hs => ?_
      refine ⟨F.cVector.can, mk_Vector F fun c H2 x2 hcn hc => ?_⟩
      exact q (.ref c) β k1 H2 (b1.trans x2.but) (S1.ext x2) (.vec hc (x2 _ _ hn1) (fun h => h hit) hs.len fun i f w e1 e2 => (hs.at_ i f w e1 e2).ext x2)
noncomputable def Als (H : MH) (σ : Syms) (k0 k : Int) (s : Addr) (α : Syms) : Prop := ∀ p ∈ α, ∃ j c, σ.lookup p.1 = some c ∧ k0 < j ∧ j ≤ k ∧ H p.2 = some (.inst c_Alias (aliasFs (.int j) (.ref c) (.ref s)))
theorem wc_fill (F : Fit C) {d : Nat} {W : Wd} {σ : Syms} {k ka kb : Int} {mc s ru fd : Addr} {va vb : V} {G : Fm} {X : Addr → Prop} {Q : V → MH → Prop} (hw : Wk H W σ k) (hb : Base H) (hm : ∃ ll rl, H mc = some (.inst c_Macro [(n_literals, ll), (n_rules, rl), (n_scope, .ref s)])) (hr : Rul H X σ ka kb G ru) (hF : Fd H fd ka kb va vb) (ho : Ok d G)
    (q : ∀ v α k' H', But [W.w] H H' → Wk H' W σ k' → Base H' → k ≤ k' → Als H' σ k k' s α → (α.map (·.1)).Nodup → (∀ p ∈ α, p.1 ∈ NM) → Shape H' (fun a => H a ≠ none) (Lw va vb α) G v → Q v H') : WC C (n + 2 * d + 6) (.ref f_fill) [.ref ru, .ref mc, .ref fd, .ref W.w] H Q := by
  obtain ⟨pn, dd, nd, ln, na, nb, h1, h2, h3, h4, h5, h6, h7⟩ := hr
  obtain ⟨ll, rl, hmc⟩ := hm
  have hnd : noBi nd = true := by
    obtain ⟨a, _, _, rfl, _⟩ := node_word hb h7
    rfl
  refine F.fill.on F rfl ?_
  unfold k_fill
  walk_at "L"
  refine ⟨F.cWriter.can, mk_Writer F fun wr al H1 x1 hwrn haln hwr hal => ?_⟩
  refine meth_at F (f := f_Writer_datum) hwr (by decide) rfl ?_
  refine attr_at F (x1 _ _ h1) (by decide) rfl hnd ⟨F.Writer_datum.can, ?_⟩
  obtain ⟨ep0, hfd0⟩ := hF.at_
  have nfd : fd ∉ [W.w, al] := by
    obtain ⟨ti, op, hn⟩ := hw.wld.names
    simp only [List.mem_cons, List.not_mem_nil, or_false, not_or]
    exact ⟨ne_of hfd0 hn (fun e => by cases e), ne_new hfd0 haln⟩
  have nald : al ≠ W.d := fun e => by
    obtain ⟨ep, e'⟩ := hw.wld.text
    rw [e, e'] at haln; cases haln
  have S : WSt H1 W σ k k wr al mc s [] := ⟨hw.ext x1, hb.ext x1, hwr, ⟨ll, rl, x1 _ _ hmc⟩, ⟨[], 0, hal, rfl, fun _ _ _ _ => rfl⟩, nald, List.nodup_nil, (fun p hp => nomatch hp), Int.le_refl _, (fun p hp => nomatch hp)⟩
  refine wdat_all F d ho (h7.ext x1) S (hF.but (M := []) x1.but (fun h => nomatch h)) nfd fun v β k' H' b S' hs => ?_
  rw [List.nil_append] at S' hs
  refine q v β k' H' (fun a o e nm => b _ _ (x1 _ _ e) ?_) S'.wk S'.base S'.lek S'.ali S'.nodup S'.nm (hs.leaf (dom_up x1) fun _ _ h => h)
  simp only [List.mem_cons, List.not_mem_nil, or_false, not_or] at nm ⊢
  exact ⟨nm, ne_new e haln⟩
theorem wc_transcribe (F : Fit C) {d : Nat} {W : Wd} {σ : Syms} {k ka kb : Int} {mc s : Addr} {s' m va vb form : V} {G : Fm} {X : Addr → Prop} {Q : V → MH → Prop} (hw : Wk H W σ k) (hb : Base H) (hm : Mac H X σ ka kb G mc s) (hk : ka ≠ kb) (hf : Chain H form [m, va, vb] (.ref a_EMPTY)) (ba : noBi va = true) (bb : noBi vb = true) (ho : Ok d G)
    (q : ∀ v α k' H', But [W.w] H H' → Wk H' W σ k' → Base H' → k ≤ k' → Als H' σ k k' s α → (α.map (·.1)).Nodup → (∀ p ∈ α, p.1 ∈ NM) → Shape H' (fun a => H a ≠ none) (Lw va vb α) G v → Q v H') : WC C (n + 2 * d + 8) (.ref f_transcribe) [.ref mc, form, s', .ref W.w] H Q := by
  refine F.transcribe.on F rfl ?_
  unfold k_transcribe
  refine kk_step fun P hP => ?_
  walk_at "L"
  refine ⟨F.first_fitting.can, ?_⟩
  refine wc_first_fitting F (n := n + 2 * d) hb hm hk hf ba bb fun c ru fd ep H1 x1 hfdn hr hc hfd => ⟨c, _, rfl, hc, rfl, hP _ _ ?_⟩
  clear P hP
  refine kk_step fun P hP => ?_
  walk_at "L"
  refine is_none_ref ⟨false, rfl, ?_⟩
  walk_at "L"
  refine hP _ _ ?_
  clear P hP
  walk_at "L"
  obtain ⟨ll, rl, ru', h1, _⟩ := hm.all
  refine ⟨F.fill.can, ?_⟩
  rw [show n + 2 * d + 7 = n + 1 + 2 * d + 6 by walk_at "O"]
  refine wc_fill F (n := n + 1) (d := d) (hw.ext x1) (hb.ext x1) ⟨_, _, x1 _ _ h1⟩ hr ⟨⟨ep, hfd⟩, hk⟩ ho fun v α k' H2 b h1 h2 h3 h4 h5 h6 h7 => ?_
  exact q v α k' H2 (x1.but.trans b) h1 h2 h3 h4 h5 h6 (h7.leaf (dom_up x1) fun _ _ h => h)
end
end N226
end
noncomputable section
open PySem PySem.W PySem.Calls PyProof.Rows
set_option maxRecDepth 10000
namespace N226
section
variable {C : Cx} {n : Nat} {ρ : Loc} {H : MH}
noncomputable def lnV : Lf → V
  | .name s => .str s
  | .int i => .int i
  | .fin => .str s_end
noncomputable def other : Lf → Prop
  | .name s => s ≠ s_a ∧ s ≠ s_b
  | _ => False
noncomputable def okX : Lf → Prop
  | .name s => s ∈ NM ∧ s ≠ s_end
  | _ => True
noncomputable abbrev LL := List (Lf × V)
noncomputable def LLis (H : MH) (ls : LL) (vs : List V) : Prop := All2 (fun (p : Lf × V) (w : V) => ∃ t, w = .ref t ∧ H t = some (.tuple [lnV p.1, p.2])) ls vs
theorem is_self {a D : Addr} {Q : V → MH → Prop} (h : instOf H a = some D) (q : Q (.bool false) H) : cmpW .IsNot (.ref a) (.ref a) H Q := ⟨isW_ref ⟨_, h⟩ ⟨_, h⟩, by simpa using q⟩
noncomputable abbrev rightBody : K :=
    (.seq (.ifs (.tin (.var 5) (.var 1))
      (.seq (.ifs (.tcmp .IsNot (.var 6) (.sub (.var 1) (.var 5)))
        (.seq (.ret .none) .nil)
        .nil) .nil)
      (.seq (.ifs (.tor (.tcmp .Eq (.var 5) (.str s_end)) (.tor (.tno (.tval (.call (.con (.bi "isinstance")) (.cons (.var 5) (.cons (.con (.ty "str")) .nil))))) .tfalse))
        (.seq (.ifs (.tite (.tcmp .Eq (.var 5) (.str s_end)) (.tcmp .IsNot (.var 6) (.con (.ref a_EMPTY))) (.tcmp .NotEq (.var 6) (.var 5)))
          (.seq (.ret .none) .nil)
          .nil) .nil)
        (.seq (.ifs (.tor (.tno (.tval (.call (.con (.bi "isinstance")) (.cons (.var 6) (.cons (.con (.ref c_Alias)) .nil))))) (.tor (.tcmp .IsNot (.attr (.var 6) n_base) (.meth (.var 2) n_symbol (.cons (.var 5) .nil))) (.tor (.tcmp .IsNot (.attr (.var 6) n_scope) (.var 3)) .tfalse)))
          (.seq (.ret .none) .nil)
          (.seq (.ifs (.tcmp .NotEq (.meth (.var 4) n_get (.cons (.var 5) (.cons (.call (.con (.ref f_key_of)) (.cons (.var 6) .nil)) .nil))) (.call (.con (.ref f_key_of)) (.cons (.var 6) .nil)))
            (.seq (.ret .none) .nil)
            (.seq (.setI (.var 4) (.var 5) (.call (.con (.ref f_key_of)) (.cons (.var 6) .nil))) .nil)) .nil)) .nil)) .nil)) .nil)
structure Keys (H0 : MH) (α : Syms) (k0 k1 : Int) (ls : LL) (es : List (V × V)) : Prop where
  ent : ∀ e ∈ es, ∃ t a j b s, e.1 = .str t ∧ t ∈ NM ∧ α.lookup t = some a ∧ H0 a = some (.inst c_Alias (aliasFs (.int j) b s)) ∧ e.2 = .int (2 * j + 1) ∧ k0 < j ∧ j ≤ k1
  nodup : (es.map (·.1)).Nodup
  some_ : es = [] ↔ ∀ p ∈ ls, ¬ other p.1
theorem Keys.len {H0 : MH} {α : Syms} {k0 k1 : Int} {ls : LL} {es : List (V × V)} (K : Keys H0 α k0 k1 ls es) : es.length ≤ 8 := by
  have := nodup_le K.nodup (ys := NM.map V.str) (fun x hx => by
    obtain ⟨e, he, rfl⟩ := List.mem_map.mp hx
    obtain ⟨t, a, j, b, s, e1, e2, _⟩ := K.ent e he
    rw [e1]; exact List.mem_map.mpr ⟨t, e2, rfl⟩)
  simpa [NM] using this
theorem right_loop (F : Fit C) {W : Wd} {σ α : Syms} {k k0 k1 : Int} {lv kd sc kc : Addr} {epk : Nat} {aa ab Da Db : Addr} {ls : LL} {vs : List V} {R : Fl → Loc → MH → Prop} {H0 : MH} (hw : Wk H0 W σ k) (hb : Base H0) (hl : H0 lv = some (.list vs)) (hls : LLis H0 ls vs) (hkd : H0 kd = some (.dict [(.str s_a, .ref aa), (.str s_b, .ref ab)] epk)) (ia : instOf H0 aa = some Da) (ib : instOf H0 ab = some Db) (isc : ∃ D, instOf H0 sc = some D) (hal : Als H0 σ k0 k1 sc α) (hok : ∀ p ∈ ls, okX p.1 ∧ Lw (.ref aa) (.ref ab) α p.1 p.2) (hkc : H0 kc = none) :
    ∀ (m i : Nat) (es : List (V × V)) (ep : Nat) (ρ : Loc), i + m = ls.length → Keys H0 α k0 k1 (ls.take i) es → ρ 1 = some (.ref kd) → ρ 2 = some (.ref W.w) → ρ 3 = some (.ref sc) → ρ 4 = some (.ref kc) →
      (∀ (ρ' : Loc) es' ep', Keys H0 α k0 k1 ls es' → ρ' 4 = some (.ref kc) → R .next ρ' (H0.set kc (.dict es' ep'))) →
      FR C (n + 4) (.many [5, 6]) rightBody R (.lst lv i) ρ (H0.set kc (.dict es ep)) := by
  intro m
  have hlen := hls.len
  induction m with
  | zero =>
    intro i es ep ρ hi K p1 p2 p3 p4 q
    refine FR.done (by simp only [Src.item, set_old hl hkc]; rw [List.getElem?_eq_none (by walk_at "O")]) ?_
    rw [List.take_of_length_le (by walk_at "O")] at K
    exact q ρ es ep K p4
  | succ m ih =>
    intro i es ep ρ hi K p1 p2 p3 p4 q
    have h1i : i < ls.length := by walk_at "O"
    have h2i : i < vs.length := by walk_at "O"
    have x := Ext.new (o := .dict es ep) hkc
    obtain ⟨t, et, ht⟩ := hls.at_ i _ _ (List.getElem?_eq_getElem h1i) (List.getElem?_eq_getElem h2i)
    refine FR.step (v := .ref t) (by simp only [Src.item, x _ _ hl]; rw [List.getElem?_eq_getElem h2i, et]) fun T hT _ => ?_
    refine asg_many (x _ _ ht) rfl ?_
    obtain ⟨hx, hlw⟩ := hok _ (List.getElem_mem h1i)
    have htk : ls.take (i + 1) = ls.take i ++ [ls[i]] := List.take_succ_eq_append_getElem h1i
    revert hx hlw htk
    generalize ls[i] = p
    obtain ⟨lf, v⟩ := p
    intro hx hlw htk
    simp only at hx hlw
    have inst0 : ∀ {a D : Addr}, instOf H0 a = some D → instOf (H0.set kc (.dict es ep)) a = some D := fun {a D} e => by
      have : a ≠ kc := fun q => by subst q; unfold instOf at e; rw [hkc] at e; cases e
      unfold instOf; rw [MH.set_ne _ _ this]; exact e
    have same : ¬ other lf → Keys H0 α k0 k1 (ls.take (i + 1)) es := fun hno => ⟨K.ent, K.nodup, by
      rw [K.some_, htk]
      constructor
      · intro h p hp
        rcases List.mem_append.mp hp with hp | hp
        · exact h p hp
        · simp at hp; subst hp; exact hno
      · exact fun h p hp => h p (List.mem_append_left _ hp)⟩
    have nexti : (Src.lst lv i).next = .lst lv (i + 1) := rfl
    cases lf with
    | int z =>
      obtain rfl : v = .int z := hlw
      wide_open using (p1, lnV)
      refine in_dict (x _ _ hkd) rfl ?_
      wide_open using (atKey_cons, atKey_nil, Option.isSome_none)
      show cmpW .Eq (.int z) (.str s_end) _ _
      refine ⟨false, rfl, ?_⟩
      walk_at "L"
      refine ⟨Callable_bi, WC_isi_i rfl ⟨false, rfl, ?_⟩⟩
      walk_at "L"
      show cmpW .Eq (.int z) (.str s_end) _ _
      refine ⟨false, rfl, ?_⟩
      walk_at "L"
      refine cmp_ne_int ⟨false, by simp, ?_⟩
      walk_at "L"
      refine hT _ _ ?_
      rw [nexti]
      exact ih (i + 1) es ep _ (by walk_at "O") (same (fun h => h)) (by simp [Loc.set, p1]) (by simp [Loc.set, p2]) (by simp [Loc.set, p3]) (by simp [Loc.set, p4]) q
    | fin =>
      obtain rfl : v = .ref a_EMPTY := hlw
      wide_open using (p1, lnV)
      refine in_dict (x _ _ hkd) rfl ?_
      wide_open using (atKey_cons, atKey_nil, Option.isSome_none)
      refine cmp_eq_str ⟨true, rfl, ?_⟩
      walk_at "L"
      refine cmp_eq_str ⟨true, rfl, ?_⟩
      walk_at "L"
      refine isnot_emp (hb.ext x) ⟨false, rfl, ?_⟩
      walk_at "L"
      refine hT _ _ ?_
      rw [nexti]
      exact ih (i + 1) es ep _ (by walk_at "O") (same (fun h => h)) (by simp [Loc.set, p1]) (by simp [Loc.set, p2]) (by simp [Loc.set, p3]) (by simp [Loc.set, p4]) q
    | name s =>
      rcases hlw with ⟨rfl, rfl⟩ | ⟨rfl, rfl⟩ | ⟨n1, n2, c, hlc, rfl⟩
      · wide_open using (p1, lnV)
        refine in_dict (x _ _ hkd) rfl ?_
        wide_open using (p1, atKey_cons, atKey_nil, Option.isSome_some)
        refine sub_dict (x _ _ hkd) rfl (v := .ref aa) (by rw [atKey_cons, if_pos rfl]) ?_
        refine is_self (inst0 ia) ⟨false, rfl, ?_⟩
        walk_at "L"
        refine hT _ _ ?_
        rw [nexti]
        exact ih (i + 1) es ep _ (by walk_at "O") (same (fun h => h.1 rfl)) (by simp [Loc.set, p1]) (by simp [Loc.set, p2]) (by simp [Loc.set, p3]) (by simp [Loc.set, p4]) q
      · wide_open using (p1, lnV)
        refine in_dict (x _ _ hkd) rfl ?_
        wide_open using (p1, atKey_cons, atKey_nil, Option.isSome_some)
        refine sub_dict (x _ _ hkd) rfl (v := .ref ab) (by rw [atKey_cons, if_neg (by show ¬ V.str s_a = V.str s_b; decide), atKey_cons, if_pos rfl]) ?_
        refine is_self (inst0 ib) ⟨false, rfl, ?_⟩
        walk_at "L"
        refine hT _ _ ?_
        rw [nexti]
        exact ih (i + 1) es ep _ (by walk_at "O") (same (fun h => h.2 rfl)) (by simp [Loc.set, p1]) (by simp [Loc.set, p2]) (by simp [Loc.set, p3]) (by simp [Loc.set, p4]) q
      · obtain ⟨hnm, hne⟩ := hx
        obtain ⟨j, b, e1, e2, e3, e4⟩ := hal _ (mem_of_lookup hlc)
        simp only at e1 e4
        obtain ⟨ib', hib, hbs, _⟩ := hw.sym e1
        have e4' := x _ _ e4
        wide_open using (p1, lnV)
        refine in_dict (x _ _ hkd) rfl ?_
        have ka : atKeyV [(V.str s_a, V.ref aa), (.str s_b, .ref ab)] (.str s) = none := by
          rw [atKey_cons, if_neg (by simpa using Ne.symm n1), atKey_cons, if_neg (by simpa using Ne.symm n2)]; rfl
        rw [ka]
        wide_open using (Option.isSome_none, Option.isSome_none)
        refine cmp_eq_str ⟨false, by rw [decide_eq_false hne], ?_⟩
        walk_at "L"
        refine ⟨Callable_bi, WC_isi_s rfl ⟨true, rfl, ?_⟩⟩
        walk_at "L"
        refine isi_yes F (inst_at e4') (by decide) ⟨true, rfl, ?_⟩
        wide_open using (p2, p3, p4)
        refine attr_at F e4' (by decide) rfl rfl ?_
        refine (hw.ext x).meth F ⟨F.Names_symbol.can, wc_symbol_old F (n := n + 2) (hw.ext x).wld e1 ?_⟩
        refine is_self (inst_at (x _ _ hbs)) ⟨false, rfl, ?_⟩
        wide_open using (p2, p3, p4)
        refine attr_at F e4' (by decide) rfl rfl ?_
        obtain ⟨Ds, hDs⟩ := isc
        refine is_self (inst0 hDs) ⟨false, rfl, ?_⟩
        wide_open using (p2, p3, p4)
        refine bi_dict (MH.set_self _ _ _) ⟨F.key_of.can, wc_key_of_alias F e4' ?_⟩
        refine ⟨Callable_bi, WC_get2 (MH.set_self _ _ _) rfl ?_⟩
        have hg : (atKeyV es (.str s)).getD (.int (2 * j + 1)) = .int (2 * j + 1) := by
          cases h : atKeyV es (.str s) with
          | none => rfl
          | some w =>
            unfold atKeyV at h
            rw [Option.map_eq_some_iff] at h
            obtain ⟨e, he, rfl⟩ := h
            have hm := List.mem_of_find?_eq_some he
            have hp := List.find?_some he
            obtain ⟨t', a', j', b', s', f1, f2, f3, f4, f5, _⟩ := K.ent e hm
            simp at hp
            rw [f1] at hp
            injection hp with hp
            subst hp
            rw [hlc] at f3
            cases f3
            rw [e4] at f4
            have : j = j' := by
              injection f4 with f4
              injection f4 with _ f4
              simp [aliasFs] at f4
              exact f4.1
            subst this
            simpa using f5
        rw [hg]
        refine ⟨F.key_of.can, wc_key_of_alias F e4' ?_⟩
        refine cmp_ne_int ⟨false, by simp, ?_⟩
        wide_open using (p2, p3, p4)
        refine ⟨F.key_of.can, wc_key_of_alias F e4' ?_⟩
        refine WItm_dict (MH.set_self _ _ _) rfl (Nat.le_trans K.len (by decide)) fun ep' => ?_
        refine hT _ _ ?_
        rw [set_set, nexti]
        refine ih (i + 1) _ ep' _ (by walk_at "O") ⟨fun e he => ?_, put_nodup K.nodup, ?_⟩ (by simp [Loc.set, p1]) (by simp [Loc.set, p2]) (by simp [Loc.set, p3]) (by simp [Loc.set, p4]) q
        · unfold putV at he
          split at he
          · obtain ⟨e0, h0, rfl⟩ := List.mem_map.mp he
            split
            · rename_i heq
              exact ⟨s, c, j, _, _, heq, hnm, hlc, e4, rfl, e2, e3⟩
            · exact K.ent e0 h0
          · rcases List.mem_append.mp he with he | he
            · exact K.ent e he
            · simp at he; subst he
              exact ⟨s, c, j, _, _, rfl, hnm, hlc, e4, rfl, e2, e3⟩
        · rw [htk]
          constructor
          · intro h
            have := congrArg (List.map Prod.fst) h
            have h2 := @put_keys es (.str s) (.int (2 * j + 1))
            rw [show (putV es (.str s) (.int (2 * j + 1))).map (·.1) = [] from by rw [h]; rfl] at h2
            split at h2
            · rename_i hm; rw [← h2] at hm; cases hm
            · simp at h2
          · intro h
            exact absurd ⟨n1, n2⟩ (h (.name s, .ref c) (List.mem_append_right _ (by simp)))
theorem wc_law_right (F : Fit C) {W : Wd} {σ α : Syms} {k k0 k1 : Int} {lv kd sc : Addr} {epk : Nat} {aa ab Da Db : Addr} {ls : LL} {vs : List V} {Q : V → MH → Prop} (hw : Wk H W σ k) (hb : Base H) (hl : H lv = some (.list vs)) (hls : LLis H ls vs) (hkd : H kd = some (.dict [(.str s_a, .ref aa), (.str s_b, .ref ab)] epk)) (ia : instOf H aa = some Da) (ib : instOf H ab = some Db) (isc : ∃ D, instOf H sc = some D) (hal : Als H σ k0 k1 sc α) (hok : ∀ p ∈ ls, okX p.1 ∧ Lw (.ref aa) (.ref ab) α p.1 p.2)
    (q : ∀ c es ep H', Ext H H' → H c = none → H' c = some (.dict es ep) → Keys H α k0 k1 ls es → Q (.ref c) H') : WC C (n + 5) (.ref f_law_right) [.ref lv, .ref kd, .ref W.w, .ref sc] H Q := by
  refine F.law_right.on F rfl ?_
  unfold k_law_right
  refine kk_step fun P hP => ?_
  wide_open with (kk_seq, kk_seq)
  intro kc hkc
  refine hP _ _ ?_
  clear P hP
  have x := Ext.new (o := .dict [] 0) hkc
  refine kk_step fun P hP => ?_
  wide_open with (kk_seq, kk_seq)
  refine ⟨_, iter_list (x _ _ hl), ?_⟩
  refine right_loop F hw hb hl hls hkd ia ib isc hal hok hkc ls.length 0 [] 0 _ (by walk_at "O") ⟨(fun _ h => nomatch h), List.nodup_nil, by simp⟩ rfl rfl rfl rfl fun ρ' es' ep' K p4 => hP _ _ ?_
  clear P hP
  wide_open with (kk_seq, p4)
  exact q kc es' ep' _ (Ext.new hkc) hkc (MH.set_self _ _ _) K
end
end N226
end
noncomputable section
open PySem PySem.W PySem.Calls PyProof.Rows
set_option maxRecDepth 10000
namespace N226
inductive Dt where
  | sym (s : Str) | al (s : Str) | int (i : Int) | emp
  | lst (xs : List Dt) (t : Dt) | vec (xs : List Dt)
mutual
noncomputable def Dt.hasAl : Dt → Bool
  | .al _ => true
  | .lst xs t => hasAlL xs || t.hasAl
  | .vec xs => hasAlL xs
  | _ => false
noncomputable def hasAlL : List Dt → Bool
  | [] => false
  | x :: xs => x.hasAl || hasAlL xs
end
mutual
noncomputable def Dt.sz : Dt → Nat
  | .lst xs t => 2 + szL xs + t.sz
  | .vec xs => 2 + szL xs
  | _ => 2
noncomputable def szL : List Dt → Nat
  | [] => 0
  | x :: xs => 1 + x.sz + szL xs
end
theorem hasAlL_app (xs ys : List Dt) : hasAlL (xs ++ ys) = (hasAlL xs || hasAlL ys) := by
  induction xs with
  | nil => simp [hasAlL]
  | cons x xs ih => simp [hasAlL, ih, Bool.or_assoc]
theorem szL_app (xs ys : List Dt) : szL (xs ++ ys) = szL xs + szL ys := by
  induction xs with
  | nil => simp [szL]
  | cons x xs ih => simp [szL, ih]; walk_at "O"
theorem szL_len (xs : List Dt) : xs.length ≤ szL xs := by
  induction xs with
  | nil => simp
  | cons x xs ih => simp [szL]; walk_at "O"
noncomputable def Dt.isLst : Dt → Bool
  | .lst _ _ => true
  | _ => false
inductive Hd (H : MH) : Dt → V → Prop
  | sym {s : Str} {a : Addr} {i : Int} : H a = some (.inst c_Symbol (symFs i s)) → Hd H (.sym s) (.ref a)
  | al {s : Str} {a b : Addr} {k sc : V} {i : Int} : H a = some (.inst c_Alias (aliasFs k (.ref b) sc)) → H b = some (.inst c_Symbol (symFs i s)) → Hd H (.al s) (.ref a)
  | int {i : Int} : i = 1 ∨ i = 5 → Hd H (.int i) (.int i)
  | emp : Hd H .emp (.ref a_EMPTY)
  | lst {xs : List Dt} {tl : Dt} {v t : V} {vs : List V} : xs ≠ [] → tl.isLst = false → Chain H v vs t → xs.length = vs.length → (∀ (i : Nat) d w, xs[i]? = some d → vs[i]? = some w → Hd H d w) → Hd H tl t → Hd H (.lst xs tl) v
  | vec {xs : List Dt} {a l : Addr} {vs : List V} : H a = some (.inst c_Vector [(n_things, .ref l)]) → H l = some (.list vs) → xs.length = vs.length → (∀ (i : Nat) d w, xs[i]? = some d → vs[i]? = some w → Hd H d w) → Hd H (.vec xs) (.ref a)
theorem Hd.ext {H H' : MH} (x : Ext H H') {d : Dt} {v : V} (h : Hd H d v) : Hd H' d v := by
  induction h with
  | sym h => exact .sym (x _ _ h)
  | al h h' => exact .al (x _ _ h) (x _ _ h')
  | int h => exact .int h
  | emp => exact .emp
  | lst h1 h2 hc hl _ _ ih iht => exact .lst h1 h2 (hc.ext x) hl ih iht
  | vec h1 h2 hl _ ih => exact .vec (x _ _ h1) (x _ _ h2) hl ih
set_option tactic.hygienic true in
theorem Hd.noBi {H : MH} {d : Dt} {v : V} (h : Hd H d v) : noBi v = true := by
  cases h with
  | lst h1 h2 hc hl h3 h4 =>
    rename_i t vs
    cases vs with
    | nil => exact absurd (List.eq_nil_of_length_eq_zero hl) h1
    | cons u us => obtain ⟨a, d, rfl, _⟩ := hc; rfl
  | _ => rfl
theorem Hd.np {H : MH} {d : Dt} {v : V} (hb : Base H) (h : Hd H d v) (hl : d.isLst = false) : NotPair H v := by
  cases h with
  | sym h => exact .inl ⟨_, _, rfl, inst_at h, by decide⟩
  | al h _ => exact .inl ⟨_, _, rfl, inst_at h, by decide⟩
  | int _ => exact .inr ⟨_, rfl⟩
  | emp => exact hb.np
  | lst => cases hl
  | vec h1 h2 hl _ => exact .inl ⟨_, _, rfl, inst_at h1, by decide⟩
set_option tactic.hygienic true in
theorem Hd.pair {H : MH} {xs : List Dt} {t : Dt} {v : V} (h : Hd H (.lst xs t) v) : ∃ a u d, v = .ref a ∧ H a = some (.inst c_Pair (pairFs u d)) := by
  cases h with
  | lst h1 h2 hc hl h3 h4 =>
    rename_i t vs
    cases vs with
    | nil => exact absurd (List.eq_nil_of_length_eq_zero hl) h1
    | cons u us => obtain ⟨a, d, rfl, e, _⟩ := hc; exact ⟨a, u, d, rfl, e⟩
section
variable {C : Cx} {n : Nat} {ρ : Loc} {H : MH}
theorem snoc_of {α : Type} {xs : List α} (h : xs ≠ []) : ∃ ys y, xs = ys ++ [y] := ⟨xs.dropLast, xs.getLast h, (List.dropLast_concat_getLast h).symm⟩
theorem All2.unsnoc {α β : Type} {P : α → β → Prop} {xs : List α} {y : α} {zs : List β} (h : All2 P (xs ++ [y]) zs) : ∃ us u, zs = us ++ [u] ∧ All2 P xs us ∧ P y u := by
  have hl := h.len
  have hne : zs ≠ [] := fun e => by subst e; simp at hl
  obtain ⟨us, u, rfl⟩ := snoc_of hne
  have hl2 : xs.length = us.length := by simpa using hl
  refine ⟨us, u, rfl, ⟨hl2, fun i a b e1 e2 => ?_⟩, ?_⟩
  · have h1 := List.getElem?_eq_some_iff.mp e1
    have h2 := List.getElem?_eq_some_iff.mp e2
    exact h.at_ i a b (by rw [List.getElem?_append_left h1.1]; exact e1) (by rw [List.getElem?_append_left h2.1]; exact e2)
  · exact h.at_ xs.length y u (by simp) (by rw [hl2]; simp)
theorem All2.app {α β : Type} {P : α → β → Prop} {xs xs' : List α} {ys ys' : List β} (h : All2 P xs ys) (h' : All2 P xs' ys') : All2 P (xs ++ xs') (ys ++ ys') := by
  refine ⟨by simp [h.len, h'.len], fun i a b e1 e2 => ?_⟩
  rcases Nat.lt_or_ge i xs.length with hi | hi
  · rw [List.getElem?_append_left hi] at e1
    rw [List.getElem?_append_left (h.len ▸ hi)] at e2
    exact h.at_ i a b e1 e2
  · rw [List.getElem?_append_right hi] at e1
    rw [List.getElem?_append_right (h.len ▸ hi)] at e2
    rw [h.len] at e1
    exact h'.at_ _ a b e1 e2
noncomputable abbrev hasBody : K :=
    (.seq (.set 2 (.meth (.var 1) n_pop .nil))
    (.seq (.ifs (.tval (.call (.con (.bi "isinstance")) (.cons (.var 2) (.cons (.con (.ref c_Alias)) .nil))))
      (.seq (.ret (.bool true)) .nil)
      .nil)
    (.seq (.ifs (.tval (.call (.con (.bi "isinstance")) (.cons (.var 2) (.cons (.con (.ref c_Pair)) .nil))))
      (.seq (.unpack (.many [3, 4]) (.call (.con (.ref f_split_list)) (.cons (.var 2) .nil)))
      (.seq (.ifs (.tcmp .IsNot (.var 4) .none)
        (.seq (.expr (.meth (.var 1) n_extend (.cons (.var 3) .nil)))
        (.seq (.expr (.meth (.var 1) n_append (.cons (.var 4) .nil))) .nil))
        .nil) .nil))
      (.seq (.ifs (.tval (.call (.con (.bi "isinstance")) (.cons (.var 2) (.cons (.con (.ref c_Vector)) .nil))))
        (.seq (.expr (.meth (.var 1) n_extend (.cons (.attr (.var 2) n_things) .nil))) .nil)
        .nil) .nil)) .nil)))
theorem isnot_none_np {t : V} {Q : V → MH → Prop} (h : NotPair H t) (q : Q (.bool true) H) : cmpW .IsNot t .none H Q := by
  rcases h with ⟨a, D, rfl, _⟩ | ⟨i, rfl⟩
  · exact ⟨trivial, by simpa using q⟩
  · exact ⟨trivial, by simpa using q⟩
set_option tactic.hygienic true in
theorem has_loop (F : Fit C) {wl : Addr} {H0 : MH} (hb : Base H0) (hwl : H0 wl = none) {R : Fl → Loc → MH → Prop} :
    ∀ (N : Nat) (ds : List Dt) (vs : List V) (ρ : Loc) (H : MH), szL ds ≤ N → N ≤ lim → Ext H0 H → H wl = some (.list vs) → All2 (Hd H0) ds vs → ρ 1 = some (.ref wl) →
      (hasAlL ds = true → ∀ ρ H', Ext H0 H' → R (.ret (.bool true)) ρ H') → (hasAlL ds = false → ∀ ρ H', Ext H0 H' → R .next ρ H') →
      WH C (n + 2) (.tcmp .Gt (.call (.con (.bi "len")) (.cons (.var 1) .nil)) (.int (0))) hasBody R ρ H := by
  have none_ : ∀ (vs : List V) (ρ : Loc) (H : MH), vs = [] → H wl = some (.list vs) → ρ 1 = some (.ref wl) → R .next ρ H → WH C (n + 2) (.tcmp .Gt (.call (.con (.bi "len")) (.cons (.var 1) .nil)) (.int (0))) hasBody R ρ H := by
    intro vs ρ H e hl p1 r
    subst e
    refine WH.turn ?_
    wide_open using (p1, p1)
    refine ⟨Callable_bi, WC_len_list hl (by simp) ?_⟩
    refine cmp_gt_int ⟨false, rfl, ?_⟩
    walk_at "L"
    exact r
  intro N
  induction N with
  | zero =>
    intro ds vs ρ H hs hN x hl ha p1 qt qf
    have e : ds = [] := List.eq_nil_of_length_eq_zero (by have := szL_len ds; walk_at "O")
    subst e
    exact none_ vs ρ H ha.nil_of hl p1 (qf rfl ρ H x)
  | succ N ih =>
    intro ds vs ρ H hs hN x hl ha p1 qt qf
    by_cases hne : ds = []
    · subst hne
      exact none_ vs ρ H ha.nil_of hl p1 (qf rfl ρ H x)
    obtain ⟨es, d, rfl⟩ := snoc_of hne
    obtain ⟨us, v, rfl, hu, hv⟩ := ha.unsnoc
    rw [szL_app] at hs
    rw [hasAlL_app] at qt qf
    simp only [szL, hasAlL, Bool.or_false] at hs qt qf
    have hlen := hu.len
    have hsl := szL_len es
    have hN' : N + 1 ≤ 1000000 := hN
    refine WH.step fun T hT hR => ?_
    wide_open using (p1, p1)
    refine ⟨Callable_bi, WC_len_list hl (by rw [List.length_append]; simp; show _ ≤ 1000000; walk_at "O") ?_⟩
    refine cmp_gt_int ⟨true, ?_, ?_⟩
    · congr 1; rw [decide_eq_true]; simp
    unfold hasBody
    wide_open using (p1, p1)
    refine bi_list (id := "list.pop") hl rfl ⟨Callable_bi, WC_pop hl (by show _ < 1000000; walk_at "O") ?_⟩
    have x1 : Ext H0 (H.set wl (.list us)) := fun a o e => by rw [MH.set_ne _ _ (ne_new e hwl)]; exact x _ _ e
    have go : ∀ (fs : List Dt) (ws : List V) (ρ' : Loc) (H' : MH), szL fs ≤ N → (hasAlL fs = (hasAlL es || d.hasAl)) → Ext H0 H' → H' wl = some (.list ws) → All2 (Hd H0) fs ws → ρ' 1 = some (.ref wl) → WH C (n + 2) (.tcmp .Gt (.call (.con (.bi "len")) (.cons (.var 1) .nil)) (.int (0))) hasBody R ρ' H' :=
      fun fs ws ρ' H' h1 h2 h3 h4 h5 h6 => ih fs ws ρ' H' h1 (by walk_at "O") h3 h4 h5 h6 (fun h => qt (by rw [← h2]; exact h)) (fun h => qf (by rw [← h2]; exact h))
    cases hv with
    | al h1 h2 =>
      refine isi_yes F (inst_at (x1 _ _ h1)) (by decide) ⟨true, rfl, ?_⟩
      walk_at "L"
      exact hR _ _ _ (qt (by simp [Dt.hasAl]) _ _ x1)
    | sym h1 =>
      refine isi_no F (inst_at (x1 _ _ h1)) (by decide) ⟨false, rfl, ?_⟩
      walk_at "L"
      refine isi_no F (inst_at (x1 _ _ h1)) (by decide) ⟨false, rfl, ?_⟩
      walk_at "L"
      refine isi_no F (inst_at (x1 _ _ h1)) (by decide) ⟨false, rfl, ?_⟩
      walk_at "L"
      refine hT _ _ ?_
      exact go es us _ _ (by simp [Dt.sz] at hs; walk_at "O") (by simp [Dt.hasAl]) x1 (MH.set_self _ _ _) hu (by simp [Loc.set, p1])
    | int _ =>
      refine isi_int F (by decide) ⟨false, rfl, ?_⟩
      walk_at "L"
      refine isi_int F (by decide) ⟨false, rfl, ?_⟩
      walk_at "L"
      refine isi_int F (by decide) ⟨false, rfl, ?_⟩
      walk_at "L"
      refine hT _ _ ?_
      exact go es us _ _ (by simp [Dt.sz] at hs; walk_at "O") (by simp [Dt.hasAl]) x1 (MH.set_self _ _ _) hu (by simp [Loc.set, p1])
    | emp =>
      refine isi_no F (hb.ext x1).inst (by decide) ⟨false, rfl, ?_⟩
      walk_at "L"
      refine isi_no F (hb.ext x1).inst (by decide) ⟨false, rfl, ?_⟩
      walk_at "L"
      refine isi_no F (hb.ext x1).inst (by decide) ⟨false, rfl, ?_⟩
      walk_at "L"
      refine hT _ _ ?_
      exact go es us _ _ (by simp [Dt.sz] at hs; walk_at "O") (by simp [Dt.hasAl]) x1 (MH.set_self _ _ _) hu (by simp [Loc.set, p1])
    | vec h1 h2 h3 h4 =>
      rename_i xs a l ws
      have h5 := x1 _ _ h2
      have hxs := szL_len xs
      simp only [Dt.sz] at hs
      refine isi_no F (inst_at (x1 _ _ h1)) (by decide) ⟨false, rfl, ?_⟩
      walk_at "L"
      refine isi_no F (inst_at (x1 _ _ h1)) (by decide) ⟨false, rfl, ?_⟩
      walk_at "L"
      refine isi_yes F (inst_at (x1 _ _ h1)) (by decide) ⟨true, rfl, ?_⟩
      wide_open using (p1, p1)
      refine bi_list (id := "list.extend") (MH.set_self _ _ _) rfl ?_
      refine attr_at F (x1 _ _ h1) (by decide) rfl rfl ⟨Callable_bi, WC_extend (MH.set_self _ _ _) h5 (by show _ ≤ 1000000; walk_at "O") ⟨(fun _ e => by cases e), ?_⟩⟩
      walk_at "L"
      refine hT _ _ ?_
      rw [set_set]
      refine go (es ++ xs) (us ++ ws) _ _ (by rw [szL_app]; walk_at "O") (by rw [hasAlL_app]; simp [Dt.hasAl]) (fun a o e => by rw [MH.set_ne _ _ (ne_new e hwl)]; exact x _ _ e) (MH.set_self _ _ _) (hu.app ⟨h3, h4⟩) (by simp [Loc.set, p1])
    | lst h1 h2 hc h3 h4 h5 =>
      rename_i xs tl t ws
      have hxs := szL_len xs
      simp only [Dt.sz] at hs
      obtain ⟨a0, u0, d0, rfl, e0⟩ := Hd.pair (.lst h1 h2 hc h3 h4 h5)
      have hnp := (h5.ext x1).np (hb.ext x1) h2
      refine isi_no F (inst_at (x1 _ _ e0)) (by decide) ⟨false, rfl, ?_⟩
      walk_at "L"
      refine isi_yes F (inst_at (x1 _ _ e0)) (by decide) ⟨true, rfl, ?_⟩
      walk_at "L"
      refine ⟨F.split_list.can, wc_split_list F (hc.ext x1) hnp (fun u hu => ?_) (by show _ ≤ 1000000; walk_at "O") fun c l H2 x2 hln hcn hc2 hl2 => ?_⟩
      · obtain ⟨f, _, hf⟩ := All2.mem (P := Hd H0) ⟨h3, h4⟩ hu
        exact hf.noBi
      refine ⟨c, _, rfl, hc2, rfl, ?_⟩
      wide_open using (p1, p1)
      refine isnot_none_np (hnp.ext x2) ⟨true, rfl, ?_⟩
      wide_open using (p1, p1)
      have hw2 := x2 _ _ (MH.set_self H wl (.list us))
      refine bi_list (id := "list.extend") hw2 rfl ⟨Callable_bi, WC_extend hw2 hl2 (by show _ ≤ 1000000; walk_at "O") ⟨(fun _ e => by cases e), ?_⟩⟩
      wide_open using (p1, p1)
      refine bi_list (id := "list.append") (MH.set_self _ _ _) rfl ⟨Callable_bi, WC_append (MH.set_self _ _ _) (by rw [List.length_append]; show _ ≤ 1000000; walk_at "O") ⟨(fun _ e => by cases e), ?_⟩⟩
      walk_at "L"
      refine hT _ _ ?_
      rw [set_set]
      refine go ((es ++ xs) ++ [tl]) ((us ++ ws) ++ [t]) _ _ (by rw [szL_app, szL_app]; simp [szL]; walk_at "O") (by rw [hasAlL_app, hasAlL_app]; simp [hasAlL, Dt.hasAl, Bool.or_assoc]) (fun a o e => by rw [MH.set_ne _ _ (ne_new e hwl)]; exact x2 _ _ (x1 _ _ e)) (MH.set_self _ _ _) ((hu.app ⟨h3, h4⟩).snoc h5) (by simp [Loc.set, p1])
theorem wc_has_alias (F : Fit C) {d : Dt} {v : V} {Q : V → MH → Prop} (hb : Base H) (h : Hd H d v) (hs : d.sz + 1 ≤ lim) (q : ∀ H', Ext H H' → Q (.bool d.hasAl) H') : WC C (n + 3) (.ref f_has_alias) [v] H Q := by
  refine F.has_alias.on F rfl ?_
  unfold k_has_alias
  refine kk_step fun P hP => ?_
  wide_open with (kk_seq, kk_seq)
  refine ⟨by show 1 ≤ lim; decide, fun wl hwl => hP _ _ ?_⟩
  clear P hP
  refine kk_step fun P hP => ?_
  wide_open with (kk_seq, kk_seq)
  refine has_loop F hb hwl (d.sz + 1) [d] [v] _ _ (by simp [szL]; walk_at "O") hs (Ext.new hwl) (MH.set_self _ _ _) (All2.cons h All2.nil) rfl (fun e ρ H' x => ?_) (fun e ρ H' x => ?_)
  · simp [hasAlL] at e
    try wide_open with (kk_seq, kk_seq)
    rw [← e]; exact q H' x
  · simp [hasAlL] at e
    try wide_open with (kk_seq, kk_seq)
    refine hP _ _ ?_
    try wide_open with (kk_seq, kk_seq)
    rw [← e]; exact q H' x
end
end N226
end
noncomputable section
open PySem PySem.W PySem.Calls PyProof.Rows
set_option maxRecDepth 10000
namespace N226
mutual
noncomputable def Dt.txt : Dt → Str
  | .sym s => s
  | .al _ => s_what
  | .int i => Str.ofString (toString i)
  | .emp => s_open ++ Txt.join s_space [] ++ s_close
  | .vec xs => s_vopen ++ Txt.join s_space (txtL xs) ++ s_close
  | .lst xs .emp => s_open ++ Txt.join s_space (txtL xs) ++ s_close
  | .lst xs t => s_open ++ Txt.join s_space (txtL xs ++ [s_dot, t.txt]) ++ s_close
noncomputable def txtL : List Dt → List Str
  | [] => []
  | x :: xs => x.txt :: txtL xs
end
mutual
noncomputable def Dt.wt : Dt → Nat
  | .sym s => s.length + 4
  | .al _ => 5
  | .int i => (Str.ofString (toString i)).length + 4
  | .emp => 6
  | .lst xs t => wtL xs + t.wt + 9
  | .vec xs => wtL xs + 9
noncomputable def wtL : List Dt → Nat
  | [] => 0
  | x :: xs => x.wt + 1 + wtL xs
end
mutual
noncomputable def Dt.dep : Dt → Nat
  | .lst xs t => 1 + max (depL xs) t.dep
  | .vec xs => 1 + depL xs
  | _ => 0
noncomputable def depL : List Dt → Nat
  | [] => 0
  | x :: xs => max x.dep (depL xs)
end
theorem txtL_map (xs : List Dt) : txtL xs = xs.map Dt.txt := by
  induction xs with
  | nil => rfl
  | cons x xs ih => simp [txtL, ih]
theorem depL_mem {xs : List Dt} {x : Dt} (h : x ∈ xs) : x.dep ≤ depL xs := by
  induction xs with
  | nil => cases h
  | cons y xs ih =>
    simp only [depL]
    rcases List.mem_cons.mp h with rfl | h
    · exact Nat.le_max_left _ _
    · exact Nat.le_trans (ih h) (Nat.le_max_right _ _)
theorem wtL_mem {xs : List Dt} {x : Dt} (h : x ∈ xs) : x.wt + 1 ≤ wtL xs := by
  induction xs with
  | nil => cases h
  | cons y xs ih =>
    simp only [wtL]
    rcases List.mem_cons.mp h with rfl | h
    · walk_at "O"
    · have := ih h; walk_at "O"
noncomputable def lenS (ts : List Str) : Nat := (ts.map fun t => t.length + 1).sum
theorem lenS_app (a b : List Str) : lenS (a ++ b) = lenS a + lenS b := by simp [lenS]
theorem lenS_eq (ts : List Str) : lenS ts = (ts.map (·.length)).sum + ts.length * s_space.length := by
  have e : s_space.length = 1 := by decide
  rw [e]
  induction ts with
  | nil => rfl
  | cons t ts ih => simp [lenS] at ih ⊢; walk_at "O"
theorem join_ok {ts : List Str} (h : lenS ts ≤ 500000) : JoinOk s_space ts = true := by
  unfold JoinOk Builtin.Str.tooLong
  rw [StrLaws.joinTotal, ← lenS_eq, sizeLine_eq]
  simp; walk_at "O"
theorem join_len (ts : List Str) : (Txt.join s_space ts).length ≤ lenS ts := by
  rw [lenS_eq]
  show (Builtin.Str.glued s_space ts).length ≤ _
  rw [StrLaws.glued_eq_join]
  exact StrLaws.join_length_le s_space ts
theorem txt_len : ∀ (m : Nat) (d : Dt), d.sz ≤ m → d.txt.length + 3 ≤ d.wt := by
  intro m
  induction m with
  | zero => intro d h; cases d <;> simp [Dt.sz] at h
  | succ m ih =>
    intro d h
    have hL : ∀ xs : List Dt, szL xs ≤ m → lenS (txtL xs) ≤ wtL xs := by
      intro xs
      induction xs with
      | nil => intro _; simp [txtL, lenS, wtL]
      | cons x xs ihx =>
        intro hx
        simp only [szL] at hx
        have h1 := ih x (by walk_at "O")
        have h2 := ihx (by walk_at "O")
        simp only [txtL, wtL]
        simp [lenS] at h2 ⊢
        walk_at "O"
    have e1 : s_open.length = 1 := by decide
    have e2 : s_close.length = 1 := by decide
    have e3 : s_vopen.length = 2 := by decide
    have e4 : s_what.length = 1 := by decide
    have e5 : s_dot.length = 1 := by decide
    cases d with
    | sym s => simp [Dt.txt, Dt.wt]
    | al s => simp [Dt.txt, Dt.wt, e4]
    | int i => simp [Dt.txt, Dt.wt]
    | emp =>
      have := join_len []
      simp [lenS] at this
      simp [Dt.txt, Dt.wt, Str.length_append, e1, e2]
      walk_at "O"
    | vec xs =>
      simp only [Dt.sz] at h
      have h1 := hL xs (by walk_at "O")
      have h2 := join_len (txtL xs)
      simp only [Dt.txt, Dt.wt, Str.length_append, e2, e3]
      walk_at "O"
    | lst xs t =>
      simp only [Dt.sz] at h
      have h1 := hL xs (by walk_at "O")
      have h3 := ih t (by walk_at "O")
      have gen : (s_open ++ Txt.join s_space (txtL xs ++ [s_dot, t.txt]) ++ s_close).length + 3 ≤ wtL xs + t.wt + 9 := by
        have h2 := join_len (txtL xs ++ [s_dot, t.txt])
        rw [lenS_app] at h2
        simp [lenS, e5] at h2 h1
        simp only [Str.length_append, e1, e2]
        walk_at "O"
      have h4 := join_len (txtL xs)
      cases t with
      | emp =>
        simp only [Dt.txt, Dt.wt, Str.length_append, e1, e2]
        walk_at "O"
      | _ => exact gen
end N226
end
noncomputable section
open PySem PySem.W PySem.Calls PyProof.Rows
set_option maxRecDepth 10000
namespace N226
section
variable {C : Cx} {n : Nat} {ρ : Loc} {H : MH}
theorem szL_mem {xs : List Dt} {x : Dt} (h : x ∈ xs) : x.sz + 1 ≤ szL xs := by
  induction xs with
  | nil => cases h
  | cons y xs ih =>
    simp only [szL]
    rcases List.mem_cons.mp h with rfl | h
    · walk_at "O"
    · have := ih h; walk_at "O"
noncomputable def TextC (C : Cx) (n m : Nat) : Prop := ∀ {H : MH} {d : Dt} {v : V} {Q : V → MH → Prop}, Base H → Hd H d v → d.dep ≤ m → d.wt ≤ 400000 → d.sz ≤ 400000 → (∀ H', Ext H H' → Q (.str d.txt) H') → WC C n (.ref f_law_text) [v] H Q
theorem text_comp (F : Fit C) {m : Nat} (hT : TextC C n m) {l : Addr} {xs : List Dt} {vs : List V} {Q : List V → MH → Prop} {H0 : MH} (hb : Base H0) (hl : H0 l = some (.list vs)) (ha : All2 (Hd H0) xs vs) (hd : ∀ x ∈ xs, x.dep ≤ m ∧ x.wt ≤ 400000 ∧ x.sz ≤ 400000) (hn : xs.length ≤ 400000) :
    ∀ (k i : Nat) (H : MH), i + k = xs.length → Ext H0 H → (∀ H', Ext H0 H' → Q ((txtL xs).map V.str) H') →
      CP C n (.call (.con (.ref f_law_text)) (.cons (.var 0) .nil)) .ttrue ρ Q (.lst l i) ((txtL (xs.take i)).map V.str) H := by
  intro k
  have hlen := ha.len
  induction k with
  | zero =>
    intro i H hi x q
    refine CP.done (by simp only [Src.item, x _ _ hl]; rw [List.getElem?_eq_none (by walk_at "O")]) ?_
    rw [List.take_of_length_le (by walk_at "O")]
    exact q H x
  | succ k ih =>
    intro i H hi x q
    have h1i : i < xs.length := by walk_at "O"
    have h2i : i < vs.length := by walk_at "O"
    refine CP.item (v := vs[i]) (by simp only [Src.item, x _ _ hl]; rw [List.getElem?_eq_getElem h2i]) ?_
    try wide_open with (kk_seq, kk_seq)
    obtain ⟨b1, b2, b3⟩ := hd _ (List.getElem_mem h1i)
    refine ⟨F.law_text.can, hT (hb.ext x) ((ha.at_ i _ _ (List.getElem?_eq_getElem h1i) (List.getElem?_eq_getElem h2i)).ext x) b1 b2 b3 fun H' x' => ?_⟩
    refine ⟨by rw [List.length_map, txtL_map, List.length_map, List.length_take]; show _ ≤ 1000000; walk_at "O", ?_⟩
    have e : (Src.lst l i).next = .lst l (i + 1) := rfl
    have e2 : (txtL (xs.take i)).map V.str ++ [V.str xs[i].txt] = (txtL (xs.take (i + 1))).map V.str := by
      rw [List.take_succ_eq_append_getElem h1i, txtL_map, txtL_map, List.map_append, List.map_append]; rfl
    rw [e, e2]
    exact ih (i + 1) H' (by walk_at "O") (x.trans x') q
theorem bin_add_str {x y : Str} {Q : V → MH → Prop} (h : x.length + y.length ≤ 1000000) (q : Q (.str (x ++ y)) H) : binW .Add (.str x) (.str y) H Q := ⟨h, q⟩
theorem is_emp_hd {d : Dt} {v : V} {Q : V → MH → Prop} (hb : Base H) (h : Hd H d v) (h1 : d.isLst = false) (h2 : d ≠ .emp) (q : Q (.bool false) H) : cmpW .Is v (.ref a_EMPTY) H Q := by
  cases h with
  | sym h => exact is_not_emp hb (inst_at h) (by decide) q
  | al h _ => exact is_not_emp hb (inst_at h) (by decide) q
  | int _ => exact ⟨trivial, by simpa using q⟩
  | emp => exact absurd rfl h2
  | lst => cases h1
  | vec h _ _ _ => exact is_not_emp hb (inst_at h) (by decide) q
set_option tactic.hygienic true in
theorem text_all (F : Fit C) : ∀ (m : Nat), TextC C (n + m + 3) m := by
  intro m
  have simple : ∀ (n : Nat) {H : MH} {d : Dt} {v : V} {Q : V → MH → Prop}, Base H → Hd H d v → d.dep = 0 → d.wt ≤ 400000 → (∀ H', Ext H H' → Q (.str d.txt) H') → WC C (n + 3) (.ref f_law_text) [v] H Q := by
    intro n H d v Q hb h h0 hw q
    refine F.law_text.on F rfl ?_
    unfold k_law_text
    cases h with
    | sym h =>
      refine kk_step fun P hP => ?_
      walk_at "L"
      refine isi_yes F (inst_at h) (by decide) ⟨true, rfl, ?_⟩
      walk_at "L"
      exact attr_at F h (by decide) rfl rfl (q H Ext.refl)
    | al h _ =>
      refine kk_step fun P hP => ?_
      walk_at "L"
      refine isi_no F (inst_at h) (by decide) ⟨false, rfl, ?_⟩
      walk_at "L"
      refine hP _ _ ?_
      clear P hP
      refine kk_step fun P hP => ?_
      walk_at "L"
      refine isi_no F (inst_at h) (by decide) ⟨false, rfl, ?_⟩
      walk_at "L"
      refine hP _ _ ?_
      clear P hP
      refine kk_step fun P hP => ?_
      walk_at "L"
      refine isi_no F (inst_at h) (by decide) ⟨false, rfl, ?_⟩
      walk_at "L"
      refine isnot_not_emp hb (inst_at h) (by decide) ⟨true, rfl, ?_⟩
      walk_at "L"
      refine isi_yes F (inst_at h) (by decide) ⟨true, rfl, ?_⟩
      walk_at "L"
      exact q H Ext.refl
    | int hi =>
      rename_i i
      refine kk_step fun P hP => ?_
      walk_at "L"
      refine isi_int F (by decide) ⟨false, rfl, ?_⟩
      walk_at "L"
      refine hP _ _ ?_
      clear P hP
      refine kk_step fun P hP => ?_
      walk_at "L"
      refine isi_int F (by decide) ⟨false, rfl, ?_⟩
      walk_at "L"
      refine hP _ _ ?_
      clear P hP
      refine kk_step fun P hP => ?_
      walk_at "L"
      refine isi_int F (by decide) ⟨false, rfl, ?_⟩
      walk_at "L"
      refine cmp_isnot trivial ⟨true, rfl, ?_⟩
      walk_at "L"
      refine isi_int F (by decide) ⟨false, rfl, ?_⟩
      walk_at "L"
      refine ⟨Callable_ty, WC_str_int (by rcases hi with rfl | rfl <;> decide) (q H Ext.refl)⟩
    | emp =>
      refine kk_step fun P hP => ?_
      walk_at "L"
      refine isi_no F hb.inst (by decide) ⟨false, rfl, ?_⟩
      walk_at "L"
      refine hP _ _ ?_
      clear P hP
      refine kk_step fun P hP => ?_
      walk_at "L"
      refine isi_no F hb.inst (by decide) ⟨false, rfl, ?_⟩
      walk_at "L"
      refine hP _ _ ?_
      clear P hP
      refine kk_step fun P hP => ?_
      walk_at "L"
      refine isi_no F hb.inst (by decide) ⟨false, rfl, ?_⟩
      walk_at "L"
      refine isnot_emp hb ⟨false, rfl, ?_⟩
      walk_at "L"
      refine hP _ _ ?_
      clear P hP
      refine kk_step fun P hP => ?_
      walk_at "L"
      refine ⟨F.split_list.can, wc_split_list F (v := .ref a_EMPTY) (t := .ref a_EMPTY) (xs := []) rfl hb.np (fun _ h => nomatch h) (by simp) fun c l H1 x1 hln hcn hc1 hl1 => ?_⟩
      refine ⟨c, _, rfl, hc1, rfl, hP _ _ ?_⟩
      clear P hP
      refine kk_step fun P hP => ?_
      walk_at "L"
      refine is_emp (hb.ext x1) ⟨true, rfl, ?_⟩
      walk_at "L"
      refine ⟨by decide, fun e he => hP _ _ ?_⟩
      clear P hP
      have x2 := Ext.new (o := .list []) he
      walk_at "L"
      refine bi_join ?_
      refine ⟨_, iter_list (x2 _ _ hl1), CP.done (by simp only [Src.item, x2 _ _ hl1]; rfl) fun g hg => ?_⟩
      have x3 := Ext.new (o := .list []) hg
      refine ⟨_, _, MH.set_self _ _ _, x3 _ _ (MH.set_self _ _ _), by decide, fun f hf => ?_⟩
      have hj := join_len []
      simp [lenS] at hj
      refine ⟨Callable_bi, WC_join (ts := []) (MH.set_self _ _ _) (join_ok (by simp [lenS])) ?_⟩
      have e1 : s_open.length = 1 := by decide
      have e2 : s_close.length = 1 := by decide
      refine bin_add_str (by rw [e1]; walk_at "O") (bin_add_str (by rw [Str.length_append, e1, e2]; walk_at "O") ?_)
      exact q _ (((x1.trans x2).trans x3).trans (Ext.new hf))
    | lst h1 h2 hc hl h3 h4 => simp [Dt.dep] at h0
    | vec h1 h2 hl h3 => simp [Dt.dep] at h0
  induction m with
  | zero =>
    intro H d v Q hb h h0 hw hs q
    exact simple n hb h (by walk_at "O") hw q
  | succ m ih =>
    intro H d v Q hb h h0 hw hs q
    by_cases hz : d.dep = 0
    · exact simple (n + m + 1) hb h hz hw q
    have e1 : s_open.length = 1 := by decide
    have e2 : s_close.length = 1 := by decide
    have e3 : s_vopen.length = 2 := by decide
    have tlen := txt_len d.sz d (Nat.le_refl _)
    refine F.law_text.on F rfl ?_
    unfold k_law_text
    have lenL : ∀ xs : List Dt, lenS (txtL xs) ≤ wtL xs := by
      intro xs
      induction xs with
      | nil => simp [txtL, lenS, wtL]
      | cons x xs ihx =>
        have := txt_len x.sz x (Nat.le_refl _)
        simp only [txtL, wtL]
        simp [lenS] at ihx ⊢
        walk_at "O"
    cases h with
    | sym h => exact absurd rfl hz
    | al h _ => exact absurd rfl hz
    | int h => exact absurd rfl hz
    | emp => exact absurd rfl hz
    | vec h1 h2 hl h3 =>
      rename_i xs a l vs
      simp only [Dt.dep, Dt.wt, Dt.sz] at h0 hw hs
      have hxl := szL_len xs
      have hx : ∀ x ∈ xs, x.dep ≤ m ∧ x.wt ≤ 400000 ∧ x.sz ≤ 400000 := fun x hx => by
        have a1 := depL_mem hx
        have a2 := wtL_mem hx
        have a3 := szL_mem hx
        walk_at "O"
      refine kk_step fun P hP => ?_
      walk_at "L"
      refine isi_no F (inst_at h1) (by decide) ⟨false, rfl, ?_⟩
      walk_at "L"
      refine hP _ _ ?_
      clear P hP
      refine kk_step fun P hP => ?_
      walk_at "L"
      refine isi_yes F (inst_at h1) (by decide) ⟨true, rfl, ?_⟩
      walk_at "L"
      refine bi_join ?_
      refine attr_at F h1 (by decide) rfl rfl ⟨_, iter_list h2, ?_⟩
      refine text_comp F ih hb h2 ⟨hl, h3⟩ hx (by walk_at "O") xs.length 0 H (by walk_at "O") Ext.refl fun H1 x1 c hc => ?_
      have hj := join_len (txtL xs)
      have hk := lenL xs
      refine ⟨Callable_bi, WC_join (MH.set_self _ _ _) (join_ok (by walk_at "O")) ?_⟩
      refine bin_add_str (by rw [e3]; walk_at "O") (bin_add_str (by rw [Str.length_append, e3, e2]; walk_at "O") ?_)
      exact q _ (x1.trans (Ext.new hc))
    | lst h1 h2 hc hl h3 h4 =>
      rename_i xs tl t vs
      simp only [Dt.dep, Dt.wt, Dt.sz] at h0 hw hs
      obtain ⟨a0, u0, d0, rfl, e0⟩ := Hd.pair (.lst h1 h2 hc hl h3 h4)
      have hxl := szL_len xs
      have hx : ∀ x ∈ xs, x.dep ≤ m ∧ x.wt ≤ 400000 ∧ x.sz ≤ 400000 := fun x hx => by
        have a1 := depL_mem hx
        have a2 := wtL_mem hx
        have a3 := szL_mem hx
        walk_at "O"
      have hnp := h4.np hb h2
      refine kk_step fun P hP => ?_
      walk_at "L"
      refine isi_no F (inst_at e0) (by decide) ⟨false, rfl, ?_⟩
      walk_at "L"
      refine hP _ _ ?_
      clear P hP
      refine kk_step fun P hP => ?_
      walk_at "L"
      refine isi_no F (inst_at e0) (by decide) ⟨false, rfl, ?_⟩
      walk_at "L"
      refine hP _ _ ?_
      clear P hP
      refine kk_step fun P hP => ?_
      walk_at "L"
      refine isi_yes F (inst_at e0) (by decide) ⟨true, rfl, ?_⟩
      walk_at "L"
      refine hP _ _ ?_
      clear P hP
      refine kk_step fun P hP => ?_
      walk_at "L"
      refine ⟨F.split_list.can, wc_split_list F hc hnp (fun u hu => ?_) (by show _ ≤ 1000000; walk_at "O") fun c l H1 x1 hln hcn hc1 hl1 => ?_⟩
      · obtain ⟨f, _, hf⟩ := All2.mem (P := Hd H) ⟨hl, h3⟩ hu
        exact hf.noBi
      refine ⟨c, _, rfl, hc1, rfl, hP _ _ ?_⟩
      clear P hP
      have fin : ∀ (ρ : Loc) (es : List Str) (e : Addr) (H2 : MH), Ext H1 H2 → H2 e = some (.list (es.map V.str)) → lenS es ≤ 400010 → es.length ≤ 2 → ρ 1 = some (.ref l) → ρ 3 = some (.ref e) → lenS (txtL xs) + lenS es ≤ 400010 → (∀ H', Ext H H' → Q (.str (s_open ++ Txt.join s_space (txtL xs ++ es) ++ s_close)) H') →
          wpK C (n + m + 3) (.seq (.ret (.bin .Add (.bin .Add (.str s_open) (.meth (.str s_space) n_join (.cons (.bin .Add (.comp (.call (.con (.ref f_law_text)) (.cons (.var 0) .nil)) (.var 1) .ttrue) (.var 3)) .nil))) (.str s_close))) .nil) ρ H2 (retQ Q) := by
        intro ρ es e H2 x2 he hle hle2 p1 p3 hsum q
        wide_open using (p1, p3)
        refine bi_join ?_
        refine ⟨_, iter_list (x2 _ _ hl1), ?_⟩
        have x02 := x1.trans x2
        refine text_comp F ih (hb.ext x02) (x2 _ _ hl1) (All2.mono ⟨hl, h3⟩ fun _ _ _ h => h.ext x02) hx (by walk_at "O") xs.length 0 H2 (by walk_at "O") Ext.refl fun H3 x3 g hg => ?_
        have x4 := Ext.new (o := .list ((txtL xs).map V.str)) hg
        refine ⟨_, _, MH.set_self _ _ _, x4 _ _ (x3 _ _ he), ?_, fun f hf => ?_⟩
        · rw [List.length_map, List.length_map, txtL_map, List.length_map]; show _ ≤ 1000000; walk_at "O"
        rw [← List.map_append]
        have hj := join_len (txtL xs ++ es)
        rw [lenS_app] at hj
        refine ⟨Callable_bi, WC_join (MH.set_self _ _ _) (join_ok (by rw [lenS_app]; walk_at "O")) ?_⟩
        refine bin_add_str (by rw [e1]; walk_at "O") (bin_add_str (by rw [Str.length_append, e1, e2]; walk_at "O") ?_)
        exact q _ (((x02.trans x3).trans x4).trans (Ext.new hf))
      have hk := lenL xs
      by_cases ht : tl = .emp
      · subst ht
        cases h4
        refine kk_step fun P hP => ?_
        walk_at "L"
        refine is_emp (hb.ext x1) ⟨true, rfl, ?_⟩
        walk_at "L"
        refine ⟨by decide, fun e he => hP _ _ ?_⟩
        clear P hP
        refine fin _ [] e _ (Ext.new he) (MH.set_self _ _ _) (by simp [lenS]) (by simp) rfl rfl (by simp [lenS] at hk ⊢; walk_at "O") fun H' x' => ?_
        rw [List.append_nil]
        exact q H' x'
      · refine kk_step fun P hP => ?_
        walk_at "L"
        refine is_emp_hd (hb.ext x1) (h4.ext x1) h2 ht ⟨false, rfl, ?_⟩
        walk_at "L"
        have ttl := txt_len tl.sz tl (Nat.le_refl _)
        refine ⟨F.law_text.can, ih (hb.ext x1) (h4.ext x1) (by walk_at "O") (by walk_at "O") (by walk_at "O") fun H2 x2 => ?_⟩
        refine ⟨by show 2 ≤ lim; decide, fun e he => hP _ _ ?_⟩
        clear P hP
        have e5 : s_dot.length = 1 := by decide
        refine fin _ [s_dot, tl.txt] e _ (x2.trans (Ext.new he)) (MH.set_self _ _ _) (by simp [lenS, e5]; walk_at "O") (by simp) rfl rfl (by simp [lenS, e5] at hk ⊢; walk_at "O") fun H' x' => ?_
        have : (Dt.lst xs tl).txt = s_open ++ Txt.join s_space (txtL xs ++ [s_dot, tl.txt]) ++ s_close := by
          cases tl <;> first | rfl | exact absurd rfl ht
        rw [← this]
        exact q H' x'
end
end N226
end
noncomputable section
open PySem PySem.W PySem.Calls PyProof.Rows
set_option maxRecDepth 10000
namespace N226
noncomputable def leafD (da db : Dt) : Lf → Dt
  | .name s => if s = s_a then da else if s = s_b then db else .al s
  | .int i => .int i
  | .fin => .emp
noncomputable def joinD (xs : List Dt) : Dt → Dt
  | .lst ys u => .lst (xs ++ ys) u
  | t => .lst xs t
mutual
noncomputable def toD (da db : Dt) : F → Dt
  | .lf x => leafD da db x
  | .lst fs tl => joinD (toDL da db fs) (leafD da db tl)
  | .vec fs => .vec (toDL da db fs)
noncomputable def toDL (da db : Dt) : List F → List Dt
  | [] => []
  | f :: fs => toD da db f :: toDL da db fs
end
theorem toDL_map (da db : Dt) (fs : List F) : toDL da db fs = fs.map (toD da db) := by
  induction fs with
  | nil => rfl
  | cons f fs ih => simp [toDL, ih]
section
variable {C : Cx} {n : Nat} {ρ : Loc} {H : MH}
theorem Chain.app {xs ys : List V} {v t u : V} (h : Chain H v xs t) (h' : Chain H t ys u) : Chain H v (xs ++ ys) u := by
  induction xs generalizing v with
  | nil => obtain rfl : v = t := h; exact h'
  | cons x xs ih => obtain ⟨a, d, e, e1, h⟩ := h; exact ⟨a, d, e, e1, ih h⟩
theorem leaf_hd {W : Wd} {σ α : Syms} {k k0 k1 : Int} {s : Addr} {va vb : V} {da db : Dt} (hw : Wk H W σ k) (hal : Als H σ k0 k1 s α) (ha : Hd H da va) (hb : Hd H db vb) {x : Lf} {v : V} (hx : ∀ i, x = .int i → i = 5) (h : Lw va vb α x v) : Hd H (leafD da db x) v := by
  cases x with
  | name t =>
    rcases h with ⟨rfl, rfl⟩ | ⟨rfl, rfl⟩ | ⟨n1, n2, c, hc, rfl⟩
    · simp [leafD]; exact ha
    · have : ¬ s_b = s_a := by decide
      simp [leafD, this]; exact hb
    · simp only [leafD, n1, n2, if_false]
      obtain ⟨j, b, e1, e2, e3, e4⟩ := hal _ (mem_of_lookup hc)
      obtain ⟨i, hi, hbs, _⟩ := hw.sym e1
      exact .al e4 hbs
  | int i =>
    obtain rfl : v = .int i := h
    exact .int (.inr (hx i rfl))
  | fin => obtain rfl : v = .ref a_EMPTY := h; exact .emp
set_option tactic.hygienic true in
theorem shape_hd {W : Wd} {σ α : Syms} {k k0 k1 : Int} {s : Addr} {va vb : V} {da db : Dt} {X : Addr → Prop} (hw : Wk H W σ k) (hal : Als H σ k0 k1 s α) (ha : Hd H da va) (hb : Hd H db vb) :
    ∀ (d : Nat) (f : Fm) (v : V), Ok d f → Shape H X (Lw va vb α) f v → Hd H (toD da db f) v := by
  have leaf : ∀ x v, okL x → Lw va vb α x v → Hd H (leafD da db x) v := fun x v hx h => leaf_hd hw hal ha hb (fun i e => by subst e; exact hx) h
  intro d
  induction d with
  | zero =>
    intro f v ho hs
    obtain ⟨x, rfl, hx⟩ := ho
    cases hs with
    | lf h => simp only [toD]; exact leaf x v hx h
  | succ d ih =>
    intro f v ho hs
    rcases ho with ⟨x, rfl, hx⟩ | ⟨fs, tl, rfl, hne, h4, ht, ho⟩ | ⟨fs, rfl, hne, h4, ho⟩
    · cases hs with
      | lf h => simp only [toD]; exact leaf x v hx h
    · cases hs with
      | lst hc hlen hs1 htl =>
      rename_i t us
      have h1 : (toDL da db fs).length = us.length := by rw [toDL_map, List.length_map]; exact hlen
      have h2 : All2 (Hd H) (toDL da db fs) us := ⟨h1, fun i x w e1 e2 => by
        rw [toDL_map, List.getElem?_map] at e1
        obtain ⟨f, hf, rfl⟩ := Option.map_eq_some_iff.mp e1
        exact ih f w (ho f (List.mem_of_getElem? hf)) (hs1 i f w hf e2)⟩
      have h3 : Hd H (leafD da db tl) t := leaf_hd hw hal ha hb (fun i e => by subst e; exact absurd ht (fun h => h)) htl
      have hn : toDL da db fs ≠ [] := by rw [toDL_map]; simpa using hne
      simp only [toD]
      generalize leafD da db tl = y at h3
      generalize toDL da db fs = xs at h1 h2 hn
      have plain : y.isLst = false → Hd H (.lst xs y) v := fun hy => .lst hn hy hc h1 h2.at_ h3
      cases y with
      | lst ys u =>
        cases h3 with
        | lst g1 g2 gc gl g3 g4 =>
          have := h2.app ⟨gl, g3⟩
          exact .lst (by simp [hn]) g2 (hc.app gc) this.len this.at_ g4
      | _ => exact plain rfl
    · cases hs with
      | vec h1 h2 hx hlen hs1 =>
      simp only [toD]
      refine .vec h1 h2 (by rw [toDL_map, List.length_map]; exact hlen) fun i x w e1 e2 => ?_
      rw [toDL_map, List.getElem?_map] at e1
      obtain ⟨f, hf, rfl⟩ := Option.map_eq_some_iff.mp e1
      exact ih f w (ho f (List.mem_of_getElem? hf)) (hs1 i f w hf e2)
end
end N226
end
noncomputable section
open PySem PySem.W PySem.Calls PyProof.Rows
set_option maxRecDepth 10000
namespace N226
mutual
noncomputable def strp : Dt → Dt
  | .al s => .sym s
  | .lst xs t => .lst (strpL xs) (strp t)
  | .vec xs => .vec (strpL xs)
  | t => t
noncomputable def strpL : List Dt → List Dt
  | [] => []
  | x :: xs => strp x :: strpL xs
end
theorem strpL_map (xs : List Dt) : strpL xs = xs.map strp := by
  induction xs with
  | nil => rfl
  | cons x xs ih => simp [strpL, ih]
theorem strp_lst (d : Dt) : (strp d).isLst = d.isLst := by cases d <;> rfl
section
variable {C : Cx} {n : Nat} {ρ : Loc} {H : MH}
noncomputable def Stab (M : List Addr) (H : MH) (d : Dt) (v : V) : Prop := ∀ H', But M H H' → Hd H' d v
theorem Stab.but {M : List Addr} {H' : MH} {d : Dt} {v : V} (h : Stab M H d v) (b : But M H H') : Stab M H' d v := fun H'' b' => h H'' (b.trans b')
theorem Stab.new {a b : Addr} {c : Addr} {H' : MH} {d : Dt} {v : V} (h : Stab [a, b] H d v) (bb : But [a, b] H H') (hc : H c = none) : Stab [a, c] H' d v := fun H'' b' => h H'' fun x o e nm => by
  refine b' _ _ (bb _ _ e nm) ?_
  simp only [List.mem_cons, List.not_mem_nil, or_false, not_or] at nm ⊢
  exact ⟨nm.1, ne_new e hc⟩
theorem wc_take_al (F : Fit C) {a b jl dl : Addr} {k sc : V} {i : Int} {s : Str} {ds : List V} {Q : V → MH → Prop} (h : H a = some (.inst c_Alias (aliasFs k (.ref b) sc))) (hb : H b = some (.inst c_Symbol (symFs i s))) (hd : H dl = some (.list ds)) (hl : ds.length ≤ lim) (q : Q .none (H.set dl (.list (ds ++ [.ref b])))) : WC C (n + 2) (.ref f_strip_take) [.ref a, .ref jl, .ref dl] H Q := by
  refine F.strip_take.on F rfl ?_
  unfold k_strip_take
  refine kk_step fun P hP => ?_
  walk_at "L"
  refine isi_yes F (inst_at h) (by decide) ⟨true, rfl, ?_⟩
  walk_at "L"
  refine bi_list (id := "list.append") hd rfl ⟨F.root_symbol.can, wc_root_alias F h hb ?_⟩
  refine ⟨Callable_bi, WC_append hd hl ⟨(fun _ e => by cases e), hP _ _ ?_⟩⟩
  walk_at "L"
  exact q
theorem wc_take_whole (F : Fit C) {v : V} {jl dl : Addr} {ds : List V} {Q : V → MH → Prop} (h : ∀ (n : Nat) (Cl : Addr) (Q : V → MH → Prop), Cl = c_Alias ∨ Cl = c_Pair ∨ Cl = c_Vector → Q (.bool false) H → Callable C (.bi "isinstance") ∧ WC C n (.bi "isinstance") [v, .ref Cl] H Q) (hd : H dl = some (.list ds)) (hl : ds.length ≤ lim) (q : Q .none (H.set dl (.list (ds ++ [v])))) : WC C (n + 2) (.ref f_strip_take) [v, .ref jl, .ref dl] H Q := by
  refine F.strip_take.on F rfl ?_
  unfold k_strip_take
  refine kk_step fun P hP => ?_
  walk_at "L"
  refine h _ _ _ (.inl rfl) ⟨false, rfl, ?_⟩
  walk_at "L"
  refine h _ _ _ (.inr (.inl rfl)) ⟨false, rfl, ?_⟩
  walk_at "L"
  refine h _ _ _ (.inr (.inr rfl)) ⟨false, rfl, ?_⟩
  walk_at "L"
  refine bi_list (id := "list.append") hd rfl ⟨Callable_bi, WC_append hd hl ⟨(fun _ e => by cases e), hP _ _ ?_⟩⟩
  walk_at "L"
  exact q
end
end N226
end
noncomputable section
open PySem PySem.W PySem.Calls PyProof.Rows
set_option maxRecDepth 10000
namespace N226
section
variable {C : Cx} {n : Nat} {ρ : Loc} {H : MH}
noncomputable def TakeIs (H : MH) (v w : V) : Prop := ∃ t, w = .ref t ∧ H t = some (.tuple [.str s_take, v])
theorem TakeIs.but {H' : MH} {jl : Addr} {js : List V} {v w : V} (hj : H jl = some (.list js)) (b : But [jl] H H') (h : TakeIs H v w) : TakeIs H' v w := by
  obtain ⟨t, e, ht⟩ := h
  exact ⟨t, e, b _ _ ht (by simp; exact ne_of ht hj (fun e => by cases e))⟩
theorem Loc.set_set {ρ : Loc} {i : Nat} {a b : V} : Loc.set (Loc.set ρ i a) i b = Loc.set ρ i b := by
  funext j; rw [Loc.set_at, Loc.set_at, Loc.set_at]; split <;> rfl
theorem take_loop (F : Fit C) {jl l : Addr} {us base : List V} {it : E} {b : K} {R : Fl → Loc → MH → Prop} {H0 : MH} (hb : b = .seq (.expr (.meth (.var 1) n_append (.cons (.tuple (.cons (.str s_take) (.cons (.sub it (.var 5)) .nil))) .nil))) .nil)
    (h1 : ρ 1 = some (.ref jl)) (hit : ∀ (p : V) (H' : MH) (Q : V → MH → Prop), But [jl] H0 H' → Q (.ref l) H' → (wps C n it).e (Loc.set ρ 5 p) H' Q) (hl : H0 l = some (.list us)) (hlj : l ≠ jl) (hj : H0 jl = some (.list base)) (hn : base.length + us.length ≤ 900000) :
    ∀ (k : Nat) (ts : List V) (ρ' : Loc) (H : MH), k ≤ us.length → (∀ p, Loc.set ρ' 5 p = Loc.set ρ 5 p) → But [jl] H0 H → H jl = some (.list (base ++ ts.reverse)) → All2 (TakeIs H) (us.drop k) ts →
      (∀ ρ'' ts' H', But [jl] H0 H' → H' jl = some (.list (base ++ ts'.reverse)) → All2 (TakeIs H') us ts' → R .next ρ'' H') →
      FR C n (.one 5) b R (.rng ((k : Int) - 1) k (-1)) ρ' H := by
  intro k
  induction k with
  | zero =>
    intro ts ρ' H hk hρ bt hjl ha q
    refine FR.done rfl ?_
    exact q ρ' ts H bt hjl (by simpa using ha)
  | succ k ih =>
    intro ts ρ' H hk hρ bt hjl ha q
    have hlt : k < us.length := by walk_at "O"
    refine FR.item (v := .int (((k + 1 : Nat) : Int) - 1)) (by simp [Src.item]) ?_
    have e1 : (((k + 1 : Nat) : Int) - 1) = (k : Int) := by walk_at "O"
    rw [e1]
    subst hb
    rw [a_one, hρ]
    have h1' : Loc.set ρ 5 (.int (k : Int)) 1 = some (.ref jl) := by simp [Loc.set_at, h1]
    have h5' : Loc.set ρ 5 (.int (k : Int)) 5 = some (.int (k : Int)) := by simp [Loc.set_at]
    simp (decide := true) only [kk_seq, kk_nil, kk_expr, ee_meth, ee_var, ee_tuple, ee_str, ee_sub, el_cons, el_nil, h1', h5', q_next, l_next, onV_some, Option.some.injEq, exists_eq_left', List.cons_append, List.nil_append]
    refine bi_list (id := "list.append") hjl rfl ?_
    refine hit _ _ _ bt ?_
    refine sub_list (bt _ _ hl (by simpa using hlj)) (by walk_at "O") (by walk_at "O") (pick_nat (List.getElem?_eq_getElem hlt)) ?_
    refine ⟨by show 2 ≤ lim; decide, fun t ht => ?_⟩
    have x := Ext.new (o := .tuple [V.str s_take, us[k]]) ht
    have hlen := ha.len
    refine ⟨Callable_bi, WC_append (x _ _ hjl) (by rw [List.length_append, List.length_reverse, ← hlen, List.length_drop]; show _ ≤ 1000000; walk_at "O") ⟨(fun _ e => by cases e), ?_⟩⟩
    have e2 : ((Src.rng (k : Int) (k + 1) (-1)).next) = Src.rng ((k : Int) - 1) k (-1) := by
      unfold Src.next; simp; walk_at "O"
    rw [e2]
    have ntj : t ≠ jl := (ne_new hjl ht).symm
    have bn : But [jl] H ((H.set t (.tuple [V.str s_take, us[k]])).set jl (.list (base ++ ts.reverse ++ [.ref t]))) := x.but.trans (But.set (by simp))
    refine ih (.ref t :: ts) _ _ (by walk_at "O") (fun p => Loc.set_set) (bt.trans bn) (by rw [MH.set_self]; simp) ?_ q
    rw [List.drop_eq_getElem_cons hlt]
    refine All2.cons ⟨t, rfl, ?_⟩ (ha.mono fun _ _ _ h => h.but hjl bn)
    rw [MH.set_ne _ _ ntj]; exact MH.set_self _ _ _
end
end N226
end
noncomputable section
open PySem PySem.W PySem.Calls PyProof.Rows
set_option maxRecDepth 10000
namespace N226
section
variable {C : Cx} {n : Nat} {ρ : Loc} {H : MH}
theorem is_none_np {t : V} {Q : V → MH → Prop} (h : NotPair H t) (q : Q (.bool false) H) : cmpW .Is t .none H Q := by
  rcases h with ⟨a, D, rfl, _⟩ | ⟨i, rfl⟩
  · exact ⟨trivial, by simpa using q⟩
  · exact ⟨trivial, by simpa using q⟩
theorem wc_take_vec (F : Fit C) {a l jl dl : Addr} {us js : List V} {Q : V → MH → Prop} (h : H a = some (.inst c_Vector [(n_things, .ref l)])) (hl : H l = some (.list us)) (hlj : l ≠ jl) (hj : H jl = some (.list js)) (hn : js.length + us.length ≤ 800000)
    (q : ∀ j0 ts H', But [jl] H H' → H' jl = some (.list (js ++ [.ref j0] ++ ts.reverse)) → H' j0 = some (.tuple [.str s_vector, .int us.length]) → All2 (TakeIs H') us ts → Q .none H') : WC C (n + 2) (.ref f_strip_take) [.ref a, .ref jl, .ref dl] H Q := by
  refine F.strip_take.on F rfl ?_
  unfold k_strip_take
  refine kk_step fun P hP => ?_
  walk_at "L"
  refine isi_no F (inst_at h) (by decide) ⟨false, rfl, ?_⟩
  walk_at "L"
  refine isi_no F (inst_at h) (by decide) ⟨false, rfl, ?_⟩
  walk_at "L"
  refine isi_yes F (inst_at h) (by decide) ⟨true, rfl, ?_⟩
  walk_at "L"
  have hlim : us.length ≤ lim := by show _ ≤ 1000000; walk_at "O"
  refine bi_list (id := "list.append") hj rfl ?_
  refine attr_at F h (by decide) rfl rfl ⟨Callable_bi, WC_len_list hl hlim ?_⟩
  refine ⟨by show 2 ≤ lim; decide, fun j0 hj0 => ?_⟩
  have x := Ext.new (o := .tuple [V.str s_vector, .int us.length]) hj0
  refine ⟨Callable_bi, WC_append (x _ _ hj) (by show _ ≤ 1000000; walk_at "O") ⟨(fun _ e => by cases e), ?_⟩⟩
  have b1 : But [jl] H ((H.set j0 (.tuple [V.str s_vector, .int us.length])).set jl (.list (js ++ [.ref j0]))) := x.but.trans (But.set (by simp))
  have nj : ∀ {b : Addr} {o : MO}, H b = some o → (∀ xs, o ≠ .list xs) → b ∉ [jl] := fun e h => by simp; exact ne_of e hj (h _)
  have nlj : l ∉ [jl] := by simpa using hlj
  refine attr_at F (b1 _ _ h (nj h (fun _ e => by cases e))) (by decide) rfl rfl ⟨Callable_bi, WC_len_list (b1 _ _ hl nlj) hlim ?_⟩
  walk_at "L"
  refine bin_sub ?_
  refine ⟨Callable_ty, WC_range3 (by decide) (by decide) fun r hr => ?_⟩
  have x2 := Ext.new (o := .rng ((us.length : Int) - 1) (-1) (-1)) hr
  refine ⟨_, iter_rng (MH.set_self _ _ _) (by have : us.length ≤ 1000000 := hlim; walk_at "O"), ?_⟩
  have e : rngCount ((us.length : Int) - 1) (-1) (-1) = us.length := by unfold rngCount; simp
  rw [e]
  have b2 := b1.trans (M := [jl]) x2.but
  have nj0 : j0 ∉ [jl] := by simp; exact (ne_new hj hj0).symm
  refine take_loop F (ρ := argLoc [.ref a, .ref jl, .ref dl]) (us := us) (l := l) (base := js ++ [.ref j0]) rfl rfl (fun p H' Q b qq => ?_) (b2 _ _ hl nlj) hlj (x2 _ _ (MH.set_self _ _ _)) (by simp; walk_at "O") us.length [] _ _ (Nat.le_refl _) (fun p => rfl) (fun _ _ e _ => e) (by simpa using x2 _ _ (MH.set_self _ _ _)) (by rw [List.drop_length]; exact All2.nil) fun ρ'' ts' H' b3 hj' ha => ?_
  · walk_at "L"
    refine attr_at F (b _ _ (b2 _ _ h (nj h (fun _ e => by cases e))) (nj h (fun _ e => by cases e))) (by decide) rfl rfl qq
  refine hP _ _ ?_
  walk_at "L"
  refine q j0 ts' H' (b2.trans b3) hj' (b3 _ _ (x2 _ _ ?_) nj0) ha
  rw [MH.set_ne _ _ (by simpa using nj0)]; exact MH.set_self _ _ _
end
end N226
end
noncomputable section
open PySem PySem.W PySem.Calls PyProof.Rows
set_option maxRecDepth 10000
namespace N226
section
variable {C : Cx} {n : Nat} {ρ : Loc} {H : MH}
theorem wc_take_lst (F : Fit C) {v t : V} {jl dl : Addr} {us js : List V} {Q : V → MH → Prop} (hc : Chain H v us t) (hne : us ≠ []) (hnp : NotPair H t) (hnb : ∀ u ∈ us, noBi u = true) (hj : H jl = some (.list js)) (hn : js.length + us.length ≤ 800000)
    (q : ∀ j0 j1 ts H', But [jl] H H' → H' jl = some (.list (js ++ [.ref j0, .ref j1] ++ ts.reverse)) → H' j0 = some (.tuple [.str s_list, .int us.length]) → H' j1 = some (.tuple [.str s_take, t]) → All2 (TakeIs H') us ts → Q .none H') : WC C (n + 3) (.ref f_strip_take) [v, .ref jl, .ref dl] H Q := by
  have hp : ∃ a u d, v = .ref a ∧ H a = some (.inst c_Pair (pairFs u d)) := by
    cases us with
    | nil => exact absurd rfl hne
    | cons u us => obtain ⟨a, d, rfl, e, _⟩ := hc; exact ⟨a, u, d, rfl, e⟩
  obtain ⟨a, u0, d0, rfl, h⟩ := hp
  have hlim : us.length ≤ lim := by show _ ≤ 1000000; walk_at "O"
  refine F.strip_take.on F rfl ?_
  unfold k_strip_take
  refine kk_step fun P hP => ?_
  walk_at "L"
  refine isi_no F (inst_at h) (by decide) ⟨false, rfl, ?_⟩
  walk_at "L"
  refine isi_yes F (inst_at h) (by decide) ⟨true, rfl, ?_⟩
  walk_at "L"
  refine ⟨F.split_list.can, wc_split_list F hc hnp hnb hlim fun c l H1 x1 hln hcn hc1 hl1 => ?_⟩
  refine ⟨c, _, rfl, hc1, rfl, ?_⟩
  walk_at "L"
  refine is_none_np (hnp.ext x1) ⟨false, rfl, ?_⟩
  walk_at "L"
  have hj1 := x1 _ _ hj
  have nlj : l ≠ jl := (ne_new hj hln).symm
  walk_at "L"
  refine bi_list (id := "list.append") hj1 rfl ⟨Callable_bi, WC_len_list hl1 hlim ?_⟩
  refine ⟨by show 2 ≤ lim; decide, fun j0 hj0 => ?_⟩
  have x2 := Ext.new (o := .tuple [V.str s_list, .int us.length]) hj0
  refine ⟨Callable_bi, WC_append (x2 _ _ hj1) (by show _ ≤ 1000000; walk_at "O") ⟨(fun _ e => by cases e), ?_⟩⟩
  have nj0 : j0 ∉ [jl] := by simp; exact (ne_new hj1 hj0).symm
  have b2 : But [jl] H1 ((H1.set j0 (.tuple [V.str s_list, .int us.length])).set jl (.list (js ++ [.ref j0]))) := x2.but.trans (But.set (by simp))
  have f0 : ((H1.set j0 (.tuple [V.str s_list, .int us.length])).set jl (.list (js ++ [.ref j0]))) j0 = some (.tuple [V.str s_list, .int us.length]) := by
    rw [MH.set_ne _ _ (by simpa using nj0)]; exact MH.set_self _ _ _
  have fl : ((H1.set j0 (.tuple [V.str s_list, .int us.length])).set jl (.list (js ++ [.ref j0]))) jl = some (.list (js ++ [.ref j0])) := MH.set_self _ _ _
  revert b2 f0 fl
  generalize ((H1.set j0 (.tuple [V.str s_list, .int us.length])).set jl (.list (js ++ [.ref j0]))) = H2
  intro b2 f0 fl
  walk_at "L"
  refine bi_list (id := "list.append") fl rfl ?_
  refine ⟨by show 2 ≤ lim; decide, fun j1 hj1n => ?_⟩
  have x3 := Ext.new (o := .tuple [V.str s_take, t]) hj1n
  refine ⟨Callable_bi, WC_append (x3 _ _ fl) (by simp; show _ ≤ 1000000; walk_at "O") ⟨(fun _ e => by cases e), ?_⟩⟩
  have nj1 : j1 ∉ [jl] := by simp; exact (ne_new fl hj1n).symm
  have b3 : But [jl] H2 ((H2.set j1 (.tuple [V.str s_take, t])).set jl (.list (js ++ [.ref j0] ++ [.ref j1]))) := x3.but.trans (But.set (by simp))
  have f1 : ((H2.set j1 (.tuple [V.str s_take, t])).set jl (.list (js ++ [.ref j0] ++ [.ref j1]))) j1 = some (.tuple [V.str s_take, t]) := by
    rw [MH.set_ne _ _ (by simpa using nj1)]; exact MH.set_self _ _ _
  have fl2 : ((H2.set j1 (.tuple [V.str s_take, t])).set jl (.list (js ++ [.ref j0] ++ [.ref j1]))) jl = some (.list (js ++ [.ref j0, .ref j1])) := by rw [MH.set_self]; simp
  revert b3 f1 fl2
  generalize ((H2.set j1 (.tuple [V.str s_take, t])).set jl (.list (js ++ [.ref j0] ++ [.ref j1]))) = H3
  intro b3 f1 fl2
  have nl : l ∉ [jl] := by simpa using nlj
  have hl3 := b3 _ _ (b2 _ _ hl1 nl) nl
  walk_at "L"
  refine ⟨Callable_bi, WC_len_list hl3 hlim ?_⟩
  refine bin_sub ?_
  refine ⟨Callable_ty, WC_range3 (by decide) (by decide) fun r hr => ?_⟩
  have x4 := Ext.new (o := .rng ((us.length : Int) - 1) (-1) (-1)) hr
  refine ⟨_, iter_rng (MH.set_self _ _ _) (by have : us.length ≤ 1000000 := hlim; walk_at "O"), ?_⟩
  have e : rngCount ((us.length : Int) - 1) (-1) (-1) = us.length := by unfold rngCount; simp
  rw [e]
  refine take_loop F (ρ := Loc.set (Loc.set (argLoc [.ref a, .ref jl, .ref dl]) 3 (.ref l)) 4 t) (us := us) (l := l) (base := js ++ [.ref j0, .ref j1]) rfl rfl (fun p H' Q b qq => ?_) (x4 _ _ hl3) nlj (x4 _ _ fl2) (by simp; walk_at "O") us.length [] _ _ (Nat.le_refl _) (fun p => rfl) (fun _ _ e _ => e) (by simpa using x4 _ _ fl2) (by rw [List.drop_length]; exact All2.nil) fun ρ'' ts' H' b5 hj' ha => ?_
  · walk_at "L"
    exact qq
  walk_at "L"
  refine hP _ _ ?_
  walk_at "L"
  exact q j0 j1 ts' H' ((((x1.but.trans b2).trans b3).trans x4.but).trans b5) hj' (b5 _ _ (x4 _ _ (b3 _ _ f0 nj0)) nj0) (b5 _ _ (x4 _ _ f1) nj1) ha
end
end N226
end
noncomputable section
open PySem PySem.W PySem.Calls PyProof.Rows
set_option maxRecDepth 10000
namespace N226
theorem clip_nat {m k : Nat} (h : k ≤ m) : clip m (k : Int) = k := by
  unfold clip
  rw [if_neg (by walk_at "O")]
  walk_at "O"
theorem cut_mid {ds vs rest : List V} : cut (ds ++ (vs ++ rest)) (some (ds.length : Int)) (some ((ds.length : Int) + vs.length)) = vs := by
  unfold cut
  have e : ((ds.length : Int) + vs.length) = ((ds.length + vs.length : Nat) : Int) := by walk_at "O"
  simp only [Option.elim]
  rw [e, clip_nat (by simp), clip_nat (by simp)]
  rw [List.drop_left, Nat.add_sub_cancel_left, List.take_left]
theorem cut_end {ds vs : List V} : cut (ds ++ vs) (some (ds.length : Int)) none = vs := by
  unfold cut
  simp only [Option.elim]
  rw [clip_nat (by simp), List.drop_left]
  rw [List.take_of_length_le (by simp)]
theorem cut_start {ds vs : List V} : cut (ds ++ vs) none (some (ds.length : Int)) = ds := by
  unfold cut
  simp only [Option.elim]
  rw [clip_nat (by simp)]
  simp
theorem pick_last {ds : List V} {v : V} : pick (ds ++ [v]) (-1) = some v := by
  unfold pick
  rw [if_neg (by decide), if_pos (by simp; walk_at "O")]
  have : ((-1 : Int) + ((ds ++ [v]).length : Nat)).toNat = ds.length := by simp; walk_at "O"
  rw [this]; simp
end N226
end
noncomputable section
open PySem PySem.W PySem.Calls PyProof.Rows
set_option maxRecDepth 10000
namespace N226
section
variable {C : Cx} {n : Nat} {ρ : Loc} {H : MH}
noncomputable abbrev stripBody : K :=
    (.seq (.unpack (.many [3, 4]) (.meth (.var 1) n_pop .nil))
    (.seq (.ifs (.tcmp .Eq (.var 3) (.str s_take))
      (.seq (.expr (.call (.con (.ref f_strip_take)) (.cons (.var 4) (.cons (.var 1) (.cons (.var 2) .nil))))) .nil)
      (.seq (.ifs (.tcmp .Eq (.var 3) (.str s_list))
        (.seq (.set 5 (.bin .Sub (.bin .Sub (.call (.con (.bi "len")) (.cons (.var 2) .nil)) (.var 4)) (.int (1))))
        (.seq (.set 6 (.call (.con (.ref f_list_of)) (.cons (.slice (.var 2) true (.var 5) true (.bin .Add (.var 5) (.var 4))) (.cons (.sub (.var 2) (.neg (.int (1)))) .nil))))
        (.seq (.set 2 (.slice (.var 2) false .bad true (.var 5)))
        (.seq (.expr (.meth (.var 2) n_append (.cons (.var 6) .nil))) .nil))))
        (.seq (.set 5 (.bin .Sub (.call (.con (.bi "len")) (.cons (.var 2) .nil)) (.var 4)))
        (.seq (.set 6 (.call (.con (.ref c_Vector)) (.cons (.slice (.var 2) true (.var 5) false .bad) .nil)))
        (.seq (.set 2 (.slice (.var 2) false .bad true (.var 5)))
        (.seq (.expr (.meth (.var 2) n_append (.cons (.var 6) .nil))) .nil))))) .nil)) .nil))
noncomputable abbrev stripTest : E := .tcmp .Gt (.call (.con (.bi "len")) (.cons (.var 1) .nil)) (.int (0))
theorem strip_turn (F : Fit C) {jl j : Addr} {js : List V} {word what : V} {R : Fl → Loc → MH → Prop} (hj : H jl = some (.list (js ++ [.ref j]))) (hn : js.length ≤ 900000) (ht : H j = some (.tuple [word, what])) (p1 : ρ 1 = some (.ref jl))
    (w : ∀ P : Loc → MH → Prop, (∀ ρ' H', WH C n stripTest stripBody R ρ' H' → P ρ' H') → wpK C n (.seq (.ifs (.tcmp .Eq (.var 3) (.str s_take))
      (.seq (.expr (.call (.con (.ref f_strip_take)) (.cons (.var 4) (.cons (.var 1) (.cons (.var 2) .nil))))) .nil)
      (.seq (.ifs (.tcmp .Eq (.var 3) (.str s_list))
        (.seq (.set 5 (.bin .Sub (.bin .Sub (.call (.con (.bi "len")) (.cons (.var 2) .nil)) (.var 4)) (.int (1))))
        (.seq (.set 6 (.call (.con (.ref f_list_of)) (.cons (.slice (.var 2) true (.var 5) true (.bin .Add (.var 5) (.var 4))) (.cons (.sub (.var 2) (.neg (.int (1)))) .nil))))
        (.seq (.set 2 (.slice (.var 2) false .bad true (.var 5)))
        (.seq (.expr (.meth (.var 2) n_append (.cons (.var 6) .nil))) .nil))))
        (.seq (.set 5 (.bin .Sub (.call (.con (.bi "len")) (.cons (.var 2) .nil)) (.var 4)))
        (.seq (.set 6 (.call (.con (.ref c_Vector)) (.cons (.slice (.var 2) true (.var 5) false .bad) .nil)))
        (.seq (.set 2 (.slice (.var 2) false .bad true (.var 5)))
        (.seq (.expr (.meth (.var 2) n_append (.cons (.var 6) .nil))) .nil))))) .nil)) .nil) (Loc.set (Loc.set ρ 3 word) 4 what) (H.set jl (.list js)) (loopQ P R)) :
    WH C n stripTest stripBody R ρ H := by
  refine WH.turn ?_
  simp (decide := true) only [et_cmp, ee_call, ee_con, el_cons, el_nil, ee_var, ee_int, p1, onV_some, cond_true, cond_false, decide_true, decide_false, Nat.reduceBEq, Option.some.injEq, exists_eq_left']
  refine ⟨Callable_bi, WC_len_list hj (by simp; show _ ≤ 1000000; walk_at "O") ?_⟩
  refine cmp_gt_int ⟨true, ?_, ?_⟩
  · congr 1; rw [decide_eq_true]; simp
  simp only [if_true, cond_true]
  unfold stripBody
  rw [kk_seq, kk_unpack]
  simp only [ee_meth, ee_var, p1, onV_some, cond_true, cond_false, decide_true, decide_false, Nat.reduceBEq, Option.some.injEq, exists_eq_left', el_nil]
  refine bi_list (id := "list.pop") hj rfl ⟨Callable_bi, ?_⟩
  refine WC_pop hj (by show _ < 1000000; walk_at "O") ?_
  have nj : j ≠ jl := ne_of ht hj (fun e => by cases e)
  refine ⟨j, _, rfl, by rw [MH.set_ne _ _ nj]; exact ht, rfl, ?_⟩
  exact w _ fun _ _ h => h
end
end N226
end
noncomputable section
open PySem PySem.W PySem.Calls PyProof.Rows
set_option maxRecDepth 10000
namespace N226
section
variable {C : Cx} {n : Nat} {ρ : Loc} {H : MH}
theorem if_word {i : Nat} {x y : Str} {A B : K} {R : Fl → Loc → MH → Prop} (p : ρ i = some (.str x)) (h : if x = y then wpK C n A ρ H R else wpK C n B ρ H R) : wpK C n (.ifs (.tcmp .Eq (.var i) (.str y)) A B) ρ H R := by
  rw [kk_if]
  simp only [et_cmp, ee_var, ee_str, p, onV_some, cond_true, cond_false, decide_true, decide_false, Nat.reduceBEq, Option.some.injEq, exists_eq_left']
  refine cmp_eq_str ⟨decide (x = y), rfl, ?_⟩
  by_cases e : x = y
  · simp only [e, decide_true, if_true] at h ⊢; exact h
  · simp only [e, decide_false, if_false, Bool.false_eq_true] at h ⊢; exact h
theorem strip_job_list (F : Fit C) {jl j dl : Addr} {js ds vs : List V} {t : V} {R : Fl → Loc → MH → Prop} (hj : H jl = some (.list (js ++ [.ref j]))) (hn : js.length ≤ 900000) (ht : H j = some (.tuple [.str s_list, .int vs.length])) (hd : H dl = some (.list (ds ++ (vs ++ [t])))) (hdn : ds.length + vs.length ≤ 900000) (hne : vs ≠ []) (hjd : dl ≠ jl) (p1 : ρ 1 = some (.ref jl)) (p2 : ρ 2 = some (.ref dl))
    (q : ∀ ρ' H' dl' u, But [jl] H H' → H dl' = none → H' jl = some (.list js) → H' dl' = some (.list (ds ++ [u])) → Chain H' u vs t → (∃ a, u = .ref a ∧ H a = none) → ρ' 1 = some (.ref jl) → ρ' 2 = some (.ref dl') → WH C (n + 3) stripTest stripBody R ρ' H') :
    WH C (n + 3) stripTest stripBody R ρ H := by
  refine strip_turn F hj hn ht p1 fun P hP => ?_
  have hd1 : (H.set jl (.list js)) dl = some (.list (ds ++ (vs ++ [t]))) := by rw [MH.set_ne _ _ hjd]; exact hd
  have b0 : But [jl] H (H.set jl (.list js)) := But.set (by simp)
  have e0 : (H.set jl (.list js)) jl = some (.list js) := MH.set_self _ _ _
  have old : ∀ a, (H.set jl (.list js)) a = none → H a = none := fun a h => by
    by_cases e : a = jl
    · subst e; rw [MH.set_self] at h; cases h
    · rw [MH.set_ne _ _ e] at h; exact h
  revert hd1 b0 e0 old
  generalize (H.set jl (.list js)) = H1
  intro hd1 b0 e0 old
  have hlen : (ds ++ (vs ++ [t])).length = ds.length + vs.length + 1 := by simp; walk_at "O"
  have hlim : (ds ++ (vs ++ [t])).length ≤ lim := by rw [hlen]; show _ ≤ 1000000; walk_at "O"
  have q1 : (Loc.set (Loc.set ρ 3 (.str s_list)) 4 (.int vs.length)) 1 = some (.ref jl) := by simpa [Loc.set] using p1
  have q2 : (Loc.set (Loc.set ρ 3 (.str s_list)) 4 (.int vs.length)) 2 = some (.ref dl) := by simpa [Loc.set] using p2
  have q3 : (Loc.set (Loc.set ρ 3 (.str s_list)) 4 (.int vs.length)) 3 = some (.str s_list) := by simp [Loc.set]
  have q4 : (Loc.set (Loc.set ρ 3 (.str s_list)) 4 (.int vs.length)) 4 = some (.int vs.length) := by simp [Loc.set]
  revert q1 q2 q3 q4
  generalize (Loc.set (Loc.set ρ 3 (.str s_list)) 4 (.int vs.length)) = ρ1
  intro q1 q2 q3 q4
  refine kk_step fun P1 hP1 => ?_
  refine if_word q3 ?_
  rw [if_neg (by decide)]
  refine kk_step fun P2 hP2 => ?_
  refine if_word q3 ?_
  rw [if_pos rfl]
  refine kk_step fun P3 hP3 => ?_
  simp only [kk_set, ee_bin, ee_call, ee_con, el_cons, el_nil, ee_var, ee_int, q2, q4, onV_some, cond_true, cond_false, decide_true, decide_false, Nat.reduceBEq, Option.some.injEq, exists_eq_left', q_next]
  refine ⟨Callable_bi, WC_len_list hd1 hlim ?_⟩
  refine bin_sub (bin_sub ?_)
  have e1 : (((ds ++ (vs ++ [t])).length : Nat) : Int) - vs.length - 1 = (ds.length : Int) := by rw [hlen]; walk_at "O"
  rw [e1]
  refine hP3 _ _ ?_
  clear hP3 P3
  have r1 : (Loc.set ρ1 5 (.int ds.length)) 1 = some (.ref jl) := by simpa [Loc.set] using q1
  have r2 : (Loc.set ρ1 5 (.int ds.length)) 2 = some (.ref dl) := by simpa [Loc.set] using q2
  have r4 : (Loc.set ρ1 5 (.int ds.length)) 4 = some (.int vs.length) := by simpa [Loc.set] using q4
  have r5 : (Loc.set ρ1 5 (.int ds.length)) 5 = some (.int ds.length) := by simp [Loc.set]
  revert r1 r2 r4 r5
  generalize (Loc.set ρ1 5 (.int ds.length)) = ρ2
  intro r1 r2 r4 r5
  refine kk_step fun P3 hP3 => ?_
  simp only [kk_set, ee_bin, ee_neg, ee_slice, ee_sub, ee_call, ee_con, el_cons, el_nil, ee_var, ee_int, r2, r4, r5, onV_some, cond_true, cond_false, decide_true, decide_false, Nat.reduceBEq, Option.some.injEq, exists_eq_left', q_next, partW, if_true, V.int.injEq]
  refine bin_add ⟨_, rfl, ?_⟩
  refine ⟨dl, _, rfl, .inl hd1, hlim, fun c hc => ?_⟩
  have x1 := Ext.new (o := .list (cut (ds ++ (vs ++ [t])) (some (ds.length : Int)) (some ((ds.length : Int) + vs.length)))) hc
  have hcl := MH.set_self H1 c (.list (cut (ds ++ (vs ++ [t])) (some (ds.length : Int)) (some ((ds.length : Int) + vs.length))))
  revert x1 hcl
  rw [cut_mid]
  generalize (H1.set c (.list vs)) = H2
  intro x1 hcl
  refine sub_list (x1 _ _ hd1) (by decide) (by decide) (v := t) (by rw [← List.append_assoc]; exact pick_last) ?_
  refine ⟨F.list_of.can, wc_list_of F hcl (by show _ ≤ 1000000; walk_at "O") fun u H3 x2 hch hfr => ?_⟩
  refine hP3 _ _ ?_
  clear hP3 P3
  have x12 := x1.trans x2
  have hd3 := x12 _ _ hd1
  have r1 : (Loc.set ρ2 6 u) 1 = some (.ref jl) := by simpa [Loc.set] using r1
  have r2 : (Loc.set ρ2 6 u) 2 = some (.ref dl) := by simpa [Loc.set] using r2
  have r5 : (Loc.set ρ2 6 u) 5 = some (.int ds.length) := by simpa [Loc.set] using r5
  have r6 : (Loc.set ρ2 6 u) 6 = some u := by simp [Loc.set]
  revert r1 r2 r5 r6
  generalize (Loc.set ρ2 6 u) = ρ3
  intro r1 r2 r5 r6
  refine kk_step fun P3 hP3 => ?_
  simp only [kk_set, ee_slice, ee_var, r2, r5, onV_some, cond_true, cond_false, decide_true, decide_false, Nat.reduceBEq, Option.some.injEq, exists_eq_left', q_next, partW, if_true, V.int.injEq, Bool.false_eq_true, if_false]
  refine ⟨dl, _, rfl, .inl hd3, hlim, fun dl' hdl' => ?_⟩
  have x3 := Ext.new (o := .list (cut (ds ++ (vs ++ [t])) none (some (ds.length : Int)))) hdl'
  have hcl := MH.set_self H3 dl' (.list (cut (ds ++ (vs ++ [t])) none (some (ds.length : Int))))
  revert x3 hcl
  rw [cut_start]
  generalize (H3.set dl' (.list ds)) = H4
  intro x3 hdl4
  refine hP3 _ _ ?_
  clear hP3 P3
  refine kk_step fun P3 hP3 => ?_
  have s6 : (Loc.set ρ3 2 (.ref dl')) 6 = some u := by simpa [Loc.set] using r6
  simp (decide := true) only [kk_expr, ee_meth, el_cons, el_nil, ee_var, Loc.set, onV_some, cond_true, cond_false, decide_true, decide_false, Nat.reduceBEq, Option.some.injEq, exists_eq_left', q_next, r6, s6, if_true, if_false, reduceIte, List.cons_append, List.nil_append]
  refine bi_list (id := "list.append") hdl4 rfl ⟨Callable_bi, WC_append hdl4 (by show _ ≤ 1000000; walk_at "O") ⟨(fun _ e => by cases e), ?_⟩⟩
  refine hP3 _ _ ?_
  simp only [kk_nil, q_next]
  refine hP2 _ _ ?_
  simp only [kk_nil, q_next]
  refine hP1 _ _ ?_
  simp only [kk_nil, l_next]
  refine hP _ _ ?_
  have ej := x3 _ _ (x12 _ _ e0)
  have nj : jl ≠ dl' := ne_new (x12 _ _ e0) hdl'
  have bb : But [jl] H (H4.set dl' (.list (ds ++ [u]))) := fun a o e nm => by
    have e1 := x12 _ _ (b0 _ _ e nm)
    rw [MH.set_ne _ _ (ne_new e1 hdl')]
    exact x3 _ _ e1
  refine q _ _ dl' u bb (old _ (x12.old_none hdl')) (by rw [MH.set_ne _ _ nj]; exact ej) (MH.set_self _ _ _) ?_ ?_ ?_ ?_
  · refine hch.ext fun a o e => ?_
    rw [MH.set_ne _ _ (ne_new e hdl')]
    exact x3 _ _ e
  · obtain ⟨a, e, h⟩ := hfr hne
    exact ⟨a, e, old _ (x1.old_none h)⟩
  · simpa [Loc.set] using r1
  · simp [Loc.set]
end
end N226
end
noncomputable section
open PySem PySem.W PySem.Calls PyProof.Rows
set_option maxRecDepth 10000
namespace N226
section
variable {C : Cx} {n : Nat} {ρ : Loc} {H : MH}
theorem strip_job_vec (F : Fit C) {jl j dl : Addr} {js ds vs : List V} {R : Fl → Loc → MH → Prop} (hj : H jl = some (.list (js ++ [.ref j]))) (hn : js.length ≤ 900000) (ht : H j = some (.tuple [.str s_vector, .int vs.length])) (hd : H dl = some (.list (ds ++ vs))) (hdn : ds.length + vs.length ≤ 900000) (hjd : dl ≠ jl) (p1 : ρ 1 = some (.ref jl)) (p2 : ρ 2 = some (.ref dl))
    (q : ∀ ρ' H' dl' a l, But [jl] H H' → H dl' = none → H' jl = some (.list js) → H' dl' = some (.list (ds ++ [.ref a])) → H' a = some (.inst c_Vector [(n_things, .ref l)]) → H' l = some (.list vs) → l ≠ jl → l ≠ dl' → ρ' 1 = some (.ref jl) → ρ' 2 = some (.ref dl') → WH C (n + 3) stripTest stripBody R ρ' H') :
    WH C (n + 3) stripTest stripBody R ρ H := by
  refine strip_turn F hj hn ht p1 fun P hP => ?_
  have hd1 : (H.set jl (.list js)) dl = some (.list (ds ++ vs)) := by rw [MH.set_ne _ _ hjd]; exact hd
  have b0 : But [jl] H (H.set jl (.list js)) := But.set (by simp)
  have e0 : (H.set jl (.list js)) jl = some (.list js) := MH.set_self _ _ _
  have old : ∀ a, (H.set jl (.list js)) a = none → H a = none := fun a h => by
    by_cases e : a = jl
    · subst e; rw [MH.set_self] at h; cases h
    · rw [MH.set_ne _ _ e] at h; exact h
  revert hd1 b0 e0 old
  generalize (H.set jl (.list js)) = H1
  intro hd1 b0 e0 old
  have hlen : (ds ++ vs).length = ds.length + vs.length := by simp
  have hlim : (ds ++ vs).length ≤ lim := by rw [hlen]; show _ ≤ 1000000; walk_at "O"
  have q1 : (Loc.set (Loc.set ρ 3 (.str s_vector)) 4 (.int vs.length)) 1 = some (.ref jl) := by simpa [Loc.set] using p1
  have q2 : (Loc.set (Loc.set ρ 3 (.str s_vector)) 4 (.int vs.length)) 2 = some (.ref dl) := by simpa [Loc.set] using p2
  have q3 : (Loc.set (Loc.set ρ 3 (.str s_vector)) 4 (.int vs.length)) 3 = some (.str s_vector) := by simp [Loc.set]
  have q4 : (Loc.set (Loc.set ρ 3 (.str s_vector)) 4 (.int vs.length)) 4 = some (.int vs.length) := by simp [Loc.set]
  revert q1 q2 q3 q4
  generalize (Loc.set (Loc.set ρ 3 (.str s_vector)) 4 (.int vs.length)) = ρ1
  intro q1 q2 q3 q4
  refine kk_step fun P1 hP1 => ?_
  refine if_word q3 ?_
  rw [if_neg (by decide)]
  refine kk_step fun P2 hP2 => ?_
  refine if_word q3 ?_
  rw [if_neg (by decide)]
  refine kk_step fun P3 hP3 => ?_
  simp only [kk_set, ee_bin, ee_call, ee_con, el_cons, el_nil, ee_var, ee_int, q2, q4, onV_some, cond_true, cond_false, decide_true, decide_false, Nat.reduceBEq, Option.some.injEq, exists_eq_left', q_next]
  refine ⟨Callable_bi, WC_len_list hd1 hlim ?_⟩
  refine bin_sub ?_
  have e1 : (((ds ++ vs).length : Nat) : Int) - vs.length = (ds.length : Int) := by rw [hlen]; walk_at "O"
  rw [e1]
  refine hP3 _ _ ?_
  clear hP3 P3
  have r1 : (Loc.set ρ1 5 (.int ds.length)) 1 = some (.ref jl) := by simpa [Loc.set] using q1
  have r2 : (Loc.set ρ1 5 (.int ds.length)) 2 = some (.ref dl) := by simpa [Loc.set] using q2
  have r5 : (Loc.set ρ1 5 (.int ds.length)) 5 = some (.int ds.length) := by simp [Loc.set]
  revert r1 r2 r5
  generalize (Loc.set ρ1 5 (.int ds.length)) = ρ2
  intro r1 r2 r5
  refine kk_step fun P3 hP3 => ?_
  simp only [kk_set, ee_slice, ee_call, ee_con, el_cons, el_nil, ee_var, ee_int, r2, r5, onV_some, cond_true, cond_false, decide_true, decide_false, Nat.reduceBEq, Option.some.injEq, exists_eq_left', q_next, partW, if_true, V.int.injEq, Bool.false_eq_true, if_false]
  refine ⟨dl, _, rfl, .inl hd1, hlim, fun l hc => ?_⟩
  have x1 := Ext.new (o := .list (cut (ds ++ vs) (some (ds.length : Int)) none)) hc
  have hcl := MH.set_self H1 l (.list (cut (ds ++ vs) (some (ds.length : Int)) none))
  revert x1 hcl
  rw [cut_end]
  generalize (H1.set l (.list vs)) = H2
  intro x1 hcl
  refine ⟨F.cVector.can, mk_Vector F fun a H3 x2 han ha => ?_⟩
  refine hP3 _ _ ?_
  clear hP3 P3
  have x12 := x1.trans x2
  have hd3 := x12 _ _ hd1
  have r1 : (Loc.set ρ2 6 (.ref a)) 1 = some (.ref jl) := by simpa [Loc.set] using r1
  have r2 : (Loc.set ρ2 6 (.ref a)) 2 = some (.ref dl) := by simpa [Loc.set] using r2
  have r5 : (Loc.set ρ2 6 (.ref a)) 5 = some (.int ds.length) := by simpa [Loc.set] using r5
  have r6 : (Loc.set ρ2 6 (.ref a)) 6 = some (.ref a) := by simp [Loc.set]
  revert r1 r2 r5 r6
  generalize (Loc.set ρ2 6 (.ref a)) = ρ3
  intro r1 r2 r5 r6
  refine kk_step fun P3 hP3 => ?_
  simp only [kk_set, ee_slice, ee_var, r2, r5, onV_some, cond_true, cond_false, decide_true, decide_false, Nat.reduceBEq, Option.some.injEq, exists_eq_left', q_next, partW, if_true, V.int.injEq, Bool.false_eq_true, if_false]
  refine ⟨dl, _, rfl, .inl hd3, hlim, fun dl' hdl' => ?_⟩
  have x3 := Ext.new (o := .list (cut (ds ++ vs) none (some (ds.length : Int)))) hdl'
  have hcl4 := MH.set_self H3 dl' (.list (cut (ds ++ vs) none (some (ds.length : Int))))
  revert x3 hcl4
  rw [cut_start]
  generalize (H3.set dl' (.list ds)) = H4
  intro x3 hdl4
  refine hP3 _ _ ?_
  clear hP3 P3
  refine kk_step fun P3 hP3 => ?_
  have s6 : (Loc.set ρ3 2 (.ref dl')) 6 = some (.ref a) := by simpa [Loc.set] using r6
  simp (decide := true) only [kk_expr, ee_meth, el_cons, el_nil, ee_var, Loc.set, onV_some, cond_true, cond_false, decide_true, decide_false, Nat.reduceBEq, Option.some.injEq, exists_eq_left', q_next, r6, s6, if_true, if_false, reduceIte, List.cons_append, List.nil_append]
  refine bi_list (id := "list.append") hdl4 rfl ⟨Callable_bi, WC_append hdl4 (by show _ ≤ 1000000; walk_at "O") ⟨(fun _ e => by cases e), ?_⟩⟩
  refine hP3 _ _ ?_
  simp only [kk_nil, q_next]
  refine hP2 _ _ ?_
  simp only [kk_nil, q_next]
  refine hP1 _ _ ?_
  simp only [kk_nil, l_next]
  refine hP _ _ ?_
  have ej := x3 _ _ (x12 _ _ e0)
  have nj : jl ≠ dl' := ne_new (x12 _ _ e0) hdl'
  have nl : l ≠ dl' := ne_new (x2 _ _ hcl) hdl'
  have bb : But [jl] H (H4.set dl' (.list (ds ++ [.ref a]))) := fun a o e nm => by
    have e1 := x12 _ _ (b0 _ _ e nm)
    rw [MH.set_ne _ _ (ne_new e1 hdl')]
    exact x3 _ _ e1
  refine q _ _ dl' a l bb (old _ (x12.old_none hdl')) (by rw [MH.set_ne _ _ nj]; exact ej) (MH.set_self _ _ _) ?_ ?_ ?_ nl ?_ ?_
  · rw [MH.set_ne _ _ (ne_new ha hdl')]; exact x3 _ _ ha
  · rw [MH.set_ne _ _ nl]; exact x3 _ _ (x2 _ _ hcl)
  · exact (ne_new e0 hc).symm
  · simpa [Loc.set] using r1
  · simp [Loc.set]
end
end N226
end
noncomputable section
open PySem PySem.W PySem.Calls PyProof.Rows
set_option maxRecDepth 10000
namespace N226
section
variable {C : Cx} {n : Nat} {ρ : Loc} {H : MH}
theorem strip_job_take (F : Fit C) {jl j dl : Addr} {js : List V} {v : V} {R : Fl → Loc → MH → Prop} {X : MH → Prop} (hj : H jl = some (.list (js ++ [.ref j]))) (hn : js.length ≤ 900000) (ht : H j = some (.tuple [.str s_take, v])) (p1 : ρ 1 = some (.ref jl)) (p2 : ρ 2 = some (.ref dl))
    (w : ∀ Q : V → MH → Prop, (∀ H', X H' → Q .none H') → WC C (n + 3) (.ref f_strip_take) [v, .ref jl, .ref dl] (H.set jl (.list js)) Q)
    (q : ∀ ρ' H', X H' → ρ' 1 = some (.ref jl) → ρ' 2 = some (.ref dl) → WH C (n + 3) stripTest stripBody R ρ' H') :
    WH C (n + 3) stripTest stripBody R ρ H := by
  refine strip_turn F hj hn ht p1 fun P hP => ?_
  have q1 : (Loc.set (Loc.set ρ 3 (.str s_take)) 4 v) 1 = some (.ref jl) := by simpa [Loc.set] using p1
  have q2 : (Loc.set (Loc.set ρ 3 (.str s_take)) 4 v) 2 = some (.ref dl) := by simpa [Loc.set] using p2
  have q3 : (Loc.set (Loc.set ρ 3 (.str s_take)) 4 v) 3 = some (.str s_take) := by simp [Loc.set]
  have q4 : (Loc.set (Loc.set ρ 3 (.str s_take)) 4 v) 4 = some v := by simp [Loc.set]
  revert q1 q2 q3 q4
  generalize (Loc.set (Loc.set ρ 3 (.str s_take)) 4 v) = ρ1
  intro q1 q2 q3 q4
  refine kk_step fun P1 hP1 => ?_
  refine if_word q3 ?_
  rw [if_pos rfl]
  refine kk_step fun P2 hP2 => ?_
  simp only [kk_expr, ee_call, ee_con, el_cons, el_nil, ee_var, q1, q2, q4, onV_some, cond_true, cond_false, decide_true, decide_false, Nat.reduceBEq, Option.some.injEq, exists_eq_left', q_next]
  refine ⟨F.strip_take.can, w _ fun H' h => ⟨(fun _ e => by cases e), hP2 _ _ ?_⟩⟩
  simp only [kk_nil, q_next]
  refine hP1 _ _ ?_
  simp only [kk_nil, l_next]
  exact hP _ _ (q _ _ h q1 q2)
noncomputable def drop2 (H : MH) (a b : Addr) : MH := fun x => if x = a ∨ x = b then none else H x
theorem drop2_of {a b x : Addr} {o : MO} (h : drop2 H a b x = some o) : H x = some o ∧ x ≠ a ∧ x ≠ b := by
  unfold drop2 at h
  split at h
  · cases h
  · rename_i k; exact ⟨h, fun e => k (.inl e), fun e => k (.inr e)⟩
theorem drop2_in {a b x : Addr} {o : MO} (h : H x = some o) (n1 : x ≠ a) (n2 : x ≠ b) : drop2 H a b x = some o := by
  unfold drop2; rw [if_neg (fun k => k.elim n1 n2)]; exact h
theorem drop2_step {a b : Addr} {H' : MH} (h : But [a, b] H H') : Ext (drop2 H a b) (drop2 H' a b) := fun x o e => by
  obtain ⟨e1, n1, n2⟩ := drop2_of e
  exact drop2_in (h _ _ e1 (by simp; exact ⟨n1, n2⟩)) n1 n2
theorem drop2_new {a b c : Addr} {H' : MH} (h : But [a] H H') (hc : H c = none) : Ext (drop2 H a b) (drop2 H' a c) := fun x o e => by
  obtain ⟨e1, n1, n2⟩ := drop2_of e
  exact drop2_in (h _ _ e1 (by simp; exact n1)) n1 (ne_new e1 hc)
theorem drop2_pop {a b : Addr} {o : MO} : Ext (drop2 H a b) (H.set a o) := fun x o e => by
  obtain ⟨e1, n1, n2⟩ := drop2_of e
  rw [MH.set_ne _ _ n1]; exact e1
theorem Chain.drop2 {a b : Addr} {x y : List V} (ha : H a = some (.list x)) (hb : H b = some (.list y)) : ∀ {xs : List V} {v t : V}, Chain H v xs t → Chain (drop2 H a b) v xs t
  | [], _, _, h => h
  | _ :: xs, _, _, ⟨c, d, e, h1, h2⟩ => ⟨c, d, e, drop2_in h1 (ne_of h1 ha (fun e => by cases e)) (ne_of h1 hb (fun e => by cases e)), h2.drop2 ha hb⟩
theorem TakeIs.drop2 {a b : Addr} {x y : List V} {v w : V} (ha : H a = some (.list x)) (hb : H b = some (.list y)) (h : TakeIs H v w) : TakeIs (drop2 H a b) v w := by
  obtain ⟨t, e, ht⟩ := h
  exact ⟨t, e, drop2_in ht (ne_of ht ha (fun e => by cases e)) (ne_of ht hb (fun e => by cases e))⟩
theorem TakeIs.ext {H' : MH} (x : Ext H H') {v w : V} (h : TakeIs H v w) : TakeIs H' v w := by
  obtain ⟨t, e, ht⟩ := h
  exact ⟨t, e, x _ _ ht⟩
noncomputable def TkD (C : Cx) (n : Nat) (R : Fl → Loc → MH → Prop) (jl : Addr) (d : Dt) : Prop :=
  ∀ (j dl : Addr) (js ds : List V) (v : V) (ρ : Loc) (H : MH), H jl = some (.list (js ++ [.ref j])) → drop2 H jl dl j = some (.tuple [.str s_take, v]) → H dl = some (.list ds) → dl ≠ jl → js.length + d.sz ≤ 700000 → ds.length + d.sz ≤ 700000 → Base (drop2 H jl dl) → Hd (drop2 H jl dl) d v → ρ 1 = some (.ref jl) → ρ 2 = some (.ref dl) →
    (∀ ρ' H' dl' v', Ext (drop2 H jl dl) (drop2 H' jl dl') → dl' ≠ jl → H' jl = some (.list js) → H' dl' = some (.list (ds ++ [v'])) → Hd (drop2 H' jl dl') (strp d) v' → (d.isLst = true → ∃ a, v' = .ref a ∧ drop2 H jl dl a = none) → ρ' 1 = some (.ref jl) → ρ' 2 = some (.ref dl') → WH C (n + 3) stripTest stripBody R ρ' H') →
    WH C (n + 3) stripTest stripBody R ρ H
theorem take_all {R : Fl → Loc → MH → Prop} {jl : Addr} : ∀ (xs : List Dt), (∀ d ∈ xs, TkD C n R jl d) → ∀ (dl : Addr) (js ds us ts : List V) (ρ : Loc) (H : MH), H jl = some (.list (js ++ ts.reverse)) → All2 (TakeIs (drop2 H jl dl)) us ts → H dl = some (.list ds) → dl ≠ jl → js.length + szL xs ≤ 700000 → ds.length + szL xs ≤ 700000 → Base (drop2 H jl dl) → All2 (Hd (drop2 H jl dl)) xs us → ρ 1 = some (.ref jl) → ρ 2 = some (.ref dl) →
    (∀ ρ' H' dl' rs, Ext (drop2 H jl dl) (drop2 H' jl dl') → dl' ≠ jl → H' jl = some (.list js) → H' dl' = some (.list (ds ++ rs)) → All2 (Hd (drop2 H' jl dl')) (strpL xs) rs → ρ' 1 = some (.ref jl) → ρ' 2 = some (.ref dl') → WH C (n + 3) stripTest stripBody R ρ' H') →
    WH C (n + 3) stripTest stripBody R ρ H := by
  intro xs
  induction xs with
  | nil =>
    intro _ dl js ds us ts ρ H hj ht hd hne _ _ hb hx p1 p2 q
    have e := hx.nil_of
    subst e
    have e := ht.nil_of
    subst e
    exact q ρ H dl [] Ext.refl hne (by simpa using hj) (by simpa using hd) (by simpa [strpL] using All2.nil) p1 p2
  | cons d xs ih =>
    intro hk dl js ds us ts ρ H hj ht hd hne h1 h2 hb hx p1 p2 q
    obtain ⟨u, us, rfl, hu, hus⟩ := hx.head
    obtain ⟨t, ts, rfl, htt, hts⟩ := ht.head
    obtain ⟨j, rfl, hj1⟩ := htt
    have l1 := hus.len
    have l2 := hts.len
    have l3 := szL_len xs
    simp only [szL] at h1 h2
    refine hk d (by simp) j dl (js ++ ts.reverse) ds u ρ H (by rw [hj]; simp) hj1 hd hne (by simp; walk_at "O") (by walk_at "O") hb hu p1 p2 fun ρ' H' dl' v' x hne' hj' hd' hv' _ p1' p2' => ?_
    refine ih (fun d h => hk d (by simp [h])) dl' js (ds ++ [v']) us ts ρ' H' hj' (hts.mono fun _ _ _ h => h.ext x) hd' hne' (by walk_at "O") (by simp; walk_at "O") (hb.ext x) (hus.mono fun _ _ _ h => h.ext x) p1' p2' fun ρ'' H'' dl'' rs x2 hne2 hj2 hd2 hr p12 p22 => ?_
    exact q ρ'' H'' dl'' (v' :: rs) (x.trans x2) hne2 hj2 (by rw [hd2]; simp) (by simp only [strpL]; exact All2.cons (hv'.ext x2) hr) p12 p22
end
end N226
end
noncomputable section
open PySem PySem.W PySem.Calls PyProof.Rows
set_option maxRecDepth 10000
namespace N226
section
variable {C : Cx} {n : Nat} {ρ : Loc} {H : MH}
theorem Hd.whole (F : Fit C) {d : Dt} {v : V} (hb : Base H) (h : Hd H d v) (h1 : d.isLst = false) (h2 : ∀ xs, d ≠ .vec xs) (h3 : ∀ s, d ≠ .al s) : ∀ (n : Nat) (Cl : Addr) (Q : V → MH → Prop), Cl = c_Alias ∨ Cl = c_Pair ∨ Cl = c_Vector → Q (.bool false) H → Callable C (.bi "isinstance") ∧ WC C n (.bi "isinstance") [v, .ref Cl] H Q := by
  intro n Cl Q hc q
  cases h with
  | sym e => rcases hc with rfl | rfl | rfl <;> exact isi_no F (inst_at e) (by decide) q
  | al _ _ => exact absurd rfl (h3 _)
  | int _ => rcases hc with rfl | rfl | rfl <;> exact isi_int F (by decide) q
  | emp => rcases hc with rfl | rfl | rfl <;> exact isi_no F hb.inst (by decide) q
  | lst => cases h1
  | vec => exact absurd rfl (h2 _)
theorem strp_whole {d : Dt} (h1 : d.isLst = false) (h2 : ∀ xs, d ≠ .vec xs) (h3 : ∀ s, d ≠ .al s) : strp d = d := by
  cases d with
  | al s => exact absurd rfl (h3 s)
  | lst _ _ => cases h1
  | vec xs => exact absurd rfl (h2 xs)
  | _ => simp [strp]
theorem tk_whole (F : Fit C) {R : Fl → Loc → MH → Prop} {jl : Addr} {d : Dt} (h1 : d.isLst = false) (h2 : ∀ xs, d ≠ .vec xs) (h3 : ∀ s, d ≠ .al s) : TkD C n R jl d := by
  intro j dl js ds v ρ H hj hj1 hd hne hn1 hn2 hb hv p1 p2 q
  obtain ⟨ht, _, _⟩ := drop2_of hj1
  have x0 : Ext (drop2 H jl dl) (H.set jl (.list js)) := drop2_pop
  have hd1 : (H.set jl (.list js)) dl = some (.list ds) := by rw [MH.set_ne _ _ hne]; exact hd
  refine strip_job_take F (X := fun H' => H' = (H.set jl (.list js)).set dl (.list (ds ++ [v]))) hj (by walk_at "O") ht p1 p2 (fun Q hQ => ?_) fun ρ' H' e p1' p2' => ?_
  · exact wc_take_whole F (n := n + 1) ((hv.ext x0).whole F (hb.ext x0) h1 h2 h3) hd1 (by show _ ≤ 1000000; walk_at "O") (hQ _ rfl)
  · subst e
    have x : Ext (drop2 H jl dl) (drop2 ((H.set jl (.list js)).set dl (.list (ds ++ [v]))) jl dl) := drop2_step (But.trans (But.set (by simp)) (But.set (by simp)))
    refine q _ _ dl v x hne (by rw [MH.set_ne _ _ hne.symm]; exact MH.set_self _ _ _) (MH.set_self _ _ _) ?_ (fun e => by rw [h1] at e; cases e) p1' p2'
    rw [strp_whole h1 h2 h3]
    exact hv.ext x
set_option tactic.hygienic true in
theorem tk_al (F : Fit C) {R : Fl → Loc → MH → Prop} {jl : Addr} {s : Str} : TkD C n R jl (.al s) := by
  intro j dl js ds v ρ H hj hj1 hd hne hn1 hn2 hb hv p1 p2 q
  obtain ⟨ht, _, _⟩ := drop2_of hj1
  have x0 : Ext (drop2 H jl dl) (H.set jl (.list js)) := drop2_pop
  have hd1 : (H.set jl (.list js)) dl = some (.list ds) := by rw [MH.set_ne _ _ hne]; exact hd
  cases hv with
  | al e1 e2 =>
  rename_i a b k sc i
  refine strip_job_take F (X := fun H' => H' = (H.set jl (.list js)).set dl (.list (ds ++ [.ref b]))) hj (by walk_at "O") ht p1 p2 (fun Q hQ => ?_) fun ρ' H' e p1' p2' => ?_
  · exact wc_take_al F (n := n + 1) (x0 _ _ e1) (x0 _ _ e2) hd1 (by show _ ≤ 1000000; walk_at "O") (hQ _ rfl)
  · subst e
    have x : Ext (drop2 H jl dl) (drop2 ((H.set jl (.list js)).set dl (.list (ds ++ [.ref b]))) jl dl) := drop2_step (But.trans (But.set (by simp)) (But.set (by simp)))
    refine q _ _ dl (.ref b) x hne (by rw [MH.set_ne _ _ hne.symm]; exact MH.set_self _ _ _) (MH.set_self _ _ _) ?_ (fun e => by cases e) p1' p2'
    simp only [strp]
    exact .sym (x _ _ e2)
set_option tactic.hygienic true in
theorem tk_vec (F : Fit C) {R : Fl → Loc → MH → Prop} {jl : Addr} {xs : List Dt} (ih : ∀ d ∈ xs, TkD C n R jl d) : TkD C n R jl (.vec xs) := by
  intro j dl js ds v ρ H hj hj1 hd hne hn1 hn2 hb hv p1 p2 q
  obtain ⟨ht, _, _⟩ := drop2_of hj1
  have x0 : Ext (drop2 H jl dl) (H.set jl (.list js)) := drop2_pop
  have hd1 : (H.set jl (.list js)) dl = some (.list ds) := by rw [MH.set_ne _ _ hne]; exact hd
  cases hv with
  | vec e1 e2 hlen hs =>
  rename_i a l us
  obtain ⟨e2', nl1, nl2⟩ := drop2_of e2
  have hl := szL_len xs
  simp only [Dt.sz] at hn1 hn2
  refine strip_job_take F (X := fun H' => ∃ j0 ts, But [jl] (H.set jl (.list js)) H' ∧ H' jl = some (.list (js ++ [.ref j0] ++ ts.reverse)) ∧ H' j0 = some (.tuple [.str s_vector, .int us.length]) ∧ All2 (TakeIs H') us ts) hj (by walk_at "O") ht p1 p2 (fun Q hQ => ?_) fun ρ' H2 ⟨j0, ts, b, hj', hj0, ha⟩ p1' p2' => ?_
  · exact wc_take_vec F (n := n + 1) (x0 _ _ e1) (x0 _ _ e2) nl1 (MH.set_self _ _ _) (by walk_at "O") fun j0 ts H' b h1 h2 h3 => hQ _ ⟨j0, ts, b, h1, h2, h3⟩
  · have b1 : But [jl] H H2 := But.trans (But.set (by simp)) b
    have hd2 : H2 dl = some (.list ds) := b _ _ hd1 (by simp; exact hne)
    have x : Ext (drop2 H jl dl) (drop2 H2 jl dl) := drop2_step (b1.more (by simp))
    refine take_all xs ih dl (js ++ [.ref j0]) ds us ts ρ' H2 hj' (ha.mono fun _ _ _ h => h.drop2 hj' hd2) hd2 hne (by simp; walk_at "O") (by walk_at "O") (hb.ext x) ⟨hlen, fun i d w a b => (hs i d w a b).ext x⟩ p1' p2' fun ρ3 H3 dl3 rs x3 hne3 hj3 hd3 hr p13 p23 => ?_
    have hlr : rs.length = us.length := by rw [← hr.len, strpL_map, List.length_map]; exact hlen
    have hj0' := (drop2_of (x3 _ _ (drop2_in hj0 (ne_of hj0 hj' (fun e => by cases e)) (ne_of hj0 hd2 (fun e => by cases e))))).1
    refine strip_job_vec F (vs := rs) hj3 (by walk_at "O") (by rw [hlr]; exact hj0') hd3 (by walk_at "O") hne3 p13 p23 fun ρ4 H4 dl4 a4 l4 b4 hn4 hj4 hd4 ha4 hl4 nl41 nl42 p14 p24 => ?_
    have x4 : Ext (drop2 H3 jl dl3) (drop2 H4 jl dl4) := drop2_new b4 hn4
    refine q ρ4 H4 dl4 (.ref a4) ((x.trans x3).trans x4) (fun e => by subst e; rw [hj3] at hn4; cases hn4) hj4 hd4 ?_ (fun e => by cases e) p14 p24
    simp only [strp]
    have hr4 := hr.mono (Q := Hd (drop2 H4 jl dl4)) fun _ _ _ h => h.ext x4
    exact .vec (drop2_in ha4 (ne_of ha4 hj4 (fun e => by cases e)) (ne_of ha4 hd4 (fun e => by cases e))) (drop2_in hl4 nl41 nl42) hr4.len hr4.at_
set_option tactic.hygienic true in
theorem tk_lst (F : Fit C) {R : Fl → Loc → MH → Prop} {jl : Addr} {xs : List Dt} {tl : Dt} (ih : ∀ d ∈ xs, TkD C n R jl d) (iht : TkD C n R jl tl) : TkD C n R jl (.lst xs tl) := by
  intro j dl js ds v ρ H hj hj1 hd hne hn1 hn2 hb hv p1 p2 q
  obtain ⟨ht, _, _⟩ := drop2_of hj1
  have x0 : Ext (drop2 H jl dl) (H.set jl (.list js)) := drop2_pop
  have hd1 : (H.set jl (.list js)) dl = some (.list ds) := by rw [MH.set_ne _ _ hne]; exact hd
  cases hv with
  | lst hxs hnl hc hlen hs htl =>
  rename_i t us
  have hl := szL_len xs
  simp only [Dt.sz] at hn1 hn2
  have hus : us ≠ [] := fun e => by subst e; exact hxs (List.eq_nil_of_length_eq_zero hlen)
  have hnp := htl.np hb hnl
  have hnb : ∀ u ∈ us, noBi u = true := fun u hu => by
    obtain ⟨f, _, hf⟩ := All2.mem (P := Hd _) ⟨hlen, hs⟩ hu
    exact hf.noBi
  refine strip_job_take F (X := fun H' => ∃ j0 j1 ts, But [jl] (H.set jl (.list js)) H' ∧ H' jl = some (.list (js ++ [.ref j0, .ref j1] ++ ts.reverse)) ∧ H' j0 = some (.tuple [.str s_list, .int us.length]) ∧ H' j1 = some (.tuple [.str s_take, t]) ∧ All2 (TakeIs H') us ts) hj (by walk_at "O") ht p1 p2 (fun Q hQ => ?_) fun ρ' H2 ⟨j0, j1, ts, b, hj', hj0, hj1, ha⟩ p1' p2' => ?_
  · exact wc_take_lst F (n := n) (hc.ext x0) hus (hnp.ext x0) hnb (MH.set_self _ _ _) (by walk_at "O") fun j0 j1 ts H' b h1 h2 h3 h4 => hQ _ ⟨j0, j1, ts, b, h1, h2, h3, h4⟩
  · have b1 : But [jl] H H2 := But.trans (But.set (by simp)) b
    have hd2 : H2 dl = some (.list ds) := b _ _ hd1 (by simp; exact hne)
    have x : Ext (drop2 H jl dl) (drop2 H2 jl dl) := drop2_step (b1.more (by simp))
    refine take_all xs ih dl (js ++ [.ref j0, .ref j1]) ds us ts ρ' H2 hj' (ha.mono fun _ _ _ h => h.drop2 hj' hd2) hd2 hne (by simp; walk_at "O") (by walk_at "O") (hb.ext x) ⟨hlen, fun i d w a b => (hs i d w a b).ext x⟩ p1' p2' fun ρ3 H3 dl3 rs x3 hne3 hj3 hd3 hr p13 p23 => ?_
    have hlr : rs.length = us.length := by rw [← hr.len, strpL_map, List.length_map]; exact hlen
    have hj0' := x3 _ _ (drop2_in hj0 (ne_of hj0 hj' (fun e => by cases e)) (ne_of hj0 hd2 (fun e => by cases e)))
    have hj1' := x3 _ _ (drop2_in hj1 (ne_of hj1 hj' (fun e => by cases e)) (ne_of hj1 hd2 (fun e => by cases e)))
    have x13 := x.trans x3
    refine iht j1 dl3 (js ++ [.ref j0]) (ds ++ rs) t ρ3 H3 (by rw [hj3]; simp) hj1' hd3 hne3 (by simp; walk_at "O") (by simp; walk_at "O") (hb.ext x13) (htl.ext x13) p13 p23 fun ρ4 H4 dl4 t4 x4 hne4 hj4 hd4 ht4 _ p14 p24 => ?_
    refine strip_job_list F (ds := ds) (vs := rs) (t := t4) hj4 (by walk_at "O") (by rw [hlr]; exact (drop2_of (x4 _ _ hj0')).1) (by rw [hd4]; simp) (by walk_at "O") (fun e => by subst e; simp at hlr; exact hus (List.eq_nil_of_length_eq_zero hlr.symm)) hne4 p14 p24 fun ρ5 H5 dl5 u b5 hn5 hj5 hd5 hch ⟨a, ea, hfa⟩ p15 p25 => ?_
    have x5 : Ext (drop2 H4 jl dl4) (drop2 H5 jl dl5) := drop2_new b5 hn5
    have x15 := (x13.trans x4).trans x5
    refine q ρ5 H5 dl5 u x15 (fun e => by subst e; rw [hj4] at hn5; cases hn5) hj5 hd5 ?_ (fun _ => ⟨a, ea, ?_⟩) p15 p25
    · simp only [strp]
      have hr5 := hr.mono (Q := Hd (drop2 H5 jl dl5)) fun _ _ _ h => h.ext (x4.trans x5)
      refine .lst (fun e => ?_) (by rw [strp_lst]; exact hnl) (hch.drop2 hj5 hd5) hr5.len hr5.at_ (ht4.ext x5)
      rw [strpL_map] at e
      exact hxs (by simpa using e)
    · refine (x13.trans x4).old_none (Option.eq_none_iff_forall_ne_some.mpr fun o e => ?_)
      rw [(drop2_of e).1] at hfa; cases hfa
theorem tk_all (F : Fit C) {R : Fl → Loc → MH → Prop} {jl : Addr} : ∀ (N : Nat) (d : Dt), d.sz ≤ N → TkD C n R jl d := by
  intro N
  induction N with
  | zero => intro d h; cases d <;> simp [Dt.sz] at h
  | succ N ih =>
    intro d h
    cases d with
    | al s => exact tk_al F
    | vec xs => exact tk_vec F fun d hd => ih d (by have := szL_mem hd; simp only [Dt.sz] at h; walk_at "O")
    | lst xs t => exact tk_lst F (fun d hd => ih d (by have := szL_mem hd; simp only [Dt.sz] at h; walk_at "O")) (ih t (by simp only [Dt.sz] at h; walk_at "O"))
    | _ => exact tk_whole F rfl (fun _ e => by cases e) (fun _ e => by cases e)
end
end N226
end
noncomputable section
open PySem PySem.W PySem.Calls PyProof.Rows
set_option maxRecDepth 10000
namespace N226
section
variable {C : Cx} {n : Nat} {ρ : Loc} {H : MH}
theorem wc_strip (F : Fit C) {d : Dt} {v : V} {Q : V → MH → Prop} (hb : Base H) (h : Hd H d v) (hs : d.sz ≤ 600000) (q : ∀ v' H', Ext H H' → Hd H' (strp d) v' → (d.isLst = true → ∃ a, v' = .ref a ∧ H a = none) → Q v' H') : WC C (n + 4) (.ref f_strip) [v] H Q := by
  refine F.strip.on F rfl ?_
  unfold k_strip
  refine kk_step fun P hP => ?_
  walk_at "L"
  refine ⟨by show 2 ≤ lim; decide, fun j hj => ?_⟩
  refine ⟨by show 1 ≤ lim; decide, fun jl hjl => hP _ _ ?_⟩
  clear P hP
  have x1 := (Ext.new (o := .tuple [V.str s_take, v]) hj).trans (Ext.new (o := .list [V.ref j]) hjl)
  have old1 : ∀ a, (H.set j (.tuple [V.str s_take, v])) a = none → H a = none := fun a e => (Ext.new hj).old_none e
  have f1 := (Ext.new (o := .list [V.ref j]) hjl) _ _ (MH.set_self H j (.tuple [V.str s_take, v]))
  have f2 := MH.set_self (H.set j (.tuple [V.str s_take, v])) jl (.list [V.ref j])
  have hjl0 := old1 _ hjl
  revert x1 f1 f2
  generalize ((H.set j (.tuple [V.str s_take, v])).set jl (.list [V.ref j])) = H1
  intro x1 f1 f2
  refine kk_step fun P hP => ?_
  walk_at "L"
  refine ⟨by simp, fun dl hdl => hP _ _ ?_⟩
  clear P hP
  have x2 := Ext.new (o := .list []) hdl
  have e1 := x2 _ _ f1
  have e2 := x2 _ _ f2
  have e3 := MH.set_self H1 dl (.list [])
  have nj : j ≠ dl := ne_new f1 hdl
  have njl : j ≠ jl := ne_of f1 f2 (fun e => by cases e)
  have njd : dl ≠ jl := (ne_new f2 hdl).symm
  have hdl0 := x1.old_none hdl
  have x0 : Ext H (drop2 (H1.set dl (.list [])) jl dl) := fun a o e => drop2_in ((x1.trans x2) _ _ e) (ne_new e hjl0) (ne_new e hdl0)
  revert e1 e2 e3 x0
  generalize H1.set dl (.list []) = H2
  intro e1 e2 e3 x0
  refine kk_step fun P hP => ?_
  rw [kk_while]
  refine tk_all F (n := n) _ d (Nat.le_refl _) j dl [] [] v _ H2 (by simpa using e2) (drop2_in e1 njl nj) e3 njd (by simp; walk_at "O") (by simp; walk_at "O") (hb.ext x0) (h.ext x0) ?_ ?_ fun ρ' H' dl' v' x hne hj' hd' hv' hf p1 p2 => ?_
  · rfl
  · rfl
  refine WH.turn ?_
  wide_open using (p1, p1)
  refine ⟨Callable_bi, WC_len_list hj' (by simp) ?_⟩
  refine cmp_gt_int ⟨false, rfl, ?_⟩
  walk_at "L"
  refine hP _ _ ?_
  clear P hP
  wide_open using (p2, p2)
  refine sub_list hd' (by decide) (by decide) (v := v') rfl ?_
  have xe : Ext (drop2 H' jl dl') H' := fun a o e => (drop2_of e).1
  refine q v' H' ((x0.trans x).trans xe) (hv'.ext xe) fun e => ?_
  obtain ⟨a, ea, hfa⟩ := hf e
  exact ⟨a, ea, x0.old_none hfa⟩
theorem wc_plain (F : Fit C) {d : Dt} {v : V} {Q : V → MH → Prop} (hb : Base H) (h : Hd H d v) (hs : d.sz ≤ 600000) (q0 : d.hasAl = false → ∀ H', Ext H H' → Q v H') (q1 : d.hasAl = true → ∀ v' H', Ext H H' → (d.isLst = true → ∃ a, v' = .ref a ∧ H a = none ∧ ∃ Cl fs, H' a = some (.inst Cl fs)) → Q v' H') : WC C (n + 5) (.ref f_plain) [v] H Q := by
  refine F.plain.on F rfl ?_
  unfold k_plain
  refine kk_step fun P hP => ?_
  wide_open with (kk_seq, kk_seq)
  refine ⟨F.has_alias.can, wc_has_alias F (n := n + 1) hb h (by show _ ≤ 1000000; walk_at "O") fun H1 x1 => ?_⟩
  cases e : d.hasAl with
  | false =>
    refine ⟨false, rfl, ?_⟩
    try wide_open with (kk_seq, kk_seq)
    refine hP _ _ ?_
    try wide_open with (kk_seq, kk_seq)
    exact q0 e H1 x1
  | true =>
    refine ⟨true, rfl, ?_⟩
    try wide_open with (kk_seq, kk_seq)
    refine ⟨F.strip.can, wc_strip F (hb.ext x1) (h.ext x1) hs fun v' H' x hv' hf => ?_⟩
    refine q1 e v' H' (x1.trans x) fun el => ?_
    obtain ⟨a, ea, hfa⟩ := hf el
    subst ea
    refine ⟨a, rfl, x1.old_none hfa, ?_⟩
    have hl : (strp d).isLst = true := by rw [strp_lst]; exact el
    cases d with
    | lst xs t =>
      simp only [strp] at hv'
      obtain ⟨a', u, dd, e', h'⟩ := hv'.pair
      cases e'
      exact ⟨_, _, h'⟩
    | _ => cases el
end
end N226
end
noncomputable section
open PySem PySem.W PySem.Calls PyProof.Rows
set_option maxRecDepth 10000
namespace N226
mutual
noncomputable def F.lvs : F → List Lf
  | .lf x => [x]
  | .lst fs tl => lvsL fs ++ [tl]
  | .vec fs => lvsL fs
noncomputable def lvsL : List F → List Lf
  | [] => []
  | f :: fs => F.lvs f ++ lvsL fs
end
theorem lvsL_app (xs ys : List F) : lvsL (xs ++ ys) = lvsL xs ++ lvsL ys := by
  induction xs with
  | nil => simp [lvsL]
  | cons x xs ih => simp [lvsL, ih, List.append_assoc]
theorem lvsL_mem {fs : List F} {f : F} (h : f ∈ fs) : (F.lvs f).length ≤ (lvsL fs).length := by
  induction fs with
  | nil => cases h
  | cons g fs ih =>
    simp only [lvsL, List.length_append]
    rcases List.mem_cons.mp h with rfl | h
    · walk_at "O"
    · have := ih h; walk_at "O"
section
variable {C : Cx} {n : Nat} {ρ : Loc} {H : MH}
noncomputable def PR (H : MH) (ps : List (V × V)) (ts : List V) : Prop := All2 (fun (p : V × V) (t : V) => ∃ T, t = .ref T ∧ H T = some (.tuple [p.1, p.2])) ps ts
theorem PR.ext {H' : MH} {ps : List (V × V)} {ts : List V} (h : PR H ps ts) (x : Ext H H') : PR H' ps ts := All2.mono h fun _ _ _ ⟨T, e, e'⟩ => ⟨T, e, x _ _ e'⟩
theorem LLis.ext {H' : MH} {ls : LL} {ts : List V} (h : LLis H ls ts) (x : Ext H H') : LLis H' ls ts := All2.mono h fun _ _ _ ⟨T, e, e'⟩ => ⟨T, e, x _ _ e'⟩
noncomputable def FormQ (H : MH) (f : Fm) (v : V) : Prop := FormIs H f v ∨ ∃ x, f = .lf x ∧ v = lnV x
theorem FormQ.ext {H' : MH} {f : Fm} {v : V} (h : FormQ H f v) (x : Ext H H') : FormQ H' f v := h.imp (fun h => h.ext x) id
noncomputable def LeafC (C : Cx) (n : Nat) (X : Addr → Prop) (L : Lf → V → Prop) (m : Nat) : Prop := ∀ {H : MH} {f : Fm} {v fv : V} {Q : V → MH → Prop}, f.dep ≤ m → f.lvs.length ≤ 1000 → FormQ H f fv → Shape H X L f v →
  (∀ c ws ls H', Ext H H' → H c = none → H' c = some (.list ws) → LLis H' ls ws → ls.map (·.1) = f.lvs → (∀ p ∈ ls, L p.1 p.2) → Q (.ref c) H') → WC C n (.ref f_law_leaves) [fv, v] H Q
noncomputable abbrev leavesBody : K :=
    (.seq (.set 7 (.call (.con (.ref f_law_leaves)) (.cons (.var 4) (.cons (.var 6) .nil))))
    (.seq (.ifs (.tcmp .Is (.var 7) .none)
      (.seq (.ret .none) .nil)
      .nil)
    (.seq (.set 5 (.bin .Add (.var 5) (.var 7))) .nil)))
theorem leaves_loop (F : Fit C) {X : Addr → Prop} {L : Lf → V → Prop} {m : Nat} (hC : LeafC C n X L m) {P : Addr} {ps : List (V × V)} {ts : List V} {fs : List Fm} {R : Fl → Loc → MH → Prop} {H0 : MH} (hP : H0 P = some (.list ts)) (hps : PR H0 ps ts) (hlen : fs.length = ps.length)
    (hf : ∀ (i : Nat) f p, fs[i]? = some f → ps[i]? = some p → f.dep ≤ m ∧ FormQ H0 f p.1 ∧ Shape H0 X L f p.2) (hn : (lvsL fs).length ≤ 1000) :
    ∀ (k i : Nat) (c : Addr) (ws : List V) (ls : LL) (H : MH) (ρ : Loc), i + k = fs.length → Ext H0 H → ρ 5 = some (.ref c) → H0 c = none → H c = some (.list ws) → LLis H ls ws → ls.map (·.1) = lvsL (fs.take i) → (∀ p ∈ ls, L p.1 p.2) →
      (∀ (ρ' : Loc) c ws ls H', Ext H0 H' → ρ' 5 = some (.ref c) → H0 c = none → H' c = some (.list ws) → LLis H' ls ws → ls.map (·.1) = lvsL fs → (∀ p ∈ ls, L p.1 p.2) → R .next ρ' H') →
      FR C n (.many [4, 6]) leavesBody R (.lst P i) ρ H := by
  intro k
  have hlen2 := hps.len
  induction k with
  | zero =>
    intro i c ws ls H ρ hi x p5 hc0 hc hls hlv hL q
    refine FR.done (by simp only [Src.item, x _ _ hP]; rw [List.getElem?_eq_none (by walk_at "O")]) ?_
    rw [List.take_of_length_le (by walk_at "O")] at hlv
    exact q ρ c ws ls H x p5 hc0 hc hls hlv hL
  | succ k ih =>
    intro i c ws ls H ρ hi x p5 hc0 hc hls hlv hL q
    have h1i : i < fs.length := by walk_at "O"
    have h2i : i < ps.length := by walk_at "O"
    have h3i : i < ts.length := by walk_at "O"
    obtain ⟨T, et, hT⟩ := hps.at_ i _ _ (List.getElem?_eq_getElem h2i) (List.getElem?_eq_getElem h3i)
    obtain ⟨hd, hfq, hsh⟩ := hf i _ _ (List.getElem?_eq_getElem h1i) (List.getElem?_eq_getElem h2i)
    refine FR.item (v := .ref T) (by simp only [Src.item, x _ _ hP]; rw [List.getElem?_eq_getElem h3i, et]) ?_
    unfold leavesBody
    walk_at "L"
    refine ⟨T, _, rfl, x _ _ hT, rfl, ?_⟩
    have hb := lvsL_mem (List.getElem_mem h1i)
    have htk : fs.take (i + 1) = fs.take i ++ [fs[i]] := List.take_succ_eq_append_getElem h1i
    have hlv2 : (lvsL (fs.take (i + 1))).length ≤ (lvsL fs).length := by
      have := congrArg List.length (lvsL_app (fs.take (i + 1)) (fs.drop (i + 1)))
      rw [List.take_append_drop, List.length_append] at this
      walk_at "O"
    refine ⟨F.law_leaves.can, hC hd (by walk_at "O") (hfq.ext x) (hsh.ext x) fun c' ws' ls' H1 x1 hc'0 hc' hls' hlv' hL' => ?_⟩
    walk_at "L"
    refine is_none_ref ⟨false, rfl, ?_⟩
    wide_open using (p5, p5)
    rw [htk, lvsL_app] at hlv2
    have e1 : ls.length = (lvsL (fs.take i)).length := by rw [← hlv, List.length_map]
    have e2 : ls'.length = (N226.F.lvs fs[i]).length := by rw [← hlv', List.length_map]
    have l1 := hls.len
    have l2 := hls'.len
    rw [List.length_append] at hlv2
    simp only [lvsL, List.append_nil] at hlv2
    refine ⟨ws, ws', x1 _ _ hc, hc', by show _ ≤ 1000000; walk_at "O", fun c'' hc'' => ?_⟩
    have x2 := Ext.new (o := .list (ws ++ ws')) hc''
    have e : (Src.lst P i).next = .lst P (i + 1) := rfl
    rw [e]
    have x01 := (x.trans x1).trans x2
    have hc0'' : H0 c'' = none := by
      cases z : H0 c'' with
      | none => rfl
      | some o => rw [x1 _ _ (x _ _ z)] at hc''; cases hc''
    refine ih (i + 1) c'' (ws ++ ws') (ls ++ ls') _ _ (by walk_at "O") x01 rfl hc0'' (MH.set_self _ _ _) ((hls.ext (x1.trans x2)).app (hls'.ext x2)) ?_ (fun p hp => ?_) q
    · rw [List.map_append, hlv, hlv', htk, lvsL_app]; simp [lvsL]
    · rcases List.mem_append.mp hp with hp | hp
      · exact hL p hp
      · exact hL' p hp
end
end N226
end
noncomputable section
open PySem PySem.W PySem.Calls PyProof.Rows
set_option maxRecDepth 10000
namespace N226
section
variable {C : Cx} {n : Nat} {ρ : Loc} {H : MH}
theorem Ext.set {H' : MH} {a : Addr} {o : MO} (x : Ext H H') (h : H a = none) : Ext H (H'.set a o) := fun b m e => by
  rw [MH.set_ne _ _ (ne_new e h)]; exact x _ _ e
theorem Ext.none {H' : MH} (x : Ext H H') {a : Addr} (h : H' a = none) : H a = none := by
  cases z : H a with
  | none => rfl
  | some o => rw [x _ _ z] at h; cases h
theorem PR.set {a : Addr} {xs ys : List V} {ps : List (V × V)} {ts : List V} (h : PR H ps ts) (ha : H a = some (.list xs)) : PR (H.set a (.list ys)) ps ts :=
  All2.mono h fun _ _ _ ⟨T, e, e'⟩ => ⟨T, e, by rw [MH.set_ne _ _ (ne_of e' ha (fun e => by cases e))]; exact e'⟩
theorem not_list_tuple {a b : Addr} {xs ys : List V} (h : H a = some (.list xs)) (h' : H b = some (.tuple ys)) : b ≠ a := ne_of h' h (fun e => by cases e)
noncomputable abbrev pairsBody : K :=
      (.seq (.ifs (.tno (.tval (.call (.con (.bi "isinstance")) (.cons (.var 3) (.cons (.con (.ref c_Pair)) .nil)))))
        (.seq (.ret .none) .nil)
        .nil)
      (.seq (.expr (.meth (.var 2) n_append (.cons (.tuple (.cons (.var 4) (.cons (.attr (.var 3) n_car) .nil))) .nil)))
      (.seq (.set 3 (.attr (.var 3) n_cdr)) .nil)))
theorem pairs_loop (F : Fit C) {p P : Addr} {us vs : List V} {t : V} {R : Fl → Loc → MH → Prop} {H0 : MH} (hp : H0 p = some (.tuple us)) (hP0 : H0 P = none) (hl : us.length = vs.length) (hn : us.length ≤ 1000) (hb : ∀ v ∈ vs, noBi v = true) (ht : noBi t = true) :
    ∀ (k i : Nat) (v : V) (ts : List V) (H : MH) (ρ : Loc), i + k = us.length → Ext H0 H → Chain H0 v (vs.drop i) t → ρ 2 = some (.ref P) → ρ 3 = some v → H P = some (.list ts) → PR H ((us.zip vs).take i) ts →
      (∀ (ρ' : Loc) ts H', Ext H0 H' → ρ' 0 = ρ 0 → ρ' 2 = some (.ref P) → ρ' 3 = some t → H' P = some (.list ts) → PR H' (us.zip vs) ts → R .next ρ' H') →
      FR C n (.one 4) pairsBody R (.tup p i) ρ H := by
  intro k
  have hzl : (us.zip vs).length = us.length := by simp [hl]
  induction k with
  | zero =>
    intro i v ts H ρ hi x hc p2 p3 hP hps q
    refine FR.done (by simp only [Src.item, x _ _ hp]; rw [List.getElem?_eq_none (by walk_at "O")]) ?_
    rw [List.take_of_length_le (by walk_at "O")] at hps
    rw [List.drop_of_length_le (by walk_at "O")] at hc
    obtain rfl : v = t := hc
    exact q ρ ts H x rfl p2 p3 hP hps
  | succ k ih =>
    intro i v ts H ρ hi x hc p2 p3 hP hps q
    have h1i : i < us.length := by walk_at "O"
    have h2i : i < vs.length := by walk_at "O"
    have h3i : i < (us.zip vs).length := by walk_at "O"
    rw [List.drop_eq_getElem_cons h2i] at hc
    obtain ⟨a, d, rfl, ha, hc⟩ := hc
    have hbd : noBi d = true := by
      cases h : vs.drop (i + 1) with
      | nil => rw [h] at hc; obtain rfl : d = t := hc; exact ht
      | cons w ws => rw [h] at hc; obtain ⟨b, e, rfl, _⟩ := hc; rfl
    have hbv : noBi vs[i] = true := hb _ (List.getElem_mem h2i)
    refine FR.item (v := us[i]) (by simp only [Src.item, x _ _ hp]; rw [List.getElem?_eq_getElem h1i]) ?_
    simp (decide := true) only [pairsBody, ee_none, ee_bool, ee_int, ee_str, ee_var, ee_con, ee_bin, ee_neg, ee_cmp, ee_andv, ee_orv, ee_ite, ee_attr, ee_call, ee_lzip, ee_meth, ee_sub, ee_slice, ee_tuple, ee_list, ee_dict0, ee_dict, ee_comp, el_nil, el_cons, ed_nil, ed_kv, et_val, et_no, et_and, et_or, et_true, et_false, et_ite, et_cmp, et_in, et_notin, kk_pass, kk_expr, kk_set, kk_setA, kk_setI, kk_unpack, kk_swap, kk_if, kk_while, kk_for, kk_ret, kk_ret0, kk_nil, kk_seq, q_next, q_ret, r_next, r_ret, l_next, l_ret, a_one, a_many, in_zero, in_succ, partW, setAll_cons, setAll_nil, argLoc, Loc.set, List.map_nil, List.map_cons, List.nil_append, List.cons_append, List.append_nil, List.getElem?_cons_zero, List.getElem?_cons_succ, Option.some.injEq, exists_eq_left', Bool.false_eq_true, if_true, if_false, reduceIte, V.bool.injEq, V.int.injEq, V.str.injEq, V.ref.injEq, Bool.not_true, Bool.not_false, reduceCtorEq, onV_some, cond_true, cond_false, Nat.reduceBEq, decide_true, decide_false, p2, p3]
    refine isi_yes F (inst_at (x _ _ ha)) (by decide) ⟨true, rfl, ?_⟩
    wide_open with (kk_seq, p2, p3)
    refine bi_list (id := "list.append") hP rfl ?_
    refine attr_at F (x _ _ ha) (by decide) rfl hbv ⟨by show 2 ≤ lim; decide, fun c hc' => ?_⟩
    have xc := Ext.new (o := .tuple [us[i], vs[i]]) hc'
    have lts := hps.len
    rw [List.length_take] at lts
    refine ⟨Callable_bi, WC_append (xc _ _ hP) (by show _ ≤ 1000000; walk_at "O") ⟨(fun _ e => by cases e), ?_⟩⟩
    have xf : Ext H0 ((H.set c (.tuple [us[i], vs[i]])).set P (.list (ts ++ [.ref c]))) := (x.trans xc).set hP0
    refine attr_at F (xf _ _ ha) (by decide) rfl hbd ?_
    have e : (Src.tup p i).next = .tup p (i + 1) := rfl
    rw [e]
    refine ih (i + 1) d (ts ++ [.ref c]) _ _ (by walk_at "O") xf hc (by simp [Loc.set, p2]) (by simp [Loc.set]) (MH.set_self _ _ _) ?_ (fun ρ' ts' H' x' p0 => q ρ' ts' H' x' (by rw [p0]; simp [Loc.set]))
    rw [List.take_succ_eq_append_getElem h3i]
    refine ((hps.ext xc).set (xc _ _ hP)).snoc ⟨c, rfl, ?_⟩
    rw [MH.set_ne _ _ (not_list_tuple (xc _ _ hP) (MH.set_self _ _ _)), MH.set_self, List.getElem_zip]
theorem is_none_lfV {x : Lf} {Q : V → MH → Prop} (q : ∀ b, (b = true ↔ x = .fin) → Q (.bool b) H) : cmpW .Is (lfV x) .none H Q := by
  cases x with
  | name s => exact ⟨trivial, q false (by simp)⟩
  | int i => exact ⟨trivial, by simpa [lfV] using q false (by simp)⟩
  | fin => exact ⟨trivial, q true (by simp)⟩
theorem leaves_tail (F : Fit C) {X : Addr → Prop} {L : Lf → V → Prop} {m : Nat} (hC : LeafC C n X L m) {P : Addr} {ps : List (V × V)} {ts : List V} {fs : List Fm} {Q : V → MH → Prop} {H0 H : MH} (x : Ext H0 H) (hP : H P = some (.list ts)) (hps : PR H ps ts) (hlen : fs.length = ps.length)
    (hf : ∀ (i : Nat) f p, fs[i]? = some f → ps[i]? = some p → f.dep ≤ m ∧ FormQ H f p.1 ∧ Shape H X L f p.2) (hn : (lvsL fs).length ≤ 1000) (p2 : ρ 2 = some (.ref P))
    (q : ∀ c ws ls H', Ext H0 H' → H0 c = none → H' c = some (.list ws) → LLis H' ls ws → ls.map (·.1) = lvsL fs → (∀ p ∈ ls, L p.1 p.2) → Q (.ref c) H') :
    wpK C n (.seq (.set 5 (.list .nil)) (.seq (.fors (.many [4, 6]) (.var 2) leavesBody) (.seq (.ret (.var 5)) .nil))) ρ H (retQ Q) := by
  refine kk_step fun P' hP' => ?_
  wide_open with (kk_seq, kk_seq)
  refine ⟨trivial, fun c hc => hP' _ _ ?_⟩
  clear P' hP'
  have xc := Ext.new (o := .list []) hc
  wide_open with (kk_seq, p2)
  refine ⟨_, iter_list (xc _ _ hP), ?_⟩
  refine leaves_loop F hC hP hps hlen hf hn fs.length 0 c [] [] _ _ (by walk_at "O") xc (by simp [Loc.set]) hc (MH.set_self _ _ _) All2.nil (by simp [lvsL]) (fun _ h => nomatch h) fun ρ' c' ws ls H' x' p5 hc' hc'' hls hlv hL => ?_
  wide_open with (kk_seq, p5)
  exact q c' ws ls H' (x.trans x') (x.none hc') hc'' hls hlv hL
end
end N226
end
noncomputable section
open PySem PySem.W PySem.Calls PyProof.Rows
set_option maxRecDepth 10000
namespace N226
section
variable {C : Cx} {n : Nat} {ρ : Loc} {H : MH}
theorem isi_ln {x : Lf} {Q : V → MH → Prop} (q : Q (.bool false) H) : WC C n (.bi "isinstance") [lnV x, .ty "tuple"] H Q := by
  cases x <;> first | exact WC_isi_s rfl q | exact WC_isi_i rfl q
theorem leaves_leaf (F : Fit C) {X : Addr → Prop} {L : Lf → V → Prop} {x : Lf} {v : V} {Q : V → MH → Prop} (hL : L x v) (q : ∀ c ws ls H', Ext H H' → H c = none → H' c = some (.list ws) → LLis H' ls ws → ls.map (·.1) = [x] → (∀ p ∈ ls, L p.1 p.2) → Q (.ref c) H') : WC C (n + 1) (.ref f_law_leaves) [lnV x, v] H Q := by
  refine F.law_leaves.on F rfl ?_
  unfold k_law_leaves
  refine kk_step fun P' hP' => ?_
  walk_at "L"
  refine ⟨Callable_bi, isi_ln ⟨false, rfl, ?_⟩⟩
  walk_at "L"
  refine ⟨by show 2 ≤ lim; decide, fun c hc => ⟨by show 1 ≤ lim; decide, fun d hd => ?_⟩⟩
  have x1 := Ext.new (o := .tuple [lnV x, v]) hc
  have x2 := Ext.new (o := .list [.ref c]) hd
  exact q d [.ref c] [(x, v)] _ (x1.trans x2) (x1.none hd) (MH.set_self _ _ _) (All2.nil.cons ⟨c, rfl, x2 _ _ (MH.set_self _ _ _)⟩) rfl (fun p hp => by simp at hp; subst hp; exact hL)
set_option tactic.hygienic true in
theorem leaves_all (F : Fit C) {X : Addr → Prop} {L : Lf → V → Prop} (hnb : ∀ x v, L x v → noBi v = true) : ∀ (m : Nat), LeafC C (n + m + 1) X L m := by
  intro m
  have leaf : ∀ (k : Nat) {H : MH} {x : Lf} {v fv : V} {Q : V → MH → Prop}, FormQ H (.lf x) fv → L x v →
      (∀ c ws ls H', Ext H H' → H c = none → H' c = some (.list ws) → LLis H' ls ws → ls.map (·.1) = [x] → (∀ p ∈ ls, L p.1 p.2) → Q (.ref c) H') → WC C (k + 1) (.ref f_law_leaves) [fv, v] H Q := by
    intro k H x v fv Q hfq hl q
    have e : fv = lnV x := by
      rcases hfq with h | ⟨y, e, rfl⟩
      · cases h with
        | lf h => cases x with
          | fin => exact absurd rfl h
          | _ => rfl
      · cases e; rfl
    subst e
    exact leaves_leaf F (X := X) hl q
  induction m with
  | zero =>
    intro H f v fv Q hd hn hfq hs q
    cases hs with
    | lf h => exact leaf n hfq h (by rw [N226.F.lvs] at q; exact q)
    | lst => simp [N226.F.dep] at hd
    | vec => simp [N226.F.dep] at hd
  | succ m ih =>
    intro H f v fv Q hd hn hfq hs q
    cases hs with
    | lf h => exact leaf _ hfq h (by rw [N226.F.lvs] at q; exact q)
    | lst hc hlen hsh hlt =>
      rename_i fs tl t vs
      have hfi : FormIs H (.lst fs tl) fv := by
        rcases hfq with h | ⟨y, e, _⟩
        · exact h
        · cases e
      cases hfi with
      | lst z1 z2 z3 ha hp hlu hfu =>
      rename_i a p us
      have hv : ∀ w ∈ vs, noBi w = true := fun w hw => by
        obtain ⟨f, _, hf⟩ := All2.mem (P := Shape H X L) ⟨hlen, hsh⟩ hw
        exact hf.noBi hnb
      have hbt := hnb _ _ hlt
      simp only [N226.F.lvs, List.length_append, List.length_cons, List.length_nil] at hn
      refine F.law_leaves.on F rfl ?_
      unfold k_law_leaves
      refine kk_step fun P' hP' => ?_
      walk_at "L"
      refine ⟨Callable_bi, WC_isi_tt ha ⟨true, rfl, ?_⟩⟩
      walk_at "L"
      refine hP' _ _ ?_
      clear P' hP'
      refine kk_step fun P' hP' => ?_
      walk_at "L"
      refine sub_tuple ha (by decide) (by decide) (v := .str s_list) rfl ?_
      refine cmp_eq_str ⟨false, rfl, ?_⟩
      walk_at "L"
      refine ⟨trivial, fun P hP0 => ⟨by show 2 ≤ lim; decide, fun b hb => ?_⟩⟩
      have x1 := Ext.new (o := .list []) hP0
      have x2 := Ext.new (o := .tuple [.ref P, v]) hb
      refine ⟨b, _, rfl, MH.set_self _ _ _, rfl, ?_⟩
      walk_at "L"
      refine onV_of rfl ?_
      have x12 := x1.trans x2
      refine sub_tuple (x12 _ _ ha) (by decide) (by decide) (v := .ref p) rfl ⟨_, iter_tuple (x12 _ _ hp), ?_⟩
      refine pairs_loop F (P := P) (t := t) (us := us) (vs := vs) (H0 := H) hp hP0 (by walk_at "O") (by walk_at "O") hv hbt us.length 0 v [] _ _ (by walk_at "O") x12 hc rfl rfl (x2 _ _ (MH.set_self _ _ _)) All2.nil fun ρ' ts H1 x3 p0 p2 p3 hP hps => ?_
      have lts := hps.len
      have lz : (us.zip vs).length = us.length := by simp; walk_at "O"
      replace p0 : ρ' 0 = some (.ref a) := p0.trans rfl
      wide_open using (p0, p2, p3)
      refine bi_list (id := "list.append") hP rfl ?_
      refine sub_tuple (x3 _ _ ha) (by decide) (by decide) (v := lfV tl) rfl ?_
      refine is_none_lfV fun b hb => ⟨b, rfl, ?_⟩
      have fin : ∀ c, H1 c = none → Callable C (.bi "list.append") ∧ WC C (n + (m + 1)) (.bi "list.append") [.ref P, .ref c] (H1.set c (.tuple [lnV tl, t])) fun v H' => isNoRef v ∧ P' ρ' H' := fun c hc => by
        have xc := Ext.new (o := .tuple [lnV tl, t]) hc
        refine ⟨Callable_bi, WC_append (xc _ _ hP) (by show _ ≤ 1000000; walk_at "O") ⟨(fun _ e => by cases e), hP' _ _ ?_⟩⟩
        clear P' hP'
        have xf : Ext H ((H1.set c (.tuple [lnV tl, t])).set P (.list (ts ++ [.ref c]))) := (x3.trans xc).set hP0
        refine leaves_tail F ih (ps := us.zip vs ++ [(lnV tl, t)]) (fs := fs ++ [.lf tl]) (H0 := H) xf (MH.set_self _ _ _) (((hps.ext xc).set (xc _ _ hP)).snoc ⟨c, rfl, ?_⟩) (by simp; walk_at "O") (fun i f p e1 e2 => ?_) (by rw [lvsL_app]; simp [lvsL, N226.F.lvs]; walk_at "O") p2 (by simpa [N226.F.lvs, lvsL_app, lvsL] using q)
        · rw [MH.set_ne _ _ (not_list_tuple (xc _ _ hP) (MH.set_self _ _ _)), MH.set_self]
        · by_cases hi : i < fs.length
          · rw [List.getElem?_append_left hi] at e1
            rw [List.getElem?_append_left (by walk_at "O")] at e2
            have hfm := List.mem_of_getElem? e1
            have hd' := N226.F.dep_lst (tl := tl) hfm
            rw [List.getElem?_zip_eq_some] at e2
            refine ⟨by walk_at "O", .inl ((hfu i f _ e1 e2.1).ext xf), (hsh i f _ e1 e2.2).ext xf⟩
          · rw [List.getElem?_append_right (by walk_at "O")] at e1 e2
            have e0 : i - fs.length = 0 := by
              rcases Nat.eq_zero_or_pos (i - fs.length) with h | h
              · exact h
              · rw [List.getElem?_eq_none (by simp; walk_at "O")] at e1; cases e1
            rw [e0] at e1
            rw [show i - (us.zip vs).length = 0 from by walk_at "O"] at e2
            simp at e1 e2
            subst e1 e2
            exact ⟨by simp [N226.F.dep], .inr ⟨tl, rfl, rfl⟩, .lf hlt⟩
      cases tl with
      | int i => exact absurd rfl (z1 i)
      | fin =>
        obtain rfl : b = true := hb.mpr rfl
        walk_at "L"
        exact ⟨by show 2 ≤ lim; decide, fin⟩
      | name s =>
        obtain rfl : b = false := by
          cases b
          · rfl
          · cases hb.mp rfl
        walk_at "L"
        refine sub_tuple (x3 _ _ ha) (by decide) (by decide) (v := .str s) rfl ?_
        exact ⟨by show 2 ≤ lim; decide, fin⟩
    | vec hva hvl hx hlen hsh =>
      rename_i fs va vl vs
      have hfi : FormIs H (.vec fs) fv := by
        rcases hfq with h | ⟨y, e, _⟩
        · exact h
        · cases e
      cases hfi with
      | vec z2 z3 ha hp hlu hfu =>
      rename_i a p us
      simp only [N226.F.lvs] at hn
      refine F.law_leaves.on F rfl ?_
      unfold k_law_leaves
      refine kk_step fun P' hP' => ?_
      walk_at "L"
      refine ⟨Callable_bi, WC_isi_tt ha ⟨true, rfl, ?_⟩⟩
      walk_at "L"
      refine hP' _ _ ?_
      clear P' hP'
      refine kk_step fun P' hP' => ?_
      walk_at "L"
      refine sub_tuple ha (by decide) (by decide) (v := .str s_vector) rfl ?_
      refine cmp_eq_str ⟨true, rfl, ?_⟩
      walk_at "L"
      refine isi_yes F (inst_at hva) (by decide) ⟨true, rfl, ?_⟩
      walk_at "L"
      refine attr_at F hva (by decide) rfl rfl ⟨Callable_bi, WC_len_list hvl (by show _ ≤ 1000000; walk_at "O") ?_⟩
      refine sub_tuple ha (by decide) (by decide) (v := .ref p) rfl ⟨Callable_bi, WC_len_tuple hp (by show _ ≤ 1000000; walk_at "O") ?_⟩
      refine cmp_ne_int ⟨false, by rw [← hlen, ← hlu]; simp, ?_⟩
      walk_at "L"
      refine sub_tuple ha (by decide) (by decide) (v := .ref p) rfl ?_
      refine attr_at F hva (by decide) rfl rfl ?_
      refine ⟨p, vl, us, vs, rfl, hp, hvl, by walk_at "O", (fun e => z2 (List.eq_nil_of_length_eq_zero (by rw [hlu, e]; rfl))), by show _ ≤ 1000000; walk_at "O", fun P ts H1 x1 hP0 hP hlt hts => hP' _ _ ?_⟩
      clear P' hP'
      have lz : (us.zip vs).length = us.length := by simp; walk_at "O"
      refine leaves_tail F ih (ps := us.zip vs) (fs := fs) (H0 := H) x1 hP ⟨by walk_at "O", fun i pr t e1 e2 => ?_⟩ (by walk_at "O") (fun i f pr e1 e2 => ?_) hn rfl (by simpa [N226.F.lvs] using q)
      · obtain ⟨T, u, w, rfl, _, hT, h1, h2⟩ := hts i t e2
        rw [List.getElem?_zip_eq_some] at e1
        refine ⟨T, rfl, ?_⟩
        rw [hT]
        rw [h1] at e1
        rw [h2] at e1
        have i1 := Option.some.inj e1.1
        have i2 := Option.some.inj e1.2
        rw [i1, i2]
      · have hfm := List.mem_of_getElem? e1
        have hd' := N226.F.dep_vec hfm
        rw [List.getElem?_zip_eq_some] at e2
        exact ⟨by walk_at "O", .inl ((hfu i f _ e1 e2.1).ext x1), (hsh i f _ e1 e2.2).ext x1⟩
end
end N226
end
noncomputable section
open PySem PySem.W PySem.Calls PyProof.Rows
set_option maxRecDepth 10000
namespace N226
mutual
noncomputable def toG (l : Lf → Dt) : F → Dt
  | .lf x => l x
  | .lst fs tl => joinD (toGL l fs) (l tl)
  | .vec fs => .vec (toGL l fs)
noncomputable def toGL (l : Lf → Dt) : List F → List Dt
  | [] => []
  | f :: fs => toG l f :: toGL l fs
end
theorem toGL_map (l : Lf → Dt) (fs : List F) : toGL l fs = fs.map (toG l) := by
  induction fs with
  | nil => rfl
  | cons f fs ih => simp [toGL, ih]
theorem toD_toG (da db : Dt) (f : F) : toD da db f = toG (leafD da db) f := by
  have hL : ∀ fs : List F, (∀ f ∈ fs, toD da db f = toG (leafD da db) f) → toDL da db fs = toGL (leafD da db) fs := by
    intro fs h
    rw [toDL_map, toGL_map]
    exact List.map_congr_left h
  induction f using F.ind with
  | hl x => simp [toD, toG]
  | hc fs tl ih => simp only [toD, toG]; rw [hL fs ih]
  | hv fs ih => simp only [toD, toG]; rw [hL fs ih]
theorem strp_join (xs : List Dt) (t : Dt) : strp (joinD xs t) = joinD (strpL xs) (strp t) := by
  cases t <;> simp [joinD, strp, strpL_map]
theorem strp_toG (l : Lf → Dt) (f : F) : strp (toG l f) = toG (fun x => strp (l x)) f := by
  have hL : ∀ fs : List F, (∀ f ∈ fs, strp (toG l f) = toG (fun x => strp (l x)) f) → strpL (toGL l fs) = toGL (fun x => strp (l x)) fs := by
    intro fs h
    rw [strpL_map, toGL_map, toGL_map, List.map_map]
    exact List.map_congr_left h
  induction f using F.ind with
  | hl x => simp [toG]
  | hc fs tl ih => simp only [toG]; rw [strp_join, hL fs ih]
  | hv fs ih => simp only [toG, strp]; rw [hL fs ih]
theorem hasAl_join (xs : List Dt) (t : Dt) : (joinD xs t).hasAl = (hasAlL xs || t.hasAl) := by
  cases t <;> simp [joinD, Dt.hasAl, hasAlL_app, Bool.or_assoc]
theorem hasAl_toG (l : Lf → Dt) (f : F) : (toG l f).hasAl = f.lvs.any fun x => (l x).hasAl := by
  have hL : ∀ fs : List F, (∀ f ∈ fs, (toG l f).hasAl = f.lvs.any fun x => (l x).hasAl) → hasAlL (toGL l fs) = (lvsL fs).any fun x => (l x).hasAl := by
    intro fs
    induction fs with
    | nil => intro _; rfl
    | cons f fs ih =>
      intro h
      simp only [toGL, hasAlL, lvsL, List.any_append]
      rw [h f (by simp), ih fun g hg => h g (by simp [hg])]
  induction f using F.ind with
  | hl x => simp [toG, F.lvs]
  | hc fs tl ih => simp only [toG, F.lvs]; rw [hasAl_join, hL fs ih]; simp
  | hv fs ih => simp only [toG, F.lvs, Dt.hasAl]; rw [hL fs ih]
theorem sz_join (xs : List Dt) (t : Dt) : (joinD xs t).sz ≤ szL xs + t.sz + 2 := by
  cases t <;> simp [joinD, Dt.sz, szL_app] <;> walk_at "O"
theorem wtL_app (xs ys : List Dt) : wtL (xs ++ ys) = wtL xs + wtL ys := by
  induction xs with
  | nil => simp [wtL]
  | cons x xs ih => simp [wtL, ih]; walk_at "O"
theorem wt_join (xs : List Dt) (t : Dt) : (joinD xs t).wt ≤ wtL xs + t.wt + 9 := by
  cases t <;> simp [joinD, Dt.wt, wtL_app] <;> walk_at "O"
theorem depL_app (xs ys : List Dt) : depL (xs ++ ys) = max (depL xs) (depL ys) := by
  induction xs with
  | nil => simp [depL]
  | cons x xs ih => simp [depL, ih, Nat.max_assoc]
theorem dep_join (xs : List Dt) (t : Dt) : (joinD xs t).dep ≤ max (1 + depL xs) (1 + t.dep) := by
  cases t <;> simp [joinD, Dt.dep, depL_app] <;> walk_at "O"
noncomputable def bs (S : Nat) : Nat → Nat
  | 0 => S
  | d + 1 => 4 * (bs S d + 1) + S + 2
noncomputable def bw (W : Nat) : Nat → Nat
  | 0 => W
  | d + 1 => 4 * (bw W d + 1) + W + 9
theorem bs_le (S d : Nat) : S ≤ bs S d := by
  cases d with
  | zero => exact Nat.le_refl _
  | succ d => simp only [bs]; walk_at "O"
theorem bw_le (S d : Nat) : S ≤ bw S d := by
  cases d with
  | zero => exact Nat.le_refl _
  | succ d => simp only [bw]; walk_at "O"
theorem szL_le {xs : List Dt} {B : Nat} (h : ∀ x ∈ xs, x.sz ≤ B) : szL xs ≤ xs.length * (B + 1) := by
  induction xs with
  | nil => simp [szL]
  | cons x xs ih =>
    have h1 := h x (by simp)
    have h2 := ih fun y hy => h y (by simp [hy])
    simp only [szL, List.length_cons, Nat.add_mul]
    walk_at "O"
theorem wtL_le {xs : List Dt} {B : Nat} (h : ∀ x ∈ xs, x.wt ≤ B) : wtL xs ≤ xs.length * (B + 1) := by
  induction xs with
  | nil => simp [wtL]
  | cons x xs ih =>
    have h1 := h x (by simp)
    have h2 := ih fun y hy => h y (by simp [hy])
    simp only [wtL, List.length_cons, Nat.add_mul]
    walk_at "O"
theorem depL_le {xs : List Dt} {B : Nat} (h : ∀ x ∈ xs, x.dep ≤ B) : depL xs ≤ B := by
  induction xs with
  | nil => simp [depL]
  | cons x xs ih =>
    have h1 := h x (by simp)
    have h2 := ih fun y hy => h y (by simp [hy])
    simp only [depL]
    walk_at "O"
noncomputable def okA (x : Lf) : Prop := okL x ∨ okT x
theorem toG_bd {l : Lf → Dt} {S W D : Nat} (h : ∀ x, okA x → (l x).sz ≤ S ∧ (l x).wt ≤ W ∧ (l x).dep ≤ D) : ∀ (d : Nat) (f : F), Ok d f → (toG l f).sz ≤ bs S d ∧ (toG l f).wt ≤ bw W d ∧ (toG l f).dep ≤ D + d := by
  intro d
  induction d with
  | zero =>
    rintro f ⟨x, rfl, hx⟩
    have := h x (.inl hx)
    simp only [toG, bs, bw]; walk_at "O"
  | succ d ih =>
    intro f ho
    have hL : ∀ fs : List F, fs.length ≤ 4 → (∀ g ∈ fs, Ok d g) → szL (toGL l fs) ≤ 4 * (bs S d + 1) ∧ wtL (toGL l fs) ≤ 4 * (bw W d + 1) ∧ depL (toGL l fs) ≤ D + d := by
      intro fs h4 hg
      have hm : ∀ x ∈ toGL l fs, x.sz ≤ bs S d ∧ x.wt ≤ bw W d ∧ x.dep ≤ D + d := by
        intro x hx
        rw [toGL_map] at hx
        obtain ⟨g, hgm, rfl⟩ := List.mem_map.mp hx
        exact ih g (hg g hgm)
      have hlen : (toGL l fs).length ≤ 4 := by rw [toGL_map, List.length_map]; exact h4
      refine ⟨Nat.le_trans (szL_le fun x hx => (hm x hx).1) (Nat.mul_le_mul_right _ hlen), Nat.le_trans (wtL_le fun x hx => (hm x hx).2.1) (Nat.mul_le_mul_right _ hlen), depL_le fun x hx => (hm x hx).2.2⟩
    rcases ho with ⟨x, rfl, hx⟩ | ⟨fs, tl, rfl, hne, h4, ht, ho⟩ | ⟨fs, rfl, hne, h4, ho⟩
    · have := h x (.inl hx)
      have h1 := bs_le S (d + 1)
      have h2 := bw_le W (d + 1)
      simp only [toG]; walk_at "O"
    · obtain ⟨a1, a2, a3⟩ := hL fs h4 ho
      obtain ⟨b1, b2, b3⟩ := h tl (.inr ht)
      have c1 := sz_join (toGL l fs) (l tl)
      have c2 := wt_join (toGL l fs) (l tl)
      have c3 := dep_join (toGL l fs) (l tl)
      simp only [toG, bs, bw]
      walk_at "O"
    · obtain ⟨a1, a2, a3⟩ := hL fs h4 ho
      simp only [toG, bs, bw, Dt.sz, Dt.wt, Dt.dep]
      walk_at "O"
theorem Ok.lvs : ∀ (d : Nat) (f : F), Ok d f → ∀ x ∈ f.lvs, okA x := by
  have hL : ∀ (d : Nat) (fs : List F), (∀ g ∈ fs, ∀ x ∈ g.lvs, okA x) → ∀ x ∈ lvsL fs, okA x := by
    intro d fs
    induction fs with
    | nil => intro _ x hx; simp [lvsL] at hx
    | cons g fs ih =>
      intro h x hx
      simp only [lvsL, List.mem_append] at hx
      rcases hx with hx | hx
      · exact h g (by simp) x hx
      · exact ih (fun g' hg' => h g' (by simp [hg'])) x hx
  intro d
  induction d with
  | zero =>
    rintro f ⟨x, rfl, hx⟩ y hy
    simp [F.lvs] at hy; subst hy; exact .inl hx
  | succ d ih =>
    intro f ho
    rcases ho with ⟨x, rfl, hx⟩ | ⟨fs, tl, rfl, hne, h4, ht, ho⟩ | ⟨fs, rfl, hne, h4, ho⟩
    · intro y hy; simp [F.lvs] at hy; subst hy; exact .inl hx
    · intro y hy
      simp only [F.lvs, List.mem_append, List.mem_singleton] at hy
      rcases hy with hy | rfl
      · exact hL d fs (fun g hg => ih g (ho g hg)) y hy
      · exact .inr ht
    · intro y hy
      simp only [F.lvs] at hy
      exact hL d fs (fun g hg => ih g (ho g hg)) y hy
noncomputable def bl : Nat → Nat
  | 0 => 1
  | d + 1 => 4 * bl d + 1
theorem Ok.lvs_len : ∀ (d : Nat) (f : F), Ok d f → f.lvs.length ≤ bl d := by
  have hL : ∀ (B : Nat) (fs : List F), (∀ g ∈ fs, g.lvs.length ≤ B) → (lvsL fs).length ≤ fs.length * B := by
    intro B fs
    induction fs with
    | nil => intro _; simp [lvsL]
    | cons g fs ih =>
      intro h
      have h1 := h g (by simp)
      have h2 := ih fun g' hg' => h g' (by simp [hg'])
      simp only [lvsL, List.length_append, List.length_cons, Nat.add_mul]
      walk_at "O"
  intro d
  induction d with
  | zero => rintro f ⟨x, rfl, hx⟩; simp [F.lvs, bl]
  | succ d ih =>
    intro f ho
    rcases ho with ⟨x, rfl, hx⟩ | ⟨fs, tl, rfl, hne, h4, ht, ho⟩ | ⟨fs, rfl, hne, h4, ho⟩
    · simp [F.lvs, bl]
    · have h1 := hL _ fs fun g hg => ih g (ho g hg)
      have h2 := Nat.mul_le_mul_right (bl d) h4
      simp only [F.lvs, bl, List.length_append, List.length_cons, List.length_nil]
      walk_at "O"
    · have h1 := hL _ fs fun g hg => ih g (ho g hg)
      have h2 := Nat.mul_le_mul_right (bl d) h4
      simp only [F.lvs, bl]
      walk_at "O"
theorem depFs_le {d : Nat} : ∀ {fs : List F}, (∀ g ∈ fs, g.dep ≤ d) → depFs fs ≤ d
  | [], _ => Nat.zero_le _
  | f :: fs, h => Nat.max_le.mpr ⟨h f (.head _), depFs_le fun g hg => h g (.tail _ hg)⟩
theorem Ok.dep : ∀ (d : Nat) (f : F), Ok d f → f.dep ≤ d := by
  intro d
  induction d with
  | zero => rintro f ⟨x, rfl, hx⟩; exact Nat.le_refl _
  | succ d ih =>
    intro f ho
    rcases ho with ⟨x, rfl, hx⟩ | ⟨fs, tl, rfl, hne, h4, ht, ho⟩ | ⟨fs, rfl, hne, h4, ho⟩
    · exact Nat.zero_le _
    · show 1 + depFs fs ≤ d + 1; rw [Nat.add_comm]; exact Nat.succ_le_succ (depFs_le fun g hg => ih g (ho g hg))
    · show 1 + depFs fs ≤ d + 1; rw [Nat.add_comm]; exact Nat.succ_le_succ (depFs_le fun g hg => ih g (ho g hg))
theorem Chain.split {H : MH} {xs ys : List V} {v u : V} (h : Chain H v (xs ++ ys) u) : ∃ t, Chain H v xs t ∧ Chain H t ys u := by
  induction xs generalizing v with
  | nil => exact ⟨v, rfl, h⟩
  | cons x xs ih =>
    obtain ⟨a, d, e, e1, h⟩ := h
    obtain ⟨t, h1, h2⟩ := ih h
    exact ⟨t, ⟨a, d, e, e1, h1⟩, h2⟩
set_option tactic.hygienic true in
theorem hd_shape {H : MH} {l : Lf → Dt} (hne : ∀ (x : Lf) ys u, l x = .lst ys u → ys ≠ [] ∧ u.isLst = false) : ∀ (f : F) (v : V), (∀ d, Ok d f → True) → Hd H (toG l f) v → Shape H (fun _ => False) (fun x w => Hd H (l x) w) f v := by
  intro f
  induction f using F.ind with
  | hl x => intro v _ h; simp only [toG] at h; exact .lf h
  | hc fs tl ih =>
    intro v _ h
    simp only [toG] at h
    have key : ∀ (ys : List Dt) (u : Dt), Hd H (.lst (toGL l fs ++ ys) u) v → ((ys = [] ∧ l tl = u) ∨ (ys ≠ [] ∧ u.isLst = false ∧ l tl = .lst ys u)) → Shape H (fun _ => False) (fun x w => Hd H (l x) w) (.lst fs tl) v := by
      intro ys u h hy
      cases h with
      | lst h1 h2 hc hl h3 h4 =>
      rename_i t vs
      rw [toGL_map] at hl h3
      rw [List.length_append, List.length_map] at hl
      have hv : vs = vs.take fs.length ++ vs.drop fs.length := (List.take_append_drop _ _).symm
      rw [hv] at hc
      obtain ⟨m, c1, c2⟩ := hc.split
      refine .lst c1 (by rw [List.length_take]; walk_at "O") (fun i f w e1 e2 => ?_) ?_
      · have hi := (List.getElem?_eq_some_iff.mp e1).1
        refine ih f (List.mem_of_getElem? e1) w (fun _ _ => trivial) (h3 i _ w ?_ ?_)
        · rw [List.getElem?_append_left (by rw [List.length_map]; exact hi), List.getElem?_map, e1]; rfl
        · rw [List.getElem?_take_of_lt hi] at e2; exact e2
      · rcases hy with ⟨rfl, rfl⟩ | ⟨hy1, hy2, e⟩
        · rw [List.drop_of_length_le (by simp at hl; walk_at "O")] at c2
          obtain rfl : m = t := c2
          exact h4
        · show Hd H (l tl) m
          rw [e]
          refine .lst hy1 hy2 c2 (by rw [List.length_drop]; walk_at "O") (fun i d w e1 e2 => ?_) h4
          rw [List.getElem?_drop] at e2
          refine h3 (fs.length + i) d w ?_ e2
          rw [List.getElem?_append_right (by rw [List.length_map]; walk_at "O"), List.length_map, show fs.length + i - fs.length = i from by walk_at "O"]
          exact e1
    cases e : l tl with
    | lst ys u =>
      rw [e] at h
      obtain ⟨a, b⟩ := hne tl ys u e
      exact key ys u h (.inr ⟨a, b, e⟩)
    | _ =>
      rw [e] at h
      refine key [] _ ?_ (.inl ⟨rfl, e⟩)
      rw [List.append_nil]
      exact h
  | hv fs ih =>
    intro v _ h
    simp only [toG] at h
    cases h with
    | vec h1 h2 hl h3 =>
    rw [toGL_map] at hl h3
    rw [List.length_map] at hl
    refine .vec h1 h2 (fun h => h) hl fun i f w e1 e2 => ?_
    exact ih f (List.mem_of_getElem? e1) w (fun _ _ => trivial) (h3 i _ w (by rw [List.getElem?_map, e1]; rfl) e2)
end N226
end
noncomputable section
open PySem PySem.W PySem.Calls PyProof.Rows
set_option maxRecDepth 10000
namespace N226
noncomputable def noQ (s : Str) : Bool := decide (63 ∉ s.cps.toList)
theorem noQ_app {a b : Str} : noQ (a ++ b) = (noQ a && noQ b) := by
  unfold noQ
  rw [show (a ++ b).cps = a.cps ++ b.cps from rfl, Array.toList_append]
  simp [List.mem_append, not_or]
theorem noQ_join : ∀ (ts : List Str), (∀ t ∈ ts, noQ t = true) → noQ (Txt.join s_space ts) = true := by
  have : ∀ (ts : List Str), (∀ t ∈ ts, noQ t = true) → noQ (Str.join s_space ts) = true := by
    intro ts
    induction ts with
    | nil => intro _; rfl
    | cons x ts ih =>
      intro h
      cases ts with
      | nil => exact h x (by simp)
      | cons y ts =>
        show noQ (x ++ s_space ++ Str.join s_space (y :: ts)) = true
        rw [noQ_app, noQ_app, h x (by simp), ih fun t ht => h t (List.mem_cons_of_mem _ ht)]
        decide
  intro ts h
  show noQ (Builtin.Str.glued s_space ts) = true
  rw [StrLaws.glued_eq_join]
  exact this ts h
mutual
noncomputable def Dt.cl : Dt → Bool
  | .sym s => noQ s
  | .al _ => false
  | .int i => noQ (Str.ofString (toString i))
  | .emp => true
  | .lst xs t => clL xs && t.cl
  | .vec xs => clL xs
noncomputable def clL : List Dt → Bool
  | [] => true
  | x :: xs => x.cl && clL xs
end
theorem clL_all (xs : List Dt) : clL xs = xs.all Dt.cl := by
  induction xs with
  | nil => rfl
  | cons x xs ih => simp [clL, ih]
theorem cl_join (xs : List Dt) (t : Dt) : (joinD xs t).cl = (clL xs && t.cl) := by
  cases t <;> simp [joinD, Dt.cl, clL_all, Bool.and_assoc]
theorem cl_toG {l : Lf → Dt} (h : ∀ x, okA x → (l x).cl = true) : ∀ (d : Nat) (f : F), Ok d f → (toG l f).cl = true := by
  intro d
  induction d with
  | zero => rintro f ⟨x, rfl, hx⟩; simp only [toG]; exact h x (.inl hx)
  | succ d ih =>
    intro f ho
    have hL : ∀ fs : List F, (∀ g ∈ fs, Ok d g) → clL (toGL l fs) = true := fun fs hg => by
      rw [clL_all, toGL_map, List.all_map, List.all_eq_true]
      exact fun g hgm => ih g (hg g hgm)
    rcases ho with ⟨x, rfl, hx⟩ | ⟨fs, tl, rfl, hne, h4, ht, ho⟩ | ⟨fs, rfl, hne, h4, ho⟩
    · simp only [toG]; exact h x (.inl hx)
    · simp only [toG]; rw [cl_join, hL fs ho, h tl (.inr ht)]; rfl
    · simp only [toG, Dt.cl]; exact hL fs ho
theorem noQ_txt : ∀ (m : Nat) (d : Dt), d.sz ≤ m → d.cl = true → noQ d.txt = true := by
  intro m
  induction m with
  | zero => intro d h; cases d <;> simp [Dt.sz] at h
  | succ m ih =>
    intro d h hc
    have hL : ∀ xs : List Dt, szL xs ≤ m → clL xs = true → ∀ t ∈ txtL xs, noQ t = true := by
      intro xs h1 h2 t ht
      rw [txtL_map] at ht
      obtain ⟨x, hx, rfl⟩ := List.mem_map.mp ht
      rw [clL_all, List.all_eq_true] at h2
      exact ih x (by have := szL_mem hx; walk_at "O") (h2 x hx)
    have e1 : noQ s_open = true := by decide
    have e2 : noQ s_close = true := by decide
    have e3 : noQ s_vopen = true := by decide
    have e4 : noQ s_dot = true := by decide
    cases d with
    | sym s => exact hc
    | al s => cases hc
    | int i => exact hc
    | emp => simp only [Dt.txt]; rw [noQ_app, noQ_app, e1, e2, noQ_join _ (by simp)]; rfl
    | vec xs =>
      simp only [Dt.sz] at h
      simp only [Dt.cl] at hc
      simp only [Dt.txt]
      rw [noQ_app, noQ_app, e3, e2, noQ_join _ (hL xs (by walk_at "O") hc)]; rfl
    | lst xs t =>
      simp only [Dt.sz] at h
      simp only [Dt.cl, Bool.and_eq_true] at hc
      have h1 := hL xs (by walk_at "O") hc.1
      have h3 := ih t (by walk_at "O") hc.2
      have gen : noQ (s_open ++ Txt.join s_space (txtL xs ++ [s_dot, t.txt]) ++ s_close) = true := by
        rw [noQ_app, noQ_app, e1, e2, noQ_join _ fun u hu => ?_]; rfl
        rcases List.mem_append.mp hu with hu | hu
        · exact h1 u hu
        · simp at hu
          rcases hu with rfl | rfl
          · exact e4
          · exact h3
      cases t with
      | emp => simp only [Dt.txt]; rw [noQ_app, noQ_app, e1, e2, noQ_join _ h1]; rfl
      | _ => exact gen
theorem what_in {H : MH} {x : Str} {Q : Bool → Prop} (h : noQ x = true) (q : Q false) : inW (.str x) (.str s_what) H Q := by
  refine .inr (.inr (.inr ⟨_, _, rfl, rfl, ?_⟩))
  have e : (!(Builtin.Str.occurrences x s_what 0 x.length 1).isEmpty) = decide (63 ∈ x.cps.toList) := StrLaws.found_one x 63
  rw [e]
  have : decide (63 ∈ x.cps.toList) = false := by simpa [noQ] using h
  rw [this]; exact q
noncomputable abbrev oneD : Dt := .lst [.sym s_t, .int 1] .emp
noncomputable abbrev toldD (f : F) : Dt := toG (leafD oneD (.sym s_x)) f
noncomputable abbrev againD (f : F) : Dt := toG (leafD (toldD f) oneD) f
theorem leafD_bd {da db : Dt} {S W D : Nat} (h1 : 10 ≤ S) (h2 : 27 ≤ W) (h3 : 1 ≤ D) (ha : da.sz ≤ S ∧ da.wt ≤ W ∧ da.dep ≤ D) (hb : db.sz ≤ S ∧ db.wt ≤ W ∧ db.dep ≤ D) (x : Lf) (hx : okA x) : (leafD da db x).sz ≤ S ∧ (leafD da db x).wt ≤ W ∧ (leafD da db x).dep ≤ D := by
  have e5 : (Str.ofString (toString (5 : Int))).length = 1 := by decide
  cases x with
  | name s =>
    simp only [leafD]
    split
    · exact ha
    · split
      · exact hb
      · simp only [Dt.sz, Dt.wt, Dt.dep]; walk_at "O"
  | int i =>
    rcases hx with hx | hx
    · obtain rfl : i = 5 := hx
      simp only [leafD, Dt.sz, Dt.wt, Dt.dep, e5]; walk_at "O"
    · cases hx
  | fin => simp only [leafD, Dt.sz, Dt.wt, Dt.dep]; walk_at "O"
theorem one_bd : oneD.sz ≤ 10 ∧ oneD.wt ≤ 27 ∧ oneD.dep ≤ 1 := by decide
theorem told_bd {f : F} (h : Ok 3 f) : (toldD f).sz ≤ 976 ∧ (toldD f).wt ≤ 2568 ∧ (toldD f).dep ≤ 4 :=
  toG_bd (fun x hx => leafD_bd (Nat.le_refl _) (Nat.le_refl _) (Nat.le_refl _) one_bd (by decide) x hx) 3 f h
theorem again_bd {f : F} (h : Ok 3 f) : (againD f).sz ≤ 83086 ∧ (againD f).wt ≤ 218553 ∧ (againD f).dep ≤ 7 :=
  toG_bd (S := 976) (W := 2568) (D := 4) (fun x hx => leafD_bd (by decide) (by decide) (by decide) (told_bd h) ⟨by decide, by decide, by decide⟩ x hx) 3 f h
theorem sleaf_bd {da db : Dt} {S W D : Nat} (h1 : 10 ≤ S) (h2 : 27 ≤ W) (h3 : 1 ≤ D) (ha : (strp da).sz ≤ S ∧ (strp da).wt ≤ W ∧ (strp da).dep ≤ D) (hb : (strp db).sz ≤ S ∧ (strp db).wt ≤ W ∧ (strp db).dep ≤ D) (x : Lf) (hx : okA x) : (strp (leafD da db x)).sz ≤ S ∧ (strp (leafD da db x)).wt ≤ W ∧ (strp (leafD da db x)).dep ≤ D := by
  have e5 : (Str.ofString (toString (5 : Int))).length = 1 := by decide
  cases x with
  | name s =>
    simp only [leafD]
    split
    · exact ha
    · split
      · exact hb
      · have hs : s.length ≤ 3 := by
          rcases hx with hx | hx
          · rcases hx with rfl | rfl | rfl | rfl | rfl <;> decide
          · rcases hx with rfl | rfl <;> decide
        simp only [strp, Dt.sz, Dt.wt, Dt.dep]; walk_at "O"
  | int i =>
    rcases hx with hx | hx
    · obtain rfl : i = 5 := hx
      simp only [leafD, strp, Dt.sz, Dt.wt, Dt.dep, e5]; walk_at "O"
    · cases hx
  | fin => simp only [leafD, strp, Dt.sz, Dt.wt, Dt.dep]; walk_at "O"
theorem stold_bd {f : F} (h : Ok 3 f) : (strp (toldD f)).sz ≤ 976 ∧ (strp (toldD f)).wt ≤ 2568 ∧ (strp (toldD f)).dep ≤ 4 := by
  rw [strp_toG]
  exact toG_bd (fun x hx => sleaf_bd (Nat.le_refl _) (Nat.le_refl _) (Nat.le_refl _) (by decide) (by decide) x hx) 3 f h
theorem sagain_bd {f : F} (h : Ok 3 f) : (strp (againD f)).sz ≤ 83086 ∧ (strp (againD f)).wt ≤ 218553 ∧ (strp (againD f)).dep ≤ 7 := by
  rw [strp_toG]
  exact toG_bd (S := 976) (W := 2568) (D := 4) (fun x hx => sleaf_bd (by decide) (by decide) (by decide) (stold_bd h) ⟨by decide, by decide, by decide⟩ x hx) 3 f h
theorem sleaf_cl {da db : Dt} (ha : (strp da).cl = true) (hb : (strp db).cl = true) (x : Lf) (hx : okA x) : (strp (leafD da db x)).cl = true := by
  cases x with
  | name s =>
    simp only [leafD]
    split
    · exact ha
    · split
      · exact hb
      · rcases hx with hx | hx
        · rcases hx with rfl | rfl | rfl | rfl | rfl <;> decide
        · rcases hx with rfl | rfl <;> decide
  | int i =>
    rcases hx with hx | hx
    · obtain rfl : i = 5 := hx
      show noQ (Str.ofString (toString (5 : Int))) = true
      decide
    · cases hx
  | fin => rfl
theorem stold_cl {f : F} (h : Ok 3 f) : (strp (toldD f)).cl = true := by
  rw [strp_toG]
  exact cl_toG (fun x hx => sleaf_cl (by decide) (by decide) x hx) 3 f h
theorem sagain_cl {f : F} (h : Ok 3 f) : (strp (againD f)).cl = true := by
  rw [strp_toG]
  exact cl_toG (fun x hx => sleaf_cl (stold_cl h) (by decide) x hx) 3 f h
theorem sagain_noQ {f : F} (h : Ok 3 f) : noQ (strp (againD f)).txt = true := noQ_txt _ _ (Nat.le_refl _) (sagain_cl h)
noncomputable def stx : Lf → Str
  | .name s => if s = s_a then oneD.txt else if s = s_b then s_x else s
  | .int i => Str.ofString (toString i)
  | .fin => s_unit
theorem stold_txt (x : Lf) : (strp (leafD oneD (.sym s_x) x)).txt = stx x := by
  cases x with
  | name s =>
    simp only [leafD, stx]
    split
    · rfl
    · split <;> rfl
  | int i => rfl
  | fin => decide
theorem told_al {f : F} : (toldD f).hasAl = true ↔ ∃ x ∈ f.lvs, ∃ s, x = .name s ∧ s ≠ s_a ∧ s ≠ s_b := by
  rw [hasAl_toG, List.any_eq_true]
  constructor
  · rintro ⟨x, hx, h⟩
    refine ⟨x, hx, ?_⟩
    cases x with
    | name s =>
      simp only [leafD] at h
      refine ⟨s, rfl, fun e => ?_, fun e => ?_⟩
      · subst e; simp [Dt.hasAl, hasAlL] at h
      · subst e; rw [if_neg (by decide)] at h; simp [Dt.hasAl] at h
    | int i => cases h
    | fin => cases h
  · rintro ⟨x, hx, s, rfl, h1, h2⟩
    refine ⟨_, hx, ?_⟩
    simp [leafD, h1, h2, Dt.hasAl]
end N226
end
noncomputable section
open PySem PySem.W PySem.Calls PyProof.Rows
set_option maxRecDepth 10000
namespace N226
noncomputable def sl_1 : K := (.swap [2, 1] (.tuple (.cons (.call (.con (.ref f_law_deck)) (.cons (.var 0) .nil)) (.cons (.call (.con (.ref c_Names)) .nil) .nil))))
noncomputable def sl_2 : K := (.swap [4, 3] (.tuple (.cons (.call (.con (.ref c_Scope)) (.cons (.call (.con (.ref c_Scope)) (.cons .none .nil)) .nil)) (.cons (.tuple (.cons (.str s_list) (.cons (.tuple (.cons (.call (.con (.ref f_law_drawn)) (.cons (.var 1) (.cons (.int (2)) .nil))) (.cons (.call (.con (.ref f_law_drawn)) (.cons (.var 1) (.cons (.int (1)) .nil))) .nil))) (.cons .none .nil)))) .nil))))
noncomputable def sl_3 : K := (.set 5 (.call (.con (.ref f_list_of)) (.cons (.list (.cons (.call (.con (.ref f_list_of)) (.cons (.list (.cons (.meth (.var 2) n_symbol (.cons (.str s_under) .nil)) (.cons (.meth (.var 2) n_symbol (.cons (.str s_a) .nil)) (.cons (.meth (.var 2) n_symbol (.cons (.str s_b) .nil)) .nil)))) .nil)) (.cons (.call (.con (.ref f_law_datum)) (.cons (.var 4) (.cons (.var 2) .nil))) .nil))) .nil)))
noncomputable def sl_4 : K := (.set 6 (.call (.con (.ref f_read_rules)) (.cons (.call (.con (.ref f_list_of)) (.cons (.list (.cons (.meth (.var 2) n_symbol (.cons (.str s_syntax_rules) .nil)) (.cons (.con (.ref a_EMPTY)) (.cons (.var 5) .nil)))) .nil)) (.cons (.var 3) (.cons (.var 2) .nil)))))
noncomputable def sl_5 : K := (.swap [8, 7] (.tuple (.cons (.call (.con (.ref f_list_of)) (.cons (.list (.cons (.meth (.var 2) n_symbol (.cons (.str s_t) .nil)) (.cons (.int (1)) .nil))) .nil)) (.cons (.meth (.var 2) n_symbol (.cons (.str s_x) .nil)) .nil))))
noncomputable def sl_6 : K := (.set 9 (.call (.con (.ref f_transcribe)) (.cons (.var 6) (.cons (.call (.con (.ref f_list_of)) (.cons (.list (.cons (.meth (.var 2) n_symbol (.cons (.str s_m) .nil)) (.cons (.var 7) (.cons (.var 8) .nil)))) .nil)) (.cons (.var 3) (.cons (.var 2) .nil))))))
noncomputable def sl_7 : K := (.set 10 (.call (.con (.ref f_transcribe)) (.cons (.var 6) (.cons (.call (.con (.ref f_list_of)) (.cons (.list (.cons (.meth (.var 2) n_symbol (.cons (.str s_m) .nil)) (.cons (.var 9) (.cons (.var 7) .nil)))) .nil)) (.cons (.var 3) (.cons (.var 2) .nil))))))
noncomputable def sl_8 : K := (.swap [12, 11] (.tuple (.cons (.call (.con (.ref f_law_leaves)) (.cons (.var 4) (.cons (.var 9) .nil))) (.cons (.call (.con (.ref f_law_leaves)) (.cons (.var 4) (.cons (.var 10) .nil))) .nil))))
noncomputable def sl_9 : K := (.ifs (.tor (.tcmp .Is (.var 11) .none) (.tor (.tcmp .Is (.var 12) .none) .tfalse))
    (.seq (.ret (.bool false)) .nil)
    .nil)
noncomputable def sl_10 : K := (.set 13 (.call (.con (.ref f_law_right)) (.cons (.var 11) (.cons (.dict (.kv (.str s_a) (.var 7) (.kv (.str s_b) (.var 8) .nil))) (.cons (.var 2) (.cons (.var 3) .nil))))))
noncomputable def sl_11 : K := (.set 14 (.call (.con (.ref f_law_right)) (.cons (.var 12) (.cons (.dict (.kv (.str s_a) (.var 9) (.kv (.str s_b) (.var 7) .nil))) (.cons (.var 2) (.cons (.var 3) .nil))))))
noncomputable def sl_12 : K := (.ifs (.tor (.tcmp .Is (.var 13) .none) (.tor (.tcmp .Is (.var 14) .none) (.tor (.tcmp .NotEq (.comp (.int (1)) (.var 13) (.tin (.sub (.var 14) (.var 0)) (.meth (.var 15) n_values .nil))) (.list .nil)) .tfalse)))
    (.seq (.ret (.bool false)) .nil)
    .nil)
noncomputable def sl_13 : K := (.ifs (.tor (.tcmp .NotEq (.call (.con (.ref f_has_alias)) (.cons (.var 9) .nil)) (.cmp .NotEq (.var 13) .dict0)) (.tor (.tcmp .NotEq (.cmp .Is (.call (.con (.ref f_plain)) (.cons (.var 9) .nil)) (.var 9)) (.cmp .Eq (.var 13) .dict0)) .tfalse))
    (.seq (.ret (.bool false)) .nil)
    .nil)
noncomputable def sl_14 : K := (.swap [17, 16] (.tuple (.cons (.list (.cons (.call (.con (.ref f_law_text)) (.cons (.var 9) .nil)) (.cons (.call (.con (.ref f_law_text)) (.cons (.var 10) .nil)) .nil))) (.cons (.dict (.kv (.str s_a) (.call (.con (.ref f_law_text)) (.cons (.var 7) .nil)) (.kv (.str s_b) (.str s_x) (.kv (.str s_end) (.str s_unit) .nil)))) .nil))))
noncomputable def sl_15 : K := (.set 18 (.call (.con (.ref f_law_leaves)) (.cons (.var 4) (.cons (.call (.con (.ref f_strip)) (.cons (.var 9) .nil)) .nil))))
noncomputable def sl_16 : K := (.ifs (.tor (.tcmp .Is (.var 18) .none) (.tor (.tin (.str s_what) (.call (.con (.ref f_law_text)) (.cons (.call (.con (.ref f_strip)) (.cons (.var 10) .nil)) .nil))) .tfalse))
    (.seq (.ret (.bool false)) .nil)
    .nil)
noncomputable def sl_17 : K := (.fors (.many [15, 19]) (.var 18)
    (.seq (.ifs (.tcmp .NotEq (.call (.con (.ref f_law_text)) (.cons (.var 19) .nil)) (.meth (.var 17) n_get (.cons (.var 15) (.cons (.call (.con (.ty "str")) (.cons (.var 15) .nil)) .nil))))
      (.seq (.ret (.bool false)) .nil)
      .nil) .nil))
noncomputable def sl_18 : K := (.ret (.cmp .Eq (.list (.cons (.call (.con (.ref f_law_text)) (.cons (.var 9) .nil)) (.cons (.call (.con (.ref f_law_text)) (.cons (.var 10) .nil)) .nil))) (.var 16)))
noncomputable def kl_18 : K := .nil
noncomputable def kl_17 : K := .seq sl_18 kl_18
noncomputable def kl_16 : K := .seq sl_17 kl_17
noncomputable def kl_15 : K := .seq sl_16 kl_16
noncomputable def kl_14 : K := .seq sl_15 kl_15
noncomputable def kl_13 : K := .seq sl_14 kl_14
noncomputable def kl_12 : K := .seq sl_13 kl_13
noncomputable def kl_11 : K := .seq sl_12 kl_12
noncomputable def kl_10 : K := .seq sl_11 kl_11
noncomputable def kl_9 : K := .seq sl_10 kl_10
noncomputable def kl_8 : K := .seq sl_9 kl_9
noncomputable def kl_7 : K := .seq sl_8 kl_8
noncomputable def kl_6 : K := .seq sl_7 kl_7
noncomputable def kl_5 : K := .seq sl_6 kl_6
noncomputable def kl_4 : K := .seq sl_5 kl_5
noncomputable def kl_3 : K := .seq sl_4 kl_4
noncomputable def kl_2 : K := .seq sl_3 kl_3
noncomputable def kl_1 : K := .seq sl_2 kl_2
noncomputable def kl_0 : K := .seq sl_1 kl_1
theorem k_law_eq : k_law = kl_0 := rfl
section
variable {C : Cx} {n : Nat} {ρ : Loc} {H : MH}
theorem away_list {a : Addr} {xs : List V} (h : H a = some (.list xs)) : Away H (· = a) [a] := fun m hm => by
  simp at hm; subst hm; exact .inr (.inr ⟨rfl, _, h⟩)
structure St0 (H : MH) (W : Wd) (σ : Syms) (s d0 d1 : Addr) (f : Fm) (fv : V) : Prop where
  wk : Wk H W σ 0
  base : Base H
  sc : Sc H s d0 d1
  form : FormIs H f fv
  nd0 : d0 ∉ [W.r, W.d]
  nd1 : d1 ∉ [W.r, W.d]
theorem St0.ext {H' : MH} {W : Wd} {σ : Syms} {s d0 d1 : Addr} {f : Fm} {fv : V} (h : St0 H W σ s d0 d1 f fv) (x : Ext H H') : St0 H' W σ s d0 d1 f fv :=
  ⟨h.wk.ext x, h.base.ext x, h.sc.ext x, h.form.ext x, h.nd0, h.nd1⟩
theorem St0.sym {H' : MH} {W : Wd} {σ τ : Syms} {s d0 d1 : Addr} {f : Fm} {fv : V} (h : St0 H W σ s d0 d1 f fv) (b : But [W.r, W.d] H H') (w : Wk H' W τ 0) : St0 H' W τ s d0 d1 f fv :=
  ⟨w, h.base.but h.wk.away b, h.sc.but h.wk.away h.nd0 h.nd1 b, h.wk.form b h.form, h.nd0, h.nd1⟩
theorem law_1 (F : Fit C) {sc : Addr} {xs : List Int} {R : Fl → Loc → MH → Prop} (hb : Base H) (hs : H sc = some (.slist (intV xs))) (hn : xs.length ≤ lim) (p0 : ρ 0 = some (.ref sc))
    (q : ∀ (ρ' : Loc) W dk ds H', Ext H H' → Wk H' W [] 0 → H' dk = some (.list (intV ds)) → Deck ds → dk ≠ W.r → ρ' 1 = some (.ref dk) → ρ' 2 = some (.ref W.w) → wpK C (n + 16) kl_1 ρ' H' R) : wpK C (n + 16) kl_0 ρ H R := by
  unfold kl_0 sl_1
  refine kk_step fun P hP => ?_
  wide_open with (kk_seq, kk_seq)
  wide_open with (kk_seq, p0)
  refine ⟨F.law_deck.can, wc_law_deck F hs hn fun dk ds H1 x1 hdk0 hdk hD => ?_⟩
  refine ⟨F.cNames.can, mk_Names F fun W H2 x2 w0 r0 d0 hw => ⟨by show 2 ≤ lim; decide, fun c hc => ?_⟩⟩
  have x3 := Ext.new (o := .tuple [.ref dk, .ref W.w]) hc
  refine ⟨c, _, rfl, MH.set_self _ _ _, rfl, hP _ _ ?_⟩
  exact q _ W dk ds _ ((x1.trans x2).trans x3) (hw.ext x3) (x3 _ _ (x2 _ _ hdk)) hD (ne_new hdk r0) rfl rfl
theorem law_2 (F : Fit C) {W : Wd} {dk : Addr} {ds : List Int} {R : Fl → Loc → MH → Prop} (hb : Base H) (hw : Wk H W [] 0) (hdk : H dk = some (.list (intV ds))) (hD : Deck ds) (hne : dk ≠ W.r) (p1 : ρ 1 = some (.ref dk)) (p2 : ρ 2 = some (.ref W.w))
    (q : ∀ (ρ' : Loc) s d0 d1 f fv H', St0 H' W [] s d0 d1 f fv → Ok 3 f → (∃ fs tl, f = .lst fs tl ∧ fs ≠ []) → ρ' 2 = some (.ref W.w) → ρ' 3 = some (.ref s) → ρ' 4 = some fv → wpK C (n + 16) kl_2 ρ' H' R) : wpK C (n + 16) kl_1 ρ H R := by
  unfold kl_1 sl_2
  refine kk_step fun P hP => ?_
  wide_open with (kk_seq, kk_seq)
  wide_open with (kk_seq, p1, p2)
  refine ⟨F.cScope.can, mk_Scope F fun s0 d0 H1 x1 s00 d00 hs0 hd0 => ⟨F.cScope.can, mk_Scope F fun s d1 H2 x2 s10 d10 hs1 hd1 => ?_⟩⟩
  have x12 := x1.trans x2
  have hsc : Sc H2 s d0 d1 := ⟨⟨s0, hs1, x2 _ _ hs0⟩, ⟨0, x2 _ _ hd0⟩, ⟨0, hd1⟩⟩
  refine ⟨F.law_drawn.can, drawn_all F 2 (x12 _ _ hdk) hD fun f1 v1 ds1 H3 b3 hk3 hD3 ok1 hf1 => ?_⟩
  refine ⟨F.law_drawn.can, drawn_all F 1 hk3 hD3 fun f2 v2 ds2 H4 b4 hk4 hD4 ok2 hf2 => ?_⟩
  have hd0k : d0 ∉ [dk] := by simpa using (ne_new hdk d00).symm
  have hd1k : d1 ∉ [dk] := by simpa using (ne_new (x1 _ _ hdk) d10).symm
  have a2 := away_list (x12 _ _ hdk)
  have a3 := away_list hk3
  have frame : ∀ {G G' : MH} {us : List Int}, Wk G W [] 0 → G dk = some (.list (intV us)) → But [dk] G G' → Wk G' W [] 0 := fun {G G' us} hw hk b =>
    ⟨hw.wld.frame b (fun m hm => by simp at hm; subst hm; exact .inr ⟨hne, _, hk⟩), hw.nm⟩
  have hw2 := hw.ext x12
  have hw4 := frame (frame hw2 (x12 _ _ hdk) b3) hk3 b4
  have hb4 := ((hb.ext x12).but a2 b3).but a3 b4
  have hs4 := (hsc.but a2 hd0k hd1k b3).but a3 hd0k hd1k b4
  have hf1' : FormIs H4 f1 v1 := hf1.deck hk3 b4
  refine ⟨by show 2 ≤ lim; decide, fun p hp => ⟨by show 3 ≤ lim; decide, fun a ha => ⟨by show 2 ≤ lim; decide, fun t ht => ?_⟩⟩⟩
  have y1 := Ext.new (o := .tuple [v1, v2]) hp
  have y2 := Ext.new (o := .tuple [.str s_list, .ref p, .none]) ha
  have y3 := Ext.new (o := .tuple [.ref s, .ref a]) ht
  have y := (y1.trans y2).trans y3
  refine ⟨t, _, rfl, MH.set_self _ _ _, rfl, hP _ _ ?_⟩
  have hfo : FormIs _ (.lst [f1, f2] .fin) (.ref a) := .lst (H := ((H4.set p (.tuple [v1, v2])).set a (.tuple [.str s_list, .ref p, .none])).set t (.tuple [.ref s, .ref a])) (vs := [v1, v2]) (p := p) (fun i e => by cases e) (by simp) (by simp) (y3 _ _ (MH.set_self _ _ _)) (y3 _ _ (y2 _ _ (MH.set_self _ _ _))) rfl (fun i f w e1 e2 => by
    match i with
    | 0 => simp at e1 e2; subst e1 e2; exact hf1'.ext y
    | 1 => simp at e1 e2; subst e1 e2; exact hf2.ext y
    | i + 2 => simp at e1)
  have nw : ∀ d, H1 d = none → d ∉ [W.r, W.d] := fun d h => (hw.ext x1).new h
  refine q _ s d0 d1 _ _ _ ⟨hw4.ext y, hb4.ext y, hs4.ext y, hfo, hw.new d00, nw d1 d10⟩ (.inr (.inl ⟨_, _, rfl, by simp, by simp, trivial, fun g hg => ?_⟩)) ⟨_, _, rfl, by simp⟩ (by simp [setAll_cons, setAll_nil, Loc.set, p2]) rfl rfl
  simp at hg
  rcases hg with rfl | rfl
  · exact ok1
  · exact ok2.up
end
end N226
end
noncomputable section
open PySem PySem.W PySem.Calls PyProof.Rows
set_option maxRecDepth 10000
namespace N226
section
variable {C : Cx} {n : Nat} {ρ : Loc} {H : MH}
theorem lookup_more {σ τ : Syms} {t : Str} {a : Addr} (h : σ.lookup t = some a) : (σ ++ τ).lookup t = some a := by rw [List.lookup_append, h]; rfl
theorem NdL.more {σ τ : Syms} {ka kb : Int} {x : Lf} {v : V} (h : NdL H σ ka kb x v) : NdL H (σ ++ τ) ka kb x v := by
  cases x with
  | name s => obtain ⟨a, c, e, h1, h2⟩ := h; exact ⟨a, c, e, lookup_more h1, h2⟩
  | int i => exact h
  | fin => exact h
theorem Node.more {X : Addr → Prop} {σ τ : Syms} {ka kb : Int} {f : Fm} {v : V} (h : Node H X σ ka kb f v) : Node H X (σ ++ τ) ka kb f v := by
  induction h with
  | lf h => exact .lf h.more
  | lst ha hl hx hlen _ ht ih => exact .lst ha hl hx hlen ih ht.more
  | vec ha hl hx hlen _ ih => exact .vec ha hl hx hlen ih
theorem Mac.more {X : Addr → Prop} {σ τ : Syms} {ka kb : Int} {G : Fm} {mc s : Addr} (h : Mac H X σ ka kb G mc s) : Mac H X (σ ++ τ) ka kb G mc s := by
  obtain ⟨ll, rl, ru, h1, h2, h3, ⟨pn, dd, nd, ln, na, nb, g1, g2, g3, g4, g5, g6, g7⟩⟩ := h
  exact ⟨ll, rl, ru, h1, h2, h3, ⟨pn, dd, nd, ln, na, nb, g1, g2, g3, g4, g5, g6, g7.more⟩⟩
theorem law_3 (F : Fit C) {W : Wd} {s d0 d1 : Addr} {f : Fm} {fv : V} {R : Fl → Loc → MH → Prop} (S : St0 H W [] s d0 d1 f fv) (ok : Ok 3 f) (p2 : ρ 2 = some (.ref W.w)) (p3 : ρ 3 = some (.ref s)) (p4 : ρ 4 = some fv)
    (q : ∀ (ρ' : Loc) σ u a b pat tem rv H', St0 H' W σ s d0 d1 f fv → σ.lookup s_under = some u → σ.lookup s_a = some a → σ.lookup s_b = some b → Chain H' pat [.ref u, .ref a, .ref b] (.ref a_EMPTY) → Chain H' rv [pat, tem] (.ref a_EMPTY) → Shape H' (· = W.r) (Ls σ) f tem → ρ' 2 = some (.ref W.w) → ρ' 3 = some (.ref s) → ρ' 4 = some fv → ρ' 5 = some rv → wpK C (n + 16) kl_3 ρ' H' R) : wpK C (n + 16) kl_2 ρ H R := by
  unfold kl_2 sl_3
  refine kk_step fun P hP => ?_
  wide_open with (kk_seq, kk_seq)
  wide_open with (kk_seq, p2, p3, p4)
  refine S.wk.meth F ⟨F.Names_symbol.can, wc_sym F S.wk (by decide) fun u σ1 H1 b1 w1 l1 => ?_⟩
  rw [List.nil_append] at w1 l1
  have S1 := S.sym b1 w1
  refine S1.wk.meth F ⟨F.Names_symbol.can, wc_sym F S1.wk (by decide) fun a σ2 H2 b2 w2 l2 => ?_⟩
  have S2 := S1.sym b2 w2
  refine S2.wk.meth F ⟨F.Names_symbol.can, wc_sym F S2.wk (by decide) fun b σ3 H3 b3 w3 l3 => ?_⟩
  have S3 := S2.sym b3 w3
  have lu : ((σ1 ++ σ2) ++ σ3).lookup s_under = some u := lookup_more (lookup_more l1)
  have la : ((σ1 ++ σ2) ++ σ3).lookup s_a = some a := lookup_more l2
  revert S3 l3 lu la
  generalize (σ1 ++ σ2) ++ σ3 = σ
  intro l3 S3 lu la
  refine ⟨by show 3 ≤ lim; decide, fun c1 hc1 => ?_⟩
  have x4 := Ext.new (o := .list [.ref u, .ref a, .ref b]) hc1
  have S4 := S3.ext x4
  refine ⟨F.list_of1.can, wc_list_of1 F (MH.set_self _ _ _) (by show 3 ≤ lim; decide) fun pat H5 x5 hpat _ => ?_⟩
  have S5 := S4.ext x5
  refine ⟨F.law_datum.can, datum_all F 3 ok S5.form S5.wk fun tem τ H6 b6 w6 hsh => ?_⟩
  have S6 := S5.sym b6 w6
  have hpat6 := hpat.but S5.wk.away b6
  refine ⟨by show 2 ≤ lim; decide, fun c2 hc2 => ?_⟩
  have x7 := Ext.new (o := .list [pat, tem]) hc2
  refine ⟨F.list_of1.can, wc_list_of1 F (MH.set_self _ _ _) (by show 2 ≤ lim; decide) fun rv H8 x8 hrv _ => hP _ _ ?_⟩
  have x78 := x7.trans x8
  exact q _ (σ ++ τ) u a b pat tem rv H8 (S6.ext x78) (lookup_more lu) (lookup_more la) (lookup_more l3) (hpat6.ext x78) hrv (hsh.ext x78) (by simp [Loc.set, p2]) (by simp [Loc.set, p3]) (by simp [Loc.set, p4]) (by simp [Loc.set])
structure St1 (H : MH) (W : Wd) (σ : Syms) (k : Int) (s mc : Addr) (ka kb : Int) (f : Fm) (fv : V) : Prop where
  wk : Wk H W σ k
  base : Base H
  isc : ∃ fs, H s = some (.inst c_Scope fs)
  form : FormIs H f fv
  mac : Mac H (· = W.r) σ ka kb f mc s
theorem St1.ext {H' : MH} {W : Wd} {σ : Syms} {k : Int} {s mc : Addr} {ka kb : Int} {f : Fm} {fv : V} (h : St1 H W σ k s mc ka kb f fv) (x : Ext H H') : St1 H' W σ k s mc ka kb f fv :=
  ⟨h.wk.ext x, h.base.ext x, h.isc.imp fun _ e => x _ _ e, h.form.ext x, h.mac.but (M := []) away_nil x.but⟩
theorem St1.sym {H' : MH} {W : Wd} {σ τ : Syms} {k : Int} {s mc : Addr} {ka kb : Int} {f : Fm} {fv : V} (h : St1 H W σ k s mc ka kb f fv) (b : But [W.r, W.d] H H') (w : Wk H' W (σ ++ τ) k) : St1 H' W (σ ++ τ) k s mc ka kb f fv :=
  ⟨w, h.base.but h.wk.away b, h.isc.imp fun _ e => h.wk.away.inst b e (by decide), h.wk.form b h.form, (h.mac.but h.wk.away b).more⟩
theorem Wk.awayw {W : Wd} {σ : Syms} {k : Int} (h : Wk H W σ k) {X : Addr → Prop} : Away H X [W.w] := fun m hm => by
  simp at hm; subst hm
  obtain ⟨ti, op, e⟩ := h.wld.names
  exact .inr (.inl ⟨_, e⟩)
theorem St1.use {H' : MH} {W : Wd} {σ : Syms} {k k' : Int} {s mc : Addr} {ka kb : Int} {f : Fm} {fv : V} (h : St1 H W σ k s mc ka kb f fv) (b : But [W.w] H H') (w : Wk H' W σ k') : St1 H' W σ k' s mc ka kb f fv := by
  have hw := h.wk.awayw (X := (· = W.r))
  refine ⟨w, h.base.but hw b, h.isc.imp fun _ e => hw.inst b e (by decide), h.form.but (fun m hm vs e => ?_) b, h.mac.but hw b⟩
  simp at hm; subst hm
  obtain ⟨ti, op, e'⟩ := h.wk.wld.names
  rw [e'] at e; cases e
theorem law_4 (F : Fit C) {W : Wd} {σ : Syms} {s d0 d1 u a b : Addr} {pat tem rv : V} {f : Fm} {fv : V} {R : Fl → Loc → MH → Prop} (S : St0 H W σ s d0 d1 f fv) (ok : Ok 3 f) (lu : σ.lookup s_under = some u) (la : σ.lookup s_a = some a) (lb : σ.lookup s_b = some b) (hpat : Chain H pat [.ref u, .ref a, .ref b] (.ref a_EMPTY)) (hrv : Chain H rv [pat, tem] (.ref a_EMPTY)) (hsh : Shape H (· = W.r) (Ls σ) f tem)
    (p2 : ρ 2 = some (.ref W.w)) (p3 : ρ 3 = some (.ref s)) (p4 : ρ 4 = some fv) (p5 : ρ 5 = some rv)
    (q : ∀ (ρ' : Loc) τ mc ka kb H', St1 H' W τ 0 s mc ka kb f fv → ka ≠ kb → ρ' 2 = some (.ref W.w) → ρ' 3 = some (.ref s) → ρ' 4 = some fv → ρ' 6 = some (.ref mc) → wpK C (n + 16) kl_4 ρ' H' R) : wpK C (n + 16) kl_3 ρ H R := by
  unfold kl_3 sl_4
  refine kk_step fun P hP => ?_
  wide_open with (kk_seq, kk_seq)
  wide_open with (kk_seq, p2, p3, p4, p5)
  refine S.wk.meth F ⟨F.Names_symbol.can, wc_sym F S.wk (by decide) fun sr σ1 H1 b1 w1 l1 => ?_⟩
  have S1 := S.sym b1 w1
  have hpat1 := hpat.but S.wk.away b1
  have hrv1 := hrv.but S.wk.away b1
  have hsh1 := S.wk.shape (τ := σ1) b1 hsh
  have lu1 : (σ ++ σ1).lookup s_under = some u := lookup_more lu
  have la1 : (σ ++ σ1).lookup s_a = some a := lookup_more la
  have lb1 : (σ ++ σ1).lookup s_b = some b := lookup_more lb
  clear w1
  revert S1 hsh1 l1 lu1 la1 lb1
  generalize σ ++ σ1 = τ
  intro l1 S1 hsh1 lu1 la1 lb1
  refine ⟨by show 3 ≤ lim; decide, fun c hc => ?_⟩
  have x2 := Ext.new (o := .list [.ref sr, .ref a_EMPTY, rv]) hc
  refine ⟨F.list_of1.can, wc_list_of1 F (MH.set_self _ _ _) (by show 3 ≤ lim; decide) fun fo H3 x3 hfo _ => ?_⟩
  have x := x2.trans x3
  have S3 := S1.ext x
  obtain ⟨ia, eia, _, _⟩ := S3.wk.sym la1
  obtain ⟨ib, eib, _, _⟩ := S3.wk.sym lb1
  obtain ⟨iu, _, hu, _⟩ := S3.wk.sym lu1
  obtain ⟨is, _, hsr, _⟩ := S3.wk.sym l1
  refine ⟨F.read_rules.can, wc_read_rules F (d := 3) S3.wk S3.base S3.sc eia eib hu (by decide) hsr hfo (hrv1.ext x) (hpat1.ext x) ok (hsh1.ext x) fun mc H4 x4 hm => hP _ _ ?_⟩
  have S4 := S3.ext x4
  obtain ⟨s0, es, _⟩ := S4.sc.at_
  refine q _ τ mc _ _ H4 ⟨S4.wk, S4.base, ⟨_, es⟩, S4.form, hm.weak fun z e => ?_⟩ ?_ (by simp [Loc.set, p2]) (by simp [Loc.set, p3]) (by simp [Loc.set, p4]) (by simp [Loc.set])
  · subst e
    rw [S3.wk.wld.rows]; exact fun e => by cases e
  · intro e
    have : ia = ib := by walk_at "O"
    subst this
    rw [eia] at eib
    injection eib with eib
    injection eib with e1 e2
    exact absurd e1 (by decide)
theorem law_5 (F : Fit C) {W : Wd} {σ : Syms} {s mc : Addr} {ka kb : Int} {f : Fm} {fv : V} {R : Fl → Loc → MH → Prop} (S : St1 H W σ 0 s mc ka kb f fv)
    (p2 : ρ 2 = some (.ref W.w)) (p3 : ρ 3 = some (.ref s)) (p4 : ρ 4 = some fv) (p6 : ρ 6 = some (.ref mc))
    (q : ∀ (ρ' : Loc) τ v1 ct cx H', St1 H' W τ 0 s mc ka kb f fv → τ.lookup s_t = some ct → τ.lookup s_x = some cx → Chain H' v1 [.ref ct, .int 1] (.ref a_EMPTY) → ρ' 2 = some (.ref W.w) → ρ' 3 = some (.ref s) → ρ' 4 = some fv → ρ' 6 = some (.ref mc) → ρ' 7 = some v1 → ρ' 8 = some (.ref cx) → wpK C (n + 16) kl_5 ρ' H' R) : wpK C (n + 16) kl_4 ρ H R := by
  unfold kl_4 sl_5
  refine kk_step fun P hP => ?_
  wide_open with (kk_seq, kk_seq)
  wide_open with (kk_seq, p2, p3, p4, p6)
  refine S.wk.meth F ⟨F.Names_symbol.can, wc_sym F S.wk (by decide) fun ct σ1 H1 b1 w1 l1 => ?_⟩
  have S1 := S.sym b1 w1
  refine ⟨by show 2 ≤ lim; decide, fun c hc => ?_⟩
  have x2 := Ext.new (o := .list [.ref ct, .int 1]) hc
  refine ⟨F.list_of1.can, wc_list_of1 F (MH.set_self _ _ _) (by show 2 ≤ lim; decide) fun v1 H3 x3 hv1 _ => ?_⟩
  have S3 := S1.ext (x2.trans x3)
  refine S3.wk.meth F ⟨F.Names_symbol.can, wc_sym F S3.wk (by decide) fun cx σ4 H4 b4 w4 l4 => ?_⟩
  have S4 := S3.sym b4 w4
  have hv4 := hv1.but S3.wk.away b4
  refine ⟨by show 2 ≤ lim; decide, fun t ht => ?_⟩
  have x5 := Ext.new (o := .tuple [v1, .ref cx]) ht
  refine ⟨t, _, rfl, MH.set_self _ _ _, rfl, hP _ _ ?_⟩
  exact q _ _ v1 ct cx _ (S4.ext x5) (lookup_more l1) l4 (hv4.ext x5) (by simp [setAll_cons, setAll_nil, Loc.set, p2]) (by simp [setAll_cons, setAll_nil, Loc.set, p3]) (by simp [setAll_cons, setAll_nil, Loc.set, p4]) (by simp [setAll_cons, setAll_nil, Loc.set, p6]) (by simp [setAll_cons, setAll_nil, Loc.set]) (by simp [setAll_cons, setAll_nil, Loc.set])
end
end N226
end
noncomputable section
open PySem PySem.W PySem.Calls PyProof.Rows
set_option maxRecDepth 10000
namespace N226
section
variable {C : Cx} {n : Nat} {ρ : Loc} {H : MH}
theorem Als.more {σ τ : Syms} {k0 k1 : Int} {s : Addr} {α : Syms} (h : Als H σ k0 k1 s α) : Als H (σ ++ τ) k0 k1 s α := fun p hp => by
  obtain ⟨j, c, e, r⟩ := h p hp
  exact ⟨j, c, lookup_more e, r⟩
theorem Als.but {H' : MH} {σ : Syms} {k0 k1 : Int} {s : Addr} {α : Syms} {X : Addr → Prop} {M : List Addr} (h : Als H σ k0 k1 s α) (hm : Away H X M) (b : But M H H') : Als H' σ k0 k1 s α := fun p hp => by
  obtain ⟨j, c, e, e1, e2, e3⟩ := h p hp
  exact ⟨j, c, e, e1, e2, hm.inst b e3 (by decide)⟩
theorem Als.ext {H' : MH} {σ : Syms} {k0 k1 : Int} {s : Addr} {α : Syms} (h : Als H σ k0 k1 s α) (x : Ext H H') : Als H' σ k0 k1 s α := h.but (X := fun _ => False) (M := []) away_nil x.but
theorem Chain.ref {xs : List V} {x v t : V} (h : Chain H v (x :: xs) t) : ∃ a fs, v = .ref a ∧ H a = some (.inst c_Pair fs) := by
  obtain ⟨a, d, e, e1, _⟩ := h
  exact ⟨a, _, e, e1⟩
set_option tactic.hygienic true in
theorem Shape.pair {X : Addr → Prop} {L : Lf → V → Prop} {v : V} {fs : List Fm} {tl : Lf} (h : Shape H X L (.lst fs tl) v) (hne : fs ≠ []) : ∃ a gs, v = .ref a ∧ H a = some (.inst c_Pair gs) := by
  cases h with
  | lst hc hl h3 h4 =>
    rename_i t vs
    cases vs with
    | nil => exact absurd (List.eq_nil_of_length_eq_zero hl) hne
    | cons w ws => exact hc.ref
theorem Lw.noBi {va vb : V} {α : Syms} (ha : noBi va = true) (hb : noBi vb = true) : ∀ x v, Lw va vb α x v → noBi v = true := fun x v h => by
  cases x with
  | name s =>
    rcases h with ⟨_, rfl⟩ | ⟨_, rfl⟩ | ⟨_, _, c, _, rfl⟩
    · exact ha
    · exact hb
    · rfl
  | int i => obtain rfl : v = .int i := h; rfl
  | fin => obtain rfl : v = .ref a_EMPTY := h; rfl
structure Use (H : MH) (σ : Syms) (s : Addr) (f : Fm) (va vb : V) (k0 k1 : Int) (α : Syms) (v : V) : Prop where
  le : k0 ≤ k1
  als : Als H σ k0 k1 s α
  shape : ∃ X, Shape H X (Lw va vb α) f v
theorem Use.ext {H' : MH} {σ : Syms} {s : Addr} {f : Fm} {va vb : V} {k0 k1 : Int} {α : Syms} {v : V} (h : Use H σ s f va vb k0 k1 α v) (x : Ext H H') : Use H' σ s f va vb k0 k1 α v :=
  ⟨h.le, h.als.ext x, h.shape.imp fun _ e => e.ext x⟩
theorem Use.use {H' : MH} {W : Wd} {σ τ : Syms} {k : Int} {s : Addr} {f : Fm} {va vb : V} {k0 k1 : Int} {α : Syms} {v : V} (h : Use H σ s f va vb k0 k1 α v) (w : Wk H W τ k) (b : But [W.w] H H') : Use H' σ s f va vb k0 k1 α v :=
  ⟨h.le, h.als.but (X := fun _ => False) w.awayw b, h.shape.imp fun _ e => e.but w.awayw b fun _ _ h => h⟩
theorem law_6 (F : Fit C) {W : Wd} {σ : Syms} {s mc ct cx : Addr} {ka kb : Int} {f : Fm} {fv v1 : V} {R : Fl → Loc → MH → Prop} (S : St1 H W σ 0 s mc ka kb f fv) (hk : ka ≠ kb) (ok : Ok 3 f) (lt : σ.lookup s_t = some ct) (lx : σ.lookup s_x = some cx) (hv : Chain H v1 [.ref ct, .int 1] (.ref a_EMPTY))
    (p2 : ρ 2 = some (.ref W.w)) (p3 : ρ 3 = some (.ref s)) (p4 : ρ 4 = some fv) (p6 : ρ 6 = some (.ref mc)) (p7 : ρ 7 = some v1) (p8 : ρ 8 = some (.ref cx))
    (q : ∀ (ρ' : Loc) τ α k1 v2 cm H', St1 H' W τ k1 s mc ka kb f fv → τ.lookup s_t = some ct → τ.lookup s_x = some cx → τ.lookup s_m = some cm → Chain H' v1 [.ref ct, .int 1] (.ref a_EMPTY) → Use H' τ s f v1 (.ref cx) 0 k1 α v2 → ρ' 2 = some (.ref W.w) → ρ' 3 = some (.ref s) → ρ' 4 = some fv → ρ' 6 = some (.ref mc) → ρ' 7 = some v1 → ρ' 8 = some (.ref cx) → ρ' 9 = some v2 → wpK C (n + 16) kl_6 ρ' H' R) : wpK C (n + 16) kl_5 ρ H R := by
  unfold kl_5 sl_6
  refine kk_step fun P hP => ?_
  wide_open with (kk_seq, kk_seq)
  wide_open with (kk_seq, p2, p3, p4, p6, p7, p8)
  refine S.wk.meth F ⟨F.Names_symbol.can, wc_sym F S.wk (by decide) fun cm σ1 H1 b1 w1 l1 => ?_⟩
  have S1 := S.sym b1 w1
  have hv1 := hv.but S.wk.away b1
  refine ⟨by show 3 ≤ lim; decide, fun c hc => ?_⟩
  have x2 := Ext.new (o := .list [.ref cm, v1, .ref cx]) hc
  refine ⟨F.list_of1.can, wc_list_of1 F (MH.set_self _ _ _) (by show 3 ≤ lim; decide) fun fo H3 x3 hfo _ => ?_⟩
  have x := x2.trans x3
  have S3 := S1.ext x
  have hv3 := hv1.ext x
  have ba : noBi v1 = true := by obtain ⟨a, fs, rfl, _⟩ := hv3.ref; rfl
  refine ⟨F.transcribe.can, wc_transcribe F (d := 3) S3.wk S3.base S3.mac hk hfo ba rfl ok fun v α k' H4 b4 w4 _ hk' hal _ _ hsh => hP _ _ ?_⟩
  exact q _ (σ ++ σ1) α k' v cm H4 (S3.use b4 w4) (lookup_more lt) (lookup_more lx) l1 (hv3.but (X := fun _ => False) S3.wk.awayw b4) ⟨hk', hal, _, hsh⟩ (by simp [Loc.set, p2]) (by simp [Loc.set, p3]) (by simp [Loc.set, p4]) (by simp [Loc.set, p6]) (by simp [Loc.set, p7]) (by simp [Loc.set, p8]) (by simp [Loc.set])
structure St3 (H : MH) (W : Wd) (σ : Syms) (s ct cx : Addr) (f : Fm) (fv v1 v2 v3 : V) (k1 k2 : Int) (α β : Syms) : Prop where
  wk : Wk H W σ k2
  base : Base H
  isc : ∃ fs, H s = some (.inst c_Scope fs)
  form : FormIs H f fv
  ok : Ok 3 f
  lst : ∃ fs tl, f = .lst fs tl ∧ fs ≠ []
  lt : σ.lookup s_t = some ct
  lx : σ.lookup s_x = some cx
  one : Chain H v1 [.ref ct, .int 1] (.ref a_EMPTY)
  told : Use H σ s f v1 (.ref cx) 0 k1 α v2
  again : Use H σ s f v2 v1 k1 k2 β v3
theorem St3.ext {H' : MH} {W : Wd} {σ : Syms} {s ct cx : Addr} {f : Fm} {fv v1 v2 v3 : V} {k1 k2 : Int} {α β : Syms} (h : St3 H W σ s ct cx f fv v1 v2 v3 k1 k2 α β) (x : Ext H H') : St3 H' W σ s ct cx f fv v1 v2 v3 k1 k2 α β :=
  ⟨h.wk.ext x, h.base.ext x, h.isc.imp fun _ e => x _ _ e, h.form.ext x, h.ok, h.lst, h.lt, h.lx, h.one.ext x, h.told.ext x, h.again.ext x⟩
structure Ls3 (ρ : Loc) (W : Wd) (s cx : Addr) (fv v1 v2 v3 : V) : Prop where
  p2 : ρ 2 = some (.ref W.w)
  p3 : ρ 3 = some (.ref s)
  p4 : ρ 4 = some fv
  p7 : ρ 7 = some v1
  p8 : ρ 8 = some (.ref cx)
  p9 : ρ 9 = some v2
  p10 : ρ 10 = some v3
theorem Ls3.set {W : Wd} {s cx : Addr} {fv v1 v2 v3 v : V} {i : Nat} (h : Ls3 ρ W s cx fv v1 v2 v3) (hi : 10 < i) : Ls3 (ρ.set i v) W s cx fv v1 v2 v3 := by
  obtain ⟨a, b, c, d, e, f, g⟩ := h
  refine ⟨?_, ?_, ?_, ?_, ?_, ?_, ?_⟩ <;> (rw [Loc.set_at, if_neg (by walk_at "O")]; assumption)
theorem Ls3.all2 {W : Wd} {s cx : Addr} {fv v1 v2 v3 u v : V} {i j : Nat} (h : Ls3 ρ W s cx fv v1 v2 v3) (hi : 10 < i) (hj : 10 < j) : Ls3 (setAll ρ [i, j] [u, v]) W s cx fv v1 v2 v3 := (h.set hi).set hj
theorem law_7 (F : Fit C) {W : Wd} {σ : Syms} {s mc ct cx cm : Addr} {ka kb k1 : Int} {f : Fm} {fv v1 v2 : V} {α : Syms} {R : Fl → Loc → MH → Prop} (S : St1 H W σ k1 s mc ka kb f fv) (hk : ka ≠ kb) (ok : Ok 3 f) (hlst : ∃ fs tl, f = .lst fs tl ∧ fs ≠ []) (lt : σ.lookup s_t = some ct) (lx : σ.lookup s_x = some cx) (lm : σ.lookup s_m = some cm) (hv : Chain H v1 [.ref ct, .int 1] (.ref a_EMPTY)) (U : Use H σ s f v1 (.ref cx) 0 k1 α v2)
    (p2 : ρ 2 = some (.ref W.w)) (p3 : ρ 3 = some (.ref s)) (p4 : ρ 4 = some fv) (p6 : ρ 6 = some (.ref mc)) (p7 : ρ 7 = some v1) (p8 : ρ 8 = some (.ref cx)) (p9 : ρ 9 = some v2)
    (q : ∀ (ρ' : Loc) β k2 v3 H', St3 H' W σ s ct cx f fv v1 v2 v3 k1 k2 α β → Ls3 ρ' W s cx fv v1 v2 v3 → wpK C (n + 16) kl_7 ρ' H' R) : wpK C (n + 16) kl_6 ρ H R := by
  unfold kl_6 sl_7
  refine kk_step fun P hP => ?_
  wide_open with (kk_seq, kk_seq)
  wide_open with (kk_seq, p2, p3, p4, p6, p7, p8, p9)
  refine S.wk.meth F ⟨F.Names_symbol.can, wc_symbol_old F (n := n + 14) S.wk.wld lm ?_⟩
  refine ⟨by show 3 ≤ lim; decide, fun c hc => ?_⟩
  have x2 := Ext.new (o := .list [.ref cm, v2, v1]) hc
  refine ⟨F.list_of1.can, wc_list_of1 F (MH.set_self _ _ _) (by show 3 ≤ lim; decide) fun fo H3 x3 hfo _ => ?_⟩
  have x := x2.trans x3
  have S3 := S.ext x
  have hv3 := hv.ext x
  have U3 := U.ext x
  have b1 : noBi v1 = true := by obtain ⟨a, fs, rfl, _⟩ := hv3.ref; rfl
  have b2 : noBi v2 = true := by
    obtain ⟨X, h⟩ := U.shape
    exact h.noBi (Lw.noBi b1 rfl)
  refine ⟨F.transcribe.can, wc_transcribe F (d := 3) S3.wk S3.base S3.mac hk hfo b2 b1 ok fun v3 β k2 H4 b4 w4 _ hk' hal _ _ hsh => hP _ _ ?_⟩
  have S4 := S3.use b4 w4
  refine q _ β k2 v3 H4 ⟨w4, S4.base, S4.isc, S4.form, ok, hlst, lt, lx, hv3.but (X := fun _ => False) S3.wk.awayw b4, U3.use S3.wk b4, ⟨hk', hal, _, hsh⟩⟩ ⟨?_, ?_, ?_, ?_, ?_, ?_, ?_⟩ <;> simp [Loc.set, p2, p3, p4, p7, p8, p9]
end
end N226
end
noncomputable section
open PySem PySem.W PySem.Calls PyProof.Rows
set_option maxRecDepth 10000
namespace N226
section
variable {C : Cx} {n : Nat} {ρ : Loc} {H : MH}
structure Lvs (H : MH) (f : Fm) (L : Lf → V → Prop) (c : Addr) (ls : LL) : Prop where
  at_ : ∃ ws, H c = some (.list ws) ∧ LLis H ls ws
  lv : ls.map (·.1) = f.lvs
  all : ∀ p ∈ ls, L p.1 p.2
theorem Lvs.ext {H' : MH} {f : Fm} {L : Lf → V → Prop} {c : Addr} {ls : LL} (h : Lvs H f L c ls) (x : Ext H H') : Lvs H' f L c ls := by
  obtain ⟨⟨ws, a, b⟩, h1, h2⟩ := h
  exact ⟨⟨ws, x _ _ a, b.ext x⟩, h1, h2⟩
theorem okA_X {x : Lf} (h : okA x) : okX x := by
  cases x with
  | name s =>
    rcases h with h | h
    · exact ⟨okL_nm h, by rcases h with rfl | rfl | rfl | rfl | rfl <;> decide⟩
    · exact ⟨okT_nm h, by rcases h with rfl | rfl <;> decide⟩
  | int i => trivial
  | fin => trivial
theorem Lvs.okX {f : Fm} {L : Lf → V → Prop} {c : Addr} {ls : LL} (h : Lvs H f L c ls) (ok : Ok 3 f) : ∀ p ∈ ls, okX p.1 ∧ L p.1 p.2 := fun p hp =>
  ⟨okA_X (ok.lvs 3 f _ (by rw [← h.lv]; exact List.mem_map.mpr ⟨p, hp, rfl⟩)), h.all p hp⟩
theorem wc_leaves (F : Fit C) {X : Addr → Prop} {L : Lf → V → Prop} {f : Fm} {v fv : V} {Q : V → MH → Prop} (hnb : ∀ x v, L x v → noBi v = true) (ok : Ok 3 f) (hf : FormIs H f fv) (hs : Shape H X L f v) (q : ∀ c ls H', Ext H H' → Lvs H' f L c ls → Q (.ref c) H') : WC C (n + 4) (.ref f_law_leaves) [fv, v] H Q :=
  leaves_all F hnb 3 (ok.dep 3 f) (by have := ok.lvs_len 3 f; simp [bl] at this; walk_at "O") (.inl hf) hs fun c ws ls H' x _ h1 h2 h3 h4 => q c ls H' x ⟨⟨ws, h1, h2⟩, h3, h4⟩
theorem St3.nb1 {W : Wd} {σ : Syms} {s ct cx : Addr} {f : Fm} {fv v1 v2 v3 : V} {k1 k2 : Int} {α β : Syms} (S : St3 H W σ s ct cx f fv v1 v2 v3 k1 k2 α β) : noBi v1 = true := by
  obtain ⟨a, fs, rfl, _⟩ := S.one.ref; rfl
theorem St3.nb2 {W : Wd} {σ : Syms} {s ct cx : Addr} {f : Fm} {fv v1 v2 v3 : V} {k1 k2 : Int} {α β : Syms} (S : St3 H W σ s ct cx f fv v1 v2 v3 k1 k2 α β) : noBi v2 = true := by
  obtain ⟨X, h⟩ := S.told.shape
  exact h.noBi (Lw.noBi S.nb1 rfl)
theorem law_8 (F : Fit C) {W : Wd} {σ : Syms} {s ct cx : Addr} {f : Fm} {fv v1 v2 v3 : V} {k1 k2 : Int} {α β : Syms} {R : Fl → Loc → MH → Prop} (S : St3 H W σ s ct cx f fv v1 v2 v3 k1 k2 α β) (p : Ls3 ρ W s cx fv v1 v2 v3)
    (q : ∀ (ρ' : Loc) c1 c2 ls1 ls2 H', St3 H' W σ s ct cx f fv v1 v2 v3 k1 k2 α β → Ls3 ρ' W s cx fv v1 v2 v3 → Lvs H' f (Lw v1 (.ref cx) α) c1 ls1 → Lvs H' f (Lw v2 v1 β) c2 ls2 → ρ' 11 = some (.ref c1) → ρ' 12 = some (.ref c2) → wpK C (n + 16) kl_9 ρ' H' R) : wpK C (n + 16) kl_7 ρ H R := by
  unfold kl_7 sl_8
  refine kk_step fun P hP => ?_
  wide_open with (kk_seq, kk_seq)
  wide_open with (kk_seq, p.p4, p.p9, p.p10)
  obtain ⟨X1, h1⟩ := S.told.shape
  refine ⟨F.law_leaves.can, wc_leaves F (Lw.noBi S.nb1 rfl) S.ok S.form h1 fun c1 ls1 H1 x1 l1 => ?_⟩
  have S1 := S.ext x1
  obtain ⟨X2, h2⟩ := S1.again.shape
  refine ⟨F.law_leaves.can, wc_leaves F (Lw.noBi S.nb2 S.nb1) S1.ok S1.form h2 fun c2 ls2 H2 x2 l2 => ?_⟩
  have S2 := S1.ext x2
  refine ⟨by show 2 ≤ lim; decide, fun t ht => ?_⟩
  have x3 := Ext.new (o := .tuple [.ref c1, .ref c2]) ht
  refine ⟨t, _, rfl, MH.set_self _ _ _, rfl, hP _ _ ?_⟩
  clear P hP
  have S3 := S2.ext x3
  have p' : Ls3 (setAll ρ [12, 11] [V.ref c1, V.ref c2].reverse) W s cx fv v1 v2 v3 := p.all2 (by decide) (by decide)
  have l1' := (l1.ext x2).ext x3
  have l2' := l2.ext x3
  have e1 : setAll ρ [12, 11] [V.ref c1, V.ref c2].reverse 11 = some (.ref c1) := rfl
  have e2 : setAll ρ [12, 11] [V.ref c1, V.ref c2].reverse 12 = some (.ref c2) := rfl
  revert p' S3 l1' l2' e1 e2
  generalize setAll ρ [12, 11] [V.ref c1, V.ref c2].reverse = ρ'
  generalize H2.set t (.tuple [.ref c1, .ref c2]) = H3
  intro S3 p' l1' l2' e1 e2
  unfold kl_8 sl_9
  refine kk_step fun P hP => ?_
  wide_open with (kk_seq, kk_seq)
  wide_open with (kk_seq, e1, e2)
  refine is_none_ref ⟨false, rfl, ?_⟩
  wide_open with (kk_seq, e1, e2)
  refine is_none_ref ⟨false, rfl, ?_⟩
  wide_open with (kk_seq, e1, e2)
  refine hP _ _ ?_
  exact q ρ' c1 c2 ls1 ls2 H3 S3 p' l1' l2' e1 e2
structure KF (H : MH) (k0 k1 : Int) (f : Fm) (c : Addr) (es : List (V × V)) : Prop where
  at_ : ∃ ep, H c = some (.dict es ep)
  ent : ∀ e ∈ es, (∃ t, e.1 = .str t) ∧ ∃ j, e.2 = .int (2 * j + 1) ∧ k0 < j ∧ j ≤ k1
  nodup : (es.map (·.1)).Nodup
  some_ : es = [] ↔ ∀ x ∈ f.lvs, ¬ other x
  len : es.length ≤ 8
theorem KF.ext {H' : MH} {k0 k1 : Int} {f : Fm} {c : Addr} {es : List (V × V)} (h : KF H k0 k1 f c es) (x : Ext H H') : KF H' k0 k1 f c es :=
  ⟨h.at_.imp fun _ e => x _ _ e, h.ent, h.nodup, h.some_, h.len⟩
theorem Keys.kf {H H' : MH} {α : Syms} {k0 k1 : Int} {ls : LL} {es : List (V × V)} {f : Fm} {c : Addr} {ep : Nat} (K : Keys H α k0 k1 ls es) (hl : ls.map (·.1) = f.lvs) (h : H' c = some (.dict es ep)) : KF H' k0 k1 f c es := by
  refine ⟨⟨ep, h⟩, fun e he => ?_, K.nodup, ?_, K.len⟩
  · obtain ⟨t, a, j, b, s, e1, _, _, _, e2, e3, e4⟩ := K.ent e he
    exact ⟨⟨t, e1⟩, j, e2, e3, e4⟩
  · rw [K.some_, ← hl]
    constructor
    · intro h x hx
      obtain ⟨p, hp, rfl⟩ := List.mem_map.mp hx
      exact h p hp
    · exact fun h p hp => h p.1 (List.mem_map.mpr ⟨p, hp, rfl⟩)
theorem right_call (F : Fit C) {W : Wd} {σ α : Syms} {k k0 k1 : Int} {s c : Addr} {f : Fm} {va vb : V} {ls : LL} {Q : V → MH → Prop} {kd : Addr} {epk : Nat} (hw : Wk H W σ k) (hb : Base H) (isc : ∃ fs, H s = some (.inst c_Scope fs)) (hl : Lvs H f (Lw va vb α) c ls) (ok : Ok 3 f) (ia : ∃ a Cl fs, va = .ref a ∧ H a = some (.inst Cl fs)) (ib : ∃ a Cl fs, vb = .ref a ∧ H a = some (.inst Cl fs)) (hal : Als H σ k0 k1 s α) (hkd : H kd = some (.dict [(.str s_a, va), (.str s_b, vb)] epk))
    (q : ∀ kc es H', Ext H H' → KF H' k0 k1 f kc es → Q (.ref kc) H') : WC C (n + 5) (.ref f_law_right) [.ref c, .ref kd, .ref W.w, .ref s] H Q := by
  obtain ⟨a, Ca, fa, rfl, ha⟩ := ia
  obtain ⟨b, Cb, fb, rfl, hbb⟩ := ib
  obtain ⟨fs, hs⟩ := isc
  obtain ⟨ws, hc, hls⟩ := hl.at_
  exact wc_law_right F hw hb hc hls hkd (inst_at ha) (inst_at hbb) ⟨_, inst_at hs⟩ hal (hl.okX ok) fun kc es ep H' x _ h K => q kc es H' x (K.kf hl.lv h)
theorem St3.i1 {W : Wd} {σ : Syms} {s ct cx : Addr} {f : Fm} {fv v1 v2 v3 : V} {k1 k2 : Int} {α β : Syms} (S : St3 H W σ s ct cx f fv v1 v2 v3 k1 k2 α β) : ∃ a Cl fs, v1 = .ref a ∧ H a = some (.inst Cl fs) := by
  obtain ⟨a, fs, e, e'⟩ := S.one.ref
  exact ⟨a, _, fs, e, e'⟩
theorem St3.i2 {W : Wd} {σ : Syms} {s ct cx : Addr} {f : Fm} {fv v1 v2 v3 : V} {k1 k2 : Int} {α β : Syms} (S : St3 H W σ s ct cx f fv v1 v2 v3 k1 k2 α β) : ∃ a fs, v2 = .ref a ∧ H a = some (.inst c_Pair fs) := by
  obtain ⟨X, h⟩ := S.told.shape
  obtain ⟨fs, tl, rfl, hne⟩ := S.lst
  exact h.pair hne
theorem St3.ix {W : Wd} {σ : Syms} {s ct cx : Addr} {f : Fm} {fv v1 v2 v3 : V} {k1 k2 : Int} {α β : Syms} (S : St3 H W σ s ct cx f fv v1 v2 v3 k1 k2 α β) : ∃ a Cl fs, V.ref cx = .ref a ∧ H a = some (.inst Cl fs) := by
  obtain ⟨i, _, e, _⟩ := S.wk.sym S.lx
  exact ⟨cx, _, _, rfl, e⟩
theorem law_10 (F : Fit C) {W : Wd} {σ : Syms} {s ct cx c1 c2 : Addr} {f : Fm} {fv v1 v2 v3 : V} {k1 k2 : Int} {α β : Syms} {ls1 ls2 : LL} {R : Fl → Loc → MH → Prop} (S : St3 H W σ s ct cx f fv v1 v2 v3 k1 k2 α β) (p : Ls3 ρ W s cx fv v1 v2 v3) (l1 : Lvs H f (Lw v1 (.ref cx) α) c1 ls1) (l2 : Lvs H f (Lw v2 v1 β) c2 ls2) (p11 : ρ 11 = some (.ref c1)) (p12 : ρ 12 = some (.ref c2))
    (q : ∀ (ρ' : Loc) d1 d2 es1 es2 H', St3 H' W σ s ct cx f fv v1 v2 v3 k1 k2 α β → Ls3 ρ' W s cx fv v1 v2 v3 → KF H' 0 k1 f d1 es1 → KF H' k1 k2 f d2 es2 → ρ' 13 = some (.ref d1) → ρ' 14 = some (.ref d2) → wpK C (n + 16) kl_11 ρ' H' R) : wpK C (n + 16) kl_9 ρ H R := by
  unfold kl_9 sl_10
  refine kk_step fun P hP => ?_
  wide_open with (kk_seq, kk_seq)
  wide_open with (kk_seq, p.p2, p.p3, p.p7, p.p8, p11)
  refine ⟨rfl, fun kd ep hkd => ?_⟩
  have x1 := Ext.new (o := .dict (madeOf [(.str s_a, v1), (.str s_b, .ref cx)]) ep) hkd
  have S1 := S.ext x1
  refine ⟨F.law_right.can, right_call F S1.wk S1.base S1.isc (l1.ext x1) S.ok S1.i1 S1.ix S1.told.als (MH.set_self _ _ _) fun d1 es1 H2 x2 kf1 => hP _ _ ?_⟩
  clear P hP
  have S2 := S1.ext x2
  have l2' := (l2.ext x1).ext x2
  have p' := p.set (i := 13) (v := .ref d1) (by decide)
  have q12 : (ρ.set 13 (.ref d1)) 12 = some (.ref c2) := p12
  have q13 : (ρ.set 13 (.ref d1)) 13 = some (.ref d1) := rfl
  revert p' q12 q13
  generalize ρ.set 13 (.ref d1) = ρ1
  intro p' q12 q13
  unfold kl_10 sl_11
  refine kk_step fun P hP => ?_
  wide_open with (kk_seq, kk_seq)
  wide_open with (kk_seq, p'.p2, p'.p3, p'.p7, p'.p9, q12)
  refine ⟨rfl, fun kd' ep' hkd' => ?_⟩
  have x3 := Ext.new (o := .dict (madeOf [(.str s_a, v2), (.str s_b, v1)]) ep') hkd'
  have S3 := S2.ext x3
  obtain ⟨a2, fs2, e2, h2⟩ := S3.i2
  refine ⟨F.law_right.can, right_call F S3.wk S3.base S3.isc (l2'.ext x3) S.ok ⟨a2, _, _, e2, h2⟩ S3.i1 S3.again.als (MH.set_self _ _ _) fun d2 es2 H4 x4 kf2 => hP _ _ ?_⟩
  have S4 := S3.ext x4
  exact q _ d1 d2 es1 es2 H4 S4 (p'.set (by decide)) ((kf1.ext x3).ext x4) kf2 (by simp [Loc.set, q13]) (by simp [Loc.set])
end
end N226
end
noncomputable section
open PySem PySem.W PySem.Calls PyProof.Rows
set_option maxRecDepth 10000
namespace N226
section
variable {C : Cx} {n : Nat} {ρ : Loc} {H : MH}
theorem atKey_at {es : List (V × V)} (h : (es.map (·.1)).Nodup) {e : V × V} (he : e ∈ es) : atKeyV es e.1 = some e.2 := by
  unfold atKeyV
  induction es with
  | nil => cases he
  | cons x es ih =>
    rw [List.map_cons, List.nodup_cons] at h
    rcases List.mem_cons.mp he with rfl | he
    · simp
    · have : x.1 ≠ e.1 := fun q => h.1 (by rw [q]; exact List.mem_map.mpr ⟨e, he, rfl⟩)
      rw [List.find?_cons]
      simp only [this, decide_false]
      exact ih h.2 he
theorem in_view {x d : Addr} {es : List (V × V)} {ep : Nat} {k : V} {Q : Bool → Prop} (h : H x = some (.view d)) (h' : H d = some (.dict es ep)) (hk : isKey k = true) (ha : (es.map (·.2)).all isKey = true) (q : Q ((es.map (·.2)).any fun v => decide (v = k))) : inW (.ref x) k H Q := by
  exact .inr (.inr (.inl ⟨x, d, es, ep, rfl, h, h', hk, ha, q⟩))
theorem keys_comp (F : Fit C) {k0 k1 k2 : Int} {f : Fm} {d1 d2 : Addr} {es1 es2 : List (V × V)} {ep : Nat} {Q : List V → MH → Prop} {H0 : MH} (K1 : KF H0 k0 k1 f d1 es1) (K2 : KF H0 k1 k2 f d2 es2) (h1 : H0 d1 = some (.dict es1 ep)) (p13 : ρ 13 = some (.ref d1)) (p14 : ρ 14 = some (.ref d2)) :
    ∀ (m i : Nat) (H : MH), i + m = es1.length → Ext H0 H → (∀ H', Ext H0 H' → Q [] H') →
      CP C n (.int 1) (.tin (.sub (.var 14) (.var 0)) (.meth (.var 15) n_values .nil)) ρ Q (.keys d1 i es1.length ep) [] H := by
  intro m
  induction m with
  | zero =>
    intro i H hi x q
    refine CP.done (by simp only [Src.item, x _ _ h1]; rw [List.getElem?_eq_none (by walk_at "O")]; simp) ?_
    exact q H x
  | succ m ih =>
    intro i H hi x q
    have h1i : i < es1.length := by walk_at "O"
    refine CP.item (v := es1[i].1) (by simp only [Src.item, x _ _ h1]; rw [List.getElem?_eq_getElem h1i]; simp) ?_
    wide_open with (kk_seq, p13, p14)
    have hmem := List.getElem_mem h1i
    obtain ⟨⟨t, et⟩, j, ej, j0, j1⟩ := K1.ent _ hmem
    refine sub_dict (x _ _ h1) (by rw [et]; rfl) (atKey_at K1.nodup hmem) ?_
    obtain ⟨ep2, h2⟩ := K2.at_
    refine fun name hi => WMeth_values hi rfl (x _ _ h2) ⟨Callable_bi, WC_values (x _ _ h2) fun c hc => ?_⟩
    have x2 := Ext.new (o := .view d2) hc
    refine in_view (MH.set_self _ _ _) ((x.trans x2) _ _ h2) (by rw [ej]; rfl) ?_ ?_
    · rw [List.all_eq_true]
      intro v hv
      obtain ⟨e, he, rfl⟩ := List.mem_map.mp hv
      obtain ⟨_, j', e', _⟩ := K2.ent e he
      rw [e']; rfl
    · have hno : ((es2.map (·.2)).any fun v => decide (v = es1[i].2)) = false := by
        rw [List.any_eq_false]
        intro v hv
        obtain ⟨e, he, rfl⟩ := List.mem_map.mp hv
        obtain ⟨_, j', e', g0, g1⟩ := K2.ent e he
        rw [e', ej]
        simp only [V.int.injEq, decide_eq_true_eq]
        walk_at "O"
      rw [hno]
      wide_open with (kk_seq, kk_seq)
      have e : (Src.keys d1 i es1.length ep).next = .keys d1 (i + 1) es1.length ep := rfl
      rw [e]
      exact ih (i + 1) _ (by walk_at "O") (x.trans x2) q
theorem law_12 (F : Fit C) {W : Wd} {σ : Syms} {s ct cx d1 d2 : Addr} {f : Fm} {fv v1 v2 v3 : V} {k1 k2 : Int} {α β : Syms} {es1 es2 : List (V × V)} {R : Fl → Loc → MH → Prop} (S : St3 H W σ s ct cx f fv v1 v2 v3 k1 k2 α β) (K1 : KF H 0 k1 f d1 es1) (K2 : KF H k1 k2 f d2 es2) (p13 : ρ 13 = some (.ref d1)) (p14 : ρ 14 = some (.ref d2))
    (q : ∀ H', Ext H H' → wpK C (n + 16) kl_12 ρ H' R) : wpK C (n + 16) kl_11 ρ H R := by
  unfold kl_11 sl_12
  refine kk_step fun P hP => ?_
  wide_open with (kk_seq, kk_seq)
  wide_open with (kk_seq, p13, p14)
  refine is_none_ref ⟨false, rfl, ?_⟩
  wide_open with (kk_seq, p13, p14)
  refine is_none_ref ⟨false, rfl, ?_⟩
  wide_open with (kk_seq, p13, p14)
  obtain ⟨ep, h1⟩ := K1.at_
  refine ⟨.keys d1 0 es1.length ep, by unfold iterOf; simp only [h1], ?_⟩
  refine keys_comp F K1 K2 h1 p13 p14 es1.length 0 H (by walk_at "O") Ext.refl fun H1 x1 c hc => ?_
  have x2 := Ext.new (o := .list []) hc
  refine ⟨trivial, fun c' hc' => ?_⟩
  have x3 := Ext.new (o := .list []) hc'
  refine cmp_ne_list (x3 _ _ (MH.set_self _ _ _)) (MH.set_self _ _ _) rfl rfl ⟨false, rfl, ?_⟩
  wide_open with (kk_seq, p13, p14)
  exact hP _ _ (q _ ((x1.trans x2).trans x3))
end
end N226
end
noncomputable section
open PySem PySem.W PySem.Calls PyProof.Rows
set_option maxRecDepth 10000
namespace N226
section
variable {C : Cx} {n : Nat} {ρ : Loc} {H : MH} {W : Wd} {σ : Syms} {s ct cx : Addr} {f : Fm} {fv v1 v2 v3 : V} {k1 k2 : Int} {α β : Syms}
theorem St3.hone (S : St3 H W σ s ct cx f fv v1 v2 v3 k1 k2 α β) : Hd H oneD v1 := by
  obtain ⟨i, _, e, _⟩ := S.wk.sym S.lt
  refine .lst (by simp) rfl S.one rfl (fun i d w e1 e2 => ?_) .emp
  match i with
  | 0 => simp at e1 e2; subst e1 e2; exact .sym e
  | 1 => simp at e1 e2; subst e1 e2; exact .int (.inl rfl)
  | i + 2 => simp at e1
theorem St3.hx (S : St3 H W σ s ct cx f fv v1 v2 v3 k1 k2 α β) : Hd H (.sym s_x) (.ref cx) := by
  obtain ⟨i, _, e, _⟩ := S.wk.sym S.lx
  exact .sym e
theorem St3.htold (S : St3 H W σ s ct cx f fv v1 v2 v3 k1 k2 α β) : Hd H (toldD f) v2 := by
  obtain ⟨X, h⟩ := S.told.shape
  have := shape_hd S.wk S.told.als S.hone S.hx 3 f v2 S.ok h
  rw [toD_toG] at this
  exact this
theorem St3.hagain (S : St3 H W σ s ct cx f fv v1 v2 v3 k1 k2 α β) : Hd H (againD f) v3 := by
  obtain ⟨X, h⟩ := S.again.shape
  have := shape_hd S.wk S.again.als S.htold S.hone 3 f v3 S.ok h
  rw [toD_toG] at this
  exact this
theorem joinD_lst (xs : List Dt) (t : Dt) : (joinD xs t).isLst = true := by cases t <;> rfl
theorem St3.tl (S : St3 H W σ s ct cx f fv v1 v2 v3 k1 k2 α β) : (toldD f).isLst = true := by
  obtain ⟨fs, tl, rfl, _⟩ := S.lst
  simp only [toldD, toG]
  exact joinD_lst _ _
theorem KF.al {k0 k1 : Int} {c : Addr} {es : List (V × V)} (K : KF H k0 k1 f c es) : (toldD f).hasAl = decide (es ≠ []) := by
  rw [Bool.eq_iff_iff, told_al, decide_eq_true_eq]
  constructor
  · rintro ⟨x, hx, t, rfl, h1, h2⟩ e
    exact K.some_.mp e _ hx ⟨h1, h2⟩
  · intro h
    refine Classical.byContradiction fun hno => h (K.some_.mpr fun x hx ho => hno ⟨x, hx, ?_⟩)
    cases x with
    | name t => exact ⟨t, rfl, ho.1, ho.2⟩
    | int i => exact ho.elim
    | fin => exact ho.elim
theorem ne_bool {x y : Bool} {Q : V → MH → Prop} (q : Q (.bool (decide (x ≠ y))) H) : cmpW .NotEq (.bool x) (.bool y) H Q := q
theorem ne_dict0 {x y : Addr} {es : List (V × V)} {ep ep' : Nat} {Q : V → MH → Prop} (h : H x = some (.dict es ep)) (h' : H y = some (.dict [] ep')) (q : Q (.bool (decide (es ≠ []))) H) : cmpW .NotEq (.ref x) (.ref y) H Q := .inr ⟨es, ep, ep', h, h', q⟩
theorem eq_dict0 {x y : Addr} {es : List (V × V)} {ep ep' : Nat} {Q : V → MH → Prop} (h : H x = some (.dict es ep)) (h' : H y = some (.dict [] ep')) (q : Q (.bool (decide (es = []))) H) : cmpW .Eq (.ref x) (.ref y) H Q := .inr ⟨es, ep, ep', h, h', q⟩
theorem law_13 (F : Fit C) {d1 : Addr} {es1 : List (V × V)} {R : Fl → Loc → MH → Prop} (S : St3 H W σ s ct cx f fv v1 v2 v3 k1 k2 α β) (K1 : KF H 0 k1 f d1 es1) (p9 : ρ 9 = some v2) (p13 : ρ 13 = some (.ref d1))
    (q : ∀ H', Ext H H' → wpK C (n + 16) kl_13 ρ H' R) : wpK C (n + 16) kl_12 ρ H R := by
  unfold kl_12 sl_13
  refine kk_step fun P hP => ?_
  wide_open with (kk_seq, kk_seq)
  wide_open with (kk_seq, p9, p13)
  have hsz := (told_bd S.ok).1
  refine ⟨F.has_alias.can, wc_has_alias F (n := n + 13) S.base S.htold (by show _ ≤ 1000000; walk_at "O") fun H1 x1 => ?_⟩
  intro c hc
  have x2 := Ext.new (o := .dict [] 0) hc
  obtain ⟨ep, hd1⟩ := K1.at_
  refine ne_dict0 ((x1.trans x2) _ _ hd1) (MH.set_self _ _ _) ?_
  rw [K1.al]
  refine ne_bool ⟨false, by simp, ?_⟩
  wide_open with (kk_seq, p9, p13)
  have x12 := x1.trans x2
  have S2 := S.ext x12
  have fin : ∀ (b : Bool) (H3 : MH), Ext (H1.set c (.dict [] 0)) H3 → b = decide (es1 = []) → ∀ c' , H3 c' = none → cmpW .Eq (.ref d1) (.ref c') (H3.set c' (.dict [] 0)) fun b' H4 => cmpW .NotEq (.bool b) b' H4 fun v H5 => ∃ b, v = .bool b ∧ bif b then R (.ret (.bool false)) ρ H5 else P ρ H5 := by
    intro b H3 x3 eb c' hc'
    have x4 := Ext.new (o := .dict [] 0) hc'
    refine eq_dict0 (((x12.trans x3).trans x4) _ _ hd1) (MH.set_self _ _ _) ?_
    rw [eb]
    refine ne_bool ⟨false, by simp, ?_⟩
    exact hP _ _ (q _ ((x12.trans x3).trans x4))
  obtain ⟨a2, fs2, e2, h2⟩ := S2.i2
  refine ⟨F.plain.can, wc_plain F (n := n + 11) S2.base S2.htold (by walk_at "O") (fun ha H3 x3 => ?_) (fun ha v' H3 x3 hf => ?_)⟩
  · rw [K1.al] at ha
    rw [e2]
    refine cmp_is (isW_ref ⟨_, inst_at (x3 _ _ h2)⟩ ⟨_, inst_at (x3 _ _ h2)⟩) ?_
    refine fin _ H3 x3 ?_
    simp at ha; simp [ha]
  · rw [K1.al] at ha
    obtain ⟨a, rfl, h0, Cl, fs, hi⟩ := hf S.tl
    rw [e2]
    refine cmp_is (isW_ref ⟨_, inst_at hi⟩ ⟨_, inst_at (x3 _ _ h2)⟩) ?_
    refine fin _ H3 x3 ?_
    have hne : a ≠ a2 := (ne_new h2 h0).symm
    simp at ha; simp [ha, hne]
end
end N226
end
noncomputable section
open PySem PySem.W PySem.Calls PyProof.Rows
set_option maxRecDepth 10000
namespace N226
section
variable {C : Cx} {n : Nat} {ρ : Loc} {H : MH} {W : Wd} {σ : Syms} {s ct cx : Addr} {f : Fm} {fv v1 v2 v3 : V} {k1 k2 : Int} {α β : Syms}
theorem txt_of (F : Fit C) {d : Dt} {v : V} {Q : V → MH → Prop} (hb : Base H) (h : Hd H d v) (hd : d.dep ≤ 7) (hw : d.wt ≤ 400000) (hs : d.sz ≤ 400000) (q : ∀ H', Ext H H' → Q (.str d.txt) H') : WC C (n + 16) (.ref f_law_text) [v] H Q :=
  text_all F (n := n + 6) 7 hb h hd hw hs q
theorem told_txt (F : Fit C) {Q : V → MH → Prop} (S : St3 H W σ s ct cx f fv v1 v2 v3 k1 k2 α β) (q : ∀ H', Ext H H' → Q (.str (toldD f).txt) H') : WC C (n + 16) (.ref f_law_text) [v2] H Q := by
  have := told_bd S.ok
  exact txt_of F S.base S.htold (by walk_at "O") (by walk_at "O") (by walk_at "O") q
theorem again_txt (F : Fit C) {Q : V → MH → Prop} (S : St3 H W σ s ct cx f fv v1 v2 v3 k1 k2 α β) (q : ∀ H', Ext H H' → Q (.str (againD f).txt) H') : WC C (n + 16) (.ref f_law_text) [v3] H Q := by
  have := again_bd S.ok
  exact txt_of F S.base S.hagain (by walk_at "O") (by walk_at "O") (by walk_at "O") q
noncomputable abbrev txtsD : List (V × V) := [(.str s_a, .str oneD.txt), (.str s_b, .str s_x), (.str s_end, .str s_unit)]
theorem made_txts (z : Str) : madeOf [(.str s_a, .str z), (.str s_b, .str s_x), (.str s_end, .str s_unit)] = [(.str s_a, .str z), (.str s_b, .str s_x), (.str s_end, .str s_unit)] := rfl
theorem law_14 (F : Fit C) {R : Fl → Loc → MH → Prop} (S : St3 H W σ s ct cx f fv v1 v2 v3 k1 k2 α β) (p : Ls3 ρ W s cx fv v1 v2 v3)
    (q : ∀ (ρ' : Loc) be td ep H', St3 H' W σ s ct cx f fv v1 v2 v3 k1 k2 α β → Ls3 ρ' W s cx fv v1 v2 v3 → H' be = some (.list [.str (toldD f).txt, .str (againD f).txt]) → H' td = some (.dict txtsD ep) → ρ' 16 = some (.ref be) → ρ' 17 = some (.ref td) → wpK C (n + 16) kl_14 ρ' H' R) : wpK C (n + 16) kl_13 ρ H R := by
  unfold kl_13 sl_14
  refine kk_step fun P hP => ?_
  wide_open with (kk_seq, kk_seq)
  wide_open with (kk_seq, p.p9, p.p10, p.p7)
  refine ⟨F.law_text.can, told_txt F S fun H1 x1 => ?_⟩
  have S1 := S.ext x1
  refine ⟨F.law_text.can, again_txt F S1 fun H2 x2 => ?_⟩
  have S2 := S1.ext x2
  refine ⟨by show 2 ≤ lim; decide, fun be hbe => ?_⟩
  have x3 := Ext.new (o := .list [.str (toldD f).txt, .str (againD f).txt]) hbe
  have S3 := S2.ext x3
  refine ⟨F.law_text.can, txt_of F S3.base S3.hone (by decide) (by decide) (by decide) fun H4 x4 => ?_⟩
  have S4 := S3.ext x4
  refine ⟨rfl, fun td ep htd => ?_⟩
  have x5 := Ext.new (o := .dict (madeOf [(.str s_a, .str oneD.txt), (.str s_b, .str s_x), (.str s_end, .str s_unit)]) ep) htd
  refine ⟨by show 2 ≤ lim; decide, fun t ht => ?_⟩
  have x6 := Ext.new (o := .tuple [.ref be, .ref td]) ht
  refine ⟨t, _, rfl, MH.set_self _ _ _, rfl, hP _ _ ?_⟩
  have x56 := x5.trans x6
  have hm : madeOf [(.str s_a, .str oneD.txt), (.str s_b, .str s_x), (.str s_end, .str s_unit)] = txtsD := made_txts _
  refine q _ be td ep _ (S4.ext x56) (p.all2 (by decide) (by decide)) (x56 _ _ (x4 _ _ (MH.set_self _ _ _))) ?_ rfl rfl
  rw [← hm]
  exact x6 _ _ (MH.set_self _ _ _)
noncomputable abbrev sleafD : Lf → Dt := fun x => strp (leafD oneD (.sym s_x) x)
theorem sleaf_lst : ∀ (x : Lf) ys u, sleafD x = .lst ys u → ys ≠ [] ∧ u.isLst = false := by
  intro x ys u e
  cases x with
  | name s =>
    simp only [sleafD, leafD] at e
    split at e
    · simp only [strp, strpL] at e
      injection e with e1 e2
      subst e1 e2
      exact ⟨by simp, rfl⟩
    · split at e <;> cases e
  | int i => cases e
  | fin => cases e
theorem law_15 (F : Fit C) {be td : Addr} {ep : Nat} {R : Fl → Loc → MH → Prop} (S : St3 H W σ s ct cx f fv v1 v2 v3 k1 k2 α β) (p : Ls3 ρ W s cx fv v1 v2 v3) (hbe : H be = some (.list [.str (toldD f).txt, .str (againD f).txt])) (htd : H td = some (.dict txtsD ep)) (p16 : ρ 16 = some (.ref be)) (p17 : ρ 17 = some (.ref td))
    (q : ∀ (ρ' : Loc) c ls H', St3 H' W σ s ct cx f fv v1 v2 v3 k1 k2 α β → Ls3 ρ' W s cx fv v1 v2 v3 → H' be = some (.list [.str (toldD f).txt, .str (againD f).txt]) → H' td = some (.dict txtsD ep) → Lvs H' f (fun x w => Hd H' (sleafD x) w) c ls → ρ' 16 = some (.ref be) → ρ' 17 = some (.ref td) → ρ' 18 = some (.ref c) → wpK C (n + 16) kl_16 ρ' H' R) : wpK C (n + 16) kl_14 ρ H R := by
  unfold kl_14 sl_15
  refine kk_step fun P hP => ?_
  wide_open with (kk_seq, kk_seq)
  wide_open with (kk_seq, p.p9, p.p4)
  have b1 := told_bd S.ok
  refine ⟨F.strip.can, wc_strip F S.base S.htold (by walk_at "O") fun v' H1 x1 h1 _ => ?_⟩
  have S1 := S.ext x1
  rw [strp_toG] at h1
  have hsh := hd_shape (l := sleafD) sleaf_lst f v' (fun _ _ => trivial) h1
  refine ⟨F.law_leaves.can, wc_leaves F (n := n + 12) (fun x v h => h.noBi) S1.ok S1.form hsh fun c ls H2 x2 l2 => hP _ _ ?_⟩
  clear P hP
  have S2 := S1.ext x2
  have x12 := x1.trans x2
  have l2' : Lvs H2 f (fun x w => Hd H2 (sleafD x) w) c ls := ⟨l2.at_, l2.lv, fun p hp => (l2.all p hp).ext x2⟩
  have p' := p.set (i := 18) (v := .ref c) (by decide)
  have q16 : (ρ.set 18 (.ref c)) 16 = some (.ref be) := p16
  have q17 : (ρ.set 18 (.ref c)) 17 = some (.ref td) := p17
  have q18 : (ρ.set 18 (.ref c)) 18 = some (.ref c) := rfl
  revert p' q16 q17 q18
  generalize ρ.set 18 (.ref c) = ρ1
  intro p' q16 q17 q18
  unfold kl_15 sl_16
  refine kk_step fun P hP => ?_
  wide_open with (kk_seq, kk_seq)
  wide_open with (kk_seq, q18, p'.p10)
  refine is_none_ref ⟨false, rfl, ?_⟩
  wide_open with (kk_seq, q18, p'.p10)
  have b2 := again_bd S.ok
  have b3 := sagain_bd S.ok
  refine ⟨F.strip.can, wc_strip F S2.base S2.hagain (by walk_at "O") fun v3' H3 x3 h3 _ => ?_⟩
  have S3 := S2.ext x3
  refine ⟨F.law_text.can, txt_of F S3.base h3 (by walk_at "O") (by walk_at "O") (by walk_at "O") fun H4 x4 => ?_⟩
  refine what_in (sagain_noQ S.ok) ?_
  wide_open with (kk_seq, q18, p'.p10)
  have x34 := x3.trans x4
  exact hP _ _ (q ρ1 c ls H4 (S3.ext x4) p' ((x12.trans x34) _ _ hbe) ((x12.trans x34) _ _ htd) ⟨(l2'.ext x34).at_, l2'.lv, fun p hp => (l2'.all p hp).ext x34⟩ q16 q17 q18)
end
end N226
end
noncomputable section
open PySem PySem.W PySem.Calls PyProof.Rows
set_option maxRecDepth 10000
namespace N226
section
variable {C : Cx} {n : Nat} {ρ : Loc} {H : MH} {W : Wd} {σ : Syms} {s ct cx : Addr} {f : Fm} {fv v1 v2 v3 : V} {k1 k2 : Int} {α β : Syms}
noncomputable abbrev lastBody : K :=
    (.seq (.ifs (.tcmp .NotEq (.call (.con (.ref f_law_text)) (.cons (.var 19) .nil)) (.meth (.var 17) n_get (.cons (.var 15) (.cons (.call (.con (.ty "str")) (.cons (.var 15) .nil)) .nil))))
      (.seq (.ret (.bool false)) .nil)
      .nil) .nil)
theorem last_turn (F : Fit C) {td : Addr} {ep : Nat} {x : Lf} {w : V} {R : Fl → Loc → MH → Prop} (hb : Base H) (hx : okA x) (hw : Hd H (sleafD x) w) (htd : H td = some (.dict txtsD ep)) (p15 : ρ 15 = some (lnV x)) (p17 : ρ 17 = some (.ref td)) (p19 : ρ 19 = some w)
    (q : ∀ H', Ext H H' → R .next ρ H') : wpK C (n + 16) lastBody ρ H R := by
  simp (decide := true) only [lastBody, ee_none, ee_bool, ee_int, ee_str, ee_var, ee_con, ee_bin, ee_neg, ee_cmp, ee_andv, ee_orv, ee_ite, ee_attr, ee_call, ee_lzip, ee_meth, ee_sub, ee_slice, ee_tuple, ee_list, ee_dict0, ee_dict, ee_comp, el_nil, el_cons, ed_nil, ed_kv, et_val, et_no, et_and, et_or, et_true, et_false, et_ite, et_cmp, et_in, et_notin, kk_pass, kk_expr, kk_set, kk_setA, kk_setI, kk_unpack, kk_swap, kk_if, kk_while, kk_for, kk_ret, kk_ret0, kk_nil, kk_seq, q_next, q_ret, r_next, r_ret, l_next, l_ret, a_one, a_many, in_zero, in_succ, partW, setAll_cons, setAll_nil, argLoc, Loc.set, List.map_nil, List.map_cons, List.nil_append, List.cons_append, List.append_nil, List.getElem?_cons_zero, List.getElem?_cons_succ, Option.some.injEq, exists_eq_left', Bool.false_eq_true, if_true, if_false, reduceIte, V.bool.injEq, V.int.injEq, V.str.injEq, V.ref.injEq, Bool.not_true, Bool.not_false, reduceCtorEq, onV_some, cond_true, cond_false, Nat.reduceBEq, decide_true, decide_false, p15, p17, p19]
  have hbd : (sleafD x).sz ≤ 10 ∧ (sleafD x).wt ≤ 27 ∧ (sleafD x).dep ≤ 1 := sleaf_bd (da := oneD) (db := .sym s_x) (Nat.le_refl 10) (Nat.le_refl 27) (Nat.le_refl 1) (by decide) (by decide) x hx
  refine ⟨F.law_text.can, txt_of F hb hw (by walk_at "O") (by walk_at "O") (by walk_at "O") fun H1 x1 => ?_⟩
  rw [show (sleafD x).txt = stx x from stold_txt x]
  have htd1 := x1 _ _ htd
  refine bi_dict htd1 ?_
  have fin : ∀ (k d : V), isKey k = true → (atKeyV txtsD k).getD d = .str (stx x) → Callable C (.bi "dict.get") ∧ WC C (n + 16) (.bi "dict.get") [.ref td, k, d] H1 fun b H2 => cmpW .NotEq (.str (stx x)) b H2 fun c H3 => ∃ b, c = .bool b ∧ bif b then R (.ret (.bool false)) ρ H3 else R .next ρ H3 := by
    intro k d hk e
    refine ⟨Callable_bi, WC_get2 htd1 hk ?_⟩
    rw [e]
    refine cmp_ne_str ⟨false, by simp, ?_⟩
    skip
    exact q H1 x1
  cases x with
  | name t =>
    refine ⟨Callable_ty, WC_str_str ?_⟩
    have hX := okA_X hx
    refine fin _ _ rfl ?_
    rw [atKey_cons, atKey_cons, atKey_cons, atKey_nil]
    simp only [lnV, V.str.injEq, stx]
    by_cases h1 : t = s_a
    · subst h1; simp
    · by_cases h2 : t = s_b
      · subst h2; simp [show s_a ≠ s_b by decide, show s_b ≠ s_a by decide]
      · simp [Ne.symm h1, Ne.symm h2, h1, h2, Ne.symm hX.2]
  | int i =>
    have hi : i = 5 := by
      rcases hx with h | h
      · exact h
      · exact h.elim
    subst hi
    refine ⟨Callable_ty, WC_str_int (by decide) ?_⟩
    refine fin _ _ rfl ?_
    rw [atKey_cons, atKey_cons, atKey_cons, atKey_nil]
    simp [lnV, stx]
  | fin =>
    refine ⟨Callable_ty, WC_str_str ?_⟩
    refine fin _ _ rfl ?_
    rw [atKey_cons, atKey_cons, atKey_cons, atKey_nil]
    have a1 : s_a ≠ s_end := by decide
    have a2 : s_b ≠ s_end := by decide
    simp [lnV, stx, a1, a2]
theorem last_loop (F : Fit C) {ρ0 : Loc} {td c : Addr} {ep : Nat} {ls : LL} {ws : List V} {R : Fl → Loc → MH → Prop} {H0 : MH} (hb : Base H0) (hc : H0 c = some (.list ws)) (hls : LLis H0 ls ws) (hall : ∀ p ∈ ls, okA p.1 ∧ Hd H0 (sleafD p.1) p.2) (htd : H0 td = some (.dict txtsD ep)) :
    ∀ (m i : Nat) (H : MH) (ρ : Loc), i + m = ls.length → Ext H0 H → ρ 17 = some (.ref td) → (∀ j, j ≠ 15 → j ≠ 19 → ρ j = ρ0 j) →
      (∀ (ρ' : Loc) H', Ext H0 H' → (∀ j, j ≠ 15 → j ≠ 19 → ρ' j = ρ0 j) → R .next ρ' H') →
      FR C (n + 16) (.many [15, 19]) lastBody R (.lst c i) ρ H := by
  intro m
  have hlen := hls.len
  induction m with
  | zero =>
    intro i H ρ hi x p17 hρ q
    refine FR.done (by simp only [Src.item, x _ _ hc]; rw [List.getElem?_eq_none (by walk_at "O")]) ?_
    exact q ρ H x hρ
  | succ m ih =>
    intro i H ρ hi x p17 hρ q
    have h1i : i < ls.length := by walk_at "O"
    have h2i : i < ws.length := by walk_at "O"
    obtain ⟨t, et, ht⟩ := hls.at_ i _ _ (List.getElem?_eq_getElem h1i) (List.getElem?_eq_getElem h2i)
    obtain ⟨hx, hw⟩ := hall _ (List.getElem_mem h1i)
    refine FR.item (v := .ref t) (by simp only [Src.item, x _ _ hc]; rw [List.getElem?_eq_getElem h2i, et]) ?_
    rw [a_many]
    refine ⟨t, _, rfl, x _ _ ht, rfl, ?_⟩
    refine last_turn F (hb.ext x) hx (hw.ext x) (x _ _ htd) rfl ?_ rfl fun H' x' => ?_
    · exact p17
    · rw [l_next]
      have e : (Src.lst c i).next = .lst c (i + 1) := rfl
      rw [e]
      refine ih (i + 1) H' _ (by walk_at "O") (x.trans x') p17 (fun j h1 h2 => ?_) q
      rw [← hρ j h1 h2]
      simp [setAll_cons, setAll_nil, Loc.set_at, h1, h2]
theorem law_17 (F : Fit C) {be td c : Addr} {ep : Nat} {ls : LL} {Q : V → MH → Prop} (S : St3 H W σ s ct cx f fv v1 v2 v3 k1 k2 α β) (p : Ls3 ρ W s cx fv v1 v2 v3) (hbe : H be = some (.list [.str (toldD f).txt, .str (againD f).txt])) (htd : H td = some (.dict txtsD ep)) (l : Lvs H f (fun x w => Hd H (sleafD x) w) c ls) (p16 : ρ 16 = some (.ref be)) (p17 : ρ 17 = some (.ref td)) (p18 : ρ 18 = some (.ref c))
    (q : ∀ H', Q (.bool true) H') : wpK C (n + 16) kl_16 ρ H (retQ Q) := by
  unfold kl_16 sl_17
  refine kk_step fun P hP => ?_
  wide_open with (kk_seq, kk_seq)
  wide_open with (kk_seq, p18)
  obtain ⟨ws, hc, hls⟩ := l.at_
  refine ⟨_, iter_list hc, ?_⟩
  refine last_loop (ρ0 := ρ) F S.base hc hls (fun p hp => ⟨S.ok.lvs 3 f _ (by rw [← l.lv]; exact List.mem_map.mpr ⟨p, hp, rfl⟩), l.all p hp⟩) htd ls.length 0 H ρ (by walk_at "O") Ext.refl p17 (fun _ _ _ => rfl) fun ρ' H1 x1 hρ => ?_
  refine hP _ _ ?_
  clear P hP
  have S1 := S.ext x1
  have q9 : ρ' 9 = some v2 := (hρ 9 (by decide) (by decide)).trans p.p9
  have q10 : ρ' 10 = some v3 := (hρ 10 (by decide) (by decide)).trans p.p10
  have q16 : ρ' 16 = some (.ref be) := (hρ 16 (by decide) (by decide)).trans p16
  unfold kl_17 sl_18 kl_18
  wide_open with (kk_seq, q9, q10, q16)
  refine ⟨F.law_text.can, told_txt F S1 fun H2 x2 => ?_⟩
  have S2 := S1.ext x2
  refine ⟨F.law_text.can, again_txt F S2 fun H3 x3 => ?_⟩
  refine ⟨by show 2 ≤ lim; decide, fun e he => ?_⟩
  have x4 := Ext.new (o := .list [.str (toldD f).txt, .str (againD f).txt]) he
  refine cmp_eq_list (MH.set_self _ _ _) ((((x1.trans x2).trans x3).trans x4) _ _ hbe) rfl rfl ?_
  rw [decide_eq_true rfl]
  exact q _
end
theorem wc_law {C : Cx} {n : Nat} (F : Fit C) {H : MH} {sc : Addr} {xs : List Int} {Q : V → MH → Prop} (hb : Base H) (hs : H sc = some (.slist (intV xs))) (hn : xs.length ≤ lim) (q : ∀ H', Q (.bool true) H') : WC C (n + 17) (.ref f_law) [.ref sc] H Q := by
  refine F.law.on (n := n + 16) F rfl ?_
  rw [k_law_eq]
  refine law_1 F hb hs hn rfl fun ρ1 W dk ds H1 x1 w1 hdk hD hne p1 p2 => ?_
  refine law_2 F (hb.ext x1) w1 hdk hD hne p1 p2 fun ρ2 s d0 d1 f fv H2 S2 ok hl p2 p3 p4 => ?_
  refine law_3 F S2 ok p2 p3 p4 fun ρ3 σ u a b pat tem rv H3 S3 lu la lb hpat hrv hsh p2 p3 p4 p5 => ?_
  refine law_4 F S3 ok lu la lb hpat hrv hsh p2 p3 p4 p5 fun ρ4 τ mc ka kb H4 S4 hk p2 p3 p4 p6 => ?_
  refine law_5 F S4 p2 p3 p4 p6 fun ρ5 υ v1 ct cx H5 S5 lt lx hv p2 p3 p4 p6 p7 p8 => ?_
  refine law_6 F S5 hk ok lt lx hv p2 p3 p4 p6 p7 p8 fun ρ6 φ α k1 v2 cm H6 S6 lt lx lm hv U p2 p3 p4 p6 p7 p8 p9 => ?_
  refine law_7 F S6 hk ok hl lt lx lm hv U p2 p3 p4 p6 p7 p8 p9 fun ρ7 β k2 v3 H7 S7 L7 => ?_
  refine law_8 F S7 L7 fun ρ8 c1 c2 ls1 ls2 H8 S8 L8 l1 l2 p11 p12 => ?_
  refine law_10 F S8 L8 l1 l2 p11 p12 fun ρ9 e1 e2 es1 es2 H9 S9 L9 K1 K2 p13 p14 => ?_
  refine law_12 F S9 K1 K2 p13 p14 fun H10 x10 => ?_
  have S10 := S9.ext x10
  refine law_13 F S10 (K1.ext x10) L9.p9 p13 fun H11 x11 => ?_
  have S11 := S10.ext x11
  refine law_14 F S11 L9 fun ρ12 be td ep H12 S12 L12 hbe htd p16 p17 => ?_
  refine law_15 F S12 L12 hbe htd p16 p17 fun ρ13 c ls H13 S13 L13 hbe htd hlv p16 p17 p18 => ?_
  exact law_17 F S13 L13 hbe htd hlv p16 p17 p18 q
end N226
end
set_option tactic.hygienic true
noncomputable section
open PySem PySem.W PySem.Calls PyProof.Rows
set_option maxRecDepth 100000
namespace N226
noncomputable abbrev PW : Program := PySem.Challenge.pw_nt0226_01
noncomputable def goQ (p : Program) (w : World) (n₀ : Nat) (ann : Option Value) : Nat → SharedT → Thread → Option SharedT
  | 0, _, _ => none
  | n + 1, s, t => match through t with
    | true => some s
    | false => match PySem.W.Fast.tw6613529449190102663 n₀ ann t with
      | false => none
      | true => match PySem.W.Fast.tw10156331382660048174 (PySem.W.Fast.tw11892475500146522536 PySem.W.Fast.tw14364793385576792824) p w s t with
        | some r => goQ p w n₀ ann n r.1 r.2
        | none => none
termination_by structural n => n
theorem goQ_top {p : Program} {w : World} {n₀ : Nat} {ann : Option Value} : ∀ (n : Nat) (s s' : SharedT) (t : Thread), goQ p w n₀ ann n s t = some s' → topRun treeTable p w n₀ ann n s.abs t = some s'.abs
  | 0, _, _, _, h => by cases h
  | n + 1, s, s', t, h => by
    unfold goQ at h
    unfold topRun
    cases ht : through t with
    | true => rw [ht] at h; cases h; rfl
    | false =>
      rw [ht] at h
      rw [← PySem.W.Fast.te6613529449190102663, ← PySem.W.Fast.te10156331382660048174, ← PySem.W.Fast.te11892475500146522536, ← PySem.W.Fast.te14364793385576792824] at h
      cases hk : stepOk n₀ ann t with
      | false => rw [hk] at h; cases h
      | true =>
        rw [hk] at h
        cases hs : stepT (denote treeTable) p w s t with
        | none => rw [hs] at h; cases h
        | some r =>
          obtain ⟨s₂, t₂⟩ := r
          rw [hs] at h
          simp only [stepT_spec hs]
          exact goQ_top n s₂ s' t₂ h
noncomputable def t0 (P : Params) : BT := (List.range 11).foldl (fun t i => t.ins i (((boot_heap P).objs.toList[i]?).getD default)) .nil
noncomputable def S0 (w : World) (os : OsState) : SharedT := ⟨t0 w.params, 11, (boot_heap w.params).life, Array.mk [], boot_drawn, boot_toks, os⟩
theorem S0_abs (w : World) (os : OsState) : (S0 w os).abs = ⟨boot_heap w.params, Array.mk [], boot_drawn, boot_toks, os⟩ := by kernel_rfl
noncomputable abbrev topQ (w : World) (os : OsState) : Option SharedT := goQ PW w 11 (some (.ref 6)) 8000 (S0 w os) (topStub PW)
end N226
end
noncomputable section
open PySem PySem.W PySem.Calls PyProof.Rows
set_option maxRecDepth 100000
namespace N226
noncomputable def qv : Program := { PW with main := { PW.main with body := PW.main.body.drop 78 } }
noncomputable def looseL : List Str := PW.boundNames.filter fun n => !(n == (⟨#[108, 97, 119]⟩ : Str))
noncomputable def modsL : List Str := importedModules PW.main.body
noncomputable def head1 (w : World) (s : Shared) : Bool := staticsOk modsL (boot_heap w.params) s.heap && namesBound PW s.heap && gensDone s && laidKept (boot_heap w.params) s.heap
noncomputable abbrev seenQ (s : Shared) := PySem.W.Fast.tw4187177175401517315 qv looseL modsL (fun _ => true) true s
theorem seenQ_eq (s : Shared) : seenQ s = openSeen qv looseL modsL (fun _ => true) true s := by
  unfold seenQ
  rw [← PySem.W.Fast.te4187177175401517315]
end N226
end
noncomputable section
open PySem PySem.W PySem.Calls PyProof.Rows
set_option maxRecDepth 100000
namespace N226
theorem fm_congr {α β : Type} {f g : α → Option β} : ∀ {l : List α}, (∀ a ∈ l, f a = g a) → l.filterMap f = l.filterMap g
  | [], _ => rfl
  | a :: l, h => by
    rw [List.filterMap_cons, List.filterMap_cons, h a (by simp), fm_congr fun b hb => h b (by simp [hb])]
theorem lookup_zip_some {names : List Str} {vals : List Value} (hl : vals.length = names.length) {n : Str} (hn : n ∈ names) : ((names.zip vals).lookup n).isSome = true := by
  induction names generalizing vals with
  | nil => cases hn
  | cons x xs ih =>
    cases vals with
    | nil => cases hl
    | cons v vs =>
      rw [List.zip_cons_cons, List.lookup_cons]
      by_cases e : n = x
      · subst e; simp
      · have : (n == x) = false := by simpa using e
        rw [this]
        rcases List.mem_cons.mp hn with h | h
        · exact absurd h e
        · exact ih (by simpa using hl) h
theorem zip_of_lookup {names : List Str} {vals : List Value} (hl : vals.length = names.length) (nd : names.Nodup) : (names.filterMap fun n => ((names.zip vals).lookup n).map (n, ·)) = names.zip vals := by
  induction names generalizing vals with
  | nil => rfl
  | cons x xs ih =>
    cases vals with
    | nil => cases hl
    | cons v vs =>
      rw [List.nodup_cons] at nd
      rw [List.zip_cons_cons, List.filterMap_cons, List.lookup_cons]
      simp only [BEq.rfl, Option.map_some]
      have : (xs.filterMap fun n => (List.lookup n ((x, v) :: xs.zip vs)).map (n, ·)) = xs.filterMap fun n => (List.lookup n (xs.zip vs)).map (n, ·) := by
        refine fm_congr fun n hn => ?_
        rw [List.lookup_cons]
        have : (n == x) = false := by
          have : n ≠ x := fun e => nd.1 (e ▸ hn)
          simpa using this
        rw [this]
      rw [this, ih (by simpa using hl) nd.2]
theorem noLoop {M : Model} {A : Around} {E : Value → Shared → Prop} {s : Shared} {sl : List (Str × Value)} {Q : List (Str × Value) → Shared → Prop} : ∀ (xs : List (Str × Value)), (∀ p ∈ xs, (sl.lookup p.1).isSome = true) → Q sl s →
    wpAny M A (forIn xs sl fun (x : Str × Value) (r : List (Str × Value)) => if (List.lookup x.1 r).isNone = true then (pure (ForInStep.yield (r ++ [(x.1, x.2)])) : Sem _) else pure (ForInStep.yield r)) Q E s
  | [], _, q => by
    rw [List.forIn_nil]; exact wpAny_pure q
  | p :: xs, h, q => by
    rw [List.forIn_cons]
    have : (List.lookup p.1 sl).isNone = false := by
      have := h p (by simp)
      rw [Option.isNone_eq_false_iff]; exact this
    rw [this]
    simp only [Bool.false_eq_true, if_false]
    refine wpAny_bind (wpAny_pure ?_)
    exact noLoop xs (fun p hp => h p (by simp [hp])) q
noncomputable def coreB (R1 R2 : Option (Array Value) → Sem Unit) (dv : Value) (names : List Str) (vals : List Value) : Sem (List (Str × Value)) := do
  let mut slots : List (Str × Value) := names.zip vals
  let d ← seqItems? dv
  let defaults := (d.getD #[]).toList
  if vals.length > names.length && true then
    rule "call.bind.too-many-positional"
    R1 d
  let defaults := defaults.drop (defaults.length - names.length)
  let firstDefault := names.length - defaults.length
  let missing := (names.take firstDefault).filter fun n => (slots.lookup n).isNone
  if !missing.isEmpty then
    rule "call.bind.missing-positional"
    R2 d
  for (name, d) in (names.drop firstDefault).zip defaults do
    if (slots.lookup name).isNone then slots := slots ++ [(name, d)]
  return (names ++ []).filterMap fun n => (slots.lookup n).map (n, ·)
theorem core_eq {fd : FuncData} {vals : List Value} (h1 : fd.params.posonlyargs = []) (h3 : fd.params.vararg = none) (h4 : fd.params.kwonlyargs = []) (h5 : fd.params.kwarg = none) : ∃ R1 R2, bindArgs fd ⟨vals, []⟩ = coreB R1 R2 fd.defaults (fd.params.args.map (·.arg)) vals := by
  obtain ⟨nm, qn, ⟨po, as, va, ko, kd, kw, ds⟩, bd, sc, gl, cl, df, kdf, dc, pm, an, cd, ct, bl⟩ := fd
  dsimp only at h1 h3 h4 h5
  subst h1 h3 h4 h5
  exact ⟨_, _, rfl⟩
theorem binds_plain {s : Shared} {fd : FuncData} {vals : List Value} {names : List Str} (h1 : fd.params.posonlyargs = []) (h2 : fd.params.args.map (·.arg) = names) (h3 : fd.params.vararg = none) (h4 : fd.params.kwonlyargs = []) (h5 : fd.params.kwarg = none) (nd : names.Nodup) (hl : vals.length = names.length)
    (hd : ∃ D, ∀ (M : Model) (A : Around) (E : Value → Shared → Prop) (Q : Option (Array Value) → Shared → Prop), Q D s → wpAny M A (seqItems? fd.defaults) Q E s) : BindsTo s fd ⟨vals, []⟩ (names.zip vals) := by
  intro M A E Q q
  obtain ⟨D, hD⟩ := hd
  obtain ⟨R1, R2, e⟩ := core_eq (vals := vals) h1 h3 h4 h5
  rw [e, h2]
  clear e h1 h2 h3 h4 h5
  unfold coreB
  refine wpAny_bind (hD _ _ _ _ ?_)
  simp only [hl, gt_iff_lt, Nat.lt_irrefl, decide_false, Bool.false_and, Bool.false_eq_true, if_false, List.append_nil]
  have look : ∀ n ∈ names, (List.lookup n (names.zip vals)).isSome = true := fun n hn => lookup_zip_some hl hn
  have miss : ∀ k, (List.filter (fun n => (List.lookup n (names.zip vals)).isNone) (List.take k names)).isEmpty = true := fun k => by
    rw [List.isEmpty_iff, List.filter_eq_nil_iff]
    intro n hn
    have := look n (List.mem_of_mem_take hn)
    simpa using this
  rw [miss]
  simp only [Bool.not_true, Bool.false_eq_true, if_false]
  refine wpAny_bind (noLoop _ (fun p hp => look _ (List.mem_of_mem_drop (List.of_mem_zip hp).1)) ?_)
  rw [zip_of_lookup hl nd]
  exact wpAny_pure q
theorem binds_one {s : Shared} {fd : FuncData} {v d : Value} {n1 n2 : Str} (h1 : fd.params.posonlyargs = []) (h2 : fd.params.args.map (·.arg) = [n1, n2]) (h3 : fd.params.vararg = none) (h4 : fd.params.kwonlyargs = []) (h5 : fd.params.kwarg = none) (nd : n1 ≠ n2)
    (hd : ∀ (M : Model) (A : Around) (E : Value → Shared → Prop) (Q : Option (Array Value) → Shared → Prop), Q (some #[d]) s → wpAny M A (seqItems? fd.defaults) Q E s) : BindsTo s fd ⟨[v], []⟩ [(n1, v), (n2, d)] := by
  intro M A E Q q
  obtain ⟨R1, R2, e⟩ := core_eq (vals := [v]) h1 h3 h4 h5
  have e21 : (n2 == n1) = false := by simpa using fun e : n2 = n1 => nd e.symm
  rw [e, h2]
  clear e h1 h2 h3 h4 h5
  unfold coreB
  refine wpAny_bind (hd _ _ _ _ ?_)
  simp [List.lookup_cons, e21, List.forIn_cons]
  exact wpAny_pure q
end N226
end
noncomputable section
open PySem PySem.W PySem.Calls PyProof.Rows
set_option maxRecDepth 100000
namespace N226
noncomputable def strsIn (l : List Str) (x : Str) : Bool := l.any (· == x)
noncomputable def distinct : List Str → Bool
  | [] => true
  | x :: l => !strsIn l x && distinct l
noncomputable def nsOf (fd : FuncData) : List Str :=
  fd.params.args.map (·.arg) ++ fd.scope.names.filterMap fun p => if (p.2 == .local || p.2 == .cell) && !strsIn (fd.params.args.map (·.arg)) p.1 then some p.1 else none
noncomputable def stF (fd : FuncData) : St := ⟨fd.scope, nsOf fd⟩
noncomputable def seqD : Data → Option (Array Value)
  | .seq xs _ => some xs
  | _ => none
noncomputable def fnD : Data → Option FuncData
  | .func fd => some fd
  | _ => none
noncomputable def plD : Data → Bool
  | .plain => true
  | _ => false
noncomputable def stB : FuncBody → Option (List Stmt)
  | .stmts b => some b
  | _ => none
theorem seqD_of {d : Data} {xs : Array Value} (h : seqD d = some xs) : ∃ n, d = .seq xs n := by
  cases d <;> first | exact nope h | exact ⟨_, som (P := fun x => Data.seq _ _ = .seq x _) h rfl⟩
theorem fnD_of {d : Data} {fd : FuncData} (h : fnD d = some fd) : d = .func fd := by
  cases d <;> first | exact nope h | exact som (P := fun x => Data.func _ = .func x) h rfl
theorem plD_of {d : Data} (h : plD d = true) : d = .plain := by
  cases d <;> first | rfl | cases h
theorem stB_of {d : FuncBody} {b : List Stmt} (h : stB d = some b) : d = .stmts b := by
  cases d <;> first | exact nope h | exact som (P := fun x => FuncBody.stmts _ = .stmts x) h rfl
noncomputable def dfl (K : Frag) (v : Value) : Option (List Value) := match er v with
  | .none => some []
  | .ref a => ((K.lookup a).bind fun o => seqD o.data).map (·.toList)
  | _ => none
noncomputable def fnAt (K : Frag) (f : Addr) : Option (FuncData × List Stmt) := (K.lookup f).bind fun o => (fnD o.data).bind fun fd => (stB fd.body).map fun b => (fd, b)
noncomputable def bodyAt (K : Frag) (f : Addr) : N226.K := (fnAt K f).elim .bad fun p => bodyOf GT (stF p.1) p.2
noncomputable def funC (K : Frag) (f : Addr) (fd : FuncData) (m : Nat) (ds : List Value) : Bool := fd.closure.isEmpty && Nat.beq fd.globals mainGlobals && Nat.beq fd.builtins builtinsNs && codeIn K fd.code fd.qualname && !fd.scope.isCoroutine && !fd.scope.isGenerator && decide (fd.scope.kind = .function) &&
  fd.params.posonlyargs.isEmpty && fd.params.vararg.isNone && fd.params.kwonlyargs.isEmpty && fd.params.kwarg.isNone && Nat.beq fd.params.args.length m && distinct (nsOf fd) && decide (dfl K fd.defaults = some ds) && stOK (stF fd) m && keepIn K (.ref f)
noncomputable def funB (K : Frag) (f : Addr) (m : Nat) (ds : List Value) : Bool := (fnAt K f).elim false fun p => funC K f p.1 m ds
noncomputable def clsB (K : Frag) (c f : Addr) : Bool := makesIn K c && decide (findIn K (.ref c) "__init__" = some (some (.ref f))) && decide (typeIn K (.ref f) = some (.type "function")) && keepIn K (.ref c)
noncomputable def globB (K : Frag) (x : Str) (v : V) : Bool := match nsIn K mainGlobals x with
  | some (some v') => decide (er v' = v)
  | some none => match nsIn K builtinsNs x with
    | some (some v') => decide (er v' = v)
    | _ => false
  | none => false
noncomputable def atName (i : Nat) (p : Str → Bool) : Bool := match AN[i]? with
  | some x => p x
  | none => true
theorem atName_of {i : Nat} {p : Str → Bool} (h : atName i p = true) {x : Str} (e : idx AN x = some i) : p x = true := by
  have := idx_get e
  unfold atName at h
  rw [this] at h
  exact h
noncomputable def FUNS : List (Addr × Nat × List Value × N226.K) := [
  (f_list_of, 2, [.ref a_EMPTY], k_list_of), (f_split_list, 1, [], k_split_list), (f_is_whole, 1, [], k_is_whole), (f_is_identifier, 1, [], k_is_identifier), (f_key_of, 1, [], k_key_of), (f_root_symbol, 1, [], k_root_symbol), (f_is_named, 2, [], k_is_named), (f_alias_of, 3, [], k_alias_of), (f_strip_take, 3, [], k_strip_take), (f_strip, 1, [], k_strip), (f_has_alias, 1, [], k_has_alias), (f_plain, 1, [], k_plain), (f_is_ellipsis, 1, [], k_is_ellipsis), (f_literal_keys, 1, [], k_literal_keys), (f_read_rule, 2, [], k_read_rule), (f_is_rules_word, 2, [], k_is_rules_word), (f_read_rules, 3, [], k_read_rules), (f_same_atom, 2, [], k_same_atom), (f_match, 4, [], k_match), (f_fill, 4, [], k_fill), (f_first_fitting, 3, [], k_first_fitting), (f_transcribe, 4, [], k_transcribe), (f_law_deck, 1, [], k_law_deck), (f_law_draw, 2, [], k_law_draw), (f_law_drawn, 2, [], k_law_drawn), (f_law_datum, 2, [], k_law_datum), (f_law_leaves, 2, [], k_law_leaves), (f_law_right, 4, [], k_law_right), (f_law_text, 1, [], k_law_text), (f_law, 1, [], k_law), (f_Symbol_init, 3, [], k_Symbol_init), (f_SymbolTable_init, 1, [], k_SymbolTable_init), (f_SymbolTable_symbol, 2, [], k_SymbolTable_symbol), (f_Pair_init, 3, [], k_Pair_init), (f_Vector_init, 2, [], k_Vector_init), (f_Alias_init, 4, [], k_Alias_init), (f_GlobalName_init, 2, [], k_GlobalName_init), (f_Macro_init, 4, [], k_Macro_init), (f_Scope_init, 2, [], k_Scope_init), (f_Scope_bound, 2, [], k_Scope_bound), (f_Scope_find, 2, [], k_Scope_find), (f_Rule_init, 4, [], k_Rule_init), (f_PatternReader_init, 2, [], k_PatternReader_init), (f_PatternReader_node, 3, [], k_PatternReader_node), (f_PatternReader_name, 3, [], k_PatternReader_name), (f_PatternReader_parts, 4, [], k_PatternReader_parts), (f_PatternReader_row, 3, [], k_PatternReader_row), (f_TemplateReader_init, 2, [], k_TemplateReader_init), (f_TemplateReader_node, 3, [], k_TemplateReader_node), (f_TemplateReader_name, 3, [], k_TemplateReader_name), (f_TemplateReader_parts, 4, [], k_TemplateReader_parts), (f_Matcher_init, 3, [], k_Matcher_init), (f_Matcher_fits, 3, [], k_Matcher_fits), (f_Matcher_fits_row, 3, [], k_Matcher_fits_row), (f_Writer_init, 3, [], k_Writer_init), (f_Writer_alias, 2, [], k_Writer_alias), (f_Writer_datum, 3, [], k_Writer_datum), (f_Writer_parts, 3, [], k_Writer_parts), (f_Names_init, 1, [], k_Names_init), (f_Names_fresh, 1, [], k_Names_fresh), (f_Names_symbol, 2, [], k_Names_symbol)]
noncomputable def CLSS : List (Addr × Addr) := [(c_Symbol, f_Symbol_init), (c_SymbolTable, f_SymbolTable_init), (c_Pair, f_Pair_init), (c_Vector, f_Vector_init), (c_Alias, f_Alias_init), (c_GlobalName, f_GlobalName_init), (c_Macro, f_Macro_init), (c_Scope, f_Scope_init), (c_Rule, f_Rule_init), (c_PatternReader, f_PatternReader_init), (c_TemplateReader, f_TemplateReader_init), (c_Matcher, f_Matcher_init), (c_Writer, f_Writer_init), (c_Names, f_Names_init)]
noncomputable def fitB (K : Frag) : Bool :=
  GT.all (fun p => globB K p.1 p.2) && FUNS.all (fun p => funB K p.1 p.2.1 p.2.2.1) && CLSS.all (fun p => clsB K p.1 p.2) &&
  GETS.all (fun p => atName p.2 fun x => getOK K p.1 x) && SETS.all (fun p => atName p.2 fun x => setOK K p.1 x) && MTHS.all (fun p => atName p.2.1 fun x => methOK K p.1 x p.2.2) &&
  ISY.all (fun c => isIn K (.ref c) c) && ISN.all (fun p => isiF K p.1 p.2) && IST.all (fun p => isiFT K p.1 p.2) && ISI.all (fun c => isNotIn K "int" c)
end N226
end
noncomputable section
open PySem PySem.W PySem.Calls PyProof.Rows
set_option maxRecDepth 100000
namespace N226
theorem strsIn_iff {l : List Str} {x : Str} : strsIn l x = true ↔ x ∈ l := by
  unfold strsIn
  rw [List.any_eq_true]
  constructor
  · rintro ⟨y, hy, e⟩; rw [← eq_of_beq e]; exact hy
  · exact fun h => ⟨x, h, by simp⟩
theorem distinct_nodup : ∀ {l : List Str}, distinct l = true → l.Nodup
  | [], _ => List.nodup_nil
  | x :: l, h => by
    unfold distinct at h
    obtain ⟨h1, h2⟩ := Bool.and_eq_true_iff.mp h
    rw [List.nodup_cons]
    refine ⟨fun q => ?_, distinct_nodup h2⟩
    rw [strsIn_iff.mpr q] at h1; cases h1
set_option tactic.hygienic true in
theorem dfl_looks {K : Frag} {v : Value} {ds : List Value} (h : dfl K v = some ds) {s : Shared} (X : K.In s.heap) : ∃ D : Option (Array Value), (∀ x ∈ ds, D = some ds.toArray) ∧ ∀ (M : Model) (A : Around) (E : Value → Shared → Prop) (Q : Option (Array Value) → Shared → Prop), Q D s → wpAny M A (seqItems? v) Q E s := by
  unfold dfl at h
  cases e : er v with
  | none =>
    rw [e] at h
    cases er_none e
    cases h
    exact ⟨none, fun x hx => (nomatch hx), fun M A E Q q => wpAny_bind (wpAny_pure (wpAny_pure q))⟩
  | ref a =>
    rw [e] at h
    cases er_ref e
    obtain ⟨xs, h1, rfl⟩ := Option.map_eq_some_iff.mp h
    obtain ⟨o, ho, h2⟩ := Option.bind_eq_some_iff.mp h1
    obtain ⟨n, h3⟩ := seqD_of h2
    obtain ⟨c, d, dt, sl⟩ := o
    cases h3
    exact ⟨some xs, fun _ _ => by simp, fun M A E Q q => wpAny_seqItems (X _ _ ho) rfl q⟩
  | _ => rw [e] at h; exact nope h
theorem mem_find {α : Type} {l : List α} {p : α → Bool} (h : l.all p = true) {a : α} (ha : a ∈ l) : p a = true := List.all_eq_true.mp h a ha
section
variable {C : Cx}
theorem fnAt_of {K : Frag} {f : Addr} {p : FuncData × List Stmt} (h : fnAt K f = some p) : ∃ oc od osl, K.lookup f = some ⟨oc, od, .func p.1, osl⟩ ∧ p.1.body = .stmts p.2 := by
  obtain ⟨o, ho, h⟩ := Option.bind_eq_some_iff.mp h
  obtain ⟨fd, h1, h⟩ := Option.bind_eq_some_iff.mp h
  obtain ⟨b, h2, rfl⟩ := Option.map_eq_some_iff.mp h
  obtain ⟨c, d, dt, sl⟩ := o
  cases fnD_of h1
  exact ⟨c, d, sl, ho, stB_of h2⟩
theorem and_l {a b : Bool} (h : (a && b) = true) : a = true := (Bool.and_eq_true_iff.mp h).1
theorem and_r {a b : Bool} (h : (a && b) = true) : b = true := (Bool.and_eq_true_iff.mp h).2
theorem not_t {a : Bool} (h : (!a) = true) : a = false := (Bool.not_eq_true' a).mp h
theorem names_nodup {fd : FuncData} (h : distinct (nsOf fd) = true) : (fd.params.args.map (·.arg)).Nodup := by
  have := distinct_nodup h
  unfold nsOf at this
  exact (List.nodup_append.mp this).1
theorem ns_take {fd : FuncData} {m : Nat} (h : fd.params.args.length = m) : (stF fd).ns.take m = fd.params.args.map (·.arg) := by
  show (nsOf fd).take m = _
  unfold nsOf
  rw [List.take_append_of_le_length (by rw [List.length_map, h]; exact Nat.le_refl _), List.take_of_length_le (by rw [List.length_map, h]; exact Nat.le_refl _)]
theorem fun_gen {f : Addr} {m : Nat} {ds ex : List Value} (h : funB C.K f m ds = true) (hj : ∀ v ∈ ex, er v ≠ .junk)
    (hb : ∀ (fd : FuncData) (vals : List Value) (s : Shared), fd.params.posonlyargs = [] → fd.params.vararg = none → fd.params.kwonlyargs = [] → fd.params.kwarg = none → fd.params.args.length = m → (fd.params.args.map (·.arg)).Nodup → dfl C.K fd.defaults = some ds → vals.length + ex.length = m → C.K.In s.heap → BindsTo s fd ⟨vals, []⟩ ((fd.params.args.map (·.arg)).zip (vals ++ ex))) :
    FunIs C f ex m (bodyAt C.K f) := by
  unfold funB at h
  cases e : fnAt C.K f with
  | none => rw [e] at h; cases h
  | some p =>
    rw [e] at h
    replace h : funC C.K f p.1 m ds = true := h
    obtain ⟨oc, od, osl, hl, hp⟩ := fnAt_of e
    have g15 := and_l h
    have g14 := and_l g15
    have g13 := and_l g14
    have g12 := and_l g13
    have g11 := and_l g12
    have g10 := and_l g11
    have g9 := and_l g10
    have g8 := and_l g9
    have g7 := and_l g8
    have g6 := and_l g7
    have g5 := and_l g6
    have g4 := and_l g5
    have g3 := and_l g4
    have g2 := and_l g3
    have hm := Nat.eq_of_beq_eq_true (and_r g12)
    refine ⟨stF p.1, p.2, ⟨⟨oc, od, osl, p.1, hl, rfl, hp, List.isEmpty_iff.mp (and_l g2), Nat.eq_of_beq_eq_true (and_r g2), Nat.eq_of_beq_eq_true (and_r g3), and_r g4, not_t (and_r g5), not_t (and_r g6), of_decide_eq_true (and_r g7), fun vals hv s X => ?_⟩, and_r g15, hj, and_r h⟩, ?_⟩
    · rw [ns_take hm]
      exact hb p.1 vals s (List.isEmpty_iff.mp (and_r g8)) (Option.isNone_iff_eq_none.mp (and_r g9)) (List.isEmpty_iff.mp (and_r g10)) (Option.isNone_iff_eq_none.mp (and_r g11)) hm (names_nodup (and_r g13)) (of_decide_eq_true (and_r g14)) hv X
    · unfold bodyAt
      rw [e]; rfl
theorem fun_of {f : Addr} {m : Nat} {ds : List Value} (h : funB C.K f m ds = true) : FunIs C f [] m (bodyAt C.K f) := by
  refine fun_gen h (fun _ h => absurd h List.not_mem_nil) fun fd vals s h1 h2 h3 h4 h5 nd hd hv X => ?_
  rw [List.append_nil]
  obtain ⟨D, _, hD⟩ := dfl_looks hd X
  exact binds_plain h1 rfl h2 h3 h4 nd (by rw [List.length_map, h5]; exact hv) ⟨D, hD⟩
theorem two_of {α : Type} {l : List α} (h : l.length = 2) : ∃ a b, l = [a, b] := by
  obtain ⟨a, t, rfl⟩ := List.exists_cons_of_length_eq_add_one h
  obtain ⟨b, rfl⟩ := List.length_eq_one_iff.mp (Nat.succ.inj h)
  exact ⟨a, b, rfl⟩
theorem fun1_of {f : Addr} {d : Value} (h : funB C.K f 2 [d] = true) (hd : er d ≠ .junk) : FunIs C f [d] 2 (bodyAt C.K f) := by
  refine fun_gen h (fun v hv => by rw [List.mem_singleton.mp hv]; exact hd) fun fd vals s h1 h2 h3 h4 h5 nd hd hv X => ?_
  obtain ⟨D, hd', hD⟩ := dfl_looks hd X
  cases hd' d (List.mem_singleton.mpr rfl)
  obtain ⟨v, rfl⟩ := List.length_eq_one_iff.mp (Nat.succ.inj hv)
  obtain ⟨n1, n2, hns⟩ := two_of ((List.length_map (as := fd.params.args) (·.arg)).trans h5)
  rw [hns] at nd ⊢
  exact binds_one h1 hns h2 h3 h4 (by simpa using nd) hD
theorem cls_of {c f : Addr} (h : clsB C.K c f = true) : ClsIs C c f := by
  unfold clsB at h
  simp only [Bool.and_eq_true, decide_eq_true_eq] at h
  exact ⟨h.1.1.1, h.1.1.2, h.1.2, h.2⟩
theorem nsIn_ns {K : Frag} {h : Heap} (X : K.In h) {a : Addr} {m : Str → Option Value} (N : h.Ns a m) {x : Str} {r : Option Value} (e : nsIn K a x = some r) : m x = r := by
  obtain ⟨o, es, ep, ho, hd, hk, hf⟩ := N
  unfold nsIn at e
  cases hl : K.lookup a with
  | none => rw [hl] at e; exact nope e
  | some o' =>
    rw [hl] at e
    have := X _ _ hl
    rw [ho] at this
    cases this
    obtain ⟨c, d, dt, sl⟩ := o
    cases hd
    rw [← hf x]
    unfold nsFind findBy
    rw [← Array.find?_toList]
    replace e : (match es.toList.find? (·.key.isStr x) with
      | some e => some (some e.val)
      | none => if es.toList.any (·.refKey) then none else some none) = some r := e
    cases he : es.toList.find? (·.key.isStr x) with
    | some en => rw [he] at e; exact Option.some.inj e
    | none =>
      rw [he] at e
      by_cases hr : es.toList.any (·.refKey) = true
      · rw [if_pos hr] at e; exact nope e
      · rw [if_neg hr] at e; exact Option.some.inj e
theorem glob_of {x : Str} {v : V} (h : globB C.K x v = true) : GlobIs C x v := by
  unfold globB at h
  cases e : nsIn C.K mainGlobals x with
  | none => rw [e] at h; cases h
  | some o =>
    rw [e] at h
    cases o with
    | some v' => exact .inl ⟨v', nsIn_ns C.X C.g e, of_decide_eq_true h⟩
    | none =>
      cases e' : nsIn C.K builtinsNs x with
      | none => rw [e'] at h; cases h
      | some o =>
        rw [e'] at h
        cases o with
        | some v' => exact .inr ⟨nsIn_ns C.X C.g e, v', nsIn_ns C.X C.b e', of_decide_eq_true h⟩
        | none => cases h
end
theorem all_at {α : Type} {l : List α} {p : α → Bool} (h : l.all p = true) {i : Nat} {a : α} (e : l[i]? = some a) : p a = true := List.all_eq_true.mp h a (List.mem_of_getElem? e)
theorem body_at {C : Cx} (hb : (FUNS.map fun p => bodyAt C.K p.1) = FUNS.map (·.2.2.2)) {i : Nat} {f : Addr} {m : Nat} {ds : List Value} {k : N226.K} (e : FUNS[i]? = some (f, m, ds, k)) : bodyAt C.K f = k := by
  have := congrArg (·[i]?) hb
  simp only [List.getElem?_map, e, Option.map_some, Option.some.injEq] at this
  exact this
theorem fun_at {C : Cx} (hf : FUNS.all (fun p => funB C.K p.1 p.2.1 p.2.2.1) = true) (hb : (FUNS.map fun p => bodyAt C.K p.1) = FUNS.map (·.2.2.2)) (i : Nat) {f : Addr} {m : Nat} {ds : List Value} {k : N226.K} (e : FUNS[i]? = some (f, m, ds, k)) : FunIs C f [] m k :=
  body_at hb e ▸ fun_of (all_at hf e)
theorem fun1_at {C : Cx} (hf : FUNS.all (fun p => funB C.K p.1 p.2.1 p.2.2.1) = true) (hb : (FUNS.map fun p => bodyAt C.K p.1) = FUNS.map (·.2.2.2)) (i : Nat) {f : Addr} {d : Value} {k : N226.K} (e : FUNS[i]? = some (f, 2, [d], k)) (hd : er d ≠ .junk) : FunIs C f [d] 2 k :=
  body_at hb e ▸ fun1_of (all_at hf e) hd
theorem fit_of {C : Cx} (h : fitB C.K = true) (hb : (FUNS.map fun p => bodyAt C.K p.1) = FUNS.map (·.2.2.2)) : Fit C := by
  unfold fitB at h
  obtain ⟨h, h10⟩ := Bool.and_eq_true_iff.mp h
  obtain ⟨h, h9⟩ := Bool.and_eq_true_iff.mp h
  obtain ⟨h, h8⟩ := Bool.and_eq_true_iff.mp h
  obtain ⟨h, h7⟩ := Bool.and_eq_true_iff.mp h
  obtain ⟨h, h6⟩ := Bool.and_eq_true_iff.mp h
  obtain ⟨h, h5⟩ := Bool.and_eq_true_iff.mp h
  obtain ⟨h, h4⟩ := Bool.and_eq_true_iff.mp h
  obtain ⟨h, h3⟩ := Bool.and_eq_true_iff.mp h
  obtain ⟨h1, h2⟩ := Bool.and_eq_true_iff.mp h
  exact {
    glob := fun x v e => glob_of (List.all_eq_true.mp h1 (x, v) (mem_of_lookup e))
    list_of := fun_at h2 hb 0 rfl
    split_list := fun_at h2 hb 1 rfl
    is_whole := fun_at h2 hb 2 rfl
    is_identifier := fun_at h2 hb 3 rfl
    key_of := fun_at h2 hb 4 rfl
    root_symbol := fun_at h2 hb 5 rfl
    is_named := fun_at h2 hb 6 rfl
    alias_of := fun_at h2 hb 7 rfl
    strip_take := fun_at h2 hb 8 rfl
    strip := fun_at h2 hb 9 rfl
    has_alias := fun_at h2 hb 10 rfl
    plain := fun_at h2 hb 11 rfl
    is_ellipsis := fun_at h2 hb 12 rfl
    literal_keys := fun_at h2 hb 13 rfl
    read_rule := fun_at h2 hb 14 rfl
    is_rules_word := fun_at h2 hb 15 rfl
    read_rules := fun_at h2 hb 16 rfl
    same_atom := fun_at h2 hb 17 rfl
    «match» := fun_at h2 hb 18 rfl
    fill := fun_at h2 hb 19 rfl
    first_fitting := fun_at h2 hb 20 rfl
    transcribe := fun_at h2 hb 21 rfl
    law_deck := fun_at h2 hb 22 rfl
    law_draw := fun_at h2 hb 23 rfl
    law_drawn := fun_at h2 hb 24 rfl
    law_datum := fun_at h2 hb 25 rfl
    law_leaves := fun_at h2 hb 26 rfl
    law_right := fun_at h2 hb 27 rfl
    law_text := fun_at h2 hb 28 rfl
    law := fun_at h2 hb 29 rfl
    Symbol_init := fun_at h2 hb 30 rfl
    SymbolTable_init := fun_at h2 hb 31 rfl
    SymbolTable_symbol := fun_at h2 hb 32 rfl
    Pair_init := fun_at h2 hb 33 rfl
    Vector_init := fun_at h2 hb 34 rfl
    Alias_init := fun_at h2 hb 35 rfl
    GlobalName_init := fun_at h2 hb 36 rfl
    Macro_init := fun_at h2 hb 37 rfl
    Scope_init := fun_at h2 hb 38 rfl
    Scope_bound := fun_at h2 hb 39 rfl
    Scope_find := fun_at h2 hb 40 rfl
    Rule_init := fun_at h2 hb 41 rfl
    PatternReader_init := fun_at h2 hb 42 rfl
    PatternReader_node := fun_at h2 hb 43 rfl
    PatternReader_name := fun_at h2 hb 44 rfl
    PatternReader_parts := fun_at h2 hb 45 rfl
    PatternReader_row := fun_at h2 hb 46 rfl
    TemplateReader_init := fun_at h2 hb 47 rfl
    TemplateReader_node := fun_at h2 hb 48 rfl
    TemplateReader_name := fun_at h2 hb 49 rfl
    TemplateReader_parts := fun_at h2 hb 50 rfl
    Matcher_init := fun_at h2 hb 51 rfl
    Matcher_fits := fun_at h2 hb 52 rfl
    Matcher_fits_row := fun_at h2 hb 53 rfl
    Writer_init := fun_at h2 hb 54 rfl
    Writer_alias := fun_at h2 hb 55 rfl
    Writer_datum := fun_at h2 hb 56 rfl
    Writer_parts := fun_at h2 hb 57 rfl
    Names_init := fun_at h2 hb 58 rfl
    Names_fresh := fun_at h2 hb 59 rfl
    Names_symbol := fun_at h2 hb 60 rfl
    list_of1 := fun1_at h2 hb 0 rfl (njk rfl)
    cSymbol := cls_of (all_at h3 (i := 0) rfl)
    cSymbolTable := cls_of (all_at h3 (i := 1) rfl)
    cPair := cls_of (all_at h3 (i := 2) rfl)
    cVector := cls_of (all_at h3 (i := 3) rfl)
    cAlias := cls_of (all_at h3 (i := 4) rfl)
    cGlobalName := cls_of (all_at h3 (i := 5) rfl)
    cMacro := cls_of (all_at h3 (i := 6) rfl)
    cScope := cls_of (all_at h3 (i := 7) rfl)
    cRule := cls_of (all_at h3 (i := 8) rfl)
    cPatternReader := cls_of (all_at h3 (i := 9) rfl)
    cTemplateReader := cls_of (all_at h3 (i := 10) rfl)
    cMatcher := cls_of (all_at h3 (i := 11) rfl)
    cWriter := cls_of (all_at h3 (i := 12) rfl)
    cNames := cls_of (all_at h3 (i := 13) rfl)
    get := fun p hp x e => atName_of (mem_find h4 hp) e
    put := fun p hp x e => atName_of (mem_find h5 hp) e
    mth := fun p hp x e => atName_of (mem_find h6 hp) e
    isy := fun c hc => mem_find h7 hc
    isn := fun p hp => mem_find h8 hp
    ist := fun p hp => mem_find h9 hp
    isi := fun c hc => mem_find h10 hc }
end N226
end
noncomputable section
open PySem PySem.W PySem.Calls PyProof.Rows
set_option maxRecDepth 100000
namespace N226
noncomputable def ASX : List Addr := [83, 82, 333, 332, 167, 166, 230, 229, 59, 58, 396, 395, 38, 146, 145, 188, 209, 312, 417, 416, 508, 507, 579, 578, 633, 632, 682, 681, 771, 770, 827, 826, 939, 938, 3, 0, 2, 1, 64, 65, 562, 79, 80, 100, 101, 107, 108, 163, 164, 226, 227, 235, 241, 242, 248, 249, 255, 256, 329, 330, 392, 393, 413, 414, 427, 428, 434, 435, 441, 442, 448, 449, 462, 463, 483, 484, 490, 491, 532, 533, 539, 540, 546, 547, 553, 554, 560, 561, 575, 576, 589, 590, 603, 604, 610, 611, 617, 618, 622, 623, 629, 630, 650, 651, 657, 658, 664, 665, 671, 672, 699, 700, 706, 707, 713, 714, 718, 719, 725, 726, 739, 740, 746, 747, 767, 768, 781, 782, 795, 796, 802, 803, 809, 810, 816, 817, 844, 845, 851, 852, 858, 859, 872, 873, 879, 880, 886, 887, 947, 948, 954, 955, 959, 960, 964, 965, 971, 972, 978, 979, 983, 984, 988, 989]
noncomputable def fragT (t : BT) : Frag := ASX.map fun a => (a, (t.get a).getD default)
noncomputable def aliveT (s : SharedT) : Bool := ASX.all fun a => Nat.blt a s.n && match s.tree.get a with
  | some o => (alive o).isSome
  | none => false
noncomputable def baseB (K : Frag) : Bool := ((K.lookup a_EMPTY).elim false fun o => decide (er o.cls = .ref c_Special_data) && plD o.data && o.slots.toList.isEmpty && o.dict.elim false fun dx => (K.lookup dx).isSome) &&
  ((K.lookup a_NOTHING).elim false fun o => decide (er o.cls = .ty "tuple") && o.slots.toList.isEmpty && o.dict.isNone && (seqD o.data).elim false fun xs => decide (xs.toList.map er = [.int 3, .ref a_EMPTY]))
noncomputable def lawB (K : Frag) : Bool := decide (nsIn K mainGlobals ⟨#[108, 97, 119]⟩ = some (some (.ref f_law)))
noncomputable abbrev FF (w : World) (s : SharedT) := (head1 w s.abs && aliveT s && baseB (fragT s.tree) && lawB (fragT s.tree) && fitB (fragT s.tree), seenQ s.abs, FUNS.map fun p => bodyAt (fragT s.tree) p.1)
noncomputable abbrev F1 (w : World) (s : SharedT) := (head1 w s.abs && aliveT s && baseB (fragT s.tree) && lawB (fragT s.tree), seenQ s.abs)
theorem FF_join {α β γ : Type} {o : Option α} {f1 f2 : α → Bool} {s : α → β} {g : α → γ} {X : β} {B : γ} (h1 : o.map (fun x => (f1 x, s x)) = some (true, X)) (h2 : o.map f2 = some true) (h3 : o.map g = some B) :
    o.map (fun x => (f1 x && f2 x, s x, g x)) = some (true, X, B) := by
  cases o with
  | none => cases h1
  | some x =>
    have e := Option.some.inj h1
    have a := congrArg Prod.fst e
    have b := congrArg Prod.snd e
    have c := Option.some.inj h2
    have d := Option.some.inj h3
    dsimp only at a b c d
    rw [Option.map_some, a, b, c, d]; rfl
theorem FF_of {w : World} {o : Option SharedT} (h1 : o.map (F1 w) = some (true, openGood qv looseL)) (h2 : o.map (fun s => fitB (fragT s.tree)) = some true) (h3 : o.map (fun s => FUNS.map fun p => bodyAt (fragT s.tree) p.1) = some (FUNS.map (·.2.2.2))) : o.map (FF w) = some (true, openGood qv looseL, FUNS.map (·.2.2.2)) := by
  have k := @FF_join _ _ _ o (fun s => head1 w s.abs && aliveT s && baseB (fragT s.tree) && lawB (fragT s.tree)) (fun s => fitB (fragT s.tree)) (fun s => seenQ s.abs) (fun s => FUNS.map fun p => bodyAt (fragT s.tree) p.1) (openGood qv looseL) (FUNS.map (·.2.2.2)) h1 h2 h3
  exact k
theorem top1 (w : World) (os : OsState) : (topQ w os).map (F1 w) = some (true, openGood qv looseL) := by kernel_rfl
theorem top2 (w : World) (os : OsState) : (topQ w os).map (fun s => fitB (fragT s.tree)) = some true := by kernel_rfl
theorem top3 (w : World) (os : OsState) : (topQ w os).map (fun s => FUNS.map fun p => bodyAt (fragT s.tree) p.1) = some (FUNS.map (·.2.2.2)) := by kernel_rfl
theorem run_top (w : World) (os : OsState) : (topQ w os).map (FF w) = some (true, openGood qv looseL, FUNS.map (·.2.2.2)) := FF_of (top1 w os) (top2 w os) (top3 w os)
end N226
end
noncomputable section
open PySem PySem.W PySem.Calls PyProof.Rows
set_option maxRecDepth 100000
namespace N226
theorem open0 : opening PW = plainProg PW.main.scope.names := by kernel_rfl
theorem fence0 (s : Shared) : fenceModules? PW s = some s := by kernel_rfl
theorem boot_ns (P : Params) : ((boot_heap P).isNs mainGlobals && (Array.mk ([] : List GenState)).size == 0, (boot_heap P).objs.size, (boot_heap P).nsMap mainGlobals "__annotations__") = (true, 11, some (.ref 6)) := by kernel_rfl
theorem boot_ex (w : World) : ∃ s, fencedOpening treeTable PW w 8000 = some s ∧ s.heap = boot_heap w.params ∧ s.gens = Array.mk [] ∧ s.drawn = boot_drawn ∧ s.toks = boot_toks := by
  obtain ⟨s, e, e'⟩ := Option.map_eq_some_iff.mp (boot_open (p := PW) (N := 8000) open0 (by decide) fence0 w)
  exact ⟨s, e, congrArg Prod.fst e', congrArg (fun x => x.2.1) e', congrArg (fun x => x.2.2.1) e', congrArg (fun x => x.2.2.2) e'⟩
noncomputable def bootS (w : World) : Shared := Classical.choose (boot_ex w)
theorem fin_ex (w : World) : ∃ s, topQ w (bootS w).os = some s ∧ FF w s = (true, openGood qv looseL, FUNS.map (·.2.2.2)) := Option.map_eq_some_iff.mp (run_top w (bootS w).os)
noncomputable def finT (w : World) : SharedT := Classical.choose (fin_ex w)
theorem fin_at (w : World) : topQ w (bootS w).os = some (finT w) ∧ FF w (finT w) = (true, openGood qv looseL, FUNS.map (·.2.2.2)) := Classical.choose_spec (fin_ex w)
noncomputable def KW (w : World) : Frag := fragT (finT w).tree
noncomputable def YF (s : Shared) : List (Option Obj) := ASX.map s.heap.get?
noncomputable def YA (w : World) : List (Option Obj) := (KW w).map fun p => some p.2
theorem fin_parts (w : World) : head1 w (finT w).abs = true ∧ aliveT (finT w) = true ∧ baseB (KW w) = true ∧ lawB (KW w) = true ∧ fitB (KW w) = true ∧ openSeen qv looseL modsL (fun _ => true) true (finT w).abs = openGood qv looseL ∧ (FUNS.map fun p => bodyAt (KW w) p.1) = FUNS.map (·.2.2.2) := by
  have h := (fin_at w).2
  have h1 := congrArg Prod.fst h
  have h2 := congrArg (fun x => x.2.1) h
  have h3 := congrArg (fun x => x.2.2) h
  dsimp only at h1 h2 h3
  rw [seenQ_eq] at h2
  simp only [Bool.and_eq_true] at h1
  exact ⟨h1.1.1.1.1, h1.1.1.1.2, h1.1.1.2, h1.1.2, h1.2, h2, h3⟩
theorem ya_of {s : SharedT} (h : aliveT s = true) : YF s.abs = (fragT s.tree).map fun p => some p.2 := by
  unfold YF fragT
  rw [List.map_map]
  refine List.map_congr_left fun a ha => ?_
  have h := List.all_eq_true.mp h a ha
  obtain ⟨h1, h2⟩ := Bool.and_eq_true_iff.mp h
  have lt : a < s.n := Nat.le_of_ble_eq_true h1
  obtain ⟨t, n, life, gens, drawn, toks, os⟩ := s
  dsimp only at h2 lt
  cases g : t.get a with
  | none => rw [g] at h2; cases h2
  | some o =>
    rw [g] at h2
    have e : (absHeap t n life).get? a = alive o := abs_get lt g
    refine e.trans ?_
    simp only [Function.comp, g, Option.getD]
    revert h2
    dsimp only
    unfold alive
    split <;> simp
theorem left_of {w : World} {s : Shared} {f : SharedT} {A : Type} {Y : Shared → A} {y : A} (e : fencedOpening treeTable PW w 8000 = some s) (e1 : s.heap = boot_heap w.params) (e2 : s.gens = Array.mk []) (e3 : s.drawn = boot_drawn) (e4 : s.toks = boot_toks)
    (r : topRun treeTable PW w 11 (some (.ref 6)) 8000 (S0 w s.os).abs (topStub PW) = some f.abs) (p1 : head1 w f.abs = true) (p2 : openSeen qv looseL modsL (fun _ => true) true f.abs = openGood qv looseL) (p3 : Y f.abs = y) :
    (openEnds treeTable PW w 8000).map (fun s => (openSeen qv looseL (importedModules PW.main.body) (fun _ => true) true s, Y s)) = some (openGood qv looseL, y) := by
  obtain ⟨h, gs, d, k, os⟩ := s
  subst e1 e2 e3 e4
  rw [S0_abs] at r
  have z := boot_ns w.params
  have z1 := congrArg Prod.fst z
  have z2 := congrArg (fun x => x.2.1) z
  have z3 := congrArg (fun x => x.2.2) z
  dsimp only at z1 z2 z3
  have p1 : (staticsOk modsL (boot_heap w.params) f.abs.heap && namesBound PW f.abs.heap && gensDone f.abs && laidKept (boot_heap w.params) f.abs.heap) = true := p1
  generalize boot_heap w.params = bh at e r z1 z2 z3 p1
  generalize f.abs = fa at r p1 p2 p3
  have t : topFrom treeTable PW w 8000 ⟨bh, Array.mk [], boot_drawn, boot_toks, os⟩ = some fa := by
    unfold topFrom
    dsimp only
    rw [z1, z2, z3, r]
    dsimp only [Option.bind]
    rw [show (staticsOk (importedModules PW.main.body) bh fa.heap && namesBound PW fa.heap && gensDone fa && laidKept bh fa.heap) = true from p1]
  unfold openEnds
  rw [e, Option.bind_some, t]
  exact congrArg some (Prod.ext p2 p3)
theorem left : LeftO PW qv looseL (fun _ => true) YF YA 8000 := fun w => by
  obtain ⟨e, b1, b2, b3, b4⟩ := Classical.choose_spec (boot_ex w)
  obtain ⟨h1, h2, _, _, _, h6, _⟩ := fin_parts w
  exact left_of e b1 b2 b3 b4 (goQ_top 8000 _ _ _ (fin_at w).1) h1 h6 (ya_of h2)
end N226
end
noncomputable section
open PySem PySem.W PySem.Calls PyProof.Rows
set_option maxRecDepth 100000
namespace N226
noncomputable abbrev R0 : RowW := PySem.Challenge.rw_nt0226_01.row.toRowW
theorem keys_frag (t : BT) : ASX = (fragT t).map (·.1) := by
  unfold fragT
  rw [List.map_map]
  exact (List.map_id ASX).symm
theorem look_frag {t : BT} {a : Addr} (ha : a ∈ ASX) : (fragT t).lookup a = some ((t.get a).getD default) := by
  unfold fragT
  generalize ASX = l at ha
  induction l with
  | nil => cases ha
  | cons b l ih =>
    rw [List.map_cons, List.lookup_cons]
    by_cases e : a = b
    · subst e; simp
    · have : (a == b) = false := by simpa using e
      rw [this]
      exact ih ((List.mem_cons.mp ha).resolve_left e)
noncomputable def H0 (sc : Addr) (ns : List Int) : MH := fun a => if a = sc then some (.slist (intV ns)) else if a = a_EMPTY then some (.cinst c_Special_data) else if a = a_NOTHING then some (.tuple [.int 3, .ref a_EMPTY]) else none
theorem H0_plain {sc : Addr} {ns : List Int} {a : Addr} {o : MO} (h : H0 sc ns a = some o) : (a = sc ∧ o = .slist (intV ns)) ∨ (a = a_EMPTY ∧ o = .cinst c_Special_data) ∨ (a = a_NOTHING ∧ o = .tuple [.int 3, .ref a_EMPTY]) := by
  unfold H0 at h
  split at h
  · rename_i e; cases h; exact .inl ⟨e, rfl⟩
  · split at h
    · rename_i e; cases h; exact .inr (.inl ⟨e, rfl⟩)
    · split at h
      · rename_i e; cases h; exact .inr (.inr ⟨e, rfl⟩)
      · cases h
theorem H0_inst {sc : Addr} {ns : List Int} {a : Addr} : ¬ IsInst (H0 sc ns) a := fun ⟨_, _, e⟩ => by
  rcases H0_plain e with ⟨_, e⟩ | ⟨_, e⟩ | ⟨_, e⟩ <;> cases e
theorem H0_own {δ : Addr → Addr} {sc : Addr} {ns : List Int} {a : Addr} : ¬ Owned δ (H0 sc ns) a := fun h => by
  rcases h with (⟨_, e⟩ | ⟨_, _, e⟩) | ⟨_, e, _⟩
  · rcases H0_plain e with ⟨_, e⟩ | ⟨_, e⟩ | ⟨_, e⟩ <;> cases e
  · rcases H0_plain e with ⟨_, e⟩ | ⟨_, e⟩ | ⟨_, e⟩ <;> cases e
  · exact H0_inst e
theorem ints_er {vs : List Value} {ns : List Int} (h : IntsAre vs ns) : vs.map er = intV ns := by
  induction h with
  | nil => rfl
  | cons _ _ _ ih => unfold intV at ih ⊢; rw [List.map_cons, List.map_cons, ih]; rfl
theorem intV_nj (ns : List Int) : NJ (intV ns) := fun v hv => by
  unfold intV at hv
  obtain ⟨i, _, rfl⟩ := List.mem_map.mp hv
  exact fun e => by cases e
theorem el_of {α : Type} {o : Option α} {f : α → Bool} (h : o.elim false f = true) : ∃ x, o = some x ∧ f x = true := by
  cases o with
  | none => cases h
  | some x => exact ⟨x, rfl, h⟩
theorem base_parts {K : Frag} {h : Heap} (X : K.In h) (b : baseB K = true) : (∃ dx od, h.get? a_EMPTY = some (instObj c_Special_data dx) ∧ h.get? dx = some od) ∧ ∃ vs' n, h.get? a_NOTHING = some { cls := .type "tuple", data := .seq (List.toArray vs') n } ∧ vs'.map er = [.int 3, .ref a_EMPTY] := by
  unfold baseB at b
  constructor
  · replace b := and_l b
    obtain ⟨o, hl, b⟩ := el_of b
    obtain ⟨c, d, dt, sl⟩ := o
    have b1 := and_l b
    have b2 := and_l b1
    cases er_ref (of_decide_eq_true (and_l b2))
    cases plD_of (and_r b2)
    obtain ⟨l⟩ := sl
    cases (List.isEmpty_iff.mp (and_r b1) : l = [])
    obtain ⟨dx, hx, b⟩ := el_of (and_r b)
    cases hx
    obtain ⟨od, hod⟩ := Option.isSome_iff_exists.mp b
    exact ⟨dx, od, X _ _ hl, X _ _ hod⟩
  · replace b := and_r b
    obtain ⟨o, hl, b⟩ := el_of b
    obtain ⟨c, d, dt, sl⟩ := o
    have b1 := and_l b
    have b2 := and_l b1
    cases er_ty (of_decide_eq_true (and_l b2))
    obtain ⟨l⟩ := sl
    cases (List.isEmpty_iff.mp (and_r b2) : l = [])
    cases Option.isNone_iff_eq_none.mp (and_r b1)
    obtain ⟨xs, hx, b⟩ := el_of (and_r b)
    obtain ⟨n, hx⟩ := seqD_of hx
    cases hx
    obtain ⟨vs⟩ := xs
    exact ⟨vs, n, X _ _ hl, of_decide_eq_true b⟩
theorem lay0 {C : Cx} {sc : Addr} {vs : List Value} {ns : List Int} (b : baseB C.K = true) (hl : C.hB.IsList sc vs.toArray) (hi : IntsAre vs ns) : Lay C C.hB id (H0 sc ns) := by
  obtain ⟨b1, vs', n, b2, b3⟩ := base_parts C.X b
  refine ⟨fun _ _ e => e, fun a o e => ?_, fun a _ h => (H0_inst h).elim, fun a h => (H0_inst h).elim⟩
  rcases H0_plain e with ⟨rfl, rfl⟩ | ⟨rfl, rfl⟩ | ⟨rfl, rfl⟩
  · exact ⟨vs, hl, ints_er hi, intV_nj ns⟩
  · exact b1
  · exact ⟨vs', n, b2, b3, fun v hv => by
      rcases List.mem_cons.mp hv with rfl | hv
      · intro e; cases e
      · rcases List.mem_cons.mp hv with rfl | hv
        · intro e; cases e
        · cases hv⟩
theorem room0 : Room callerA (0 + 17) := by
  refine ⟨?_, ?_, rfl⟩ <;> decide
theorem the_call {d : DefRec} {kwd : List (Str × Expr)} (hn : d.name = ⟨#[108, 97, 119]⟩) : WalkX qv looseL (fun _ _ => True) YF YA R0 d kwd fun f vs => PySem.call f vs := by
  intro w s₀ s₁ mg mb G Y fa o pm cd doc dV kV ho hd hcd hD hmg hg args vals as hL hpre hlay hrd hwl hlo
  wrow_args hpre hlay hrd hwl hlo
  rename IntsAre _ _ => hI
  rename Heap.IsList _ _ _ => hS
  rename ¬ (_ < _) => hlen
  rename List Int => ns
  rename_i a vs _ _ _ _ _ _
  clear hd ho hcd hD
  obtain ⟨_, _, p3, p4, p5, _, p7⟩ := fin_parts w
  have X0 : (KW w).In s₀.heap := Frag.in_of (keys_frag _) Y
  have X1 : (KW w).In s₁.heap := X0.keeps hL.keeps
  have there : ∀ b ∈ ASX, ∃ o, s₀.heap.get? b = some o := fun b hb => ⟨_, X0 _ _ (look_frag hb)⟩
  have sm : ∃ o, s₁.heap.get? sysModules = some o := by
    obtain ⟨o, e⟩ := there sysModules (by decide)
    exact ⟨o, hL.keeps _ _ e⟩
  have nl : s₁.heap.NoLimit := (topRead_of G.T).nolimit
  obtain ⟨C, hC1, hC2, hC3, hC4⟩ : ∃ C : Cx, C.prog = PW ∧ C.w = w ∧ C.hB = s₁.heap ∧ C.K = KW w := ⟨⟨PW, w, s₁.heap, KW w, X1, nl, mg, mb, G.T.g, G.T.b, sm⟩, rfl, rfl, rfl, rfl⟩
  have F : Fit C := fit_of (by rw [hC4]; exact p5) (by rw [hC4]; exact p7)
  have hsc := (X.script_at hL).1
  have ne : ∀ b ∈ ASX, b ≠ a := fun b hb e => by
    obtain ⟨o, e'⟩ := there b hb
    rw [e, hsc] at e'
    exact absurd (Heap.lt_size e') (Nat.lt_irrefl _)
  have hB : Base (H0 a ns) := by
    constructor
    · unfold H0; rw [if_neg (ne _ (by decide)), if_pos rfl]
    · unfold H0; rw [if_neg (ne _ (by decide)), if_neg (by decide), if_pos rfl]
  have hf : fa = f_law := by
    have := nsIn_ns X1 G.T.g (of_decide_eq_true p4)
    rw [← hn, hmg] at this
    exact Value.ref.inj (Option.some.inj this)
  subst hf
  have L : Lay C s₁.heap id (H0 a ns) := hC3 ▸ lay0 (C := C) (by rw [hC4]; exact p3) (by rw [hC3]; exact hS) hI
  have key := (wc_law (n := 0) F (Q := fun v _ => v = .bool true) hB (by unfold H0; rw [if_pos rfl]) (by unfold lim; walk_at "O") fun _ => rfl).run callerA s₁ id (.ref f_law) [.ref a] room0 L rfl rfl (fun v hv => by
    obtain rfl := List.mem_singleton.mp hv
    intro e; cases e)
  have hM : C.M = model R0.prog w := by show model C.prog C.w = model PW w; rw [hC1, hC2]
  rw [hM] at key
  refine wpAny_mono key (fun v s' ⟨δ', H', L', K', _, hv⟩ => GoodW.toG ⟨.inl ⟨.bool true, .bool true, [], by rw [er_bool hv], fun _ => rfl, .bool true, ?_, fun _ => ⟨List.nodup_nil, fun _ h => nomatch h⟩⟩, fun b o e => K'.old b o e H0_own id, K'.rest.2.2, K'.rest.1.trans hg⟩) fun _ _ x => x.elim
  wrow_post
noncomputable abbrev RW : OpenLaw := PySem.Challenge.rw_nt0226_01
theorem a1 : sreFenced PW.main = true := by kernel_rfl
theorem a2 : ((moduleNames PW.main.body).isEmpty || lookedIntoSs (moduleNames PW.main.body) PW.main.body) = true := by kernel_rfl
theorem a3 : namesResolve PW = true := by kernel_rfl
theorem a4 : (PW.boundNames.all fun n => !worldNames.contains n) = true := by kernel_rfl
theorem a5 : noRoadLSs { strict := !(importedModules PW.main.body).all cThrough.contains, foot := none, bare := (["vars", "dir", "locals"] : List Str).filter (readsOut PW PW.main.body) } PW.main.body = true := by kernel_rfl
theorem a6 : (namesMeet PW PW.main.body fun _ n => attrL n) = true := by kernel_rfl
theorem b1 : decide (RW.foot ≤ (behindTheImports RW.prog).length) = true := by kernel_rfl
theorem b2 : RW.footing.all footLine = true := by kernel_rfl
theorem b3 : noClassBlock RW.prog RW.footing = true := by kernel_rfl
theorem b4 : noRoadLSs { strict := true, foot := some RW.bound', writes := RW.writes, may := RW.may } RW.footing = true := by kernel_rfl
theorem b5 : defStands RW.about RW.above = true := by kernel_rfl
theorem b6 : RW.namesIt = true := by kernel_rfl
theorem b7 : (RW.bound'.all fun n => !builtinNamed n || RW.about == [n] || !RW.reads n) = true := by kernel_rfl
theorem b8 : (!RW.writes || (RW.prog.main.body.flatMap importedNames).all fun n => !RW.reads n) = true := by kernel_rfl
theorem b9 : ((RW.prog.main.body.flatMap importedNames).all fun n => !RW.reads n || (drawsOf n RW.prog.main.body).all fun mn => mn.2 != ("attrgetter" : Str) && mn.2 != ("methodcaller" : Str)) = true := by kernel_rfl
theorem c1 : namesMeet RW.prog RW.footing (fun sc n => (!(["type", "isinstance", "issubclass", "getattr", "hasattr"] : List Str).contains n || sc.names.lookup n == some .globalImplicit) &&
    (RW.may != some n || sc.kind == .module || sc.names.lookup n == some .globalImplicit)) = true := by kernel_rfl
theorem c2 : (RW.own.contains RW.name && RW.own.eraseDups.length == RW.own.length && RW.own.all (fun n => !builtinNamed n)) = true := by kernel_rfl
theorem c3 : (namesMeet RW.prog RW.above fun _ n => !RW.own.contains n) = true := by kernel_rfl
theorem c4 : (namesMeet RW.prog RW.footing fun sc n => sc.kind == .module || sc.names.lookup n != some .globalExplicit) = true := by kernel_rfl
theorem d1 : looksOpen PW = true := by
  unfold looksOpen
  exact look_both (look_both (look_both (look_both (look_both a1 a2) a3) a4) a5) a6
theorem d2 : looksOpen RW.row.prog = true := d1
theorem said0 : RW.wellSaid = true := by
  unfold OpenLaw.wellSaid OpenRow.wellSaid OpenRow.partSaid
  repeat' (first | with_reducible exact d2 | with_reducible exact b2 | with_reducible exact b3 | with_reducible exact b4 | with_reducible exact b5 | with_reducible exact b6 | with_reducible exact b7 | with_reducible exact b8 | with_reducible exact b9 | with_reducible exact c1 | with_reducible exact c3 | with_reducible exact c4 | with_reducible refine look_both ?_ ?_)
  all_goals kernel_rfl
end N226
end
open PySem PySem.W PySem.Calls PyProof.Rows
open N226 in
set_option maxHeartbeats 8000000 in
theorem PySem.Challenge.cw_nt0226_01_holds : PySem.Challenge.rw_nt0226_01.Holds := by
  refine holds_law N226.said0 fun said => ?_
  refine holds_openX (q := N226.qv) (loose := N226.looseL) (Xt := fun _ => true) (XP := fun _ _ => True) (Yf := N226.YF) (Ya := N226.YA) (N := 8000) N226.left (fun _ _ => trivial) (fun _ _ _ _ _ => trivial) (by rfl) (by rfl) (by rfl) (fun s _ => recFacts_of rfl) (by rfl) said (by decide +kernel) ⟨rfl, rfl, rfl, rfl, rfl, by decide +kernel⟩ ?hw (N226.the_call rfl)
  w_witness2
