import PyProof.Rows.All
import Wide.All
import OpenK.AllK
import Wide.FinOn
import KE.KStateDown
import HandS.ForMost
import HandS.Exc
import HandS.TryOnly
import HandS.TryMany
import HandS.ExcOwn
import HandS.ExcIs
import HandS.ExcValue
import HandS.WordsExc
import HandS.More
import HandS.Defaults
import HandS.Conv
import HandS.SortOrd
import HandS.SortRule
import HandS.Flow
import HandS.HeadHook2
import HandS.Walk
import HandS.Steps
import KE.DataEq
import KE.SortCalls
import KE.DataMinMax
import HandS.SetFor
import HandS.Head0
import HandS.Head1
import HandS.Head2
import HandS.HeadEnd
import HandS.HeadHook1
import HandS.HeadHook3
import HandS.HeadHook4
import PySem.Challenge.RW_typeasks_k22_whole_roads
set_option Elab.async false
set_option linter.all false
set_option maxRecDepth 100000
set_option maxHeartbeats 0
set_option linter.all false
set_option maxHeartbeats 1000000
/-! What a heap holds: what never changes (I), what may change (M). -/
namespace TA
open PySem L2
/-- H holds these, each at a place of its own -/
def Has (H : Hp) : List (Addr × HO) → Prop
  | [] => True
  | (a, o) :: r => H a = some o ∧ Has H r
def Sub (I H : Hp) : Prop := ∀ b o, I b = some o → H b = some o
structure W (I H : Hp) (M : List (Addr × HO)) : Prop where
  sub : Sub I H
  has : Has H M
  out : ∀ p ∈ M, I p.1 = none
  nd : (M.map (·.1)).Nodup
theorem Sub.refl (H : Hp) : Sub H H := fun _ _ h => h
theorem Sub.trans {A B C : Hp} (x : Sub A B) (y : Sub B C) : Sub A C := fun b o h => y b o (x b o h)
theorem Sub.new {I : Hp} {p : Addr} {o : HO} (h : I p = none) : Sub I (upd I p o) := fun b u q => by
  have : b ≠ p := fun z => by rw [z, h] at q; cases q
  rw [upd_ne this]; exact q
theorem has_mem {H : Hp} : ∀ {M : List (Addr × HO)}, Has H M → ∀ p ∈ M, H p.1 = some p.2
  | (a, o) :: r, h, p, hp => by
    rcases List.mem_cons.mp hp with e | hp
    · rw [e]; exact h.1
    · exact has_mem h.2 p hp
theorem has_of {H : Hp} : ∀ {M : List (Addr × HO)}, (∀ p ∈ M, H p.1 = some p.2) → Has H M
  | [], _ => trivial
  | (a, o) :: r, h => ⟨h (a, o) List.mem_cons_self, has_of fun p hp => h p (List.mem_cons_of_mem _ hp)⟩
theorem has_upd {H : Hp} {a : Addr} {o : HO} {M : List (Addr × HO)} (h : Has H M) (n : ∀ p ∈ M, p.1 ≠ a) : Has (upd H a o) M :=
  has_of fun p hp => by rw [upd_ne (n p hp)]; exact has_mem h p hp
section
variable {I H : Hp} {M : List (Addr × HO)} {p : Addr} {o o' : HO}
theorem W.start (H : Hp) : W H H [] := ⟨Sub.refl H, trivial, fun p hp => (by cases hp), List.nodup_nil⟩
theorem W.imm (w : W I H M) (h : I p = some o) : H p = some o := w.sub p o h
theorem W.noI (w : W I H M) (h : H p = none) : I p = none := by
  cases q : I p with
  | none => rfl
  | some o => rw [w.sub p o q] at h; cases h
theorem W.noM (w : W I H M) (h : H p = none) : ∀ x ∈ M, x.1 ≠ p := fun x hx z => by
  have := has_mem w.has x hx
  rw [z, h] at this; cases this
/-- a new object that will not change -/
theorem W.newI (w : W I H M) (h : H p = none) : W (upd I p o) (upd H p o) M where
  sub := fun b u q => by
    by_cases e : b = p
    · subst e; rw [upd_same] at q ⊢; exact q
    · rw [upd_ne e] at q ⊢; exact w.sub b u q
  has := has_upd w.has (w.noM h)
  out := fun x hx => by rw [upd_ne (w.noM h x hx)]; exact w.out x hx
  nd := w.nd
/-- a new object that may change -/
theorem W.newM (w : W I H M) (h : H p = none) : W I (upd H p o) ((p, o) :: M) where
  sub := fun b u q => by
    have := w.sub b u q
    have e : b ≠ p := fun z => by rw [z, h] at this; cases this
    rw [upd_ne e]; exact this
  has := ⟨upd_same, has_upd w.has (w.noM h)⟩
  out := fun x hx => by
    rcases List.mem_cons.mp hx with e | hx
    · rw [e]; exact w.noI h
    · exact w.out x hx
  nd := List.nodup_cons.mpr ⟨fun hm => by
    obtain ⟨x, hx, e⟩ := List.mem_map.mp hm
    exact w.noM h x hx e, w.nd⟩
/-- a new object that nobody asks for -/
theorem W.skip (w : W I H M) (h : H p = none) : W I (upd H p o) M :=
  let v := w.newM (o := o) h
  ⟨v.sub, v.has.2, w.out, w.nd⟩
/-- the first of those that may change is changed -/
theorem W.put (w : W I H ((p, o) :: M)) : W I (upd H p o') ((p, o') :: M) where
  sub := fun b u q => by
    have e : b ≠ p := fun z => by rw [z, w.out (p, o) List.mem_cons_self] at q; cases q
    rw [upd_ne e]; exact w.sub b u q
  has := ⟨upd_same, has_upd w.has.2 fun x hx z => (List.nodup_cons.mp w.nd).1 (List.mem_map.mpr ⟨x, hx, z⟩)⟩
  out := fun x hx => by
    rcases List.mem_cons.mp hx with e | hx
    · rw [e]; exact w.out (p, o) List.mem_cons_self
    · exact w.out x (List.mem_cons_of_mem _ hx)
  nd := w.nd
/-- the first one will not change any more -/
theorem W.freeze (w : W I H ((p, o) :: M)) : W (upd I p o) H M where
  sub := fun b u q => by
    by_cases e : b = p
    · subst e; rw [upd_same] at q; cases q; exact w.has.1
    · rw [upd_ne e] at q; exact w.sub b u q
  has := w.has.2
  out := fun x hx => by
    have : x.1 ≠ p := fun z => (List.nodup_cons.mp w.nd).1 (List.mem_map.mpr ⟨x, hx, z⟩)
    rw [upd_ne this]; exact w.out x (List.mem_cons_of_mem _ hx)
  nd := (List.nodup_cons.mp w.nd).2
theorem W.drop (w : W I H ((p, o) :: M)) : W I H M := ⟨w.sub, w.has.2, fun x hx => w.out x (List.mem_cons_of_mem _ hx), (List.nodup_cons.mp w.nd).2⟩
theorem W.perm {M' : List (Addr × HO)} (w : W I H M) (e : M'.Perm M) : W I H M' :=
  ⟨w.sub, has_of fun x hx => has_mem w.has x (e.mem_iff.mp hx), fun x hx => w.out x (e.mem_iff.mp hx), (e.map _).nodup_iff.mpr w.nd⟩
theorem W.swap {q : Addr} {u : HO} (w : W I H ((p, o) :: (q, u) :: M)) : W I H ((q, u) :: (p, o) :: M) := w.perm (List.Perm.swap _ _ _)
theorem W.rot {q r : Addr} {u v : HO} (w : W I H ((p, o) :: (q, u) :: (r, v) :: M)) : W I H ((r, v) :: (p, o) :: (q, u) :: M) :=
  w.perm ((List.Perm.swap _ _ _).trans (List.Perm.cons _ (List.Perm.swap _ _ _)))
/-- nothing that was there has changed -/
theorem W.same {H' : Hp} (w : W I H M) (s : Same H H') : W I H' M :=
  ⟨fun b o q => s b o (w.sub b o q), has_of fun x hx => s _ _ (has_mem w.has x hx), w.out, w.nd⟩
/-- less is known to stay -/
theorem W.less {J : Hp} (w : W I H M) (s : Sub J I) : W J H M :=
  ⟨s.trans w.sub, w.has, (fun x hx => by
    cases q : J x.1 with
    | none => rfl
    | some o => have := s _ _ q; rw [w.out x hx] at this; cases this), w.nd⟩
end
theorem nodup_ix_any {α : Type} : ∀ {l : List α} {i j : Nat} {x : α}, l.Nodup → l[i]? = some x → l[j]? = some x → i = j
  | [], _, _, _, _, h, _ => by simp at h
  | y :: l, 0, 0, _, _, _, _ => rfl
  | y :: l, 0, j + 1, x, n, h1, h2 => by
    simp at h1; subst h1
    exact absurd (List.mem_of_getElem? (show l[j]? = some y by simpa using h2)) (List.nodup_cons.mp n).1
  | y :: l, i + 1, 0, x, n, h1, h2 => by
    simp at h2; subst h2
    exact absurd (List.mem_of_getElem? (show l[i]? = some y by simpa using h1)) (List.nodup_cons.mp n).1
  | y :: l, i + 1, j + 1, x, n, h1, h2 => by
    rw [nodup_ix_any (List.nodup_cons.mp n).2 (show l[i]? = some x by simpa using h1) (show l[j]? = some x by simpa using h2)]
theorem sel_mem {L : List (Addr × HO)} : ∀ {is : List Nat} {x : Addr × HO}, x ∈ is.filterMap (fun i => L[i]?) → ∃ i, i ∈ is ∧ L[i]? = some x := fun {is x} h => by
  obtain ⟨i, hi, e⟩ := List.mem_filterMap.mp h
  exact ⟨i, hi, e⟩
theorem sel_nodup {L : List (Addr × HO)} (hL : (L.map (·.1)).Nodup) : ∀ {is : List Nat}, is.Nodup → ((is.filterMap fun i => L[i]?).map (·.1)).Nodup
  | [], _ => List.nodup_nil
  | i :: is, h => by
    obtain ⟨h1, h2⟩ := List.nodup_cons.mp h
    have ih := sel_nodup hL h2
    cases e : L[i]? with
    | none => rw [List.filterMap_cons_none e]; exact ih
    | some x =>
      rw [List.filterMap_cons_some e, List.map_cons]
      refine List.nodup_cons.mpr ⟨fun hm => ?_, ih⟩
      obtain ⟨y, hy, ey⟩ := List.mem_map.mp hm
      obtain ⟨j, hj, e2⟩ := sel_mem hy
      have a1 : (L.map (·.1))[i]? = some x.1 := by rw [List.getElem?_map, e]; rfl
      have a2 : (L.map (·.1))[j]? = some x.1 := by rw [List.getElem?_map, e2, ← ey]; rfl
      have := nodup_ix_any hL a1 a2
      exact h1 (this ▸ hj)
/-- some of those that may change, in another order -/
theorem W.sel {I H : Hp} {T : List (Addr × HO)} (L : List (Addr × HO)) (w : W I H (L ++ T)) (is : List Nat) (h : is.Nodup := by decide) : W I H ((is.filterMap fun i => L[i]?) ++ T) where
  sub := w.sub
  has := has_of fun x hx => by
    rcases List.mem_append.mp hx with q | q
    · obtain ⟨i, _, e⟩ := sel_mem q
      exact has_mem w.has x (List.mem_append_left _ (List.mem_of_getElem? e))
    · exact has_mem w.has x (List.mem_append_right _ q)
  out := fun x hx => by
    rcases List.mem_append.mp hx with q | q
    · obtain ⟨i, _, e⟩ := sel_mem q
      exact w.out x (List.mem_append_left _ (List.mem_of_getElem? e))
    · exact w.out x (List.mem_append_right _ q)
  nd := by
    have hn := w.nd
    rw [List.map_append] at hn ⊢
    obtain ⟨n1, n2, n3⟩ := List.nodup_append.mp hn
    refine List.nodup_append.mpr ⟨sel_nodup n1 h, n2, fun a ha b hb => ?_⟩
    obtain ⟨x, hx, rfl⟩ := List.mem_map.mp ha
    obtain ⟨i, _, e⟩ := sel_mem hx
    exact n3 _ (List.mem_map.mpr ⟨x, List.mem_of_getElem? e, rfl⟩) b hb
/-! ### attributes: names and values side by side -/
theorem lookup_zip : ∀ {ns : List Str} {vs : List V} (i : Nat) {a : Str} {v : V}, ns.Nodup → ns[i]? = some a → vs[i]? = some v → (ns.zip vs).lookup a = some v
  | [], _, _, _, _, _, h, _ => by simp at h
  | _ :: _, [], _, _, _, _, _, h => by simp at h
  | n :: ns, w :: vs, 0, a, v, nd, h1, h2 => by
    simp at h1 h2; subst h1; subst h2
    simp [List.zip_cons_cons, List.lookup]
  | n :: ns, w :: vs, i + 1, a, v, nd, h1, h2 => by
    have h1' : ns[i]? = some a := by simpa using h1
    have h2' : vs[i]? = some v := by simpa using h2
    have : (a == n) = false := by
      have hm : a ∈ ns := List.mem_of_getElem? h1'
      have : a ≠ n := fun z => (List.nodup_cons.mp nd).1 (z ▸ hm)
      simpa using this
    rw [List.zip_cons_cons, List.lookup, this]
    exact lookup_zip i (List.nodup_cons.mp nd).2 h1' h2'
theorem lookup_out : ∀ {ns : List Str} {vs : List V} {a : Str}, a ∉ ns → (ns.zip vs).lookup a = none
  | [], _, _, _ => by simp
  | _ :: _, [], _, _ => by simp
  | n :: ns, w :: vs, a, h => by
    have : (a == n) = false := by simpa using fun z : a = n => h (z ▸ List.mem_cons_self)
    rw [List.zip_cons_cons, List.lookup, this]
    exact lookup_out fun hm => h (List.mem_cons_of_mem _ hm)
theorem putF_zip : ∀ {ns : List Str} {vs : List V} (i : Nat) {a : Str} {x : V}, ns.Nodup → ns[i]? = some a → i < vs.length → putF a x (ns.zip vs) = ns.zip (vs.set i x)
  | [], _, _, _, _, _, h, _ => by simp at h
  | _ :: _, [], _, _, _, _, _, h => by simp at h
  | n :: ns, w :: vs, 0, a, x, nd, h1, h2 => by
    simp at h1; subst h1
    simp [List.zip_cons_cons, putF]
  | n :: ns, w :: vs, i + 1, a, x, nd, h1, h2 => by
    have h1' : ns[i]? = some a := by simpa using h1
    have : n ≠ a := by
      have hm : a ∈ ns := List.mem_of_getElem? h1'
      exact fun z => (List.nodup_cons.mp nd).1 (z ▸ hm)
    rw [List.zip_cons_cons, putF, if_neg this, putF_zip i (List.nodup_cons.mp nd).2 h1' (by simpa using h2)]
    rfl
theorem lt_putF {f : Str} {v : V} {fs : List (Str × V)} {m : Nat} (h : fs.length < m) : (putF f v fs).length < m + 1 := by
  have := length_putF f v fs
  omega
theorem lt0 : ([] : List (Str × V)).length < 1 := Nat.zero_lt_one
theorem ite_and2 {p q : Prop} [Decidable p] [Decidable q] {A B : Prop} (h : ¬ (p ∧ q)) (b : B) : if decide p = true then (if decide q = true then A else B) else B := by
  by_cases hp : p
  · rw [if_pos (decide_eq_true hp), if_neg (by rw [decide_eq_false fun hq => h ⟨hp, hq⟩]; decide)]; exact b
  · rw [if_neg (by rw [decide_eq_false hp]; decide)]; exact b
theorem ite_t {p : Prop} [Decidable p] {A B : Prop} (h : p) (a : A) : if decide p = true then A else B := by rw [if_pos (decide_eq_true h)]; exact a
theorem ite_f {p : Prop} [Decidable p] {A B : Prop} (h : ¬ p) (b : B) : if decide p = true then A else B := by rw [if_neg (by rw [decide_eq_false h]; decide)]; exact b
theorem ite_nt {p : Prop} [Decidable p] {A B : Prop} (h : p) (b : B) : if (!decide p) = true then A else B := by rw [if_neg (by rw [decide_eq_true h]; decide)]; exact b
theorem ite_nf {p : Prop} [Decidable p] {A B : Prop} (h : ¬ p) (a : A) : if (!decide p) = true then A else B := by rw [if_pos (by rw [decide_eq_false h]; decide)]; exact a
end TA

set_option linter.all false
set_option maxHeartbeats 2000000
/-! Rules with readings over tracked objects alone. -/
namespace TA
open PySem PySem.Spec L2
section
variable {X : Cx} {e : Expr} {es : List Expr}
theorem PE_imp {t t' : TE} (h : PE X e t) (k : ∀ σ H Q, t' σ H Q → t σ H Q) : PE X e t' := ⟨fun pins s σ H Q I q => h.run pins s σ H Q I (k σ H Q q)⟩
theorem PT_imp {t t' : TT} (h : PT X e t) (k : ∀ σ H Q, t' σ H Q → t σ H Q) : PT X e t' := ⟨fun pins s σ H Q I q => h.run pins s σ H Q I (k σ H Q q)⟩
theorem PS_imp {st : Stmt} {t t' : TS} (h : PS X st t) (k : ∀ D σ H, t' D σ H → t D σ H) : PS X st t' := ⟨fun pins s σ H D I q => h.run pins s σ H D I (k D σ H q)⟩
theorem PI_imp {tg : Expr} {t t' : TI} (h : PI X tg e t) (k : ∀ σ H R, t' σ H R → t σ H R) : PI X tg e t' := ⟨fun pins s σ H R I q => h.run pins s σ H R I (k σ H R q)⟩
theorem PG_imp {t t' : TG} (h : PG X e t) (k : ∀ v σ H Q, t' v σ H Q → t v σ H Q) : PG X e t' := ⟨fun pins s σ H v u Q I r q => h.run pins s σ H v u Q I r (k v σ H Q q)⟩
/-- the monotone closure of a reading -/
def mo (t : TE) : TE := fun σ H Q => ∃ Q1 : VK, t σ H Q1 ∧ ∀ x H', Q1 x H' → Q x H'
theorem PE_mo {t : TE} (h : PE X e t) : PE X e (mo t) := ⟨fun pins s σ H Q I q => by
  obtain ⟨Q1, q1, k⟩ := q
  exact thn (h.run pins s σ H Q1 I q1) fun u s' ⟨v, H', I', r, z⟩ => ⟨v, H', I', r, k v H' z⟩⟩
theorem OpR_imp {f : Value → Value → Sem Value} {r r' : R2} (h : OpR X f r) (k : ∀ x y H Q, r' x y H Q → r x y H Q) : OpR X f r' :=
  fun pins s σ H x y v u Q I rx ry q => h pins s σ H x y v u Q I rx ry (k x y H Q q)
theorem IxR_imp {r r' : R2} (h : IxR X r) (k : ∀ x y H Q, r' x y H Q → r x y H Q) : IxR X r' :=
  fun a b pins s σ H x y v u Q I rx ry q => h a b pins s σ H x y v u Q I rx ry (k x y H Q q)
theorem CallR_imp {f : Value} {r r' : List V → Hp → VK → Prop} (h : CallR X f r) (k : ∀ xs H Q, r' xs H Q → r xs H Q) : CallR X f r' :=
  fun pins s σ H xs us Q I rx q => h pins s σ H xs us Q I rx (k xs H Q q)
theorem MtR_imp {id : String} {r r' : V → List V → Hp → VK → Prop} (h : MtR X id r) (k : ∀ x xs H Q, r' x xs H Q → r x xs H Q) : MtR X id r' :=
  fun pins s σ H x xs v us Q I rx ry q => h pins s σ H x xs v us Q I rx ry (k x xs H Q q)
theorem SlR_imp {r r' : V → Option Int → Option Int → Hp → VK → Prop} (h : SlR X r) (k : ∀ x lo hi H Q, r' x lo hi H Q → r x lo hi H Q) : SlR X r' :=
  fun pins s σ H x v vl vu lo hi sl Q I rx a b c q => h pins s σ H x v vl vu lo hi sl Q I rx a b c (k x lo hi H Q q)
end
/-! ### fields -/
def fFld (C : Addr) (f : Str) (ta : TE) : TE := fun σ H Q => ta σ H fun x H1 => ∃ a dx fs v, x = .ref a ∧ H1 a = some (.ins C dx fs) ∧ fs.lookup f = some v ∧ Q v H1
def fSet (C : Addr) (f : Str) (ta tv : TE) : TS := fun D σ H => tv σ H fun y H1 => ta σ H1 fun x H2 => ∃ a dx fs, x = .ref a ∧ H2 a = some (.ins C dx fs) ∧ fs.length < 1000 ∧ D.nx σ (upd H2 a (.ins C dx (putF f y fs)))
section
variable {X : Cx} {o e value : Expr} {f : Str} {pos pos' : Pos} {ta tv : TE} {C : Addr}
theorem pe_fldC (c : Cls X.K C) (n : NoAttr X.K C f) (he : PE X e ta) (hb : attributeBase e f X.env (eval e X.env) = eval e X.env) : PE X (.Attribute e f pos) (fFld C f ta) :=
  PE_imp (pe_fld (PE_mo he) hb) fun _ _ _ h => ⟨_, h, fun _ _ ⟨a, dx, fs, v, z1, z2, z3, z4⟩ => ⟨a, C, dx, fs, v, z1, z2, c, n, z3, z4⟩⟩
theorem ps_fldC (c : Cls X.K C) (n : NoAttr X.K C f) (ha : PE X o ta) (hv : PE X value tv) (hs : swapsWith value (some (.Attribute o f pos')) pos.line X.env = pure false) : PS X (.Assign [.Attribute o f pos'] value pos) (fSet C f ta tv) :=
  PS_imp (ps_fld (PE_mo ha) (PE_mo hv) hs) fun _ _ _ h => ⟨_, h, fun _ _ h2 => ⟨_, h2, fun _ _ ⟨a, dx, fs, z1, z2, z3, z4⟩ => ⟨a, C, dx, fs, z1, z2, c, n, z3, z4⟩⟩⟩
end
/-! ### subscripts, slices -/
def gIxL : R2 := fun x y H Q => ∃ p xs i v, x = .ref p ∧ y = .int i ∧ H p = some (.lst xs) ∧ atI xs i = some v ∧ Q v H
def gIxT : R2 := fun x y H Q => ∃ p xs i v, x = .ref p ∧ y = .int i ∧ H p = some (.tup xs) ∧ atI xs i = some v ∧ Q v H
def gSlL : V → Option Int → Option Int → Hp → VK → Prop := fun x lo hi H Q => ∃ a xs, x = .ref a ∧ H a = some (.lst xs) ∧ ∀ p, H p = none → Q (.ref p) (upd H p (.lst (cutV xs lo hi)))
section
variable {X : Cx}
theorem ixL : IxR X gIxL := IxR_imp ix_list fun _ _ _ _ ⟨p, xs, i, v, a, b, c, d, e⟩ => ⟨p, xs, i, v, a, b, SqL.of c, d, e⟩
theorem ixT : IxR X gIxT := IxR_imp ix_tup fun _ _ _ _ ⟨p, xs, i, v, a, b, c, d, e⟩ => ⟨p, xs, i, v, a, b, SqT.of c, d, e⟩
theorem slL : SlR X gSlL := SlR_imp sl_list fun _ _ _ _ _ ⟨a, xs, x1, x2, x3⟩ => ⟨a, xs, x1, SqL.of x2, x3⟩
end
/-! ### in, len, list(..), truth -/
def gInL (neg : Bool) : R2 := fun x y H Q => ∃ p xs, y = .ref p ∧ H p = some (.lst xs) ∧ flatV x = true ∧ xs.all flatV = true ∧ Q (.bl (if neg then !inV x xs else inV x xs)) H
def gInT (neg : Bool) : R2 := fun x y H Q => ∃ p xs, y = .ref p ∧ H p = some (.tup xs) ∧ flatV x = true ∧ xs.all flatV = true ∧ Q (.bl (if neg then !inV x xs else inV x xs)) H
def gLenL : List V → Hp → VK → Prop := fun xs H Q => ∃ p ys, xs = [.ref p] ∧ H p = some (.lst ys) ∧ Q (.int ys.length) H
def gLenT : List V → Hp → VK → Prop := fun xs H Q => ∃ p ys, xs = [.ref p] ∧ H p = some (.tup ys) ∧ Q (.int ys.length) H
def gLenS : List V → Hp → VK → Prop := fun xs H Q => ∃ z, xs = [.str z] ∧ z.length ≤ sizeLine ∧ Q (.int z.length) H
def gListL : List V → Hp → VK → Prop := fun xs H Q => ∃ p ys, xs = [.ref p] ∧ H p = some (.lst ys) ∧ ∀ l, H l = none → Q (.ref l) (upd H l (.lst ys))
def gListT : List V → Hp → VK → Prop := fun xs H Q => ∃ p ys, xs = [.ref p] ∧ H p = some (.tup ys) ∧ ∀ l, H l = none → Q (.ref l) (upd H l (.lst ys))
def gTupL : List V → Hp → VK → Prop := fun xs H Q => ∃ p ys, xs = [.ref p] ∧ H p = some (.lst ys) ∧ ∀ l, H l = none → Q (.ref l) (upd H l (.tup ys))
def gAll : List V → Hp → VK → Prop := fun vs H Q => ∃ (a : Addr) (bs : List Bool), vs = [V.ref a] ∧ H a = some (.lst (bs.map V.bl)) ∧ Q (.bl (bs.all id)) H
section
variable {X : Cx}
theorem inL : OpR X (compareOp .In) (gInL false) := OpR_imp op_in_seq fun _ _ _ _ ⟨p, xs, a, b, c, d, e⟩ => ⟨p, xs, a, .inl (SqL.of b), c, d, e⟩
theorem ninL : OpR X (compareOp .NotIn) (gInL true) := OpR_imp op_notIn_seq fun _ _ _ _ ⟨p, xs, a, b, c, d, e⟩ => ⟨p, xs, a, .inl (SqL.of b), c, d, e⟩
theorem inT : OpR X (compareOp .In) (gInT false) := OpR_imp op_in_seq fun _ _ _ _ ⟨p, xs, a, b, c, d, e⟩ => ⟨p, xs, a, .inr (SqT.of b), c, d, e⟩
theorem ninT : OpR X (compareOp .NotIn) (gInT true) := OpR_imp op_notIn_seq fun _ _ _ _ ⟨p, xs, a, b, c, d, e⟩ => ⟨p, xs, a, .inr (SqT.of b), c, d, e⟩
theorem lenL : CallR X (.builtin "len") gLenL := CallR_imp call_len_seq fun _ _ _ ⟨p, ys, a, b, c⟩ => ⟨p, ys, a, .inl (SqL.of b), c⟩
theorem lenT : CallR X (.builtin "len") gLenT := CallR_imp call_len_seq fun _ _ _ ⟨p, ys, a, b, c⟩ => ⟨p, ys, a, .inr (SqT.of b), c⟩
theorem lenS : CallR X (.builtin "len") gLenS := call_len_str
theorem listL : CallR X (.type "list") gListL := CallR_imp call_list_of fun _ _ _ ⟨p, ys, a, b, c⟩ => ⟨p, ys, a, .inl (SqL.of b), c⟩
theorem listT : CallR X (.type "list") gListT := CallR_imp call_list_of fun _ _ _ ⟨p, ys, a, b, c⟩ => ⟨p, ys, a, .inr (SqT.of b), c⟩
theorem tupL : CallR X (.type "tuple") gTupL := CallR_imp call_tuple_of fun _ _ _ ⟨p, ys, a, b, c⟩ => ⟨p, ys, a, .inl ⟨SqL.of b, c⟩⟩
theorem allL (hc : X.calm = true) : CallR X (.builtin "all") gAll := CallR_imp (cr_all hc) fun _ _ _ ⟨a, bs, x, y, z⟩ => ⟨a, bs, x, SqL.of y, z⟩
end
/-- truth -/
def gTru (x : V) (H : Hp) (k : Bool) : Prop := match x with
  | .non => k = false
  | .bl b => k = b
  | .int i => k = (i != 0)
  | .ref p => (∃ xs, H p = some (.lst xs) ∧ k = !xs.isEmpty) ∨ (∃ xs, H p = some (.tup xs) ∧ k = !xs.isEmpty) ∨ ∃ kvs, H p = some (.dK kvs) ∧ k = !kvs.isEmpty
  | _ => False
def fTru (ta : TE) : TT := fun σ H Q => ta σ H fun x H' => ∃ k, gTru x H' k ∧ Q k H'
theorem tru_up {K : PySem.W.Frag} : ∀ {x : V} {H : Hp} {k : Bool}, gTru x H k → TruV K x H k
  | .non, _, _, h => h
  | .bl _, _, _, h => h
  | .int _, _, _, h => h
  | .ref p, _, _, h => by
    rcases h with ⟨xs, a, b⟩ | ⟨xs, a, b⟩ | h
    · exact .inl ⟨xs, SqL.of a, b⟩
    · exact .inr (.inl ⟨xs, SqT.of a, b⟩)
    · exact .inr (.inr h)
theorem pt_tru {X : Cx} {a : Expr} {ta : TE} (ha : PE X a ta) (he : ∀ whole, isTrue a X.env whole = (do let v ← whole; standAt a.pos; holding [v] (truthy v)) := by intro _; rfl) : PT X a (fTru ta) :=
  PT_imp (pt_truth (PE_mo ha) he) fun _ _ _ h => ⟨_, h, fun _ _ ⟨k, z, q⟩ => ⟨k, tru_up z, q⟩⟩
/-! ### methods of built-in types -/
def gTy (T : String) (x : V) (H : Hp) : Prop := match x with
  | .str _ => T = "str"
  | .int _ => T = "int"
  | .ref p => (T = "list" ∧ ∃ xs, H p = some (.lst xs)) ∨ (T = "dict" ∧ ∃ kvs, H p = some (.dK kvs))
  | _ => False
theorem ty_up {K : PySem.W.Frag} {T : String} : ∀ {x : V} {H : Hp}, gTy T x H → tyV K T x H
  | .str _, _, h => h
  | .int _, _, h => h
  | .ref p, _, h => by
    rcases h with ⟨a, xs, b⟩ | ⟨a, xs, b⟩
    · exact .inl ⟨a, xs, SqL.of b⟩
    · exact .inr (.inr (.inl ⟨a, .inl ⟨xs, b⟩⟩))
def fBM0 (T : String) (r : V → List V → Hp → VK → Prop) (to : TE) : TE := fun σ H Q => to σ H fun x H1 => gTy T x H1 ∧ r x [] H1 Q
def fBM (T : String) (r : V → List V → Hp → VK → Prop) (to : TE) (t : TA) : TE := fun σ H Q => to σ H fun x H1 => gTy T x H1 ∧ t σ H1 fun xs H2 => r x xs H2 Q
section
variable {X : Cx} {o e : Expr} {es : List Expr} {to : TE} {t : TA} {name : Str} {apos cpos : Pos} {T id : String} {r : V → List V → Hp → VK → Prop}
theorem pe_bm0C (pa : PlainAttrs T) (slot : Slot T name id) (hty : typeOf (.builtin id) = pure (.type "method_descriptor")) (hm : MtR X id r) (ho : PE X o to)
    (hbase : attributeBase o name X.env (eval o X.env) = eval o X.env := by rfl) (hline : (apos.endLine == cpos.line) = true := by rfl) : PE X (.Call (.Attribute o name apos) [] [] cpos) (fBM0 T r to) :=
  PE_imp (pe_bm0 pa slot hty hm (PE_mo ho) hbase hline) fun _ _ _ h => ⟨_, h, fun _ _ ⟨a, b⟩ => ⟨ty_up a, b⟩⟩
theorem pe_bmC (pa : PlainAttrs T) (slot : Slot T name id) (hty : typeOf (.builtin id) = pure (.type "method_descriptor")) (hm : MtR X id r) (ho : PE X o to) (ha : PA X (e :: es) t)
    (hbase : attributeBase o name X.env (eval o X.env) = eval o X.env := by rfl)
    (hfew : ((backTo cpos (starEach (e :: es) X.env)).all (fun x => !x.1) && (backToKw cpos (keywordEach [] X.env)).all (fun x => x.1.isSome)
      && decide ((e :: es).length + ([] : List Keyword).length + (if ([] : List Keyword).isEmpty then 0 else 1) < 30)) = true := by rfl)
    (hline : (apos.endLine == cpos.line) = true := by rfl) (hs : starEach (e :: es) X.env = (false, eval e X.env) :: starEach es X.env := by rfl) (hplain : (backTo cpos (starEach es X.env)).any (·.1) = false := by rfl) :
    PE X (.Call (.Attribute o name apos) (e :: es) [] cpos) (fBM T r to t) :=
  PE_imp (pe_bm pa slot hty hm (PE_mo ho) ha hbase hfew hline hs hplain) fun _ _ _ h => ⟨_, h, fun _ _ ⟨a, b⟩ => ⟨ty_up a, b⟩⟩
end
/-! ### walks, targets -/
def moA (t : TA) : TA := fun σ H Q => ∃ Q1 : List V → Hp → Prop, t σ H Q1 ∧ ∀ x H', Q1 x H' → Q x H'
theorem PA_mo {X : Cx} {es : List Expr} {t : TA} (h : PA X es t) : PA X es (moA t) := ⟨fun pos pins s σ H Q I q => by
  obtain ⟨Q1, q1, k⟩ := q
  exact thn (h.run pos pins s σ H Q1 I q1) fun u s' ⟨v, H', I', r, z⟩ => ⟨v, H', I', r, k v H' z⟩⟩
/-- what a loop over the list xs at a asks -/
def LoopL (g : TG) (tb : TS) (a : Addr) (xs : List V) (D : Ends) (σ : St) (H : Hp) : Prop :=
  ∃ Pv : Nat → St → Hp → Prop, Pv 0 σ H ∧ (∀ i σ H, i ≤ xs.length → Pv i σ H → H a = some (.lst xs)) ∧
    (∀ i x σ H, xs[i]? = some x → Pv i σ H → g x σ H fun σ2 H2 => tb { D with nx := Pv (i + 1), ct := Pv (i + 1), bk := D.nx } σ2 H2) ∧ ∀ σ H, Pv xs.length σ H → D.nx σ H
def LoopR (g : TG) (tb : TS) (lo : Int) (n : Nat) (D : Ends) (σ : St) (H : Hp) : Prop :=
  ∃ Pv : Nat → St → Hp → Prop, Pv 0 σ H ∧ (∀ (i : Nat) σ H, i < n → Pv i σ H → g (.int (lo + i)) σ H fun σ2 H2 => tb { D with nx := Pv (i + 1), ct := Pv (i + 1), bk := D.nx } σ2 H2) ∧ ∀ σ H, Pv n σ H → D.nx σ H
def fForL (tl : TE) (g : TG) (tb : TS) : TS := fun D σ H => tl σ H fun x H1 => ∃ a xs, x = .ref a ∧ H1 a = some (.lst xs) ∧ LoopL g tb a xs D σ H1
def fForT (tl : TE) (g : TG) (tb : TS) : TS := fun D σ H => tl σ H fun x H1 => ∃ a xs, x = .ref a ∧ H1 a = some (.tup xs) ∧
  ∃ Pv : Nat → St → Hp → Prop, Pv 0 σ H1 ∧ (∀ i σ H, i ≤ xs.length → Pv i σ H → H a = some (.tup xs)) ∧
    (∀ i x σ H, xs[i]? = some x → Pv i σ H → g x σ H fun σ2 H2 => tb { D with nx := Pv (i + 1), ct := Pv (i + 1), bk := D.nx } σ2 H2) ∧ ∀ σ H, Pv xs.length σ H → D.nx σ H
def fForS (tl : TE) (g : TG) (tb : TS) : TS := fun D σ H => tl σ H fun x H1 => ∃ z : Str, x = .str z ∧
  ∃ Pv : Nat → St → Hp → Prop, Pv 0 σ H1 ∧ (∀ (i c : Nat) σ H, z.cps.toList[i]? = some c → Pv i σ H → g (.str ⟨#[c]⟩) σ H fun σ2 H2 => tb { D with nx := Pv (i + 1), ct := Pv (i + 1), bk := D.nx } σ2 H2) ∧ ∀ σ H, Pv z.cps.size σ H → D.nx σ H
def fForR1 (ta : TA) (g : TG) (tb : TS) : TS := fun D σ H => ta σ H fun vs H1 => ∃ j : Int, vs = [.int j] ∧ -(2 ^ 62) ≤ j ∧ j < 2 ^ 62 ∧ LoopR g tb 0 j.toNat D σ H1
def fForR2 (ta : TA) (g : TG) (tb : TS) : TS := fun D σ H => ta σ H fun vs H1 => ∃ i j : Int, vs = [.int i, .int j] ∧ (-(2 ^ 62) ≤ i ∧ i < 2 ^ 62 ∧ -(2 ^ 62) ≤ j ∧ j < 2 ^ 62) ∧ LoopR g tb i (j - i).toNat D σ H1
section
variable {X : Cx} {tg iter a b : Expr} {body : List Stmt} {tl : TE} {ta : TA} {g : TG} {tb : TS} {pos p p2 : Pos}
theorem ps_forL (hp : PassesOwn (model X.prog X.w) X.A X.env X.xe) (hc : X.calm = true) (hl : PE X iter tl) (hg : PG X tg g) (hb : PSs X body tb) (hs : ∀ x, foldedSetIterable iter X.env x = pure x := by intro _; rfl) :
    PS X (.For tg iter body [] pos) (fForL tl g tb) :=
  PS_imp (ps_for hp hc (pi_list (PE_mo hl)) hg hb hs) fun _ _ _ h => ⟨_, h, fun _ _ ⟨a, xs, x1, x2, Pv, h0, hl, hs, hd⟩ => ⟨a, x1, ⟨xs, SqL.of x2⟩, for_list (xs := xs) Pv h0 (fun i σ H hi q => SqL.of (hl i σ H hi q)) hs hd⟩⟩
theorem ps_forT (hp : PassesOwn (model X.prog X.w) X.A X.env X.xe) (hc : X.calm = true) (hl : PE X iter tl) (hg : PG X tg g) (hb : PSs X body tb) (hs : ∀ x, foldedSetIterable iter X.env x = pure x := by intro _; rfl) :
    PS X (.For tg iter body [] pos) (fForT tl g tb) :=
  PS_imp (ps_for hp hc (pi_tup (PE_mo hl)) hg hb hs) fun _ _ _ h => ⟨_, h, fun _ _ ⟨a, xs, x1, x2, Pv, h0, hl, hs, hd⟩ => ⟨a, x1, ⟨xs, SqT.of x2⟩, for_tup (xs := xs) Pv h0 (fun i σ H hi q => SqT.of (hl i σ H hi q)) hs hd⟩⟩
theorem ps_forR1 (hp : PassesOwn (model X.prog X.w) X.A X.env X.xe) (hc : X.calm = true) (hg' : Gl X "range") (hm : X.mg "range" = none) (ha : PA X [a] ta) (hg : PG X tg g) (hb : PSs X body tb) (hs : starEach [a] X.env = [(false, eval a X.env)] := by rfl)
    (hs2 : ∀ x, foldedSetIterable (.Call (.Name "range" p) [a] [] p2) X.env x = pure x := by intro _; rfl) : PS X (.For tg (.Call (.Name "range" p) [a] [] p2) body [] pos) (fForR1 ta g tb) :=
  PS_imp (ps_for hp hc (pi_range1 hg' hm (PA_mo ha) hs) hg hb hs2) fun _ _ _ h => ⟨_, h, fun _ _ ⟨j, x1, x2, x3, Pv, h0, hs, hd⟩ => ⟨j, x1, x2, x3, for_range Pv h0 hs hd⟩⟩
theorem ps_forR2 (hp : PassesOwn (model X.prog X.w) X.A X.env X.xe) (hc : X.calm = true) (hg' : Gl X "range") (hm : X.mg "range" = none) (ha : PA X [a, b] ta) (hg : PG X tg g) (hb : PSs X body tb) (hs : starEach [a, b] X.env = [(false, eval a X.env), (false, eval b X.env)] := by rfl)
    (hs3 : starEach [b] X.env = [(false, eval b X.env)] := by rfl) (hs2 : ∀ x, foldedSetIterable (.Call (.Name "range" p) [a, b] [] p2) X.env x = pure x := by intro _; rfl) : PS X (.For tg (.Call (.Name "range" p) [a, b] [] p2) body [] pos) (fForR2 ta g tb) :=
  PS_imp (ps_for hp hc (pi_range2 hg' hm (PA_mo ha) hs hs3) hg hb hs2) fun _ _ _ h => ⟨_, h, fun _ _ ⟨i, j, x1, x2, Pv, h0, hs, hd⟩ => ⟨i, j, x1, x2, for_range Pv h0 hs hd⟩⟩
theorem ps_forS (hp : PassesOwn (model X.prog X.w) X.A X.env X.xe) (hc : X.calm = true) (hl : PE X iter tl) (hg : PG X tg g) (hb : PSs X body tb) (hs : ∀ x, foldedSetIterable iter X.env x = pure x := by intro _; rfl) :
    PS X (.For tg iter body [] pos) (fForS tl g tb) :=
  PS_imp (ps_for hp hc (pi_str (PE_mo hl)) hg hb hs) fun D σ H h => ⟨_, h, fun _ _ ⟨z, x1, Pv, h0, hs, hd⟩ => ⟨z, x1, for_it walk_str Pv h0 (fun _ _ _ _ _ => trivial) (fun i x σ H H' hi q ⟨e, c, hc, ev⟩ => by subst e ev; exact hs i c σ _ (by simpa using hc) q) hd⟩⟩
end
/-- (a, b) = a tuple -/
def fTup (n : Nat) (t : TGs) : TG := fun v σ H Q => ∃ a xs, v = .ref a ∧ H a = some (.tup xs) ∧ xs.length = n ∧ t xs σ H Q
theorem pg_tupC {X : Cx} {pos : Pos} {es : List Expr} {k : Nat} {t : TGs} {n : Nat} (hc : X.calm = true) (h : PGs X es t)
    (hn : (assignEach es X.env).length = n := by rfl) (hst : (assignEach es X.env).findIdx? (·.1) = none := by rfl) : PG X (.Tuple es k pos) (fTup n t) :=
  PG_imp (pg_tup hc h hn hst) fun _ _ _ _ ⟨a, xs, x1, x2, x3, x4⟩ => ⟨a, xs, x1, SqT.of x2, x3, x4⟩
/-! ### comprehensions -/
def moT (t : TT) : TT := fun σ H Q => ∃ Q1 : Bool → Hp → Prop, t σ H Q1 ∧ ∀ b H', Q1 b H' → Q b H'
def moG (g : TG) : TG := fun v σ H Q => ∃ Q1 : St → Hp → Prop, g v σ H Q1 ∧ ∀ σ' H', Q1 σ' H' → Q σ' H'
theorem PTs_mo {X : Cx} {ifs : List Expr} {t : TT} (h : PTs X ifs t) : PTs X ifs (moT t) := ⟨fun pins s σ H Q I q => by
  obtain ⟨Q1, q1, k⟩ := q
  exact thn (h.run pins s σ H Q1 I q1) fun b s' ⟨H', I', z⟩ => ⟨H', I', k b H' z⟩⟩
theorem PG_mo {X : Cx} {e : Expr} {g : TG} (h : PG X e g) : PG X e (moG g) := ⟨fun pins s σ H v u Q I r q => by
  obtain ⟨Q1, q1, k⟩ := q
  exact thn (h.run pins s σ H v u Q1 I r q1) fun _ s' ⟨σ', H', I', z⟩ => ⟨σ', H', I', k σ' H' z⟩⟩
/-- the word holds again, the new list still at D -/
def Nxt (I' : Hp) (D : Addr) (acc acc' : List V) (H : Hp) (R : Hp → List V → List (Addr × HO) → Prop) : Prop := ∃ I2 M2, Sub I' I2 ∧ W I2 H ((D, .lst acc) :: M2) ∧ R I2 acc' M2
theorem nxt {I' I2 H : Hp} {D : Addr} {acc acc' : List V} {R : Hp → List V → List (Addr × HO) → Prop} {M2 : List (Addr × HO)} (s : Sub I' I2) (w : W I2 H ((D, .lst acc) :: M2)) (r : R I2 acc' M2) : Nxt I' D acc acc' H R := ⟨I2, M2, s, w, r⟩
/-- what a comprehension asks: n turns, the i-th item told by item; src: what is walked stands; R: the word between two turns, of the turn, what does not change, the new list's items, what may change -/
def CompW (src : Hp → Prop) (n : Nat) (item : Nat → V → Prop) (g : TG) (tt : TT) (te : TE) (vs : List Nat) (σ : St) (H1 : Hp) (Q : VK) : Prop :=
  ∃ (I : Hp) (M : List (Addr × HO)) (R : Nat → Hp → List V → List (Addr × HO) → Prop), W I H1 M ∧ n ≤ 1000000 ∧ R 0 I [] M ∧
    (∀ i I' acc M' D H', R i I' acc M' → Sub I I' → W I' H' ((D, .lst acc) :: M') → src H') ∧
    (∀ D i x H' I' acc M', i < n → item i x → Sub I I' → W I' H' ((D, .lst acc) :: M') → R i I' acc M' → acc.length ≤ i → g x (wipe σ vs) H' fun σ2 H2 => wipe σ2 vs = wipe σ vs ∧ tt σ2 H2 fun b H3 =>
      if b = true then te σ2 H3 fun y H4 => Nxt I' D acc (acc ++ [y]) H4 (R (i + 1)) else Nxt I' D acc acc H3 (R (i + 1))) ∧
    ∀ D H' I' acc M', Sub I I' → W I' H' ((D, .lst acc) :: M') → R n I' acc M' → acc.length ≤ n → Q (.ref D) H'
def fLcL (tl : TE) (g : TG) (tt : TT) (te : TE) (vs : List Nat) : TE := fun σ H Q => tl σ H fun x H1 => ∃ a xs, x = .ref a ∧ H1 a = some (.lst xs) ∧ CompW (fun H => H a = some (.lst xs)) xs.length (fun i x => xs[i]? = some x) g tt te vs σ H1 Q
def fLcT (tl : TE) (g : TG) (tt : TT) (te : TE) (vs : List Nat) : TE := fun σ H Q => tl σ H fun x H1 => ∃ a xs, x = .ref a ∧ H1 a = some (.tup xs) ∧ CompW (fun H => H a = some (.tup xs)) xs.length (fun i x => xs[i]? = some x) g tt te vs σ H1 Q
def fLcS (tl : TE) (g : TG) (tt : TT) (te : TE) (vs : List Nat) : TE := fun σ H Q => tl σ H fun x H1 => ∃ z : Str, x = .str z ∧ CompW (fun _ => True) z.cps.size (fun i x => ∃ c, z.cps.toList[i]? = some c ∧ x = .str ⟨#[c]⟩) g tt te vs σ H1 Q
def fLcR1 (ta : TA) (g : TG) (tt : TT) (te : TE) (vs : List Nat) : TE := fun σ H Q => ta σ H fun us H1 => ∃ j : Int, us = [.int j] ∧ -(2 ^ 62) ≤ j ∧ j < 2 ^ 62 ∧ CompW (fun _ => True) j.toNat (fun i x => x = .int (i : Int)) g tt te vs σ H1 Q
theorem line_big : 1000000 < sizeLine := by rw [sizeLine_eq]; decide
section
variable {g : TG} {tt : TT} {te tl : TE} {ta : TA} {vs : List Nat} {σ : St} {H : Hp} {Q : VK} {K : PySem.W.Frag}
theorem comp_up {J : It} {n : Nat} {G : Hp → Prop} {Y : Nat → Hp → V → Hp → Prop} {src : Hp → Prop} {item : Nat → V → Prop} (w : Walk J n G Y) (hG : ∀ H, src H → G H) (hY : ∀ i H x H', i < n → src H → Y i H x H' → H' = H ∧ item i x) (h : CompW src n item g tt te vs σ H Q) : ∀ D, H D = none →
    ∃ W : Nat → Nat → Hp → Prop, (∃ m, W 0 m (upd H D (.lst []))) ∧ ∀ i m H, W i m H →
      (J.stop i H ∧ Q (.ref D) H) ∨ (J.go i H ∧ ∃ Nx : Hp → Prop, (∀ H', Nx H' → ∃ m', m' < m ∧ W (i + 1) m' H') ∧ ∀ x H', J.yld i H x H' → moG g x (wipe σ vs) H' fun σ2 H2 => wipe σ2 vs = wipe σ vs ∧ moT tt σ2 H2 fun b H3 =>
        if b = true then mo te σ2 H3 fun y H4 => ∃ acc, H4 D = some (.lst acc) ∧ acc.length < sizeLine ∧ Nx (upd H4 D (.lst (acc ++ [y]))) else Nx H3) := by
  intro D hD
  obtain ⟨I, M, R, w0, hn, r0, hsrc, hs, hd⟩ := h
  refine lc_it w (fun i H' => ∃ I' acc M', Sub I I' ∧ W I' H' ((D, .lst acc) :: M') ∧ R i I' acc M' ∧ acc.length ≤ i) ⟨I, [], M, Sub.refl I, w0.newM hD, r0, Nat.le_refl _⟩ (fun i H' _ ⟨I', acc, M', s, w1, r, _⟩ => hG _ (hsrc i I' acc M' D H' r s w1)) (fun i x H' H2 hi ⟨I', acc, M', s, w1, r, l⟩ y => ?_) fun H' ⟨I', acc, M', s, w1, r, l⟩ => hd D H' I' acc M' s w1 r l
  obtain ⟨rfl, it⟩ := hY i H' x H2 hi (hsrc i I' acc M' D _ r s w1) y
  refine ⟨_, hs D i x _ I' acc M' hi it s w1 r l, fun σ2 H3 ⟨e, q⟩ => ⟨e, _, q, fun b H4 q => ?_⟩⟩
  cases b with
  | true =>
    rw [if_pos rfl] at q ⊢
    refine ⟨_, q, fun y H5 ⟨I2, M2, s2, w2, r2⟩ => ⟨acc, w2.has.1, ?_, I2, acc ++ [y], M2, s.trans s2, w2.put, r2, ?_⟩⟩
    · have := line_big; omega
    · rw [List.length_append]; exact Nat.succ_le_succ l
  | false =>
    rw [if_neg (by decide)] at q ⊢
    obtain ⟨I2, M2, s2, w2, r2⟩ := q
    exact ⟨I2, acc, M2, s.trans s2, w2, r2, Nat.le_succ_of_le l⟩
theorem lcL_up (h : fLcL tl g tt te vs σ H Q) : tLc (iList K (mo tl)) (moG g) (moT tt) (mo te) vs σ H Q :=
  ⟨_, h, fun _ _ ⟨a, xs, x1, x2, k⟩ => ⟨a, x1, ⟨xs, SqL.of x2⟩, comp_up (walk_list (K := K) (a := a) (xs := xs)) (fun _ h => SqL.of h) (fun i H x H' _ h y => ⟨y.1, y.2⟩) k⟩⟩
theorem lcT_up (h : fLcT tl g tt te vs σ H Q) : tLc (iTup K (mo tl)) (moG g) (moT tt) (mo te) vs σ H Q :=
  ⟨_, h, fun _ _ ⟨a, xs, x1, x2, k⟩ => ⟨a, x1, ⟨xs, SqT.of x2⟩, comp_up (walk_tup (K := K) (a := a) (xs := xs)) (fun _ h => SqT.of h) (fun i H x H' _ h y => ⟨y.1, y.2⟩) k⟩⟩
theorem lcS_up (h : fLcS tl g tt te vs σ H Q) : tLc (iStr (mo tl)) (moG g) (moT tt) (mo te) vs σ H Q :=
  ⟨_, h, fun _ _ ⟨z, x1, k⟩ => ⟨z, x1, comp_up walk_str (fun _ _ => trivial) (fun i H x H' _ _ ⟨e, c, hc, ev⟩ => ⟨e, c, by simpa using hc, ev⟩) k⟩⟩
theorem lcR1_up (h : fLcR1 ta g tt te vs σ H Q) : tLc (iRng1 (moA ta)) (moG g) (moT tt) (mo te) vs σ H Q :=
  ⟨_, h, fun _ _ ⟨j, x1, x2, x3, k⟩ => ⟨j, x1, x2, x3, comp_up walk_range (fun _ _ => trivial) (fun i H x H' _ _ y => ⟨y.1, by rw [y.2]; simp⟩) k⟩⟩
end
section
variable {X : Cx}
abbrev Blk (X : Cx) (scope : Scope) (P : Cx → Prop) : Prop := ∀ (s : Shared) (H : Hp) (C : Addr) (cl : List (Str × Addr)) (fp : List Addr), P (X.blk s H scope (compEnvC scope cl C X.env) fp)
variable {elt tg iter e1 : Expr} {ifs : List Expr} {scope : Scope} {own : List (Str × Nat)} {pos p p2 : Pos} {g : TG} {tt : TT} {te tl : TE} {ta : TA}
theorem pe_lcL (hc : X.calm = true) (hN : X.N.Nodup) (hl : PE X iter tl) (ok : BlkOk X.N X.env.scope scope own) (hg : Blk X scope fun Y => PG Y tg g) (ht : Blk X scope fun Y => PTs Y ifs tt) (he : Blk X scope fun Y => PE Y elt te) (hs : ∀ x, foldedSetIterable iter X.env x = pure x := by intro _; rfl) :
    PE X (.ListComp elt [⟨tg, iter, ifs, 0⟩] scope pos) (fLcL tl g tt te (own.map (·.2))) := PE_imp (pe_lc hc hN (pi_list (PE_mo hl)) ok (fun a b c d e => PG_mo (hg a b c d e)) (fun a b c d e => PTs_mo (ht a b c d e)) (fun a b c d f => PE_mo (he a b c d f)) hs) fun _ _ _ h => lcL_up h
theorem pe_lcT (hc : X.calm = true) (hN : X.N.Nodup) (hl : PE X iter tl) (ok : BlkOk X.N X.env.scope scope own) (hg : Blk X scope fun Y => PG Y tg g) (ht : Blk X scope fun Y => PTs Y ifs tt) (he : Blk X scope fun Y => PE Y elt te) (hs : ∀ x, foldedSetIterable iter X.env x = pure x := by intro _; rfl) :
    PE X (.ListComp elt [⟨tg, iter, ifs, 0⟩] scope pos) (fLcT tl g tt te (own.map (·.2))) := PE_imp (pe_lc hc hN (pi_tup (PE_mo hl)) ok (fun a b c d e => PG_mo (hg a b c d e)) (fun a b c d e => PTs_mo (ht a b c d e)) (fun a b c d f => PE_mo (he a b c d f)) hs) fun _ _ _ h => lcT_up h
theorem pe_lcS (hc : X.calm = true) (hN : X.N.Nodup) (hl : PE X iter tl) (ok : BlkOk X.N X.env.scope scope own) (hg : Blk X scope fun Y => PG Y tg g) (ht : Blk X scope fun Y => PTs Y ifs tt) (he : Blk X scope fun Y => PE Y elt te) (hs : ∀ x, foldedSetIterable iter X.env x = pure x := by intro _; rfl) :
    PE X (.ListComp elt [⟨tg, iter, ifs, 0⟩] scope pos) (fLcS tl g tt te (own.map (·.2))) := PE_imp (pe_lc hc hN (pi_str (PE_mo hl)) ok (fun a b c d e => PG_mo (hg a b c d e)) (fun a b c d e => PTs_mo (ht a b c d e)) (fun a b c d f => PE_mo (he a b c d f)) hs) fun _ _ _ h => lcS_up h
theorem pe_lcR1 (hc : X.calm = true) (hN : X.N.Nodup) (hg' : Gl X "range") (hm : X.mg "range" = none) (ha : PA X [e1] ta) (ok : BlkOk X.N X.env.scope scope own) (hg : Blk X scope fun Y => PG Y tg g) (ht : Blk X scope fun Y => PTs Y ifs tt) (he : Blk X scope fun Y => PE Y elt te)
    (hs0 : starEach [e1] X.env = [(false, eval e1 X.env)] := by rfl) (hs : ∀ x, foldedSetIterable (.Call (.Name "range" p) [e1] [] p2) X.env x = pure x := by intro _; rfl) :
    PE X (.ListComp elt [⟨tg, .Call (.Name "range" p) [e1] [] p2, ifs, 0⟩] scope pos) (fLcR1 ta g tt te (own.map (·.2))) := PE_imp (pe_lc hc hN (pi_range1 hg' hm (PA_mo ha) hs0) ok (fun a b c d e => PG_mo (hg a b c d e)) (fun a b c d e => PTs_mo (ht a b c d e)) (fun a b c d f => PE_mo (he a b c d f)) hs) fun _ _ _ h => lcR1_up h
variable {i : Nat} {y : Str} {py spos : Pos}
theorem ps_lcL (hc : X.calm = true) (hN : X.N.Nodup) (hy : X.N[i]? = some y) (hyl : X.env.scope.names.lookup y = some .local) (hsw : swapsWith (.ListComp elt [⟨tg, iter, ifs, 0⟩] scope pos) (some (.Name y py)) spos.line X.env = pure true)
    (hl : PE X iter tl) (ok : BlkOk X.N X.env.scope scope own) (hg : Blk X scope fun Y => PG Y tg g) (ht : Blk X scope fun Y => PTs Y ifs tt) (he : Blk X scope fun Y => PE Y elt te) (hs : ∀ x, foldedSetIterable iter X.env x = pure x := by intro _; rfl) :
    PS X (.Assign [.Name y py] (.ListComp elt [⟨tg, iter, ifs, 0⟩] scope pos) spos) (tAsg (fLcL tl g tt te (own.map (·.2))) (gName i)) := PS_imp (ps_setLc hc hN hy hyl hsw (pi_list (PE_mo hl)) ok (fun a b c d e => PG_mo (hg a b c d e)) (fun a b c d e => PTs_mo (ht a b c d e)) (fun a b c d f => PE_mo (he a b c d f)) hs) fun _ _ _ h => lcL_up h
theorem ps_lcT (hc : X.calm = true) (hN : X.N.Nodup) (hy : X.N[i]? = some y) (hyl : X.env.scope.names.lookup y = some .local) (hsw : swapsWith (.ListComp elt [⟨tg, iter, ifs, 0⟩] scope pos) (some (.Name y py)) spos.line X.env = pure true)
    (hl : PE X iter tl) (ok : BlkOk X.N X.env.scope scope own) (hg : Blk X scope fun Y => PG Y tg g) (ht : Blk X scope fun Y => PTs Y ifs tt) (he : Blk X scope fun Y => PE Y elt te) (hs : ∀ x, foldedSetIterable iter X.env x = pure x := by intro _; rfl) :
    PS X (.Assign [.Name y py] (.ListComp elt [⟨tg, iter, ifs, 0⟩] scope pos) spos) (tAsg (fLcT tl g tt te (own.map (·.2))) (gName i)) := PS_imp (ps_setLc hc hN hy hyl hsw (pi_tup (PE_mo hl)) ok (fun a b c d e => PG_mo (hg a b c d e)) (fun a b c d e => PTs_mo (ht a b c d e)) (fun a b c d f => PE_mo (he a b c d f)) hs) fun _ _ _ h => lcT_up h
theorem ps_lcS (hc : X.calm = true) (hN : X.N.Nodup) (hy : X.N[i]? = some y) (hyl : X.env.scope.names.lookup y = some .local) (hsw : swapsWith (.ListComp elt [⟨tg, iter, ifs, 0⟩] scope pos) (some (.Name y py)) spos.line X.env = pure true)
    (hl : PE X iter tl) (ok : BlkOk X.N X.env.scope scope own) (hg : Blk X scope fun Y => PG Y tg g) (ht : Blk X scope fun Y => PTs Y ifs tt) (he : Blk X scope fun Y => PE Y elt te) (hs : ∀ x, foldedSetIterable iter X.env x = pure x := by intro _; rfl) :
    PS X (.Assign [.Name y py] (.ListComp elt [⟨tg, iter, ifs, 0⟩] scope pos) spos) (tAsg (fLcS tl g tt te (own.map (·.2))) (gName i)) := PS_imp (ps_setLc hc hN hy hyl hsw (pi_str (PE_mo hl)) ok (fun a b c d e => PG_mo (hg a b c d e)) (fun a b c d e => PTs_mo (ht a b c d e)) (fun a b c d f => PE_mo (he a b c d f)) hs) fun _ _ _ h => lcS_up h
theorem ps_lcR1 (hc : X.calm = true) (hN : X.N.Nodup) (hy : X.N[i]? = some y) (hyl : X.env.scope.names.lookup y = some .local) (hsw : swapsWith (.ListComp elt [⟨tg, .Call (.Name "range" p) [e1] [] p2, ifs, 0⟩] scope pos) (some (.Name y py)) spos.line X.env = pure true)
    (hg' : Gl X "range") (hm : X.mg "range" = none) (ha : PA X [e1] ta) (ok : BlkOk X.N X.env.scope scope own) (hg : Blk X scope fun Y => PG Y tg g) (ht : Blk X scope fun Y => PTs Y ifs tt) (he : Blk X scope fun Y => PE Y elt te)
    (hs0 : starEach [e1] X.env = [(false, eval e1 X.env)] := by rfl) (hs : ∀ x, foldedSetIterable (.Call (.Name "range" p) [e1] [] p2) X.env x = pure x := by intro _; rfl) :
    PS X (.Assign [.Name y py] (.ListComp elt [⟨tg, .Call (.Name "range" p) [e1] [] p2, ifs, 0⟩] scope pos) spos) (tAsg (fLcR1 ta g tt te (own.map (·.2))) (gName i)) := PS_imp (ps_setLc hc hN hy hyl hsw (pi_range1 hg' hm (PA_mo ha) hs0) ok (fun a b c d e => PG_mo (hg a b c d e)) (fun a b c d e => PTs_mo (ht a b c d e)) (fun a b c d f => PE_mo (he a b c d f)) hs) fun _ _ _ h => lcR1_up h
end
theorem sc_ii {i j : Int} : scal (.int i) (.int j) = true := rfl
theorem sc_ss {i j : Str} : scal (.str i) (.str j) = true := rfl
theorem sc_bb {i j : Bool} : scal (.bl i) (.bl j) = true := rfl
theorem sc_in {i : Int} : scal (.int i) .non = true := rfl
theorem sc_ni {i : Int} : scal .non (.int i) = true := rfl
theorem sc_ns {i : Str} : scal .non (.str i) = true := rfl
theorem sc_sn {i : Str} : scal (.str i) .non = true := rfl
theorem sc_nn : scal .non .non = true := rfl
end TA

set_option linter.all false
set_option maxHeartbeats 2000000
/-! Facts of the text by places; calls. -/
namespace TA
open PySem PySem.Spec L2
/-- what the text's errors must say -/
def excB (K : PySem.W.Frag) (D : Addr) : Bool :=
  He.eqO (PySem.W.findIn K (.ref D) "__getattribute__") (some (some (.builtin "BaseException.__getattribute__"))) && (He.eqO (PySem.W.findIn K (.ref D) "__getattr__") (some none) && (decide (PySem.W.subIn K (.ref D) (.type "BaseException") = some true) && (PySem.W.hasDictIn K D &&
    (He.eqO (PySem.W.findIn K (.ref D) "__class__") (some (some (.builtin "object.__class__"))) && (He.eqO (PySem.W.specialIn K (.builtin "object.__class__") "__get__") (some (some (.builtin "getset_descriptor.__get__"))) &&
      (decide (PySem.W.takesIn K (.builtin "object.__class__") = some true) && decide (PySem.W.mroIn K D (.type "object") = some true)))))))
theorem excB_ok {K : PySem.W.Frag} {D : Addr} (h : excB K D = true) : ExcC K D := by
  unfold excB at h
  simp only [Bool.and_eq_true, decide_eq_true_eq] at h
  obtain ⟨a, b, c, d, e, f, g, i⟩ := h
  exact ⟨He.eqO_ok a, He.eqO_ok b, c, d, He.eqO_ok e, He.eqO_ok f, g, i⟩
def kitB (K : PySem.W.Frag) (x y : Str) (b : Bool) : Bool := decide (PySem.W.kitOne K (.ref (He.ga K x)) (.ref (He.ga K y)) = some b)
def kitV (K : PySem.W.Frag) (x : Str) : Bool := decide (PySem.W.kitOne K (.ref (He.ga K x)) (.type "ValueError") = some true)
abbrev errs : List Str := ["BadText", "BadNumber", "BadAsk"]
def askB (K : PySem.W.Frag) (x : Str) : Bool := decide (PySem.W.exmOne K (.ref (He.ga K x)) (.ref (He.ga K "AskError")) = some true)
def isB (K : PySem.W.Frag) : Bool := (errs.all fun x => excB K (He.ga K x) && (kitV K x && errs.all fun y => kitB K x y (decide (x = y)))) && errs.all fun x => askB K x
/-- the text's own errors -/
def errV (K : PySem.W.Frag) : List Value := errs.map fun x => .ref (He.ga K x)
theorem errV_in {K : PySem.W.Frag} {x : Str} (h : x ∈ errs) : Value.ref (He.ga K x) ∈ errV K := List.mem_map.mpr ⟨x, h, rfl⟩
theorem errV_ok {K : PySem.W.Frag} (h : isB K = true) : ∀ v ∈ errV K, PySem.W.exmOne K v (.ref (He.ga K "AskError")) = some true := by
  intro v hv
  obtain ⟨x, hx, rfl⟩ := List.mem_map.mp hv
  unfold isB at h
  rw [Bool.and_eq_true] at h
  exact of_decide_eq_true (List.all_eq_true.mp h.2 x hx)
/-- what the text has written, as the head tells it -/
structure TX (fa : List He.Fa) (K : PySem.W.Frag) (mg : Str → Option Value) : Prop where
  hp : ∃ h : Heap, K.In h ∧ h.Ns mainGlobals mg
  ok : ∀ f ∈ fa, f.ok K = true
  is : isB K = true
section
variable {fa : List He.Fa} {K : PySem.W.Frag} {mg : Str → Option Value}
theorem TX.f (T : TX fa K mg) (i : Nat) {f : He.Fa} (h : fa[i]? = some f) : f.ok K = true := T.ok f (List.mem_of_getElem? h)
theorem TX.glo (T : TX fa K mg) (i : Nat) {x : Str} (h : fa[i]? = some (.glo x) := by rfl) : mg x = some (.ref (He.ga K x)) := let ⟨_, X, G⟩ := T.hp; He.glo_ok X G (T.f i h)
theorem TX.free (T : TX fa K mg) (i : Nat) {x : Str} (h : fa[i]? = some (.free x) := by rfl) : mg x = none := let ⟨_, X, G⟩ := T.hp; He.free_ok X G (T.f i h)
theorem TX.int (T : TX fa K mg) (j : Nat) {x : Str} {i : Int} (h : fa[j]? = some (.int x i) := by rfl) : ∃ t, mg x = some (.int i t) := let ⟨_, X, G⟩ := T.hp; He.int_ok X G (T.f j h)
theorem TX.str (T : TX fa K mg) (j : Nat) {x z : Str} (h : fa[j]? = some (.str x z) := by rfl) : ∃ t, mg x = some (.str z t) := let ⟨_, X, G⟩ := T.hp; He.str_ok X G (T.f j h)
theorem TX.cls (T : TX fa K mg) (i : Nat) {x : Str} (h : fa[i]? = some (.cls x) := by rfl) : Cls K (He.ga K x) := He.cls_ok (T.f i h)
theorem TX.noat (T : TX fa K mg) (i : Nat) {x f : Str} (h : fa[i]? = some (.noat x f) := by rfl) : NoAttr K (He.ga K x) f := He.noat_ok (T.f i h)
theorem TX.meth (T : TX fa K mg) (i : Nat) {x m : Str} (h : fa[i]? = some (.meth x m) := by rfl) : Meth K (He.ga K x) m (He.ma K (He.ga K x) m) := He.meth_ok (T.f i h)
theorem TX.mkr (T : TX fa K mg) (i : Nat) {x : Str} (h : fa[i]? = some (.mkr x) := by rfl) : Mk K (He.ga K x) (He.ma K (He.ga K x) "__init__") := He.mkr_ok (T.f i h)
theorem TX.exc (T : TX fa K mg) (i : Nat) {x : Str} (h : fa[i]? = some (.exc x) := by rfl) : PySem.W.excIn K (He.ga K x) He.veBase "ValueError.__new__" = true ∧ PySem.W.keepIn K (.ref (He.ga K x)) = true ∧ PySem.W.subIn K (.ref (He.ga K x)) (.type "BaseException") = some true ∧
    PySem.W.typeIn K (.ref (He.ga K x)) = some (.type "type") := He.exc_ok (T.f i h)
theorem TX.exm (T : TX fa K mg) (i : Nat) {x y : Str} {b : Bool} (h : fa[i]? = some (.exm x y b) := by rfl) : PySem.W.exmOne K (.ref (He.ga K x)) (.ref (He.ga K y)) = some b := He.exm_ok (T.f i h)
end
/-- a constant of the module -/
theorem pe_cI {X : Cx} {x : Str} {i : Int} {pos : Pos} (h : ∃ t, X.mg x = some (.int i t)) (hg : Gl X x := by rfl) (hd : (x == ("__debug__" : Str)) = false := by decide) : PE X (.Name x pos) (tC (.int i)) := by
  obtain ⟨t, h⟩ := h
  exact pe_glob hg h ⟨t, rfl⟩ hd
theorem pe_cS {X : Cx} {x z : Str} {pos : Pos} (h : ∃ t, X.mg x = some (.str z t)) (hg : Gl X x := by rfl) (hd : (x == ("__debug__" : Str)) = false := by decide) : PE X (.Name x pos) (tC (.str z)) := by
  obtain ⟨t, h⟩ := h
  exact pe_glob hg h ⟨t, rfl⟩ hd
/-- a def that keeps its promise, as callers see it -/
def Cal (P : Program) (w : World) (K : PySem.W.Frag) (mg : Str → Option Value) (base : Heap) (k : Nat) (p : Str × Option Str) (ps : List Str) (sp : Sp) : Prop :=
  ∃ fd, FnOk P w K mg base (L2.CX P w) k (He.fAd K p) fd ps sp ∧ Binds K fd ps [] ∧ PySem.W.keepIn K (.ref (He.fAd K p)) = true
abbrev CalX (X : Cx) (k : Nat) (p : Str × Option Str) (ps : List Str) (sp : Sp) : Prop := Cal X.prog X.w X.K X.mg X.base k p ps sp
/-- what leaves a call leaves the def -/
abbrev Pss (X : Cx) (E : XK) : Prop := Passes (L2.CX X.prog X.w) X E
section
variable {X : Cx} {k : Nat} {ps : List Str} {sp : Sp} {E : XK} {x c m : Str} {p pos apos : Pos} {e o : Expr} {es : List Expr} {ta : TE} {t : TA}
theorem pe_cal (F : CalX X k (x, none) ps sp) (hr : Room k X.A) (hm : X.mg x = some (.ref (He.ga X.K x))) (hx : Pss X E) (ha : PA X (e :: es) t) (hg : Gl X x := by rfl) (hdb : (x == ("__debug__" : Str)) = false := by decide)
    (he : starEach (e :: es) X.env = (false, eval e X.env) :: starEach es X.env := by rfl) (hpl : (backTo pos (starEach es X.env)).any (·.1) = false := by rfl) :
    PE X (.Call (.Name x p) (e :: es) [] pos) (tCall sp [] E t) := by
  obtain ⟨fd, F, B, kp⟩ := F
  exact pe_call F hr hg hm kp B .nil hx ha hdb he hpl
theorem pe_cal0 (F : CalX X k (x, none) ps sp) (hr : Room k X.A) (hm : X.mg x = some (.ref (He.ga X.K x))) (hx : Pss X E) (hg : Gl X x := by rfl) (hdb : (x == ("__debug__" : Str)) = false := by decide) :
    PE X (.Call (.Name x p) [] [] pos) (tCall sp [] E tNil) := by
  obtain ⟨fd, F, B, kp⟩ := F
  exact pe_call0 F hr hg hm kp B .nil hx hdb
/-- o.m(e, ..) of an instance of the class named c -/
def fMeth (C : Addr) (m : Str) (sp : Sp) (E : XK) (ta : TE) (t : TA) : TE := tMeth C m sp [] E ta t
theorem pe_calM {pl : Sem Bool} (F : CalX X k (c, some m) ps sp) (cl : Cls X.K (He.ga X.K c)) (hm : Meth X.K (He.ga X.K c) m (He.ma X.K (He.ga X.K c) m)) (hr : Room k X.A) (hx : Pss X E) (he : PE X o ta) (ha : PA X (e :: es) t)
    (hst : starEach (e :: es) X.env = (false, eval e X.env) :: starEach es X.env := by rfl) (hpl : (backTo pos (starEach es X.env)).any (·.1) = false := by rfl)
    (ht : eval (.Call (.Attribute o m apos) (e :: es) [] pos) X.env = (do
      let ov ← eval o X.env
      standAt apos.atName
      let (f, first) ← holding [ov] (getMethod ov m pl)
      callWith pos f first (backTo pos (starEach (e :: es) X.env)) (backToKw pos (keywordEach [] X.env))) := by rfl) :
    PE X (.Call (.Attribute o m apos) (e :: es) [] pos) (fMeth (He.ga X.K c) m sp E ta t) := by
  obtain ⟨fd, F, B, kp⟩ := F
  exact pe_meth he cl hm F hr B .nil hx ha hst hpl ht
theorem pe_calM0 {pl : Sem Bool} (F : CalX X k (c, some m) ps sp) (cl : Cls X.K (He.ga X.K c)) (hm : Meth X.K (He.ga X.K c) m (He.ma X.K (He.ga X.K c) m)) (hr : Room k X.A) (hx : Pss X E) (he : PE X o ta)
    (ht : eval (.Call (.Attribute o m apos) [] [] pos) X.env = (do
      let ov ← eval o X.env
      standAt apos.atName
      let (f, first) ← holding [ov] (getMethod ov m pl)
      callWith pos f first (backTo pos (starEach [] X.env)) (backToKw pos (keywordEach [] X.env))) := by rfl) :
    PE X (.Call (.Attribute o m apos) [] [] pos) (fMeth (He.ga X.K c) m sp E ta tNil) := by
  obtain ⟨fd, F, B, kp⟩ := F
  exact pe_meth0 he cl hm F hr B .nil hx ht
def fMake (C : Addr) (sp : Sp) (E : XK) (t : TA) : TE := tMake C sp [] E t
theorem pe_calC (F : CalX X k (c, some "__init__") ps sp) (M : Mk X.K (He.ga X.K c) (He.ma X.K (He.ga X.K c) "__init__")) (hr : Room (k + 1) X.A) (hm : X.mg c = some (.ref (He.ga X.K c))) (hx : Pss X E) (ha : PA X (e :: es) t) (hg : Gl X c := by rfl)
    (hdb : (c == ("__debug__" : Str)) = false := by decide) (he : starEach (e :: es) X.env = (false, eval e X.env) :: starEach es X.env := by rfl) (hpl : (backTo pos (starEach es X.env)).any (·.1) = false := by rfl) :
    PE X (.Call (.Name c p) (e :: es) [] pos) (fMake (He.ga X.K c) sp E t) := by
  obtain ⟨fd, F, B, kp⟩ := F
  exact pe_make M F hr hg hm B .nil hx ha hdb he hpl
theorem pe_calC0 (F : CalX X k (c, some "__init__") ps sp) (M : Mk X.K (He.ga X.K c) (He.ma X.K (He.ga X.K c) "__init__")) (hr : Room (k + 1) X.A) (hm : X.mg c = some (.ref (He.ga X.K c))) (hx : Pss X E) (hg : Gl X c := by rfl)
    (hdb : (c == ("__debug__" : Str)) = false := by decide) : PE X (.Call (.Name c p) [] [] pos) (fMake (He.ga X.K c) sp E tNil) := by
  obtain ⟨fd, F, B, kp⟩ := F
  exact pe_make0 M F hr hg hm B .nil hx hdb
end
/-- raise X('..') -/
def fRaise (W : WX) (C : Addr) : TS := fun _ σ H => W (.ref C) none σ H
theorem ps_raiseC {X : Cx} {W : WX} {x m : Str} {j : Nat} {p p2 pos pos2 : Pos} (hc : X.calm = true) (tk : Takes X W)
    (q : PySem.W.excIn X.K (He.ga X.K x) He.veBase "ValueError.__new__" = true ∧ PySem.W.keepIn X.K (.ref (He.ga X.K x)) = true ∧ PySem.W.subIn X.K (.ref (He.ga X.K x)) (.type "BaseException") = some true ∧ PySem.W.typeIn X.K (.ref (He.ga X.K x)) = some (.type "type"))
    (hm : X.mg x = some (.ref (He.ga X.K x))) (hg : Gl X x := by rfl) (hdb : (x == ("__debug__" : Str)) = false := by decide) :
    PS X (.Raise (some (.Call (.Name x p) [.Constant (.str m) j p2] [] pos)) none pos2) (fRaise W (He.ga X.K x)) :=
  ps_raise hc tk (pmk_own PySem.F.excBase_ValueError q.1 hm q.2.1 (raises_own q.2.2.1 q.2.2.2) hg hdb)
/-! ### the def's rule -/
abbrev WD (E : XK) : WX := fun cls d _ H => E cls d H
section
variable {P : Program} {w : World} {K : PySem.W.Frag} {mg : Str → Option Value} {base : Heap} {d : He.DefD} {N ps : List Str} {k : Nat} {sp : Sp}
theorem takesD {CXx : Cx} {E : XK} (hs : CXx.stack = CXx.env :: CXx.outer) (hf : CXx.env.frame = some CXx.env.locals) (hex : CXx.ex = []) {E1 : Value → Shared → Prop}
    (hx : CXx.xe = fun e s' => wpAny (model CXx.prog CXx.w) CXx.A (leaving CXx.env e) (fun _ s'' => L2.CX CXx.prog CXx.w CXx.outer CXx.H_0 CXx.s_0 E e s'') E1 s') : Takes CXx (WD E) := takes_of hs hf hex hx
theorem passD {X : Cx} {E : XK} (tk : Takes X (WD E)) : Pss X E := passes_call tk fun _ _ _ _ h => h
/-- a def by its body's derivation (for every context of its frame) and its reading -/
theorem cal_of (hd : ∃ fd, FunD K d.name d.qual d.params d.body d.scope (d.dvs K) (d.kws K) (He.fAd K d.at_) fd) (h0 : d.dfl = [] := by rfl) (h1 : d.kwd = [] := by rfl) (S : FnScope N ps d.scope) (len : ∀ vs H Q E, sp vs H Q E → vs.length = ps.length)
    (hb : ∀ (kV doc pm : Value) (an : Option Addr) (cdv ct : Value) (us : List Value), us.length = ps.length → bindArgs (PySem.W.fnOf d.name d.qual d.params d.body d.scope .none kV doc pm an cdv ct) ⟨us, []⟩ = pure (ps.zip us))
    {t : XK → TS} (der : ∀ (cdv : Value) (A : Around) (outer : List Env) (s : Shared) (H : Hp) (E : XK), Room k (A.deeper (PyProof.Rows.envOfC d.qual d.scope s.heap.objs.size (He.fAd K d.at_) cdv)) →
      PSs (cxOf (L2.CX P w) P w K mg base N d.qual d.scope (He.fAd K d.at_) cdv A outer s H E) d.body (t E))
    (pure_ : ∀ vs H Q E, sp vs H Q E → t E { nx := fun _ H' => Q .non H', rt := Q } (start N vs) H) : Cal P w K mg base (k + 1) d.at_ ps sp := by
  obtain ⟨fd, F⟩ := hd
  have e0 : d.dvs K = [] := by unfold He.DefD.dvs; rw [h0]; rfl
  rw [e0] at F
  exact ⟨fd, F.ok S len fun cdv A outer s H vs Q E hr h => ⟨t E, der cdv A outer s H E hr, pure_ vs H Q E h⟩, F.bindsN hb, F.kp⟩
end
section
variable {P : Program} {w : World} {K : PySem.W.Frag} {mg : Str → Option Value} {base : Heap} {N : List Str} {q : Str} {sc : Scope} {f : Addr} {cdv : Value} {A : Around} {outer : List Env} {s : Shared} {H : Hp} {E : XK}
theorem tkOf : Takes (cxOf (L2.CX P w) P w K mg base N q sc f cdv A outer s H E) (WD E) := takes_of rfl rfl rfl rfl
theorem pxOf : Pss (cxOf (L2.CX P w) P w K mg base N q sc f cdv A outer s H E) E := passD tkOf
theorem poOf : PassesOwn (model P w) (cxOf (L2.CX P w) P w K mg base N q sc f cdv A outer s H E).A (cxOf (L2.CX P w) P w K mg base N q sc f cdv A outer s H E).env (cxOf (L2.CX P w) P w K mg base N q sc f cdv A outer s H E).xe := passes_of (X := cxOf (L2.CX P w) P w K mg base N q sc f cdv A outer s H E) rfl
end
theorem pxB {X : Cx} : Pss X E0 := passL
end TA

set_option linter.all false
set_option maxHeartbeats 2000000
/-! More rules over tracked objects. -/
namespace TA
open PySem PySem.Spec L2
def gLenK (K : PySem.W.Frag) : List V → Hp → VK → Prop := fun xs H Q => ∃ p ys, xs = [.ref p] ∧ SqL K H p ys ∧ Q (.int ys.length) H
def gCatS : R2 := fun x y H Q => ∃ i j : Str, x = .str i ∧ y = .str j ∧ i.length + j.length ≤ sizeLine ∧ Q (.str (i ++ j)) H
def gStrI : List V → Hp → VK → Prop := fun xs H Q => ∃ i : Int, xs = [.int i] ∧ i.natAbs.log2 < 1920 ∧ Q (.str (toString i)) H
def gIntB : List V → Hp → VK → Prop := fun xs H Q => ∃ k : Bool, xs = [.bl k] ∧ Q (.int (if k then 1 else 0)) H
def gOrd : List V → Hp → VK → Prop := fun xs H Q => ∃ x : Str, xs = [.str x] ∧ x.length = 1 ∧ Q (.int (x.cps.getD 0 0 : Nat)) H
def gMin2 : List V → Hp → VK → Prop := fun xs H Q => ∃ i j : Int, xs = [.int i, .int j] ∧ Q (.int (if j < i then j else i)) H
def gMax2 : List V → Hp → VK → Prop := fun xs H Q => ∃ i j : Int, xs = [.int i, .int j] ∧ Q (.int (if j > i then j else i)) H
def gInS : R2 := fun x y H Q => ∃ i j : Str, x = .str i ∧ y = .str j ∧ Q (.bl (!(Builtin.Str.occurrences j i 0 j.length 1).isEmpty)) H
def gNinS : R2 := fun x y H Q => ∃ i j : Str, x = .str i ∧ y = .str j ∧ Q (.bl (!(!(Builtin.Str.occurrences j i 0 j.length 1).isEmpty))) H
section
variable {X : Cx}
theorem lenK : CallR X (.builtin "len") (gLenK X.K) := CallR_imp call_len_seq fun _ _ _ ⟨p, ys, a, b, c⟩ => ⟨p, ys, a, .inl b, c⟩
theorem catS : OpR X (binaryOp .Add) gCatS := op_add_str
theorem strI : CallR X (.type "str") gStrI := call_str_int
theorem intB : CallR X (.type "int") gIntB := CallR_imp call_int1 fun _ _ _ h => .inr h
theorem ordS : CallR X (.builtin "ord") gOrd := call_ord
theorem min2 (hc : X.calm = true) : CallR X (.builtin "min") gMin2 := call_min2 hc
theorem max2 (hc : X.calm = true) : CallR X (.builtin "max") gMax2 := call_max2 hc
theorem inS : OpR X (compareOp .In) gInS := op_in_str
theorem ninS : OpR X (compareOp .NotIn) gNinS := op_notin_str
end
/-! ### data at any depth, over tracked objects -/
mutual
inductive Rp (H : Hp) : V → PyData → Prop
  | non : Rp H .non .none
  | bl (b : Bool) : Rp H (.bl b) (.bool b)
  | int (i : Int) : Rp H (.int i) (.int i)
  | str (x : Str) : Rp H (.str x) (.str x)
  | lst {a : Addr} {xs : List V} {ds : List PyData} : H a = some (.lst xs) → RpAll H xs ds → Rp H (.ref a) (.list ds)
  | tup {a : Addr} {xs : List V} {ds : List PyData} : H a = some (.tup xs) → RpAll H xs ds → Rp H (.ref a) (.tuple ds)
inductive RpAll (H : Hp) : List V → List PyData → Prop
  | nil : RpAll H [] []
  | cons {v : V} {vs : List V} {d : PyData} {ds : List PyData} : Rp H v d → RpAll H vs ds → RpAll H (v :: vs) (d :: ds)
end
mutual
theorem Rp.dp {K : PySem.W.Frag} {H : Hp} : ∀ {v : V} {d : PyData}, Rp H v d → Dp K H v d
  | _, _, .non => .non
  | _, _, .bl b => .bl b
  | _, _, .int i => .int i
  | _, _, .str x => .str x
  | _, _, .lst h r => .lst (SqL.of h) r.dp
  | _, _, .tup h r => .tup (SqT.of h) r.dp
theorem RpAll.dp {K : PySem.W.Frag} {H : Hp} : ∀ {vs : List V} {ds : List PyData}, RpAll H vs ds → DpAll K H vs ds
  | _, _, .nil => .nil
  | _, _, .cons h r => .cons h.dp r.dp
end
mutual
theorem Rp.mono {H H' : Hp} (e : ∀ b o, H b = some o → H' b = some o) : ∀ {v : V} {d : PyData}, Rp H v d → Rp H' v d
  | _, _, .non => .non
  | _, _, .bl b => .bl b
  | _, _, .int i => .int i
  | _, _, .str x => .str x
  | _, _, .lst h r => .lst (e _ _ h) (r.mono e)
  | _, _, .tup h r => .tup (e _ _ h) (r.mono e)
theorem RpAll.mono {H H' : Hp} (e : ∀ b o, H b = some o → H' b = some o) : ∀ {vs : List V} {ds : List PyData}, RpAll H vs ds → RpAll H' vs ds
  | _, _, .nil => .nil
  | _, _, .cons h r => .cons (h.mono e) (r.mono e)
end
mutual
theorem Rp.plain {H : Hp} : ∀ {v : V} {d : PyData}, Rp H v d → d.plain = true
  | _, _, .non => by simp [PyData.plain]
  | _, _, .bl b => by simp [PyData.plain]
  | _, _, .int i => by simp [PyData.plain]
  | _, _, .str x => by simp [PyData.plain]
  | _, _, .lst h r => by rw [PyData.plain]; exact r.plain
  | _, _, .tup h r => by rw [PyData.plain]; exact r.plain
theorem RpAll.plain {H : Hp} : ∀ {vs : List V} {ds : List PyData}, RpAll H vs ds → PyData.plainAll ds = true
  | _, _, .nil => by simp [PyData.plainAll]
  | _, _, .cons h r => by rw [PyData.plainAll, h.plain, r.plain]; rfl
end
def gEqD : R2 := fun x y H Q => ∃ d e, Rp H x d ∧ Rp H y e ∧ (d.depth ≤ 50 ∨ e.depth ≤ 50) ∧ Q (.bl (PyData.eqv d e)) H
def gNeD : R2 := fun x y H Q => ∃ d e, Rp H x d ∧ Rp H y e ∧ (d.depth ≤ 50 ∨ e.depth ≤ 50) ∧ Q (.bl (!PyData.eqv d e)) H
theorem eqD {X : Cx} (hu : X.A.units + 64 < cLine) : OpR X (compareOp .Eq) gEqD := by
  intro pins s σ H x y v u Q I rx ry ⟨d, e, r1, r2, h, q⟩
  obtain ⟨as, a1⟩ := Dp.reads I d x v r1.dp rx
  obtain ⟨bs, a2⟩ := Dp.reads I e y u r2.dp ry
  exact SeqAt.eq_plain a1 a2 r1.plain r2.plain (by omega) ⟨.bl _, _, I, rfl, q⟩
theorem neD {X : Cx} (hu : X.A.units + 64 < cLine) : OpR X (compareOp .NotEq) gNeD := by
  intro pins s σ H x y v u Q I rx ry ⟨d, e, r1, r2, h, q⟩
  obtain ⟨as, a1⟩ := Dp.reads I d x v r1.dp rx
  obtain ⟨bs, a2⟩ := Dp.reads I e y u r2.dp ry
  exact SeqAt.ne_plain a1 a2 r1.plain r2.plain (by omega) ⟨.bl _, _, I, rfl, q⟩
section
variable {x y : V} {H : Hp} {Q : VK} {d : PyData}
/-- the same data -/
theorem eqD_t (h1 : Rp H x d) (h2 : Rp H y d) (hd : d.depth ≤ 50) (q : Q (.bl true) H) : gEqD x y H Q := ⟨d, d, h1, h2, .inl hd, by rw [SeqAt.eqv_refl_plain d h1.plain]; exact q⟩
theorem neD_f (h1 : Rp H x d) (h2 : Rp H y d) (hd : d.depth ≤ 50) (q : Q (.bl false) H) : gNeD x y H Q := ⟨d, d, h1, h2, .inl hd, by rw [SeqAt.eqv_refl_plain d h1.plain]; exact q⟩
end
theorem depthAll_le {k : Nat} : ∀ {ds : List PyData}, (∀ d ∈ ds, d.depth ≤ k) → PyData.depthAll ds ≤ k
  | [], _ => by simp [PyData.depthAll]
  | d :: ds, h => by
    rw [PyData.depthAll]
    exact Nat.max_le.mpr ⟨h d List.mem_cons_self, depthAll_le fun e he => h e (List.mem_cons_of_mem _ he)⟩
theorem depth_list {k : Nat} {ds : List PyData} (h : ∀ d ∈ ds, d.depth ≤ k) : (PyData.list ds).depth ≤ k + 1 := by
  rw [PyData.depth]; exact Nat.succ_le_succ (depthAll_le h)
theorem depth_tuple {k : Nat} {ds : List PyData} (h : ∀ d ∈ ds, d.depth ≤ k) : (PyData.tuple ds).depth ≤ k + 1 := by
  rw [PyData.depth]; exact Nat.succ_le_succ (depthAll_le h)
end TA

set_option linter.all false
set_option maxHeartbeats 2000000
/-! sorted(xs), xs a list of data that are alike. -/
namespace TA
open PySem PySem.Spec L2
/-- x does not stand behind y -/
def dle (x y : PyData) : Bool := !PySem.W.dataLt y x
def gSortD : List V → Hp → VK → Prop := fun vs H Q => ∃ (a : Addr) (zs : List (V × PyData)), vs = [.ref a] ∧ H a = some (.lst (zs.map Prod.fst)) ∧ RpAll H (zs.map Prod.fst) (zs.map Prod.snd) ∧ PySem.W.AllAlike (zs.map Prod.snd) ∧ PySem.W.Sortable (zs.map Prod.snd) ∧
  (∀ z ∈ zs, z.2.depth ≤ 50) ∧ ∀ p, H p = none → Q (.ref p) (upd H p (.lst ((zs.mergeSort fun x y => dle x.2 y.2).map Prod.fst)))
theorem each_vals : ∀ {zs : List (V × PyData)} {us : List Value}, Vals (zs.map Prod.fst) us → PySem.W.EachIs (fun (v : Value) (z : V × PyData) => RelV z.1 v) us zs
  | [], _, .nil => .nil
  | _ :: _, _, .cons r t => .cons r (each_vals t)
theorem vals_each : ∀ {zs : List (V × PyData)} {us : List Value}, PySem.W.EachIs (fun (v : Value) (z : V × PyData) => RelV z.1 v) us zs → Vals (zs.map Prod.fst) us
  | _, _, .nil => .nil
  | _, _, .cons r t => .cons r (vals_each t)
theorem each_reads {X : Cx} {pins : List (Addr × Obj)} {σ : St} {H : Hp} {s : Shared} (I : Inv X pins σ H s) : ∀ {zs : List (V × PyData)} {us : List Value}, Vals (zs.map Prod.fst) us → RpAll H (zs.map Prod.fst) (zs.map Prod.snd) →
    PySem.W.EachIs (fun (v : Value) (z : V × PyData) => ∃ as, Reads s.heap v z.2 as) us zs
  | [], _, .nil, _ => .nil
  | _ :: _, _, .cons r t, .cons h k => .cons (Dp.reads I _ _ _ h.dp r) (each_reads I t k)
theorem each_snd {R : Value → PyData → Prop} : ∀ {zs : List (V × PyData)} {us : List Value}, PySem.W.EachIs (fun v (z : V × PyData) => R v z.2) us zs → PySem.W.EachIs R us (zs.map Prod.snd)
  | _, _, .nil => .nil
  | _, _, .cons r t => .cons r (each_snd t)
theorem each_at {R : Value → V × PyData → Prop} {S : Value → V × PyData → Prop} (f : ∀ v z, R v z → S v z) {zs : List (V × PyData)} {us : List Value} (h : PySem.W.EachIs R us zs) : PySem.W.EachIs S us zs := h.mono f
theorem each_in {R : Value → V × PyData → Prop} : ∀ {zs : List (V × PyData)} {us : List Value}, PySem.W.EachIs R us zs → PySem.W.EachIs (fun v z => R v z ∧ z ∈ zs) us zs
  | _, _, .nil => .nil
  | _, _, .cons r t => .cons ⟨r, List.mem_cons_self⟩ ((each_in t).mono fun _ _ q => ⟨q.1, List.mem_cons_of_mem _ q.2⟩)
theorem sortD {X : Cx} (hu : X.A.units + 64 < cLine) : CallR X (.builtin "sorted") gSortD := by
  intro pins s σ H vs us Q I r h
  obtain ⟨a, zs, rfl, hs, hr, hal, hsb, hdp, q⟩ := h
  obtain ⟨its, rv, hl, hz⟩ := I.list (SqL.of (K := X.K) hs)
  obtain ⟨u, rfl, ru⟩ := vals1 r
  obtain rfl : u = Value.ref a := ru
  have hlen : its.length ≤ sizeLine := by rw [← rv.length]; exact hz
  have rd := each_reads I rv hr
  let h2 := PySem.W.sortingHeap (PySem.W.copyHeap s.heap its) (s.heap.objs.size + 1) its
  have old : ∀ b o, s.heap.get? b = some o → h2.get? b = some o := fun b o e => PySem.W.sorting_copy_old e
  have rd2 : PySem.W.EachIs (fun (v : Value) (z : V × PyData) => ∃ as, Reads h2 v z.2 as) its zs := rd.mono fun v z ⟨as, e⟩ => ⟨as, PySem.W.reads_keeps old e⟩
  have S : PySem.W.SortsAt X.prog X.w X.A.in1.in1 { s with heap := h2 } (PySem.W.dataKind h2 (zs.map Prod.snd)) its := by
    refine PySem.W.SortsAt.data (each_snd rd2) hal hsb fun d hd => ?_
    obtain ⟨z, hz, rfl⟩ := List.mem_map.mp hd
    have := hdp z hz
    show X.A.units + 1 + 1 + _ < cLine
    omega
  refine PySem.W.sorted_vals hl.isList S hlen ?_
  have e : PySem.W.EachIs (fun (v : Value) (z : V × PyData) => RelV z.1 v) (PySem.W.sortVals (PySem.W.dataKind h2 (zs.map Prod.snd)) false its its) (zs.mergeSort (PySem.W.sortLe (PySem.W.dataKind h2 (zs.map Prod.snd)).toKeyOrd false fun z => PySem.W.keyToks z.2)) := by
    refine PySem.W.sortVals_each (κ := PySem.W.dataKind h2 (zs.map Prod.snd)) (fun z => PySem.W.keyToks z.2) (each_vals rv) ((each_in rd2).mono fun v z ⟨⟨as, e⟩, m⟩ => ?_)
    exact PySem.W.dataKind_some hal (List.mem_map.mpr ⟨z, m, rfl⟩) e
  have e2 : (zs.mergeSort (PySem.W.sortLe (PySem.W.dataKind h2 (zs.map Prod.snd)).toKeyOrd false fun z => PySem.W.keyToks z.2)) = zs.mergeSort fun x y => dle x.2 y.2 := rfl
  rw [e2] at e
  have v2 := vals_each e
  obtain ⟨n, hn⟩ := PyProof.Rows.sortedAll_at s.heap its (PySem.W.sortVals (PySem.W.dataKind h2 (zs.map Prod.snd)) false its its).toArray
  refine ⟨.ref _, upd H _ (.lst ((zs.mergeSort fun x y => dle x.2 y.2).map Prod.fst)), I.laid (t' := s.toks) (fun b o e => PyProof.Rows.sortedAll_old e) (Nat.le_succ _) ⟨?_, _, n, v2, hn⟩, rfl, q _ (I.hok.fresh (Nat.le_succ _))⟩
  have : ((zs.mergeSort fun x y => dle x.2 y.2).map Prod.fst).length = zs.length := by rw [List.length_map, List.length_mergeSort]
  rw [this]
  simpa using hz
end TA

set_option linter.all false
set_option maxHeartbeats 4000000
/-! An error that is caught, held by a name, and asked for its class later. -/
namespace TA
open PySem PySem.Spec L2 PyProof.Rows
abbrev Sl := L2.St
/-- a caught error of the class cls stands at a -/
def ExC (cls : Value) (a : Addr) : HO := .ext fun h => ∃ (oe : Obj) (vs : Array Value), h.get? a = some oe ∧ Zc cls none oe ∧ oe.data = .fields vs
theorem exC_ok {P : Program} {w : World} {H : Hp} {h : Heap} {a : Addr} {cls : Value} {oe : Obj} {vs : Array Value} (e : h.get? a = some oe) (z : Zc cls none oe) (d : oe.data = .fields vs) : ObjOk P w H h a (ExC cls a) :=
  ⟨⟨oe, vs, e, z, d⟩, ⟨oe, e⟩, fun _ _ ⟨o, v, q, z, d⟩ k => ⟨o, v, k o q, z, d⟩⟩
section
variable {X : Cx} {pins : List (Addr × Obj)} {σ : Sl} {H : Hp} {s : Shared}
/-- an object of ours that was not tracked may be tracked from now on -/
theorem inv_track (I : Inv X pins σ H s) {a : Addr} {o : HO} (new : ObjOk X.prog X.w (upd H a o) s.heap a o) (hn : H a = none) (h0 : X.s_0.heap.get? a = none) (hL : a ≠ X.env.locals) (hC : ∀ x c, X.env.cells.lookup x = some c → c ≠ a) (hp : ∀ p ∈ X.pn ++ pins, p.1 ≠ a) :
    Inv X pins σ (upd H a o) s where
  ok := I.ok
  os := I.os
  bare := I.bare
  base := by
    have B := I.base
    have ne : ∀ {b u}, H b = some u → b ≠ a := fun {b u} e z => by rw [z, hn] at e; cases e
    exact { keep := B.keep, slot := B.slot, there := B.there
            free := fun b ob q n x => by
              have : b ≠ a := fun z => by rw [z, h0] at q; cases q
              rw [upd_ne this]; exact B.free b ob q n x
            tups := fun b xs q => by have := B.tups b xs q; rw [upd_ne (ne this)]; exact this
            frzs := fun b ob u q => by have := B.frzs b ob u q; rw [upd_ne (ne this)]; exact this
            tbls := fun b ps q => by obtain ⟨m, z⟩ := B.tbls b ps q; exact ⟨m, by rw [upd_ne (ne z)]; exact z⟩ }
  loc := I.loc
  cell := I.cell
  free := by rw [upd_ne (Ne.symm hL)]; exact I.free
  freeC := fun x c q => by rw [upd_ne (hC x c q)]; exact I.freeC x c q
  pin := fun p q => by
    obtain ⟨x1, x2, x3⟩ := I.pin p q
    exact ⟨x1, by rw [upd_ne (hp p q)]; exact x2, x3⟩
  hok := HOk.laidN I.hok (fun _ _ q => q) hn new
  len := I.len
end
/-- what «except x as n: y = n» wishes of an error of the body: j is y's slot, i is n's -/
def wHold (cs : List Value) (i j : Nat) (D : Ends) : WX := fun cls d σ H =>
  cls ∈ cs ∧ d = none ∧ ∀ a, H a = none → D.nx ((((σ.set i (some (.ref a))).set j (some (.ref a)))).set i none) (upd H a (ExC cls a))
section
variable {X : Cx} {x n y : Str} {c : Value} {i j : Nat} {body : List Stmt} {np pos pos' py pn' ps : Pos} {tb : WX → TS} {cs : List Value}
theorem ps_hold (hs : X.stack = X.env :: X.outer) (hf : X.env.frame = some X.env.locals) (hex : X.ex = []) (hN : X.N.Nodup) (hi : X.N[i]? = some n) (hj : X.N[j]? = some y) (hln : X.env.kindOf n = some .local) (hly : X.env.scope.names.lookup y = some .local) (hc : Names X x c) (hcs : ∀ v ∈ cs, PySem.W.exmOne X.K v c = some true)
    (hb : ∀ (W : WX) (pn : List (Addr × Obj)) (xe : Value → Shared → Prop), Takes (X.tr pn xe) W → PassesOwn (model X.prog X.w) X.A X.env xe → PSs (X.tr pn xe) body (tb W))
    (hd : (n == ("__debug__" : Str)) = false := by decide) (hcd : (n == ("__classdict__" : Str)) = false := by decide) (hsw : swapsWith (.Name n pn') (some (.Name y py)) ps.line X.env = pure false := by rfl) :
    PS X (.Try body [.ExceptHandler (some (.Name x np)) (some n) [.Assign [.Name y py] (.Name n pn') ps] pos'] [] [] pos) (fun D σ H => tb (wHold cs i j D) D σ H) := by
  refine ⟨fun pins s σ H D I h => ?_⟩
  have ok := I.ok
  refine wpAny_Try_except ?_
  let W := wHold cs i j D
  let hand := [ExceptHandler.ExceptHandler (some (.Name x np)) (some n) [.Assign [.Name y py] (.Name n pn') ps] pos']
  let xe : Value → Shared → Prop := fun e s₁ => wpAny (model X.prog X.w) X.A (noteFrame e X.env) (fun _ s₂ => wpAny (model X.prog X.w) X.A (setFlight e none) (fun _ s₃ => wpAny (model X.prog X.w) X.A (handleBy e X.env hand) (SP X pins D) X.xe s₃) X.xe s₂) X.xe s₁
  have tk : Takes (X.tr (X.pn ++ pins) xe) W := by
    intro u s' xx
    obtain ⟨a, B, sI, pins', σ', H', cls, d, rfl, J', nb, up, sky, na, os, ag, hm', rfl, go⟩ := xx
    have hm := hcs _ hm'
    have J : Inv X pins σ' H' sI := J'.ofTry ok
    have sky' : Sky B (X.env :: X.outer) a (Zc cls none) X.env.locals s'.heap := by rw [← hs]; exact sky
    refine Sky.land Zc.steady (by rw [ok.frames, hs]) hf sky' fun h3 fl up3 => ?_
    have J3 : Inv X pins σ' H' { s' with heap := h3 } := J.landed nb fl.1 (up.trans up3) os ag
    obtain ⟨oe, vs, he, hz, hdt⟩ := fl.there
    have nfr : a ∉ frs (X.env :: X.outer) := fun hm => by
      obtain ⟨_, o', e', hnf⟩ := fl.2.2.1.mem hm
      rw [he] at e'
      cases e'
      exact hnf _ hdt
    have nL : a ≠ X.env.locals := fun z => nfr (List.mem_filterMap.mpr ⟨X.env, List.mem_cons_self, by rw [hf, z]⟩)
    have nF : a ∉ X.fs := fun q => by
      obtain ⟨e, he, q⟩ := List.mem_filterMap.mp q
      exact nfr (List.mem_filterMap.mpr ⟨e, List.mem_cons_of_mem _ he, q⟩)
    have out : sI.heap.get? a = none := by
      cases q : sI.heap.get? a with
      | none => rfl
      | some o => have := nb a o q (by rw [hs]; exact nfr); rw [fl.2.1] at this; cases this
    have out0 : X.s_0.heap.get? a = none := by
      cases q : X.s_0.heap.get? a with
      | none => rfl
      | some o => obtain ⟨o', q'⟩ := J.base.there a o q (by rw [hex]; simp); rw [out] at q'; cases q'
    have outC : ∀ x c, X.env.cells.lookup x = some c → c ≠ a := fun x c q z => by
      obtain ⟨v, oc, hoc, _⟩ := J.cell x c q
      rw [z, out] at hoc; cases hoc
    have outP : ∀ p ∈ X.pn ++ pins, p.1 ≠ a := fun p q z => by
      have := (J.pin p q).1
      rw [z, out] at this; cases this
    have S3 := J3.suite he hdt na nL nF
    refine wpAny_handleBy_cons (codeAny_handlers_test ?_) (by intro q; cases q)
    have LT : PySem.W.Looks (model X.prog X.w) h3 (typeOf (.ref a)) cls := fun A Q E s k q => wpAny_typeOf_ref (k _ _ he) (by rw [hz.1]; exact q)
    have LM := PySem.W.exm_one (M := model X.prog X.w) (J3.kIn) LT hm
    have test : ∀ {Q : Value → Shared → Prop} {E : Value → Shared → Prop}, Q c { s' with heap := h3 } → wpAny (model X.prog X.w) (X.A.mark (some (.ref a))) (eval (.Name x np) X.env) Q E { s' with heap := h3 } := fun {Q E} q => by
      obtain ⟨g1, g2, m | ⟨m, v, nn⟩⟩ := hc
      · exact ld_glob (X := X.suite a ((a, oe) :: (X.pn ++ pins))) S3 g1 m q g2
      · exact ld_blt (X := X.suite a ((a, oe) :: (X.pn ++ pins))) S3 g1 m v q nn g2
    refine test (LM.here ?_)
    refine codeAny_handlers_suite_as ?_
    refine HandSPX.lands_againZ fl fun h4 fl4 up4 => ?_
    have J4 : Inv X pins σ' H' { s' with heap := h4 } := J.landed nb fl4.1 ((up.trans up3).trans up4) os ag
    obtain ⟨oe4, vs4, he4, hz4, hd4⟩ := fl4.there
    have S4 := J4.suite he4 hd4 na nL nF
    refine store_ok (X := X.suite a ((a, oe4) :: (X.pn ++ pins))) (v := .ref a) S4 hN hi (.inl hln) rfl (fun s5 S5 => ?_) (.inr hln)
    have run := (pss_one (ps_set (X := X.suite a ((a, oe4) :: (X.pn ++ pins))) (i := j) (x := y) (pos := ps) (pos' := py) hN hj (.inl hly) (pe_var (i := i) (x := n) (pos := pn') hi (.inl hln) hd hcd) hsw (.inr hly))).run [] s5 _ H'
      { nx := fun σ6 H6 => σ6 = ((σ'.set i (some (.ref a))).set j (some (.ref a))) ∧ H6 = H', rt := fun _ _ => False } S5 ⟨.ref a, by rw [List.getElem?_set_self (by rw [J.len]; exact (List.getElem?_eq_some_iff.mp hi).1)], rfl, rfl⟩
    refine wpAny_mono run (fun f s6 hsp => ?_) (fun _ _ z => False.elim z)
    cases f with
    | next =>
      obtain ⟨σ6, H6, S6, rfl, rfl⟩ := hsp
      have at6 : s6.heap.get? a = some oe4 := (S6.pin (a, oe4) (List.mem_append_left _ List.mem_cons_self)).1
      have J6 : Inv X pins _ _ s6 := S6.unsuite ok
      have J7 := inv_track J6 (o := ExC cls a) (exC_ok at6 hz4 hd4) na out0 nL outC outP
      exact gone_ok J7 hN hi hln fun s7 J8 => ⟨_, _, J8, go a na⟩
    | brk => obtain ⟨_, _, _, q⟩ := hsp; exact False.elim q
    | cont => obtain ⟨_, _, _, q⟩ := hsp; exact False.elim q
    | ret u => obtain ⟨_, _, _, _, _, q⟩ := hsp; exact False.elim q
  refine wpAny_mono ((hb W (X.pn ++ pins) xe tk PassesOwn.looking).run [] s σ H D (I.toTry _) h) (fun f s1 hsp => ?_) (fun e s1 he => he)
  cases f with
  | next => obtain ⟨σ', H', J', q⟩ := hsp; exact wpAny_execs_nil ⟨σ', H', J'.ofTry ok, q⟩
  | brk => obtain ⟨σ', H', J', q⟩ := hsp; exact ⟨σ', H', J'.ofTry ok, q⟩
  | cont => obtain ⟨σ', H', J', q⟩ := hsp; exact ⟨σ', H', J'.ofTry ok, q⟩
  | ret u => obtain ⟨v, σ', H', J', r, q⟩ := hsp; exact ⟨v, σ', H', J'.ofTry ok, r, q⟩
end
end TA

set_option linter.all false
set_option maxHeartbeats 4000000
/-! isinstance of a held error; count, index of flat items. -/
namespace TA
open PySem PySem.Spec L2 PyProof.Rows
/-- isinstance(e, c), e a held error of one of the classes of tab -/
def gIs (c : V) (tab : List (Addr × Bool)) : List V → Hp → VK → Prop := fun xs H Q => ∃ (a D : Addr) (b : Bool), xs = [.ref a, c] ∧ H a = some (ExC (.ref D) a) ∧ (D, b) ∈ tab ∧ Q (.bl b) H
theorem isE {X : Cx} {c : V} {cv : Value} {tab : List (Addr × Bool)} (hc : ∀ u, RelV c u → u = cv) (ht : ∀ p ∈ tab, ExcC X.K p.1 ∧ PySem.W.kitOne X.K (.ref p.1) cv = some p.2) : CallR X (.builtin "isinstance") (gIs c tab) := by
  intro pins s σ H xs us Q I r h
  obtain ⟨a, D, b, rfl, ha, hm, q⟩ := h
  obtain ⟨u, w', rfl, ru, rw'⟩ := vals2 r
  obtain rfl : u = Value.ref a := ru
  obtain rfl := hc _ rw'
  obtain ⟨C, e⟩ := ht _ hm
  obtain ⟨⟨oe, vs, hget, hz, hv⟩, _, _⟩ := I.hok _ _ ha
  have J : PySem.W.InstAt s.heap a oe D none := by
    obtain ⟨oc, od, oda, osl⟩ := oe
    obtain ⟨h1, h2⟩ := hz
    dsimp only at h1 h2 hv
    subst h1 h2 hv
    exact ⟨hget, rfl, rfl, trivial⟩
  exact PySem.W.kia_one (PySem.W.handS_kitx_exc C.hg C.hk C.hs C.hd C.ha C.hn C.ht C.hm) I.kIn J e (fun z => nomatch z) fun tk => ⟨.bl b, H, I.kept (t' := tk) fun _ _ z => z, rfl, q⟩
/-- for a class y: which of the three errors are of it -/
def tabOf (K : PySem.W.Frag) (y : Str) : List (Addr × Bool) := errs.map fun x => (He.ga K x, decide (x = y))
def tabV (K : PySem.W.Frag) : List (Addr × Bool) := errs.map fun x => (He.ga K x, true)
theorem tabOf_ok {K : PySem.W.Frag} (h : isB K = true) {y : Str} (hy : y ∈ errs) : ∀ p ∈ tabOf K y, ExcC K p.1 ∧ PySem.W.kitOne K (.ref p.1) (.ref (He.ga K y)) = some p.2 := by
  intro p hp
  obtain ⟨x, hx, rfl⟩ := List.mem_map.mp hp
  unfold isB at h
  rw [Bool.and_eq_true] at h
  have h1 := List.all_eq_true.mp h.1 x hx
  simp only [Bool.and_eq_true] at h1
  have h2 := List.all_eq_true.mp h1.2.2 y hy
  exact ⟨excB_ok h1.1, of_decide_eq_true h2⟩
theorem tabV_ok {K : PySem.W.Frag} (h : isB K = true) : ∀ p ∈ tabV K, ExcC K p.1 ∧ PySem.W.kitOne K (.ref p.1) (.type "ValueError") = some p.2 := by
  intro p hp
  obtain ⟨x, hx, rfl⟩ := List.mem_map.mp hp
  unfold isB at h
  rw [Bool.and_eq_true] at h
  have h1 := List.all_eq_true.mp h.1 x hx
  simp only [Bool.and_eq_true] at h1
  exact ⟨excB_ok h1.1, of_decide_eq_true h1.2.1⟩
section
variable {X : Cx} {e : Expr} {te : TE} {p p2 pos : Pos} {y : Str}
/-- isinstance(e, C), isinstance(e, ValueError) -/
theorem pe_is (hi : isB X.K = true) (hy : y ∈ errs) (hm : X.mg "isinstance" = none) (hg' : X.mg y = some (.ref (He.ga X.K y))) (he : PE X e te) (hg : Gl X "isinstance" := by rfl) (hg2 : Gl X y := by rfl) (hdb : (y == ("__debug__" : Str)) = false := by decide)
    (h1 : starEach [e, .Name y p2] X.env = (false, eval e X.env) :: starEach [.Name y p2] X.env := by rfl) (h2 : starEach [.Name y p2] X.env = (false, eval (.Name y p2) X.env) :: starEach [] X.env := by rfl) (hpl : (backTo pos (starEach [.Name y p2] X.env)).any (·.1) = false := by rfl) :
    PE X (.Call (.Name "isinstance" p) [e, .Name y p2] [] pos) (tCB (gIs (.ref (He.ga X.K y)) (tabOf X.K y)) (tCons te (tCons (tC (.ref (He.ga X.K y))) tNil))) :=
  pe_callB (isE (fun _ r => r) (tabOf_ok hi hy)) hg hm (by decide +kernel) (pa_cons he (pa_cons (pe_glob hg2 hg' rfl hdb) pa_nil h2) h1) (by decide) (by decide) h1 hpl
theorem pe_isV (hi : isB X.K = true) (hm : X.mg "isinstance" = none) (hm' : X.mg "ValueError" = none) (he : PE X e te) (hg : Gl X "isinstance" := by rfl) (hg2 : Gl X "ValueError" := by rfl)
    (h1 : starEach [e, .Name "ValueError" p2] X.env = (false, eval e X.env) :: starEach [.Name "ValueError" p2] X.env := by rfl) (h2 : starEach [.Name "ValueError" p2] X.env = (false, eval (.Name "ValueError" p2) X.env) :: starEach [] X.env := by rfl) (hpl : (backTo pos (starEach [.Name "ValueError" p2] X.env)).any (·.1) = false := by rfl) :
    PE X (.Call (.Name "isinstance" p) [e, .Name "ValueError" p2] [] pos) (tCB (gIs (.ty "ValueError") (tabV X.K)) (tCons te (tCons (tC (.ty "ValueError")) tNil))) :=
  pe_callB (isE (fun _ r => r) (tabV_ok hi)) hg hm (by decide +kernel) (pa_cons he (pa_cons (pe_bltn hg2 hm' (by decide +kernel) (v := .ty "ValueError") rfl) pa_nil h2) h1) (by decide) (by decide) h1 hpl
end
/-! ### count, index -/
def gCnt : V → List V → Hp → VK → Prop := fun x xs H Q => ∃ (a : Addr) (ys : List V) (y : V), x = .ref a ∧ xs = [y] ∧ H a = some (.lst ys) ∧ flatV y = true ∧ ys.all flatV = true ∧ Q (.int ((ys.countP fun z => eqV z y : Nat) : Int)) H
theorem countP_eqU {y : V} : ∀ {ys : List V} {us : List Value}, Vals ys us → ys.all flatV = true → us.countP (eqU y) = ys.countP fun z => eqV z y
  | _, _, .nil, _ => rfl
  | z :: ys, u :: us, .cons r t, f => by
    rw [List.all_cons, Bool.and_eq_true] at f
    rw [List.countP_cons, List.countP_cons, countP_eqU t f.2, eqU_of r f.1]
theorem mtCnt {X : Cx} : MtR X "list.count" gCnt := by
  intro pins s σ H x xs v us Q I rx rxs h
  obtain ⟨a, ys, y, rfl, rfl, hs, fy, fys, q⟩ := h
  cases rx
  obtain ⟨u, rfl, ru⟩ := rxs.one
  obtain ⟨its, rv, ⟨⟨cls, dd, data, sl⟩, n, ho, hc, hdn, hd⟩, hlen⟩ := I.list (SqL.of (K := X.K) hs)
  simp only at hc hd
  subst hc hd
  refine call_meets PySem.F.slot_list_count ⟨_, ho, rfl⟩ PySem.F.entry_list_count (PySem.F.args_list_count_2 _ _) (SeqAt.list_countAt a its.toArray n dd sl u (eqU y)) ⟨ho, fun u' hu' => mem_eqAt ru fy rv fys u' (by simpa using hu'), ?_⟩
  refine ⟨.int ((ys.countP fun z => eqV z y : Nat) : Int), H, I.tok _, ⟨s.toks, ?_⟩, q⟩
  show Value.int ((its.toArray.toList.countP (eqU y) : Nat) : Int) s.toks = _
  rw [← countP_eqU (y := y) rv fys]
def gIdx : V → List V → Hp → VK → Prop := fun x xs H Q => ∃ (a : Addr) (ys : List V) (y : V) (j : Nat), x = .ref a ∧ xs = [y] ∧ H a = some (.lst ys) ∧ flatV y = true ∧ ys.all flatV = true ∧ (ys.findIdx? fun z => eqV z y) = some j ∧ Q (.int (j : Nat)) H
theorem mtIdx {X : Cx} : MtR X "list.index" gIdx := MtR_imp mt_index fun x xs H Q ⟨a, ys, y, j, h1, h2, h3, h4, h5, h6, h7⟩ => by
  obtain ⟨hj, p, k⟩ := List.findIdx?_eq_some_iff_getElem.mp h6
  refine ⟨a, ys, y, j, ys[j], h1, h2, SqL.of h3, h4, h5, List.getElem?_eq_getElem hj, p, fun m z' hm hz => ?_, h7⟩
  obtain ⟨hm', e⟩ := List.getElem?_eq_some_iff.mp hz
  have := k m hm
  rw [e] at this
  simpa using this
end TA

set_option linter.all false
set_option maxHeartbeats 4000000
/-! Calls within a try's body: what leaves them is wished for at the slots as they stand. -/
namespace TA
open PySem PySem.Spec L2 PyProof.Rows
section
variable {X : Cx} {k : Nat} {ps : List Str} {sp : Sp} {W : WX} {x c m : Str} {p pos apos : Pos} {e o : Expr} {es : List Expr} {ta : TE} {t : TA}
def fCallS (sp : Sp) (W : WX) (t : TA) : TE := fun σ H Q => t σ H fun vs H1 => sp vs H1 Q fun cls d H => W cls d σ H
def fMethS (C : Addr) (m : Str) (sp : Sp) (W : WX) (ta : TE) (t : TA) : TE := fun σ H Q => ta σ H fun x H1 => ∃ a dx fs, x = .ref a ∧ H1 a = some (.ins C dx fs) ∧ fs.lookup m = none ∧ t σ H1 fun vs H2 => sp (x :: vs) H2 Q fun cls d H => W cls d σ H
def fMakeS (C : Addr) (sp : Sp) (W : WX) (t : TA) : TE := fun σ H Q => t σ H fun vs H1 => ∀ x dx, H1 x = none → H1 dx = none → dx ≠ x →
  sp (.ref x :: vs) (upd (upd H1 dx (.own x)) x (.ins C dx [])) (fun v H2 => v = .non ∧ Q (.ref x) H2) fun cls d H => W cls d σ H
theorem pe_calS (F : CalX X k (x, none) ps sp) (hr : Room k X.A) (hm : X.mg x = some (.ref (He.ga X.K x))) (tk : Takes X W) (ha : PA X (e :: es) t) (hg : Gl X x := by rfl) (hdb : (x == ("__debug__" : Str)) = false := by decide)
    (he : starEach (e :: es) X.env = (false, eval e X.env) :: starEach es X.env := by rfl) (hpl : (backTo pos (starEach es X.env)).any (·.1) = false := by rfl) :
    PE X (.Call (.Name x p) (e :: es) [] pos) (fCallS sp W t) := by
  obtain ⟨fd, F, B, kp⟩ := F
  exact pe_callS F hr hg hm kp B (fun σ => passAt tk σ) ha hdb he hpl
theorem pe_calMS {pl : Sem Bool} (F : CalX X k (c, some m) ps sp) (cl : Cls X.K (He.ga X.K c)) (hm : Meth X.K (He.ga X.K c) m (He.ma X.K (He.ga X.K c) m)) (hr : Room k X.A) (tk : Takes X W) (he : PE X o ta) (ha : PA X (e :: es) t)
    (hst : starEach (e :: es) X.env = (false, eval e X.env) :: starEach es X.env := by rfl) (hpl : (backTo pos (starEach es X.env)).any (·.1) = false := by rfl)
    (ht : eval (.Call (.Attribute o m apos) (e :: es) [] pos) X.env = (do
      let ov ← eval o X.env
      standAt apos.atName
      let (f, first) ← holding [ov] (getMethod ov m pl)
      callWith pos f first (backTo pos (starEach (e :: es) X.env)) (backToKw pos (keywordEach [] X.env))) := by rfl) :
    PE X (.Call (.Attribute o m apos) (e :: es) [] pos) (fMethS (He.ga X.K c) m sp W ta t) := by
  obtain ⟨fd, F, B, kp⟩ := F
  refine ⟨fun pins s σ H Q I h => PySem.W.methodCall_KW (pl := pl) (thn (he.run pins s σ H _ I h) fun u s1 ⟨x, H1, I1, rx, a, dx, fs, ex, ea, l, q⟩ => ?_) ht⟩
  subst ex
  cases rx
  refine getmeth_ok I1 ea cl hm l (PySem.W.callWith_K (first := [.ref a]) (h₀ := X.base) I.ok.mod.kin hm.kp (thn (ha.run pos pins s1 σ H1 _ I1 q) fun us s2 ⟨vs, H2, I2, r, q2⟩ => ⟨I2.kIn, ?_⟩) hst hpl)
  exact run_fnS (E := WE W) (us := .ref a :: us) (vs := .ref a :: vs) F hr B (passAt tk σ) I2 (.cons rfl r) q2
theorem pe_calMS0 {pl : Sem Bool} (F : CalX X k (c, some m) ps sp) (cl : Cls X.K (He.ga X.K c)) (hm : Meth X.K (He.ga X.K c) m (He.ma X.K (He.ga X.K c) m)) (hr : Room k X.A) (tk : Takes X W) (he : PE X o ta)
    (ht : eval (.Call (.Attribute o m apos) [] [] pos) X.env = (do
      let ov ← eval o X.env
      standAt apos.atName
      let (f, first) ← holding [ov] (getMethod ov m pl)
      callWith pos f first (backTo pos (starEach [] X.env)) (backToKw pos (keywordEach [] X.env))) := by rfl) :
    PE X (.Call (.Attribute o m apos) [] [] pos) (fMethS (He.ga X.K c) m sp W ta tNil) := by
  obtain ⟨fd, F, B, kp⟩ := F
  refine ⟨fun pins s σ H Q I h => PySem.W.methodCall_KW (pl := pl) (thn (he.run pins s σ H _ I h) fun u s1 ⟨x, H1, I1, rx, a, dx, fs, ex, ea, l, q⟩ => ?_) ht⟩
  subst ex
  cases rx
  refine getmeth_ok I1 ea cl hm l (PySem.W.callWith_K0 (first := [.ref a]) I1.kIn hm.kp ?_)
  exact run_fnS (E := WE W) (us := [.ref a]) (vs := [.ref a]) F hr B (passAt tk σ) I1 (.cons rfl .nil) q
theorem run_makeS {f C : Addr} {fd : FuncData} {pins : List (Addr × Obj)} {σ : Sl} {H : Hp} {s : Shared} {Q : VK} {us : List Value} {vs : List V} (M : Mk X.K C f) (F : FnOk X.prog X.w X.K X.mg X.base (L2.CX X.prog X.w) k f fd ps sp) (hr : Room (k + 1) X.A) (hb : Binds X.K fd ps [])
    (tk : Takes X W) (I : Inv X pins σ H s) (r : Vals vs us)
    (h : ∀ x dx, H x = none → H dx = none → dx ≠ x → sp (.ref x :: vs) (upd (upd H dx (.own x)) x (.ins C dx [])) (fun v H2 => v = .non ∧ Q (.ref x) H2) fun cls d H => W cls d σ H) :
    wpAny (model X.prog X.w) X.A (call (.ref C) us) (EP X pins σ Q) X.xe s := by
  have q := h _ _ (I.hok.fresh (Nat.le_succ s.heap.objs.size)) (I.hok.fresh (Nat.le_refl _)) (Nat.ne_of_lt (Nat.lt_succ_self _))
  have J := Inv.made (C := C) I
  have rr : Vals (V.ref (s.heap.objs.size + 1) :: vs) (Value.ref (s.heap.objs.size + 1) :: us) := .cons rfl r
  have ll : (Value.ref (s.heap.objs.size + 1) :: us ++ []).length = ps.length := by rw [List.append_nil, ← rr.length, F.len _ _ _ _ q]
  have bb := hb _ (Value.ref (s.heap.objs.size + 1) :: us) J.kIn ll
  rw [List.append_nil] at bb
  refine wpAny_call (make_map (f := f) I.kIn M.makes M.init (beq_iff_eq.mp M.fn) (codeAny_mono (F.run _ X.stack _ _ _ _ _ _ _ (hr.make C us []) (J.env0.make C us []) bb rr q) fun r s' z => ?_))
  match r, z with
  | .error e, z => exact passAt tk σ pins _ _ e s' J z
  | .ok (.ret u), z =>
    obtain ⟨v, H', K', rv, ev, q3⟩ := J.after z
    subst ev
    exact ⟨rv, V.ref _, H', K', rfl, q3⟩
  | .ok .next, z => exact z.elim
  | .ok .brk, z => exact z.elim
  | .ok .cont, z => exact z.elim
theorem pe_calCS (F : CalX X k (c, some "__init__") ps sp) (M : Mk X.K (He.ga X.K c) (He.ma X.K (He.ga X.K c) "__init__")) (hr : Room (k + 1) X.A) (hm : X.mg c = some (.ref (He.ga X.K c))) (tk : Takes X W) (ha : PA X (e :: es) t) (hg : Gl X c := by rfl)
    (hdb : (c == ("__debug__" : Str)) = false := by decide) (he : starEach (e :: es) X.env = (false, eval e X.env) :: starEach es X.env := by rfl) (hpl : (backTo pos (starEach es X.env)).any (·.1) = false := by rfl) :
    PE X (.Call (.Name c p) (e :: es) [] pos) (fMakeS (He.ga X.K c) sp W t) := by
  obtain ⟨fd, F, B, kp⟩ := F
  refine ⟨fun pins s σ H Q I h => wpAny_Call_Name_kw (ld_glob I hg hm ?_ hdb)⟩
  exact PySem.W.callWith_K (h₀ := X.base) I.ok.mod.kin M.kp (thn (ha.run pos pins s σ H _ I h) fun us s1 ⟨vs, H1, I1, r, q⟩ => ⟨I1.kIn, run_makeS M F hr B tk I1 r q⟩) he hpl
end
end TA

set_option linter.all false
set_option maxHeartbeats 2000000
/-! The end: the law's own def. -/
namespace TA
open PySem PySem.Spec L2
section
variable {P : Program} {w : World} {K : PySem.W.Frag} {mg : Str → Option Value} {base : Heap} {k : Nat} {f : Addr} {fd : FuncData} {ps : List Str} {sp : Sp}
/-- a def that lets nothing out -/
theorem fnok0 (h : ∀ vs H Q E E', sp vs H Q E → sp vs H Q E') (F : FnOk P w K mg base (L2.CX P w) k f fd ps sp) : FnOk P w K mg base CX0 k f fd ps sp where
  len := F.len
  run := fun A outer s H args us vs Q E hr e0 hb r q => PySem.codeAny_mono (F.run A outer s H args us vs Q E0 hr e0 hb r (h vs H Q E E0 q)) fun r s' z => by
    cases r with
    | error e =>
      obtain ⟨_, _, _, _, _, _, _, _, _, _, _, _, f⟩ := z
      exact f.elim
    | ok fl =>
      cases fl with
      | ret u => exact z
      | next => exact z
      | brk => exact z
      | cont => exact z
/-- the law's def, its object known -/
theorem law_of {d : He.DefD} {N : List Str} (F : FunD K d.name d.qual d.params d.body d.scope (d.dvs K) (d.kws K) (He.fAd K d.at_) fd) (S : FnScope N ps d.scope) (len : ∀ vs H Q E, sp vs H Q E → vs.length = ps.length) (hE : ∀ vs H Q E E', sp vs H Q E → sp vs H Q E')
    {t : XK → TS} (der : ∀ (cdv : Value) (A : Around) (outer : List Env) (s : Shared) (H : Hp) (E : XK), Room k (A.deeper (PyProof.Rows.envOfC d.qual d.scope s.heap.objs.size (He.fAd K d.at_) cdv)) →
      PSs (cxOf (L2.CX P w) P w K mg base N d.qual d.scope (He.fAd K d.at_) cdv A outer s H E) d.body (t E))
    (pure_ : ∀ vs H Q E, sp vs H Q E → t E { nx := fun _ H' => Q .non H', rt := Q } (start N vs) H) : FnOk P w K mg base CX0 (k + 1) (He.fAd K d.at_) fd ps sp :=
  fnok0 hE (F.ok S len fun cdv A outer s H vs Q E hr h => ⟨t E, der cdv A outer s H E hr, pure_ vs H Q E h⟩)
/-- the text's facts, as the head's Hook tells them -/
theorem tx_of {fa : List He.Fa} {fn : List He.DefD} {h : Heap} (X : K.In h) (G : h.Ns mainGlobals mg) (c : He.SaysX fa fn [] [] isB w h K) : TX fa K mg :=
  ⟨⟨h, X, G⟩, fun _ hf => He.SaysD.facts c.t.d hf, c.more⟩
end
end TA

set_option linter.all false
set_option maxRecDepth 100000
set_option maxHeartbeats 1000000
/-! The draws of a law: what they promise. -/
namespace TA
open PySem L2
local macro_rules | `(tactic| simp! [$as,*]) => `(tactic| first | simp only [L2.start, tSeq, tAsg, tOp, fFld, tVar, gIxL, gIxT, tCB, tCons, tNil, gLenL, gLenT, gLenS, rI, rI0, fSet, tIfS, tTest, tB, rNotN, rIsN, rEq, rNe, tC, tDrop, fBM, fBM0, gTy, rAppend, tTup, tLst, tRet, tRetN, tNext, gName, fTup, gCons, gNil, tCall, fCallS, fMeth, tMeth, fMethS, fMake, tMake, fMakeS, tUn, rU, tAnd, tOr, tNot, tAndV, tOrV, tNotV, tIf, tChain, gListL, gListT, tSl, tNoPart, tPart, gSlL, fRaise, gStrI, gCatS, gMin2, gMax2, gIntB, tYes, fLcL, fLcT, fLcS, fLcR1, fForL, fForR1, fForR2,
  List.map_cons, List.map_nil, List.length_cons, List.length_nil, List.replicate, List.cons_append, List.nil_append, List.append_nil, List.getElem?_cons_zero, List.getElem?_cons_succ, List.set_cons_zero, List.set_cons_succ, reduceIte, Bool.not_true, Bool.not_false, Nat.reduceAdd, Nat.reduceSub, Bool.false_eq_true, eq_self,
  Option.some.injEq, V.int.injEq, V.ref.injEq, V.str.injEq, V.bl.injEq, HO.ins.injEq, HO.lst.injEq, HO.tup.injEq, HO.dK.injEq, List.cons.injEq, and_assoc, exists_eq_left', exists_and_left, and_true, true_and, true_or, or_true, false_or, or_false, exists_eq_left, exists_eq_right, exists_eq_right', exists_eq, exists_eq', exists_const, upd_same, sc_ii, sc_ss, sc_bb, sc_in, sc_ni, sc_ns, sc_sn, sc_nn, $as,*] | skip)
/-- the script stands, told by what does not change -/
def Scr (K : PySem.W.Frag) (I : Hp) (a : Addr) : Prop := ∃ ns : List Int, SqL K I a (ns.map V.int)
theorem sqL_sub {K : PySem.W.Frag} {I H : Hp} {a : Addr} {xs : List V} (s : Sub I H) (h : SqL K I a xs) : SqL K H a xs := Same.seq s h
theorem Scr.mono {K : PySem.W.Frag} {I J : Hp} {a : Addr} (s : Sub I J) (h : Scr K I a) : Scr K J a := let ⟨ns, h⟩ := h; ⟨ns, sqL_sub s h⟩
/-- the script at a, the town at t with at most n items, the rest M -/
structure Dr (K : PySem.W.Frag) (I H : Hp) (a t : Addr) (n : Nat) (M : List (Addr × HO)) : Prop where
  scr : Scr K I a
  w : ∃ zs : List V, zs.length ≤ n ∧ W I H ((t, .lst zs) :: M)
section
variable {K : PySem.W.Frag} {I I' H H' : Hp} {a t p : Addr} {n m : Nat} {M M' : List (Addr × HO)} {o o' : HO}
theorem Dr.le (d : Dr K I H a t n M) (h : n ≤ m) : Dr K I H a t m M := let ⟨s, zs, l, w⟩ := d; ⟨s, zs, Nat.le_trans l h, w⟩
theorem Dr.newM (d : Dr K I H a t n M) (h : H p = none) : Dr K I (upd H p o) a t n ((p, o) :: M) := let ⟨s, zs, l, w⟩ := d; ⟨s, zs, l, (w.newM h).swap⟩
theorem Dr.newI (d : Dr K I H a t n M) (h : H p = none) : Dr K (upd I p o) (upd H p o) a t n M := let ⟨s, zs, l, w⟩ := d; ⟨s.mono (Sub.new (w.noI h)), zs, l, w.newI h⟩
theorem Dr.skip (d : Dr K I H a t n M) (h : H p = none) : Dr K I (upd H p o) a t n M := let ⟨s, zs, l, w⟩ := d; ⟨s, zs, l, w.skip h⟩
theorem Dr.drop (d : Dr K I H a t n ((p, o) :: M)) : Dr K I H a t n M := let ⟨s, zs, l, w⟩ := d; ⟨s, zs, l, w.swap.drop⟩
theorem Dr.put (d : Dr K I H a t n ((p, o) :: M)) : Dr K I (upd H p o') a t n ((p, o') :: M) := let ⟨s, zs, l, w⟩ := d; ⟨s, zs, l, w.swap.put.swap⟩
theorem Dr.freeze (d : Dr K I H a t n ((p, o) :: M)) : Dr K (upd I p o) H a t n M := let ⟨s, zs, l, w⟩ := d; ⟨s.mono (Sub.new (w.out (p, o) (by simp))), zs, l, w.swap.freeze⟩
theorem Dr.perm (d : Dr K I H a t n M) (e : M'.Perm M) : Dr K I H a t n M' := let ⟨s, zs, l, w⟩ := d; ⟨s, zs, l, w.perm (e.cons _)⟩
theorem Dr.same (d : Dr K I H a t n M) (e : Same H H') : Dr K I H' a t n M := let ⟨s, zs, l, w⟩ := d; ⟨s, zs, l, w.same e⟩
theorem Dr.has (d : Dr K I H a t n M) : Has H M := let ⟨s, zs, l, w⟩ := d; w.has.2
theorem Dr.sub (d : Dr K I H a t n M) : Sub I H := let ⟨s, zs, l, w⟩ := d; w.sub
theorem Dr.noI (d : Dr K I H a t n M) (h : H p = none) : I p = none := let ⟨s, zs, l, w⟩ := d; w.noI h
theorem Dr.out (d : Dr K I H a t n M) : ∀ p ∈ M, I p.1 = none := let ⟨s, zs, l, w⟩ := d; fun p h => w.out p (List.mem_cons_of_mem _ h)
/-- the town among what may change -/
theorem Dr.of {zs : List V} (s : Scr K I a) (l : zs.length ≤ n) (w : W I H ((t, .lst zs) :: M)) : Dr K I H a t n M := ⟨s, zs, l, w⟩
/-- by a rule for what may change -/
theorem Dr.w2 (d : Dr K I H a t n M) (f : ∀ zs : List V, W I H ((t, .lst zs) :: M) → W I' H' ((t, .lst zs) :: M')) (e : Sub I I') : Dr K I' H' a t n M' := let ⟨s, zs, l, w⟩ := d; ⟨s.mono e, zs, l, f zs w⟩
end
def Two30 : Int := 1073741824
def sp__law_cell (K : PySem.W.Frag) : Sp := fun vs H Q _ => ∃ (a : Addr) (k : Int), vs = [.ref a, .int k] ∧ Scr K H a ∧ ∀ i : Int, Q (.int i) H
def sp__law_mix (K : PySem.W.Frag) : Sp := fun vs H Q _ => ∃ (a : Addr) (k : Int), vs = [.ref a, .int k] ∧ Scr K H a ∧ ∀ i : Int, 0 ≤ i → i < 4294967231 → Q (.int i) H
def sp__law_draw (K : PySem.W.Frag) : Sp := fun vs H Q _ => ∃ (I : Hp) (a t : Addr) (n : Nat) (M : List (Addr × HO)) (m : Int), vs = [.ref a, .ref t, .int m] ∧ Dr K I H a t n M ∧ n < 1000000 ∧ 0 < m ∧
  ∀ (d : Int) (H' : Hp), 0 ≤ d → d < m → Dr K I H' a t (n + 1) M → Q (.int d) H'
def sp__law_pick (K : PySem.W.Frag) : Sp := fun vs H Q _ => ∃ (I : Hp) (a t l : Addr) (n : Nat) (M : List (Addr × HO)) (xs : List V), vs = [.ref a, .ref t, .ref l] ∧ Dr K I H a t n M ∧ n < 1000000 ∧ (∀ H', Dr K I H' a t n M ∨ Dr K I H' a t (n + 1) M → H' l = some (.lst xs)) ∧ xs ≠ [] ∧
  ∀ (x : V) (H' : Hp), x ∈ xs → Dr K I H' a t (n + 1) M → Q x H'
def t__law_cell (K : PySem.W.Frag) (E : XK) : TS := tSeq (tIfS (tTru K (tVar 0)) (tRet (tOp (rIxL K) (tVar 0) (tOp (rI (fun _ j => 0 < j) fun i j => .int (i % j)) (tVar 1) (tCB (gLenK K) (tCons (tVar 0) (tNil)))))) (tNext)) (tRet (tC (.int 0)))
abbrev nn__law_cell : List Str := ["script", "k"]
def t__law_mix (K : PySem.W.Frag) (E : XK) : TS := tSeq (tAsg (tOp (rI (fun _ j => 0 < j) fun i j => .int (i % j)) (tOp (rI0 fun i j => .int (i + j)) (tCall (sp__law_cell K) [] E (tCons (tVar 0) (tCons (tVar 1) (tNil)))) (tOp (rI CMul fun i j => .int (i * j)) (tC (.int 104729)) (tOp (rI0 fun i j => .int (i + j)) (tVar 1) (tC (.int 1))))) (tC (.int 4294967291))) (gName 2)) (tSeq (tAsg (tOp (rI (fun _ j => 0 < j) fun i j => .int (i % j)) (tOp (rI CPow fun i j => .int (i ^ j.toNat)) (tVar 2) (tC (.int 5))) (tC (.int 4294967279))) (gName 2)) (tRet (tOp (rI (fun _ j => 0 < j) fun i j => .int (i % j)) (tOp (rI0 fun i j => .int (i + j)) (tOp (rI CMul fun i j => .int (i * j)) (tOp (rI CDiv fun i j => .int (i / j)) (tVar 2) (tC (.int 64))) (tC (.int 69621))) (tVar 2)) (tC (.int 4294967231)))))
abbrev nn__law_mix : List Str := ["script", "k", "number"]
def t__law_draw (K : PySem.W.Frag) (E : XK) : TS := tSeq (tDrop (fBM "list" rAppend (tVar 1) (tCons (tC (.int 0)) (tNil)))) (tRet (tOp (rI (fun _ j => 0 < j) fun i j => .int (i % j)) (tOp (rI CDiv fun i j => .int (i / j)) (tCall (sp__law_mix K) [] E (tCons (tVar 0) (tCons (tCB (gLenL) (tCons (tVar 1) (tNil))) (tNil)))) (tC (.int 8))) (tVar 2)))
abbrev nn__law_draw : List Str := ["script", "town", "many"]
def t__law_pick (K : PySem.W.Frag) (E : XK) : TS := tRet (tOp gIxL (tVar 2) (tCall (sp__law_draw K) [] E (tCons (tVar 0) (tCons (tVar 1) (tCons (tCB (gLenL) (tCons (tVar 2) (tNil))) (tNil))))))
abbrev nn__law_pick : List Str := ["script", "town", "some"]
section
variable {K : PySem.W.Frag}
theorem len__law_cell : ∀ vs H Q E, sp__law_cell K vs H Q E → vs.length = ["script", "k"].length := by
  rintro _ _ _ _ ⟨a, k, rfl, _⟩; rfl
theorem len__law_mix : ∀ vs H Q E, sp__law_mix K vs H Q E → vs.length = ["script", "k"].length := by
  rintro _ _ _ _ ⟨a, k, rfl, _⟩; rfl
theorem len__law_draw : ∀ vs H Q E, sp__law_draw K vs H Q E → vs.length = ["script", "town", "many"].length := by
  rintro _ _ _ _ ⟨I, a, t, n, M, m, rfl, _⟩; rfl
theorem len__law_pick : ∀ vs H Q E, sp__law_pick K vs H Q E → vs.length = ["script", "town", "some"].length := by
  rintro _ _ _ _ ⟨I, a, t, l, n, M, m, rfl, _⟩; rfl
theorem atI_ok {α : Type} {xs : List α} {i : Int} (h0 : 0 ≤ i) (h1 : i < xs.length) : ∃ x, atI xs i = some x ∧ x ∈ xs := by
  have hl : i.toNat < xs.length := by omega
  refine ⟨xs[i.toNat], ?_, List.getElem_mem hl⟩
  unfold atI ixN
  rw [if_pos h0, if_pos h1]
  simp [List.getElem?_eq_getElem hl]
theorem pure__law_cell : ∀ vs H Q E, sp__law_cell K vs H Q E → t__law_cell K E { nx := fun _ H2 => Q .non H2, rt := Q } (L2.start nn__law_cell vs) H := by
  rintro vs H Q E ⟨a, k, rfl, ⟨ns, hS⟩, hQ⟩
  unfold t__law_cell
  simp! [tTru]
  refine ⟨!(ns.map V.int).isEmpty, .inl ⟨_, hS, rfl⟩, ?_⟩
  cases ns with
  | nil => simp! [List.isEmpty_nil]; exact hQ 0
  | cons n ns =>
    simp! [List.isEmpty_cons, rIxL, gLenK]
    refine ⟨_, hS, ?_⟩
    have hp : (0 : Int) < ((List.map V.int ns).length : Int) + 1 := by omega
    refine ⟨by simpa using hp, _, hS, ?_⟩
    obtain ⟨x, h1, h2⟩ := atI_ok (xs := V.int n :: List.map V.int ns) (i := k % ((((V.int n :: List.map V.int ns).length : Nat)) : Int)) (Int.emod_nonneg _ (by simp only [List.length_cons]; omega)) (Int.emod_lt_of_pos _ (by simp only [List.length_cons]; omega))
    obtain ⟨y, hy⟩ : ∃ y, x = V.int y := by
      rcases List.mem_cons.mp h2 with e | e
      · exact ⟨n, e⟩
      · obtain ⟨z, _, e⟩ := List.mem_map.mp e; exact ⟨z, e.symm⟩
    subst hy
    exact ⟨_, h1, hQ y⟩
theorem pure__law_mix : ∀ vs H Q E, sp__law_mix K vs H Q E → t__law_mix K E { nx := fun _ H2 => Q .non H2, rt := Q } (L2.start nn__law_mix vs) H := by
  rintro vs H Q E ⟨a, k, rfl, hS, hQ⟩
  unfold t__law_mix
  simp! [and_true]
  refine ⟨a, k, rfl, hS, fun i => ?_⟩
  simp! [and_true]
  refine ⟨.inl ⟨by decide, by decide⟩, by decide, ?_⟩
  have h1 := Int.emod_nonneg (i + 104729 * (k + 1)) (b := 4294967291) (by decide)
  have h2 := Int.emod_lt_of_pos (i + 104729 * (k + 1)) (b := 4294967291) (by decide)
  generalize (i + 104729 * (k + 1)) % 4294967291 = x at h1 h2
  refine ⟨⟨by decide, by decide, by omega⟩, by decide, ?_⟩
  generalize hy : x ^ (5 : Int).toNat % 4294967279 = y
  have h3 : 0 ≤ y := by rw [← hy]; exact Int.emod_nonneg _ (by decide)
  have h4 : y < 4294967279 := by rw [← hy]; exact Int.emod_lt_of_pos _ (by decide)
  refine ⟨⟨by decide, by decide⟩, .inl ⟨by omega, by omega⟩, by decide, ?_⟩
  exact hQ _ (Int.emod_nonneg _ (by decide)) (Int.emod_lt_of_pos _ (by decide))
theorem pure__law_draw : ∀ vs H Q E, sp__law_draw K vs H Q E → t__law_draw K E { nx := fun _ H2 => Q .non H2, rt := Q } (L2.start nn__law_draw vs) H := by
  rintro vs H Q E ⟨I, a, t, n, M, m, rfl, ⟨hS, zs, hz, w⟩, hn, hm, hQ⟩
  have ht := w.has.1
  unfold t__law_draw
  simp! [ht]
  have := line_big
  refine ⟨by omega, a, _, rfl, hS.mono (w.put (o' := .lst (zs ++ [V.int 0]))).sub, fun i h0 h1 => ?_⟩
  simp! [and_true]
  refine ⟨⟨by decide, by decide⟩, hm, hQ _ _ (Int.emod_nonneg _ (by omega)) (Int.emod_lt_of_pos _ hm) ⟨hS, _, ?_, w.put⟩⟩
  simp; exact hz
theorem pure__law_pick : ∀ vs H Q E, sp__law_pick K vs H Q E → t__law_pick K E { nx := fun _ H2 => Q .non H2, rt := Q } (L2.start nn__law_pick vs) H := by
  rintro vs H Q E ⟨I, a, t, l, n, M, xs, rfl, d, hn, hl, hx, hQ⟩
  have h0 := hl H (.inl d)
  unfold t__law_pick
  simp! [h0]
  have hp : 0 < xs.length := List.length_pos_iff.mpr hx
  refine ⟨I, a, t, n, M, _, rfl, d, hn, by omega, fun i H' i0 i1 d' => ?_⟩
  simp! [hl H' (.inr d')]
  obtain ⟨x, e1, e2⟩ := atI_ok (xs := xs) i0 (by omega)
  exact ⟨x, e1, hQ x H' e2 d'⟩
end
end TA

set_option linter.all false
set_option maxRecDepth 100000
set_option maxHeartbeats 1000000
/-! How a refusal is told. -/
namespace TA
open PySem L2
local macro_rules | `(tactic| simp! [$as,*]) => `(tactic| first | simp only [L2.start, tSeq, tAsg, tOp, fFld, tVar, gIxL, gIxT, tCB, tCons, tNil, gLenL, gLenT, gLenS, rI, rI0, fSet, tIfS, tTest, tB, rNotN, rIsN, rEq, rNe, tC, tDrop, fBM, fBM0, gTy, rAppend, tTup, tLst, tRet, tRetN, tNext, gName, fTup, gCons, gNil, tCall, fCallS, fMeth, tMeth, fMethS, fMake, tMake, fMakeS, tUn, rU, tAnd, tOr, tNot, tAndV, tOrV, tNotV, tIf, tChain, gListL, gListT, tSl, tNoPart, tPart, gSlL, fRaise, gStrI, gCatS, gMin2, gMax2, gIntB, tYes, fLcL, fLcT, fLcS, fLcR1, fForL, fForR1, fForR2,
  List.map_cons, List.map_nil, List.length_cons, List.length_nil, List.replicate, List.cons_append, List.nil_append, List.append_nil, List.getElem?_cons_zero, List.getElem?_cons_succ, List.set_cons_zero, List.set_cons_succ, reduceIte, Bool.not_true, Bool.not_false, Nat.reduceAdd, Nat.reduceSub, Bool.false_eq_true, eq_self,
  Option.some.injEq, V.int.injEq, V.ref.injEq, V.str.injEq, V.bl.injEq, HO.ins.injEq, HO.lst.injEq, HO.tup.injEq, HO.dK.injEq, List.cons.injEq, and_assoc, exists_eq_left', exists_and_left, and_true, true_and, true_or, or_true, false_or, or_false, exists_eq_left, exists_eq_right, exists_eq_right', exists_eq, exists_eq', exists_const, upd_same, sc_ii, sc_ss, sc_bb, sc_in, sc_ni, sc_ns, sc_sn, sc_nn, $as,*] | skip)
def wordOf (x : Str) : Str := if x = "BadText" then "text" else if x = "BadNumber" then "number" else "ask"
def refD : Option Str → PyData
  | none => .tuple [.str "ok"]
  | some x => .tuple [.str "refused", .str (wordOf x)]
/-- a held error of the class x, or None -/
def HeldV (K : PySem.W.Frag) (I : Hp) (v : V) : Option Str → Prop
  | none => v = .non
  | some x => x ∈ errs ∧ ∃ a, v = .ref a ∧ I a = some (ExC (.ref (He.ga K x)) a)
def sp__law_refusal (K : PySem.W.Frag) : Sp := fun vs H Q _ => ∃ (I : Hp) (M : List (Addr × HO)) (v : V) (c : Option Str), vs = [v] ∧ W I H M ∧ HeldV K I v c ∧ ∀ (I' H' : Hp) (v' : V), Sub I I' → W I' H' M → Rp I' v' (refD c) → Q v' H'
def t__law_refusal (K : PySem.W.Frag) (E : XK) : TS := tSeq (tIfS (tTest (tOp (rIsN) (tVar 0) (tC .non))) (tRet (tTup (tCons (tC (.str "ok")) (tNil)))) (tNext)) (tSeq (tAsg (tLst (tCons (tCB (gIs (.ref (He.ga K "BadText")) (tabOf K "BadText")) (tCons (tVar 0) (tCons (tC (.ref (He.ga K "BadText"))) tNil))) (tCons (tCB (gIs (.ref (He.ga K "BadNumber")) (tabOf K "BadNumber")) (tCons (tVar 0) (tCons (tC (.ref (He.ga K "BadNumber"))) tNil))) (tCons (tCB (gIs (.ref (He.ga K "BadAsk")) (tabOf K "BadAsk")) (tCons (tVar 0) (tCons (tC (.ref (He.ga K "BadAsk"))) tNil))) (tNil))))) (gName 1)) (tSeq (tIfS (tOr (tTest (tOp (rNe) (fBM "list" gCnt (tVar 1) (tCons (tC (.bl true)) (tNil))) (tC (.int 1)))) (tNot (tB (tCB (gIs (.ty "ValueError") (tabV K)) (tCons (tVar 0) (tCons (tC (.ty "ValueError")) tNil)))))) (tRet (tTup (tCons (tC (.str "wrong")) (tNil)))) (tNext)) (tRet (tTup (tCons (tC (.str "refused")) (tCons (tOp gIxL (tLst (tCons (tC (.str "text")) (tCons (tC (.str "number")) (tCons (tC (.str "ask")) (tNil))))) (fBM "list" gIdx (tVar 1) (tCons (tC (.bl true)) (tNil)))) (tNil)))))))
abbrev nn__law_refusal : List Str := ["held", "kinds"]
section
variable {K : PySem.W.Frag}
theorem len__law_refusal : ∀ vs H Q E, sp__law_refusal K vs H Q E → vs.length = ["held"].length := by
  rintro _ _ _ _ ⟨I, M, v, c, rfl, _⟩; rfl
theorem gIs_ok {c : V} {tab : List (Addr × Bool)} {H : Hp} {Q : VK} {a D : Addr} {b : Bool} (h : H a = some (ExC (.ref D) a)) (m : (D, b) ∈ tab) (q : Q (.bl b) H) : gIs c tab [.ref a, c] H Q := ⟨a, D, b, rfl, h, m, q⟩
theorem tab_in {x y : Str} {b : Bool} (hx : x ∈ errs) (e : decide (x = y) = b) : (He.ga K x, b) ∈ tabOf K y := List.mem_map.mpr ⟨x, hx, by rw [e]⟩
theorem tabV_in {x : Str} (hx : x ∈ errs) : (He.ga K x, true) ∈ tabV K := List.mem_map.mpr ⟨x, hx, rfl⟩
theorem errs_cases {x : Str} (h : x ∈ errs) : x = "BadText" ∨ x = "BadNumber" ∨ x = "BadAsk" := by simpa [errs] using h
theorem three_le : (3 : Nat) ≤ sizeLine := by have := line_big; omega
theorem two_le : (2 : Nat) ≤ sizeLine := by have := line_big; omega
theorem one_le : (1 : Nat) ≤ sizeLine := by have := line_big; omega
/-- the rest of it, the three answers known -/
theorem pure__law_refusal : ∀ vs H Q E, sp__law_refusal K vs H Q E → t__law_refusal K E { nx := fun _ H2 => Q .non H2, rt := Q } (L2.start nn__law_refusal vs) H := by
  rintro vs H Q E ⟨I, M, v, c, rfl, w, hv, hQ⟩
  unfold t__law_refusal
  cases c with
  | none =>
    obtain rfl : v = .non := hv
    simp! [decide_true]
    refine ⟨one_le, fun p hp => hQ _ _ _ (Sub.new (w.noI hp)) (w.newI hp) (.tup upd_same (.cons (.str _) .nil))⟩
  | some x =>
    obtain ⟨hx, a, rfl, ha⟩ := hv
    have h0 : H a = some (ExC (.ref (He.ga K x)) a) := w.sub _ _ ha
    simp! [decide_false, reduceCtorEq]
    refine gIs_ok h0 (tab_in hx rfl) (gIs_ok h0 (tab_in hx rfl) (gIs_ok h0 (tab_in hx rfl) ?_))
    simp! [and_true]
    refine ⟨three_le, fun l hl => ?_⟩
    have w1 := w.newI (o := .lst [.bl (decide (x = "BadText")), .bl (decide (x = "BadNumber")), .bl (decide (x = "BadAsk"))]) hl
    have e1 : decide (x = "BadText") = true ∧ decide (x = "BadNumber") = false ∧ decide (x = "BadAsk") = false ∧ wordOf x = "text" ∨ decide (x = "BadText") = false ∧ decide (x = "BadNumber") = true ∧ decide (x = "BadAsk") = false ∧ wordOf x = "number" ∨
        decide (x = "BadText") = false ∧ decide (x = "BadNumber") = false ∧ decide (x = "BadAsk") = true ∧ wordOf x = "ask" := by
      rcases errs_cases hx with rfl | rfl | rfl
      · left; decide +kernel
      · right; left; decide +kernel
      · right; right; decide +kernel
    rcases e1 with ⟨e1, e2, e3, e4⟩ | ⟨e1, e2, e3, e4⟩ | ⟨e1, e2, e3, e4⟩
    all_goals
      rw [e1, e2, e3] at w1 ⊢
      simp! [gCnt, flatV, List.all_cons, List.all_nil, Bool.and_true, scal]
      refine ite_nt (by decide) (gIs_ok (by have := w1.sub a _ (Sub.new (w.noI hl) _ _ ha); exact this) (tabV_in hx) ?_)
      simp! [and_true]
      refine ⟨three_le, fun p hp => ?_⟩
      have hI := w1.newI (o := .lst [V.str "text", V.str "number", V.str "ask"]) hp
      have hlp : l ≠ p := fun z => by rw [z, upd_same] at hp; cases hp
      have hll := hI.sub l _ (by rw [upd_ne hlp, upd_same])
      refine ⟨.inl ⟨_, hll⟩, l, _, _, _, rfl, rfl, hll, rfl, rfl, rfl, ?_⟩
      simp! [and_true]
      refine ⟨_, rfl, two_le, fun r hr => ?_⟩
      have w3 := hI.newI (o := .tup [V.str "refused", V.str (wordOf x)]) hr
      rw [e4] at w3
      refine hQ _ _ _ ((Sub.new (w.noI hl)).trans ((Sub.new (w1.noI hp)).trans (Sub.new (hI.noI hr)))) w3 ?_
      show Rp _ _ (.tuple [.str "refused", .str (wordOf x)])
      rw [e4]
      exact .tup upd_same (.cons (.str _) (.cons (.str _) .nil))
end
end TA

set_option linter.all false
set_option maxRecDepth 100000
set_option maxHeartbeats 1000000
/-! Data side by side with the values that stand for them. -/
namespace TA
open PySem L2
section
variable {H H' I : Hp} {α : Type}
theorem RpAll.length : ∀ {vs : List V} {ds : List PyData}, RpAll H vs ds → vs.length = ds.length
  | _, _, .nil => rfl
  | _, _, .cons _ r => by rw [List.length_cons, List.length_cons, r.length]
theorem RpAll.get : ∀ {vs : List V} {ds : List PyData} {i : Nat} {v : V}, RpAll H vs ds → vs[i]? = some v → ∃ d, ds[i]? = some d ∧ Rp H v d
  | _, _, _, _, .nil, h => by simp at h
  | _, _, 0, _, .cons r _, h => by simp at h; subst h; exact ⟨_, rfl, r⟩
  | _, _, i + 1, _, .cons _ t, h => by simpa using t.get (i := i) (by simpa using h)
theorem RpAll.snoc : ∀ {vs : List V} {ds : List PyData} {v : V} {d : PyData}, RpAll H vs ds → Rp H v d → RpAll H (vs ++ [v]) (ds ++ [d])
  | _, _, _, _, .nil, h => .cons h .nil
  | _, _, _, _, .cons r t, h => .cons r (t.snoc h)
/-- values paired with what they stand for -/
def Enc (H : Hp) (e : α → PyData) (zs : List (V × α)) : Prop := ∀ z ∈ zs, Rp H z.1 (e z.2)
theorem Enc.nil {e : α → PyData} : Enc H e [] := fun _ h => by cases h
theorem Enc.mono {e : α → PyData} {zs : List (V × α)} (s : Sub H H') (h : Enc H e zs) : Enc H' e zs := fun z hz => (h z hz).mono s
theorem Enc.snoc {e : α → PyData} {zs : List (V × α)} {v : V} {x : α} (h : Enc H e zs) (r : Rp H v (e x)) : Enc H e (zs ++ [(v, x)]) := fun z hz => by
  rcases List.mem_append.mp hz with q | q
  · exact h z q
  · rw [List.mem_singleton.mp q]; exact r
theorem Enc.sub {e : α → PyData} {zs ys : List (V × α)} (h : Enc H e zs) (k : ∀ z ∈ ys, z ∈ zs) : Enc H e ys := fun z hz => h z (k z hz)
theorem Enc.filter {e : α → PyData} {zs : List (V × α)} (h : Enc H e zs) (p : V × α → Bool) : Enc H e (zs.filter p) := h.sub fun z hz => (List.mem_filter.mp hz).1
theorem Enc.all {e : α → PyData} : ∀ {zs : List (V × α)}, Enc H e zs → RpAll H (zs.map Prod.fst) (zs.map fun z => e z.2)
  | [], _ => .nil
  | z :: zs, h => .cons (h z List.mem_cons_self) (Enc.all fun y hy => h y (List.mem_cons_of_mem _ hy))
/-- from values and data in two lists -/
theorem enc_of {e : α → PyData} : ∀ {vs : List V} {xs : List α}, RpAll H vs (xs.map e) → ∃ zs : List (V × α), vs = zs.map Prod.fst ∧ xs = zs.map Prod.snd ∧ Enc H e zs
  | [], [], _ => ⟨[], rfl, rfl, Enc.nil⟩
  | [], _ :: _, h => by cases h
  | _ :: _, [], h => by cases h
  | v :: vs, x :: xs, h => by
    cases h with
    | cons h1 h2 =>
      obtain ⟨zs, rfl, rfl, k⟩ := enc_of h2
      refine ⟨(v, x) :: zs, rfl, rfl, fun z hz => ?_⟩
      rcases List.mem_cons.mp hz with q | q
      · rw [q]; exact h1
      · exact k z q
end
/-! ### sorted, of typed data -/
/-- the order of sorted over data of one kind -/
def leD {α : Type} (e : α → PyData) (x y : α) : Bool := dle (e x) (e y)
def sortE {α : Type} (e : α → PyData) (l : List α) : List α := l.mergeSort (leD e)
/-- data of one kind that sorted takes -/
structure Sorts {α : Type} (e : α → PyData) : Prop where
  alike : ∀ x y, PySem.W.alike (e x) (e y) = true
  sb : (∀ x, ∃ y r, e x = .tuple (y :: r)) ∨ ∀ x, e x ≠ .none ∧ ∀ xs, e x ≠ .tuple xs
  dp : ∀ x, (e x).depth ≤ 50
theorem sortD_use {α : Type} {e : α → PyData} (S : Sorts e) {H : Hp} {a : Addr} {zs : List (V × α)} {Q : VK} (h : H a = some (.lst (zs.map Prod.fst))) (k : Enc H e zs) (q : ∀ p, H p = none → Q (.ref p) (upd H p (.lst ((zs.mergeSort fun x y => leD e x.2 y.2).map Prod.fst)))) :
    gSortD [.ref a] H Q := by
  refine ⟨a, zs.map fun z => (z.1, e z.2), rfl, ?_, ?_, ?_, ?_, ?_, fun p hp => ?_⟩
  · rw [List.map_map]; exact h
  · rw [List.map_map, List.map_map]; exact k.all
  · intro d hd d' hd'
    rw [List.map_map] at hd hd'
    obtain ⟨z, _, rfl⟩ := List.mem_map.mp hd
    obtain ⟨z', _, rfl⟩ := List.mem_map.mp hd'
    exact S.alike _ _
  · rcases S.sb with s | s
    · left; intro d hd
      rw [List.map_map] at hd
      obtain ⟨z, _, rfl⟩ := List.mem_map.mp hd
      exact s _
    · right; intro d hd
      rw [List.map_map] at hd
      obtain ⟨z, _, rfl⟩ := List.mem_map.mp hd
      exact s _
  · intro z hz
    obtain ⟨y, _, rfl⟩ := List.mem_map.mp hz
    exact S.dp _
  · have e1 := PySem.W.sort_maps (r := fun (x y : V × α) => leD e x.2 y.2) (s := fun (x y : V × PyData) => dle x.2 y.2) (fun z : V × α => (z.1, e z.2)) (l := zs) fun a _ b _ => rfl
    rw [← e1, List.map_map]
    exact q p hp
theorem sort_snd {α : Type} {e : α → PyData} (zs : List (V × α)) : (zs.mergeSort fun x y => leD e x.2 y.2).map Prod.snd = sortE e (zs.map Prod.snd) := PySem.W.sort_maps (r := fun (x y : V × α) => leD e x.2 y.2) (s := leD e) Prod.snd fun a _ b _ => rfl
theorem sort_enc {α : Type} {e : α → PyData} {H : Hp} {zs : List (V × α)} (h : Enc H e zs) : Enc H e (zs.mergeSort fun x y => leD e x.2 y.2) := h.sub fun z hz => (List.mergeSort_perm zs _).mem_iff.mp hz
/-! ### filter comprehensions: [x for x in xs if p x] -/
theorem take_succ_get {α : Type} {l : List α} {i : Nat} {x : α} (h : l[i]? = some x) : l.take (i + 1) = l.take i ++ [x] := by
  rw [List.take_succ, h]; rfl
theorem comp_filter {α : Type} {zs : List (V × α)} {p : V × α → Bool} {src : Hp → Prop} {j : Nat} {tt : TT} {σ : St} {H I : Hp} {M : List (Addr × HO)} {Q : VK} (w : W I H M) (hn : zs.length ≤ 1000000) (hj : ∀ x, wipe ((wipe σ [j]).set j x) [j] = wipe σ [j])
    (hjj : ∀ x : V, ((wipe σ [j]).set j (some x))[j]? = some (some x)) (hsrc : ∀ D o H', W I H' ((D, o) :: M) → src H')
    (ht : ∀ z ∈ zs, ∀ D o H' Q', W I H' ((D, o) :: M) → Q' (p z) H' → tt ((wipe σ [j]).set j (some z.1)) H' Q') (hd : ∀ D H', W I H' ((D, .lst ((zs.filter p).map Prod.fst)) :: M) → Q (.ref D) H') :
    CompW src (zs.map Prod.fst).length (fun i x => (zs.map Prod.fst)[i]? = some x) (gName j) tt (tVar j) [j] σ H Q := by
  refine ⟨I, M, fun i I' acc M' => I' = I ∧ M' = M ∧ acc = ((zs.take i).filter p).map Prod.fst, w, by rw [List.length_map]; exact hn, ⟨rfl, rfl, rfl⟩, ?_, ?_, ?_⟩
  · rintro i I' acc M' D H' ⟨rfl, rfl, _⟩ _ w'
    exact hsrc _ _ _ w'
  · rintro D i x H' I' acc M' hi hx _ w' ⟨rfl, rfl, rfl⟩ _
    rw [List.getElem?_map, Option.map_eq_some_iff] at hx
    obtain ⟨z, hz, rfl⟩ := hx
    refine ⟨hj _, ht z (List.mem_of_getElem? hz) _ _ _ _ w' ?_⟩
    cases hp : p z with
    | true =>
      rw [if_pos rfl]
      refine ⟨z.1, hjj _, nxt (Sub.refl _) w' ⟨rfl, rfl, ?_⟩⟩
      rw [take_succ_get hz, List.filter_append, List.map_append, List.filter_cons_of_pos (by rw [hp]), List.filter_nil]
      rfl
    | false =>
      rw [if_neg (by decide)]
      refine nxt (Sub.refl _) w' ⟨rfl, rfl, ?_⟩
      rw [take_succ_get hz, List.filter_append, List.filter_cons_of_neg (by rw [hp]; decide), List.filter_nil, List.append_nil]
  · rintro D H' I' acc M' _ w' ⟨rfl, rfl, rfl⟩ _
    refine hd D H' ?_
    rw [List.length_map, List.take_length] at w'
    exact w'
/-! ### small numbers as texts -/
theorem log2_small {i : Int} (h0 : 0 ≤ i) (h1 : i < 1000) : i.natAbs.log2 < 1920 := by
  have h2 : i.natAbs.log2 ≤ i.natAbs := Nat.log2_le_self _
  omega
theorem len_num {i : Int} (h0 : 0 ≤ i) (h1 : i < 1000) : (Str.ofString (toString i)).length ≤ 3 := by
  have e : i = ((i.toNat : Nat) : Int) := by omega
  rw [e, TL.len_tl, TL.tl_num]
  exact TL.numL_len (by decide) (by omega)
theorem ne_size {n : Nat} (h : n ≤ 1000000) : n ≤ sizeLine := by have := line_big; omega
end TA

set_option linter.all false
set_option maxRecDepth 100000
set_option maxHeartbeats 2000000
/-! Roads. -/
namespace TA
open PySem L2
local macro_rules | `(tactic| simp! [$as,*]) => `(tactic| first | simp only [L2.start, tSeq, tAsg, tOp, fFld, tVar, gIxL, gIxT, tCB, tCons, tNil, gLenL, gLenT, gLenS, rI, rI0, fSet, tIfS, tTest, tB, rNotN, rIsN, rEq, rNe, tC, tDrop, fBM, fBM0, gTy, rAppend, tTup, tLst, tRet, tRetN, tNext, gName, fTup, gCons, gNil, tCall, fCallS, fMeth, tMeth, fMethS, fMake, tMake, fMakeS, tUn, rU, tAnd, tOr, tNot, tAndV, tOrV, tNotV, tIf, tChain, gListL, gListT, tSl, tNoPart, tPart, gSlL, fRaise, gStrI, gCatS, gMin2, gMax2, gIntB, tYes, fLcL, fLcT, fLcS, fLcR1, fForL, fForR1, fForR2,
  List.map_cons, List.map_nil, List.length_cons, List.length_nil, List.replicate, List.cons_append, List.nil_append, List.append_nil, List.getElem?_cons_zero, List.getElem?_cons_succ, List.set_cons_zero, List.set_cons_succ, reduceIte, Bool.not_true, Bool.not_false, Nat.reduceAdd, Nat.reduceSub, Bool.false_eq_true, eq_self,
  Option.some.injEq, V.int.injEq, V.ref.injEq, V.str.injEq, V.bl.injEq, HO.ins.injEq, HO.lst.injEq, HO.tup.injEq, HO.dK.injEq, List.cons.injEq, and_assoc, exists_eq_left', exists_and_left, and_true, true_and, true_or, or_true, false_or, or_false, exists_eq_left, exists_eq_right, exists_eq_right', exists_eq, exists_eq', exists_const, upd_same, sc_ii, sc_ss, sc_bb, sc_in, sc_ni, sc_ns, sc_sn, sc_nn, $as,*] | skip)
def n_Road : List Str := ["delays", "sent", "under_way"]
theorem nd_Road : n_Road.Nodup := by decide +kernel
section
variable {v0 v1 v2 x : V}
theorem lk_Road_delays : (n_Road.zip [v0, v1, v2]).lookup ("delays" : Str) = some v0 := lookup_zip 0 nd_Road rfl rfl
theorem pf_Road_delays : putF ("delays" : Str) x (n_Road.zip [v0, v1, v2]) = n_Road.zip [x, v1, v2] := putF_zip 0 nd_Road rfl (by simp only [List.length_cons, List.length_nil]; omega)
theorem lk_Road_sent : (n_Road.zip [v0, v1, v2]).lookup ("sent" : Str) = some v1 := lookup_zip 1 nd_Road rfl rfl
theorem pf_Road_sent : putF ("sent" : Str) x (n_Road.zip [v0, v1, v2]) = n_Road.zip [v0, x, v2] := putF_zip 1 nd_Road rfl (by simp only [List.length_cons, List.length_nil]; omega)
theorem lk_Road_under_way : (n_Road.zip [v0, v1, v2]).lookup ("under_way" : Str) = some v2 := lookup_zip 2 nd_Road rfl rfl
theorem pf_Road_under_way : putF ("under_way" : Str) x (n_Road.zip [v0, v1, v2]) = n_Road.zip [v0, v1, x] := putF_zip 2 nd_Road rfl (by simp only [List.length_cons, List.length_nil]; omega)
theorem no_Road_send : (n_Road.zip [v0, v1, v2]).lookup ("send" : Str) = none := lookup_out (by decide +kernel)
theorem no_Road_due : (n_Road.zip [v0, v1, v2]).lookup ("due" : Str) = none := lookup_out (by decide +kernel)
theorem no_Road_many : (n_Road.zip [v0, v1, v2]).lookup ("many" : Str) = none := lookup_out (by decide +kernel)
theorem in_Road : putF "under_way" v2 (putF "sent" v1 (putF "delays" v0 ([]))) = n_Road.zip [v0, v1, v2] := by kernel_rfl
theorem ln_Road : (n_Road.zip [v0, v1, v2]).length < 1000 := by simp only [n_Road, List.zip_cons_cons, List.zip_nil_right, List.length_cons, List.length_nil]; omega
end
/-- a road as an object -/
def oRoad (K : PySem.W.Frag) (dx d : Addr) (n : Int) (u : Addr) : HO := .ins (He.ga K "Road") dx (n_Road.zip [.ref d, .int n, .ref u])
def delV : Option Int → V
  | none => .non
  | some i => .int i
def delOk : Option Int → Bool
  | none => true
  | some i => decide (1 ≤ i) && decide (i ≤ 30)
def roadOk (ds : List (Option Int)) : Bool := decide (1 ≤ ds.length) && decide (ds.length ≤ 8) && ds.all delOk
/-- an ask under way: when it comes, its number, its query -/
abbrev Ask := Int × Int × Str
def askD (x : Ask) : PyData := .tuple [.int x.1, .int x.2.1, .str x.2.2]
def dueD (x : Ask) : PyData := .tuple [.int x.2.1, .str x.2.2]
theorem ask_sorts : Sorts askD := ⟨fun x y => by simp [askD, PySem.W.alike, PySem.W.alikeAll], .inl fun x => ⟨_, _, rfl⟩, fun x => by simp [askD, PyData.depth, PyData.depthAll]⟩
theorem rp_ask {H : Hp} {v : V} {x : Ask} (h : Rp H v (askD x)) : ∃ t, v = .ref t ∧ H t = some (.tup [.int x.1, .int x.2.1, .str x.2.2]) := by
  unfold askD at h
  cases h with
  | tup h r =>
    cases r with
    | cons h1 r =>
      cases r with
      | cons h2 r =>
        cases r with
        | cons h3 r =>
          cases r
          cases h1; cases h2; cases h3
          exact ⟨_, rfl, h⟩
/-- the delays that a road keeps, what is under way -/
structure RoadW (K : PySem.W.Frag) (I H : Hp) (p dx d u : Addr) (ds : List (Option Int)) (n : Nat) (zs : List (V × Ask)) (M : List (Addr × HO)) : Prop where
  w : W I H ((p, oRoad K dx d n u) :: (u, .lst (zs.map Prod.fst)) :: M)
  dl : I d = some (.lst (ds.map delV))
  en : Enc I askD zs
/-- the next delay -/
def nextDelay (ds : List (Option Int)) (n : Nat) : Option Int := (ds[n % ds.length]?).getD none
def sentUw (ds : List (Option Int)) (n : Nat) (uw : List Ask) (q : Str) (time : Int) : List Ask := match nextDelay ds n with
  | none => uw
  | some d => uw ++ [(time + d, ((n + 1 : Nat) : Int), q)]
def sp_Road___init__ (K : PySem.W.Frag) : Sp := fun vs H Q E => ∃ (I : Hp) (M : List (Addr × HO)) (p dx l : Addr) (ds : List (Option Int)), vs = [.ref p, .ref l] ∧ W I H ((p, .ins (He.ga K "Road") dx []) :: M) ∧ (∀ I' H' o, Sub I I' → W I' H' ((p, o) :: M) → H' l = some (.lst (ds.map delV))) ∧ ds.length ≤ 100 ∧
  (roadOk ds = true → ∀ (I' H' : Hp) (d u : Addr), Sub I I' → RoadW K I' H' p dx d u ds 0 [] M → Q .non H') ∧ (roadOk ds = false → ∀ (I' H' : Hp), Sub I I' → W I' H' ((p, .ins (He.ga K "Road") dx []) :: M) → E (.ref (He.ga K "BadNumber")) none H')
def sp_Road_send (K : PySem.W.Frag) : Sp := fun vs H Q _ => ∃ (I : Hp) (M : List (Addr × HO)) (p dx d u : Addr) (ds : List (Option Int)) (n : Nat) (zs : List (V × Ask)) (q : Str) (time : Int), vs = [.ref p, .str q, .int time] ∧ RoadW K I H p dx d u ds n zs M ∧ ds ≠ [] ∧ zs.length ≤ 100000 ∧
  ∀ (I' H' : Hp) (zs' : List (V × Ask)), Sub I I' → RoadW K I' H' p dx d u ds (n + 1) zs' M → zs'.map Prod.snd = sentUw ds n (zs.map Prod.snd) q time → Q (.int ((n + 1 : Nat) : Int)) H'
def sp_Road_due (K : PySem.W.Frag) : Sp := fun vs H Q _ => ∃ (I : Hp) (M : List (Addr × HO)) (p dx d u : Addr) (ds : List (Option Int)) (n : Nat) (zs : List (V × Ask)) (time : Int), vs = [.ref p, .int time] ∧ RoadW K I H p dx d u ds n zs M ∧ zs.length ≤ 100000 ∧
  ∀ (I' H' : Hp) (u' : Addr) (zs' : List (V × Ask)) (v : V), Sub I I' → RoadW K I' H' p dx d u' ds n zs' M → zs'.map Prod.snd = (zs.map Prod.snd).filter (fun x => decide (time < x.1)) →
    Rp I' v (.list ((sortE askD ((zs.map Prod.snd).filter fun x => decide (x.1 ≤ time))).map dueD)) → Q v H'
def sp_Road_many (K : PySem.W.Frag) : Sp := fun vs H Q _ => ∃ (p dx d u : Addr) (n : Nat), vs = [.ref p] ∧ H p = some (oRoad K dx d n u) ∧ Q (.int n) H
def t_Road___init__ (K : PySem.W.Frag) (E : XK) : TS := tSeq (tAsg (tChain (rI0 fun i j => .bl (decide (i ≤ j))) (rI0 fun i j => .bl (decide (i ≤ j))) (tC (.int 1)) (tCB (gLenL) (tCons (tVar 1) (tNil))) (tC (.int 8))) (gName 2)) (tSeq (tIfS (tOr (tNot (tB (tVar 2))) (tNot (tB (tCB (gAll) (tCons (fLcL (tVar 1) (gName 3) (tYes) (tOrV (tOp (rIsN) (tVar 3) (tC .non)) (tChain (rI0 fun i j => .bl (decide (i ≤ j))) (rI0 fun i j => .bl (decide (i ≤ j))) (tC (.int 1)) (tVar 3) (tC (.int 30)))) [3]) (tNil)))))) (fRaise (WD E) (He.ga K "BadNumber")) (tNext)) (tSeq (fSet (He.ga K "Road") "delays" (tVar 0) (tCB (gListL) (tCons (tVar 1) (tNil)))) (tSeq (fSet (He.ga K "Road") "sent" (tVar 0) (tC (.int 0))) (fSet (He.ga K "Road") "under_way" (tVar 0) (tLst (tNil))))))
abbrev nn_Road___init__ : List Str := ["self", "delays", "good", "delay"]
def t_Road_send (K : PySem.W.Frag) (E : XK) : TS := tSeq (tAsg (tOp gIxL (fFld (He.ga K "Road") "delays" (tVar 0)) (tOp (rI (fun _ j => 0 < j) fun i j => .int (i % j)) (fFld (He.ga K "Road") "sent" (tVar 0)) (tCB (gLenL) (tCons (fFld (He.ga K "Road") "delays" (tVar 0)) (tNil))))) (gName 3)) (tSeq (fSet (He.ga K "Road") "sent" (tVar 0) (tOp (rI0 fun i j => .int (i + j)) (fFld (He.ga K "Road") "sent" (tVar 0)) (tC (.int 1)))) (tSeq (tIfS (tTest (tOp (rNotN) (tVar 3) (tC .non))) (tDrop (fBM "list" rAppend (fFld (He.ga K "Road") "under_way" (tVar 0)) (tCons (tTup (tCons (tOp (rI0 fun i j => .int (i + j)) (tVar 2) (tVar 3)) (tCons (fFld (He.ga K "Road") "sent" (tVar 0)) (tCons (tVar 1) (tNil))))) (tNil)))) (tNext)) (tRet (fFld (He.ga K "Road") "sent" (tVar 0)))))
abbrev nn_Road_send : List Str := ["self", "query", "time", "delay"]
def t_Road_due (K : PySem.W.Frag) (E : XK) : TS := tSeq (tAsg (tCB (gSortD) (tCons (fLcL (fFld (He.ga K "Road") "under_way" (tVar 0)) (gName 3) (tTest (tOp (rI0 fun i j => .bl (decide (i ≤ j))) (tOp gIxT (tVar 3) (tC (.int 0))) (tVar 1))) (tVar 3) [3]) (tNil))) (gName 2)) (tSeq (fSet (He.ga K "Road") "under_way" (tVar 0) (fLcL (fFld (He.ga K "Road") "under_way" (tVar 0)) (gName 3) (tTest (tOp (rI0 fun i j => .bl (decide (j < i))) (tOp gIxT (tVar 3) (tC (.int 0))) (tVar 1))) (tVar 3) [3])) (tRet (fLcL (tVar 2) (fTup 3 (gCons (gName 4) (gCons (gName 5) (gCons (gName 6) (gNil))))) (tYes) (tTup (tCons (tVar 5) (tCons (tVar 6) (tNil)))) [4, 5, 6])))
abbrev nn_Road_due : List Str := ["self", "time", "found", "one", "when", "number", "query"]
def t_Road_many (K : PySem.W.Frag) (E : XK) : TS := tRet (fFld (He.ga K "Road") "sent" (tVar 0))
abbrev nn_Road_many : List Str := ["self"]
section
variable {K : PySem.W.Frag}
theorem len_Road___init__ : ∀ vs H Q E, sp_Road___init__ K vs H Q E → vs.length = ["self", "delays"].length := by
  rintro _ _ _ _ ⟨_, _, _, _, _, _, rfl, _⟩; rfl
theorem len_Road_send : ∀ vs H Q E, sp_Road_send K vs H Q E → vs.length = ["self", "query", "time"].length := by
  rintro _ _ _ _ ⟨_, _, _, _, _, _, _, _, _, _, _, rfl, _⟩; rfl
theorem len_Road_due : ∀ vs H Q E, sp_Road_due K vs H Q E → vs.length = ["self", "time"].length := by
  rintro _ _ _ _ ⟨_, _, _, _, _, _, _, _, _, _, rfl, _⟩; rfl
theorem len_Road_many : ∀ vs H Q E, sp_Road_many K vs H Q E → vs.length = ["self"].length := by
  rintro _ _ _ _ ⟨_, _, _, _, _, rfl, _⟩; rfl
theorem pure_Road_many : ∀ vs H Q E, sp_Road_many K vs H Q E → t_Road_many K E { nx := fun _ H2 => Q .non H2, rt := Q } (L2.start nn_Road_many vs) H := by
  rintro vs H Q E ⟨p, dx, d, u, n, rfl, h, hQ⟩
  unfold t_Road_many oRoad at *
  simp! [h, lk_Road_sent]
  exact hQ
theorem atI_mod {α : Type} {xs : List α} {n : Nat} (h : xs ≠ []) : ∃ x, xs[n % xs.length]? = some x ∧ atI xs ((n : Int) % (xs.length : Int)) = some x := by
  have hp : 0 < xs.length := List.length_pos_iff.mpr h
  have hl : n % xs.length < xs.length := Nat.mod_lt _ hp
  refine ⟨xs[n % xs.length], List.getElem?_eq_getElem hl, ?_⟩
  have := atI_nat (xs := xs) (j := n % xs.length) (List.getElem?_eq_getElem hl)
  rw [← this]
  congr 1
theorem pure_Road_send : ∀ vs H Q E, sp_Road_send K vs H Q E → t_Road_send K E { nx := fun _ H2 => Q .non H2, rt := Q } (L2.start nn_Road_send vs) H := by
  rintro vs H Q E ⟨I, M, p, dx, d, u, ds, n, zs, q, time, rfl, ⟨w, hd, en⟩, hne, hz, hQ⟩
  have h1 := w.has.1
  have h3 := w.has.2.1
  have h2 := w.sub d _ hd
  unfold t_Road_send oRoad at *
  simp! [h1, h2, h3, lk_Road_delays, lk_Road_sent, lk_Road_under_way, pf_Road_sent, ln_Road, List.length_map]
  have hpos : 0 < ds.length := List.length_pos_iff.mpr hne
  obtain ⟨x, e1, e2⟩ := atI_mod (xs := ds.map delV) (n := n) (by simpa using hne)
  rw [List.length_map] at e1 e2
  rw [List.getElem?_map, Option.map_eq_some_iff] at e1
  obtain ⟨dl, e1, rfl⟩ := e1
  have en1 : nextDelay ds n = dl := by unfold nextDelay; rw [e1]; rfl
  refine ⟨by omega, _, e2, ?_⟩
  have w1 := w.put (o' := .ins (He.ga K "Road") dx (n_Road.zip [V.ref d, V.int ((n : Int) + 1), V.ref u]))
  cases dl with
  | none =>
    simp! [delV, decide_true]
    exact hQ _ _ zs (Sub.refl _) ⟨w1, hd, en⟩ (by unfold sentUw; rw [en1])
  | some i =>
    simp! [delV, decide_false, reduceCtorEq]
    refine ⟨.inl ⟨_, w1.has.2.1⟩, three_le, fun t ht => ?_⟩
    have w2 := w1.newI (o := .tup [V.int (time + i), V.int ((n : Int) + 1), V.str q]) ht
    have w3 := (w2.swap.put (o' := .lst (zs.map Prod.fst ++ [V.ref t]))).swap
    have sI := Sub.new (o := .tup [V.int (time + i), V.int ((n : Int) + 1), V.str q]) (w1.noI ht)
    refine ⟨_, w2.has.2.1, ?_, _, _, w3.has.1, _, lk_Road_sent, ?_⟩
    · have := line_big; rw [List.length_map]; omega
    · refine hQ _ _ (zs ++ [(.ref t, (time + i, ((n + 1 : Nat) : Int), q))]) sI ⟨?_, sI _ _ hd, ?_⟩ ?_
      · rw [List.map_append]; exact w3
      · exact (en.mono sI).snoc (.tup upd_same (.cons (.int _) (.cons (.int _) (.cons (.str _) .nil))))
      · unfold sentUw; rw [en1, List.map_append]; rfl
theorem pure_Road_due : ∀ vs H Q E, sp_Road_due K vs H Q E → t_Road_due K E { nx := fun _ H2 => Q .non H2, rt := Q } (L2.start nn_Road_due vs) H := by
  rintro vs H Q E ⟨I, M, p, dx, d, u, ds, n, zs, time, rfl, ⟨w, hd, en⟩, hz, hQ⟩
  have h1 := w.has.1
  have h3 := w.has.2.1
  unfold t_Road_due oRoad at *
  simp! [h1, h3, lk_Road_under_way]
  have tst : ∀ z ∈ zs, ∀ I' H', Sub I I' → Sub I' H' → ∃ t, z.1 = V.ref t ∧ H' t = some (.tup [.int z.2.1, .int z.2.2.1, .str z.2.2.2]) := fun z hzz I' H' s1 s2 => by
    obtain ⟨t, e, h⟩ := rp_ask (en z hzz)
    exact ⟨t, e, s2 _ _ (s1 _ _ h)⟩
  refine comp_filter (p := fun z => decide (z.2.1 ≤ time)) w (by omega) (fun _ => rfl) (fun _ => rfl) (fun D o H' w' => w'.has.2.2.1) (fun z hzz D o H' Q' w' q => ?_) (fun D H' w' => ?_)
  · obtain ⟨t, e, h⟩ := tst z hzz I H' (Sub.refl _) w'.sub
    simp! [wipe, e, h]
    exact ⟨_, rfl, by simpa using q⟩
  refine sortD_use ask_sorts w'.has.1 ((en.filter _).mono w'.sub) fun f hf => ?_
  generalize hys : ((zs.filter fun z => decide (z.2.1 ≤ time)).mergeSort fun x y => leD askD x.2 y.2) = ys at hf ⊢
  have hyd : ys.map Prod.snd = sortE askD ((zs.map Prod.snd).filter fun x => decide (x.1 ≤ time)) := by
    rw [← hys, sort_snd, List.filter_map]; rfl
  have enY : Enc I askD ys := by rw [← hys]; exact sort_enc (en.filter _)
  have lenY : ys.length ≤ zs.length := by rw [← hys, List.length_mergeSort]; exact List.length_filter_le _ _
  have w2 := w'.drop.newI (o := .lst (ys.map Prod.fst)) hf
  have s2 := Sub.new (o := .lst (ys.map Prod.fst)) (w'.noI hf)
  generalize upd H' f (.lst (ys.map Prod.fst)) = H2 at w2 ⊢
  generalize hI2 : upd I f (.lst (ys.map Prod.fst)) = I2 at w2 s2
  have hf2 : I2 f = some (.lst (ys.map Prod.fst)) := by rw [← hI2, upd_same]
  simp! [w2.has.1, w2.has.2.1, lk_Road_under_way]
  refine comp_filter (p := fun z => decide (time < z.2.1)) w2 (by omega) (fun _ => rfl) (fun _ => rfl) (fun D o H' w' => w'.has.2.2.1) (fun z hzz D o H' Q' w' q => ?_) (fun D2 H3 w3 => ?_)
  · obtain ⟨t, e, h⟩ := tst z hzz I2 H' s2 w'.sub
    simp! [wipe, e, h]
    exact ⟨_, rfl, by simpa using q⟩
  have w4 := w3.swap.put (o' := .ins (He.ga K "Road") dx (n_Road.zip [V.ref d, V.int n, V.ref D2]))
  have w5 := w4.rot.drop
  simp! [w3.has.2.1, pf_Road_under_way, ln_Road]
  generalize upd H3 p _ = H4 at w5 ⊢
  have hf4 := w5.sub f _ hf2
  refine ⟨_, hf4, I2, _, fun i I' acc M' => M' = _ ∧ RpAll I' acc ((ys.take i).map fun z => dueD z.2), w5, by rw [List.length_map]; omega, ⟨rfl, .nil⟩, ?_, ?_, ?_⟩
  · rintro i I' acc M' D H' ⟨rfl, _⟩ s w'
    exact w'.sub f _ (s _ _ hf2)
  · rintro D i x H' I' acc M' hi hx s w' ⟨rfl, r⟩ _
    rw [List.getElem?_map, Option.map_eq_some_iff] at hx
    obtain ⟨z, hzz, rfl⟩ := hx
    obtain ⟨t, e, h⟩ := rp_ask (enY z (List.mem_of_getElem? hzz))
    have h' := w'.sub t _ (s _ _ (s2 _ _ h))
    simp! [e, h', wipe]
    refine ⟨two_le, fun g hg => ?_⟩
    have w6 := w'.newI (o := .tup [V.int z.2.2.1, V.str z.2.2.2]) hg
    have s6 := Sub.new (o := .tup [V.int z.2.2.1, V.str z.2.2.2]) (w'.noI hg)
    refine nxt s6 w6 ⟨rfl, ?_⟩
    rw [take_succ_get hzz, List.map_append]
    exact (r.mono s6).snoc (.tup upd_same (.cons (.int _) (.cons (.str _) .nil)))
  · rintro D H' I' acc M' s w' ⟨rfl, r⟩ _
    have w6 := w'.freeze
    have s6 := Sub.new (o := .lst acc) (w'.out (D, .lst acc) List.mem_cons_self)
    rw [List.length_map, List.take_length] at r
    refine hQ _ _ D2 _ _ (s2.trans (s.trans s6)) ⟨w6, s6 _ _ (s _ _ (s2 _ _ hd)), ((en.filter _).mono s2).mono (s.trans s6)⟩ ?_ (.lst upd_same ?_)
    · rw [List.filter_map]; rfl
    · have e : ys.map (fun z => dueD z.2) = (sortE askD ((zs.map Prod.snd).filter fun x => decide (x.1 ≤ time))).map dueD := by rw [← hyd, List.map_map]; rfl
      rw [← e]
      exact r.mono s6
theorem pure_Road___init__ : ∀ vs H Q E, sp_Road___init__ K vs H Q E → t_Road___init__ K E { nx := fun _ H2 => Q .non H2, rt := Q } (L2.start nn_Road___init__ vs) H := by
  rintro vs H Q E ⟨I, M, p, dx, l, ds, rfl, w, hl, hlen, hyes, hno⟩
  have h0 := hl I H _ (Sub.refl _) w
  unfold t_Road___init__
  simp! [h0, List.length_map]
  have raise : ∀ I' H', Sub I I' → W I' H' ((p, .ins (He.ga K "Road") dx []) :: M) → roadOk ds = false → ∀ σ, WD E (.ref (He.ga K "BadNumber")) none σ H' := fun I' H' s w' e _ => hno e I' H' s w'
  by_cases c1 : (1 : Int) ≤ (ds.length : Int)
  · rw [if_pos (decide_eq_true c1)]
    by_cases c2 : (ds.length : Int) ≤ 8
    · rw [if_neg (by rw [decide_eq_true c2]; decide)]
      refine ⟨I, _, fun i I' acc M' => I' = I ∧ M' = _ ∧ acc = ((ds.take i).map delOk).map V.bl, w, by omega, ⟨rfl, rfl, rfl⟩, ?_, ?_, ?_⟩
      · rintro i I' acc M' D H' ⟨rfl, rfl, _⟩ s w'
        exact hl _ _ _ (Sub.refl _) w'.drop
      · rintro D i x H' I' acc M' hi hx s w' ⟨rfl, rfl, rfl⟩ _
        rw [List.getElem?_map, Option.map_eq_some_iff] at hx
        obtain ⟨z, hzz, rfl⟩ := hx
        have e1 : ∀ b, delOk z = b → ((ds.take i).map delOk).map V.bl ++ [V.bl b] = ((ds.take (i + 1)).map delOk).map V.bl := fun b e => by
          rw [take_succ_get hzz, List.map_append, List.map_append, ← e]; rfl
        cases z with
        | none =>
          simp! [delV, wipe, decide_true]
          exact nxt (Sub.refl _) w' ⟨rfl, rfl, e1 _ rfl⟩
        | some k =>
          simp! [delV, wipe, decide_false, reduceCtorEq]
          by_cases k1 : 1 ≤ k
          · rw [if_pos (decide_eq_true k1)]
            exact nxt (Sub.refl _) w' ⟨rfl, rfl, e1 _ (by simp [delOk, k1])⟩
          · rw [if_neg (by rw [decide_eq_false k1]; decide)]
            exact nxt (Sub.refl _) w' ⟨rfl, rfl, e1 _ (by simp [delOk, k1])⟩
      · rintro D H' I' acc M' s w' ⟨rfl, rfl, rfl⟩ _
        rw [List.take_length] at w'
        refine ⟨D, ds.map delOk, rfl, w'.has.1, ?_⟩
        have e : roadOk ds = (ds.map delOk).all id := by
          unfold roadOk
          rw [decide_eq_true (show 1 ≤ ds.length by omega), decide_eq_true (show ds.length ≤ 8 by omega), List.all_map]
          rfl
        rw [← e]
        have w1 := w'.drop
        cases e2 : roadOk ds with
        | false =>
          simp! [and_true]
          exact raise _ _ (Sub.refl _) w1 e2 _
        | true =>
          have hl1 := hl _ _ _ (Sub.refl _) w1
          simp! [hl1]
          intro d hd
          have w2 := w1.newI (o := .lst (ds.map delV)) hd
          have s2 := Sub.new (o := .lst (ds.map delV)) (w1.noI hd)
          have w3 := w2.put (o' := .ins (He.ga K "Road") dx (putF "delays" (.ref d) []))
          have w4 := w3.put (o' := .ins (He.ga K "Road") dx (putF "sent" (.int 0) (putF "delays" (.ref d) [])))
          refine ⟨_, _, w2.has.1, by simp, Nat.lt_of_lt_of_le (lt_putF lt0) (by omega), Nat.zero_le _, fun u hu => ?_⟩
          have w5 := w4.newM (o := .lst []) hu
          have w6 := w5.swap.put (o' := .ins (He.ga K "Road") dx (putF "under_way" (.ref u) (putF "sent" (.int 0) (putF "delays" (.ref d) []))))
          refine ⟨_, _, w5.has.2.1, ?_, ?_⟩
          · exact Nat.lt_of_lt_of_le (lt_putF (lt_putF lt0)) (by omega)
          · rw [in_Road] at w6 ⊢
            exact hyes e2 _ _ d u s2 ⟨w6, upd_same, Enc.nil⟩
    · rw [if_pos (by rw [decide_eq_false c2]; decide)]
      exact raise _ _ (Sub.refl _) w (by unfold roadOk; rw [decide_eq_false (show ¬ ds.length ≤ 8 by omega)]; simp) _
  · rw [if_neg (by rw [decide_eq_false c1]; decide)]
    exact raise _ _ (Sub.refl _) w (by unfold roadOk; rw [decide_eq_false (show ¬ 1 ≤ ds.length by omega)]; simp) _
end
end TA

set_option linter.all false
set_option maxRecDepth 100000
set_option maxHeartbeats 4000000
/-! The law of roads. -/
namespace TA
open PySem L2
local macro_rules | `(tactic| simp! [$as,*]) => `(tactic| first | simp only [L2.start, tSeq, tAsg, tOp, fFld, tVar, gIxL, gIxT, tCB, tCons, tNil, gLenL, gLenT, gLenS, rI, rI0, fSet, tIfS, tTest, tB, rNotN, rIsN, rEq, rNe, tC, tDrop, fBM, fBM0, gTy, rAppend, tTup, tLst, tRet, tRetN, tNext, gName, fTup, gCons, gNil, tCall, fCallS, fMeth, tMeth, fMethS, fMake, tMake, fMakeS, tUn, rU, tAnd, tOr, tNot, tAndV, tOrV, tNotV, tIf, tChain, gListL, gListT, tSl, tNoPart, tPart, gSlL, fRaise, gStrI, gCatS, gMin2, gMax2, gIntB, tYes, fLcL, fLcT, fLcS, fLcR1, fForL, fForR1, fForR2,
  List.map_cons, List.map_nil, List.length_cons, List.length_nil, List.replicate, List.cons_append, List.nil_append, List.append_nil, List.getElem?_cons_zero, List.getElem?_cons_succ, List.set_cons_zero, List.set_cons_succ, reduceIte, Bool.not_true, Bool.not_false, Nat.reduceAdd, Nat.reduceSub, Bool.false_eq_true, eq_self,
  Option.some.injEq, V.int.injEq, V.ref.injEq, V.str.injEq, V.bl.injEq, HO.ins.injEq, HO.lst.injEq, HO.tup.injEq, HO.dK.injEq, List.cons.injEq, and_assoc, exists_eq_left', exists_and_left, and_true, true_and, true_or, or_true, false_or, or_false, exists_eq_left, exists_eq_right, exists_eq_right', exists_eq, exists_eq', exists_const, upd_same, sc_ii, sc_ss, sc_bb, sc_in, sc_ni, sc_ns, sc_sn, sc_nn, $as,*] | skip)
def sp__law_new (K : PySem.W.Frag) : Sp := fun vs H Q _ => ∃ (I : Hp) (M : List (Addr × HO)) (l : Addr) (ds : List (Option Int)), vs = [.ref l] ∧ W I H M ∧ I l = some (.lst (ds.map delV)) ∧ ds.length ≤ 100 ∧
  ∀ (I' H' : Hp) (v' : V), Sub I I' → W I' H' M → Rp I' v' (refD (if roadOk ds = true then none else some "BadNumber")) → Q v' H'
def sp_law (K : PySem.W.Frag) : Sp := fun vs H Q _ => ∃ (a : Addr), vs = [.ref a] ∧ Scr K H a ∧ ∀ H', Q (.bl true) H'
def t__law_new (K : PySem.W.Frag) (E : XK) : TS := tSeq (tAsg (tC .non) (gName 1)) (tSeq (fun D σ H => (fun W : WX => tDrop (fMakeS (He.ga K "Road") (sp_Road___init__ K) W (tCons (tVar 0) (tNil)))) (wHold (errV K) 2 1 D) D σ H) (tRet (tCall (sp__law_refusal K) [] E (tCons (tVar 1) (tNil)))))
abbrev nn__law_new : List Str := ["delays", "held", "e"]
def t_law (K : PySem.W.Frag) (E : XK) : TS := tSeq (tAsg (tLst (tNil)) (gName 1)) (tSeq (tAsg (tLst (tCons (tC .non) (tCons (tC (.int 1)) (tCons (tC (.int 30)) (tCons (tC (.int 2)) (tCons (tOp (rI0 fun i j => .int (i + j)) (tC (.int 1)) (tCall (sp__law_draw K) [] E (tCons (tVar 0) (tCons (tVar 1) (tCons (tC (.int 30)) (tNil)))))) (tNil))))))) (gName 2)) (tSeq (tAsg (fLcR1 (tCons (tOp (rI0 fun i j => .int (i + j)) (tC (.int 1)) (tCall (sp__law_draw K) [] E (tCons (tVar 0) (tCons (tVar 1) (tCons (tC (.int 8)) (tNil)))))) (tNil)) (gName 9) (tYes) (tCall (sp__law_pick K) [] E0 (tCons (tVar 0) (tCons (tVar 1) (tCons (tVar 2) (tNil))))) [9]) (gName 3)) (tSeq (tAsg (tCB (gListL) (tCons (tVar 3) (tNil))) (gName 4)) (tSeq (tAsg (fMake (He.ga K "Road") (sp_Road___init__ K) E (tCons (tVar 3) (tNil))) (gName 5)) (tSeq (tDrop (fBM "list" rAppend (tVar 3) (tCons (tC (.int 1)) (tNil)))) (tSeq (tAsg (tC (.int 0)) (gName 6)) (tSeq (tAsg (tLst (tNil)) (gName 7)) (tSeq (tAsg (tC (.int 0)) (gName 8)) (tSeq (fForR1 (tCons (tCall (sp__law_draw K) [] E (tCons (tVar 0) (tCons (tVar 1) (tCons (tC (.int 61)) (tNil))))) (tNil)) (gName 9) (tSeq (tAsg (tCall (sp__law_draw K) [] E (tCons (tVar 0) (tCons (tVar 1) (tCons (tC (.int 3)) (tNil))))) (gName 10)) (tSeq (tIfS (tAnd (tTest (tOp (rEq) (tVar 10) (tC (.int 0)))) (tTest (tOp (rI0 fun i j => .bl (decide (i < j))) (tVar 8) (tC (.int 30))))) (tSeq (tAsg (tOp (gCatS) (tC (.str "q")) (tCB (gStrI) (tCons (tCall (sp__law_draw K) [] E (tCons (tVar 0) (tCons (tVar 1) (tCons (tC (.int 5)) (tNil))))) (tNil)))) (gName 11)) (tSeq (tAsg (tOp gIxL (tVar 4) (tOp (rI (fun _ j => 0 < j) fun i j => .int (i % j)) (tVar 8) (tCB (gLenL) (tCons (tVar 4) (tNil))))) (gName 12)) (tSeq (tAsg (tOp (rI0 fun i j => .int (i + j)) (tVar 8) (tC (.int 1))) (gName 8)) (tSeq (tIfS (tTest (tOp (rNe) (fMeth (He.ga K "Road") "send" (sp_Road_send K) E (tVar 5) (tCons (tVar 11) (tCons (tVar 6) (tNil)))) (tVar 8))) (tRet (tC (.bl false))) (tNext)) (tIfS (tTest (tOp (rNotN) (tVar 12) (tC .non))) (tDrop (fBM "list" rAppend (tVar 7) (tCons (tTup (tCons (tOp (rI0 fun i j => .int (i + j)) (tVar 6) (tVar 12)) (tCons (tVar 8) (tCons (tVar 11) (tNil))))) (tNil)))) (tNext)))))) (tIfS (tTest (tOp (rEq) (tVar 10) (tC (.int 1)))) (tAsg (tOp (rI0 fun i j => .int (i + j)) (tVar 6) (tCall (sp__law_draw K) [] E (tCons (tVar 0) (tCons (tVar 1) (tCons (tC (.int 9)) (tNil)))))) (gName 6)) (tSeq (tAsg (tCB (gSortD) (tCons (fLcL (tVar 7) (gName 15) (tTest (tOp (rI0 fun i j => .bl (decide (i ≤ j))) (tOp gIxT (tVar 15) (tC (.int 0))) (tVar 6))) (tVar 15) [15]) (tNil))) (gName 13)) (tSeq (tAsg (fLcL (tVar 7) (gName 15) (tTest (tOp (rI0 fun i j => .bl (decide (j < i))) (tOp gIxT (tVar 15) (tC (.int 0))) (tVar 6))) (tVar 15) [15]) (gName 7)) (tIfS (tTest (tOp (gNeD) (fMeth (He.ga K "Road") "due" (sp_Road_due K) E (tVar 5) (tCons (tVar 6) (tNil))) (fLcL (tVar 13) (fTup 3 (gCons (gName 16) (gCons (gName 17) (gCons (gName 11) (gNil))))) (tYes) (tTup (tCons (tVar 17) (tCons (tVar 11) (tNil)))) [16, 17, 11]))) (tRet (tC (.bl false))) (tNext)))))) (tIfS (tTest (tOp (rNe) (fMeth (He.ga K "Road") "many" (sp_Road_many K) E (tVar 5) (tNil)) (tVar 8))) (tRet (tC (.bl false))) (tNext))))) (tSeq (tAsg (tLst (tCons (tLst (tNil)) (tCons (tOp (rRep) (tLst (tCons (tC (.int 1)) (tNil))) (tC (.int 9))) (tCons (tLst (tCons (tC (.int 0)) (tNil))) (tCons (tLst (tCons (tC (.int 31)) (tNil))) (tCons (tLst (tCons (tC (.int 1)) (tCons (tUn (rU fun i => .int (-i)) (tC (.int 1))) (tNil)))) (tCons (tLst (tCons (tC .non) (tCons (tC (.int 31)) (tNil)))) (tNil)))))))) (gName 14)) (tRet (tOp (gEqD) (fLcL (tVar 14) (gName 15) (tYes) (tCall (sp__law_new K) [] E0 (tCons (tVar 15) (tNil))) [15]) (tOp (rRep) (tLst (tCons (tTup (tCons (tC (.str "refused")) (tCons (tC (.str "number")) (tNil)))) (tNil))) (tC (.int 6)))))))))))))))
abbrev nn_law : List Str := ["script", "town", "menu", "delays", "given", "road", "time", "waits", "many", "k", "way", "query", "delay", "some", "bad", "one", "when", "number"]
section
variable {K : PySem.W.Frag}
theorem len__law_new : ∀ vs H Q E, sp__law_new K vs H Q E → vs.length = ["delays"].length := by
  rintro _ _ _ _ ⟨_, _, _, _, rfl, _⟩; rfl
theorem len_law : ∀ vs H Q E, sp_law K vs H Q E → vs.length = ["script"].length := by
  rintro _ _ _ _ ⟨_, rfl, _⟩; rfl
theorem pure__law_new : ∀ vs H Q E, sp__law_new K vs H Q E → t__law_new K E { nx := fun _ H2 => Q .non H2, rt := Q } (L2.start nn__law_new vs) H := by
  rintro vs H Q E ⟨I, M, l, ds, rfl, w, hl, hlen, hQ⟩
  unfold t__law_new
  simp! [and_true]
  intro x dx hx hdx ne
  have w1 := (w.skip (o := .own x) hdx)
  have hx1 : upd H dx (.own x) x = none := by rw [upd_ne (Ne.symm ne)]; exact hx
  have w2 := w1.newM (o := .ins (He.ga K "Road") dx []) hx1
  refine ⟨I, M, x, dx, l, ds, rfl, w2, fun I' H' o s w' => w'.sub _ _ (s _ _ hl), hlen, fun e I' H' d u s rw => ⟨rfl, ?_⟩, fun e I' H' s w' => ?_⟩
  · rw [e, if_pos rfl] at hQ
    exact ⟨I', M, .non, none, rfl, rw.w.drop.drop, rfl, fun I2 H2 v' s2 w2 r => hQ _ _ _ (s.trans s2) w2 r⟩
  · rw [e, if_neg (by decide)] at hQ
    refine ⟨errV_in (by decide +kernel), rfl, fun a ha => ?_⟩
    have w3 := w'.drop.newI (o := ExC (.ref (He.ga K "BadNumber")) a) ha
    have s3 := Sub.new (o := ExC (.ref (He.ga K "BadNumber")) a) (w'.noI ha)
    simp! [and_true]
    exact ⟨_, M, .ref a, some "BadNumber", rfl, w3, ⟨by decide +kernel, a, rfl, upd_same⟩, fun I2 H2 v' s2 w2 r => hQ _ _ _ (s.trans (s3.trans s2)) w2 r⟩
/-- between two picks of a delay -/
structure R22a (t : Addr) (I2 : Hp) (i : Nat) (I' : Hp) (acc : List V) (M' : List (Addr × HO)) : Prop where
  hI : I' = I2
  ex : ∃ (tz : List V) (ds : List (Option Int)), M' = [(t, .lst tz)] ∧ tz.length ≤ 2 + i ∧ acc = ds.map delV ∧ ds.all delOk = true ∧ ds.length = i
/-- between two turns of the law -/
structure P22 (K : PySem.W.Frag) (a t mn dl gv x dx d : Addr) (ds : List (Option Int)) (i : Nat) (σ : L2.St) (H : Hp) : Prop where
  ex : ∃ (I : Hp) (tz : List V) (tm : Int) (wl u : Addr) (m : Nat) (zp zl : List (V × Ask)) (r : List (Option V)),
    σ = some (.ref a) :: some (.ref t) :: some (.ref mn) :: some (.ref dl) :: some (.ref gv) :: some (.ref x) :: some (.int tm) :: some (.ref wl) :: some (.int m) :: r ∧ r.length = 9 ∧
    RoadW K I H x dx d u ds m zp [(wl, .lst (zl.map Prod.fst)), (t, .lst tz)] ∧ Scr K I a ∧ I gv = some (.lst (ds.map delV)) ∧ Enc I askD zl ∧ zp.map Prod.snd = zl.map Prod.snd ∧ tz.length ≤ 20 + 3 * i ∧ zl.length ≤ i
set_option maxHeartbeats 0 in
theorem pure_law : ∀ vs H Q E, sp_law K vs H Q E → t_law K E { nx := fun _ H2 => Q .non H2, rt := Q } (L2.start nn_law vs) H := by
  rintro vs H Q E ⟨a, rfl, hS, hQ⟩
  have w0 := W.start H
  unfold t_law
  simp! [and_true]
  refine ⟨Nat.zero_le _, fun t ht => ?_⟩
  have d0 : Dr K H (upd H t (.lst [])) a t 0 [] := ⟨hS, [], Nat.le_refl _, w0.newM ht⟩
  refine ⟨H, a, t, 0, [], 30, rfl, d0, by decide, by decide, fun d1 H1 d1a d1b D1 => ?_⟩
  simp! [and_true]
  refine ⟨by have := line_big; omega, fun mn hmn => ?_⟩
  have D2 := (D1.newI (o := .lst [V.non, V.int 1, V.int 30, V.int 2, V.int (1 + d1)]) hmn)
  have s2 := Sub.new (o := .lst [V.non, V.int 1, V.int 30, V.int 2, V.int (1 + d1)]) (D1.noI hmn)
  generalize upd H1 mn _ = H2 at D2 ⊢
  generalize hI2 : upd H mn _ = I2 at D2 s2
  have hmn2 : I2 mn = some (.lst ([none, some 1, some 30, some 2, some (1 + d1)].map delV)) := by rw [← hI2, upd_same]; rfl
  have S2 := hS.mono s2
  clear hI2 D1 hmn H1
  refine ⟨I2, a, t, 1, [], 8, rfl, D2, by decide, by decide, fun d3 H3 d3a d3b D3 => ?_⟩
  simp! [and_true]
  obtain ⟨-, tz3, l3, w3⟩ := D3
  refine ⟨by omega, by omega, I2, _, R22a t I2, w3, by omega, ⟨rfl, tz3, [], rfl, l3, rfl, rfl, rfl⟩, fun _ _ _ _ _ _ _ _ _ => trivial, ?_, ?_⟩
  · rintro D i x H' I' acc M' hi rfl s w' ⟨rfl, tz, ds, rfl, hl, rfl, hok, hdl⟩ _
    simp! [wipe]
    refine ⟨I', a, t, mn, 2 + i, [(D, .lst (ds.map delV))], _, rfl, ⟨S2, tz, hl, w'.swap⟩, by omega, fun H' h => h.elim (fun d => d.sub _ _ hmn2) (fun d => d.sub _ _ hmn2), by simp, fun y H4 hy D4 => ?_⟩
    obtain ⟨dl, hdl', rfl⟩ := List.mem_map.mp hy
    obtain ⟨-, tz4, l4, w4⟩ := D4
    refine nxt (Sub.refl _) w4.swap ⟨rfl, tz4, ds ++ [dl], rfl, l4, by simp, ?_, by simp [hdl]⟩
    rw [List.all_append, hok]
    have : delOk dl = true := by
      simp only [List.mem_cons, List.mem_nil_iff, or_false] at hdl'
      rcases hdl' with rfl | rfl | rfl | rfl | rfl
      · rfl
      · decide
      · decide
      · decide
      · simp only [delOk, Bool.and_eq_true, decide_eq_true_eq]; omega
    simp [this]
  rintro D H4 I' acc M' s w4 ⟨rfl, tz4, ds, rfl, l4, rfl, hok, hdl⟩ _
  have hds : ds ≠ [] := by intro z; rw [z] at hdl; simp at hdl; omega
  have hrok : roadOk ds = true := by unfold roadOk; rw [hok, hdl]; simp; omega
  simp! [w4.has.1]
  intro gv hgv x dx hx hdx hne
  have w5 := w4.newI (o := .lst (ds.map delV)) hgv
  have s5 := Sub.new (o := .lst (ds.map delV)) (w4.noI hgv)
  have w6 := w5.skip (o := .own x) hdx
  have w7 := w6.newM (o := .ins (He.ga K "Road") dx []) (by rw [upd_ne (Ne.symm hne)]; exact hx)
  refine ⟨_, _, x, dx, D, ds, rfl, w7, fun _ _ _ _ w' => w'.has.2.1, by omega, fun _ I8 H8 d u s8 rw8 => ⟨rfl, ?_⟩, fun e => by rw [hrok] at e; cases e⟩
  have hgv8 : I8 gv = some (.lst (ds.map delV)) := s8 _ _ upd_same
  have S8 := (S2.mono s5).mono s8
  obtain ⟨w8, hd8, en8⟩ := rw8
  clear w5 w6 w7 s8 s5 w4
  have hD8 := w8.has.2.2.1
  simp! [hD8]
  refine ⟨by have := line_big; simp; omega, Nat.zero_le _, fun wl hwl => ?_⟩
  have w9 := ((w8.rot.put (o' := .lst (ds.map delV ++ [V.int 1]))).drop.newM (o := .lst []) hwl)
  have D9 : Dr K I8 _ a t 12 [(wl, .lst []), (x, oRoad K dx d 0 u), (u, .lst [])] := ⟨S8, tz4, by omega, w9.sel [_, _, _, _] [3, 0, 1, 2]⟩
  refine ⟨I8, a, t, 12, _, 61, rfl, D9, by decide, by decide, fun j H10 ja jb D10 => ?_⟩
  simp! [and_true]
  obtain ⟨-, tz10, l10, w10⟩ := D10
  refine ⟨by omega, by omega, P22 K a t mn D gv x dx d ds, ?_, ?_, ?_⟩
  · exact ⟨I8, tz10, 0, wl, u, 0, [], [], _, rfl, rfl, ⟨w10.sel [_, _, _, _] [2, 3, 1, 0], hd8, Enc.nil⟩, S8, hgv8, Enc.nil, rfl, by omega, Nat.le_refl _⟩
  · clear w10 w9 w8 D9 hwl hgv8 hd8 en8
    rintro i σ H hi ⟨I, tz, tm, wl, u, m, zp, zl, r, rfl, hr, ⟨w, hd, enp⟩, S, hgv, enl, heq, htz, hzl⟩
    match r, hr with
    | [r9, r10, r11, r12, r13, r14, r15, r16, r17], _ =>
    have hlen : zp.length = zl.length := by simpa using congrArg List.length heq
    simp! [and_true]
    refine ⟨I, a, t, 20 + 3 * i, [(x, oRoad K dx d m u), (u, .lst (zp.map Prod.fst)), (wl, .lst (zl.map Prod.fst))], 3, rfl, ⟨S, tz, htz, w.sel [_, _, _, _] [3, 0, 1, 2]⟩, by omega, by decide, fun y H1 ya yb D1 => ?_⟩
    have fin : ∀ (I' H' : Hp) (tz' : List V) (tm' : Int) (wl' u' : Addr) (m' : Nat) (zp' zl' : List (V × Ask)) (r : List (Option V)) (σ : L2.St), σ = some (.ref a) :: some (.ref t) :: some (.ref mn) :: some (.ref D) :: some (.ref gv) :: some (.ref x) :: some (.int tm') :: some (.ref wl') :: some (.int m') :: r → r.length = 9 →
        RoadW K I' H' x dx d u' ds m' zp' [(wl', .lst (zl'.map Prod.fst)), (t, .lst tz')] → Sub I I' → Enc I' askD zl' → zp'.map Prod.snd = zl'.map Prod.snd → tz'.length ≤ 23 + 3 * i → zl'.length ≤ i + 1 → P22 K a t mn D gv x dx d ds (i + 1) σ H' :=
      fun I' H' tz' tm' wl' u' m' zp' zl' r σ e hr rw s en eq h1 h2 => ⟨I', tz', tm', wl', u', m', zp', zl', r, e, hr, rw, S.mono s, s _ _ hgv, en, eq, by omega, h2⟩
    simp! [and_true]
    by_cases hc : y = 0 ∧ (m : Int) < 30
    · refine ite_t hc.1 (ite_t hc.2 ?_)
      refine ⟨I, a, t, _, _, 5, rfl, D1, by omega, by decide, fun d5 H2 d5a d5b D2 => ?_⟩
      obtain ⟨-, tz2, l2, w2⟩ := D2
      have hx := w2.has.2.1
      have hgv2 := w2.sub _ _ hgv
      have hl5 := len_num d5a (by omega)
      simp! [hgv2, List.length_map]
      obtain ⟨e, e1, e2⟩ := atI_mod (xs := ds.map delV) (n := m) (by simpa using hds)
      rw [List.length_map] at e1 e2
      rw [List.getElem?_map, Option.map_eq_some_iff] at e1
      obtain ⟨dl, e1, rfl⟩ := e1
      have en1 : nextDelay ds m = dl := by unfold nextDelay; rw [e1]; rfl
      have hq : (Str.ofString "q").length = 1 := by decide +kernel
      refine ⟨log2_small d5a (by omega), ne_size (by omega), by have := List.length_pos_iff.mpr hds; omega, _, e2, _, _, hx, no_Road_send, ?_⟩
      refine ⟨I, [(wl, .lst (zl.map Prod.fst)), (t, .lst tz2)], x, dx, d, u, ds, m, zp, _, tm, rfl, ⟨w2.sel [_, _, _, _] [1, 2, 3, 0], hd, enp⟩, hds, by omega, fun I3 H3 zp3 s3 rw3 ez => ?_⟩
      obtain ⟨w3, hd3, en3⟩ := rw3
      have hx3 := w3.has.1
      simp! [Int.natCast_add, Int.natCast_one, decide_true]
      generalize Str.ofString "q" ++ Str.ofString (toString d5) = qq at ez ⊢
      unfold sentUw at ez
      rw [en1] at ez
      cases dl with
      | none =>
        simp! [delV, decide_true]
        refine ⟨_, _, hx3, no_Road_many, x, dx, d, u, m + 1, rfl, hx3, ?_⟩
        simp! [Int.natCast_add, Int.natCast_one, decide_true]
        exact fin I3 _ tz2 _ wl u (m + 1) zp3 zl _ _ rfl rfl ⟨w3, hd3, en3⟩ s3 (enl.mono s3) (ez.trans heq) (by omega) (by omega)
      | some dl =>
        simp! [delV, decide_false, reduceCtorEq]
        refine ⟨.inl ⟨_, w3.has.2.2.1⟩, three_le, fun p hp => ?_⟩
        have w4 := w3.newI (o := .tup [V.int (tm + dl), V.int ((m : Int) + 1), V.str qq]) hp
        have s4 := Sub.new (o := .tup [V.int (tm + dl), V.int ((m : Int) + 1), V.str qq]) (w3.noI hp)
        have w5 := (w4.sel [_, _, _, _] [2, 0, 1, 3]).put (o' := .lst (zl.map Prod.fst ++ [V.ref p]))
        refine ⟨_, w4.has.2.2.1, by have := line_big; rw [List.length_map]; omega, _, _, w5.has.2.1, no_Road_many, x, dx, d, u, m + 1, rfl, w5.has.2.1, ?_⟩
        simp! [Int.natCast_add, Int.natCast_one, decide_true]
        refine fin _ _ tz2 _ wl u (m + 1) zp3 (zl ++ [(.ref p, (tm + dl, ((m + 1 : Nat) : Int), qq))]) _ _ rfl rfl ⟨?_, s4 _ _ hd3, en3.mono s4⟩ (s3.trans s4) ?_ ?_ (by omega) ?_
        · rw [List.map_append]; exact w5.sel [_, _, _, _] [1, 2, 0, 3]
        · exact (enl.mono (s3.trans s4)).snoc (.tup upd_same (.cons (.int _) (.cons (.int _) (.cons (.str _) .nil))))
        · rw [ez, List.map_append, heq]; rfl
        · simp; omega
    refine ite_and2 hc ?_
    by_cases y1 : y = 1
    · refine ite_t y1 ?_
      refine ⟨I, a, t, _, _, 9, rfl, D1, by omega, by decide, fun d9 H2 d9a d9b D2 => ?_⟩
      obtain ⟨-, tz2, l2, w2⟩ := D2
      have hx := w2.has.2.1
      simp! [and_true]
      refine ⟨_, _, hx, no_Road_many, x, dx, d, u, m, rfl, hx, ?_⟩
      simp! [decide_true]
      exact fin I _ tz2 _ wl u m zp zl _ _ rfl rfl ⟨w2.sel [_, _, _, _] [1, 2, 3, 0], hd, enp⟩ (Sub.refl _) enl heq (by omega) (by omega)
    · refine ite_f y1 ?_
      obtain ⟨-, tz2, l2, w2⟩ := D1
      have hwl := w2.has.2.2.2.1
      simp! [hwl]
      have tst : ∀ z ∈ zl, ∀ I' H', Sub I I' → Sub I' H' → ∃ t, z.1 = V.ref t ∧ H' t = some (.tup [.int z.2.1, .int z.2.2.1, .str z.2.2.2]) := fun z hzz I' H' s1 s2 => by
        obtain ⟨t, e, h⟩ := rp_ask (enl z hzz)
        exact ⟨t, e, s2 _ _ (s1 _ _ h)⟩
      refine comp_filter (p := fun z => decide (z.2.1 ≤ tm)) w2 (by omega) (fun _ => rfl) (fun _ => rfl) (fun D o H' w' => w'.has.2.2.2.2.1) (fun z hzz D o H' Q' w' q => ?_) (fun D3 H3 w3 => ?_)
      · obtain ⟨t, e, h⟩ := tst z hzz I H' (Sub.refl _) w'.sub
        simp! [wipe, e, h]
        exact ⟨_, rfl, by simpa using q⟩
      refine sortD_use ask_sorts w3.has.1 ((enl.filter _).mono w3.sub) fun f hf => ?_
      generalize hys : ((zl.filter fun z => decide (z.2.1 ≤ tm)).mergeSort fun x y => leD askD x.2 y.2) = ys at hf ⊢
      have hyd : ys.map Prod.snd = sortE askD ((zl.map Prod.snd).filter fun x => decide (x.1 ≤ tm)) := by
        rw [← hys, sort_snd, List.filter_map]; rfl
      have enY : Enc I askD ys := by rw [← hys]; exact sort_enc (enl.filter _)
      have lenY : ys.length ≤ zl.length := by rw [← hys, List.length_mergeSort]; exact List.length_filter_le _ _
      have w4 := w3.drop.newI (o := .lst (ys.map Prod.fst)) hf
      have s4 := Sub.new (o := .lst (ys.map Prod.fst)) (w3.noI hf)
      generalize upd H3 f (.lst (ys.map Prod.fst)) = H4 at w4 ⊢
      generalize hI4 : upd I f (.lst (ys.map Prod.fst)) = I4 at w4 s4
      have hf4 : I4 f = some (.lst (ys.map Prod.fst)) := by rw [← hI4, upd_same]
      simp! [w4.has.2.2.2.1]
      refine comp_filter (p := fun z => decide (tm < z.2.1)) w4 (by omega) (fun _ => rfl) (fun _ => rfl) (fun D o H' w' => w'.has.2.2.2.2.1) (fun z hzz D o H' Q' w' q => ?_) (fun D5 H5 w5 => ?_)
      · obtain ⟨t, e, h⟩ := tst z hzz I4 H' s4 w'.sub
        simp! [wipe, e, h]
        exact ⟨_, rfl, by simpa using q⟩
      have hx5 := w5.has.2.2.1
      simp! [and_true]
      refine ⟨_, _, hx5, no_Road_due, ?_⟩
      refine ⟨I4, [(D5, _), (t, .lst tz2)], x, dx, d, u, ds, m, zp, tm, rfl, ⟨w5.sel [_, _, _, _, _] [2, 3, 0, 1], s4 _ _ hd, enp.mono s4⟩, by omega, fun I6 H6 u6 zp6 v s6 rw6 ez rv => ?_⟩
      obtain ⟨w6, hd6, en6⟩ := rw6
      refine ⟨_, w6.sub f _ (s6 _ _ hf4), I6, _, fun i I' acc M' => M' = _ ∧ RpAll I' acc ((ys.take i).map fun z => dueD z.2), w6, by rw [List.length_map]; omega, ⟨rfl, .nil⟩, ?_, ?_, ?_⟩
      · rintro i I' acc M' D H' ⟨rfl, _⟩ s w'
        exact w'.sub f _ (s _ _ (s6 _ _ hf4))
      · rintro D i x H' I' acc M' hi hx s w' ⟨rfl, r⟩ _
        rw [List.getElem?_map, Option.map_eq_some_iff] at hx
        obtain ⟨z, hzz, rfl⟩ := hx
        obtain ⟨t, e, h⟩ := rp_ask (enY z (List.mem_of_getElem? hzz))
        have h' := w'.sub t _ (s _ _ (s6 _ _ (s4 _ _ h)))
        simp! [e, h', wipe]
        refine ⟨two_le, fun g hg => ?_⟩
        have w7 := w'.newI (o := .tup [V.int z.2.2.1, V.str z.2.2.2]) hg
        have s7 := Sub.new (o := .tup [V.int z.2.2.1, V.str z.2.2.2]) (w'.noI hg)
        refine nxt s7 w7 ⟨rfl, ?_⟩
        rw [take_succ_get hzz, List.map_append]
        exact (r.mono s7).snoc (.tup upd_same (.cons (.int _) (.cons (.str _) .nil)))
      · rintro D7 H7 I7 acc M' s7 w7 ⟨rfl, r⟩ _
        have w8 := w7.freeze
        have s8 := Sub.new (o := .lst acc) (w7.out (D7, .lst acc) List.mem_cons_self)
        rw [List.length_map, List.take_length] at r
        have e : ys.map (fun z => dueD z.2) = (sortE askD ((zp.map Prod.snd).filter fun x => decide (x.1 ≤ tm))).map dueD := by rw [heq, ← hyd, List.map_map]; rfl
        rw [e] at r
        have hdd : (PyData.list ((sortE askD ((zp.map Prod.snd).filter fun x => decide (x.1 ≤ tm))).map dueD)).depth ≤ 2 := depth_list fun d hd => by
          obtain ⟨x, _, rfl⟩ := List.mem_map.mp hd
          simp [dueD, PyData.depth, PyData.depthAll]
        generalize (sortE askD ((zp.map Prod.snd).filter fun x => decide (x.1 ≤ tm))).map dueD = dd at r rv hdd
        refine neD_f ((rv.mono (s7.trans s8)).mono w8.sub) ((Rp.lst upd_same (r.mono s8)).mono w8.sub) (by omega) ?_
        simp! [and_true]
        have hx8 := w8.has.1
        refine ⟨_, _, hx8, no_Road_many, x, dx, d, u6, m, rfl, hx8, ?_⟩
        simp! [decide_true]
        refine fin _ _ tz2 _ D5 u6 m zp6 (zl.filter fun z => decide (tm < z.2.1)) _ _ rfl rfl ⟨w8, (s7.trans s8) _ _ hd6, en6.mono (s7.trans s8)⟩ (s4.trans (s6.trans (s7.trans s8))) ((enl.filter _).mono (s4.trans (s6.trans (s7.trans s8)))) ?_ (by omega) ?_
        · rw [ez, heq, List.filter_map]; rfl
        · exact Nat.le_trans (List.length_filter_le _ _) (by omega)
  · clear w10 w9 w8 D9 hwl hgv8 hd8 en8
    rintro σ H ⟨I, tz, tm, wl, u, m, zp, zl, r, rfl, hr, ⟨w, hd, enp⟩, S, hgv, enl, heq, htz, hzl⟩
    match r, hr with
    | [r9, r10, r11, r12, r13, r14, r15, r16, r17], _ =>
    simp! [and_true]
    have v0 : W I H [] := w.sel [_, _, _, _] []
    refine ⟨Nat.zero_le _, fun p0 q0 => ⟨one_le, fun q1 e1 => ?_⟩⟩
    have v1 := v0.newI (o := .lst []) q0
    have v2 := v1.newI (o := .lst [V.int 1]) e1
    refine ⟨q1, 9, [V.int 1], rfl, rfl, upd_same, by decide, by decide, ne_size (by decide), fun p1 q1' => ?_⟩
    have v3 := v2.newI (o := .lst (List.replicate (9 : Int).toNat [V.int 1]).flatten) q1'
    refine ⟨one_le, fun p2 q2 => ⟨one_le, fun p3 q3 => ⟨two_le, fun p4 q4 => ⟨two_le, fun p5 q5 => ⟨ne_size (by decide), fun p6 q6 => ?_⟩⟩⟩⟩⟩
    have v4 := v3.newI (o := .lst [V.int 0]) q2
    have v5 := v4.newI (o := .lst [V.int 31]) q3
    have v6 := v5.newI (o := .lst [V.int 1, V.int (-1)]) q4
    have v7 := v6.newI (o := .lst [V.non, V.int 31]) q5
    have v8 := v7.newI (o := .lst [V.ref p0, V.ref p1, V.ref p2, V.ref p3, V.ref p4, V.ref p5]) q6
    have s2 := Sub.new (o := .lst [V.int 1]) (v1.noI e1)
    have s3 := Sub.new (o := .lst (List.replicate (9 : Int).toNat [V.int 1]).flatten) (v2.noI q1')
    have s4 := Sub.new (o := .lst [V.int 0]) (v3.noI q2)
    have s5 := Sub.new (o := .lst [V.int 31]) (v4.noI q3)
    have s6 := Sub.new (o := .lst [V.int 1, V.int (-1)]) (v5.noI q4)
    have s7 := Sub.new (o := .lst [V.non, V.int 31]) (v6.noI q5)
    have s8 := Sub.new (o := .lst [V.ref p0, V.ref p1, V.ref p2, V.ref p3, V.ref p4, V.ref p5]) (v7.noI q6)
    have f0 := (s2.trans (s3.trans (s4.trans (s5.trans (s6.trans (s7.trans s8)))))) p0 _ upd_same
    have f1 := (s4.trans (s5.trans (s6.trans (s7.trans s8)))) p1 _ upd_same
    have f2 := (s5.trans (s6.trans (s7.trans s8))) p2 _ upd_same
    have f3 := (s6.trans (s7.trans s8)) p3 _ upd_same
    have f4 := (s7.trans s8) p4 _ upd_same
    have f5 := s8 p5 _ upd_same
    have f6 : ∀ {J G : Hp}, upd J p6 (.lst [V.ref p0, V.ref p1, V.ref p2, V.ref p3, V.ref p4, V.ref p5]) = G → G p6 = some (.lst [V.ref p0, V.ref p1, V.ref p2, V.ref p3, V.ref p4, V.ref p5]) := fun e => by rw [← e, upd_same]
    generalize hI8 : upd _ p6 _ = I8 at v8 f0 f1 f2 f3 f4 f5
    have f6 := f6 hI8
    clear s2 s3 s4 s5 s6 s7 s8 v1 v2 v3 v4 v5 v6 v7 hI8
    have bad : ∀ (i : Nat) (y : V), ([V.ref p0, V.ref p1, V.ref p2, V.ref p3, V.ref p4, V.ref p5] : List V)[i]? = some y → ∃ (q : Addr) (ds : List (Option Int)), y = .ref q ∧ I8 q = some (.lst (ds.map delV)) ∧ ds.length ≤ 100 ∧ roadOk ds = false := by
      intro i y hy
      match i, hy with
      | 0, hy => cases hy; exact ⟨p0, [], rfl, f0, by decide, by decide⟩
      | 1, hy => cases hy; exact ⟨p1, List.replicate 9 (some 1), rfl, f1, by decide, by decide⟩
      | 2, hy => cases hy; exact ⟨p2, [some 0], rfl, f2, by decide, by decide⟩
      | 3, hy => cases hy; exact ⟨p3, [some 31], rfl, f3, by decide, by decide⟩
      | 4, hy => cases hy; exact ⟨p4, [some 1, some (-1)], rfl, f4, by decide, by decide⟩
      | 5, hy => cases hy; exact ⟨p5, [none, some 31], rfl, f5, by decide, by decide⟩
      | k + 6, hy => simp at hy
    refine ⟨I8, [], fun i I' acc M' => M' = [] ∧ RpAll I' acc (List.replicate i (refD (some "BadNumber"))), v8, by decide, ⟨rfl, .nil⟩, ?_, ?_, ?_⟩
    · rintro i I' acc M' D' H' ⟨rfl, _⟩ s w'
      exact w'.sub _ _ (s _ _ f6)
    · rintro D' i y H' I' acc M' hi hy s w' ⟨rfl, r⟩ _
      obtain ⟨q, es, rfl, hq, hl, hb⟩ := bad i y hy
      simp! [wipe]
      refine ⟨I', [(D', .lst acc)], q, es, rfl, w', s _ _ hq, hl, fun I2 H2 v s2 w2 rv => ?_⟩
      rw [hb, if_neg (by decide)] at rv
      refine nxt s2 w2 ⟨rfl, ?_⟩
      show RpAll I2 (acc ++ [v]) (List.replicate (i + 1) (refD (some "BadNumber")))
      rw [List.replicate_succ']
      exact (r.mono s2).snoc rv
    · rintro D' H' I' acc M' s w' ⟨rfl, r⟩ _
      have u1 := w'.freeze
      have t1 := Sub.new (o := .lst acc) (w'.out (D', .lst acc) List.mem_cons_self)
      refine ⟨two_le, fun g hg => ⟨one_le, fun k hk => ?_⟩⟩
      have u2 := u1.newI (o := .tup [V.str "refused", V.str "number"]) hg
      have t2 := Sub.new (o := .tup [V.str "refused", V.str "number"]) (u1.noI hg)
      have u3 := u2.newI (o := .lst [V.ref g]) hk
      have t3 := Sub.new (o := .lst [V.ref g]) (u2.noI hk)
      refine ⟨k, 6, [V.ref g], rfl, rfl, upd_same, by decide, by decide, ne_size (show 6 ≤ 1000000 by decide), fun h hh => ?_⟩
      have u4 := u3.newI (o := .lst (List.replicate (6 : Int).toNat [V.ref g]).flatten) hh
      have t4 := Sub.new (o := .lst (List.replicate (6 : Int).toNat [V.ref g]).flatten) (u3.noI hh)
      have rg : Rp _ (V.ref g) (refD (some "BadNumber")) := (Rp.tup ((t3.trans t4) g _ upd_same) (.cons (.str _) (.cons (.str _) .nil))).mono u4.sub
      refine eqD_t (d := .list (List.replicate 6 (refD (some "BadNumber")))) (((Rp.lst upd_same (r.mono t1)).mono (t2.trans (t3.trans t4))).mono u4.sub) ((Rp.lst upd_same (.cons rg (.cons rg (.cons rg (.cons rg (.cons rg (.cons rg .nil)))))))) ?_ (hQ _)
      decide +kernel
end
end TA

set_option maxHeartbeats 0
namespace TA
open PySem PySem.Spec PyProof.Rows L2
def top (i : Nat) : Stmt := PySem.Challenge.pw_typeasks_k22_whole_roads.main.body.getD i (.Pass ⟨0, 0, 0, 0⟩)
abbrev s_Road___init__ : Stmt := inClass (top 8) 0
abbrev s_Road_send : Stmt := inClass (top 8) 1
abbrev s_Road_due : Stmt := inClass (top 8) 2
abbrev s_Road_many : Stmt := inClass (top 8) 3
abbrev s__law_cell : Stmt := top 10
abbrev s__law_mix : Stmt := top 11
abbrev s__law_draw : Stmt := top 12
abbrev s__law_pick : Stmt := top 13
abbrev s__law_refusal : Stmt := top 14
abbrev s__law_new : Stmt := top 15
abbrev s_law : Stmt := top 16
def d0 : He.DefD := ⟨("Road", some "__init__"), "__init__", "Road.__init__", defArgs s_Road___init__, defBody s_Road___init__, defScope s_Road___init__, [], []⟩
def d1 : He.DefD := ⟨("Road", some "send"), "send", "Road.send", defArgs s_Road_send, defBody s_Road_send, defScope s_Road_send, [], []⟩
def d2 : He.DefD := ⟨("Road", some "due"), "due", "Road.due", defArgs s_Road_due, defBody s_Road_due, defScope s_Road_due, [], []⟩
def d3 : He.DefD := ⟨("Road", some "many"), "many", "Road.many", defArgs s_Road_many, defBody s_Road_many, defScope s_Road_many, [], []⟩
def d4 : He.DefD := ⟨("_law_cell", none), "_law_cell", "_law_cell", defArgs s__law_cell, defBody s__law_cell, defScope s__law_cell, [], []⟩
def d5 : He.DefD := ⟨("_law_mix", none), "_law_mix", "_law_mix", defArgs s__law_mix, defBody s__law_mix, defScope s__law_mix, [], []⟩
def d6 : He.DefD := ⟨("_law_draw", none), "_law_draw", "_law_draw", defArgs s__law_draw, defBody s__law_draw, defScope s__law_draw, [], []⟩
def d7 : He.DefD := ⟨("_law_pick", none), "_law_pick", "_law_pick", defArgs s__law_pick, defBody s__law_pick, defScope s__law_pick, [], []⟩
def d8 : He.DefD := ⟨("_law_refusal", none), "_law_refusal", "_law_refusal", defArgs s__law_refusal, defBody s__law_refusal, defScope s__law_refusal, [], []⟩
def d9 : He.DefD := ⟨("_law_new", none), "_law_new", "_law_new", defArgs s__law_new, defBody s__law_new, defScope s__law_new, [], []⟩
def d10 : He.DefD := ⟨("law", none), "law", "law", defArgs s_law, defBody s_law, defScope s_law, [], []⟩
def fn : List He.DefD := [d0, d1, d2, d3, d4, d5, d6, d7, d8, d9, d10]
def fa0 : List He.Fa := [.glo "_law_cell", .glo "_law_mix", .glo "_law_draw", .glo "_law_pick", .glo "_law_refusal", .glo "_law_new", .glo "law", .glo "AskError", .glo "BadText", .glo "BadNumber", .glo "BadAsk", .glo "Road", .free "ValueError", .free "all", .free "isinstance", .free "len", .free "list", .free "range", .free "sorted", .free "str", .int "MOST_DELAY" 30, .int "MOST_DELAYS" 8, .exc "BadText", .exc "BadNumber", .exc "BadAsk", .cls "Road", .mkr "Road", .noat "Road" "delays", .noat "Road" "sent", .noat "Road" "under_way"]
def fa1 : List He.Fa := [.meth "Road" "send", .meth "Road" "due", .meth "Road" "many", .exm "BadText" "BadText" true, .exm "BadText" "BadNumber" false, .exm "BadText" "BadAsk" false, .exm "BadText" "AskError" true, .exm "BadNumber" "BadText" false, .exm "BadNumber" "BadNumber" true, .exm "BadNumber" "BadAsk" false, .exm "BadNumber" "AskError" true, .exm "BadAsk" "BadText" false, .exm "BadAsk" "BadNumber" false, .exm "BadAsk" "BadAsk" true, .exm "BadAsk" "AskError" true]
def fa : List He.Fa := fa0 ++ fa1
def loose : List PySem.Str := ["AskError", "BadText", "BadNumber", "BadAsk", "MOST_DELAY", "MOST_DELAYS", "Road", "_law_cell", "_law_mix", "_law_draw", "_law_pick", "_law_refusal", "_law_new"]

abbrev N__law_cell : List Str := ["script", "k"]
theorem sc__law_cell : FnScope N__law_cell ["script", "k"] (defScope s__law_cell) := ⟨rfl, rfl, rfl, by decide +kernel, rfl, by decide +kernel, by decide +kernel⟩
theorem cal__law_cell {P : Program} {w : World} {K : PySem.W.Frag} {mg : Str → Option Value} {base : Heap} (T : TX fa K mg) (hd : ∃ fd, FunD K d4.name d4.qual d4.params d4.body d4.scope (d4.dvs K) (d4.kws K) (He.fAd K d4.at_) fd)  :
    Cal P w K mg base 1 ("_law_cell", none) ["script", "k"] (sp__law_cell K) :=
  cal_of (d := d4) (N := N__law_cell) (t := t__law_cell K) hd rfl rfl sc__law_cell len__law_cell (fun _ _ _ _ _ _ us hl => match us, hl with | [_, _], _ => rfl) (fun cdv A outer s H E hr => (pss_cons (ps_if (pt_truth (pv 0) (by intro _; rfl)) (pss_one (ps_ret (pe_ix ix_list (pv 0) (pe_op op_mod (pv 1) (pe_callB lenK (by rfl) (T.free 15) (by decide +kernel) (pa_cons (pv 0) (pa_nil)))) (fun _ _ => rfl)))) (pss_nil)) (pss_one (ps_ret (pe_int))))) pure__law_cell
abbrev N__law_mix : List Str := ["script", "k", "number"]
theorem sc__law_mix : FnScope N__law_mix ["script", "k"] (defScope s__law_mix) := ⟨rfl, rfl, rfl, by decide +kernel, rfl, by decide +kernel, by decide +kernel⟩
theorem cal__law_mix {P : Program} {w : World} {K : PySem.W.Frag} {mg : Str → Option Value} {base : Heap} (T : TX fa K mg) (hd : ∃ fd, FunD K d5.name d5.qual d5.params d5.body d5.scope (d5.dvs K) (d5.kws K) (He.fAd K d5.at_) fd) (c__law_cell : Cal P w K mg base 1 ("_law_cell", none) ["script", "k"] (sp__law_cell K)) :
    Cal P w K mg base 2 ("_law_mix", none) ["script", "k"] (sp__law_mix K) :=
  cal_of (d := d5) (N := N__law_mix) (t := t__law_mix K) hd rfl rfl sc__law_mix len__law_mix (fun _ _ _ _ _ _ us hl => match us, hl with | [_, _], _ => rfl) (fun cdv A outer s H E hr => (pss_cons (ps_set (i := 2) sc__law_mix.nd rfl (Or.inl rfl) (pe_op op_mod (pe_op op_add (pe_cal c__law_cell (hr.mono (by decide)) (T.glo 0) pxOf (pa_cons (pv 0) (pa_cons (pv 1) (pa_nil)))) (pe_op op_mul (pe_int) (pe_op op_add (pv 1) (pe_int)))) (pe_int))) (pss_cons (ps_set (i := 2) sc__law_mix.nd rfl (Or.inl rfl) (pe_op op_mod (pe_op op_pow (pv 2) (pe_int)) (pe_int))) (pss_one (ps_ret (pe_op op_mod (pe_op op_add (pe_op op_mul (pe_op op_fdiv (pv 2) (pe_int)) (pe_int)) (pv 2)) (pe_int))))))) pure__law_mix
abbrev N__law_draw : List Str := ["script", "town", "many"]
theorem sc__law_draw : FnScope N__law_draw ["script", "town", "many"] (defScope s__law_draw) := ⟨rfl, rfl, rfl, by decide +kernel, rfl, by decide +kernel, by decide +kernel⟩
theorem cal__law_draw {P : Program} {w : World} {K : PySem.W.Frag} {mg : Str → Option Value} {base : Heap} (T : TX fa K mg) (hd : ∃ fd, FunD K d6.name d6.qual d6.params d6.body d6.scope (d6.dvs K) (d6.kws K) (He.fAd K d6.at_) fd) (c__law_mix : Cal P w K mg base 2 ("_law_mix", none) ["script", "k"] (sp__law_mix K)) :
    Cal P w K mg base 3 ("_law_draw", none) ["script", "town", "many"] (sp__law_draw K) :=
  cal_of (d := d6) (N := N__law_draw) (t := t__law_draw K) hd rfl rfl sc__law_draw len__law_draw (fun _ _ _ _ _ _ us hl => match us, hl with | [_, _, _], _ => rfl) (fun cdv A outer s H E hr => (pss_cons (ps_expr (pe_bmC PySem.F.plainAttrs_list PySem.F.slot_list_append PySem.F.type_list_append mt_append (pv 1) (pa_cons (pe_int) (pa_nil)))) (pss_one (ps_ret (pe_op op_mod (pe_op op_fdiv (pe_cal c__law_mix (hr.mono (by decide)) (T.glo 1) pxOf (pa_cons (pv 0) (pa_cons (pe_callB lenL (by rfl) (T.free 15) (by decide +kernel) (pa_cons (pv 1) (pa_nil))) (pa_nil)))) (pe_int)) (pv 2)))))) pure__law_draw
abbrev N__law_pick : List Str := ["script", "town", "some"]
theorem sc__law_pick : FnScope N__law_pick ["script", "town", "some"] (defScope s__law_pick) := ⟨rfl, rfl, rfl, by decide +kernel, rfl, by decide +kernel, by decide +kernel⟩
theorem cal__law_pick {P : Program} {w : World} {K : PySem.W.Frag} {mg : Str → Option Value} {base : Heap} (T : TX fa K mg) (hd : ∃ fd, FunD K d7.name d7.qual d7.params d7.body d7.scope (d7.dvs K) (d7.kws K) (He.fAd K d7.at_) fd) (c__law_draw : Cal P w K mg base 3 ("_law_draw", none) ["script", "town", "many"] (sp__law_draw K)) :
    Cal P w K mg base 4 ("_law_pick", none) ["script", "town", "some"] (sp__law_pick K) :=
  cal_of (d := d7) (N := N__law_pick) (t := t__law_pick K) hd rfl rfl sc__law_pick len__law_pick (fun _ _ _ _ _ _ us hl => match us, hl with | [_, _, _], _ => rfl) (fun cdv A outer s H E hr => (pss_one (ps_ret (pe_ix ixL (pv 2) (pe_cal c__law_draw (hr.mono (by decide)) (T.glo 2) pxOf (pa_cons (pv 0) (pa_cons (pv 1) (pa_cons (pe_callB lenL (by rfl) (T.free 15) (by decide +kernel) (pa_cons (pv 2) (pa_nil))) (pa_nil))))) (fun _ _ => rfl))))) pure__law_pick
abbrev N_Road___init__ : List Str := ["self", "delays", "good", "delay"]
theorem sc_Road___init__ : FnScope N_Road___init__ ["self", "delays"] (defScope s_Road___init__) := ⟨rfl, rfl, rfl, by decide +kernel, rfl, by decide +kernel, by decide +kernel⟩
theorem cal_Road___init__ {P : Program} {w : World} {K : PySem.W.Frag} {mg : Str → Option Value} {base : Heap} (T : TX fa K mg) (hd : ∃ fd, FunD K d0.name d0.qual d0.params d0.body d0.scope (d0.dvs K) (d0.kws K) (He.fAd K d0.at_) fd)  :
    Cal P w K mg base 1 ("Road", some "__init__") ["self", "delays"] (sp_Road___init__ K) :=
  cal_of (d := d0) (N := N_Road___init__) (t := t_Road___init__ K) hd rfl rfl sc_Road___init__ len_Road___init__ (fun _ _ _ _ _ _ us hl => match us, hl with | [_, _], _ => rfl) (fun cdv A outer s H E hr => (pss_cons (ps_set (i := 2) sc_Road___init__.nd rfl (Or.inl rfl) (pe_chain op_le op_le (pe_int) (pe_callB lenL (by rfl) (T.free 15) (by decide +kernel) (pa_cons (pv 1) (pa_nil))) (pe_cI (T.int 21)))) (pss_cons (ps_if (PW.pt (pw_or (pt_not (pt_val (pv 2))) (pw_or1 (pt_not (pt_val (pe_callB (allL rfl) (by rfl) (T.free 13) (by decide +kernel) (pa_cons (pe_lcL (own := [("delay", 3)]) (g := gName 3) (tt := tYes) (te := tOrV (tOp (rIsN) (tVar 3) (tC .non)) (tChain (rI0 fun i j => .bl (decide (i ≤ j))) (rI0 fun i j => .bl (decide (i ≤ j))) (tC (.int 1)) (tVar 3) (tC (.int 30)))) rfl sc_Road___init__.nd (pv 1) (blkOk_by (own := [("delay", 3)]) (N := N_Road___init__) (sc := defScope s_Road___init__) (by decide +kernel)) (fun _ _ _ _ _ => pg_name (i := 3) sc_Road___init__.nd rfl (Or.inl rfl)) (fun _ _ _ _ _ => pts_nil) (fun _ _ _ _ _ => pe_or (pe_cmpR op_isN1 (pv 3) (pe_non) (nomark _)) (pe_one (pe_chain op_le op_le (pe_int) (pv 3) (pe_cI (T.int 20)))))) (pa_nil)))))))) (pss_one (ps_raiseC rfl tkOf (T.exc 23) (T.glo 9))) (pss_nil)) (pss_cons (ps_fldC (T.cls 25) (T.noat 27) (pv 0) (pe_callTy listL (by rfl) (T.free 16) (by decide +kernel) (pa_cons (pv 1) (pa_nil))) rfl) (pss_cons (ps_fldC (T.cls 25) (T.noat 28) (pv 0) (pe_int) rfl) (pss_one (ps_fldC (T.cls 25) (T.noat 29) (pv 0) (pe_lst (pa_nil)) rfl))))))) pure_Road___init__
abbrev N_Road_send : List Str := ["self", "query", "time", "delay"]
theorem sc_Road_send : FnScope N_Road_send ["self", "query", "time"] (defScope s_Road_send) := ⟨rfl, rfl, rfl, by decide +kernel, rfl, by decide +kernel, by decide +kernel⟩
theorem cal_Road_send {P : Program} {w : World} {K : PySem.W.Frag} {mg : Str → Option Value} {base : Heap} (T : TX fa K mg) (hd : ∃ fd, FunD K d1.name d1.qual d1.params d1.body d1.scope (d1.dvs K) (d1.kws K) (He.fAd K d1.at_) fd)  :
    Cal P w K mg base 1 ("Road", some "send") ["self", "query", "time"] (sp_Road_send K) :=
  cal_of (d := d1) (N := N_Road_send) (t := t_Road_send K) hd rfl rfl sc_Road_send len_Road_send (fun _ _ _ _ _ _ us hl => match us, hl with | [_, _, _], _ => rfl) (fun cdv A outer s H E hr => (pss_cons (ps_set (i := 3) sc_Road_send.nd rfl (Or.inl rfl) (pe_ix ixL (pe_fldC (T.cls 25) (T.noat 27) (pv 0) rfl) (pe_op op_mod (pe_fldC (T.cls 25) (T.noat 28) (pv 0) rfl) (pe_callB lenL (by rfl) (T.free 15) (by decide +kernel) (pa_cons (pe_fldC (T.cls 25) (T.noat 27) (pv 0) rfl) (pa_nil)))) (fun _ _ => rfl))) (pss_cons (ps_fldC (T.cls 25) (T.noat 28) (pv 0) (pe_op op_add (pe_fldC (T.cls 25) (T.noat 28) (pv 0) rfl) (pe_int)) rfl) (pss_cons (ps_if (pt_cmpR op_notN1 (pv 3) (pe_non) (nomark _)) (pss_one (ps_expr (pe_bmC PySem.F.plainAttrs_list PySem.F.slot_list_append PySem.F.type_list_append mt_append (pe_fldC (T.cls 25) (T.noat 29) (pv 0) rfl) (pa_cons (pe_tup (pa_cons (pe_op op_add (pv 2) (pv 3)) (pa_cons (pe_fldC (T.cls 25) (T.noat 28) (pv 0) rfl) (pa_cons (pv 1) (pa_nil))))) (pa_nil))))) (pss_nil)) (pss_one (ps_ret (pe_fldC (T.cls 25) (T.noat 28) (pv 0) rfl))))))) pure_Road_send
abbrev N_Road_due : List Str := ["self", "time", "found", "one", "when", "number", "query"]
theorem sc_Road_due : FnScope N_Road_due ["self", "time"] (defScope s_Road_due) := ⟨rfl, rfl, rfl, by decide +kernel, rfl, by decide +kernel, by decide +kernel⟩
theorem cal_Road_due {P : Program} {w : World} {K : PySem.W.Frag} {mg : Str → Option Value} {base : Heap} (T : TX fa K mg) (hd : ∃ fd, FunD K d2.name d2.qual d2.params d2.body d2.scope (d2.dvs K) (d2.kws K) (He.fAd K d2.at_) fd)  :
    Cal P w K mg base 1 ("Road", some "due") ["self", "time"] (sp_Road_due K) :=
  cal_of (d := d2) (N := N_Road_due) (t := t_Road_due K) hd rfl rfl sc_Road_due len_Road_due (fun _ _ _ _ _ _ us hl => match us, hl with | [_, _], _ => rfl) (fun cdv A outer s H E hr => (pss_cons (ps_set (i := 2) sc_Road_due.nd rfl (Or.inl rfl) (pe_callB (sortD hr.units) (by rfl) (T.free 18) (by decide +kernel) (pa_cons (pe_lcL (own := [("one", 3)]) (g := gName 3) (tt := tTest (tOp (rI0 fun i j => .bl (decide (i ≤ j))) (tOp gIxT (tVar 3) (tC (.int 0))) (tVar 1))) (te := tVar 3) rfl sc_Road_due.nd (pe_fldC (T.cls 25) (T.noat 29) (pv 0) rfl) (blkOk_by (own := [("one", 3)]) (N := N_Road_due) (sc := defScope s_Road_due) (by decide +kernel)) (fun _ _ _ _ _ => pg_name (i := 3) sc_Road_due.nd rfl (Or.inl rfl)) (fun _ _ _ _ _ => pts_one (pt_cmpR op_le (pe_ix ixT (pv 3) (pe_int) (fun _ _ => rfl)) (pv 1) (nomark _))) (fun _ _ _ _ _ => pv 3)) (pa_nil)))) (pss_cons (ps_fldC (T.cls 25) (T.noat 29) (pv 0) (pe_lcL (own := [("one", 3)]) (g := gName 3) (tt := tTest (tOp (rI0 fun i j => .bl (decide (j < i))) (tOp gIxT (tVar 3) (tC (.int 0))) (tVar 1))) (te := tVar 3) rfl sc_Road_due.nd (pe_fldC (T.cls 25) (T.noat 29) (pv 0) rfl) (blkOk_by (own := [("one", 3)]) (N := N_Road_due) (sc := defScope s_Road_due) (by decide +kernel)) (fun _ _ _ _ _ => pg_name (i := 3) sc_Road_due.nd rfl (Or.inl rfl)) (fun _ _ _ _ _ => pts_one (pt_cmpR op_gt (pe_ix ixT (pv 3) (pe_int) (fun _ _ => rfl)) (pv 1) (nomark _))) (fun _ _ _ _ _ => pv 3)) rfl) (pss_one (ps_ret (pe_lcL (own := [("when", 4), ("number", 5), ("query", 6)]) (g := fTup 3 (gCons (gName 4) (gCons (gName 5) (gCons (gName 6) (gNil))))) (tt := tYes) (te := tTup (tCons (tVar 5) (tCons (tVar 6) (tNil)))) rfl sc_Road_due.nd (pv 2) (blkOk_by (own := [("when", 4), ("number", 5), ("query", 6)]) (N := N_Road_due) (sc := defScope s_Road_due) (by decide +kernel)) (fun _ _ _ _ _ => pg_tupC rfl (pgs_cons (pg_name (i := 4) sc_Road_due.nd rfl (Or.inl rfl)) (pgs_cons (pg_name (i := 5) sc_Road_due.nd rfl (Or.inl rfl)) (pgs_cons (pg_name (i := 6) sc_Road_due.nd rfl (Or.inl rfl)) (pgs_nil))))) (fun _ _ _ _ _ => pts_nil) (fun _ _ _ _ _ => pe_tup (pa_cons (pv 5) (pa_cons (pv 6) (pa_nil)))))))))) pure_Road_due
abbrev N_Road_many : List Str := ["self"]
theorem sc_Road_many : FnScope N_Road_many ["self"] (defScope s_Road_many) := ⟨rfl, rfl, rfl, by decide +kernel, rfl, by decide +kernel, by decide +kernel⟩
theorem cal_Road_many {P : Program} {w : World} {K : PySem.W.Frag} {mg : Str → Option Value} {base : Heap} (T : TX fa K mg) (hd : ∃ fd, FunD K d3.name d3.qual d3.params d3.body d3.scope (d3.dvs K) (d3.kws K) (He.fAd K d3.at_) fd)  :
    Cal P w K mg base 1 ("Road", some "many") ["self"] (sp_Road_many K) :=
  cal_of (d := d3) (N := N_Road_many) (t := t_Road_many K) hd rfl rfl sc_Road_many len_Road_many (fun _ _ _ _ _ _ us hl => match us, hl with | [_], _ => rfl) (fun cdv A outer s H E hr => (pss_one (ps_ret (pe_fldC (T.cls 25) (T.noat 28) (pv 0) rfl)))) pure_Road_many
abbrev N__law_refusal : List Str := ["held", "kinds"]
theorem sc__law_refusal : FnScope N__law_refusal ["held"] (defScope s__law_refusal) := ⟨rfl, rfl, rfl, by decide +kernel, rfl, by decide +kernel, by decide +kernel⟩
theorem cal__law_refusal {P : Program} {w : World} {K : PySem.W.Frag} {mg : Str → Option Value} {base : Heap} (T : TX fa K mg) (hd : ∃ fd, FunD K d8.name d8.qual d8.params d8.body d8.scope (d8.dvs K) (d8.kws K) (He.fAd K d8.at_) fd)  :
    Cal P w K mg base 1 ("_law_refusal", none) ["held"] (sp__law_refusal K) :=
  cal_of (d := d8) (N := N__law_refusal) (t := t__law_refusal K) hd rfl rfl sc__law_refusal len__law_refusal (fun _ _ _ _ _ _ us hl => match us, hl with | [_], _ => rfl) (fun cdv A outer s H E hr => (pss_cons (ps_if (pt_cmpR op_isN1 (pv 0) (pe_non) (nomark _)) (pss_one (ps_ret (pe_tup (pa_cons (pe_str) (pa_nil))))) (pss_nil)) (pss_cons (ps_set (i := 1) sc__law_refusal.nd rfl (Or.inl rfl) (pe_lst (pa_cons (pe_is T.is (by decide) (T.free 14) (T.glo 8) (pv 0)) (pa_cons (pe_is T.is (by decide) (T.free 14) (T.glo 9) (pv 0)) (pa_cons (pe_is T.is (by decide) (T.free 14) (T.glo 10) (pv 0)) (pa_nil)))))) (pss_cons (ps_if (PW.pt (pw_or (pt_cmpR op_ne (pe_bmC PySem.F.plainAttrs_list PySem.F.slot_list_count PySem.F.type_list_count mtCnt (pv 1) (pa_cons (pe_bl) (pa_nil))) (pe_int) (nomark _)) (pw_or1 (pt_not (pt_val (pe_isV T.is (T.free 14) (T.free 12) (pv 0))))))) (pss_one (ps_ret (pe_tup (pa_cons (pe_str) (pa_nil))))) (pss_nil)) (pss_one (ps_ret (pe_tup (pa_cons (pe_str) (pa_cons (pe_ix ixL (pe_lst (pa_cons (pe_str) (pa_cons (pe_str) (pa_cons (pe_str) (pa_nil))))) (pe_bmC PySem.F.plainAttrs_list PySem.F.slot_list_index PySem.F.type_list_index mtIdx (pv 1) (pa_cons (pe_bl) (pa_nil))) (fun _ _ => rfl)) (pa_nil)))))))))) pure__law_refusal
abbrev N__law_new : List Str := ["delays", "held", "e"]
theorem sc__law_new : FnScope N__law_new ["delays"] (defScope s__law_new) := ⟨rfl, rfl, rfl, by decide +kernel, rfl, by decide +kernel, by decide +kernel⟩
theorem cal__law_new {P : Program} {w : World} {K : PySem.W.Frag} {mg : Str → Option Value} {base : Heap} (T : TX fa K mg) (hd : ∃ fd, FunD K d9.name d9.qual d9.params d9.body d9.scope (d9.dvs K) (d9.kws K) (He.fAd K d9.at_) fd) (c_Road___init__ : Cal P w K mg base 1 ("Road", some "__init__") ["self", "delays"] (sp_Road___init__ K)) (c__law_refusal : Cal P w K mg base 1 ("_law_refusal", none) ["held"] (sp__law_refusal K)) :
    Cal P w K mg base 3 ("_law_new", none) ["delays"] (sp__law_new K) :=
  cal_of (d := d9) (N := N__law_new) (t := t__law_new K) hd rfl rfl sc__law_new len__law_new (fun _ _ _ _ _ _ us hl => match us, hl with | [_], _ => rfl) (fun cdv A outer s H E hr => (pss_cons (ps_set (i := 1) sc__law_new.nd rfl (Or.inl rfl) (pe_non)) (pss_cons (ps_hold (cs := errV K) (i := 2) (j := 1) (tb := fun W => tDrop (fMakeS (He.ga K "Road") (sp_Road___init__ K) W (tCons (tVar 0) (tNil)))) rfl rfl rfl sc__law_new.nd rfl rfl rfl rfl ⟨rfl, by decide, Or.inl (T.glo 7)⟩ (by exact errV_ok T.is) (fun W pn xe tk _ => pss_one (ps_expr (pe_calCS c_Road___init__ (T.mkr 26) (hr.mono (by decide)) (T.glo 11) tk (pa_cons (pv 0) (pa_nil)))))) (pss_one (ps_ret (pe_cal c__law_refusal (hr.mono (by decide)) (T.glo 4) pxOf (pa_cons (pv 1) (pa_nil)))))))) pure__law_new
abbrev N_law : List Str := ["script", "town", "menu", "delays", "given", "road", "time", "waits", "many", "k", "way", "query", "delay", "some", "bad", "one", "when", "number"]
theorem sc_law : FnScope N_law ["script"] (defScope s_law) := ⟨rfl, rfl, rfl, by decide +kernel, rfl, by decide +kernel, by decide +kernel⟩
theorem hE_law {K : PySem.W.Frag} : ∀ vs H Q E E', sp_law K vs H Q E → sp_law K vs H Q E' := fun _ _ _ _ _ h => h
theorem facts {P : Program} {w : World} {K : PySem.W.Frag} {h : Heap} {mg : Str → Option Value} {f : Addr} (X : K.In h) (G : h.Ns mainGlobals mg) (hfa : mg ("law" : Str) = some (.ref f)) (c : He.SaysX fa fn [] [] isB w h K) :
    ∃ fd : FuncData, (∀ (s : Shared) (v : Value), BindsTo s fd ⟨[v], []⟩ [("script", v)]) ∧ ∀ base : Heap, K.In base → base.Ns mainGlobals mg → FnOk P w K mg base CX0 5 f fd ["script"] (sp_law K) := by
  have T : TX fa K mg := tx_of X G c
  obtain ⟨fd, F⟩ := He.SaysD.def_ c.t.d 10 (d := d10) rfl
  have e := hfa.symm.trans (T.glo 6)
  cases e
  have b := FunD.bindsA (ps := ["script"]) F fun _ _ _ _ _ _ us hl => match us, hl with | [_], _ => rfl
  refine ⟨fd, fun s v => b s [v] rfl, fun base _ _ => ?_⟩
  have c__law_cell := cal__law_cell (P := P) (w := w) (K := K) (mg := mg) (base := base) T (He.SaysD.def_ c.t.d 4 (d := d4) rfl) 
  have c__law_mix := cal__law_mix (P := P) (w := w) (K := K) (mg := mg) (base := base) T (He.SaysD.def_ c.t.d 5 (d := d5) rfl) c__law_cell
  have c__law_draw := cal__law_draw (P := P) (w := w) (K := K) (mg := mg) (base := base) T (He.SaysD.def_ c.t.d 6 (d := d6) rfl) c__law_mix
  have c__law_pick := cal__law_pick (P := P) (w := w) (K := K) (mg := mg) (base := base) T (He.SaysD.def_ c.t.d 7 (d := d7) rfl) c__law_draw
  have c_Road___init__ := cal_Road___init__ (P := P) (w := w) (K := K) (mg := mg) (base := base) T (He.SaysD.def_ c.t.d 0 (d := d0) rfl) 
  have c_Road_send := cal_Road_send (P := P) (w := w) (K := K) (mg := mg) (base := base) T (He.SaysD.def_ c.t.d 1 (d := d1) rfl) 
  have c_Road_due := cal_Road_due (P := P) (w := w) (K := K) (mg := mg) (base := base) T (He.SaysD.def_ c.t.d 2 (d := d2) rfl) 
  have c_Road_many := cal_Road_many (P := P) (w := w) (K := K) (mg := mg) (base := base) T (He.SaysD.def_ c.t.d 3 (d := d3) rfl) 
  have c__law_refusal := cal__law_refusal (P := P) (w := w) (K := K) (mg := mg) (base := base) T (He.SaysD.def_ c.t.d 8 (d := d8) rfl) 
  have c__law_new := cal__law_new (P := P) (w := w) (K := K) (mg := mg) (base := base) T (He.SaysD.def_ c.t.d 9 (d := d9) rfl) c_Road___init__ c__law_refusal
  exact law_of (d := d10) (N := N_law) (t := t_law K) F sc_law len_law hE_law (fun cdv A outer s H E hr => (pss_cons (ps_set (i := 1) sc_law.nd rfl (Or.inr rfl) (pe_lst (pa_nil))) (pss_cons (ps_set (i := 2) sc_law.nd rfl (Or.inr rfl) (pe_lst (pa_cons (pe_non) (pa_cons (pe_int) (pa_cons (pe_int) (pa_cons (pe_int) (pa_cons (pe_op op_add (pe_int) (pe_cal c__law_draw (hr.mono (by decide)) (T.glo 2) pxOf (pa_cons (pv 0) (pa_cons (pv 1) (pa_cons (pe_int) (pa_nil)))))) (pa_nil)))))))) (pss_cons (ps_lcR1 (i := 3) (own := [("k", 9)]) (g := gName 9) (tt := tYes) (te := tCall (sp__law_pick K) [] E0 (tCons (tVar 0) (tCons (tVar 1) (tCons (tVar 2) (tNil))))) rfl sc_law.nd rfl rfl (sw_true rfl rfl rfl (by decide +kernel)) rfl (T.free 17) (pa_cons (pe_op op_add (pe_int) (pe_cal c__law_draw (hr.mono (by decide)) (T.glo 2) pxOf (pa_cons (pv 0) (pa_cons (pv 1) (pa_cons (pe_int) (pa_nil)))))) (pa_nil)) (blkOk_by (own := [("k", 9)]) (N := N_law) (sc := defScope s_law) (by decide +kernel)) (fun _ _ _ _ _ => pg_name (i := 9) sc_law.nd rfl (Or.inl rfl)) (fun _ _ _ _ _ => pts_nil) (fun _ _ _ _ _ => pe_cal c__law_pick (hr.mono (by decide)) (T.glo 3) pxB (pa_cons (pv 0) (pa_cons (pv 1) (pa_cons (pv 2) (pa_nil)))))) (pss_cons (ps_set (i := 4) sc_law.nd rfl (Or.inl rfl) (pe_callTy listL (by rfl) (T.free 16) (by decide +kernel) (pa_cons (pv 3) (pa_nil)))) (pss_cons (ps_set (i := 5) sc_law.nd rfl (Or.inl rfl) (pe_calC c_Road___init__ (T.mkr 26) (hr.mono (by decide)) (T.glo 11) pxOf (pa_cons (pv 3) (pa_nil)))) (pss_cons (ps_expr (pe_bmC PySem.F.plainAttrs_list PySem.F.slot_list_append PySem.F.type_list_append mt_append (pv 3) (pa_cons (pe_int) (pa_nil)))) (pss_cons (ps_set (i := 6) sc_law.nd rfl (Or.inr rfl) (pe_int)) (pss_cons (ps_set (i := 7) sc_law.nd rfl (Or.inl rfl) (pe_lst (pa_nil))) (pss_cons (ps_set (i := 8) sc_law.nd rfl (Or.inl rfl) (pe_int)) (pss_cons (ps_forR1 poOf rfl rfl (T.free 17) (pa_cons (pe_cal c__law_draw (hr.mono (by decide)) (T.glo 2) pxOf (pa_cons (pv 0) (pa_cons (pv 1) (pa_cons (pe_int) (pa_nil))))) (pa_nil)) (pg_name (i := 9) sc_law.nd rfl (Or.inl rfl)) (pss_cons (ps_set (i := 10) sc_law.nd rfl (Or.inl rfl) (pe_cal c__law_draw (hr.mono (by decide)) (T.glo 2) pxOf (pa_cons (pv 0) (pa_cons (pv 1) (pa_cons (pe_int) (pa_nil)))))) (pss_cons (ps_if (PW.pt (pw_and (pt_cmpR op_eq (pv 10) (pe_int) (nomark _)) (pw_and1 (pt_cmpR op_lt (pv 8) (pe_int) (nomark _))))) (pss_cons (ps_set (i := 11) sc_law.nd rfl (Or.inl rfl) (pe_op catS (pe_str) (pe_callTy strI (by rfl) (T.free 19) (by decide +kernel) (pa_cons (pe_cal c__law_draw (hr.mono (by decide)) (T.glo 2) pxOf (pa_cons (pv 0) (pa_cons (pv 1) (pa_cons (pe_int) (pa_nil))))) (pa_nil))))) (pss_cons (ps_set (i := 12) sc_law.nd rfl (Or.inl rfl) (pe_ix ixL (pv 4) (pe_op op_mod (pv 8) (pe_callB lenL (by rfl) (T.free 15) (by decide +kernel) (pa_cons (pv 4) (pa_nil)))) (fun _ _ => rfl))) (pss_cons (ps_set (i := 8) sc_law.nd rfl (Or.inl rfl) (pe_op op_add (pv 8) (pe_int))) (pss_cons (ps_if (pt_cmpR op_ne (pe_calM c_Road_send (T.cls 25) (T.meth 30) (hr.mono (by decide)) pxOf (pv 5) (pa_cons (pv 11) (pa_cons (pv 6) (pa_nil)))) (pv 8) (nomark _)) (pss_one (ps_ret (pe_bl))) (pss_nil)) (pss_one (ps_if (pt_cmpR op_notN1 (pv 12) (pe_non) (nomark _)) (pss_one (ps_expr (pe_bmC PySem.F.plainAttrs_list PySem.F.slot_list_append PySem.F.type_list_append mt_append (pv 7) (pa_cons (pe_tup (pa_cons (pe_op op_add (pv 6) (pv 12)) (pa_cons (pv 8) (pa_cons (pv 11) (pa_nil))))) (pa_nil))))) (pss_nil))))))) (pss_one (ps_if (pt_cmpR op_eq (pv 10) (pe_int) (nomark _)) (pss_one (ps_set (i := 6) sc_law.nd rfl (Or.inr rfl) (pe_op op_add (pv 6) (pe_cal c__law_draw (hr.mono (by decide)) (T.glo 2) pxOf (pa_cons (pv 0) (pa_cons (pv 1) (pa_cons (pe_int) (pa_nil)))))))) (pss_cons (ps_set (i := 13) sc_law.nd rfl (Or.inl rfl) (pe_callB (sortD hr.units) (by rfl) (T.free 18) (by decide +kernel) (pa_cons (pe_lcL (own := [("one", 15)]) (g := gName 15) (tt := tTest (tOp (rI0 fun i j => .bl (decide (i ≤ j))) (tOp gIxT (tVar 15) (tC (.int 0))) (tVar 6))) (te := tVar 15) rfl sc_law.nd (pv 7) (blkOk_by (own := [("one", 15)]) (N := N_law) (sc := defScope s_law) (by decide +kernel)) (fun _ _ _ _ _ => pg_name (i := 15) sc_law.nd rfl (Or.inl rfl)) (fun _ _ _ _ _ => pts_one (pt_cmpR op_le (pe_ix ixT (pv 15) (pe_int) (fun _ _ => rfl)) (pv 6) (nomark _))) (fun _ _ _ _ _ => pv 15)) (pa_nil)))) (pss_cons (ps_lcL (i := 7) (own := [("one", 15)]) (g := gName 15) (tt := tTest (tOp (rI0 fun i j => .bl (decide (j < i))) (tOp gIxT (tVar 15) (tC (.int 0))) (tVar 6))) (te := tVar 15) rfl sc_law.nd rfl rfl (sw_true rfl rfl rfl (by decide +kernel)) (pv 7) (blkOk_by (own := [("one", 15)]) (N := N_law) (sc := defScope s_law) (by decide +kernel)) (fun _ _ _ _ _ => pg_name (i := 15) sc_law.nd rfl (Or.inl rfl)) (fun _ _ _ _ _ => pts_one (pt_cmpR op_gt (pe_ix ixT (pv 15) (pe_int) (fun _ _ => rfl)) (pv 6) (nomark _))) (fun _ _ _ _ _ => pv 15)) (pss_one (ps_if (pt_cmpR (neD hr.units) (pe_calM c_Road_due (T.cls 25) (T.meth 31) (hr.mono (by decide)) pxOf (pv 5) (pa_cons (pv 6) (pa_nil))) (pe_lcL (own := [("when", 16), ("number", 17), ("query", 11)]) (g := fTup 3 (gCons (gName 16) (gCons (gName 17) (gCons (gName 11) (gNil))))) (tt := tYes) (te := tTup (tCons (tVar 17) (tCons (tVar 11) (tNil)))) rfl sc_law.nd (pv 13) (blkOk_by (own := [("when", 16), ("number", 17), ("query", 11)]) (N := N_law) (sc := defScope s_law) (by decide +kernel)) (fun _ _ _ _ _ => pg_tupC rfl (pgs_cons (pg_name (i := 16) sc_law.nd rfl (Or.inl rfl)) (pgs_cons (pg_name (i := 17) sc_law.nd rfl (Or.inl rfl)) (pgs_cons (pg_name (i := 11) sc_law.nd rfl (Or.inl rfl)) (pgs_nil))))) (fun _ _ _ _ _ => pts_nil) (fun _ _ _ _ _ => pe_tup (pa_cons (pv 17) (pa_cons (pv 11) (pa_nil))))) (nomark _)) (pss_one (ps_ret (pe_bl))) (pss_nil)))))))) (pss_one (ps_if (pt_cmpR op_ne (pe_calM0 c_Road_many (T.cls 25) (T.meth 32) (hr.mono (by decide)) pxOf (pv 5)) (pv 8) (nomark _)) (pss_one (ps_ret (pe_bl))) (pss_nil)))))) (pss_cons (ps_set (i := 14) sc_law.nd rfl (Or.inl rfl) (pe_lst (pa_cons (pe_lst (pa_nil)) (pa_cons (pe_op op_rep (pe_lst (pa_cons (pe_int) (pa_nil))) (pe_int)) (pa_cons (pe_lst (pa_cons (pe_int) (pa_nil))) (pa_cons (pe_lst (pa_cons (pe_int) (pa_nil))) (pa_cons (pe_lst (pa_cons (pe_int) (pa_cons (pe_un un_neg (pe_int)) (pa_nil)))) (pa_cons (pe_lst (pa_cons (pe_non) (pa_cons (pe_int) (pa_nil)))) (pa_nil))))))))) (pss_one (ps_ret (pe_cmpR (eqD hr.units) (pe_lcL (own := [("one", 15)]) (g := gName 15) (tt := tYes) (te := tCall (sp__law_new K) [] E0 (tCons (tVar 15) (tNil))) rfl sc_law.nd (pv 14) (blkOk_by (own := [("one", 15)]) (N := N_law) (sc := defScope s_law) (by decide +kernel)) (fun _ _ _ _ _ => pg_name (i := 15) sc_law.nd rfl (Or.inl rfl)) (fun _ _ _ _ _ => pts_nil) (fun _ _ _ _ _ => pe_cal c__law_new (hr.mono (by decide)) (T.glo 5) pxB (pa_cons (pv 15) (pa_nil)))) (pe_op op_rep (pe_lst (pa_cons (pe_tup (pa_cons (pe_str) (pa_cons (pe_str) (pa_nil)))) (pa_nil))) (pe_int)) (nomark _)))))))))))))))) pure_law

abbrev R : PySem.W.OpenRow := PySem.W.OpenLaw.row PySem.Challenge.rw_typeasks_k22_whole_roads
abbrev hk : PySem.W.Hook := He.hookX 5 fa fn [] [] isB
def ob (s : PySem.W.SharedT) : He.AlX := He.obsX 5 fa fn [] [] isB (HandSHeadRun.getT s)
theorem ob_eq (s : PySem.W.SharedT) : ob s = hk.obs s.abs := He.obsX_eq (HandSHeadRun.getT_eq s)
theorem run (w : World) : HandSHeadRun.RunEq R (PySem.W.view R.prog [16]) hk ob 20000 loose w := by
  intro os
  kernel_rfl
end TA
open PySem PySem.W PySem.Calls PyProof.Rows
theorem PySem.Challenge.cw_typeasks_k22_whole_roads_holds : PySem.Challenge.rw_typeasks_k22_whole_roads.Holds := by
  w_on; o_law
  refine HandSHeadRun.head_any (r := OpenLaw.row PySem.Challenge.rw_typeasks_k22_whole_roads) (q := view (OpenLaw.row PySem.Challenge.rw_typeasks_k22_whole_roads).prog [16]) (H := TA.hk) (ob := TA.ob) (M := 20000) (loose := TA.loose) (d := HandSHeadRun.topDef (OpenLaw.row PySem.Challenge.rw_typeasks_k22_whole_roads).prog 16) (kwd := []) TA.ob_eq
    (by kernel_rfl) (fun s => by kernel_rfl) TA.run (by kernel_rfl) (by kernel_rfl) (by kernel_rfl) (by rfl) (by first | assumption | decide +kernel) (by decide +kernel) ⟨rfl, rfl, rfl, rfl, rfl, by decide +kernel⟩ ?hw ?hc
  case hw => w_witness2
  case hc =>
    refine L2.walk_ofE (l := PySem.Challenge.rw_typeasks_k22_whole_roads) (n := 63) (k := 5) (x := "script") (CX := L2.CX0) rfl (by decide) (by kernel_rfl) ⟨rfl, by decide, by decide⟩ ?F (fun _ _ _ _ z => z)
    intro w mg fa h Y G hmg0
    obtain ⟨K, KX, c⟩ := Y
    have hmg : mg ("law" : PySem.Str) = some (.ref fa) := by
      have e : (HandSHeadRun.topDef (OpenLaw.row PySem.Challenge.rw_typeasks_k22_whole_roads).prog 16).name = ("law" : PySem.Str) := by kernel_rfl
      rw [← e]
      exact hmg0
    obtain ⟨fd, hb, hF⟩ := TA.facts (P := (PySem.Challenge.rw_typeasks_k22_whole_roads).prog) (w := w) KX G hmg c
    exact ⟨K, fd, TA.sp_law K, KX, hb, fun H a ns hl _ hS => ⟨a, rfl, ⟨ns, hS⟩, fun _ => rfl⟩, hF⟩
