import PyProof.Rows.All
import Wide.All
import OpenK.AllK
import Wide.FinOn
import KE.KStateDown
import HandS.ForMost
import HandS.Exc
import HandS.TryOnly
import HandS.TryMany
import HandS.ExcOwn
import HandS.ExcIs
import HandS.ExcValue
import HandS.WordsExc
import HandS.More
import HandS.Defaults
import HandS.Conv
import HandS.SortOrd
import HandS.SortRule
import HandS.Flow
import HandS.HeadHook2
import HandS.Walk
import HandS.Steps
import KE.DataEq
import KE.SortCalls
import KE.DataMinMax
import HandS.SetFor
import HandS.Head0
import HandS.Head1
import HandS.Head2
import HandS.HeadEnd
import HandS.HeadHook1
import HandS.HeadHook3
import HandS.HeadHook4
import PyProof.StrBlock2
import HandS.Codes
import KE.DataFind
import HandS.Dict
import KE.KDictSum
import KE.SortData
import HandS.SetTxt0
import HandS.Strs
import HandS.TupSets
import HandS.IsInst
import HandS.Text
import HandS.RaiseMore
import PySem.Challenge.RW_typeasks_k51_whole_diary_texts
set_option Elab.async false
set_option linter.all false
set_option maxRecDepth 100000
set_option maxHeartbeats 0
set_option linter.all false
set_option maxHeartbeats 1000000
/-! What a heap holds: what never changes (I), what may change (M). -/
namespace TA
open PySem L2
/-- H holds these, each at a place of its own -/
def Has (H : Hp) : List (Addr × HO) → Prop
  | [] => True
  | (a, o) :: r => H a = some o ∧ Has H r
def Sub (I H : Hp) : Prop := ∀ b o, I b = some o → H b = some o
structure W (I H : Hp) (M : List (Addr × HO)) : Prop where
  sub : Sub I H
  has : Has H M
  out : ∀ p ∈ M, I p.1 = none
  nd : (M.map (·.1)).Nodup
theorem Sub.refl (H : Hp) : Sub H H := fun _ _ h => h
theorem Sub.trans {A B C : Hp} (x : Sub A B) (y : Sub B C) : Sub A C := fun b o h => y b o (x b o h)
theorem Sub.new {I : Hp} {p : Addr} {o : HO} (h : I p = none) : Sub I (upd I p o) := fun b u q => by
  have : b ≠ p := fun z => by rw [z, h] at q; cases q
  rw [upd_ne this]; exact q
theorem has_mem {H : Hp} : ∀ {M : List (Addr × HO)}, Has H M → ∀ p ∈ M, H p.1 = some p.2
  | (a, o) :: r, h, p, hp => by
    rcases List.mem_cons.mp hp with e | hp
    · rw [e]; exact h.1
    · exact has_mem h.2 p hp
theorem has_of {H : Hp} : ∀ {M : List (Addr × HO)}, (∀ p ∈ M, H p.1 = some p.2) → Has H M
  | [], _ => trivial
  | (a, o) :: r, h => ⟨h (a, o) List.mem_cons_self, has_of fun p hp => h p (List.mem_cons_of_mem _ hp)⟩
theorem has_upd {H : Hp} {a : Addr} {o : HO} {M : List (Addr × HO)} (h : Has H M) (n : ∀ p ∈ M, p.1 ≠ a) : Has (upd H a o) M :=
  has_of fun p hp => by rw [upd_ne (n p hp)]; exact has_mem h p hp
section
variable {I H : Hp} {M : List (Addr × HO)} {p : Addr} {o o' : HO}
theorem W.start (H : Hp) : W H H [] := ⟨Sub.refl H, trivial, fun p hp => (by cases hp), List.nodup_nil⟩
theorem W.imm (w : W I H M) (h : I p = some o) : H p = some o := w.sub p o h
theorem W.noI (w : W I H M) (h : H p = none) : I p = none := by
  cases q : I p with
  | none => rfl
  | some o => rw [w.sub p o q] at h; cases h
theorem W.noM (w : W I H M) (h : H p = none) : ∀ x ∈ M, x.1 ≠ p := fun x hx z => by
  have := has_mem w.has x hx
  rw [z, h] at this; cases this
/-- a new object that will not change -/
theorem W.newI (w : W I H M) (h : H p = none) : W (upd I p o) (upd H p o) M where
  sub := fun b u q => by
    by_cases e : b = p
    · subst e; rw [upd_same] at q ⊢; exact q
    · rw [upd_ne e] at q ⊢; exact w.sub b u q
  has := has_upd w.has (w.noM h)
  out := fun x hx => by rw [upd_ne (w.noM h x hx)]; exact w.out x hx
  nd := w.nd
/-- a new object that may change -/
theorem W.newM (w : W I H M) (h : H p = none) : W I (upd H p o) ((p, o) :: M) where
  sub := fun b u q => by
    have := w.sub b u q
    have e : b ≠ p := fun z => by rw [z, h] at this; cases this
    rw [upd_ne e]; exact this
  has := ⟨upd_same, has_upd w.has (w.noM h)⟩
  out := fun x hx => by
    rcases List.mem_cons.mp hx with e | hx
    · rw [e]; exact w.noI h
    · exact w.out x hx
  nd := List.nodup_cons.mpr ⟨fun hm => by
    obtain ⟨x, hx, e⟩ := List.mem_map.mp hm
    exact w.noM h x hx e, w.nd⟩
/-- a new object that nobody asks for -/
theorem W.skip (w : W I H M) (h : H p = none) : W I (upd H p o) M :=
  let v := w.newM (o := o) h
  ⟨v.sub, v.has.2, w.out, w.nd⟩
/-- the first of those that may change is changed -/
theorem W.put (w : W I H ((p, o) :: M)) : W I (upd H p o') ((p, o') :: M) where
  sub := fun b u q => by
    have e : b ≠ p := fun z => by rw [z, w.out (p, o) List.mem_cons_self] at q; cases q
    rw [upd_ne e]; exact w.sub b u q
  has := ⟨upd_same, has_upd w.has.2 fun x hx z => (List.nodup_cons.mp w.nd).1 (List.mem_map.mpr ⟨x, hx, z⟩)⟩
  out := fun x hx => by
    rcases List.mem_cons.mp hx with e | hx
    · rw [e]; exact w.out (p, o) List.mem_cons_self
    · exact w.out x (List.mem_cons_of_mem _ hx)
  nd := w.nd
/-- the first one will not change any more -/
theorem W.freeze (w : W I H ((p, o) :: M)) : W (upd I p o) H M where
  sub := fun b u q => by
    by_cases e : b = p
    · subst e; rw [upd_same] at q; cases q; exact w.has.1
    · rw [upd_ne e] at q; exact w.sub b u q
  has := w.has.2
  out := fun x hx => by
    have : x.1 ≠ p := fun z => (List.nodup_cons.mp w.nd).1 (List.mem_map.mpr ⟨x, hx, z⟩)
    rw [upd_ne this]; exact w.out x (List.mem_cons_of_mem _ hx)
  nd := (List.nodup_cons.mp w.nd).2
theorem W.drop (w : W I H ((p, o) :: M)) : W I H M := ⟨w.sub, w.has.2, fun x hx => w.out x (List.mem_cons_of_mem _ hx), (List.nodup_cons.mp w.nd).2⟩
theorem W.perm {M' : List (Addr × HO)} (w : W I H M) (e : M'.Perm M) : W I H M' :=
  ⟨w.sub, has_of fun x hx => has_mem w.has x (e.mem_iff.mp hx), fun x hx => w.out x (e.mem_iff.mp hx), (e.map _).nodup_iff.mpr w.nd⟩
theorem W.swap {q : Addr} {u : HO} (w : W I H ((p, o) :: (q, u) :: M)) : W I H ((q, u) :: (p, o) :: M) := w.perm (List.Perm.swap _ _ _)
theorem W.rot {q r : Addr} {u v : HO} (w : W I H ((p, o) :: (q, u) :: (r, v) :: M)) : W I H ((r, v) :: (p, o) :: (q, u) :: M) :=
  w.perm ((List.Perm.swap _ _ _).trans (List.Perm.cons _ (List.Perm.swap _ _ _)))
/-- nothing that was there has changed -/
theorem W.same {H' : Hp} (w : W I H M) (s : Same H H') : W I H' M :=
  ⟨fun b o q => s b o (w.sub b o q), has_of fun x hx => s _ _ (has_mem w.has x hx), w.out, w.nd⟩
/-- less is known to stay -/
theorem W.less {J : Hp} (w : W I H M) (s : Sub J I) : W J H M :=
  ⟨s.trans w.sub, w.has, (fun x hx => by
    cases q : J x.1 with
    | none => rfl
    | some o => have := s _ _ q; rw [w.out x hx] at this; cases this), w.nd⟩
end
theorem nodup_ix_any {α : Type} : ∀ {l : List α} {i j : Nat} {x : α}, l.Nodup → l[i]? = some x → l[j]? = some x → i = j
  | [], _, _, _, _, h, _ => by simp at h
  | y :: l, 0, 0, _, _, _, _ => rfl
  | y :: l, 0, j + 1, x, n, h1, h2 => by
    simp at h1; subst h1
    exact absurd (List.mem_of_getElem? (show l[j]? = some y by simpa using h2)) (List.nodup_cons.mp n).1
  | y :: l, i + 1, 0, x, n, h1, h2 => by
    simp at h2; subst h2
    exact absurd (List.mem_of_getElem? (show l[i]? = some y by simpa using h1)) (List.nodup_cons.mp n).1
  | y :: l, i + 1, j + 1, x, n, h1, h2 => by
    rw [nodup_ix_any (List.nodup_cons.mp n).2 (show l[i]? = some x by simpa using h1) (show l[j]? = some x by simpa using h2)]
theorem sel_mem {L : List (Addr × HO)} : ∀ {is : List Nat} {x : Addr × HO}, x ∈ is.filterMap (fun i => L[i]?) → ∃ i, i ∈ is ∧ L[i]? = some x := fun {is x} h => by
  obtain ⟨i, hi, e⟩ := List.mem_filterMap.mp h
  exact ⟨i, hi, e⟩
theorem sel_nodup {L : List (Addr × HO)} (hL : (L.map (·.1)).Nodup) : ∀ {is : List Nat}, is.Nodup → ((is.filterMap fun i => L[i]?).map (·.1)).Nodup
  | [], _ => List.nodup_nil
  | i :: is, h => by
    obtain ⟨h1, h2⟩ := List.nodup_cons.mp h
    have ih := sel_nodup hL h2
    cases e : L[i]? with
    | none => rw [List.filterMap_cons_none e]; exact ih
    | some x =>
      rw [List.filterMap_cons_some e, List.map_cons]
      refine List.nodup_cons.mpr ⟨fun hm => ?_, ih⟩
      obtain ⟨y, hy, ey⟩ := List.mem_map.mp hm
      obtain ⟨j, hj, e2⟩ := sel_mem hy
      have a1 : (L.map (·.1))[i]? = some x.1 := by rw [List.getElem?_map, e]; rfl
      have a2 : (L.map (·.1))[j]? = some x.1 := by rw [List.getElem?_map, e2, ← ey]; rfl
      have := nodup_ix_any hL a1 a2
      exact h1 (this ▸ hj)
/-- some of those that may change, in another order -/
theorem W.sel {I H : Hp} {T : List (Addr × HO)} (L : List (Addr × HO)) (w : W I H (L ++ T)) (is : List Nat) (h : is.Nodup := by decide) : W I H ((is.filterMap fun i => L[i]?) ++ T) where
  sub := w.sub
  has := has_of fun x hx => by
    rcases List.mem_append.mp hx with q | q
    · obtain ⟨i, _, e⟩ := sel_mem q
      exact has_mem w.has x (List.mem_append_left _ (List.mem_of_getElem? e))
    · exact has_mem w.has x (List.mem_append_right _ q)
  out := fun x hx => by
    rcases List.mem_append.mp hx with q | q
    · obtain ⟨i, _, e⟩ := sel_mem q
      exact w.out x (List.mem_append_left _ (List.mem_of_getElem? e))
    · exact w.out x (List.mem_append_right _ q)
  nd := by
    have hn := w.nd
    rw [List.map_append] at hn ⊢
    obtain ⟨n1, n2, n3⟩ := List.nodup_append.mp hn
    refine List.nodup_append.mpr ⟨sel_nodup n1 h, n2, fun a ha b hb => ?_⟩
    obtain ⟨x, hx, rfl⟩ := List.mem_map.mp ha
    obtain ⟨i, _, e⟩ := sel_mem hx
    exact n3 _ (List.mem_map.mpr ⟨x, List.mem_of_getElem? e, rfl⟩) b hb
/-! ### attributes: names and values side by side -/
theorem lookup_zip : ∀ {ns : List Str} {vs : List V} (i : Nat) {a : Str} {v : V}, ns.Nodup → ns[i]? = some a → vs[i]? = some v → (ns.zip vs).lookup a = some v
  | [], _, _, _, _, _, h, _ => by simp at h
  | _ :: _, [], _, _, _, _, _, h => by simp at h
  | n :: ns, w :: vs, 0, a, v, nd, h1, h2 => by
    simp at h1 h2; subst h1; subst h2
    simp [List.zip_cons_cons, List.lookup]
  | n :: ns, w :: vs, i + 1, a, v, nd, h1, h2 => by
    have h1' : ns[i]? = some a := by simpa using h1
    have h2' : vs[i]? = some v := by simpa using h2
    have : (a == n) = false := by
      have hm : a ∈ ns := List.mem_of_getElem? h1'
      have : a ≠ n := fun z => (List.nodup_cons.mp nd).1 (z ▸ hm)
      simpa using this
    rw [List.zip_cons_cons, List.lookup, this]
    exact lookup_zip i (List.nodup_cons.mp nd).2 h1' h2'
theorem lookup_out : ∀ {ns : List Str} {vs : List V} {a : Str}, a ∉ ns → (ns.zip vs).lookup a = none
  | [], _, _, _ => by simp
  | _ :: _, [], _, _ => by simp
  | n :: ns, w :: vs, a, h => by
    have : (a == n) = false := by simpa using fun z : a = n => h (z ▸ List.mem_cons_self)
    rw [List.zip_cons_cons, List.lookup, this]
    exact lookup_out fun hm => h (List.mem_cons_of_mem _ hm)
theorem putF_zip : ∀ {ns : List Str} {vs : List V} (i : Nat) {a : Str} {x : V}, ns.Nodup → ns[i]? = some a → i < vs.length → putF a x (ns.zip vs) = ns.zip (vs.set i x)
  | [], _, _, _, _, _, h, _ => by simp at h
  | _ :: _, [], _, _, _, _, _, h => by simp at h
  | n :: ns, w :: vs, 0, a, x, nd, h1, h2 => by
    simp at h1; subst h1
    simp [List.zip_cons_cons, putF]
  | n :: ns, w :: vs, i + 1, a, x, nd, h1, h2 => by
    have h1' : ns[i]? = some a := by simpa using h1
    have : n ≠ a := by
      have hm : a ∈ ns := List.mem_of_getElem? h1'
      exact fun z => (List.nodup_cons.mp nd).1 (z ▸ hm)
    rw [List.zip_cons_cons, putF, if_neg this, putF_zip i (List.nodup_cons.mp nd).2 h1' (by simpa using h2)]
    rfl
theorem lt_putF {f : Str} {v : V} {fs : List (Str × V)} {m : Nat} (h : fs.length < m) : (putF f v fs).length < m + 1 := by
  have := length_putF f v fs
  omega
theorem lt0 : ([] : List (Str × V)).length < 1 := Nat.zero_lt_one
theorem ite_and2 {p q : Prop} [Decidable p] [Decidable q] {A B : Prop} (h : ¬ (p ∧ q)) (b : B) : if decide p = true then (if decide q = true then A else B) else B := by
  by_cases hp : p
  · rw [if_pos (decide_eq_true hp), if_neg (by rw [decide_eq_false fun hq => h ⟨hp, hq⟩]; decide)]; exact b
  · rw [if_neg (by rw [decide_eq_false hp]; decide)]; exact b
theorem ite_t {p : Prop} [Decidable p] {A B : Prop} (h : p) (a : A) : if decide p = true then A else B := by rw [if_pos (decide_eq_true h)]; exact a
theorem ite_f {p : Prop} [Decidable p] {A B : Prop} (h : ¬ p) (b : B) : if decide p = true then A else B := by rw [if_neg (by rw [decide_eq_false h]; decide)]; exact b
theorem ite_nt {p : Prop} [Decidable p] {A B : Prop} (h : p) (b : B) : if (!decide p) = true then A else B := by rw [if_neg (by rw [decide_eq_true h]; decide)]; exact b
theorem ite_nf {p : Prop} [Decidable p] {A B : Prop} (h : ¬ p) (a : A) : if (!decide p) = true then A else B := by rw [if_pos (by rw [decide_eq_false h]; decide)]; exact a
end TA

set_option linter.all false
set_option maxHeartbeats 2000000
/-! Rules with readings over tracked objects alone. -/
namespace TA
open PySem PySem.Spec L2
section
variable {X : Cx} {e : Expr} {es : List Expr}
theorem PE_imp {t t' : TE} (h : PE X e t) (k : ∀ σ H Q, t' σ H Q → t σ H Q) : PE X e t' := ⟨fun pins s σ H Q I q => h.run pins s σ H Q I (k σ H Q q)⟩
theorem PT_imp {t t' : TT} (h : PT X e t) (k : ∀ σ H Q, t' σ H Q → t σ H Q) : PT X e t' := ⟨fun pins s σ H Q I q => h.run pins s σ H Q I (k σ H Q q)⟩
theorem PS_imp {st : Stmt} {t t' : TS} (h : PS X st t) (k : ∀ D σ H, t' D σ H → t D σ H) : PS X st t' := ⟨fun pins s σ H D I q => h.run pins s σ H D I (k D σ H q)⟩
theorem PI_imp {tg : Expr} {t t' : TI} (h : PI X tg e t) (k : ∀ σ H R, t' σ H R → t σ H R) : PI X tg e t' := ⟨fun pins s σ H R I q => h.run pins s σ H R I (k σ H R q)⟩
theorem PG_imp {t t' : TG} (h : PG X e t) (k : ∀ v σ H Q, t' v σ H Q → t v σ H Q) : PG X e t' := ⟨fun pins s σ H v u Q I r q => h.run pins s σ H v u Q I r (k v σ H Q q)⟩
/-- the monotone closure of a reading -/
def mo (t : TE) : TE := fun σ H Q => ∃ Q1 : VK, t σ H Q1 ∧ ∀ x H', Q1 x H' → Q x H'
theorem PE_mo {t : TE} (h : PE X e t) : PE X e (mo t) := ⟨fun pins s σ H Q I q => by
  obtain ⟨Q1, q1, k⟩ := q
  exact thn (h.run pins s σ H Q1 I q1) fun u s' ⟨v, H', I', r, z⟩ => ⟨v, H', I', r, k v H' z⟩⟩
theorem OpR_imp {f : Value → Value → Sem Value} {r r' : R2} (h : OpR X f r) (k : ∀ x y H Q, r' x y H Q → r x y H Q) : OpR X f r' :=
  fun pins s σ H x y v u Q I rx ry q => h pins s σ H x y v u Q I rx ry (k x y H Q q)
theorem IxR_imp {r r' : R2} (h : IxR X r) (k : ∀ x y H Q, r' x y H Q → r x y H Q) : IxR X r' :=
  fun a b pins s σ H x y v u Q I rx ry q => h a b pins s σ H x y v u Q I rx ry (k x y H Q q)
theorem CallR_imp {f : Value} {r r' : List V → Hp → VK → Prop} (h : CallR X f r) (k : ∀ xs H Q, r' xs H Q → r xs H Q) : CallR X f r' :=
  fun pins s σ H xs us Q I rx q => h pins s σ H xs us Q I rx (k xs H Q q)
theorem MtR_imp {id : String} {r r' : V → List V → Hp → VK → Prop} (h : MtR X id r) (k : ∀ x xs H Q, r' x xs H Q → r x xs H Q) : MtR X id r' :=
  fun pins s σ H x xs v us Q I rx ry q => h pins s σ H x xs v us Q I rx ry (k x xs H Q q)
theorem SlR_imp {r r' : V → Option Int → Option Int → Hp → VK → Prop} (h : SlR X r) (k : ∀ x lo hi H Q, r' x lo hi H Q → r x lo hi H Q) : SlR X r' :=
  fun pins s σ H x v vl vu lo hi sl Q I rx a b c q => h pins s σ H x v vl vu lo hi sl Q I rx a b c (k x lo hi H Q q)
end
/-! ### fields -/
def fFld (C : Addr) (f : Str) (ta : TE) : TE := fun σ H Q => ta σ H fun x H1 => ∃ a dx fs v, x = .ref a ∧ H1 a = some (.ins C dx fs) ∧ fs.lookup f = some v ∧ Q v H1
def fSet (C : Addr) (f : Str) (ta tv : TE) : TS := fun D σ H => tv σ H fun y H1 => ta σ H1 fun x H2 => ∃ a dx fs, x = .ref a ∧ H2 a = some (.ins C dx fs) ∧ fs.length < 1000 ∧ D.nx σ (upd H2 a (.ins C dx (putF f y fs)))
section
variable {X : Cx} {o e value : Expr} {f : Str} {pos pos' : Pos} {ta tv : TE} {C : Addr}
theorem pe_fldC (c : Cls X.K C) (n : NoAttr X.K C f) (he : PE X e ta) (hb : attributeBase e f X.env (eval e X.env) = eval e X.env) : PE X (.Attribute e f pos) (fFld C f ta) :=
  PE_imp (pe_fld (PE_mo he) hb) fun _ _ _ h => ⟨_, h, fun _ _ ⟨a, dx, fs, v, z1, z2, z3, z4⟩ => ⟨a, C, dx, fs, v, z1, z2, c, n, z3, z4⟩⟩
theorem ps_fldC (c : Cls X.K C) (n : NoAttr X.K C f) (ha : PE X o ta) (hv : PE X value tv) (hs : swapsWith value (some (.Attribute o f pos')) pos.line X.env = pure false) : PS X (.Assign [.Attribute o f pos'] value pos) (fSet C f ta tv) :=
  PS_imp (ps_fld (PE_mo ha) (PE_mo hv) hs) fun _ _ _ h => ⟨_, h, fun _ _ h2 => ⟨_, h2, fun _ _ ⟨a, dx, fs, z1, z2, z3, z4⟩ => ⟨a, C, dx, fs, z1, z2, c, n, z3, z4⟩⟩⟩
end
/-! ### subscripts, slices -/
def gIxL : R2 := fun x y H Q => ∃ p xs i v, x = .ref p ∧ y = .int i ∧ H p = some (.lst xs) ∧ atI xs i = some v ∧ Q v H
def gIxT : R2 := fun x y H Q => ∃ p xs i v, x = .ref p ∧ y = .int i ∧ H p = some (.tup xs) ∧ atI xs i = some v ∧ Q v H
def gSlL : V → Option Int → Option Int → Hp → VK → Prop := fun x lo hi H Q => ∃ a xs, x = .ref a ∧ H a = some (.lst xs) ∧ ∀ p, H p = none → Q (.ref p) (upd H p (.lst (cutV xs lo hi)))
section
variable {X : Cx}
theorem ixL : IxR X gIxL := IxR_imp ix_list fun _ _ _ _ ⟨p, xs, i, v, a, b, c, d, e⟩ => ⟨p, xs, i, v, a, b, SqL.of c, d, e⟩
theorem ixT : IxR X gIxT := IxR_imp ix_tup fun _ _ _ _ ⟨p, xs, i, v, a, b, c, d, e⟩ => ⟨p, xs, i, v, a, b, SqT.of c, d, e⟩
theorem slL : SlR X gSlL := SlR_imp sl_list fun _ _ _ _ _ ⟨a, xs, x1, x2, x3⟩ => ⟨a, xs, x1, SqL.of x2, x3⟩
end
/-! ### in, len, list(..), truth -/
def gInL (neg : Bool) : R2 := fun x y H Q => ∃ p xs, y = .ref p ∧ H p = some (.lst xs) ∧ flatV x = true ∧ xs.all flatV = true ∧ Q (.bl (if neg then !inV x xs else inV x xs)) H
def gInT (neg : Bool) : R2 := fun x y H Q => ∃ p xs, y = .ref p ∧ H p = some (.tup xs) ∧ flatV x = true ∧ xs.all flatV = true ∧ Q (.bl (if neg then !inV x xs else inV x xs)) H
def gLenL : List V → Hp → VK → Prop := fun xs H Q => ∃ p ys, xs = [.ref p] ∧ H p = some (.lst ys) ∧ Q (.int ys.length) H
def gLenT : List V → Hp → VK → Prop := fun xs H Q => ∃ p ys, xs = [.ref p] ∧ H p = some (.tup ys) ∧ Q (.int ys.length) H
def gLenS : List V → Hp → VK → Prop := fun xs H Q => ∃ z, xs = [.str z] ∧ z.length ≤ sizeLine ∧ Q (.int z.length) H
def gListL : List V → Hp → VK → Prop := fun xs H Q => ∃ p ys, xs = [.ref p] ∧ H p = some (.lst ys) ∧ ∀ l, H l = none → Q (.ref l) (upd H l (.lst ys))
def gListT : List V → Hp → VK → Prop := fun xs H Q => ∃ p ys, xs = [.ref p] ∧ H p = some (.tup ys) ∧ ∀ l, H l = none → Q (.ref l) (upd H l (.lst ys))
def gTupL : List V → Hp → VK → Prop := fun xs H Q => ∃ p ys, xs = [.ref p] ∧ H p = some (.lst ys) ∧ ∀ l, H l = none → Q (.ref l) (upd H l (.tup ys))
def gAll : List V → Hp → VK → Prop := fun vs H Q => ∃ (a : Addr) (bs : List Bool), vs = [V.ref a] ∧ H a = some (.lst (bs.map V.bl)) ∧ Q (.bl (bs.all id)) H
section
variable {X : Cx}
theorem inL : OpR X (compareOp .In) (gInL false) := OpR_imp op_in_seq fun _ _ _ _ ⟨p, xs, a, b, c, d, e⟩ => ⟨p, xs, a, .inl (SqL.of b), c, d, e⟩
theorem ninL : OpR X (compareOp .NotIn) (gInL true) := OpR_imp op_notIn_seq fun _ _ _ _ ⟨p, xs, a, b, c, d, e⟩ => ⟨p, xs, a, .inl (SqL.of b), c, d, e⟩
theorem inT : OpR X (compareOp .In) (gInT false) := OpR_imp op_in_seq fun _ _ _ _ ⟨p, xs, a, b, c, d, e⟩ => ⟨p, xs, a, .inr (SqT.of b), c, d, e⟩
theorem ninT : OpR X (compareOp .NotIn) (gInT true) := OpR_imp op_notIn_seq fun _ _ _ _ ⟨p, xs, a, b, c, d, e⟩ => ⟨p, xs, a, .inr (SqT.of b), c, d, e⟩
theorem lenL : CallR X (.builtin "len") gLenL := CallR_imp call_len_seq fun _ _ _ ⟨p, ys, a, b, c⟩ => ⟨p, ys, a, .inl (SqL.of b), c⟩
theorem lenT : CallR X (.builtin "len") gLenT := CallR_imp call_len_seq fun _ _ _ ⟨p, ys, a, b, c⟩ => ⟨p, ys, a, .inr (SqT.of b), c⟩
theorem lenS : CallR X (.builtin "len") gLenS := call_len_str
theorem listL : CallR X (.type "list") gListL := CallR_imp call_list_of fun _ _ _ ⟨p, ys, a, b, c⟩ => ⟨p, ys, a, .inl (SqL.of b), c⟩
theorem listT : CallR X (.type "list") gListT := CallR_imp call_list_of fun _ _ _ ⟨p, ys, a, b, c⟩ => ⟨p, ys, a, .inr (SqT.of b), c⟩
theorem tupL : CallR X (.type "tuple") gTupL := CallR_imp call_tuple_of fun _ _ _ ⟨p, ys, a, b, c⟩ => ⟨p, ys, a, .inl ⟨SqL.of b, c⟩⟩
theorem allL (hc : X.calm = true) : CallR X (.builtin "all") gAll := CallR_imp (cr_all hc) fun _ _ _ ⟨a, bs, x, y, z⟩ => ⟨a, bs, x, SqL.of y, z⟩
end
/-- truth -/
def gTru (x : V) (H : Hp) (k : Bool) : Prop := match x with
  | .non => k = false
  | .bl b => k = b
  | .int i => k = (i != 0)
  | .ref p => (∃ xs, H p = some (.lst xs) ∧ k = !xs.isEmpty) ∨ (∃ xs, H p = some (.tup xs) ∧ k = !xs.isEmpty) ∨ ∃ kvs, H p = some (.dK kvs) ∧ k = !kvs.isEmpty
  | _ => False
def fTru (ta : TE) : TT := fun σ H Q => ta σ H fun x H' => ∃ k, gTru x H' k ∧ Q k H'
theorem tru_up {K : PySem.W.Frag} : ∀ {x : V} {H : Hp} {k : Bool}, gTru x H k → TruV K x H k
  | .non, _, _, h => h
  | .bl _, _, _, h => h
  | .int _, _, _, h => h
  | .ref p, _, _, h => by
    rcases h with ⟨xs, a, b⟩ | ⟨xs, a, b⟩ | h
    · exact .inl ⟨xs, SqL.of a, b⟩
    · exact .inr (.inl ⟨xs, SqT.of a, b⟩)
    · exact .inr (.inr h)
theorem pt_tru {X : Cx} {a : Expr} {ta : TE} (ha : PE X a ta) (he : ∀ whole, isTrue a X.env whole = (do let v ← whole; standAt a.pos; holding [v] (truthy v)) := by intro _; rfl) : PT X a (fTru ta) :=
  PT_imp (pt_truth (PE_mo ha) he) fun _ _ _ h => ⟨_, h, fun _ _ ⟨k, z, q⟩ => ⟨k, tru_up z, q⟩⟩
/-! ### methods of built-in types -/
def gTy (T : String) (x : V) (H : Hp) : Prop := match x with
  | .str _ => T = "str"
  | .int _ => T = "int"
  | .ref p => (T = "list" ∧ ∃ xs, H p = some (.lst xs)) ∨ (T = "dict" ∧ ∃ kvs, H p = some (.dK kvs))
  | _ => False
theorem ty_up {K : PySem.W.Frag} {T : String} : ∀ {x : V} {H : Hp}, gTy T x H → tyV K T x H
  | .str _, _, h => h
  | .int _, _, h => h
  | .ref p, _, h => by
    rcases h with ⟨a, xs, b⟩ | ⟨a, xs, b⟩
    · exact .inl ⟨a, xs, SqL.of b⟩
    · exact .inr (.inr (.inl ⟨a, .inl ⟨xs, b⟩⟩))
def fBM0 (T : String) (r : V → List V → Hp → VK → Prop) (to : TE) : TE := fun σ H Q => to σ H fun x H1 => gTy T x H1 ∧ r x [] H1 Q
def fBM (T : String) (r : V → List V → Hp → VK → Prop) (to : TE) (t : TA) : TE := fun σ H Q => to σ H fun x H1 => gTy T x H1 ∧ t σ H1 fun xs H2 => r x xs H2 Q
section
variable {X : Cx} {o e : Expr} {es : List Expr} {to : TE} {t : TA} {name : Str} {apos cpos : Pos} {T id : String} {r : V → List V → Hp → VK → Prop}
theorem pe_bm0C (pa : PlainAttrs T) (slot : Slot T name id) (hty : typeOf (.builtin id) = pure (.type "method_descriptor")) (hm : MtR X id r) (ho : PE X o to)
    (hbase : attributeBase o name X.env (eval o X.env) = eval o X.env := by rfl) (hline : (apos.endLine == cpos.line) = true := by rfl) : PE X (.Call (.Attribute o name apos) [] [] cpos) (fBM0 T r to) :=
  PE_imp (pe_bm0 pa slot hty hm (PE_mo ho) hbase hline) fun _ _ _ h => ⟨_, h, fun _ _ ⟨a, b⟩ => ⟨ty_up a, b⟩⟩
theorem pe_bmC (pa : PlainAttrs T) (slot : Slot T name id) (hty : typeOf (.builtin id) = pure (.type "method_descriptor")) (hm : MtR X id r) (ho : PE X o to) (ha : PA X (e :: es) t)
    (hbase : attributeBase o name X.env (eval o X.env) = eval o X.env := by rfl)
    (hfew : ((backTo cpos (starEach (e :: es) X.env)).all (fun x => !x.1) && (backToKw cpos (keywordEach [] X.env)).all (fun x => x.1.isSome)
      && decide ((e :: es).length + ([] : List Keyword).length + (if ([] : List Keyword).isEmpty then 0 else 1) < 30)) = true := by rfl)
    (hline : (apos.endLine == cpos.line) = true := by rfl) (hs : starEach (e :: es) X.env = (false, eval e X.env) :: starEach es X.env := by rfl) (hplain : (backTo cpos (starEach es X.env)).any (·.1) = false := by rfl) :
    PE X (.Call (.Attribute o name apos) (e :: es) [] cpos) (fBM T r to t) :=
  PE_imp (pe_bm pa slot hty hm (PE_mo ho) ha hbase hfew hline hs hplain) fun _ _ _ h => ⟨_, h, fun _ _ ⟨a, b⟩ => ⟨ty_up a, b⟩⟩
end
/-! ### walks, targets -/
def moA (t : TA) : TA := fun σ H Q => ∃ Q1 : List V → Hp → Prop, t σ H Q1 ∧ ∀ x H', Q1 x H' → Q x H'
theorem PA_mo {X : Cx} {es : List Expr} {t : TA} (h : PA X es t) : PA X es (moA t) := ⟨fun pos pins s σ H Q I q => by
  obtain ⟨Q1, q1, k⟩ := q
  exact thn (h.run pos pins s σ H Q1 I q1) fun u s' ⟨v, H', I', r, z⟩ => ⟨v, H', I', r, k v H' z⟩⟩
/-- what a loop over the list xs at a asks -/
def LoopL (g : TG) (tb : TS) (a : Addr) (xs : List V) (D : Ends) (σ : St) (H : Hp) : Prop :=
  ∃ Pv : Nat → St → Hp → Prop, Pv 0 σ H ∧ (∀ i σ H, i ≤ xs.length → Pv i σ H → H a = some (.lst xs)) ∧
    (∀ i x σ H, xs[i]? = some x → Pv i σ H → g x σ H fun σ2 H2 => tb { D with nx := Pv (i + 1), ct := Pv (i + 1), bk := D.nx } σ2 H2) ∧ ∀ σ H, Pv xs.length σ H → D.nx σ H
def LoopR (g : TG) (tb : TS) (lo : Int) (n : Nat) (D : Ends) (σ : St) (H : Hp) : Prop :=
  ∃ Pv : Nat → St → Hp → Prop, Pv 0 σ H ∧ (∀ (i : Nat) σ H, i < n → Pv i σ H → g (.int (lo + i)) σ H fun σ2 H2 => tb { D with nx := Pv (i + 1), ct := Pv (i + 1), bk := D.nx } σ2 H2) ∧ ∀ σ H, Pv n σ H → D.nx σ H
def fForL (tl : TE) (g : TG) (tb : TS) : TS := fun D σ H => tl σ H fun x H1 => ∃ a xs, x = .ref a ∧ H1 a = some (.lst xs) ∧ LoopL g tb a xs D σ H1
def fForT (tl : TE) (g : TG) (tb : TS) : TS := fun D σ H => tl σ H fun x H1 => ∃ a xs, x = .ref a ∧ H1 a = some (.tup xs) ∧
  ∃ Pv : Nat → St → Hp → Prop, Pv 0 σ H1 ∧ (∀ i σ H, i ≤ xs.length → Pv i σ H → H a = some (.tup xs)) ∧
    (∀ i x σ H, xs[i]? = some x → Pv i σ H → g x σ H fun σ2 H2 => tb { D with nx := Pv (i + 1), ct := Pv (i + 1), bk := D.nx } σ2 H2) ∧ ∀ σ H, Pv xs.length σ H → D.nx σ H
def fForS (tl : TE) (g : TG) (tb : TS) : TS := fun D σ H => tl σ H fun x H1 => ∃ z : Str, x = .str z ∧
  ∃ Pv : Nat → St → Hp → Prop, Pv 0 σ H1 ∧ (∀ (i c : Nat) σ H, z.cps.toList[i]? = some c → Pv i σ H → g (.str ⟨#[c]⟩) σ H fun σ2 H2 => tb { D with nx := Pv (i + 1), ct := Pv (i + 1), bk := D.nx } σ2 H2) ∧ ∀ σ H, Pv z.cps.size σ H → D.nx σ H
def fForR1 (ta : TA) (g : TG) (tb : TS) : TS := fun D σ H => ta σ H fun vs H1 => ∃ j : Int, vs = [.int j] ∧ -(2 ^ 62) ≤ j ∧ j < 2 ^ 62 ∧ LoopR g tb 0 j.toNat D σ H1
def fForR2 (ta : TA) (g : TG) (tb : TS) : TS := fun D σ H => ta σ H fun vs H1 => ∃ i j : Int, vs = [.int i, .int j] ∧ (-(2 ^ 62) ≤ i ∧ i < 2 ^ 62 ∧ -(2 ^ 62) ≤ j ∧ j < 2 ^ 62) ∧ LoopR g tb i (j - i).toNat D σ H1
section
variable {X : Cx} {tg iter a b : Expr} {body : List Stmt} {tl : TE} {ta : TA} {g : TG} {tb : TS} {pos p p2 : Pos}
theorem ps_forL (hp : PassesOwn (model X.prog X.w) X.A X.env X.xe) (hc : X.calm = true) (hl : PE X iter tl) (hg : PG X tg g) (hb : PSs X body tb) (hs : ∀ x, foldedSetIterable iter X.env x = pure x := by intro _; rfl) :
    PS X (.For tg iter body [] pos) (fForL tl g tb) :=
  PS_imp (ps_for hp hc (pi_list (PE_mo hl)) hg hb hs) fun _ _ _ h => ⟨_, h, fun _ _ ⟨a, xs, x1, x2, Pv, h0, hl, hs, hd⟩ => ⟨a, x1, ⟨xs, SqL.of x2⟩, for_list (xs := xs) Pv h0 (fun i σ H hi q => SqL.of (hl i σ H hi q)) hs hd⟩⟩
theorem ps_forT (hp : PassesOwn (model X.prog X.w) X.A X.env X.xe) (hc : X.calm = true) (hl : PE X iter tl) (hg : PG X tg g) (hb : PSs X body tb) (hs : ∀ x, foldedSetIterable iter X.env x = pure x := by intro _; rfl) :
    PS X (.For tg iter body [] pos) (fForT tl g tb) :=
  PS_imp (ps_for hp hc (pi_tup (PE_mo hl)) hg hb hs) fun _ _ _ h => ⟨_, h, fun _ _ ⟨a, xs, x1, x2, Pv, h0, hl, hs, hd⟩ => ⟨a, x1, ⟨xs, SqT.of x2⟩, for_tup (xs := xs) Pv h0 (fun i σ H hi q => SqT.of (hl i σ H hi q)) hs hd⟩⟩
theorem ps_forR1 (hp : PassesOwn (model X.prog X.w) X.A X.env X.xe) (hc : X.calm = true) (hg' : Gl X "range") (hm : X.mg "range" = none) (ha : PA X [a] ta) (hg : PG X tg g) (hb : PSs X body tb) (hs : starEach [a] X.env = [(false, eval a X.env)] := by rfl)
    (hs2 : ∀ x, foldedSetIterable (.Call (.Name "range" p) [a] [] p2) X.env x = pure x := by intro _; rfl) : PS X (.For tg (.Call (.Name "range" p) [a] [] p2) body [] pos) (fForR1 ta g tb) :=
  PS_imp (ps_for hp hc (pi_range1 hg' hm (PA_mo ha) hs) hg hb hs2) fun _ _ _ h => ⟨_, h, fun _ _ ⟨j, x1, x2, x3, Pv, h0, hs, hd⟩ => ⟨j, x1, x2, x3, for_range Pv h0 hs hd⟩⟩
theorem ps_forR2 (hp : PassesOwn (model X.prog X.w) X.A X.env X.xe) (hc : X.calm = true) (hg' : Gl X "range") (hm : X.mg "range" = none) (ha : PA X [a, b] ta) (hg : PG X tg g) (hb : PSs X body tb) (hs : starEach [a, b] X.env = [(false, eval a X.env), (false, eval b X.env)] := by rfl)
    (hs3 : starEach [b] X.env = [(false, eval b X.env)] := by rfl) (hs2 : ∀ x, foldedSetIterable (.Call (.Name "range" p) [a, b] [] p2) X.env x = pure x := by intro _; rfl) : PS X (.For tg (.Call (.Name "range" p) [a, b] [] p2) body [] pos) (fForR2 ta g tb) :=
  PS_imp (ps_for hp hc (pi_range2 hg' hm (PA_mo ha) hs hs3) hg hb hs2) fun _ _ _ h => ⟨_, h, fun _ _ ⟨i, j, x1, x2, Pv, h0, hs, hd⟩ => ⟨i, j, x1, x2, for_range Pv h0 hs hd⟩⟩
theorem ps_forS (hp : PassesOwn (model X.prog X.w) X.A X.env X.xe) (hc : X.calm = true) (hl : PE X iter tl) (hg : PG X tg g) (hb : PSs X body tb) (hs : ∀ x, foldedSetIterable iter X.env x = pure x := by intro _; rfl) :
    PS X (.For tg iter body [] pos) (fForS tl g tb) :=
  PS_imp (ps_for hp hc (pi_str (PE_mo hl)) hg hb hs) fun D σ H h => ⟨_, h, fun _ _ ⟨z, x1, Pv, h0, hs, hd⟩ => ⟨z, x1, for_it walk_str Pv h0 (fun _ _ _ _ _ => trivial) (fun i x σ H H' hi q ⟨e, c, hc, ev⟩ => by subst e ev; exact hs i c σ _ (by simpa using hc) q) hd⟩⟩
end
/-- (a, b) = a tuple -/
def fTup (n : Nat) (t : TGs) : TG := fun v σ H Q => ∃ a xs, v = .ref a ∧ H a = some (.tup xs) ∧ xs.length = n ∧ t xs σ H Q
theorem pg_tupC {X : Cx} {pos : Pos} {es : List Expr} {k : Nat} {t : TGs} {n : Nat} (hc : X.calm = true) (h : PGs X es t)
    (hn : (assignEach es X.env).length = n := by rfl) (hst : (assignEach es X.env).findIdx? (·.1) = none := by rfl) : PG X (.Tuple es k pos) (fTup n t) :=
  PG_imp (pg_tup hc h hn hst) fun _ _ _ _ ⟨a, xs, x1, x2, x3, x4⟩ => ⟨a, xs, x1, SqT.of x2, x3, x4⟩
/-! ### comprehensions -/
def moT (t : TT) : TT := fun σ H Q => ∃ Q1 : Bool → Hp → Prop, t σ H Q1 ∧ ∀ b H', Q1 b H' → Q b H'
def moG (g : TG) : TG := fun v σ H Q => ∃ Q1 : St → Hp → Prop, g v σ H Q1 ∧ ∀ σ' H', Q1 σ' H' → Q σ' H'
theorem PTs_mo {X : Cx} {ifs : List Expr} {t : TT} (h : PTs X ifs t) : PTs X ifs (moT t) := ⟨fun pins s σ H Q I q => by
  obtain ⟨Q1, q1, k⟩ := q
  exact thn (h.run pins s σ H Q1 I q1) fun b s' ⟨H', I', z⟩ => ⟨H', I', k b H' z⟩⟩
theorem PG_mo {X : Cx} {e : Expr} {g : TG} (h : PG X e g) : PG X e (moG g) := ⟨fun pins s σ H v u Q I r q => by
  obtain ⟨Q1, q1, k⟩ := q
  exact thn (h.run pins s σ H v u Q1 I r q1) fun _ s' ⟨σ', H', I', z⟩ => ⟨σ', H', I', k σ' H' z⟩⟩
/-- the word holds again, the new list still at D -/
def Nxt (I' : Hp) (D : Addr) (acc acc' : List V) (H : Hp) (R : Hp → List V → List (Addr × HO) → Prop) : Prop := ∃ I2 M2, Sub I' I2 ∧ W I2 H ((D, .lst acc) :: M2) ∧ R I2 acc' M2
theorem nxt {I' I2 H : Hp} {D : Addr} {acc acc' : List V} {R : Hp → List V → List (Addr × HO) → Prop} {M2 : List (Addr × HO)} (s : Sub I' I2) (w : W I2 H ((D, .lst acc) :: M2)) (r : R I2 acc' M2) : Nxt I' D acc acc' H R := ⟨I2, M2, s, w, r⟩
/-- what a comprehension asks: n turns, the i-th item told by item; src: what is walked stands; R: the word between two turns, of the turn, what does not change, the new list's items, what may change -/
def CompW (src : Hp → Prop) (n : Nat) (item : Nat → V → Prop) (g : TG) (tt : TT) (te : TE) (vs : List Nat) (σ : St) (H1 : Hp) (Q : VK) : Prop :=
  ∃ (I : Hp) (M : List (Addr × HO)) (R : Nat → Hp → List V → List (Addr × HO) → Prop), W I H1 M ∧ n ≤ 1000000 ∧ R 0 I [] M ∧
    (∀ i I' acc M' D H', R i I' acc M' → Sub I I' → W I' H' ((D, .lst acc) :: M') → src H') ∧
    (∀ D i x H' I' acc M', i < n → item i x → Sub I I' → W I' H' ((D, .lst acc) :: M') → R i I' acc M' → acc.length ≤ i → g x (wipe σ vs) H' fun σ2 H2 => wipe σ2 vs = wipe σ vs ∧ tt σ2 H2 fun b H3 =>
      if b = true then te σ2 H3 fun y H4 => Nxt I' D acc (acc ++ [y]) H4 (R (i + 1)) else Nxt I' D acc acc H3 (R (i + 1))) ∧
    ∀ D H' I' acc M', Sub I I' → W I' H' ((D, .lst acc) :: M') → R n I' acc M' → acc.length ≤ n → Q (.ref D) H'
def fLcL (tl : TE) (g : TG) (tt : TT) (te : TE) (vs : List Nat) : TE := fun σ H Q => tl σ H fun x H1 => ∃ a xs, x = .ref a ∧ H1 a = some (.lst xs) ∧ CompW (fun H => H a = some (.lst xs)) xs.length (fun i x => xs[i]? = some x) g tt te vs σ H1 Q
def fLcT (tl : TE) (g : TG) (tt : TT) (te : TE) (vs : List Nat) : TE := fun σ H Q => tl σ H fun x H1 => ∃ a xs, x = .ref a ∧ H1 a = some (.tup xs) ∧ CompW (fun H => H a = some (.tup xs)) xs.length (fun i x => xs[i]? = some x) g tt te vs σ H1 Q
def fLcS (tl : TE) (g : TG) (tt : TT) (te : TE) (vs : List Nat) : TE := fun σ H Q => tl σ H fun x H1 => ∃ z : Str, x = .str z ∧ CompW (fun _ => True) z.cps.size (fun i x => ∃ c, z.cps.toList[i]? = some c ∧ x = .str ⟨#[c]⟩) g tt te vs σ H1 Q
def fLcR1 (ta : TA) (g : TG) (tt : TT) (te : TE) (vs : List Nat) : TE := fun σ H Q => ta σ H fun us H1 => ∃ j : Int, us = [.int j] ∧ -(2 ^ 62) ≤ j ∧ j < 2 ^ 62 ∧ CompW (fun _ => True) j.toNat (fun i x => x = .int (i : Int)) g tt te vs σ H1 Q
theorem line_big : 1000000 < sizeLine := by rw [sizeLine_eq]; decide
section
variable {g : TG} {tt : TT} {te tl : TE} {ta : TA} {vs : List Nat} {σ : St} {H : Hp} {Q : VK} {K : PySem.W.Frag}
theorem comp_up {J : It} {n : Nat} {G : Hp → Prop} {Y : Nat → Hp → V → Hp → Prop} {src : Hp → Prop} {item : Nat → V → Prop} (w : Walk J n G Y) (hG : ∀ H, src H → G H) (hY : ∀ i H x H', i < n → src H → Y i H x H' → H' = H ∧ item i x) (h : CompW src n item g tt te vs σ H Q) : ∀ D, H D = none →
    ∃ W : Nat → Nat → Hp → Prop, (∃ m, W 0 m (upd H D (.lst []))) ∧ ∀ i m H, W i m H →
      (J.stop i H ∧ Q (.ref D) H) ∨ (J.go i H ∧ ∃ Nx : Hp → Prop, (∀ H', Nx H' → ∃ m', m' < m ∧ W (i + 1) m' H') ∧ ∀ x H', J.yld i H x H' → moG g x (wipe σ vs) H' fun σ2 H2 => wipe σ2 vs = wipe σ vs ∧ moT tt σ2 H2 fun b H3 =>
        if b = true then mo te σ2 H3 fun y H4 => ∃ acc, H4 D = some (.lst acc) ∧ acc.length < sizeLine ∧ Nx (upd H4 D (.lst (acc ++ [y]))) else Nx H3) := by
  intro D hD
  obtain ⟨I, M, R, w0, hn, r0, hsrc, hs, hd⟩ := h
  refine lc_it w (fun i H' => ∃ I' acc M', Sub I I' ∧ W I' H' ((D, .lst acc) :: M') ∧ R i I' acc M' ∧ acc.length ≤ i) ⟨I, [], M, Sub.refl I, w0.newM hD, r0, Nat.le_refl _⟩ (fun i H' _ ⟨I', acc, M', s, w1, r, _⟩ => hG _ (hsrc i I' acc M' D H' r s w1)) (fun i x H' H2 hi ⟨I', acc, M', s, w1, r, l⟩ y => ?_) fun H' ⟨I', acc, M', s, w1, r, l⟩ => hd D H' I' acc M' s w1 r l
  obtain ⟨rfl, it⟩ := hY i H' x H2 hi (hsrc i I' acc M' D _ r s w1) y
  refine ⟨_, hs D i x _ I' acc M' hi it s w1 r l, fun σ2 H3 ⟨e, q⟩ => ⟨e, _, q, fun b H4 q => ?_⟩⟩
  cases b with
  | true =>
    rw [if_pos rfl] at q ⊢
    refine ⟨_, q, fun y H5 ⟨I2, M2, s2, w2, r2⟩ => ⟨acc, w2.has.1, ?_, I2, acc ++ [y], M2, s.trans s2, w2.put, r2, ?_⟩⟩
    · have := line_big; omega
    · rw [List.length_append]; exact Nat.succ_le_succ l
  | false =>
    rw [if_neg (by decide)] at q ⊢
    obtain ⟨I2, M2, s2, w2, r2⟩ := q
    exact ⟨I2, acc, M2, s.trans s2, w2, r2, Nat.le_succ_of_le l⟩
theorem lcL_up (h : fLcL tl g tt te vs σ H Q) : tLc (iList K (mo tl)) (moG g) (moT tt) (mo te) vs σ H Q :=
  ⟨_, h, fun _ _ ⟨a, xs, x1, x2, k⟩ => ⟨a, x1, ⟨xs, SqL.of x2⟩, comp_up (walk_list (K := K) (a := a) (xs := xs)) (fun _ h => SqL.of h) (fun i H x H' _ h y => ⟨y.1, y.2⟩) k⟩⟩
theorem lcT_up (h : fLcT tl g tt te vs σ H Q) : tLc (iTup K (mo tl)) (moG g) (moT tt) (mo te) vs σ H Q :=
  ⟨_, h, fun _ _ ⟨a, xs, x1, x2, k⟩ => ⟨a, x1, ⟨xs, SqT.of x2⟩, comp_up (walk_tup (K := K) (a := a) (xs := xs)) (fun _ h => SqT.of h) (fun i H x H' _ h y => ⟨y.1, y.2⟩) k⟩⟩
theorem lcS_up (h : fLcS tl g tt te vs σ H Q) : tLc (iStr (mo tl)) (moG g) (moT tt) (mo te) vs σ H Q :=
  ⟨_, h, fun _ _ ⟨z, x1, k⟩ => ⟨z, x1, comp_up walk_str (fun _ _ => trivial) (fun i H x H' _ _ ⟨e, c, hc, ev⟩ => ⟨e, c, by simpa using hc, ev⟩) k⟩⟩
theorem lcR1_up (h : fLcR1 ta g tt te vs σ H Q) : tLc (iRng1 (moA ta)) (moG g) (moT tt) (mo te) vs σ H Q :=
  ⟨_, h, fun _ _ ⟨j, x1, x2, x3, k⟩ => ⟨j, x1, x2, x3, comp_up walk_range (fun _ _ => trivial) (fun i H x H' _ _ y => ⟨y.1, by rw [y.2]; simp⟩) k⟩⟩
end
section
variable {X : Cx}
abbrev Blk (X : Cx) (scope : Scope) (P : Cx → Prop) : Prop := ∀ (s : Shared) (H : Hp) (C : Addr) (cl : List (Str × Addr)) (fp : List Addr), P (X.blk s H scope (compEnvC scope cl C X.env) fp)
variable {elt tg iter e1 : Expr} {ifs : List Expr} {scope : Scope} {own : List (Str × Nat)} {pos p p2 : Pos} {g : TG} {tt : TT} {te tl : TE} {ta : TA}
theorem pe_lcL (hc : X.calm = true) (hN : X.N.Nodup) (hl : PE X iter tl) (ok : BlkOk X.N X.env.scope scope own) (hg : Blk X scope fun Y => PG Y tg g) (ht : Blk X scope fun Y => PTs Y ifs tt) (he : Blk X scope fun Y => PE Y elt te) (hs : ∀ x, foldedSetIterable iter X.env x = pure x := by intro _; rfl) :
    PE X (.ListComp elt [⟨tg, iter, ifs, 0⟩] scope pos) (fLcL tl g tt te (own.map (·.2))) := PE_imp (pe_lc hc hN (pi_list (PE_mo hl)) ok (fun a b c d e => PG_mo (hg a b c d e)) (fun a b c d e => PTs_mo (ht a b c d e)) (fun a b c d f => PE_mo (he a b c d f)) hs) fun _ _ _ h => lcL_up h
theorem pe_lcT (hc : X.calm = true) (hN : X.N.Nodup) (hl : PE X iter tl) (ok : BlkOk X.N X.env.scope scope own) (hg : Blk X scope fun Y => PG Y tg g) (ht : Blk X scope fun Y => PTs Y ifs tt) (he : Blk X scope fun Y => PE Y elt te) (hs : ∀ x, foldedSetIterable iter X.env x = pure x := by intro _; rfl) :
    PE X (.ListComp elt [⟨tg, iter, ifs, 0⟩] scope pos) (fLcT tl g tt te (own.map (·.2))) := PE_imp (pe_lc hc hN (pi_tup (PE_mo hl)) ok (fun a b c d e => PG_mo (hg a b c d e)) (fun a b c d e => PTs_mo (ht a b c d e)) (fun a b c d f => PE_mo (he a b c d f)) hs) fun _ _ _ h => lcT_up h
theorem pe_lcS (hc : X.calm = true) (hN : X.N.Nodup) (hl : PE X iter tl) (ok : BlkOk X.N X.env.scope scope own) (hg : Blk X scope fun Y => PG Y tg g) (ht : Blk X scope fun Y => PTs Y ifs tt) (he : Blk X scope fun Y => PE Y elt te) (hs : ∀ x, foldedSetIterable iter X.env x = pure x := by intro _; rfl) :
    PE X (.ListComp elt [⟨tg, iter, ifs, 0⟩] scope pos) (fLcS tl g tt te (own.map (·.2))) := PE_imp (pe_lc hc hN (pi_str (PE_mo hl)) ok (fun a b c d e => PG_mo (hg a b c d e)) (fun a b c d e => PTs_mo (ht a b c d e)) (fun a b c d f => PE_mo (he a b c d f)) hs) fun _ _ _ h => lcS_up h
theorem pe_lcR1 (hc : X.calm = true) (hN : X.N.Nodup) (hg' : Gl X "range") (hm : X.mg "range" = none) (ha : PA X [e1] ta) (ok : BlkOk X.N X.env.scope scope own) (hg : Blk X scope fun Y => PG Y tg g) (ht : Blk X scope fun Y => PTs Y ifs tt) (he : Blk X scope fun Y => PE Y elt te)
    (hs0 : starEach [e1] X.env = [(false, eval e1 X.env)] := by rfl) (hs : ∀ x, foldedSetIterable (.Call (.Name "range" p) [e1] [] p2) X.env x = pure x := by intro _; rfl) :
    PE X (.ListComp elt [⟨tg, .Call (.Name "range" p) [e1] [] p2, ifs, 0⟩] scope pos) (fLcR1 ta g tt te (own.map (·.2))) := PE_imp (pe_lc hc hN (pi_range1 hg' hm (PA_mo ha) hs0) ok (fun a b c d e => PG_mo (hg a b c d e)) (fun a b c d e => PTs_mo (ht a b c d e)) (fun a b c d f => PE_mo (he a b c d f)) hs) fun _ _ _ h => lcR1_up h
variable {i : Nat} {y : Str} {py spos : Pos}
theorem ps_lcL (hc : X.calm = true) (hN : X.N.Nodup) (hy : X.N[i]? = some y) (hyl : X.env.scope.names.lookup y = some .local) (hsw : swapsWith (.ListComp elt [⟨tg, iter, ifs, 0⟩] scope pos) (some (.Name y py)) spos.line X.env = pure true)
    (hl : PE X iter tl) (ok : BlkOk X.N X.env.scope scope own) (hg : Blk X scope fun Y => PG Y tg g) (ht : Blk X scope fun Y => PTs Y ifs tt) (he : Blk X scope fun Y => PE Y elt te) (hs : ∀ x, foldedSetIterable iter X.env x = pure x := by intro _; rfl) :
    PS X (.Assign [.Name y py] (.ListComp elt [⟨tg, iter, ifs, 0⟩] scope pos) spos) (tAsg (fLcL tl g tt te (own.map (·.2))) (gName i)) := PS_imp (ps_setLc hc hN hy hyl hsw (pi_list (PE_mo hl)) ok (fun a b c d e => PG_mo (hg a b c d e)) (fun a b c d e => PTs_mo (ht a b c d e)) (fun a b c d f => PE_mo (he a b c d f)) hs) fun _ _ _ h => lcL_up h
theorem ps_lcT (hc : X.calm = true) (hN : X.N.Nodup) (hy : X.N[i]? = some y) (hyl : X.env.scope.names.lookup y = some .local) (hsw : swapsWith (.ListComp elt [⟨tg, iter, ifs, 0⟩] scope pos) (some (.Name y py)) spos.line X.env = pure true)
    (hl : PE X iter tl) (ok : BlkOk X.N X.env.scope scope own) (hg : Blk X scope fun Y => PG Y tg g) (ht : Blk X scope fun Y => PTs Y ifs tt) (he : Blk X scope fun Y => PE Y elt te) (hs : ∀ x, foldedSetIterable iter X.env x = pure x := by intro _; rfl) :
    PS X (.Assign [.Name y py] (.ListComp elt [⟨tg, iter, ifs, 0⟩] scope pos) spos) (tAsg (fLcT tl g tt te (own.map (·.2))) (gName i)) := PS_imp (ps_setLc hc hN hy hyl hsw (pi_tup (PE_mo hl)) ok (fun a b c d e => PG_mo (hg a b c d e)) (fun a b c d e => PTs_mo (ht a b c d e)) (fun a b c d f => PE_mo (he a b c d f)) hs) fun _ _ _ h => lcT_up h
theorem ps_lcS (hc : X.calm = true) (hN : X.N.Nodup) (hy : X.N[i]? = some y) (hyl : X.env.scope.names.lookup y = some .local) (hsw : swapsWith (.ListComp elt [⟨tg, iter, ifs, 0⟩] scope pos) (some (.Name y py)) spos.line X.env = pure true)
    (hl : PE X iter tl) (ok : BlkOk X.N X.env.scope scope own) (hg : Blk X scope fun Y => PG Y tg g) (ht : Blk X scope fun Y => PTs Y ifs tt) (he : Blk X scope fun Y => PE Y elt te) (hs : ∀ x, foldedSetIterable iter X.env x = pure x := by intro _; rfl) :
    PS X (.Assign [.Name y py] (.ListComp elt [⟨tg, iter, ifs, 0⟩] scope pos) spos) (tAsg (fLcS tl g tt te (own.map (·.2))) (gName i)) := PS_imp (ps_setLc hc hN hy hyl hsw (pi_str (PE_mo hl)) ok (fun a b c d e => PG_mo (hg a b c d e)) (fun a b c d e => PTs_mo (ht a b c d e)) (fun a b c d f => PE_mo (he a b c d f)) hs) fun _ _ _ h => lcS_up h
theorem ps_lcR1 (hc : X.calm = true) (hN : X.N.Nodup) (hy : X.N[i]? = some y) (hyl : X.env.scope.names.lookup y = some .local) (hsw : swapsWith (.ListComp elt [⟨tg, .Call (.Name "range" p) [e1] [] p2, ifs, 0⟩] scope pos) (some (.Name y py)) spos.line X.env = pure true)
    (hg' : Gl X "range") (hm : X.mg "range" = none) (ha : PA X [e1] ta) (ok : BlkOk X.N X.env.scope scope own) (hg : Blk X scope fun Y => PG Y tg g) (ht : Blk X scope fun Y => PTs Y ifs tt) (he : Blk X scope fun Y => PE Y elt te)
    (hs0 : starEach [e1] X.env = [(false, eval e1 X.env)] := by rfl) (hs : ∀ x, foldedSetIterable (.Call (.Name "range" p) [e1] [] p2) X.env x = pure x := by intro _; rfl) :
    PS X (.Assign [.Name y py] (.ListComp elt [⟨tg, .Call (.Name "range" p) [e1] [] p2, ifs, 0⟩] scope pos) spos) (tAsg (fLcR1 ta g tt te (own.map (·.2))) (gName i)) := PS_imp (ps_setLc hc hN hy hyl hsw (pi_range1 hg' hm (PA_mo ha) hs0) ok (fun a b c d e => PG_mo (hg a b c d e)) (fun a b c d e => PTs_mo (ht a b c d e)) (fun a b c d f => PE_mo (he a b c d f)) hs) fun _ _ _ h => lcR1_up h
end
theorem sc_ii {i j : Int} : scal (.int i) (.int j) = true := rfl
theorem sc_ss {i j : Str} : scal (.str i) (.str j) = true := rfl
theorem sc_bb {i j : Bool} : scal (.bl i) (.bl j) = true := rfl
theorem sc_in {i : Int} : scal (.int i) .non = true := rfl
theorem sc_ni {i : Int} : scal .non (.int i) = true := rfl
theorem sc_ns {i : Str} : scal .non (.str i) = true := rfl
theorem sc_sn {i : Str} : scal (.str i) .non = true := rfl
theorem sc_nn : scal .non .non = true := rfl
end TA

set_option linter.all false
set_option maxHeartbeats 2000000
/-! Facts of the text by places; calls. -/
namespace TA
open PySem PySem.Spec L2
/-- what the text's errors must say -/
def excB (K : PySem.W.Frag) (D : Addr) : Bool :=
  He.eqO (PySem.W.findIn K (.ref D) "__getattribute__") (some (some (.builtin "BaseException.__getattribute__"))) && (He.eqO (PySem.W.findIn K (.ref D) "__getattr__") (some none) && (decide (PySem.W.subIn K (.ref D) (.type "BaseException") = some true) && (PySem.W.hasDictIn K D &&
    (He.eqO (PySem.W.findIn K (.ref D) "__class__") (some (some (.builtin "object.__class__"))) && (He.eqO (PySem.W.specialIn K (.builtin "object.__class__") "__get__") (some (some (.builtin "getset_descriptor.__get__"))) &&
      (decide (PySem.W.takesIn K (.builtin "object.__class__") = some true) && decide (PySem.W.mroIn K D (.type "object") = some true)))))))
theorem excB_ok {K : PySem.W.Frag} {D : Addr} (h : excB K D = true) : ExcC K D := by
  unfold excB at h
  simp only [Bool.and_eq_true, decide_eq_true_eq] at h
  obtain ⟨a, b, c, d, e, f, g, i⟩ := h
  exact ⟨He.eqO_ok a, He.eqO_ok b, c, d, He.eqO_ok e, He.eqO_ok f, g, i⟩
def kitB (K : PySem.W.Frag) (x y : Str) (b : Bool) : Bool := decide (PySem.W.kitOne K (.ref (He.ga K x)) (.ref (He.ga K y)) = some b)
def kitV (K : PySem.W.Frag) (x : Str) : Bool := decide (PySem.W.kitOne K (.ref (He.ga K x)) (.type "ValueError") = some true)
abbrev errs : List Str := ["BadText", "BadNumber", "BadAsk"]
def askB (K : PySem.W.Frag) (x : Str) : Bool := decide (PySem.W.exmOne K (.ref (He.ga K x)) (.ref (He.ga K "AskError")) = some true)
def isB (K : PySem.W.Frag) : Bool := (errs.all fun x => excB K (He.ga K x) && (kitV K x && errs.all fun y => kitB K x y (decide (x = y)))) && errs.all fun x => askB K x
/-- the text's own errors -/
def errV (K : PySem.W.Frag) : List Value := errs.map fun x => .ref (He.ga K x)
theorem errV_in {K : PySem.W.Frag} {x : Str} (h : x ∈ errs) : Value.ref (He.ga K x) ∈ errV K := List.mem_map.mpr ⟨x, h, rfl⟩
theorem errV_ok {K : PySem.W.Frag} (h : isB K = true) : ∀ v ∈ errV K, PySem.W.exmOne K v (.ref (He.ga K "AskError")) = some true := by
  intro v hv
  obtain ⟨x, hx, rfl⟩ := List.mem_map.mp hv
  unfold isB at h
  rw [Bool.and_eq_true] at h
  exact of_decide_eq_true (List.all_eq_true.mp h.2 x hx)
/-- what the text has written, as the head tells it -/
structure TX (fa : List He.Fa) (K : PySem.W.Frag) (mg : Str → Option Value) (b : PySem.W.Frag → Bool := isB) : Prop where
  hp : ∃ h : Heap, K.In h ∧ h.Ns mainGlobals mg
  ok : ∀ f ∈ fa, f.ok K = true
  is : b K = true
section
variable {fa : List He.Fa} {K : PySem.W.Frag} {mg : Str → Option Value} {b : PySem.W.Frag → Bool}
theorem TX.f (T : TX fa K mg b) (i : Nat) {f : He.Fa} (h : fa[i]? = some f) : f.ok K = true := T.ok f (List.mem_of_getElem? h)
theorem TX.glo (T : TX fa K mg b) (i : Nat) {x : Str} (h : fa[i]? = some (.glo x) := by rfl) : mg x = some (.ref (He.ga K x)) := let ⟨_, X, G⟩ := T.hp; He.glo_ok X G (T.f i h)
theorem TX.free (T : TX fa K mg b) (i : Nat) {x : Str} (h : fa[i]? = some (.free x) := by rfl) : mg x = none := let ⟨_, X, G⟩ := T.hp; He.free_ok X G (T.f i h)
theorem TX.int (T : TX fa K mg b) (j : Nat) {x : Str} {i : Int} (h : fa[j]? = some (.int x i) := by rfl) : ∃ t, mg x = some (.int i t) := let ⟨_, X, G⟩ := T.hp; He.int_ok X G (T.f j h)
theorem TX.str (T : TX fa K mg b) (j : Nat) {x z : Str} (h : fa[j]? = some (.str x z) := by rfl) : ∃ t, mg x = some (.str z t) := let ⟨_, X, G⟩ := T.hp; He.str_ok X G (T.f j h)
theorem TX.cls (T : TX fa K mg b) (i : Nat) {x : Str} (h : fa[i]? = some (.cls x) := by rfl) : Cls K (He.ga K x) := He.cls_ok (T.f i h)
theorem TX.noat (T : TX fa K mg b) (i : Nat) {x f : Str} (h : fa[i]? = some (.noat x f) := by rfl) : NoAttr K (He.ga K x) f := He.noat_ok (T.f i h)
theorem TX.meth (T : TX fa K mg b) (i : Nat) {x m : Str} (h : fa[i]? = some (.meth x m) := by rfl) : Meth K (He.ga K x) m (He.ma K (He.ga K x) m) := He.meth_ok (T.f i h)
theorem TX.mkr (T : TX fa K mg b) (i : Nat) {x : Str} (h : fa[i]? = some (.mkr x) := by rfl) : Mk K (He.ga K x) (He.ma K (He.ga K x) "__init__") := He.mkr_ok (T.f i h)
theorem TX.exc (T : TX fa K mg b) (i : Nat) {x : Str} (h : fa[i]? = some (.exc x) := by rfl) : PySem.W.excIn K (He.ga K x) He.veBase "ValueError.__new__" = true ∧ PySem.W.keepIn K (.ref (He.ga K x)) = true ∧ PySem.W.subIn K (.ref (He.ga K x)) (.type "BaseException") = some true ∧
    PySem.W.typeIn K (.ref (He.ga K x)) = some (.type "type") := He.exc_ok (T.f i h)
theorem TX.exm (T : TX fa K mg b) (i : Nat) {x y : Str} {b : Bool} (h : fa[i]? = some (.exm x y b) := by rfl) : PySem.W.exmOne K (.ref (He.ga K x)) (.ref (He.ga K y)) = some b := He.exm_ok (T.f i h)
end
/-- a constant of the module -/
theorem pe_cI {X : Cx} {x : Str} {i : Int} {pos : Pos} (h : ∃ t, X.mg x = some (.int i t)) (hg : Gl X x := by rfl) (hd : (x == ("__debug__" : Str)) = false := by decide) : PE X (.Name x pos) (tC (.int i)) := by
  obtain ⟨t, h⟩ := h
  exact pe_glob hg h ⟨t, rfl⟩ hd
theorem pe_cS {X : Cx} {x z : Str} {pos : Pos} (h : ∃ t, X.mg x = some (.str z t)) (hg : Gl X x := by rfl) (hd : (x == ("__debug__" : Str)) = false := by decide) : PE X (.Name x pos) (tC (.str z)) := by
  obtain ⟨t, h⟩ := h
  exact pe_glob hg h ⟨t, rfl⟩ hd
/-- a def that keeps its promise, as callers see it -/
def Cal (P : Program) (w : World) (K : PySem.W.Frag) (mg : Str → Option Value) (base : Heap) (k : Nat) (p : Str × Option Str) (ps : List Str) (sp : Sp) : Prop :=
  ∃ fd, FnOk P w K mg base (L2.CX P w) k (He.fAd K p) fd ps sp ∧ Binds K fd ps [] ∧ PySem.W.keepIn K (.ref (He.fAd K p)) = true
abbrev CalX (X : Cx) (k : Nat) (p : Str × Option Str) (ps : List Str) (sp : Sp) : Prop := Cal X.prog X.w X.K X.mg X.base k p ps sp
/-- what leaves a call leaves the def -/
abbrev Pss (X : Cx) (E : XK) : Prop := Passes (L2.CX X.prog X.w) X E
section
variable {X : Cx} {k : Nat} {ps : List Str} {sp : Sp} {E : XK} {x c m : Str} {p pos apos : Pos} {e o : Expr} {es : List Expr} {ta : TE} {t : TA}
theorem pe_cal (F : CalX X k (x, none) ps sp) (hr : Room k X.A) (hm : X.mg x = some (.ref (He.ga X.K x))) (hx : Pss X E) (ha : PA X (e :: es) t) (hg : Gl X x := by rfl) (hdb : (x == ("__debug__" : Str)) = false := by decide)
    (he : starEach (e :: es) X.env = (false, eval e X.env) :: starEach es X.env := by rfl) (hpl : (backTo pos (starEach es X.env)).any (·.1) = false := by rfl) :
    PE X (.Call (.Name x p) (e :: es) [] pos) (tCall sp [] E t) := by
  obtain ⟨fd, F, B, kp⟩ := F
  exact pe_call F hr hg hm kp B .nil hx ha hdb he hpl
theorem pe_cal0 (F : CalX X k (x, none) ps sp) (hr : Room k X.A) (hm : X.mg x = some (.ref (He.ga X.K x))) (hx : Pss X E) (hg : Gl X x := by rfl) (hdb : (x == ("__debug__" : Str)) = false := by decide) :
    PE X (.Call (.Name x p) [] [] pos) (tCall sp [] E tNil) := by
  obtain ⟨fd, F, B, kp⟩ := F
  exact pe_call0 F hr hg hm kp B .nil hx hdb
/-- o.m(e, ..) of an instance of the class named c -/
def fMeth (C : Addr) (m : Str) (sp : Sp) (E : XK) (ta : TE) (t : TA) : TE := tMeth C m sp [] E ta t
theorem pe_calM {pl : Sem Bool} (F : CalX X k (c, some m) ps sp) (cl : Cls X.K (He.ga X.K c)) (hm : Meth X.K (He.ga X.K c) m (He.ma X.K (He.ga X.K c) m)) (hr : Room k X.A) (hx : Pss X E) (he : PE X o ta) (ha : PA X (e :: es) t)
    (hst : starEach (e :: es) X.env = (false, eval e X.env) :: starEach es X.env := by rfl) (hpl : (backTo pos (starEach es X.env)).any (·.1) = false := by rfl)
    (ht : eval (.Call (.Attribute o m apos) (e :: es) [] pos) X.env = (do
      let ov ← eval o X.env
      standAt apos.atName
      let (f, first) ← holding [ov] (getMethod ov m pl)
      callWith pos f first (backTo pos (starEach (e :: es) X.env)) (backToKw pos (keywordEach [] X.env))) := by rfl) :
    PE X (.Call (.Attribute o m apos) (e :: es) [] pos) (fMeth (He.ga X.K c) m sp E ta t) := by
  obtain ⟨fd, F, B, kp⟩ := F
  exact pe_meth he cl hm F hr B .nil hx ha hst hpl ht
theorem pe_calM0 {pl : Sem Bool} (F : CalX X k (c, some m) ps sp) (cl : Cls X.K (He.ga X.K c)) (hm : Meth X.K (He.ga X.K c) m (He.ma X.K (He.ga X.K c) m)) (hr : Room k X.A) (hx : Pss X E) (he : PE X o ta)
    (ht : eval (.Call (.Attribute o m apos) [] [] pos) X.env = (do
      let ov ← eval o X.env
      standAt apos.atName
      let (f, first) ← holding [ov] (getMethod ov m pl)
      callWith pos f first (backTo pos (starEach [] X.env)) (backToKw pos (keywordEach [] X.env))) := by rfl) :
    PE X (.Call (.Attribute o m apos) [] [] pos) (fMeth (He.ga X.K c) m sp E ta tNil) := by
  obtain ⟨fd, F, B, kp⟩ := F
  exact pe_meth0 he cl hm F hr B .nil hx ht
def fMake (C : Addr) (sp : Sp) (E : XK) (t : TA) : TE := tMake C sp [] E t
theorem pe_calC (F : CalX X k (c, some "__init__") ps sp) (M : Mk X.K (He.ga X.K c) (He.ma X.K (He.ga X.K c) "__init__")) (hr : Room (k + 1) X.A) (hm : X.mg c = some (.ref (He.ga X.K c))) (hx : Pss X E) (ha : PA X (e :: es) t) (hg : Gl X c := by rfl)
    (hdb : (c == ("__debug__" : Str)) = false := by decide) (he : starEach (e :: es) X.env = (false, eval e X.env) :: starEach es X.env := by rfl) (hpl : (backTo pos (starEach es X.env)).any (·.1) = false := by rfl) :
    PE X (.Call (.Name c p) (e :: es) [] pos) (fMake (He.ga X.K c) sp E t) := by
  obtain ⟨fd, F, B, kp⟩ := F
  exact pe_make M F hr hg hm B .nil hx ha hdb he hpl
theorem pe_calC0 (F : CalX X k (c, some "__init__") ps sp) (M : Mk X.K (He.ga X.K c) (He.ma X.K (He.ga X.K c) "__init__")) (hr : Room (k + 1) X.A) (hm : X.mg c = some (.ref (He.ga X.K c))) (hx : Pss X E) (hg : Gl X c := by rfl)
    (hdb : (c == ("__debug__" : Str)) = false := by decide) : PE X (.Call (.Name c p) [] [] pos) (fMake (He.ga X.K c) sp E tNil) := by
  obtain ⟨fd, F, B, kp⟩ := F
  exact pe_make0 M F hr hg hm B .nil hx hdb
end
/-- raise X('..') -/
def fRaise (W : WX) (C : Addr) : TS := fun _ σ H => W (.ref C) none σ H
theorem ps_raiseC {X : Cx} {W : WX} {x m : Str} {j : Nat} {p p2 pos pos2 : Pos} (hc : X.calm = true) (tk : Takes X W)
    (q : PySem.W.excIn X.K (He.ga X.K x) He.veBase "ValueError.__new__" = true ∧ PySem.W.keepIn X.K (.ref (He.ga X.K x)) = true ∧ PySem.W.subIn X.K (.ref (He.ga X.K x)) (.type "BaseException") = some true ∧ PySem.W.typeIn X.K (.ref (He.ga X.K x)) = some (.type "type"))
    (hm : X.mg x = some (.ref (He.ga X.K x))) (hg : Gl X x := by rfl) (hdb : (x == ("__debug__" : Str)) = false := by decide) :
    PS X (.Raise (some (.Call (.Name x p) [.Constant (.str m) j p2] [] pos)) none pos2) (fRaise W (He.ga X.K x)) :=
  ps_raise hc tk (pmk_own PySem.F.excBase_ValueError q.1 hm q.2.1 (raises_own q.2.2.1 q.2.2.2) hg hdb)
/-! ### the def's rule -/
abbrev WD (E : XK) : WX := fun cls d _ H => E cls d H
section
variable {P : Program} {w : World} {K : PySem.W.Frag} {mg : Str → Option Value} {base : Heap} {d : He.DefD} {N ps : List Str} {k : Nat} {sp : Sp}
theorem takesD {CXx : Cx} {E : XK} (hs : CXx.stack = CXx.env :: CXx.outer) (hf : CXx.env.frame = some CXx.env.locals) (hex : CXx.ex = []) {E1 : Value → Shared → Prop}
    (hx : CXx.xe = fun e s' => wpAny (model CXx.prog CXx.w) CXx.A (leaving CXx.env e) (fun _ s'' => L2.CX CXx.prog CXx.w CXx.outer CXx.H_0 CXx.s_0 E e s'') E1 s') : Takes CXx (WD E) := takes_of hs hf hex hx
theorem passD {X : Cx} {E : XK} (tk : Takes X (WD E)) : Pss X E := passes_call tk fun _ _ _ _ h => h
/-- a def by its body's derivation (for every context of its frame) and its reading -/
theorem cal_of (hd : ∃ fd, FunD K d.name d.qual d.params d.body d.scope (d.dvs K) (d.kws K) (He.fAd K d.at_) fd) (h0 : d.dfl = [] := by rfl) (h1 : d.kwd = [] := by rfl) (S : FnScope N ps d.scope) (len : ∀ vs H Q E, sp vs H Q E → vs.length = ps.length)
    (hb : ∀ (kV doc pm : Value) (an : Option Addr) (cdv ct : Value) (us : List Value), us.length = ps.length → bindArgs (PySem.W.fnOf d.name d.qual d.params d.body d.scope .none kV doc pm an cdv ct) ⟨us, []⟩ = pure (ps.zip us))
    {t : XK → TS} (der : ∀ (cdv : Value) (A : Around) (outer : List Env) (s : Shared) (H : Hp) (E : XK), Room k (A.deeper (PyProof.Rows.envOfC d.qual d.scope s.heap.objs.size (He.fAd K d.at_) cdv)) →
      PSs (cxOf (L2.CX P w) P w K mg base N d.qual d.scope (He.fAd K d.at_) cdv A outer s H E) d.body (t E))
    (pure_ : ∀ vs H Q E, sp vs H Q E → t E { nx := fun _ H' => Q .non H', rt := Q } (start N vs) H) : Cal P w K mg base (k + 1) d.at_ ps sp := by
  obtain ⟨fd, F⟩ := hd
  have e0 : d.dvs K = [] := by unfold He.DefD.dvs; rw [h0]; rfl
  rw [e0] at F
  exact ⟨fd, F.ok S len fun cdv A outer s H vs Q E hr h => ⟨t E, der cdv A outer s H E hr, pure_ vs H Q E h⟩, F.bindsN hb, F.kp⟩
end
section
variable {P : Program} {w : World} {K : PySem.W.Frag} {mg : Str → Option Value} {base : Heap} {N : List Str} {q : Str} {sc : Scope} {f : Addr} {cdv : Value} {A : Around} {outer : List Env} {s : Shared} {H : Hp} {E : XK}
theorem tkOf : Takes (cxOf (L2.CX P w) P w K mg base N q sc f cdv A outer s H E) (WD E) := takes_of rfl rfl rfl rfl
theorem pxOf : Pss (cxOf (L2.CX P w) P w K mg base N q sc f cdv A outer s H E) E := passD tkOf
theorem poOf : PassesOwn (model P w) (cxOf (L2.CX P w) P w K mg base N q sc f cdv A outer s H E).A (cxOf (L2.CX P w) P w K mg base N q sc f cdv A outer s H E).env (cxOf (L2.CX P w) P w K mg base N q sc f cdv A outer s H E).xe := passes_of (X := cxOf (L2.CX P w) P w K mg base N q sc f cdv A outer s H E) rfl
end
theorem pxB {X : Cx} : Pss X E0 := passL
end TA

set_option linter.all false
set_option maxHeartbeats 2000000
/-! More rules over tracked objects. -/
namespace TA
open PySem PySem.Spec L2
def gLenK (K : PySem.W.Frag) : List V → Hp → VK → Prop := fun xs H Q => ∃ p ys, xs = [.ref p] ∧ SqL K H p ys ∧ Q (.int ys.length) H
def gCatS : R2 := fun x y H Q => ∃ i j : Str, x = .str i ∧ y = .str j ∧ i.length + j.length ≤ sizeLine ∧ Q (.str (i ++ j)) H
def gStrI : List V → Hp → VK → Prop := fun xs H Q => ∃ i : Int, xs = [.int i] ∧ i.natAbs.log2 < 1920 ∧ Q (.str (toString i)) H
def gIntB : List V → Hp → VK → Prop := fun xs H Q => ∃ k : Bool, xs = [.bl k] ∧ Q (.int (if k then 1 else 0)) H
def gOrd : List V → Hp → VK → Prop := fun xs H Q => ∃ x : Str, xs = [.str x] ∧ x.length = 1 ∧ Q (.int (x.cps.getD 0 0 : Nat)) H
def gMin2 : List V → Hp → VK → Prop := fun xs H Q => ∃ i j : Int, xs = [.int i, .int j] ∧ Q (.int (if j < i then j else i)) H
def gMax2 : List V → Hp → VK → Prop := fun xs H Q => ∃ i j : Int, xs = [.int i, .int j] ∧ Q (.int (if j > i then j else i)) H
def gInS : R2 := fun x y H Q => ∃ i j : Str, x = .str i ∧ y = .str j ∧ Q (.bl (!(Builtin.Str.occurrences j i 0 j.length 1).isEmpty)) H
def gNinS : R2 := fun x y H Q => ∃ i j : Str, x = .str i ∧ y = .str j ∧ Q (.bl (!(!(Builtin.Str.occurrences j i 0 j.length 1).isEmpty))) H
section
variable {X : Cx}
theorem lenK : CallR X (.builtin "len") (gLenK X.K) := CallR_imp call_len_seq fun _ _ _ ⟨p, ys, a, b, c⟩ => ⟨p, ys, a, .inl b, c⟩
theorem catS : OpR X (binaryOp .Add) gCatS := op_add_str
theorem strI : CallR X (.type "str") gStrI := call_str_int
theorem intB : CallR X (.type "int") gIntB := CallR_imp call_int1 fun _ _ _ h => .inr h
theorem ordS : CallR X (.builtin "ord") gOrd := call_ord
theorem min2 (hc : X.calm = true) : CallR X (.builtin "min") gMin2 := call_min2 hc
theorem max2 (hc : X.calm = true) : CallR X (.builtin "max") gMax2 := call_max2 hc
theorem inS : OpR X (compareOp .In) gInS := op_in_str
theorem ninS : OpR X (compareOp .NotIn) gNinS := op_notin_str
end
/-! ### data at any depth, over tracked objects -/
mutual
inductive Rp (H : Hp) : V → PyData → Prop
  | non : Rp H .non .none
  | bl (b : Bool) : Rp H (.bl b) (.bool b)
  | int (i : Int) : Rp H (.int i) (.int i)
  | str (x : Str) : Rp H (.str x) (.str x)
  | lst {a : Addr} {xs : List V} {ds : List PyData} : H a = some (.lst xs) → RpAll H xs ds → Rp H (.ref a) (.list ds)
  | tup {a : Addr} {xs : List V} {ds : List PyData} : H a = some (.tup xs) → RpAll H xs ds → Rp H (.ref a) (.tuple ds)
inductive RpAll (H : Hp) : List V → List PyData → Prop
  | nil : RpAll H [] []
  | cons {v : V} {vs : List V} {d : PyData} {ds : List PyData} : Rp H v d → RpAll H vs ds → RpAll H (v :: vs) (d :: ds)
end
mutual
theorem Rp.dp {K : PySem.W.Frag} {H : Hp} : ∀ {v : V} {d : PyData}, Rp H v d → Dp K H v d
  | _, _, .non => .non
  | _, _, .bl b => .bl b
  | _, _, .int i => .int i
  | _, _, .str x => .str x
  | _, _, .lst h r => .lst (SqL.of h) r.dp
  | _, _, .tup h r => .tup (SqT.of h) r.dp
theorem RpAll.dp {K : PySem.W.Frag} {H : Hp} : ∀ {vs : List V} {ds : List PyData}, RpAll H vs ds → DpAll K H vs ds
  | _, _, .nil => .nil
  | _, _, .cons h r => .cons h.dp r.dp
end
mutual
theorem Rp.mono {H H' : Hp} (e : ∀ b o, H b = some o → H' b = some o) : ∀ {v : V} {d : PyData}, Rp H v d → Rp H' v d
  | _, _, .non => .non
  | _, _, .bl b => .bl b
  | _, _, .int i => .int i
  | _, _, .str x => .str x
  | _, _, .lst h r => .lst (e _ _ h) (r.mono e)
  | _, _, .tup h r => .tup (e _ _ h) (r.mono e)
theorem RpAll.mono {H H' : Hp} (e : ∀ b o, H b = some o → H' b = some o) : ∀ {vs : List V} {ds : List PyData}, RpAll H vs ds → RpAll H' vs ds
  | _, _, .nil => .nil
  | _, _, .cons h r => .cons (h.mono e) (r.mono e)
end
mutual
theorem Rp.plain {H : Hp} : ∀ {v : V} {d : PyData}, Rp H v d → d.plain = true
  | _, _, .non => by simp [PyData.plain]
  | _, _, .bl b => by simp [PyData.plain]
  | _, _, .int i => by simp [PyData.plain]
  | _, _, .str x => by simp [PyData.plain]
  | _, _, .lst h r => by rw [PyData.plain]; exact r.plain
  | _, _, .tup h r => by rw [PyData.plain]; exact r.plain
theorem RpAll.plain {H : Hp} : ∀ {vs : List V} {ds : List PyData}, RpAll H vs ds → PyData.plainAll ds = true
  | _, _, .nil => by simp [PyData.plainAll]
  | _, _, .cons h r => by rw [PyData.plainAll, h.plain, r.plain]; rfl
end
def gEqD : R2 := fun x y H Q => ∃ d e, Rp H x d ∧ Rp H y e ∧ (d.depth ≤ 50 ∨ e.depth ≤ 50) ∧ Q (.bl (PyData.eqv d e)) H
def gNeD : R2 := fun x y H Q => ∃ d e, Rp H x d ∧ Rp H y e ∧ (d.depth ≤ 50 ∨ e.depth ≤ 50) ∧ Q (.bl (!PyData.eqv d e)) H
theorem eqD {X : Cx} (hu : X.A.units + 64 < cLine) : OpR X (compareOp .Eq) gEqD := by
  intro pins s σ H x y v u Q I rx ry ⟨d, e, r1, r2, h, q⟩
  obtain ⟨as, a1⟩ := Dp.reads I d x v r1.dp rx
  obtain ⟨bs, a2⟩ := Dp.reads I e y u r2.dp ry
  exact SeqAt.eq_plain a1 a2 r1.plain r2.plain (by omega) ⟨.bl _, _, I, rfl, q⟩
theorem neD {X : Cx} (hu : X.A.units + 64 < cLine) : OpR X (compareOp .NotEq) gNeD := by
  intro pins s σ H x y v u Q I rx ry ⟨d, e, r1, r2, h, q⟩
  obtain ⟨as, a1⟩ := Dp.reads I d x v r1.dp rx
  obtain ⟨bs, a2⟩ := Dp.reads I e y u r2.dp ry
  exact SeqAt.ne_plain a1 a2 r1.plain r2.plain (by omega) ⟨.bl _, _, I, rfl, q⟩
section
variable {x y : V} {H : Hp} {Q : VK} {d : PyData}
/-- the same data -/
theorem eqD_t (h1 : Rp H x d) (h2 : Rp H y d) (hd : d.depth ≤ 50) (q : Q (.bl true) H) : gEqD x y H Q := ⟨d, d, h1, h2, .inl hd, by rw [SeqAt.eqv_refl_plain d h1.plain]; exact q⟩
theorem neD_f (h1 : Rp H x d) (h2 : Rp H y d) (hd : d.depth ≤ 50) (q : Q (.bl false) H) : gNeD x y H Q := ⟨d, d, h1, h2, .inl hd, by rw [SeqAt.eqv_refl_plain d h1.plain]; exact q⟩
end
theorem depthAll_le {k : Nat} : ∀ {ds : List PyData}, (∀ d ∈ ds, d.depth ≤ k) → PyData.depthAll ds ≤ k
  | [], _ => by simp [PyData.depthAll]
  | d :: ds, h => by
    rw [PyData.depthAll]
    exact Nat.max_le.mpr ⟨h d List.mem_cons_self, depthAll_le fun e he => h e (List.mem_cons_of_mem _ he)⟩
theorem depth_list {k : Nat} {ds : List PyData} (h : ∀ d ∈ ds, d.depth ≤ k) : (PyData.list ds).depth ≤ k + 1 := by
  rw [PyData.depth]; exact Nat.succ_le_succ (depthAll_le h)
theorem depth_tuple {k : Nat} {ds : List PyData} (h : ∀ d ∈ ds, d.depth ≤ k) : (PyData.tuple ds).depth ≤ k + 1 := by
  rw [PyData.depth]; exact Nat.succ_le_succ (depthAll_le h)
end TA

set_option linter.all false
set_option maxHeartbeats 2000000
/-! sorted(xs), xs a list of data that are alike. -/
namespace TA
open PySem PySem.Spec L2
/-- x does not stand behind y -/
def dle (x y : PyData) : Bool := !PySem.W.dataLt y x
def gSortD : List V → Hp → VK → Prop := fun vs H Q => ∃ (a : Addr) (zs : List (V × PyData)), vs = [.ref a] ∧ H a = some (.lst (zs.map Prod.fst)) ∧ RpAll H (zs.map Prod.fst) (zs.map Prod.snd) ∧ PySem.W.AllAlike (zs.map Prod.snd) ∧ PySem.W.Sortable (zs.map Prod.snd) ∧
  (∀ z ∈ zs, z.2.depth ≤ 50) ∧ ∀ p, H p = none → Q (.ref p) (upd H p (.lst ((zs.mergeSort fun x y => dle x.2 y.2).map Prod.fst)))
theorem each_vals : ∀ {zs : List (V × PyData)} {us : List Value}, Vals (zs.map Prod.fst) us → PySem.W.EachIs (fun (v : Value) (z : V × PyData) => RelV z.1 v) us zs
  | [], _, .nil => .nil
  | _ :: _, _, .cons r t => .cons r (each_vals t)
theorem vals_each : ∀ {zs : List (V × PyData)} {us : List Value}, PySem.W.EachIs (fun (v : Value) (z : V × PyData) => RelV z.1 v) us zs → Vals (zs.map Prod.fst) us
  | _, _, .nil => .nil
  | _, _, .cons r t => .cons r (vals_each t)
theorem each_reads {X : Cx} {pins : List (Addr × Obj)} {σ : St} {H : Hp} {s : Shared} (I : Inv X pins σ H s) : ∀ {zs : List (V × PyData)} {us : List Value}, Vals (zs.map Prod.fst) us → RpAll H (zs.map Prod.fst) (zs.map Prod.snd) →
    PySem.W.EachIs (fun (v : Value) (z : V × PyData) => ∃ as, Reads s.heap v z.2 as) us zs
  | [], _, .nil, _ => .nil
  | _ :: _, _, .cons r t, .cons h k => .cons (Dp.reads I _ _ _ h.dp r) (each_reads I t k)
theorem each_snd {R : Value → PyData → Prop} : ∀ {zs : List (V × PyData)} {us : List Value}, PySem.W.EachIs (fun v (z : V × PyData) => R v z.2) us zs → PySem.W.EachIs R us (zs.map Prod.snd)
  | _, _, .nil => .nil
  | _, _, .cons r t => .cons r (each_snd t)
theorem each_at {R : Value → V × PyData → Prop} {S : Value → V × PyData → Prop} (f : ∀ v z, R v z → S v z) {zs : List (V × PyData)} {us : List Value} (h : PySem.W.EachIs R us zs) : PySem.W.EachIs S us zs := h.mono f
theorem each_in {R : Value → V × PyData → Prop} : ∀ {zs : List (V × PyData)} {us : List Value}, PySem.W.EachIs R us zs → PySem.W.EachIs (fun v z => R v z ∧ z ∈ zs) us zs
  | _, _, .nil => .nil
  | _, _, .cons r t => .cons ⟨r, List.mem_cons_self⟩ ((each_in t).mono fun _ _ q => ⟨q.1, List.mem_cons_of_mem _ q.2⟩)
theorem sortD {X : Cx} (hu : X.A.units + 64 < cLine) : CallR X (.builtin "sorted") gSortD := by
  intro pins s σ H vs us Q I r h
  obtain ⟨a, zs, rfl, hs, hr, hal, hsb, hdp, q⟩ := h
  obtain ⟨its, rv, hl, hz⟩ := I.list (SqL.of (K := X.K) hs)
  obtain ⟨u, rfl, ru⟩ := vals1 r
  obtain rfl : u = Value.ref a := ru
  have hlen : its.length ≤ sizeLine := by rw [← rv.length]; exact hz
  have rd := each_reads I rv hr
  let h2 := PySem.W.sortingHeap (PySem.W.copyHeap s.heap its) (s.heap.objs.size + 1) its
  have old : ∀ b o, s.heap.get? b = some o → h2.get? b = some o := fun b o e => PySem.W.sorting_copy_old e
  have rd2 : PySem.W.EachIs (fun (v : Value) (z : V × PyData) => ∃ as, Reads h2 v z.2 as) its zs := rd.mono fun v z ⟨as, e⟩ => ⟨as, PySem.W.reads_keeps old e⟩
  have S : PySem.W.SortsAt X.prog X.w X.A.in1.in1 { s with heap := h2 } (PySem.W.dataKind h2 (zs.map Prod.snd)) its := by
    refine PySem.W.SortsAt.data (each_snd rd2) hal hsb fun d hd => ?_
    obtain ⟨z, hz, rfl⟩ := List.mem_map.mp hd
    have := hdp z hz
    show X.A.units + 1 + 1 + _ < cLine
    omega
  refine PySem.W.sorted_vals hl.isList S hlen ?_
  have e : PySem.W.EachIs (fun (v : Value) (z : V × PyData) => RelV z.1 v) (PySem.W.sortVals (PySem.W.dataKind h2 (zs.map Prod.snd)) false its its) (zs.mergeSort (PySem.W.sortLe (PySem.W.dataKind h2 (zs.map Prod.snd)).toKeyOrd false fun z => PySem.W.keyToks z.2)) := by
    refine PySem.W.sortVals_each (κ := PySem.W.dataKind h2 (zs.map Prod.snd)) (fun z => PySem.W.keyToks z.2) (each_vals rv) ((each_in rd2).mono fun v z ⟨⟨as, e⟩, m⟩ => ?_)
    exact PySem.W.dataKind_some hal (List.mem_map.mpr ⟨z, m, rfl⟩) e
  have e2 : (zs.mergeSort (PySem.W.sortLe (PySem.W.dataKind h2 (zs.map Prod.snd)).toKeyOrd false fun z => PySem.W.keyToks z.2)) = zs.mergeSort fun x y => dle x.2 y.2 := rfl
  rw [e2] at e
  have v2 := vals_each e
  obtain ⟨n, hn⟩ := PyProof.Rows.sortedAll_at s.heap its (PySem.W.sortVals (PySem.W.dataKind h2 (zs.map Prod.snd)) false its its).toArray
  refine ⟨.ref _, upd H _ (.lst ((zs.mergeSort fun x y => dle x.2 y.2).map Prod.fst)), I.laid (t' := s.toks) (fun b o e => PyProof.Rows.sortedAll_old e) (Nat.le_succ _) ⟨?_, _, n, v2, hn⟩, rfl, q _ (I.hok.fresh (Nat.le_succ _))⟩
  have : ((zs.mergeSort fun x y => dle x.2 y.2).map Prod.fst).length = zs.length := by rw [List.length_map, List.length_mergeSort]
  rw [this]
  simpa using hz
end TA

set_option linter.all false
set_option maxHeartbeats 4000000
/-! An error that is caught, held by a name, and asked for its class later. -/
namespace TA
open PySem PySem.Spec L2 PyProof.Rows
abbrev Sl := L2.St
/-- a caught error of the class cls stands at a -/
def ExC (cls : Value) (a : Addr) : HO := .ext fun h => ∃ (oe : Obj) (vs : Array Value), h.get? a = some oe ∧ Zc cls none oe ∧ oe.data = .fields vs
theorem exC_ok {P : Program} {w : World} {H : Hp} {h : Heap} {a : Addr} {cls : Value} {oe : Obj} {vs : Array Value} (e : h.get? a = some oe) (z : Zc cls none oe) (d : oe.data = .fields vs) : ObjOk P w H h a (ExC cls a) :=
  ⟨⟨oe, vs, e, z, d⟩, ⟨oe, e⟩, fun _ _ ⟨o, v, q, z, d⟩ k => ⟨o, v, k o q, z, d⟩⟩
section
variable {X : Cx} {pins : List (Addr × Obj)} {σ : Sl} {H : Hp} {s : Shared}
/-- an object of ours that was not tracked may be tracked from now on -/
theorem inv_track (I : Inv X pins σ H s) {a : Addr} {o : HO} (new : ObjOk X.prog X.w (upd H a o) s.heap a o) (hn : H a = none) (h0 : X.s_0.heap.get? a = none) (hL : a ≠ X.env.locals) (hC : ∀ x c, X.env.cells.lookup x = some c → c ≠ a) (hp : ∀ p ∈ X.pn ++ pins, p.1 ≠ a) :
    Inv X pins σ (upd H a o) s where
  ok := I.ok
  os := I.os
  bare := I.bare
  base := by
    have B := I.base
    have ne : ∀ {b u}, H b = some u → b ≠ a := fun {b u} e z => by rw [z, hn] at e; cases e
    exact { keep := B.keep, slot := B.slot, there := B.there
            free := fun b ob q n x => by
              have : b ≠ a := fun z => by rw [z, h0] at q; cases q
              rw [upd_ne this]; exact B.free b ob q n x
            tups := fun b xs q => by have := B.tups b xs q; rw [upd_ne (ne this)]; exact this
            frzs := fun b ob u q => by have := B.frzs b ob u q; rw [upd_ne (ne this)]; exact this
            tbls := fun b ps q => by obtain ⟨m, z⟩ := B.tbls b ps q; exact ⟨m, by rw [upd_ne (ne z)]; exact z⟩ }
  loc := I.loc
  cell := I.cell
  free := by rw [upd_ne (Ne.symm hL)]; exact I.free
  freeC := fun x c q => by rw [upd_ne (hC x c q)]; exact I.freeC x c q
  pin := fun p q => by
    obtain ⟨x1, x2, x3⟩ := I.pin p q
    exact ⟨x1, by rw [upd_ne (hp p q)]; exact x2, x3⟩
  hok := HOk.laidN I.hok (fun _ _ q => q) hn new
  len := I.len
end
/-- what «except x as n: y = n» wishes of an error of the body: j is y's slot, i is n's -/
def wHold (cs : List Value) (i j : Nat) (D : Ends) : WX := fun cls d σ H =>
  cls ∈ cs ∧ d = none ∧ ∀ a, H a = none → D.nx ((((σ.set i (some (.ref a))).set j (some (.ref a)))).set i none) (upd H a (ExC cls a))
section
variable {X : Cx} {x n y : Str} {c : Value} {i j : Nat} {body : List Stmt} {np pos pos' py pn' ps : Pos} {tb : WX → TS} {cs : List Value}
theorem ps_hold (hs : X.stack = X.env :: X.outer) (hf : X.env.frame = some X.env.locals) (hex : X.ex = []) (hN : X.N.Nodup) (hi : X.N[i]? = some n) (hj : X.N[j]? = some y) (hln : X.env.kindOf n = some .local) (hly : X.env.scope.names.lookup y = some .local) (hc : Names X x c) (hcs : ∀ v ∈ cs, PySem.W.exmOne X.K v c = some true)
    (hb : ∀ (W : WX) (pn : List (Addr × Obj)) (xe : Value → Shared → Prop), Takes (X.tr pn xe) W → PassesOwn (model X.prog X.w) X.A X.env xe → PSs (X.tr pn xe) body (tb W))
    (hd : (n == ("__debug__" : Str)) = false := by decide) (hcd : (n == ("__classdict__" : Str)) = false := by decide) (hsw : swapsWith (.Name n pn') (some (.Name y py)) ps.line X.env = pure false := by rfl) :
    PS X (.Try body [.ExceptHandler (some (.Name x np)) (some n) [.Assign [.Name y py] (.Name n pn') ps] pos'] [] [] pos) (fun D σ H => tb (wHold cs i j D) D σ H) := by
  refine ⟨fun pins s σ H D I h => ?_⟩
  have ok := I.ok
  refine wpAny_Try_except ?_
  let W := wHold cs i j D
  let hand := [ExceptHandler.ExceptHandler (some (.Name x np)) (some n) [.Assign [.Name y py] (.Name n pn') ps] pos']
  let xe : Value → Shared → Prop := fun e s₁ => wpAny (model X.prog X.w) X.A (noteFrame e X.env) (fun _ s₂ => wpAny (model X.prog X.w) X.A (setFlight e none) (fun _ s₃ => wpAny (model X.prog X.w) X.A (handleBy e X.env hand) (SP X pins D) X.xe s₃) X.xe s₂) X.xe s₁
  have tk : Takes (X.tr (X.pn ++ pins) xe) W := by
    intro u s' xx
    obtain ⟨a, B, sI, pins', σ', H', cls, d, rfl, J', nb, up, sky, na, os, ag, hm', rfl, go⟩ := xx
    have hm := hcs _ hm'
    have J : Inv X pins σ' H' sI := J'.ofTry ok
    have sky' : Sky B (X.env :: X.outer) a (Zc cls none) X.env.locals s'.heap := by rw [← hs]; exact sky
    refine Sky.land Zc.steady (by rw [ok.frames, hs]) hf sky' fun h3 fl up3 => ?_
    have J3 : Inv X pins σ' H' { s' with heap := h3 } := J.landed nb fl.1 (up.trans up3) os ag
    obtain ⟨oe, vs, he, hz, hdt⟩ := fl.there
    have nfr : a ∉ frs (X.env :: X.outer) := fun hm => by
      obtain ⟨_, o', e', hnf⟩ := fl.2.2.1.mem hm
      rw [he] at e'
      cases e'
      exact hnf _ hdt
    have nL : a ≠ X.env.locals := fun z => nfr (List.mem_filterMap.mpr ⟨X.env, List.mem_cons_self, by rw [hf, z]⟩)
    have nF : a ∉ X.fs := fun q => by
      obtain ⟨e, he, q⟩ := List.mem_filterMap.mp q
      exact nfr (List.mem_filterMap.mpr ⟨e, List.mem_cons_of_mem _ he, q⟩)
    have out : sI.heap.get? a = none := by
      cases q : sI.heap.get? a with
      | none => rfl
      | some o => have := nb a o q (by rw [hs]; exact nfr); rw [fl.2.1] at this; cases this
    have out0 : X.s_0.heap.get? a = none := by
      cases q : X.s_0.heap.get? a with
      | none => rfl
      | some o => obtain ⟨o', q'⟩ := J.base.there a o q (by rw [hex]; simp); rw [out] at q'; cases q'
    have outC : ∀ x c, X.env.cells.lookup x = some c → c ≠ a := fun x c q z => by
      obtain ⟨v, oc, hoc, _⟩ := J.cell x c q
      rw [z, out] at hoc; cases hoc
    have outP : ∀ p ∈ X.pn ++ pins, p.1 ≠ a := fun p q z => by
      have := (J.pin p q).1
      rw [z, out] at this; cases this
    have S3 := J3.suite he hdt na nL nF
    refine wpAny_handleBy_cons (codeAny_handlers_test ?_) (by intro q; cases q)
    have LT : PySem.W.Looks (model X.prog X.w) h3 (typeOf (.ref a)) cls := fun A Q E s k q => wpAny_typeOf_ref (k _ _ he) (by rw [hz.1]; exact q)
    have LM := PySem.W.exm_one (M := model X.prog X.w) (J3.kIn) LT hm
    have test : ∀ {Q : Value → Shared → Prop} {E : Value → Shared → Prop}, Q c { s' with heap := h3 } → wpAny (model X.prog X.w) (X.A.mark (some (.ref a))) (eval (.Name x np) X.env) Q E { s' with heap := h3 } := fun {Q E} q => by
      obtain ⟨g1, g2, m | ⟨m, v, nn⟩⟩ := hc
      · exact ld_glob (X := X.suite a ((a, oe) :: (X.pn ++ pins))) S3 g1 m q g2
      · exact ld_blt (X := X.suite a ((a, oe) :: (X.pn ++ pins))) S3 g1 m v q nn g2
    refine test (LM.here ?_)
    refine codeAny_handlers_suite_as ?_
    refine HandSPX.lands_againZ fl fun h4 fl4 up4 => ?_
    have J4 : Inv X pins σ' H' { s' with heap := h4 } := J.landed nb fl4.1 ((up.trans up3).trans up4) os ag
    obtain ⟨oe4, vs4, he4, hz4, hd4⟩ := fl4.there
    have S4 := J4.suite he4 hd4 na nL nF
    refine store_ok (X := X.suite a ((a, oe4) :: (X.pn ++ pins))) (v := .ref a) S4 hN hi (.inl hln) rfl (fun s5 S5 => ?_) (.inr hln)
    have run := (pss_one (ps_set (X := X.suite a ((a, oe4) :: (X.pn ++ pins))) (i := j) (x := y) (pos := ps) (pos' := py) hN hj (.inl hly) (pe_var (i := i) (x := n) (pos := pn') hi (.inl hln) hd hcd) hsw (.inr hly))).run [] s5 _ H'
      { nx := fun σ6 H6 => σ6 = ((σ'.set i (some (.ref a))).set j (some (.ref a))) ∧ H6 = H', rt := fun _ _ => False } S5 ⟨.ref a, by rw [List.getElem?_set_self (by rw [J.len]; exact (List.getElem?_eq_some_iff.mp hi).1)], rfl, rfl⟩
    refine wpAny_mono run (fun f s6 hsp => ?_) (fun _ _ z => False.elim z)
    cases f with
    | next =>
      obtain ⟨σ6, H6, S6, rfl, rfl⟩ := hsp
      have at6 : s6.heap.get? a = some oe4 := (S6.pin (a, oe4) (List.mem_append_left _ List.mem_cons_self)).1
      have J6 : Inv X pins _ _ s6 := S6.unsuite ok
      have J7 := inv_track J6 (o := ExC cls a) (exC_ok at6 hz4 hd4) na out0 nL outC outP
      exact gone_ok J7 hN hi hln fun s7 J8 => ⟨_, _, J8, go a na⟩
    | brk => obtain ⟨_, _, _, q⟩ := hsp; exact False.elim q
    | cont => obtain ⟨_, _, _, q⟩ := hsp; exact False.elim q
    | ret u => obtain ⟨_, _, _, _, _, q⟩ := hsp; exact False.elim q
  refine wpAny_mono ((hb W (X.pn ++ pins) xe tk PassesOwn.looking).run [] s σ H D (I.toTry _) h) (fun f s1 hsp => ?_) (fun e s1 he => he)
  cases f with
  | next => obtain ⟨σ', H', J', q⟩ := hsp; exact wpAny_execs_nil ⟨σ', H', J'.ofTry ok, q⟩
  | brk => obtain ⟨σ', H', J', q⟩ := hsp; exact ⟨σ', H', J'.ofTry ok, q⟩
  | cont => obtain ⟨σ', H', J', q⟩ := hsp; exact ⟨σ', H', J'.ofTry ok, q⟩
  | ret u => obtain ⟨v, σ', H', J', r, q⟩ := hsp; exact ⟨v, σ', H', J'.ofTry ok, r, q⟩
end
end TA

set_option linter.all false
set_option maxHeartbeats 4000000
/-! isinstance of a held error; count, index of flat items. -/
namespace TA
open PySem PySem.Spec L2 PyProof.Rows
/-- isinstance(e, c), e a held error of one of the classes of tab -/
def gIs (c : V) (tab : List (Addr × Bool)) : List V → Hp → VK → Prop := fun xs H Q => ∃ (a D : Addr) (b : Bool), xs = [.ref a, c] ∧ H a = some (ExC (.ref D) a) ∧ (D, b) ∈ tab ∧ Q (.bl b) H
theorem isE {X : Cx} {c : V} {cv : Value} {tab : List (Addr × Bool)} (hc : ∀ u, RelV c u → u = cv) (ht : ∀ p ∈ tab, ExcC X.K p.1 ∧ PySem.W.kitOne X.K (.ref p.1) cv = some p.2) : CallR X (.builtin "isinstance") (gIs c tab) := by
  intro pins s σ H xs us Q I r h
  obtain ⟨a, D, b, rfl, ha, hm, q⟩ := h
  obtain ⟨u, w', rfl, ru, rw'⟩ := vals2 r
  obtain rfl : u = Value.ref a := ru
  obtain rfl := hc _ rw'
  obtain ⟨C, e⟩ := ht _ hm
  obtain ⟨⟨oe, vs, hget, hz, hv⟩, _, _⟩ := I.hok _ _ ha
  have J : PySem.W.InstAt s.heap a oe D none := by
    obtain ⟨oc, od, oda, osl⟩ := oe
    obtain ⟨h1, h2⟩ := hz
    dsimp only at h1 h2 hv
    subst h1 h2 hv
    exact ⟨hget, rfl, rfl, trivial⟩
  exact PySem.W.kia_one (PySem.W.handS_kitx_exc C.hg C.hk C.hs C.hd C.ha C.hn C.ht C.hm) I.kIn J e (fun z => nomatch z) fun tk => ⟨.bl b, H, I.kept (t' := tk) fun _ _ z => z, rfl, q⟩
/-- for a class y: which of the three errors are of it -/
def tabOf (K : PySem.W.Frag) (y : Str) : List (Addr × Bool) := errs.map fun x => (He.ga K x, decide (x = y))
def tabV (K : PySem.W.Frag) : List (Addr × Bool) := errs.map fun x => (He.ga K x, true)
theorem tabOf_ok {K : PySem.W.Frag} (h : isB K = true) {y : Str} (hy : y ∈ errs) : ∀ p ∈ tabOf K y, ExcC K p.1 ∧ PySem.W.kitOne K (.ref p.1) (.ref (He.ga K y)) = some p.2 := by
  intro p hp
  obtain ⟨x, hx, rfl⟩ := List.mem_map.mp hp
  unfold isB at h
  rw [Bool.and_eq_true] at h
  have h1 := List.all_eq_true.mp h.1 x hx
  simp only [Bool.and_eq_true] at h1
  have h2 := List.all_eq_true.mp h1.2.2 y hy
  exact ⟨excB_ok h1.1, of_decide_eq_true h2⟩
theorem tabV_ok {K : PySem.W.Frag} (h : isB K = true) : ∀ p ∈ tabV K, ExcC K p.1 ∧ PySem.W.kitOne K (.ref p.1) (.type "ValueError") = some p.2 := by
  intro p hp
  obtain ⟨x, hx, rfl⟩ := List.mem_map.mp hp
  unfold isB at h
  rw [Bool.and_eq_true] at h
  have h1 := List.all_eq_true.mp h.1 x hx
  simp only [Bool.and_eq_true] at h1
  exact ⟨excB_ok h1.1, of_decide_eq_true h1.2.1⟩
section
variable {X : Cx} {e : Expr} {te : TE} {p p2 pos : Pos} {y : Str}
/-- isinstance(e, C), isinstance(e, ValueError) -/
theorem pe_is (hi : isB X.K = true) (hy : y ∈ errs) (hm : X.mg "isinstance" = none) (hg' : X.mg y = some (.ref (He.ga X.K y))) (he : PE X e te) (hg : Gl X "isinstance" := by rfl) (hg2 : Gl X y := by rfl) (hdb : (y == ("__debug__" : Str)) = false := by decide)
    (h1 : starEach [e, .Name y p2] X.env = (false, eval e X.env) :: starEach [.Name y p2] X.env := by rfl) (h2 : starEach [.Name y p2] X.env = (false, eval (.Name y p2) X.env) :: starEach [] X.env := by rfl) (hpl : (backTo pos (starEach [.Name y p2] X.env)).any (·.1) = false := by rfl) :
    PE X (.Call (.Name "isinstance" p) [e, .Name y p2] [] pos) (tCB (gIs (.ref (He.ga X.K y)) (tabOf X.K y)) (tCons te (tCons (tC (.ref (He.ga X.K y))) tNil))) :=
  pe_callB (isE (fun _ r => r) (tabOf_ok hi hy)) hg hm (by decide +kernel) (pa_cons he (pa_cons (pe_glob hg2 hg' rfl hdb) pa_nil h2) h1) (by decide) (by decide) h1 hpl
theorem pe_isV (hi : isB X.K = true) (hm : X.mg "isinstance" = none) (hm' : X.mg "ValueError" = none) (he : PE X e te) (hg : Gl X "isinstance" := by rfl) (hg2 : Gl X "ValueError" := by rfl)
    (h1 : starEach [e, .Name "ValueError" p2] X.env = (false, eval e X.env) :: starEach [.Name "ValueError" p2] X.env := by rfl) (h2 : starEach [.Name "ValueError" p2] X.env = (false, eval (.Name "ValueError" p2) X.env) :: starEach [] X.env := by rfl) (hpl : (backTo pos (starEach [.Name "ValueError" p2] X.env)).any (·.1) = false := by rfl) :
    PE X (.Call (.Name "isinstance" p) [e, .Name "ValueError" p2] [] pos) (tCB (gIs (.ty "ValueError") (tabV X.K)) (tCons te (tCons (tC (.ty "ValueError")) tNil))) :=
  pe_callB (isE (fun _ r => r) (tabV_ok hi)) hg hm (by decide +kernel) (pa_cons he (pa_cons (pe_bltn hg2 hm' (by decide +kernel) (v := .ty "ValueError") rfl) pa_nil h2) h1) (by decide) (by decide) h1 hpl
end
/-! ### count, index -/
def gCnt : V → List V → Hp → VK → Prop := fun x xs H Q => ∃ (a : Addr) (ys : List V) (y : V), x = .ref a ∧ xs = [y] ∧ H a = some (.lst ys) ∧ flatV y = true ∧ ys.all flatV = true ∧ Q (.int ((ys.countP fun z => eqV z y : Nat) : Int)) H
theorem countP_eqU {y : V} : ∀ {ys : List V} {us : List Value}, Vals ys us → ys.all flatV = true → us.countP (eqU y) = ys.countP fun z => eqV z y
  | _, _, .nil, _ => rfl
  | z :: ys, u :: us, .cons r t, f => by
    rw [List.all_cons, Bool.and_eq_true] at f
    rw [List.countP_cons, List.countP_cons, countP_eqU t f.2, eqU_of r f.1]
theorem mtCnt {X : Cx} : MtR X "list.count" gCnt := by
  intro pins s σ H x xs v us Q I rx rxs h
  obtain ⟨a, ys, y, rfl, rfl, hs, fy, fys, q⟩ := h
  cases rx
  obtain ⟨u, rfl, ru⟩ := rxs.one
  obtain ⟨its, rv, ⟨⟨cls, dd, data, sl⟩, n, ho, hc, hdn, hd⟩, hlen⟩ := I.list (SqL.of (K := X.K) hs)
  simp only at hc hd
  subst hc hd
  refine call_meets PySem.F.slot_list_count ⟨_, ho, rfl⟩ PySem.F.entry_list_count (PySem.F.args_list_count_2 _ _) (SeqAt.list_countAt a its.toArray n dd sl u (eqU y)) ⟨ho, fun u' hu' => mem_eqAt ru fy rv fys u' (by simpa using hu'), ?_⟩
  refine ⟨.int ((ys.countP fun z => eqV z y : Nat) : Int), H, I.tok _, ⟨s.toks, ?_⟩, q⟩
  show Value.int ((its.toArray.toList.countP (eqU y) : Nat) : Int) s.toks = _
  rw [← countP_eqU (y := y) rv fys]
def gIdx : V → List V → Hp → VK → Prop := fun x xs H Q => ∃ (a : Addr) (ys : List V) (y : V) (j : Nat), x = .ref a ∧ xs = [y] ∧ H a = some (.lst ys) ∧ flatV y = true ∧ ys.all flatV = true ∧ (ys.findIdx? fun z => eqV z y) = some j ∧ Q (.int (j : Nat)) H
theorem mtIdx {X : Cx} : MtR X "list.index" gIdx := MtR_imp mt_index fun x xs H Q ⟨a, ys, y, j, h1, h2, h3, h4, h5, h6, h7⟩ => by
  obtain ⟨hj, p, k⟩ := List.findIdx?_eq_some_iff_getElem.mp h6
  refine ⟨a, ys, y, j, ys[j], h1, h2, SqL.of h3, h4, h5, List.getElem?_eq_getElem hj, p, fun m z' hm hz => ?_, h7⟩
  obtain ⟨hm', e⟩ := List.getElem?_eq_some_iff.mp hz
  have := k m hm
  rw [e] at this
  simpa using this
end TA

set_option linter.all false
set_option maxHeartbeats 4000000
/-! Calls within a try's body: what leaves them is wished for at the slots as they stand. -/
namespace TA
open PySem PySem.Spec L2 PyProof.Rows
section
variable {X : Cx} {k : Nat} {ps : List Str} {sp : Sp} {W : WX} {x c m : Str} {p pos apos : Pos} {e o : Expr} {es : List Expr} {ta : TE} {t : TA}
def fCallS (sp : Sp) (W : WX) (t : TA) : TE := fun σ H Q => t σ H fun vs H1 => sp vs H1 Q fun cls d H => W cls d σ H
def fMethS (C : Addr) (m : Str) (sp : Sp) (W : WX) (ta : TE) (t : TA) : TE := fun σ H Q => ta σ H fun x H1 => ∃ a dx fs, x = .ref a ∧ H1 a = some (.ins C dx fs) ∧ fs.lookup m = none ∧ t σ H1 fun vs H2 => sp (x :: vs) H2 Q fun cls d H => W cls d σ H
def fMakeS (C : Addr) (sp : Sp) (W : WX) (t : TA) : TE := fun σ H Q => t σ H fun vs H1 => ∀ x dx, H1 x = none → H1 dx = none → dx ≠ x →
  sp (.ref x :: vs) (upd (upd H1 dx (.own x)) x (.ins C dx [])) (fun v H2 => v = .non ∧ Q (.ref x) H2) fun cls d H => W cls d σ H
theorem pe_calS (F : CalX X k (x, none) ps sp) (hr : Room k X.A) (hm : X.mg x = some (.ref (He.ga X.K x))) (tk : Takes X W) (ha : PA X (e :: es) t) (hg : Gl X x := by rfl) (hdb : (x == ("__debug__" : Str)) = false := by decide)
    (he : starEach (e :: es) X.env = (false, eval e X.env) :: starEach es X.env := by rfl) (hpl : (backTo pos (starEach es X.env)).any (·.1) = false := by rfl) :
    PE X (.Call (.Name x p) (e :: es) [] pos) (fCallS sp W t) := by
  obtain ⟨fd, F, B, kp⟩ := F
  exact pe_callS F hr hg hm kp B (fun σ => passAt tk σ) ha hdb he hpl
theorem pe_calMS {pl : Sem Bool} (F : CalX X k (c, some m) ps sp) (cl : Cls X.K (He.ga X.K c)) (hm : Meth X.K (He.ga X.K c) m (He.ma X.K (He.ga X.K c) m)) (hr : Room k X.A) (tk : Takes X W) (he : PE X o ta) (ha : PA X (e :: es) t)
    (hst : starEach (e :: es) X.env = (false, eval e X.env) :: starEach es X.env := by rfl) (hpl : (backTo pos (starEach es X.env)).any (·.1) = false := by rfl)
    (ht : eval (.Call (.Attribute o m apos) (e :: es) [] pos) X.env = (do
      let ov ← eval o X.env
      standAt apos.atName
      let (f, first) ← holding [ov] (getMethod ov m pl)
      callWith pos f first (backTo pos (starEach (e :: es) X.env)) (backToKw pos (keywordEach [] X.env))) := by rfl) :
    PE X (.Call (.Attribute o m apos) (e :: es) [] pos) (fMethS (He.ga X.K c) m sp W ta t) := by
  obtain ⟨fd, F, B, kp⟩ := F
  refine ⟨fun pins s σ H Q I h => PySem.W.methodCall_KW (pl := pl) (thn (he.run pins s σ H _ I h) fun u s1 ⟨x, H1, I1, rx, a, dx, fs, ex, ea, l, q⟩ => ?_) ht⟩
  subst ex
  cases rx
  refine getmeth_ok I1 ea cl hm l (PySem.W.callWith_K (first := [.ref a]) (h₀ := X.base) I.ok.mod.kin hm.kp (thn (ha.run pos pins s1 σ H1 _ I1 q) fun us s2 ⟨vs, H2, I2, r, q2⟩ => ⟨I2.kIn, ?_⟩) hst hpl)
  exact run_fnS (E := WE W) (us := .ref a :: us) (vs := .ref a :: vs) F hr B (passAt tk σ) I2 (.cons rfl r) q2
theorem pe_calMS0 {pl : Sem Bool} (F : CalX X k (c, some m) ps sp) (cl : Cls X.K (He.ga X.K c)) (hm : Meth X.K (He.ga X.K c) m (He.ma X.K (He.ga X.K c) m)) (hr : Room k X.A) (tk : Takes X W) (he : PE X o ta)
    (ht : eval (.Call (.Attribute o m apos) [] [] pos) X.env = (do
      let ov ← eval o X.env
      standAt apos.atName
      let (f, first) ← holding [ov] (getMethod ov m pl)
      callWith pos f first (backTo pos (starEach [] X.env)) (backToKw pos (keywordEach [] X.env))) := by rfl) :
    PE X (.Call (.Attribute o m apos) [] [] pos) (fMethS (He.ga X.K c) m sp W ta tNil) := by
  obtain ⟨fd, F, B, kp⟩ := F
  refine ⟨fun pins s σ H Q I h => PySem.W.methodCall_KW (pl := pl) (thn (he.run pins s σ H _ I h) fun u s1 ⟨x, H1, I1, rx, a, dx, fs, ex, ea, l, q⟩ => ?_) ht⟩
  subst ex
  cases rx
  refine getmeth_ok I1 ea cl hm l (PySem.W.callWith_K0 (first := [.ref a]) I1.kIn hm.kp ?_)
  exact run_fnS (E := WE W) (us := [.ref a]) (vs := [.ref a]) F hr B (passAt tk σ) I1 (.cons rfl .nil) q
theorem run_makeS {f C : Addr} {fd : FuncData} {pins : List (Addr × Obj)} {σ : Sl} {H : Hp} {s : Shared} {Q : VK} {us : List Value} {vs : List V} (M : Mk X.K C f) (F : FnOk X.prog X.w X.K X.mg X.base (L2.CX X.prog X.w) k f fd ps sp) (hr : Room (k + 1) X.A) (hb : Binds X.K fd ps [])
    (tk : Takes X W) (I : Inv X pins σ H s) (r : Vals vs us)
    (h : ∀ x dx, H x = none → H dx = none → dx ≠ x → sp (.ref x :: vs) (upd (upd H dx (.own x)) x (.ins C dx [])) (fun v H2 => v = .non ∧ Q (.ref x) H2) fun cls d H => W cls d σ H) :
    wpAny (model X.prog X.w) X.A (call (.ref C) us) (EP X pins σ Q) X.xe s := by
  have q := h _ _ (I.hok.fresh (Nat.le_succ s.heap.objs.size)) (I.hok.fresh (Nat.le_refl _)) (Nat.ne_of_lt (Nat.lt_succ_self _))
  have J := Inv.made (C := C) I
  have rr : Vals (V.ref (s.heap.objs.size + 1) :: vs) (Value.ref (s.heap.objs.size + 1) :: us) := .cons rfl r
  have ll : (Value.ref (s.heap.objs.size + 1) :: us ++ []).length = ps.length := by rw [List.append_nil, ← rr.length, F.len _ _ _ _ q]
  have bb := hb _ (Value.ref (s.heap.objs.size + 1) :: us) J.kIn ll
  rw [List.append_nil] at bb
  refine wpAny_call (make_map (f := f) I.kIn M.makes M.init (beq_iff_eq.mp M.fn) (codeAny_mono (F.run _ X.stack _ _ _ _ _ _ _ (hr.make C us []) (J.env0.make C us []) bb rr q) fun r s' z => ?_))
  match r, z with
  | .error e, z => exact passAt tk σ pins _ _ e s' J z
  | .ok (.ret u), z =>
    obtain ⟨v, H', K', rv, ev, q3⟩ := J.after z
    subst ev
    exact ⟨rv, V.ref _, H', K', rfl, q3⟩
  | .ok .next, z => exact z.elim
  | .ok .brk, z => exact z.elim
  | .ok .cont, z => exact z.elim
theorem pe_calCS (F : CalX X k (c, some "__init__") ps sp) (M : Mk X.K (He.ga X.K c) (He.ma X.K (He.ga X.K c) "__init__")) (hr : Room (k + 1) X.A) (hm : X.mg c = some (.ref (He.ga X.K c))) (tk : Takes X W) (ha : PA X (e :: es) t) (hg : Gl X c := by rfl)
    (hdb : (c == ("__debug__" : Str)) = false := by decide) (he : starEach (e :: es) X.env = (false, eval e X.env) :: starEach es X.env := by rfl) (hpl : (backTo pos (starEach es X.env)).any (·.1) = false := by rfl) :
    PE X (.Call (.Name c p) (e :: es) [] pos) (fMakeS (He.ga X.K c) sp W t) := by
  obtain ⟨fd, F, B, kp⟩ := F
  refine ⟨fun pins s σ H Q I h => wpAny_Call_Name_kw (ld_glob I hg hm ?_ hdb)⟩
  exact PySem.W.callWith_K (h₀ := X.base) I.ok.mod.kin M.kp (thn (ha.run pos pins s σ H _ I h) fun us s1 ⟨vs, H1, I1, r, q⟩ => ⟨I1.kIn, run_makeS M F hr B tk I1 r q⟩) he hpl
end
end TA

set_option linter.all false
set_option maxHeartbeats 2000000
/-! The end: the law's own def. -/
namespace TA
open PySem PySem.Spec L2
section
variable {P : Program} {w : World} {K : PySem.W.Frag} {mg : Str → Option Value} {base : Heap} {k : Nat} {f : Addr} {fd : FuncData} {ps : List Str} {sp : Sp}
/-- a def that lets nothing out -/
theorem fnok0 (h : ∀ vs H Q E E', sp vs H Q E → sp vs H Q E') (F : FnOk P w K mg base (L2.CX P w) k f fd ps sp) : FnOk P w K mg base CX0 k f fd ps sp where
  len := F.len
  run := fun A outer s H args us vs Q E hr e0 hb r q => PySem.codeAny_mono (F.run A outer s H args us vs Q E0 hr e0 hb r (h vs H Q E E0 q)) fun r s' z => by
    cases r with
    | error e =>
      obtain ⟨_, _, _, _, _, _, _, _, _, _, _, _, f⟩ := z
      exact f.elim
    | ok fl =>
      cases fl with
      | ret u => exact z
      | next => exact z
      | brk => exact z
      | cont => exact z
/-- the law's def, its object known -/
theorem law_of {d : He.DefD} {N : List Str} (F : FunD K d.name d.qual d.params d.body d.scope (d.dvs K) (d.kws K) (He.fAd K d.at_) fd) (S : FnScope N ps d.scope) (len : ∀ vs H Q E, sp vs H Q E → vs.length = ps.length) (hE : ∀ vs H Q E E', sp vs H Q E → sp vs H Q E')
    {t : XK → TS} (der : ∀ (cdv : Value) (A : Around) (outer : List Env) (s : Shared) (H : Hp) (E : XK), Room k (A.deeper (PyProof.Rows.envOfC d.qual d.scope s.heap.objs.size (He.fAd K d.at_) cdv)) →
      PSs (cxOf (L2.CX P w) P w K mg base N d.qual d.scope (He.fAd K d.at_) cdv A outer s H E) d.body (t E))
    (pure_ : ∀ vs H Q E, sp vs H Q E → t E { nx := fun _ H' => Q .non H', rt := Q } (start N vs) H) : FnOk P w K mg base CX0 (k + 1) (He.fAd K d.at_) fd ps sp :=
  fnok0 hE (F.ok S len fun cdv A outer s H vs Q E hr h => ⟨t E, der cdv A outer s H E hr, pure_ vs H Q E h⟩)
/-- the text's facts, as the head's Hook tells them -/
theorem tx_of {fa : List He.Fa} {fn : List He.DefD} {h : Heap} {b : PySem.W.Frag → Bool} (X : K.In h) (G : h.Ns mainGlobals mg) (c : He.SaysX fa fn [] [] b w h K) : TX fa K mg b :=
  ⟨⟨h, X, G⟩, fun _ hf => He.SaysD.facts c.t.d hf, c.more⟩
end
end TA

set_option linter.all false
set_option maxHeartbeats 2000000
/-! Methods of texts. -/
namespace TA
open PySem PySem.Spec L2
def gJoin : V → List V → Hp → VK → Prop := fun x xs H Q => ∃ (a : Str) (p : Addr) (ys : List Str), x = .str a ∧ xs = [.ref p] ∧ H p = some (.lst (ys.map V.str)) ∧ (ys.map (·.length)).sum + ys.length * a.length ≤ 16777216 ∧ Q (.str (Txt.join a ys)) H
def gLower : V → List V → Hp → VK → Prop := fun x xs H Q => ∃ a : Str, x = .str a ∧ xs = [] ∧ a.length ≤ 5592405 ∧ Q (.str (Txt.lower a)) H
def gUpper : V → List V → Hp → VK → Prop := fun x xs H Q => ∃ a : Str, x = .str a ∧ xs = [] ∧ a.length ≤ 5592405 ∧ Q (.str (Txt.upper a)) H
def gSplit : V → List V → Hp → VK → Prop := fun x xs H Q => ∃ a b : Str, x = .str a ∧ xs = [.str b] ∧ (b.length == 0) = false ∧ a.length + 2 ≤ sizeLine ∧ ∀ p, H p = none → Q (.ref p) (upd H p (.lst ((Txt.split a b).map V.str)))
def gStarts : V → List V → Hp → VK → Prop := fun x xs H Q => ∃ a b : Str, x = .str a ∧ xs = [.str b] ∧ Q (.bl (Txt.startswith a b)) H
def gFind : V → List V → Hp → VK → Prop := fun x xs H Q => ∃ a b : Str, x = .str a ∧ xs = [.str b] ∧ Q (.int (Txt.find a b)) H
section
variable {X : Cx}
theorem mtJoin : MtR X "str.join" gJoin := MtR_imp mt_join fun _ _ _ _ ⟨a, p, ys, h1, h2, h3, h4, h5⟩ => ⟨a, p, ys, h1, h2, .inl (SqL.of h3), h4, h5⟩
theorem mtLower : MtR X "str.lower" gLower := mt_lower
theorem mtUpper : MtR X "str.upper" gUpper := mt_upper
theorem mtSplit : MtR X "str.split" gSplit := mt_split
theorem mtStarts : MtR X "str.startswith" gStarts := mt_startswith
theorem mtFind : MtR X "str.find" gFind := mt_find
end
/-- a text times a number -/
def gRepS : R2 := fun x y H Q => ∃ (i : Str) (n : Int), x = .str i ∧ y = .int n ∧ MulOk i n ∧ Q (.str (Txt.mul i n)) H
theorem repS {X : Cx} : OpR X (binaryOp .Mult) gRepS := by
  intro pins s σ H x y v u Q I rx ry h
  obtain ⟨i, j, rfl, rfl, hz, q⟩ := h
  obtain ⟨t, rfl⟩ := rx
  obtain ⟨t', rfl⟩ := ry
  exact SB.mul hz fun t' k => ⟨.str (Txt.mul i j), H, I.tok _, ⟨_, rfl⟩, q⟩
/-- a comprehension whose turns change nothing that stands -/
theorem comp_pure {src : Hp → Prop} {n : Nat} {item : Nat → V → Prop} {g : TG} {tt : TT} {te : TE} {vs : List Nat} {σ : Sl} {H : Hp} {Q : VK} {I : Hp} {M : List (Addr × HO)} (out : Nat → Option V) (w : W I H M) (hn : n ≤ 1000000)
    (hsrc : ∀ D acc H', W I H' ((D, .lst acc) :: M) → src H')
    (turn : ∀ D i x acc H' (T : VK) (F : Hp → Prop), i < n → item i x → W I H' ((D, .lst acc) :: M) → (∀ y H4, out i = some y → W I H4 ((D, .lst acc) :: M) → T y H4) → (∀ H3, out i = none → W I H3 ((D, .lst acc) :: M) → F H3) →
      g x (wipe σ vs) H' fun σ2 H2 => wipe σ2 vs = wipe σ vs ∧ tt σ2 H2 fun b H3 => if b = true then te σ2 H3 T else F H3)
    (fin : ∀ D H', W I H' ((D, .lst ((List.range n).filterMap out)) :: M) → Q (.ref D) H') : CompW src n item g tt te vs σ H Q := by
  refine ⟨I, M, fun i I' acc M' => I' = I ∧ M' = M ∧ acc = (List.range i).filterMap out, w, hn, ⟨rfl, rfl, rfl⟩, ?_, ?_, ?_⟩
  · rintro i I' acc M' D H' ⟨rfl, rfl, rfl⟩ _ w'
    exact hsrc D _ H' w'
  · rintro D i x H' I' acc M' hi hx _ w' ⟨rfl, rfl, rfl⟩ _
    refine turn D i x _ H' _ _ hi hx w' (fun y H4 e w4 => nxt (Sub.refl _) w4 ⟨rfl, rfl, ?_⟩) fun H3 e w3 => nxt (Sub.refl _) w3 ⟨rfl, rfl, ?_⟩
    · rw [List.range_succ, List.filterMap_append, List.filterMap_cons_some e]; rfl
    · rw [List.range_succ, List.filterMap_append, List.filterMap_cons_none e]
      exact (List.append_nil _).symm
  · rintro D H' I' acc M' _ w' ⟨rfl, rfl, rfl⟩ _
    exact fin D H' w'
/-- «== []» of a list -/
theorem eqD_nil {H : Hp} {D p : Addr} {xs : List V} {ds : List PyData} {Q : VK} (h : H D = some (.lst xs)) (r : RpAll H xs ds) (hp : H p = some (.lst [])) (q : Q (.bl xs.isEmpty) H) : gEqD (.ref D) (.ref p) H Q := by
  refine ⟨_, _, .lst h r, .lst hp .nil, .inr (by simp [PyData.depth, PyData.depthAll]), ?_⟩
  cases r with
  | nil => simpa [PyData.eqv, PyData.eqvAll] using q
  | cons a b => simpa [PyData.eqv, PyData.eqvAll] using q
theorem neD_nil {H : Hp} {D p : Addr} {xs : List V} {ds : List PyData} {Q : VK} (h : H D = some (.lst xs)) (r : RpAll H xs ds) (hp : H p = some (.lst [])) (q : Q (.bl (!xs.isEmpty)) H) : gNeD (.ref D) (.ref p) H Q := by
  refine ⟨_, _, .lst h r, .lst hp .nil, .inr (by simp [PyData.depth, PyData.depthAll]), ?_⟩
  cases r with
  | nil => simpa [PyData.eqv, PyData.eqvAll] using q
  | cons a b => simpa [PyData.eqv, PyData.eqvAll] using q
theorem rpAll_ints {H : Hp} : ∀ (ns : List Int), RpAll H (ns.map V.int) (ns.map PyData.int)
  | [] => .nil
  | n :: ns => .cons (.int n) (rpAll_ints ns)
theorem rpAll_strs {H : Hp} : ∀ (ns : List Str), RpAll H (ns.map V.str) (ns.map PyData.str)
  | [] => .nil
  | n :: ns => .cons (.str n) (rpAll_strs ns)
end TA

set_option linter.all false
set_option maxHeartbeats 2000000
/-! list.remove of texts; xs[::-1]. -/
namespace TA
open PySem PySem.Spec L2 PyProof.Rows
def fRev (te : TE) : TE := fun σ H Q => te σ H fun x H1 => ∃ a xs, x = .ref a ∧ H1 a = some (.lst xs) ∧ ∀ p, H1 p = none → Q (.ref p) (upd H1 p (.lst xs.reverse))
theorem revRange (n : Nat) : sliceRange (sliceBounds none none (some (-1)) n).1 (sliceBounds none none (some (-1)) n).2.1 (sliceBounds none none (some (-1)) n).2.2 = (List.range n).map fun k => n - 1 - k := by
  have e : sliceBounds none none (some (-1)) n = ((n : Int) - 1, -1, -1) := rfl
  rw [e]
  unfold sliceRange
  simp only []
  have e2 : (if (-1 : Int) > 0 then (if ((n : Int) - 1) < -1 then (-1 - ((n : Int) - 1) + -1 - 1) / -1 else 0) else (if ((n : Int) - 1) > -1 then ((n : Int) - 1 - -1 - -1 - 1) / (- -1) else 0)).toNat = n := by
    rw [if_neg (by decide)]
    split
    · rw [show (- -1 : Int) = 1 by decide, Int.ediv_one]; omega
    · omega
  rw [e2]
  refine List.map_congr_left fun k hk => ?_
  have := List.mem_range.mp hk
  omega
theorem fm_congr {α β : Type} {f g : α → Option β} : ∀ {l : List α}, (∀ a ∈ l, f a = g a) → l.filterMap f = l.filterMap g
  | [], _ => rfl
  | x :: l, h => by
    rw [List.filterMap_cons, List.filterMap_cons, h x List.mem_cons_self, fm_congr fun a ha => h a (List.mem_cons_of_mem _ ha)]
theorem pick_rev (items : List Value) : slicePick items.toArray none none (some (-1)) = items.reverse.toArray := by
  unfold slicePick
  rw [revRange, List.size_toArray]
  congr 1
  rw [List.filterMap_map]
  apply List.ext_getElem?
  intro i
  by_cases h : i < items.length
  · rw [List.getElem?_reverse h]
    have : List.filterMap ((fun x => items.toArray[x]?) ∘ fun k => items.length - 1 - k) (List.range items.length) = (List.range items.length).map fun k => items.getD (items.length - 1 - k) .none := by
      rw [← List.filterMap_eq_map]
      refine fm_congr fun k hk => ?_
      have := List.mem_range.mp hk
      simp only [Function.comp, List.getElem?_toArray]
      rw [List.getElem?_eq_getElem (by omega), List.getD_eq_getElem?_getD, List.getElem?_eq_getElem (by omega)]
      rfl
    rw [this, List.getElem?_map, List.getElem?_range h]
    simp
    rw [List.getElem?_eq_getElem (by omega)]; rfl
  · rw [List.getElem?_eq_none (l := items.reverse) (by simp; omega), List.getElem?_eq_none]
    exact Nat.le_trans (List.length_filterMap_le _ _) (by rw [List.length_range]; omega)
section
variable {X : Cx} {e st : Expr} {te ts : TE} {p2 pos : Pos}
theorem pe_rev (he : PE X e te) (hst : PE X st (tUn (rU fun i => .int (-i)) (tC (.int 1)))) : PE X (.Subscript e (.Slice none none (some st) p2) pos) (fRev te) := by
  refine ⟨fun pins s σ H Q I h => ?_⟩
  refine Subscript_ (thn (he.run pins s σ H _ I h) fun v s1 ⟨x, H1, I1, r1, a, xs, q0, q1, q2⟩ => ?_)
  refine wpAny_Slice ?_
  rw [evalPart_none]
  refine wpAny_pure (wpAny_pure ?_)
  rw [evalPart_some]
  refine thn (hst.run pins s1 σ H1 (fun x H2 => x = .int (-1) ∧ H2 = H1) I1 ⟨1, rfl, rfl, rfl⟩) fun u s2 ⟨x2, H2, I2, r2, e1, e2⟩ => ?_
  subst e1 e2 q0
  obtain ⟨t, rfl⟩ := r2
  cases r1
  have I4 : Inv X pins σ H2 { s2 with heap := s2.heap.push { cls := .type "slice", data := .fields #[.none, .none, .int (-1) t] } } := I2.kept (t' := s2.toks) fun b ob q => Heap.get?_push_of_some _ q
  show wpAny (model X.prog X.w) X.A (subscriptTail e (.Slice none none (some st) p2) (.ref a) (.ref s2.heap.objs.size)) (EP X pins σ Q) X.xe { s2 with heap := s2.heap.push { cls := .type "slice", data := .fields #[.none, .none, .int (-1) t] } }
  obtain ⟨its, r, ht, hz⟩ := I4.list (SqL.of (K := X.K) q1)
  refine tail_any (T := "list") (ops := [.ref a, .ref s2.heap.objs.size]) ht.isList.typeIs slot_list_getitem.lookup ?_ (by with_unfolding_all rfl)
  have hlen := r.length
  refine wpAny_getItem_list_slice ht.isList (Heap.IsSliceOf.new ..) .none .none (.int (-1) t) (by simp) ?_ (by rw [List.size_toArray] <;> omega)
  rw [pick_rev]
  refine ⟨.ref _, _, I4.laid (t' := s2.toks) (o := .lst xs.reverse) (fun b ob q => Heap.get?_push_of_some _ q) (Nat.le_refl _) ?_, rfl, q2 _ (I4.hok.fresh (Nat.le_refl _))⟩
  exact ⟨by rw [List.length_reverse]; exact hz, _, 0, r.reverse, Heap.get?_push_size _ rfl⟩
end
/-- xs.remove(a text that is in xs) -/
def gRemS : V → List V → Hp → VK → Prop := fun x xs H Q => ∃ (l : Addr) (ns : List Str) (k : Str), x = .ref l ∧ xs = [.str k] ∧ H l = some (.lst (ns.map V.str)) ∧ k ∈ ns ∧ Q .non (upd H l (.lst ((ns.erase k).map V.str)))
theorem strs_flat (ns : List Str) : (ns.map V.str).all flatV = true := by
  rw [List.all_map]; exact List.all_eq_true.mpr fun _ _ => rfl
theorem erase_idx {k : Str} : ∀ {ns : List Str}, k ∈ ns → ∃ j, j < ns.length ∧ ns[j]? = some k ∧ (∀ m : Nat, m < j → ns[m]? ≠ some k) ∧ ns.eraseIdx j = ns.erase k
  | [], h => by cases h
  | a :: r, h => by
    by_cases e : a = k
    · exact ⟨0, by simp, by rw [e]; rfl, fun m hm => by omega, by rw [e]; simp⟩
    · obtain ⟨j, h1, h2, h3, h4⟩ := erase_idx ((List.mem_cons.mp h).resolve_left fun z => e z.symm)
      refine ⟨j + 1, by simp; omega, by simpa using h2, fun m hm => ?_, ?_⟩
      · cases m with
        | zero => simp [e]
        | succ m => simpa using h3 m (by omega)
      · rw [List.eraseIdx_cons_succ, h4, List.erase_cons_tail (by simpa using e)]
theorem eqU_at {k : Str} : ∀ {ns : List Str} {us : List Value}, Vals (ns.map V.str) us → ∀ (m : Nat) (u : Value), us[m]? = some u → eqU (.str k) u = decide (ns[m]? = some k)
  | [], _, .nil, m, u, h => by simp at h
  | z :: ns, _, .cons r t, 0, u, h => by
    simp at h; subst h
    rw [eqU_of r rfl]
    show (z == k) = _
    rw [Bool.eq_iff_iff]; simp
  | z :: ns, _, .cons r t, m + 1, u, h => by
    have := eqU_at (k := k) t m u (by simpa using h)
    simpa using this
theorem erase_mapS : ∀ (l : List Str) (j : Nat), (l.map V.str).eraseIdx j = (l.eraseIdx j).map V.str
  | [], j => by simp
  | a :: r, 0 => by simp
  | a :: r, j + 1 => by
    have ih := erase_mapS r j
    simp [ih]
theorem mtRemS {X : Cx} : MtR X "list.remove" gRemS := by
  intro pins s σ H x xs v us Q I rx rxs h
  obtain ⟨a, ns, k, rfl, rfl, hH, hk, q⟩ := h
  cases rx
  obtain ⟨u, rfl, ru⟩ := rxs.one
  obtain ⟨j, j1, j2, j3, j4⟩ := erase_idx hk
  obtain ⟨z, its, n, r, hl, ho⟩ := I.lstM hH
  rw [List.length_map] at hl z
  have hjl : j < its.toArray.size := by rw [List.size_toArray]; omega
  have at_ : ∀ (m : Nat) (hm : m < its.toArray.size), eqU (.str k) its.toArray[m] = decide (ns[m]? = some k) := fun m hm => eqU_at r m _ (by simp)
  refine call_meets PySem.F.slot_list_remove ⟨_, ho, rfl⟩ PySem.F.entry_list_remove (PySem.F.args_list_remove_2 _ _) (SeqAt.list_removeAt a its.toArray n none #[] u (eqU (.str k)) j hjl ?_ ?_ (by rw [List.size_toArray]; omega)) ⟨ho, fun u' hu' => mem_eqAt ru rfl r (strs_flat ns) u' (by simpa using hu'), ?_⟩
  · rw [at_]; exact decide_eq_true j2
  · intro m hm hmj
    rw [at_]; exact decide_eq_false (j3 m hmj)
  · have rr := r.eraseIdx j
    have e2 : (ns.map V.str).eraseIdx j = (ns.erase k).map V.str := by rw [← j4, erase_mapS]
    rw [e2] at rr
    refine ⟨.non, _, I.lset (its' := its.eraseIdx j) (t' := s.toks) hH ho ?_ rr ?_, rfl, q⟩
    · show its.toArray.eraseIdxIfInBounds j = (its.eraseIdx j).toArray
      rw [List.eraseIdxIfInBounds_toArray]
    · rw [List.length_map]
      have := List.length_erase_le (a := k) (l := ns)
      omega
end TA

set_option linter.all false
set_option maxHeartbeats 2000000
/-! max of a list of data; list.pop(i). -/
namespace TA
open PySem PySem.Spec L2 PyProof.Rows
def maxOf : List PyData → PyData
  | [] => .none
  | x :: xs => PySem.W.maxD x xs
def gMaxD : List V → Hp → VK → Prop := fun vs H Q => ∃ (a : Addr) (zs : List (V × PyData)), vs = [.ref a] ∧ zs ≠ [] ∧ H a = some (.lst (zs.map Prod.fst)) ∧ RpAll H (zs.map Prod.fst) (zs.map Prod.snd) ∧ PySem.W.AlikeAll (zs.map Prod.snd) ∧
  (∀ z ∈ zs, z.2.depth ≤ 50) ∧ ∀ z ∈ zs, z.2 = maxOf (zs.map Prod.snd) → Q z.1 H
theorem depthAll_le' {k : Nat} {ds : List PyData} (h : ∀ d ∈ ds, d.depth ≤ k) : PyData.depthAll ds ≤ k := depthAll_le h
theorem maxD_mem : ∀ (xs : List PyData) (x : PyData), PySem.W.maxD x xs ∈ x :: xs
  | [], x => by simp [PySem.W.maxD]
  | y :: xs, x => by
    have e : PySem.W.maxD x (y :: xs) = PySem.W.maxD (if PySem.W.dataLt x y then y else x) xs := rfl
    rw [e]
    have := maxD_mem xs (if PySem.W.dataLt x y then y else x)
    split at this <;> rename_i h <;> simp only [h] <;> simp at this ⊢ <;> rcases this with q | q <;> simp [q]
theorem rpAll_reads {X : Cx} {pins : List (Addr × Obj)} {σ : Sl} {H : Hp} {s : Shared} (I : Inv X pins σ H s) : ∀ {vs : List V} {ds : List PyData} {us : List Value}, RpAll H vs ds → Vals vs us → ∃ as, ReadsAll s.heap us ds as
  | _, _, _, .nil, .nil => ⟨_, .nil⟩
  | _, _, _, .cons h t, .cons r rs => by
    obtain ⟨as, a1⟩ := Dp.reads I _ _ _ h.dp r
    obtain ⟨bs, b1⟩ := rpAll_reads I t rs
    exact ⟨_, .cons a1 b1⟩
theorem rpGet {H : Hp} : ∀ {vs : List V} {ds : List PyData} {i : Nat} {v : V}, RpAll H vs ds → vs[i]? = some v → ∃ d, ds[i]? = some d ∧ Rp H v d
  | _, _, _, _, .nil, h => by simp at h
  | _, _, 0, _, .cons r _, h => by simp at h; subst h; exact ⟨_, rfl, r⟩
  | _, _, i + 1, _, .cons _ t, h => by simpa using rpGet (i := i) t (by simpa using h)
theorem maxDl {X : Cx} (hc : X.calm = true) (hu : X.A.units + 64 < cLine) : CallR X (.builtin "max") gMaxD := by
  intro pins s σ H vs us Q I r h
  obtain ⟨a, zs, rfl, hne, hs, hr, hal, hdp, q⟩ := h
  obtain ⟨its, rv, hl, hz⟩ := I.list (SqL.of (K := X.K) hs)
  obtain ⟨u, rfl, ru⟩ := vals1 r
  obtain rfl : u = Value.ref a := ru
  obtain ⟨as, ra⟩ := rpAll_reads I hr rv
  match zs, hne with
  | z0 :: zs, _ =>
  have hdd : PyData.depthAll ((z0 :: zs).map Prod.snd) ≤ 50 := depthAll_le fun d hd => by
    obtain ⟨z, hz, rfl⟩ := List.mem_map.mp hd
    exact hdp z hz
  refine PySem.W.max_list_data (x := z0.2) (xs := zs.map Prod.snd) (as := as) (I.ok.hd hc) hl.isList (by simpa using ra) hal (by rw [List.map_cons] at hdd; omega) fun i v h' tk bs hv hrd hk => ?_
  have hv' : its[i]? = some v := by simpa using hv
  have hi : i < (z0 :: zs).length := by
    have := rv.length
    rw [List.length_map] at this
    rw [this]; exact (List.getElem?_eq_some_iff.mp hv').1
  have hzi : (z0 :: zs)[i]? = some (z0 :: zs)[i] := List.getElem?_eq_getElem hi
  obtain ⟨u2, hu2, ru2⟩ := rv.get (i := i) (x := (z0 :: zs)[i].1) (by rw [List.getElem?_map, hzi]; rfl)
  rw [hv'] at hu2
  cases hu2
  obtain ⟨d, hd, rd⟩ := rpGet hr (i := i) (v := (z0 :: zs)[i].1) (by rw [List.getElem?_map, hzi]; rfl)
  rw [List.getElem?_map, hzi] at hd
  cases hd
  obtain ⟨bs2, rd2⟩ := Dp.reads I _ _ _ rd.dp ru2
  have hin : (z0 :: zs)[i] ∈ z0 :: zs := List.getElem_mem hi
  have e := PySem.W.alike_unique _ _ v _ _ (hal.1 _ (List.mem_map.mpr ⟨_, hin, rfl⟩) (PySem.W.maxD z0.2 (zs.map Prod.snd)) (maxD_mem _ _)) (PySem.W.reads_keeps hk rd2) hrd
  exact ⟨_, H, I.kept hk, ru2, q _ hin e⟩
def gPopAt : V → List V → Hp → VK → Prop := fun x vs H Q => ∃ (l : Addr) (xs : List V) (k : Nat) (y : V), x = .ref l ∧ vs = [.int k] ∧ H l = some (.lst xs) ∧ xs.length ≤ 1000000 ∧ xs[k]? = some y ∧ Q y (upd H l (.lst (xs.eraseIdx k)))
theorem mtPopAt {X : Cx} : MtR X "list.pop" gPopAt := fun pins s σ H x xs v us Q I rx ry ⟨l, ys, k, y, h1, h2, h3, h4, h5, h6⟩ => by
  have hk : k < ys.length := (List.getElem?_eq_some_iff.mp h5).1
  refine mt_popAt pins s σ H x xs v us Q I rx ry ⟨l, ys, k, k, y, h1, h2, h3, by omega, by omega, ?_, h5, h6⟩
  unfold seqIndex?
  simp
  omega
end TA

set_option linter.all false
set_option maxHeartbeats 4000000
/-! Dicts with numbers as keys: keys(), list(..), sorted(..). -/
namespace TA
open PySem PySem.Spec L2 PyProof.Rows
/-- a view of the keys of the dict at d stands at v -/
def KwO (d v : Addr) : HO := .ext fun h => PySem.W.KdlKeysView h v d
theorem kw_new {P : Program} {w : World} {H : Hp} {h : Heap} {v d : Addr} (e : h.get? v = some { cls := .type "dict_keys", data := .fields #[.ref d] }) : ObjOk P w H h v (KwO d v) :=
  ⟨⟨_, e, rfl, rfl⟩, ⟨_, e⟩, fun _ _ ⟨o, q, z, d⟩ k => ⟨o, k o q, z, d⟩⟩
theorem kw_get {X : Cx} {pins : List (Addr × Obj)} {σ : Sl} {H : Hp} {s : Shared} {v d : Addr} (I : Inv X pins σ H s) (h : H v = some (KwO d v)) : PySem.W.KdlKeysView s.heap v d := (I.hok v _ h).1
def gKeys : V → List V → Hp → VK → Prop := fun x xs H Q => ∃ (a : Addr) (kvs : List (L2.Key × V)), x = .ref a ∧ xs = [] ∧ H a = some (.dK kvs) ∧ ∀ p, H p = none → Q (.ref p) (upd H p (KwO a p))
def gListK : List V → Hp → VK → Prop := fun xs H Q => ∃ (v a : Addr) (kvs : List (L2.Key × V)), xs = [.ref v] ∧ H v = some (KwO a v) ∧ H a = some (.dK kvs) ∧ ∀ p, H p = none → Q (.ref p) (upd H p (.lst (kvs.map fun kv => kV kv.1)))
section
variable {X : Cx}
theorem mtKeys : MtR X "dict.keys" gKeys := by
  intro pins s σ H x xs v us Q I rx rxs h
  obtain ⟨a, kvs, rfl, rfl, hd, q⟩ := h
  cases rx
  cases rxs
  obtain ⟨z, lo, vs, rel, dd⟩ := dk_of I.hok hd
  refine call_meetsIn PySem.F.slot_dict_keys dd.typeIs PySem.F.entry_dict_keys (PySem.F.args_dict_keys_1 _) (PySem.W.kdl_meets_keys (mixKind X.prog X.w) a lo) ⟨⟨vs, dd⟩, ?_⟩
  exact ⟨.ref s.heap.objs.size, _, I.laid (t' := s.toks) (o := KwO a s.heap.objs.size) (fun b ob q => Heap.get?_push_of_some _ q) (Nat.le_refl _) (kw_new (Heap.get?_push_size _ rfl)), rfl, q _ (I.hok.fresh (Nat.le_refl _))⟩
theorem listK (hcalm : X.calm = true) : CallR X (.type "list") gListK := by
  intro pins s σ H xs us Q I r q
  obtain ⟨v, a, kvs, ex, hv, hd, q⟩ := q
  subst ex
  obtain ⟨u, eu, rx⟩ := vals1 r
  subst eu
  cases rx
  obtain ⟨z, lo, vs, rel, dd⟩ := dk_of I.hok hd
  obtain ⟨ep, hat⟩ := dd.dictAt
  have ek : (kvs.map fun kv => kV kv.1) = vs.map fun p => kV p.1 := by
    have e := congrArg (List.map kV) rel.keys
    rw [List.map_map, List.map_map] at e
    exact e
  refine PySem.W.kdl_call (PySem.W.kdl_keys (knd := mixKind X.prog X.w) (kvs := vs) (ep := ep)) (I.ok.hd hcalm) ⟨kw_get I hv, hat⟩ (by rw [← rel.length]; exact z) fun h' tk acc c' hk hD hacc => ?_
  have hv : Vals (vs.map fun p => kV p.1) acc.toList := keys_at (by rw [Array.length_toList]; exact hacc.1) fun j v e => hacc.2 j v (by rw [← Array.getElem?_toList]; exact e)
  refine ⟨.ref s.heap.objs.size, upd H s.heap.objs.size (.lst (kvs.map fun kv => kV kv.1)), I.laid (t' := tk) hk (Nat.le_refl _)
    (show ObjOk X.prog X.w _ _ _ (.lst (kvs.map fun kv => kV kv.1)) from ⟨by rw [List.length_map]; exact z, acc.toList, c', by rw [ek]; exact hv, by rw [Array.toArray_toList]; exact hD⟩), rfl, q _ (I.hok.fresh (Nat.le_refl _))⟩
end
end TA

set_option linter.all false
set_option maxHeartbeats 4000000
/-! sorted(d.keys()) of numbers; more of dicts with numbers as keys. -/
namespace TA
open PySem PySem.Spec L2 PyProof.Rows PySem.Calls
theorem dle_int (a b : Int) : dle (.int a) (.int b) = decide (a ≤ b) := by
  unfold dle; rw [PySem.W.dataLt_int]; exact PySem.W.not_lt_int a b
/-- the items of what is walked, as numbers -/
def intZ (ns : List Int) : List (V × PyData) := ns.map fun n => (V.int n, PyData.int n)
theorem intZ_fst (ns : List Int) : (intZ ns).map Prod.fst = ns.map V.int := by unfold intZ; rw [List.map_map]; rfl
theorem intZ_snd (ns : List Int) : (intZ ns).map Prod.snd = ns.map PyData.int := by unfold intZ; rw [List.map_map]; rfl
theorem intZ_sort (ns : List Int) : ((intZ ns).mergeSort fun x y => dle x.2 y.2).map Prod.fst = (ns.mergeSort fun a b => decide (a ≤ b)).map V.int := by
  unfold intZ
  rw [← PySem.W.sort_maps (r := fun (a b : Int) => decide (a ≤ b)) (s := fun (x y : V × PyData) => dle x.2 y.2) (fun n : Int => (V.int n, PyData.int n)) fun a _ b _ => (dle_int a b).symm, List.map_map]
  rfl
def gSortK : List V → Hp → VK → Prop := fun xs H Q => ∃ (v a : Addr) (kvs : List (L2.Key × V)) (ns : List Int), xs = [.ref v] ∧ H v = some (KwO a v) ∧ H a = some (.dK kvs) ∧ (kvs.map fun kv => kV kv.1) = ns.map V.int ∧
  ∀ p, H p = none → Q (.ref p) (upd H p (.lst ((ns.mergeSort fun a b => decide (a ≤ b)).map V.int)))
theorem sortK {X : Cx} (hcalm : X.calm = true) (hu : X.A.units + 64 < cLine) : CallR X (.builtin "sorted") gSortK := by
  intro pins s σ H xs us Q I r q
  obtain ⟨v, a, kvs, ns, ex, hv, hd, hns, q⟩ := q
  subst ex
  obtain ⟨u, eu, rx⟩ := vals1 r
  subst eu
  cases rx
  obtain ⟨z, lo, vs, rel, dd⟩ := dk_of I.hok hd
  obtain ⟨ep, hat⟩ := dd.dictAt
  have ek : (kvs.map fun kv => kV kv.1) = vs.map fun p => kV p.1 := by
    have e := congrArg (List.map kV) rel.keys
    rw [List.map_map, List.map_map] at e
    exact e
  have hlen : ns.length = kvs.length := by have := congrArg List.length hns; simpa using this.symm
  refine call_function_entry kind_sorted plain_sorted entry_sorted (args_sorted1 _) ?_
  unfold Builtin.«sorted»
  refine wpAny_bind (m := checkCount "sorted" 1 1 _) (wpAny_pure ?_)
  refine wpAny_bind (PySem.W.kdu_collect (A := X.A.in1) (PySem.W.kdl_keys (knd := mixKind X.prog X.w) (kvs := vs) (ep := ep)) (I.ok.hd hcalm) ⟨kw_get I hv, hat⟩ (by rw [← rel.length]; exact z) fun h' tk acc hk hacc => ?_)
  have rv : Vals (vs.map fun p => kV p.1) acc.toList := keys_at (by rw [Array.length_toList]; exact hacc.1) fun j v e => hacc.2 j v (by rw [← Array.getElem?_toList]; exact e)
  rw [← ek, hns, ← intZ_fst] at rv
  have hal : acc.toList.length = ns.length := by rw [← rv.length, intZ_fst, List.length_map]
  have hL : acc.toList.length ≤ sizeLine := by rw [hal, hlen]; exact z
  refine wpAny_bind (wpAny_newList ?_ hL)
  have hat2 : (h'.push { cls := .type "list", data := .seq acc.toList.toArray }).get? h'.objs.size = some (seqObj "list" acc.toList.toArray 0) := Heap.get?_push_size _ rfl
  refine wpAny_bind (wpAny_holding (wpAny_call_entry_kw slot_list_sort ⟨_, hat2, rfl⟩ entry_list_sort ?body (args_list_sort _)))
  case body =>
    let h2 := PySem.W.sortingHeap (h'.push { cls := .type "list", data := .seq acc.toList.toArray }) h'.objs.size acc.toList
    have old : ∀ b o, s.heap.get? b = some o → h2.get? b = some o := fun b o e => PySem.W.sortingHeap_old (Nat.ne_of_lt (Heap.lt_size (hk _ _ e))) (Heap.get?_push_of_some _ (hk _ _ e))
    have hr : RpAll H ((intZ ns).map Prod.fst) ((intZ ns).map Prod.snd) := by rw [intZ_fst, intZ_snd]; exact rpAll_ints ns
    have rd := each_reads I rv hr
    have rd2 : PySem.W.EachIs (fun (v : Value) (z : V × PyData) => ∃ as, Reads h2 v z.2 as) acc.toList (intZ ns) := rd.mono fun v z ⟨as, e⟩ => ⟨as, PySem.W.reads_keeps old e⟩
    have hal2 : PySem.W.AllAlike ((intZ ns).map Prod.snd) := by
      rw [intZ_snd]; exact PySem.W.AllAlike.of fun a b => by simp [PySem.W.alike]
    have hsb : PySem.W.Sortable ((intZ ns).map Prod.snd) := by
      rw [intZ_snd]; exact PySem.W.Sortable.others fun a => ⟨by simp, fun xs => by simp⟩
    have S : PySem.W.SortsAt X.prog X.w X.A.in1.in1 { s with heap := h2, toks := tk } (PySem.W.dataKind h2 ((intZ ns).map Prod.snd)) acc.toList := by
      refine PySem.W.SortsAt.data (each_snd rd2) hal2 hsb fun d hd => ?_
      rw [intZ_snd] at hd
      obtain ⟨n, _, rfl⟩ := List.mem_map.mp hd
      show X.A.units + 1 + 1 + _ < cLine
      simp [PyData.depth]; omega
    show wpAny (model X.prog X.w) X.A.in1.in1 (Builtin.«list.sort» ⟨[.ref h'.objs.size], []⟩) _ _ _
    refine PySem.W.list_sort_vals (s := { s with heap := h'.push { cls := .type "list", data := .seq acc.toList.toArray }, toks := tk }) hat2 S hL ?_
    refine ⟨_, rfl, wpAny_pure ⟨_, rfl, ?_⟩⟩
    have e : PySem.W.EachIs (fun (v : Value) (z : V × PyData) => RelV z.1 v) (PySem.W.sortVals (PySem.W.dataKind h2 ((intZ ns).map Prod.snd)) false acc.toList acc.toList) ((intZ ns).mergeSort (PySem.W.sortLe (PySem.W.dataKind h2 ((intZ ns).map Prod.snd)).toKeyOrd false fun z => PySem.W.keyToks z.2)) := by
      refine PySem.W.sortVals_each (κ := PySem.W.dataKind h2 ((intZ ns).map Prod.snd)) (fun z => PySem.W.keyToks z.2) (each_vals rv) ((each_in rd2).mono fun v z ⟨⟨as, e⟩, m⟩ => ?_)
      exact PySem.W.dataKind_some hal2 (List.mem_map.mpr ⟨z, m, rfl⟩) e
    have e2 : ((intZ ns).mergeSort (PySem.W.sortLe (PySem.W.dataKind h2 ((intZ ns).map Prod.snd)).toKeyOrd false fun z => PySem.W.keyToks z.2)) = (intZ ns).mergeSort fun x y => dle x.2 y.2 := rfl
    rw [e2] at e
    have v2 := vals_each e
    rw [intZ_sort] at v2
    obtain ⟨n, hn⟩ := sortedHeap_at (out := (PySem.W.sortVals (PySem.W.dataKind h2 ((intZ ns).map Prod.snd)) false acc.toList acc.toList).toArray) hat2
    have I2 : Inv X pins σ H { s with heap := h', toks := tk } := I.kept hk
    refine ⟨.ref h'.objs.size, upd H h'.objs.size (.lst ((ns.mergeSort fun a b => decide (a ≤ b)).map V.int)), I2.laid (t' := tk) (fun b o e => ?_) (Nat.le_refl _) ⟨?_, _, n, v2, hn⟩, rfl, q _ (I2.hok.fresh (Nat.le_refl _))⟩
    · show (sortedHeap _ _ _ _).get? b = some o
      rw [sortedHeap_old (Nat.ne_of_lt (Heap.lt_size e)) (by rw [size_push']; exact Nat.lt_succ_of_lt (Heap.lt_size e))]
      exact Heap.get?_push_of_some _ e
    · rw [List.length_map, List.length_mergeSort, hlen]; exact z
/-! ### dicts with numbers as keys -/
def dI (kvs : List (Int × V)) : HO := .dK (kvs.map fun p => ((Sum.inl p.1 : L2.Key), p.2))
def lkI (kvs : List (Int × V)) (k : Int) : Option V := (kvs.find? fun p => decide (p.1 = k)).map (·.2)
def dropI (kvs : List (Int × V)) (k : Int) : List (Int × V) := kvs.filter fun p => !decide (p.1 = k)
theorem val_I (k : Int) : ∀ kvs : List (Int × V), valV (kvs.map fun p => ((Sum.inl p.1 : L2.Key), p.2)) (Sum.inl k) = lkI kvs k
  | [] => rfl
  | p :: r => by
    have ih := val_I k r
    unfold lkI at *
    by_cases h : p.1 = k
    · rw [List.map_cons, valV_pos (by rw [h]), List.find?_cons_of_pos (by simpa using h)]; rfl
    · rw [List.map_cons, valV_neg (by simpa using h), List.find?_cons_of_neg (by simpa using h)]; exact ih
theorem drop_I (k : Int) (kvs : List (Int × V)) : L2.dropK (kvs.map fun p => ((Sum.inl p.1 : L2.Key), p.2)) (Sum.inl k) = (dropI kvs k).map fun p => ((Sum.inl p.1 : L2.Key), p.2) := by
  unfold L2.dropK dropI
  rw [List.filter_map]
  congr 1
  refine List.filter_congr fun p _ => ?_
  by_cases h : p.1 = k <;> simp [h]
theorem drop_out {kvs : List (Int × V)} {k : Int} (h : lkI kvs k = none) : dropI kvs k = kvs := by
  unfold lkI at h
  unfold dropI
  rw [Option.map_eq_none_iff, List.find?_eq_none] at h
  exact List.filter_eq_self.mpr fun p hp => by simpa using h p hp
theorem upd_id {H : Hp} {a : Addr} {o : HO} (h : H a = some o) : upd H a o = H := by
  funext b
  by_cases e : b = a
  · subst e; rw [upd_same, h]
  · rw [upd_ne e]
def gGetI : R2 := fun x y H Q => ∃ a kvs k v, x = .ref a ∧ y = .int k ∧ H a = some (dI kvs) ∧ lkI kvs k = some v ∧ Q v H
def gInI : R2 := fun x y H Q => ∃ a kvs k, x = .int k ∧ y = .ref a ∧ H a = some (dI kvs) ∧ Q (.bl (lkI kvs k).isSome) H
def gLenI : List V → Hp → VK → Prop := fun xs H Q => ∃ p kvs, xs = [.ref p] ∧ H p = some (dI kvs) ∧ Q (.int kvs.length) H
def gPop1 : V → List V → Hp → VK → Prop := fun x xs H Q => ∃ a kvs k v, x = .ref a ∧ xs = [.int k] ∧ H a = some (dI kvs) ∧ lkI kvs k = some v ∧ Q v (upd H a (dI (dropI kvs k)))
def gPop2 : V → List V → Hp → VK → Prop := fun x xs H Q => ∃ a kvs k d, x = .ref a ∧ xs = [.int k, d] ∧ H a = some (dI kvs) ∧ Q ((lkI kvs k).getD d) (upd H a (dI (dropI kvs k)))
/-- d[k] = v, k new -/
def fPutI (td ty tv : TE) : TS := fun D σ H => tv σ H fun v H1 => td σ H1 fun x H2 => ty σ H2 fun y H3 => ∃ a kvs k, x = .ref a ∧ y = .int k ∧ H3 a = some (dI kvs) ∧ lkI kvs k = none ∧ kvs.length < sizeLine ∧ D.nx σ (upd H3 a (dI (kvs ++ [(k, v)])))
def fNewI : TE := fun _ H Q => ∀ p, H p = none → Q (.ref p) (upd H p (dI []))
def fGetI (td ty : TE) : TE := tOp gGetI td ty
section
variable {X : Cx} {o i value : Expr} {td ty tv : TE} {pos pos' : Pos}
theorem pe_newI : PE X (.Dict [] [] pos) fNewI := PE_imp pe_dnewK fun _ _ _ h => h
theorem pe_getI (hu : X.A.units + 64 < cLine) (ho : PE X o td) (hi : PE X i ty) (hs : NoSl i) : PE X (.Subscript o i pos) (fGetI td ty) :=
  PE_imp (pe_dget (by omega) (PE_mo ho) (PE_mo hi) hs) fun σ H Q h => ⟨_, h, fun x H1 h1 => ⟨_, h1, fun y H2 ⟨a, kvs, k, v, e1, e2, e3, e4, q⟩ => ⟨a, v, e1, .inl ⟨_, Sum.inl k, .inl e3, e2, by rw [val_I, e4]⟩, q⟩⟩⟩
theorem inI (hu : X.A.units + 64 < cLine) : OpR X (compareOp .In) gInI := by
  intro pins s σ H x y v u Q I rx ry h
  obtain ⟨a, kvs, k, rfl, rfl, hd, q⟩ := h
  cases ry
  refine d_in (by omega) I (DGet.k (k := Sum.inl k) hd) rx fun s' I' => ⟨.bl _, H, I', rfl, ?_⟩
  rw [val_I]; exact q
theorem lenI : CallR X (.builtin "len") gLenI := by
  intro pins s σ H xs us Q I r h
  obtain ⟨p, kvs, rfl, hd, q⟩ := h
  obtain ⟨u, rfl, ru⟩ := vals1 r
  cases ru
  refine d_len I (.inl hd) fun t s' I' => ⟨.int kvs.length, H, I', ⟨t, by rw [List.length_map]⟩, q⟩
theorem mtPop1 : MtR X "dict.pop" gPop1 := by
  intro pins s σ H x xs v us Q I rx rxs h
  obtain ⟨a, kvs, k, v', rfl, rfl, hd, hl, q⟩ := h
  cases rx
  obtain ⟨u, rfl, ru⟩ := rxs.one
  refine d_pop (k := Sum.inl k) I hd ru (by rw [val_I]; exact hl) (.inl rfl) fun w' s' I' rw' => ⟨v', _, I', rw', ?_⟩
  rw [drop_I]; exact q
theorem mtPop2 : MtR X "dict.pop" gPop2 := by
  intro pins s σ H x xs v us Q I rx rxs h
  obtain ⟨a, kvs, k, d, rfl, rfl, hd, q⟩ := h
  cases rx
  obtain ⟨u, u2, rfl, ru, ru2⟩ := rxs.two
  cases hl : lkI kvs k with
  | some v' =>
    rw [hl] at q
    refine d_pop (k := Sum.inl k) I hd ru (by rw [val_I]; exact hl) (.inr ⟨_, rfl⟩) fun w' s' I' rw' => ⟨v', _, I', rw', ?_⟩
    rw [drop_I]; exact q
  | none =>
    rw [hl, drop_out hl, upd_id hd] at q
    exact d_popD (k := Sum.inl k) I hd ru (by rw [val_I]; exact hl) fun s' I' => ⟨d, H, I', ru2, q⟩
theorem ps_putI (hu : X.A.units + 64 < cLine) (ho : PE X o td) (hi : PE X i ty) (hv : PE X value tv) (hs : swapsWith value (some (.Subscript o i pos')) pos.line X.env = pure false) : PS X (.Assign [.Subscript o i pos'] value pos) (fPutI td ty tv) :=
  PS_imp (ps_dput (by omega) (PE_mo ho) (PE_mo hi) (PE_mo hv) hs) fun D σ H h => ⟨_, h, fun v H1 h1 => ⟨_, h1, fun x H2 h2 => ⟨_, h2, fun y H3 ⟨a, kvs, k, e1, e2, e3, e4, e5, q⟩ => by
    refine ⟨a, _, e1, .inl ⟨_, Sum.inl k, e3, e2, by rw [List.length_map]; exact e5, rfl⟩, ?_⟩
    rw [putK_new v (by rw [val_I]; exact e4)]
    have : ((kvs.map fun p => ((Sum.inl p.1 : L2.Key), p.2)) ++ [(Sum.inl k, v)]) = (kvs ++ [(k, v)]).map fun p => ((Sum.inl p.1 : L2.Key), p.2) := by simp
    rw [this]; exact q⟩⟩⟩
end
end TA

set_option linter.all false
set_option maxHeartbeats 2000000
/-! Tuples: t[i:j], t + u. -/
namespace TA
open PySem PySem.Spec L2 PyProof.Rows
def gSlT : V → Option Int → Option Int → Hp → VK → Prop := fun x lo hi H Q => ∃ a xs, x = .ref a ∧ H a = some (.tup xs) ∧ ¬ (HT.sIx xs.length 0 lo = 0 ∧ HT.sIx xs.length xs.length hi = xs.length) ∧ ∀ p, H p = none → Q (.ref p) (upd H p (.tup (cutV xs lo hi)))
def gCatT : R2 := fun x y H Q => ∃ a b xs ys, x = .ref a ∧ y = .ref b ∧ H a = some (.tup xs) ∧ H b = some (.tup ys) ∧ xs ≠ [] ∧ ys ≠ [] ∧ xs.length + ys.length ≤ sizeLine ∧ ∀ p, H p = none → Q (.ref p) (upd H p (.tup (xs ++ ys)))
section
variable {X : Cx}
theorem slT : SlR X gSlT := SlR_imp sl_tup fun _ _ _ _ _ ⟨a, xs, x1, x2, x3, x4⟩ => ⟨a, xs, x1, SqT.of x2, x3, x4⟩
theorem catT : OpR X (binaryOp .Add) gCatT := OpR_imp op_catT fun _ _ _ _ ⟨a, b, xs, ys, x1, x2, x3, x4, x5, x6, x7, x8⟩ => ⟨a, b, xs, ys, x1, x2, SqT.of x3, SqT.of x4, x5, x7, fun e => absurd e x6, fun _ => x8⟩
end
theorem cut_1 {x : V} {xs : List V} : cutV (x :: xs) (some 1) none = xs := by
  unfold cutV HT.sIx
  simp
theorem cut_1n {x : V} {xs : List V} : ¬ (HT.sIx (x :: xs).length 0 (some 1) = 0 ∧ HT.sIx (x :: xs).length (x :: xs).length none = (x :: xs).length) := by
  unfold HT.sIx
  simp
end TA

set_option linter.all false
set_option maxRecDepth 100000
set_option maxHeartbeats 4000000
/-! sorted(set(xs)), xs a list of texts. -/
namespace TA
open PySem PySem.Spec L2 PyProof.Rows PySem.Calls
theorem vals_str : ∀ {xs : List Str} {us : List Value}, Vals (xs.map V.str) us → ∀ (i : Nat) (v : Value), us[i]? = some v → ∃ k t, xs[i]? = some k ∧ v = .str k t
  | [], _, .nil, i, v, h => by simp at h
  | x :: xs, _, .cons r t, 0, v, h => by
    simp at h; subst h
    obtain ⟨tk, rfl⟩ := r
    exact ⟨x, tk, rfl, rfl⟩
  | x :: xs, _, .cons r t, i + 1, v, h => by simpa using vals_str t i v (by simpa using h)
/-- the table of a set can be walked -/
def Wk (w : World) (t : SetTable) : Prop := Ris t.place.toList ∧ (w.params.followText "set-order" = true ∨ t.led = true)
structure SetX (P : Program) (w : World) (h : Heap) (a : Addr) (l : List Str) : Prop where
  ex : ∃ D : Froz.SD, h.get? a = some (Froz.sObj "set" D) ∧ Froz.TxOk P w D l ∧ Wk w D.2.2
  nd : l.Nodup
  few : l.length < 4000
section
variable {P : Program} {w : World} {A : Around} {E : Value → Shared → Prop} {s : Shared} {a : Addr} {l : List Str} {k : Str} {u : Tok}
theorem wk_tail {ep : Nat} {es : Array (Int × Value)} {t : SetTable} {b : Bool} (h : Wk w t) : Wk w (Froz.tailTx ep es t b).2.2 := by
  unfold Froz.tailTx
  by_cases c : (!b && t.tooFull) = true
  · rw [if_pos c]; exact ⟨relayAll_ris t es _, by show _ ∨ (relayAll t es _).2.1.led = true; rw [relayAll_led]; exact h.2⟩
  · rw [if_neg c]; exact h
theorem wk_add {D : Froz.SD} {hs : Int} {v : Value} (h : Wk w D.2.2) : Wk w (Froz.addTx hs v D).2.2 := by
  have h1 : Wk w (layNew D.2.2 D.1 hs v).2.1 := ⟨layNew_ris D.2.2 D.1 hs v h.1, by rw [layNew_led]; exact h.2⟩
  unfold Froz.addTx
  refine wk_tail ?_
  by_cases c : (layNew D.2.2 D.1 hs v).2.1.plain = true
  · rw [if_pos c]; exact h1
  · rw [if_neg c]; exact h1
theorem SetX.keep {h h' : Heap} (X : SetX P w h a l) (k : ∀ o, h.get? a = some o → h'.get? a = some o) : SetX P w h' a l := by
  obtain ⟨⟨D, h1, h2, h3⟩, nd, few⟩ := X
  exact ⟨⟨D, k _ h1, h2, h3⟩, nd, few⟩
/-- a text that is there already -/
theorem old_x {Q : Bool → Shared → Prop} (X : SetX P w s.heap a l) (hk : k ∈ l) (h : Q false s) : wpAny (model P w) A (setAddHashed a (.str k u) (hashStr w k)) Q E s := by
  obtain ⟨⟨⟨es, ep, t⟩, ho, F, _⟩, nd, few⟩ := X
  have hd : (Froz.sObj "set" (es, ep, t)).data = .set es ep t := rfl
  have hb : es.size < scanBound := by have e : es.size = l.length := F.sz; rw [e]; exact Nat.lt_trans few (by decide)
  obtain ⟨e, he, hp⟩ := (F.mem k).mp hk
  unfold setAddHashed setAddHashedIn
  refine wpAny_holding (wpAny_bind (wpAny_setState_of ho hd F.fit ?_)); dsimp only
  rw [byScan_of rfl hb F.el]; simp only [↓reduceIte]
  unfold setAddByScan
  refine wpAny_bind (wpAny_bind (wpAny_rule (wpAny_bind (wpAny_setScan_of (knd := strKind P w) (k := k) (Froz.is_str k u) ho hd F.fit F.el ?_))))
  cases hr : List.findIdx? (fun e => (strKind P w).is k e.2) es.toList with
  | none =>
    have := List.findIdx?_eq_none_iff.mp hr e he
    rw [hp] at this; cases this
  | some j => dsimp only; exact wpAny_pure (wpAny_pure h)
/-- one text is added -/
theorem setX_add {Q : Bool → Shared → Prop} (X : SetX P w s.heap a l) (few : l.length + 1 < 4000) (h : ∀ b h' l', Heap.SameBut a s.heap h' → SetX P w h' a l' → (∀ x, x ∈ l' ↔ x ∈ l ∨ x = k) → l'.length ≤ l.length + 1 → Q b { s with heap := h' }) :
    wpAny (model P w) A (setAddHashed a (.str k u) (hashStr w k)) Q E s := by
  by_cases hk : k ∈ l
  · refine old_x X hk ?_
    have := h false s.heap l (Heap.SameBut.refl a s.heap) X (fun x => ⟨.inl, fun z => z.elim id fun e => e ▸ hk⟩) (Nat.le_succ _)
    exact this
  · obtain ⟨⟨D, ho, F, wk⟩, nd, _⟩ := X
    refine Froz.add_x ho F hk (Nat.lt_trans few (by decide)) ?_
    refine h true _ (k :: l) (Heap.SameBut.update s.heap a _) ⟨⟨_, Froz.get_upd _ ho rfl, Froz.add_ok u F, wk_add wk⟩, List.nodup_cons.mpr ⟨hk, nd⟩, few⟩ (fun x => ?_) (Nat.le_refl _)
    rw [List.mem_cons]; exact ⟨fun z => z.elim .inr .inl, fun z => z.elim .inr .inl⟩
/-- the texts of a walk are added, one behind the other -/
theorem setX_loop {I : Addr} {fp wr : List Addr} {G : Array GenState → Array GenState → Prop} {n : Nat} {Pv : Nat → Value → Prop} {St : Nat → Shared → Prop} {R : Result → Shared → Prop}
    (Wl : WalksS P w A.in1 I fp wr G n Pv St) (T : Addr) (hT : T ∉ fp) (xs : List Str) (hn : n = xs.length) (hb : n < 3000) (hval : ∀ i v, Pv i v → ∃ k t, xs[i]? = some k ∧ v = .str k t) :
    ∀ (m i : Nat) (s : Shared) (l : List Str), n - i = m → i ≤ n → St i s → SetX P w s.heap T l → l.length ≤ i → (∀ x, x ∈ l ↔ x ∈ xs.take i) →
      (∀ s' l', Moved (T :: wr) G s s' → SetX P w s'.heap T l' → (∀ x, x ∈ l' ↔ x ∈ xs) → R (.ok (.ret .none)) s') → codeAny (model P w) A (.builtin "set.update.loop" ⟨[.ref T, .ref I], []⟩) R s := by
  have hTw : T ∉ wr := fun z => hT (Wl.sub _ z)
  have up : ∀ b ∈ wr, b ∈ T :: wr := fun b z => List.mem_cons_of_mem _ z
  intro m
  induction m with
  | zero =>
    intro i s l hm hi hst X _ hl hR
    obtain rfl : i = n := by omega
    refine codeAny_builtin F.entry_set_update_loop ?_; rw [Around.under_plainId F.plain_set_update_loop _]
    show wpAny _ A.in1 (pyNext (Value.ref I) >>= _) _ _ s
    refine wpAny_bind (Wl.done s _ _ hst fun s2 mv => ?_)
    show wpAny _ A.in1 (ret .none) _ _ s2
    refine wpAny_pure (hR s2 l (mv.mono up) (X.keep fun o e => mv.heap T o hTw e) fun x => ?_)
    rw [hl x, List.take_of_length_le (by omega)]
  | succ m ih =>
    intro i s l hm hi hst X hll hl hR
    have lt : i < n := by omega
    refine codeAny_builtin F.entry_set_update_loop ?_; rw [Around.under_plainId F.plain_set_update_loop _]
    show wpAny _ A.in1 (pyNext (Value.ref I) >>= _) _ _ s
    refine wpAny_bind (Wl.item i s _ _ lt hst fun v s2 pv st2 mv => ?_)
    obtain ⟨k, t, hk, rfl⟩ := hval i v pv
    show wpAny _ A.in1 (holding [Value.str k t] (setAdd T (Value.str k t)) >>= _) _ _ s2
    refine wpAny_bind (wpAny_holding ?_); unfold setAdd
    refine wpAny_holding (wpAny_bind ((strKind P w).pyHash (k := k) (Froz.is_str k t) ?_))
    refine setX_add (s := { s2 with toks := s2.toks + 1 }) (X.keep fun o e => mv.heap T o hTw e) (by omega) fun b h' l' sb X' hl' hll' => ?_
    refine wpAny_pure ⟨plainId_quiet F.plain_set_update_loop _, ih (i + 1) _ l' (by omega) lt (Wl.frame _ s2 _ _ st2 (Nat.le_succ _) fun b hbf o e => ?_) X' (by omega) (fun x => ?_) fun s3 l3 mv3 X3 hl3 => ?_⟩
    · rw [sb.2 b fun z : b = T => hT (z ▸ hbf)]; exact e
    · rw [hl' x, hl x, List.take_succ, hk]; simp
    · refine hR s3 l3 (Moved.trans Wl.gtrans ((mv.mono up).then_heap (Nat.le_succ _) fun b o hbw e => ?_) mv3) X3 hl3
      rw [sb.2 b fun z : b = T => hbw (by rw [z]; exact List.mem_cons_self)]; exact e
theorem setX_fresh {h : Heap} (ho : h.get? a = some { cls := .type "set", dict := none, data := .set #[] 0 (.fresh 0 0 (!w.params.followText "set-order")) }) : SetX P w h a [] :=
  ⟨⟨(#[], 0, .fresh 0 0 (!w.params.followText "set-order")), ho, Froz.TxOk.nil rfl, List.Pairwise.nil, by
    show _ ∨ (!w.params.followText "set-order") = true
    cases w.params.followText "set-order" <;> simp⟩, List.nodup_nil, by decide⟩
/-- set(xs), xs a list of texts -/
theorem call_setX {p : Addr} {items : Array Value} (xs : List Str) {Q : Value → Shared → Prop} (hh : A.handled = none) (hl : s.heap.IsList p items) (hit : Vals (xs.map V.str) items.toList) (few : xs.length < 3000)
    (h : ∀ (h' : Heap) (tk : Nat) (l : List Str), SetX P w h' s.heap.objs.size l → (∀ x, x ∈ l ↔ x ∈ xs) → (∀ b o, s.heap.get? b = some o → h'.get? b = some o) → Q (.ref s.heap.objs.size) { s with heap := h', toks := tk }) :
    wpAny (model P w) A (call (.type "set") [.ref p]) Q E s := by
  have hsz : items.size = xs.length := by have := hit.length; rw [List.length_map, Array.length_toList] at this; exact this.symm
  let nw : Obj := { cls := .type "set", dict := none, data := .set #[] 0 (.fresh 0 0 (!w.params.followText "set-order")) }
  obtain ⟨c, tl, hmro⟩ := F.called_set.mro
  have hmade := F.called_set.made; have hsub := F.called_set.sub
  refine wpAny_call (codeAny_of_tree ?_)
  show wpAny _ _ (callAny (Value.type "set") _) _ _ _
  refine wpAny_pure ⟨Code.quiet_builtin _ (by decide +kernel), codeAny_builtin F.entry_type_call ?_⟩; rw [Around.under_plain (weight_type_call_type "set" [.ref p] []) rfl]
  have h1 := F.called_set.notType; have h2 := F.called_set.canCreate
  have hct := F.typeCall_set_1 (.ref p)
  repeat (any_goals (first | assumption | wp_step))
  refine codeAny_mono (code_set_led1 (.ref p) (E := E) (Q₁ := fun ob s2 => ob = .ref s.heap.objs.size ∧ s2 = { s with heap := s.heap.push nw }) ⟨rfl, rfl⟩) fun r s1 hr => ?_
  match r, hr with
  | .error e, hr => exact hr
  | .ok .next, hr => exact hr.elim
  | .ok .brk, hr => exact hr.elim
  | .ok .cont, hr => exact hr.elim
  | .ok (.ret ob), hr =>
    obtain ⟨rfl, rfl⟩ := hr
    have at0 : (s.heap.push nw).get? s.heap.objs.size = some nw := Heap.get?_push_size _ rfl
    have hT : Shared.TypeIs { s with heap := s.heap.push nw } (.ref s.heap.objs.size) "set" := ⟨_, at0, rfl⟩
    have hli := F.called_set.init.lookup; have hbi := F.called_set.init.bind (.ref s.heap.objs.size)
    repeat (any_goals (first | assumption | wp_step))
    refine codeAny_mono (codeAny_call_builtin (R := wants (fun r s2 => r = .none ∧ ∃ h' tk l, s2 = { s with heap := h', toks := tk } ∧ SetX P w h' s.heap.objs.size l ∧ (∀ x, x ∈ l ↔ x ∈ xs) ∧ ∀ b o, s.heap.get? b = some o → h'.get? b = some o) E) F.called_set.init.plain F.entry_set_init (check_set_init_1 hT ?_)) fun r2 s2 hr2 => ?_
    · obtain ⟨⟨oc, od, oda, osl⟩, hol, hcl, nl, hdl⟩ := hl
      simp only at hcl hdl; subst hcl; subst hdl
      have hol' : (s.heap.push nw).get? p = some { cls := .type "list", dict := od, data := .seq items nl, slots := osl } := Heap.get?_push_of_some _ hol
      have s1 := F.sub_list_set; have s2 := F.sub_list_frozenset
      have hne : (Value.type "list" == Value.type "dict") = false := by decide
      have hl1 : (s.heap.push nw).IsList p items := ⟨_, hol', rfl, nl, rfl⟩
      unfold Builtin.«set.__init__» noKeywords Builtin.Frozenset.updateFrom
      generalize hPI : pyIter = PI; wp_walk; subst hPI
      refine wpAny_pyIter_list hl1 (wpAny_bind (wpAny_runValue ?_))
      have hlt : p < s.heap.objs.size := Heap.lt_size hol
      have hneI : p ≠ (s.heap.push nw).objs.size := by rw [Heap.size_push]; exact Nat.ne_of_lt (Nat.lt_succ_of_lt hlt)
      have hSf : s.heap.objs.size ∉ [(s.heap.push nw).objs.size, p] := by
        rw [Heap.size_push]; intro z
        rcases List.mem_cons.mp z with z | z
        · exact absurd z (Nat.ne_of_lt (Nat.lt_succ_self _))
        · rw [← List.mem_singleton.mp z] at hlt; exact absurd hlt (Nat.lt_irrefl _)
      have hval : ∀ (i : Nat) (v : Value), items[i]? = some v → ∃ k t, xs[i]? = some k ∧ v = .str k t := fun i v hv => by
        have q : items.toList[i]? = some v := by rw [Array.getElem?_toList]; exact hv
        exact vals_str hit i v q
      refine setX_loop ((Walks.list (show A.in1.in1.in1.handled = none by simp [hh]) _ p hneI items).toS) s.heap.objs.size hSf xs hsz (by omega) hval (items.size - 0) 0 _ [] (by omega) (Nat.zero_le _) ⟨⟨_, Heap.get?_push_size _ rfl, rfl, rfl⟩, hl1.push _⟩ (setX_fresh (Heap.get?_push_of_some _ at0)) (Nat.le_refl _) (by simp) fun s3 l3 mv X3 hl3 => ?_
      obtain ⟨h', g2, d', tk', os'⟩ := s3
      have eg : g2 = s.gens := mv.gens
      have ed : d' = s.drawn := mv.drawn
      have eo : os' = s.os := mv.os
      subst eg ed eo
      show wpAny _ _ _ _ _ _
      refine wpAny_pure ?_
      show wpAny _ _ (ret .none) _ _ _
      refine wpAny_pure ⟨rfl, h', tk', l3, rfl, X3, hl3, fun b o e => ?_⟩
      have hb := Heap.lt_size e
      refine mv.heap b o (fun z => ?_) (Heap.get?_push_of_some _ (Heap.get?_push_of_some _ e))
      rcases List.mem_cons.mp z with z | z
      · rw [z] at hb; exact absurd hb (Nat.lt_irrefl _)
      · rw [List.mem_singleton.mp z, Heap.size_push] at hb; exact absurd hb (Nat.not_lt_of_le (Nat.le_succ _))
    · match r2, hr2 with
      | .error e, hr2 => exact hr2
      | .ok .next, hr2 => exact hr2.elim
      | .ok .brk, hr2 => exact hr2.elim
      | .ok .cont, hr2 => exact hr2.elim
      | .ok (.ret rv), hr2 =>
        obtain ⟨rfl, h', tk, l, rfl, X', hl', hk'⟩ := hr2
        repeat (any_goals (first | assumption | wp_step))
        exact h _ _ _ X' hl' hk'
end
/-! ### sorted, of a set of texts -/
def SxO (P : Program) (w : World) (a : Addr) (l : List Str) : HO := .ext fun h => SetX P w h a l
theorem sx_new {P : Program} {w : World} {H : Hp} {h : Heap} {a : Addr} {l : List Str} (X : SetX P w h a l) : ObjOk P w H h a (SxO P w a l) :=
  ⟨X, (by obtain ⟨⟨D, h1, _⟩, _⟩ := X; exact ⟨_, h1⟩), fun _ _ X k => X.keep fun o e => k o e⟩
theorem sx_get {X : Cx} {pins : List (Addr × Obj)} {σ : Sl} {H : Hp} {s : Shared} {a : Addr} {l : List Str} (I : Inv X pins σ H s) (h : H a = some (SxO X.prog X.w a l)) : SetX X.prog X.w s.heap a l := (I.hok a _ h).1
def gSetX (P : Program) (w : World) : List V → Hp → VK → Prop := fun vs H Q => ∃ (p : Addr) (xs : List Str), vs = [.ref p] ∧ H p = some (.lst (xs.map V.str)) ∧ xs.length < 3000 ∧ ∀ a l, H a = none → l.Nodup → (∀ x, x ∈ l ↔ x ∈ xs) → Q (.ref a) (upd H a (SxO P w a l))
def srtS (l : List Str) : List Str := l.mergeSort fun a b => dle (.str a) (.str b)
def gSortX (P : Program) (w : World) : List V → Hp → VK → Prop := fun vs H Q => ∃ (a : Addr) (l : List Str), vs = [.ref a] ∧ H a = some (SxO P w a l) ∧ ∀ p m, H p = none → m.Perm l → Q (.ref p) (upd H p (.lst ((srtS m).map V.str)))
theorem setXr {X : Cx} (hc : X.calm = true) : CallR X (.type "set") (gSetX X.prog X.w) := by
  intro pins s σ H vs us Q I r h
  obtain ⟨p, xs, rfl, hl, few, q⟩ := h
  obtain ⟨u, rfl, ru⟩ := vals1 r
  cases ru
  obtain ⟨its, rv, pl, hz⟩ := I.list (SqL.of (K := X.K) hl)
  refine call_setX (P := X.prog) (w := X.w) xs (I.ok.hd hc) pl.isList (by simpa using rv) few fun h' tk l X' hl' hk => ?_
  exact ⟨.ref s.heap.objs.size, _, I.laid (t' := tk) hk (Nat.le_refl _) (sx_new X'), rfl, q _ l (I.hok.fresh (Nat.le_refl _)) X'.nd hl'⟩
def strZ (l : List Str) : List (V × PyData) := l.map fun x => (V.str x, PyData.str x)
theorem strZ_fst (l : List Str) : (strZ l).map Prod.fst = l.map V.str := by unfold strZ; rw [List.map_map]; rfl
theorem strZ_snd (l : List Str) : (strZ l).map Prod.snd = l.map PyData.str := by unfold strZ; rw [List.map_map]; rfl
theorem strZ_sort (l : List Str) : ((strZ l).mergeSort fun x y => dle x.2 y.2).map Prod.fst = (srtS l).map V.str := by
  unfold strZ srtS
  rw [← PySem.W.sort_maps (r := fun (a b : Str) => dle (.str a) (.str b)) (s := fun (x y : V × PyData) => dle x.2 y.2) (fun x : Str => (V.str x, PyData.str x)) fun a _ b _ => rfl, List.map_map]
  rfl
theorem strs_vals : ∀ {vs : List Value} , (∀ v ∈ vs, ∃ k t, v = Value.str k t) → ∃ ms : List Str, Vals (ms.map V.str) vs ∧ vs.map (fun v => match v with | .str k _ => k | _ => Str.empty) = ms
  | [], _ => ⟨[], .nil, rfl⟩
  | v :: vs, h => by
    obtain ⟨k, t, rfl⟩ := h v List.mem_cons_self
    obtain ⟨ms, h1, h2⟩ := strs_vals (vs := vs) fun x hx => h x (List.mem_cons_of_mem _ hx)
    exact ⟨k :: ms, .cons ⟨t, rfl⟩ h1, by rw [List.map_cons, h2]⟩
end TA

set_option linter.all false
set_option maxRecDepth 100000
set_option maxHeartbeats 4000000
/-! sorted(set(xs)), xs a list of texts: the end. -/
namespace TA
open PySem PySem.Spec L2 PyProof.Rows PySem.Calls
theorem perm_of_sub {α : Type} [DecidableEq α] : ∀ {l m : List α}, l.Nodup → (∀ x ∈ l, x ∈ m) → m.length = l.length → m.Perm l
  | [], m, _, _, h => by rw [List.length_nil] at h; rw [List.eq_nil_of_length_eq_zero h]
  | x :: l, m, nd, hs, h => by
    obtain ⟨n1, n2⟩ := List.nodup_cons.mp nd
    have hx := hs x List.mem_cons_self
    have hp := List.perm_cons_erase hx
    refine hp.trans (List.Perm.cons x (perm_of_sub n2 (fun y hy => (List.mem_erase_of_ne fun z : y = x => n1 (z ▸ hy)).mpr (hs y (List.mem_cons_of_mem _ hy))) ?_))
    rw [List.length_erase_of_mem hx, h]; rfl
theorem is_inv {P : Program} {w : World} {k : Str} {v : Value} (h : (PySem.strKind P w).is k v = true) : ∃ t, v = .str k t := by
  have h : Value.isStrOf k v = true := h
  cases v <;> simp [Value.isStrOf] at h
  exact ⟨_, by rw [h]⟩
theorem sortXr {X : Cx} (hc : X.calm = true) (hu : X.A.units + 64 < cLine) : CallR X (.builtin "sorted") (gSortX X.prog X.w) := by
  intro pins s σ H vs us Q I r h
  obtain ⟨a, l, rfl, ha, q⟩ := h
  obtain ⟨u, rfl, ru⟩ := vals1 r
  cases ru
  obtain ⟨⟨⟨es, ep, t⟩, ho, F, wk⟩, nd, few⟩ := sx_get I ha
  have hsz : es.size = l.length := F.sz
  have hb : es.size < scanBound := by rw [hsz]; exact Nat.lt_trans few (by decide)
  refine call_function_entry kind_sorted plain_sorted entry_sorted (args_sorted1 _) ?_
  unfold Builtin.«sorted»
  refine wpAny_bind (m := checkCount "sorted" 1 1 _) (wpAny_pure ?_)
  refine wpAny_bind (collect_set (A := X.A.in1) (I.ok.hd hc) ⟨_, ho, rfl, rfl⟩ F.fit hb wk.1 wk.2 fun s1 out k1 z1 g1 o1 pm => ?_)
  obtain ⟨m, rm, em⟩ := strs_vals (vs := out) fun v hv => by
    obtain ⟨e, he, ev⟩ := List.mem_map.mp (pm.mem_iff.mp hv)
    obtain ⟨⟨k, hk, _⟩, _⟩ := F.el e he
    rw [← ev]
    obtain ⟨t2, e2⟩ := is_inv hk
    exact ⟨k, t2, e2⟩
  have hol : out.length = l.length := by rw [pm.length_eq, List.length_map, Array.length_toList]; exact hsz
  have hml : m.length = l.length := by rw [← em, List.length_map]; exact hol
  have hperm : m.Perm l := perm_of_sub nd (fun x hx => by
    obtain ⟨e, he, hk⟩ := (F.mem x).mp hx
    rw [← em]
    refine List.mem_map.mpr ⟨e.2, pm.mem_iff.mpr (List.mem_map.mpr ⟨e, he, rfl⟩), ?_⟩
    obtain ⟨t2, e2⟩ := is_inv hk
    rw [e2]) hml
  have hL : out.length ≤ sizeLine := by rw [hol, sizeLine_eq]; omega
  refine wpAny_bind (wpAny_newList ?_ hL)
  have hat2 : (s1.heap.push { cls := .type "list", data := .seq out.toArray }).get? s1.heap.objs.size = some (seqObj "list" out.toArray 0) := Heap.get?_push_size _ rfl
  refine wpAny_bind (wpAny_holding (wpAny_call_entry_kw slot_list_sort ⟨_, hat2, rfl⟩ entry_list_sort ?body (args_list_sort _)))
  case body =>
    rw [← strZ_fst] at rm
    let h2 := PySem.W.sortingHeap (s1.heap.push { cls := .type "list", data := .seq out.toArray }) s1.heap.objs.size out
    have hr : RpAll H ((strZ m).map Prod.fst) ((strZ m).map Prod.snd) := by rw [strZ_fst, strZ_snd]; exact rpAll_strs m
    have old : ∀ b o, s.heap.get? b = some o → h2.get? b = some o := fun b o e => PySem.W.sortingHeap_old (Nat.ne_of_lt (Heap.lt_size (k1 _ _ e))) (Heap.get?_push_of_some _ (k1 _ _ e))
    have rd := each_reads I rm hr
    have rd2 : PySem.W.EachIs (fun (v : Value) (z : V × PyData) => ∃ as, Reads h2 v z.2 as) out (strZ m) := rd.mono fun v z ⟨as, e⟩ => ⟨as, PySem.W.reads_keeps old e⟩
    have hal2 : PySem.W.AllAlike ((strZ m).map Prod.snd) := by
      rw [strZ_snd]; exact PySem.W.AllAlike.of fun a b => by simp [PySem.W.alike]
    have hsb : PySem.W.Sortable ((strZ m).map Prod.snd) := by
      rw [strZ_snd]; exact PySem.W.Sortable.others fun a => ⟨by simp, fun xs => by simp⟩
    have Sa : PySem.W.SortsAt X.prog X.w X.A.in1.in1 { s1 with heap := h2 } (PySem.W.dataKind h2 ((strZ m).map Prod.snd)) out := by
      refine PySem.W.SortsAt.data (each_snd rd2) hal2 hsb fun d hd => ?_
      rw [strZ_snd] at hd
      obtain ⟨n, _, rfl⟩ := List.mem_map.mp hd
      show X.A.units + 1 + 1 + _ < cLine
      simp [PyData.depth]; omega
    show wpAny (model X.prog X.w) X.A.in1.in1 (Builtin.«list.sort» ⟨[.ref s1.heap.objs.size], []⟩) _ _ _
    refine PySem.W.list_sort_vals (s := { s1 with heap := s1.heap.push { cls := .type "list", data := .seq out.toArray } }) hat2 Sa hL ?_
    refine ⟨_, rfl, wpAny_pure ⟨_, rfl, ?_⟩⟩
    have e : PySem.W.EachIs (fun (v : Value) (z : V × PyData) => RelV z.1 v) (PySem.W.sortVals (PySem.W.dataKind h2 ((strZ m).map Prod.snd)) false out out) ((strZ m).mergeSort (PySem.W.sortLe (PySem.W.dataKind h2 ((strZ m).map Prod.snd)).toKeyOrd false fun z => PySem.W.keyToks z.2)) := by
      refine PySem.W.sortVals_each (κ := PySem.W.dataKind h2 ((strZ m).map Prod.snd)) (fun z => PySem.W.keyToks z.2) (each_vals rm) ((each_in rd2).mono fun v z ⟨⟨as, e⟩, mm⟩ => ?_)
      exact PySem.W.dataKind_some hal2 (List.mem_map.mpr ⟨z, mm, rfl⟩) e
    have e2 : ((strZ m).mergeSort (PySem.W.sortLe (PySem.W.dataKind h2 ((strZ m).map Prod.snd)).toKeyOrd false fun z => PySem.W.keyToks z.2)) = (strZ m).mergeSort fun x y => dle x.2 y.2 := rfl
    rw [e2] at e
    have v2 := vals_each e
    rw [strZ_sort] at v2
    obtain ⟨n, hn⟩ := sortedHeap_at (out := (PySem.W.sortVals (PySem.W.dataKind h2 ((strZ m).map Prod.snd)) false out out).toArray) hat2
    have hn' : H s1.heap.objs.size = none := I.hok.fresh z1
    have kk : ∀ b o, s.heap.get? b = some o → (sortedHeap (s1.heap.push { cls := .type "list", data := .seq out.toArray }) s1.heap.objs.size out (PySem.W.sortVals (PySem.W.dataKind h2 ((strZ m).map Prod.snd)) false out out).toArray).get? b = some o := fun b o e => by
      have e1 := k1 b o e
      rw [sortedHeap_old (Nat.ne_of_lt (Heap.lt_size e1)) (by rw [size_push']; exact Nat.lt_succ_of_lt (Heap.lt_size e1))]
      exact Heap.get?_push_of_some _ e1
    have hlen : ((srtS m).map V.str).length ≤ sizeLine := by
      unfold srtS
      rw [List.length_map, List.length_mergeSort, hml, sizeLine_eq]; omega
    refine ⟨.ref s1.heap.objs.size, upd H s1.heap.objs.size (.lst ((srtS m).map V.str)), ?_, rfl, q _ m hn' hperm⟩
    have J : Inv X pins σ (upd H s1.heap.objs.size (.lst ((srtS m).map V.str))) { s with heap := sortedHeap (s1.heap.push { cls := .type "list", data := .seq out.toArray }) s1.heap.objs.size out (PySem.W.sortVals (PySem.W.dataKind h2 ((strZ m).map Prod.snd)) false out out).toArray, gens := s1.gens, drawn := s1.drawn, toks := s1.toks } :=
      I.call (ch := []) (Un.laid kk z1 hn') (I.hok.laid kk z1 ⟨hlen, _, n, v2, hn⟩) (by rw [g1]; exact I.bare) (fun _ z => nomatch z)
    obtain ⟨hp1, g2, d1, tk1, os1⟩ := s1
    have o1 : os1 = s.os := o1
    subst o1
    exact J
/-- sorted(set(e)) -/
def fSortS (te : TE) : TE := fun σ H Q => te σ H fun x H1 => ∃ (p : Addr) (xs : List Str), x = .ref p ∧ H1 p = some (.lst (xs.map V.str)) ∧ xs.length < 3000 ∧
  ∀ (a p2 : Addr) (o : HO) (m : List Str), H1 a = none → upd H1 a o p2 = none → m.Nodup → (∀ x, x ∈ m ↔ x ∈ xs) → Q (.ref p2) (upd (upd H1 a o) p2 (.lst ((srtS m).map V.str)))
section
variable {X : Cx} {e : Expr} {te : TE} {p1 p2 pos pos2 : Pos}
theorem pe_sortS (hc : X.calm = true) (hu : X.A.units + 64 < cLine) (hm1 : X.mg "sorted" = none) (hm2 : X.mg "set" = none) (he : PE X e te) (hg1 : Gl X "sorted" := by rfl) (hg2 : Gl X "set" := by rfl)
    (h1 : starEach [e] X.env = (false, eval e X.env) :: starEach [] X.env := by rfl) (h2 : starEach [.Call (.Name "set" p2) [e] [] pos2] X.env = (false, eval (.Call (.Name "set" p2) [e] [] pos2) X.env) :: starEach [] X.env := by rfl)
    (q1 : (backTo pos2 (starEach [] X.env)).any (·.1) = false := by rfl) (q2 : (backTo pos (starEach [] X.env)).any (·.1) = false := by rfl) :
    PE X (.Call (.Name "sorted" p1) [.Call (.Name "set" p2) [e] [] pos2] [] pos) (fSortS te) :=
  PE_imp (pe_callB (sortXr hc hu) hg1 hm1 (by decide +kernel) (pa_cons (pe_callTy (setXr hc) hg2 hm2 (by decide +kernel) (pa_cons (PE_mo he) pa_nil h1) (by decide) (by decide) h1 q1) pa_nil h2) (by decide) (by decide) h2 q2) fun σ H Q h => ⟨_, h, fun x H1 ⟨p, xs, ex, hx, few, k⟩ => ⟨p, xs, by rw [ex], hx, few, fun a l ha nd hl => ⟨a, l, rfl, upd_same, fun p2 m hp2 pm => k a p2 _ m ha hp2 (pm.nodup_iff.mpr nd) fun x => pm.mem_iff.trans (hl x)⟩⟩⟩
end
end TA

set_option linter.all false
set_option maxHeartbeats 4000000
/-! Comprehensions over range(i, j). -/
namespace TA
open PySem PySem.Spec L2 PyProof.Rows
def fLcR2 (ta : TA) (g : TG) (tt : TT) (te : TE) (vs : List Nat) : TE := fun σ H Q => ta σ H fun us H1 => ∃ i j : Int, us = [.int i, .int j] ∧ (-(2 ^ 62) ≤ i ∧ i < 2 ^ 62 ∧ -(2 ^ 62) ≤ j ∧ j < 2 ^ 62) ∧ CompW (fun _ => True) (j - i).toNat (fun k x => x = .int (i + (k : Int))) g tt te vs σ H1 Q
section
variable {g : TG} {tt : TT} {te : TE} {ta : TA} {vs : List Nat} {σ : Sl} {H : Hp} {Q : VK}
theorem lcR2_up (h : fLcR2 ta g tt te vs σ H Q) : tLc (iRng2 (moA ta)) (moG g) (moT tt) (mo te) vs σ H Q :=
  ⟨_, h, fun _ _ ⟨i, j, x1, x2, k⟩ => ⟨i, j, x1, x2, comp_up walk_range (fun _ _ => trivial) (fun m H x H' _ _ y => ⟨y.1, y.2⟩) k⟩⟩
end
section
variable {X : Cx} {elt tg e1 e2 : Expr} {ifs : List Expr} {scope : Scope} {own : List (Str × Nat)} {pos p p2 : Pos} {g : TG} {tt : TT} {te : TE} {ta : TA}
theorem pe_lcR2 (hc : X.calm = true) (hN : X.N.Nodup) (hg' : Gl X "range") (hm : X.mg "range" = none) (ha : PA X [e1, e2] ta) (ok : BlkOk X.N X.env.scope scope own) (hg : Blk X scope fun Y => PG Y tg g) (ht : Blk X scope fun Y => PTs Y ifs tt) (he : Blk X scope fun Y => PE Y elt te)
    (hs0 : starEach [e1, e2] X.env = [(false, eval e1 X.env), (false, eval e2 X.env)] := by rfl) (hs1 : starEach [e2] X.env = [(false, eval e2 X.env)] := by rfl) (hs : ∀ x, foldedSetIterable (.Call (.Name "range" p) [e1, e2] [] p2) X.env x = pure x := by intro _; rfl) :
    PE X (.ListComp elt [⟨tg, .Call (.Name "range" p) [e1, e2] [] p2, ifs, 0⟩] scope pos) (fLcR2 ta g tt te (own.map (·.2))) := PE_imp (pe_lc hc hN (pi_range2 hg' hm (PA_mo ha) hs0 hs1) ok (fun a b c d e => PG_mo (hg a b c d e)) (fun a b c d e => PTs_mo (ht a b c d e)) (fun a b c d f => PE_mo (he a b c d f)) hs) fun _ _ _ h => lcR2_up h
variable {i : Nat} {y : Str} {py spos : Pos}
theorem ps_lcR2 (hc : X.calm = true) (hN : X.N.Nodup) (hy : X.N[i]? = some y) (hyl : X.env.scope.names.lookup y = some .local) (hsw : swapsWith (.ListComp elt [⟨tg, .Call (.Name "range" p) [e1, e2] [] p2, ifs, 0⟩] scope pos) (some (.Name y py)) spos.line X.env = pure true)
    (hg' : Gl X "range") (hm : X.mg "range" = none) (ha : PA X [e1, e2] ta) (ok : BlkOk X.N X.env.scope scope own) (hg : Blk X scope fun Y => PG Y tg g) (ht : Blk X scope fun Y => PTs Y ifs tt) (he : Blk X scope fun Y => PE Y elt te)
    (hs0 : starEach [e1, e2] X.env = [(false, eval e1 X.env), (false, eval e2 X.env)] := by rfl) (hs1 : starEach [e2] X.env = [(false, eval e2 X.env)] := by rfl) (hs : ∀ x, foldedSetIterable (.Call (.Name "range" p) [e1, e2] [] p2) X.env x = pure x := by intro _; rfl) :
    PS X (.Assign [.Name y py] (.ListComp elt [⟨tg, .Call (.Name "range" p) [e1, e2] [] p2, ifs, 0⟩] scope pos) spos) (tAsg (fLcR2 ta g tt te (own.map (·.2))) (gName i)) := PS_imp (ps_setLc hc hN hy hyl hsw (pi_range2 hg' hm (PA_mo ha) hs0 hs1) ok (fun a b c d e => PG_mo (hg a b c d e)) (fun a b c d e => PTs_mo (ht a b c d e)) (fun a b c d f => PE_mo (he a b c d f)) hs) fun _ _ _ h => lcR2_up h
end
end TA

set_option linter.all false
set_option maxRecDepth 100000
/-! The dict WORDS of the text. -/
namespace TA
open PySem L2
def WL : List (Str × Int) := [("put", 2), ("key", 2), ("rub", 1), ("tick", 2), ("again", 1), ("add", 2), ("remove", 2)]
def wkv (e : DictEntry) : Option (Str × Int) := match e.key, e.val with
  | .str x _, .int i _ => some (x, i)
  | _, _ => none
def wdB (K : PySem.W.Frag) : Bool := match K.lookup (He.ga K "WORDS") with
  | some ⟨_, _, .dict es _, _⟩ => decide (es.toList.map wkv = WL.map some)
  | _ => false
def lkW (l : List (Str × Int)) (z : Str) : Option Int := (l.find? fun p => decide (p.1 = z)).map (·.2)
def wN (z : Str) : Option Int := lkW WL z
/-- WORDS stands -/
structure TW (K : PySem.W.Frag) (w : World) : Prop where
  kd : ∃ es n, KDict K w (He.ga K "WORDS") es n
  ok : wdB K = true
theorem wkv_some {e : DictEntry} {p : Str × Int} (h : wkv e = some p) : ∃ t u, e.key = .str p.1 t ∧ e.val = .int p.2 u := by
  unfold wkv at h
  split at h
  · rename_i x t i u h1 h2
    cases h
    exact ⟨t, u, h1, h2⟩
  · cases h
theorem ns_list {z : Str} : ∀ {l : List DictEntry} {kv : List (Str × Int)}, l.map wkv = kv.map some → (∀ i, lkW kv z = some i → ∃ e t, l.find? (·.key.isStr z) = some e ∧ e.val = .int i t) ∧ (lkW kv z = none → l.find? (·.key.isStr z) = none) ∧ l.any (·.refKey) = false
  | [], [], _ => ⟨fun i h => (by unfold lkW at h; simp at h), ⟨fun _ => rfl, rfl⟩⟩
  | [], _ :: _, h => by cases h
  | _ :: _, [], h => by cases h
  | e :: l, p :: kv, h => by
    injection h with h1 h2
    obtain ⟨t, u, k1, k2⟩ := wkv_some h1
    obtain ⟨ih1, ih2, ih3⟩ := ns_list (z := z) h2
    have ei : e.key.isStr z = decide (p.1 = z) := by
      rw [k1, Bool.eq_iff_iff, decide_eq_true_eq]
      exact beq_iff_eq
    have er : e.refKey = false := by unfold DictEntry.refKey; rw [k1]
    by_cases c : p.1 = z
    · have c1 : e.key.isStr z = true := by rw [ei]; exact decide_eq_true c
      have e1 : lkW (p :: kv) z = some p.2 := by unfold lkW; rw [List.find?_cons_of_pos (by simpa using c)]; rfl
      refine ⟨fun i hi => ?_, fun hn => ?_, ?_⟩
      · rw [e1] at hi; cases hi
        exact ⟨e, u, List.find?_cons_of_pos (p := fun x : DictEntry => x.key.isStr z) c1, k2⟩
      · rw [e1] at hn; cases hn
      · rw [List.any_cons, er, ih3]; rfl
    · have c1 : ¬ e.key.isStr z = true := by rw [ei]; simpa using c
      have e1 : lkW (p :: kv) z = lkW kv z := by unfold lkW; rw [List.find?_cons_of_neg (by simpa using c)]
      rw [e1, List.find?_cons_of_neg (p := fun x : DictEntry => x.key.isStr z) c1]
      exact ⟨ih1, ih2, by rw [List.any_cons, er, ih3]; rfl⟩
theorem TW.ns {K : PySem.W.Frag} {w : World} (U : TW K w) (z : Str) : (∀ i, wN z = some i → ∃ t, PySem.W.nsIn K (He.ga K "WORDS") z = some (some (.int i t))) ∧ (wN z = none → PySem.W.nsIn K (He.ga K "WORDS") z = some none) := by
  obtain ⟨es, n, D⟩ := U.kd
  have h := U.ok
  unfold wdB at h
  rw [D.at_] at h
  obtain ⟨h1, h2, h3⟩ := ns_list (z := z) (of_decide_eq_true h)
  unfold PySem.W.nsIn
  rw [D.at_]
  constructor
  · intro i hi
    obtain ⟨e, t, f, g⟩ := h1 i hi
    exact ⟨t, by simp only []; rw [f]; simp only []; rw [g]⟩
  · intro hn
    simp only []
    rw [h2 hn]
    simp only []
    rw [if_neg (by rw [h3]; decide)]
def gInW (K : PySem.W.Frag) (neg : Bool) : R2 := fun x y H Q => ∃ z : Str, x = .str z ∧ y = .ref (He.ga K "WORDS") ∧ Q (.bl (if neg then (wN z).isNone else (wN z).isSome)) H
def gIxW (K : PySem.W.Frag) : R2 := fun x y H Q => ∃ (z : Str) (i : Int), x = .ref (He.ga K "WORDS") ∧ y = .str z ∧ wN z = some i ∧ Q (.int i) H
section
variable {X : Cx}
theorem nsr {z : Str} (U : TW X.K X.w) : ∃ r : Option Value, PySem.W.nsIn X.K (He.ga X.K "WORDS") z = some r ∧ r.isSome = (wN z).isSome := by
  obtain ⟨h1, h2⟩ := U.ns z
  cases e : wN z with
  | none => exact ⟨none, h2 e, rfl⟩
  | some i => obtain ⟨t, q⟩ := h1 i e; exact ⟨_, q, rfl⟩
theorem op_inW (U : TW X.K X.w) : OpR X (compareOp .In) (gInW X.K false) := by
  obtain ⟨es, n, D⟩ := U.kd
  intro pins s σ H x y v u Q I rx ry ⟨z, e1, e2, q⟩
  obtain ⟨r, h1, h2⟩ := nsr (z := z) U
  exact op_in_kd D pins s σ H x y v u Q I rx ry ⟨z, r, e1, e2, h1, by rw [h2]; exact q⟩
theorem op_ninW (U : TW X.K X.w) : OpR X (compareOp .NotIn) (gInW X.K true) := by
  obtain ⟨es, n, D⟩ := U.kd
  intro pins s σ H x y v u Q I rx ry ⟨z, e1, e2, q⟩
  obtain ⟨r, h1, h2⟩ := nsr (z := z) U
  refine op_notIn_kd D pins s σ H x y v u Q I rx ry ⟨z, r, e1, e2, h1, ?_⟩
  rw [h2]
  have : (!(wN z).isSome) = (wN z).isNone := by cases wN z <;> rfl
  rw [this]; exact q
theorem op_ixW (U : TW X.K X.w) : OpR X getItem (gIxW X.K) := by
  obtain ⟨es, n, D⟩ := U.kd
  intro pins s σ H x y v u Q I rx ry ⟨z, i, e1, e2, e3, q⟩
  obtain ⟨t, h1⟩ := (U.ns z).1 i e3
  exact op_item_kd D pins s σ H x y v u Q I rx ry ⟨z, _, .int i, e1, e2, h1, ⟨t, rfl⟩, q⟩
end
end TA

set_option linter.all false
set_option maxRecDepth 100000
set_option maxHeartbeats 4000000
/-! try, with a clause for each of the text's errors that sets a word. -/
namespace TA
open PySem PySem.Spec L2 PyProof.Rows
/-- what the clauses wish: the word of the error's class is stored at j -/
def wWord (K : PySem.W.Frag) (ws : List (Str × Str)) (j : Nat) (D : Ends) : WX := fun cls d σ H => ∃ e z : Str, (e, z) ∈ ws ∧ cls = .ref (He.ga K e) ∧ D.nx (σ.set j (some (.str z))) H
/-- the clauses' readings -/
def tsW (K : PySem.W.Frag) (j : Nat) (ws : List (Str × Str)) : List (Value × (Addr → Value → Option Addr → TS)) := ws.map fun p => (.ref (He.ga K p.1), fun _ _ _ => tAsg (tC (.str p.2)) (gName j))
theorem many_of {K : PySem.W.Frag} {j : Nat} {D : Ends} {e z : Str} {d : Option Addr} {σ : L2.St} {H : Hp} (hq : D.nx (σ.set j (some (.str z))) H) : ∀ {ws : List (Str × Str)}, (∀ p ∈ ws, PySem.W.exmOne K (.ref (He.ga K e)) (.ref (He.ga K p.1)) = some (decide (e = p.1))) → (e, z) ∈ ws → (ws.map Prod.fst).Nodup →
    wMany K (fun _ _ _ _ => False) D (tsW K j ws) (.ref (He.ga K e)) d σ H
  | [], _, h, _ => by cases h
  | p :: ws, hx, h, nd => by
    refine ⟨decide (e = p.1), hx p List.mem_cons_self, fun hb a _ => ?_, fun hb => ?_⟩
    · have ep : e = p.1 := of_decide_eq_true hb
      have ez : z = p.2 := by
        rcases List.mem_cons.mp h with q | q
        · rw [← q]
        · rw [List.map_cons, List.nodup_cons] at nd
          exact absurd (List.mem_map.mpr ⟨(e, z), q, ep⟩) nd.1
      rw [ez] at hq
      exact hq
    · have ne : ¬ e = p.1 := of_decide_eq_false hb
      rcases List.mem_cons.mp h with q | q
      · exact absurd (congrArg Prod.fst q) ne
      · rw [List.map_cons, List.nodup_cons] at nd
        exact many_of hq (fun p hp => hx p (List.mem_cons_of_mem _ hp)) q nd.2
abbrev ws3 : List (Str × Str) := [("BadText", "text"), ("BadNumber", "number"), ("BadAsk", "ask")]
abbrev exO (K : PySem.W.Frag) (x y : Str) : Option Bool := PySem.W.exmOne K (.ref (He.ga K x)) (.ref (He.ga K y))
theorem exm3 {K : PySem.W.Frag} (h1 : exO K "BadText" "BadText" = some true) (h2 : exO K "BadText" "BadNumber" = some false) (h3 : exO K "BadText" "BadAsk" = some false) (h4 : exO K "BadNumber" "BadText" = some false) (h5 : exO K "BadNumber" "BadNumber" = some true) (h6 : exO K "BadNumber" "BadAsk" = some false)
    (h7 : exO K "BadAsk" "BadText" = some false) (h8 : exO K "BadAsk" "BadNumber" = some false) (h9 : exO K "BadAsk" "BadAsk" = some true) : ∀ p ∈ ws3, ∀ q ∈ ws3, PySem.W.exmOne K (.ref (He.ga K p.1)) (.ref (He.ga K q.1)) = some (decide (p.1 = q.1)) := by
  intro p hp q hq
  simp only [List.mem_cons, List.not_mem_nil, or_false] at hp hq
  rcases hp with rfl | rfl | rfl <;> rcases hq with rfl | rfl | rfl
  · exact h1.trans (by decide)
  · exact h2.trans (by decide)
  · exact h3.trans (by decide)
  · exact h4.trans (by decide)
  · exact h5.trans (by decide)
  · exact h6.trans (by decide)
  · exact h7.trans (by decide)
  · exact h8.trans (by decide)
  · exact h9.trans (by decide)
section
variable {X : Cx} {body : List Stmt} {h₀ : ExceptHandler} {hds : List ExceptHandler} {pos : Pos} {tb : WX → TS} {ws : List (Str × Str)} {j : Nat}
theorem ps_words (hs : X.stack = X.env :: X.outer) (hf : X.env.frame = some X.env.locals) (hx : ∀ p ∈ ws, ∀ q ∈ ws, PySem.W.exmOne X.K (.ref (He.ga X.K p.1)) (.ref (He.ga X.K q.1)) = some (decide (p.1 = q.1))) (nd : (ws.map Prod.fst).Nodup)
    (hb : ∀ (W : WX) (pn : List (Addr × Obj)) (xe : Value → Shared → Prop), Takes (X.tr pn xe) W → PassesOwn (model X.prog X.w) X.A X.env xe → PSs (X.tr pn xe) body (tb W))
    (hh : HdsOk X (h₀ :: hds) (tsW X.K j ws)) : PS X (.Try body (h₀ :: hds) [] [] pos) (fun D σ H => tb (wWord X.K ws j D) D σ H) := by
  have key := ps_try_many (pos := pos) (Wout := fun _ _ _ _ => False) (tb := fun W D σ H => ∃ W' : WX, (∀ c d σ H, W' c d σ H → W c d σ H) ∧ tb W' D σ H) hs hf takes_none5
    (fun W pn xe tk po => ⟨fun pins s σ H D I ⟨W', k, q⟩ => (hb W' pn xe (tk.imp k) po).run pins s σ H D I q⟩) hh
  refine PS_imp key fun D σ H h => ⟨wWord X.K ws j D, ?_, h⟩
  rintro c d σ' H' ⟨e, z, hm, rfl, q⟩
  exact many_of q (fun p hp => hx (e, z) hm p hp) hm nd
/-- WORDS, by its name -/
theorem pe_cR {x : Str} {a : Addr} {pos : Pos} (h : X.mg x = some (.ref a)) (hg : Gl X x := by rfl) (hd : (x == ("__debug__" : Str)) = false := by decide) : PE X (.Name x pos) (tC (.ref a)) := pe_glob hg h rfl hd
/-- WORDS[z] -/
theorem pe_ixW {o i : Expr} {td ty : TE} {pos : Pos} (U : TW X.K X.w) (ho : PE X o td) (hi : PE X i ty) (hs : NoSl i) : PE X (.Subscript o i pos) (tOp (gIxW X.K) td ty) := by
  obtain ⟨es, n, D⟩ := U.kd
  refine ⟨fun pins s σ H Q I h => ?_⟩
  refine subD_of PySem.F.slot_dict_getitem.lookup hs (thn (ho.run pins s σ H _ I h) fun u s1 ⟨x, H1, I1, rx, q1⟩ => thn (hi.run pins s1 σ H1 _ I1 q1) fun iv s2 ⟨y, H2, I2, ry, q2⟩ => ?_)
  have q3 := q2
  obtain ⟨z, k, ex, ey, _⟩ := q2
  subst ex
  have eu : u = Value.ref (He.ga X.K "WORDS") := rx
  subst eu
  exact ⟨kd_type D I2, op_ixW U pins s2 σ H2 (.ref (He.ga X.K "WORDS")) y _ iv Q I2 rx ry q3⟩
end
end TA

set_option linter.all false
set_option maxRecDepth 100000
set_option maxHeartbeats 4000000
/-! A list that fills names. -/
namespace TA
open PySem PySem.Spec L2 PyProof.Rows
section
variable {prog : Program} {w : World} {A : Around} {E : Value → Shared → Prop}
theorem draw_list {it t : Addr} {items : Array Value} (hne : t ≠ it) : ∀ (n i : Nat) (s : Shared) (Q : List Value → Shared → Prop), s.heap.IsListIter it t i → s.heap.IsList t items → i + n ≤ items.size →
    (∀ h', h'.IsListIter it t (i + n) → Heap.SameBut it s.heap h' → Q ((items.toList.drop i).take n) { s with heap := h' }) → wpAny (model prog w) A (draw (.ref it) n) Q E s
  | 0, i, s, Q, hit, _, _, hQ => by
    show wpAny _ _ (pure []) Q E s
    exact wpAny_pure (by simpa using hQ s.heap hit (Heap.SameBut.refl ..))
  | n + 1, i, s, Q, hit, ht, hle, hQ => by
    have hlt : i < items.size := by omega
    show wpAny _ _ (pyNext (.ref it) >>= _) Q E s
    refine wpAny_bind (wpAny_pyNext_list_item hit ht (x := items[i]) (by simp [hlt]) fun h₁ hit₁ hs₁ => ?_)
    refine wpAny_bind (wpAny_holding (draw_list hne n (i + 1) _ _ hit₁ (ht.extBut hs₁.extBut hne) (by omega) fun h₂ hit₂ hs₂ => wpAny_pure ?_))
    have hd : items.toList.drop i = items[i] :: items.toList.drop (i + 1) := by simp [List.drop_eq_getElem_cons, hlt]
    have := hQ h₂ (by rw [show i + (n + 1) = i + 1 + n by omega]; exact hit₂) (hs₁.trans hs₂)
    rw [hd, List.take_succ_cons] at this
    exact this
variable {s : Shared}
theorem unpackItems_list {t : Addr} {items : Array Value} {Q : List Value → Shared → Prop} (hh : A.handled = none) (ht : s.heap.IsList t items)
    (hQ : ∀ h', Heap.ExtBut s.heap.objs.size s.heap h' → Q items.toList { s with heap := h' }) : wpAny (model prog w) A (unpackItems (.ref t) items.size none) Q E s := by
  have hlt : t ≠ s.heap.objs.size := by obtain ⟨o, ho, _⟩ := ht; exact Nat.ne_of_lt (Heap.lt_size ho)
  unfold unpackItems
  refine wpAny_bind ?_
  · unfold notIterableAtAll
    refine wpAny_bind (wpAny_specialOf ht.typeIs slot_list_iter.lookup ?_)
    refine wpAny_pure ?_
    simp only [Bool.false_eq_true, if_false]
    refine wpAny_bind (wpAny_holding (wpAny_pyIter_list ht ?_))
    refine wpAny_bind (wpAny_holding (draw_list hlt items.size 0 _ _ ⟨_, Heap.get?_push_size _ rfl, rfl, rfl⟩ (ht.push _) (by omega) fun h₁ hit₁ hs₁ => ?_))
    have hall : List.take items.size (List.drop 0 items.toList) = items.toList := by
      rw [List.drop_zero]; exact List.take_of_length_le (by simp)
    rw [hall]
    rw [if_neg (by simp)]
    have ht₁ : h₁.IsList t items := (ht.push _).extBut hs₁.extBut hlt
    refine wpAny_bind (wpAny_holding (wpAny_pyNext_list_end hh hit₁ ht₁ (by simp) fun h₂ he₂ => ?_))
    simp only [Option.isSome_none, Bool.false_eq_true, if_false]
    refine wpAny_pure (hQ h₂ fun b o hb e => he₂ b o hb (hs₁.extBut b o hb (Heap.get?_push_of_some _ e)))
theorem unpack_list {t : Addr} {items : Array Value} {targets : List (Bool × (Value → Sem Unit))} {Q : Unit → Shared → Prop} (hh : A.handled = none) (ht : s.heap.IsList t items)
    (hn : targets.length = items.size) (hstar : targets.findIdx? (·.1) = none)
    (h : ∀ h', Heap.ExtBut s.heap.objs.size s.heap h' → wpAny (model prog w) A (assignInOrder (targets.map (·.2)) items.toList) Q E { s with heap := h' }) :
    wpAny (model prog w) A (unpack (.ref t) targets) Q E s := by
  unfold unpack
  rw [hn, hstar]
  exact wpAny_bind (wpAny_holding (unpackItems_list hh ht h))
theorem assign_Tuple_list {env : Env} {elts : List Expr} {x1} {pos : Pos} {t : Addr} {items : Array Value} {Q : Unit → Shared → Prop} (hh : A.handled = none) (ht : s.heap.IsList t items)
    (hn : (assignEach elts env).length = items.size) (hstar : (assignEach elts env).findIdx? (·.1) = none)
    (h : ∀ h', Heap.ExtBut s.heap.objs.size s.heap h' → wpAny (model prog w) A (assignInOrder ((assignEach elts env).map (·.2)) items.toList) Q E { s with heap := h' }) :
    wpAny (model prog w) A (assign (.Tuple elts x1 pos) env (.ref t)) Q E s := by
  rw [assign_Tuple]
  exact wpAny_bind (wpAny_standAt (unpack_list hh ht hn hstar h))
end
/-- (a, b, ..) = a list of that length -/
def fTupL (n : Nat) (t : TGs) : TG := fun v σ H Q => ∃ a xs, v = .ref a ∧ H a = some (.lst xs) ∧ xs.length = n ∧ t xs σ H Q
theorem pg_tupL {X : Cx} {pos : Pos} {es : List Expr} {k : Nat} {t : TGs} {n : Nat} (hc : X.calm = true) (h : PGs X es t)
    (hn : (assignEach es X.env).length = n := by rfl) (hst : (assignEach es X.env).findIdx? (·.1) = none := by rfl) : PG X (.Tuple es k pos) (fTupL n t) := by
  refine ⟨fun pins s σ H v u Q I r hw => ?_⟩
  obtain ⟨a, xs, e1, hq, hl, hw⟩ := hw
  subst e1
  cases r
  obtain ⟨its, rv, ht, hz⟩ := I.list (SqL.of hq)
  refine assign_Tuple_list (I.ok.hd hc) ht.isList (by simp [hn, ← hl, rv.length]) hst fun h' hx => ?_
  have I1 : Inv X pins σ H { s with heap := h' } := I.kept (t' := s.toks) fun b o e => hx b o (Nat.ne_of_lt (Heap.lt_size e)) e
  exact h.run pins _ σ H xs _ Q I1 (by simpa using rv) hw
end TA

set_option linter.all false
set_option maxRecDepth 100000
set_option maxHeartbeats 4000000
/-! isinstance of lists, tuples, dicts. -/
namespace TA
open PySem PySem.Spec L2 PyProof.Rows
/-- the name of a value's type -/
inductive TyN (H : Hp) : V → String → Prop where
  | non : TyN H .non "NoneType"
  | bl (b : Bool) : TyN H (.bl b) "bool"
  | int (i : Int) : TyN H (.int i) "int"
  | str (x : Str) : TyN H (.str x) "str"
  | lst {a : Addr} {xs : List V} (h : H a = some (.lst xs)) : TyN H (.ref a) "list"
  | tup {a : Addr} {xs : List V} (h : H a = some (.tup xs)) : TyN H (.ref a) "tuple"
  | dK {a : Addr} {kvs : List (Key × V)} (h : H a = some (.dK kvs)) : TyN H (.ref a) "dict"
theorem TyN.ty {K : PySem.W.Frag} {H : Hp} {x : V} {t : String} (h : TyN H x t) : TyX K H x (.type t) := by
  cases h with
  | non => exact .base .non
  | bl b => exact .base (.bl b)
  | int i => exact .base (.int i)
  | str x => exact .base (.str x)
  | lst h => exact .base (.lst h)
  | tup h => exact .base (.tup h)
  | dK h => exact .base (.dK h)
theorem kit_list {K : PySem.W.Frag} {H : Hp} {x : V} {t : String} (h : TyN H x t) : PySem.W.kitOne K (.type t) (.type "list") = some (decide (t = "list")) := by
  cases h <;> rfl
theorem kit_tup {K : PySem.W.Frag} {H : Hp} {x : V} {t : String} (h : TyN H x t) : PySem.W.kitOne K (.type t) (.type "tuple") = some (decide (t = "tuple")) := by
  cases h <;> rfl
theorem kit_dict {K : PySem.W.Frag} {H : Hp} {x : V} {t : String} (h : TyN H x t) : PySem.W.kitOne K (.type t) (.type "dict") = some (decide (t = "dict")) := by
  cases h <;> rfl
def gIsN (T : String) : List V → Hp → VK → Prop := fun xs H Q => ∃ (x : V) (t : String), xs = [x, .ty T] ∧ TyN H x t ∧ Q (.bl (decide (t = T))) H
theorem isN_of {X : Cx} {T : String} (h : ∀ {H : Hp} {x : V} {t : String}, TyN H x t → PySem.W.kitOne X.K (.type t) (.type T) = some (decide (t = T))) : CallR X (.builtin "isinstance") (gIsN T) := by
  intro pins s σ H xs us Q I r ⟨x, t, e1, ty, q⟩
  exact call_isi pins s σ H xs us Q I r ⟨x, .ty T, .type t, .type T, _, e1, by constructor, ty.ty, h ty, q⟩
section
variable {X : Cx} {e : Expr} {te : TE} {p p2 pos : Pos}
theorem pe_isN (T : String) (y : Str) (hv : bootBuiltins y = some (.type T)) (hn : y ≠ "__name__") (hd : (y == ("__debug__" : Str)) = false) (hk : ∀ {H : Hp} {x : V} {t : String}, TyN H x t → PySem.W.kitOne X.K (.type t) (.type T) = some (decide (t = T))) (hm : X.mg "isinstance" = none) (hm' : X.mg y = none) (he : PE X e te) (hg : Gl X "isinstance" := by rfl) (hg2 : Gl X y := by rfl)
    (h1 : starEach [e, .Name y p2] X.env = (false, eval e X.env) :: starEach [.Name y p2] X.env := by rfl) (h2 : starEach [.Name y p2] X.env = (false, eval (.Name y p2) X.env) :: starEach [] X.env := by rfl) (hpl : (backTo pos (starEach [.Name y p2] X.env)).any (·.1) = false := by rfl) :
    PE X (.Call (.Name "isinstance" p) [e, .Name y p2] [] pos) (tCB (gIsN T) (tCons te (tCons (tC (.ty T)) tNil))) :=
  pe_callB (isN_of hk) hg hm (by decide +kernel) (pa_cons he (pa_cons (pe_bltn hg2 hm' hv (v := .ty T) rfl hn hd) pa_nil h2) h1) (by decide) (by decide) h1 hpl
end
/-! ### the head tells of WORDS -/
def tabW : List He.Tab := [(fun K => He.ga K "WORDS", ["put", "key", "rub", "tick", "again", "add", "remove"])]
section
variable {fa : List He.Fa} {fn : List He.DefD} {h : Heap} {b : PySem.W.Frag → Bool} {K : PySem.W.Frag} {mg : Str → Option Value} {w : World}
theorem tx_ofW (X : K.In h) (G : h.Ns mainGlobals mg) (c : He.SaysX fa fn tabW [] (fun K => b K && wdB K) w h K) : TX fa K mg b :=
  ⟨⟨h, X, G⟩, fun _ hf => He.SaysD.facts c.t.d hf, (Bool.and_eq_true_iff.mp c.more).1⟩
theorem tw_of (c : He.SaysX fa fn tabW [] (fun K => b K && wdB K) w h K) : TW K w := ⟨He.SaysT.tab c.t 0 rfl, (Bool.and_eq_true_iff.mp c.more).2⟩
end
end TA

set_option linter.all false
set_option maxRecDepth 100000
set_option maxHeartbeats 4000000
/-! An exception that leaves a list comprehension from its element. -/
namespace TA
open PySem PySem.Spec L2 PyProof.Rows
/-- what is wanted behind a comprehension's block, an exception too -/
def cPost (M : Model) (A : Around) (E : Value → Shared → Prop) (env : Env) (Q : Value → Shared → Prop) (acc : Value) (C : Addr) (r : Result) (s' : Shared) : Prop :=
  match r with
  | .ok _ => ∃ m, s'.heap.Ns C m ∧ ∀ h', Heap.SameBut C s'.heap h' → Q acc { s' with heap := h' }
  | .error x => ∃ m, s'.heap.Ns C m ∧ ∀ h', Heap.SameBut C s'.heap h' → ∀ cenv : Env, cenv.frame = env.frame → wpAny M A (PySem.passOn "comprehension.variables-let-go" x cenv : Sem Value) (fun _ _ => False) E { s' with heap := h' }
section
variable {M : Model} {A : Around} {E : Value → Shared → Prop} {s : Shared} {env : Env}
theorem comp_freeX {e : Expr} {scope : Scope} {pos : Pos} {newAcc first : Sem Value} {g : Comprehension} {gs : List Comprehension} {cl : List (Str × Addr)} {Q : Value → Shared → Prop}
    (hcl : clausesOf e = g :: gs) (hs : ∀ x, foldedSetIterable g.iter env x = pure x) (hclos : closureFor scope env = pure cl)
    (hkind : scope.kind = .function) (hnames : ∀ x ∈ scope.names, x.2 = .local → scope.names.lookup x.1 = some .local)
    (h : wpAny M A first (fun x s₁ => wpAny M A (pyIter x) (fun it s₂ => wpAny M A newAcc (fun acc s₃ =>
      wpAny M A (newFunctionEnv scope env.globals cl [] env.qual none .none (some env)) (fun cenv s₄ => cenv.frame = env.frame ∧
        codeAny M A (.compStart e 0 it acc { cenv with scope := relabel scope env }) (cPost M A E env Q acc cenv.locals) s₄) E s₃) E s₂) E s₁) E s) :
    wpAny M A (comprehension e scope env pos newAcc false first none) Q E s := by
  unfold comprehension
  rw [hclos, hcl]
  refine wpAny_bind (wpAny_mono h (fun x s₁ h₁ => wpAny_bind (wpAny_standAt (wpAny_bind (wpAny_of_eq (hs x) (wpAny_bind (wpAny_holding (wpAny_mono h₁ (fun it s₂ h₂ =>
    wpAny_standIf (wpAny_bind (wpAny_mono h₂ (fun acc s₃ h₃ => wpAny_bind (wpAny_pure (wpAny_bind (wpAny_mono h₃ (fun cenv s₄ h₄ => ?_) fun _ _ h' => h')))) fun _ _ h' => h')))
      fun _ _ h' => h'))))))) fun _ _ h' => h')
  dsimp only
  obtain ⟨hfr, h₄⟩ := h₄
  have hv : ∀ x ∈ (scope.names.filter fun x => (x.2 == .local || x.2 == .cell) && x.1 != (".0" : Str)).reverse, x.2 = .local →
      Env.kindOf { cenv with scope := relabel scope env } x.1 = some .local := fun x hx hl => lookup_relabel_local (hnames x (List.mem_filter.mp (List.mem_reverse.mp hx)).1 hl)
  refine wpAny_holding (wpAny_bind (wpAny_attempt (wpAny_holding (wpAny_run (codeAny_mono h₄ fun r s' hr => ?_)))))
  cases r with
  | ok f =>
    obtain ⟨m, hn, hr⟩ := hr
    exact wpAny_bind (wpAny_holding (wpAny_comp_letGo (cenv := { cenv with scope := relabel scope env }) hkind _ s' m hv hn fun h' m' _ hs' => wpAny_pure (hr h' hs')))
  | error x =>
    obtain ⟨m, hn, hr⟩ := hr
    exact wpAny_bind (wpAny_holding (wpAny_comp_letGo (cenv := { cenv with scope := relabel scope env }) hkind _ s' m hv hn fun h' m' _ hs' => wpAny_mono (hr h' hs' _ hfr) (fun _ _ f => f.elim) fun _ _ y => y))
end
theorem noteFrame_frame {e : Value} {env env' : Env} (h : env.frame = env'.frame) : noteFrame e env = noteFrame e env' := by
  unfold noteFrame PySem.frameOf
  rw [h]
theorem funFrames_at {h h' B B' : Heap} : ∀ {l : List Env}, h.FunFrames B l → (∀ L ∈ frs l, ∀ o, h.get? L = some o → h'.get? L = some o) → (∀ L ∈ frs l, B.get? L = none → B'.get? L = none) → h'.FunFrames B' l
  | [], _, _, _ => trivial
  | env :: l, h, k, kb => by
    obtain ⟨hk, ⟨L, o, hf, hb, ho, hd⟩, hr⟩ := h
    have hm : L ∈ frs (env :: l) := List.mem_filterMap.mpr ⟨env, List.mem_cons_self, hf⟩
    have sub : ∀ b, b ∈ frs l → b ∈ frs (env :: l) := fun b hb => by
      obtain ⟨e, he, q⟩ := List.mem_filterMap.mp hb
      exact List.mem_filterMap.mpr ⟨e, List.mem_cons_of_mem _ he, q⟩
    exact ⟨hk, ⟨L, o, hf, kb L hm hb, k L hm o ho, hd⟩, funFrames_at hr (fun b hb => k b (sub b hb)) fun b hb => kb b (sub b hb)⟩
section
variable {X : Cx} {E : XK}
/-- the context of a block from whose element an exception may leave -/
abbrev blkE (X : Cx) (s : Shared) (H : Hp) (scope : Scope) (cenv : Env) (fp : List Addr) (xe : Value → Shared → Prop) : Cx := (X.blk s H scope cenv fp).tr [] xe
theorem leave_block {pins : List (Addr × Obj)} {σ : L2.St} {H3 : Hp} {s3 : Shared} {scope : Scope} {cl : List (Str × Addr)} {fp : List Addr} {xe : Value → Shared → Prop} {ce : Env} {Qf : Value → Shared → Prop} {acc : Value}
    (hst : X.stack = X.env :: X.outer) (hfr : X.env.frame = some X.env.locals) (tk : Takes X (WD E)) (I3 : Inv X pins σ H3 s3) (f3 : ∀ b ∈ fp, FpOk X pins H3 b ∧ b < s3.heap.objs.size) (hce : ce = compEnvC scope cl s3.heap.objs.size X.env)
    {pins' : List (Addr × Obj)} {σ' : L2.St} {H' : Hp} {s s' : Shared} {e : Value} (I' : Inv (blkE X s3 H3 scope ce fp xe) pins' σ' H' s) (c : L2.CX X.prog X.w X.stack H' s E e s') :
    notedBy (model X.prog X.w) X.A ce (fun e s' => cPost (model X.prog X.w) X.A X.xe X.env Qf acc s3.heap.objs.size (.error e) s') e s' := by
  have x : XE (blkE X s3 H3 scope ce fp xe) (WD E) e s' := XE.of_call (X := blkE X s3 H3 scope ce fp xe) (W := WD E) I' (fun cls d H' h => h) c
  obtain ⟨a, B, sI, pins2, σ2, H2, cls, d, rfl, I2, nb, up, sky, na, os, ag, w⟩ := x
  obtain ⟨a', B', H'', cls', d', ea, fl', _⟩ := c
  cases ea
  have hcf : ce.frame = X.env.frame := by rw [hce]; rfl
  have hcL : ce.locals = s3.heap.objs.size := by rw [hce]; rfl
  have hfrm : X.A.frames = some (X.env :: X.outer) := by rw [I3.ok.frames, hst]
  unfold notedBy
  rw [noteFrame_frame hcf]
  have hne : ∀ L ∈ frs X.stack, L ≠ s3.heap.objs.size := fun L hL z => by
    obtain ⟨_, o, e, _⟩ := I3.stack.mem hL
    have := Heap.lt_size e
    rw [z] at this
    exact Nat.lt_irrefl _ this
  have fin : ∀ h1, HandSPX.HeldZ B X.stack a (Zc cls d) X.env.locals h1 → s'.heap.UpToSlots h1 → cPost (model X.prog X.w) X.A X.xe X.env Qf acc s3.heap.objs.size (.error (.ref a)) { s' with heap := h1 } := by
    intro h1 hh up1
    obtain ⟨k1, k2, k3, k4⟩ := hh
    obtain ⟨m, hn, _⟩ := I2.loc
    have hn : sI.heap.Ns ce.locals m := hn
    rw [hcL] at hn
    obtain ⟨o, es, ep, ho, hd, sk, hm⟩ := hn
    have hoB := nb _ o ho (fun z => hne _ z rfl)
    refine ⟨m, ⟨o, es, ep, k1 _ o hoB, hd, sk, hm⟩, fun h' sb cenv hcenv => ?_⟩
    obtain ⟨oe, vs, T, oT, ts, he, hz, hd1, h1v, hnT, hTe, hT, hdT, h3⟩ := k4
    have aC : a ≠ s3.heap.objs.size := fun z => by rw [← z, k2] at hoB; cases hoB
    have TC : T ≠ s3.heap.objs.size := fun z => by rw [← z, hnT] at hoB; cases hoB
    have inB : ∀ b o, (PySem.W.hideAll B [s3.heap.objs.size]).get? b = some o → b ≠ s3.heap.objs.size ∧ B.get? b = some o := fun b o e =>
      ⟨fun z => (by rw [z, PySem.W.hideAll_none _ (by simp)] at e; cases e), PySem.W.of_hideAll _ e⟩
    have noB : ∀ b, B.get? b = none → (PySem.W.hideAll B [s3.heap.objs.size]).get? b = none := fun b hb => by
      cases q : (PySem.W.hideAll B [s3.heap.objs.size]).get? b with
      | none => rfl
      | some o => rw [(inB b o q).2] at hb; cases hb
    have st2 : (PySem.W.hideAll B [s3.heap.objs.size]).StaysIn h' := fun b o e => (sb.2 b (inB b o e).1).trans (k1 b o (inB b o e).2)
    have ff2 : h'.FunFrames (PySem.W.hideAll B [s3.heap.objs.size]) X.stack := funFrames_at k3 (fun L hL o e => (sb.2 L (hne L hL)).trans e) fun L hL e => noB L e
    have tr2 : HandSPX.TracedZ h' (PySem.W.hideAll B [s3.heap.objs.size]) a (Zc cls d) (rawInt X.env.locals) := ⟨oe, vs, T, oT, ts, (sb.2 a aC).trans he, hz, hd1, h1v, noB T hnT, hTe, (sb.2 T TC).trans hT, hdT, h3⟩
    unfold PySem.passOn
    refine wpAny_bind (wpAny_field (s := { s' with heap := h' }) ((sb.2 a aC).trans he) hd1 h1v ?_)
    rw [if_neg (show ¬ ((Value.ref T == Value.none) = true) from by simp), hcenv, hfr]
    refine wpAny_bind (HandSPX.setFlight_anyZ (s := { s' with heap := h' }) (fr := some X.env.locals) st2 ff2 tr2 fun h2 q1 q2 q3 q4 => wpAny_throw ?_)
    have nC : H2 s3.heap.objs.size = none := by
      have z : H2 ce.locals = none := I2.free
      rw [hcL] at z
      exact z
    have I7 : Inv X pins σ H2 sI := I3.call' (ch := fp) I2.os I2.base I2.hok I2.bare fun b hb => ⟨(f3 b hb).1.2.2.2.1, (f3 b hb).1.2.1, (f3 b hb).1.2.2.2.2.1, (f3 b hb).1.2.2.2.2.2⟩
    obtain ⟨g0, g1, g2, g3, g4, g5⟩ := I3.fpOk (Nat.le_refl _) nC
    refine tk _ _ ⟨a, PySem.W.hideAll B [s3.heap.objs.size], { sI with heap := PySem.W.hideAll sI.heap [s3.heap.objs.size] }, pins, σ, H2, cls, d, rfl, ?_, fun b o e hb => ?_, fun b o e hnf => ?_, .inr (.inr ⟨q1, noB a k2, q2, q3⟩), na, os, ag, w⟩
    · exact I7.turned (it := s3.heap.objs.size) (t' := sI.toks) (fun b o hb e => PySem.W.hideAll_get _ e (by simpa using hb)) g0 g1 g3 g4 g5
    · have nb2 : b ≠ s3.heap.objs.size := fun z => by rw [z, PySem.W.hideAll_none _ (by simp)] at e; cases e
      exact PySem.W.hideAll_get _ (nb b o (PySem.W.of_hideAll _ e) hb) (by simpa using nb2)
    · have nb2 : b ≠ s3.heap.objs.size := fun z => by rw [z, PySem.W.hideAll_none _ (by simp)] at e; cases e
      obtain ⟨sl1, e1⟩ := up b o (PySem.W.of_hideAll _ e) hnf
      obtain ⟨sl2, e2⟩ := up1 b _ e1 hnf
      obtain ⟨sl3, e3⟩ := q4 b { o with slots := sl2 } ((sb.2 b nb2).trans e2) hnf
      exact ⟨sl3, e3⟩
  have sky : Sky B X.stack a (Zc cls d) ce.locals s'.heap := sky
  rcases sky with ⟨hB, hn, hl, oe, vs, he, hz, hd, h1⟩ | fl | hh
  · rw [hst] at hl fin
    exact HandSPX.look_newZ Zc.steady hfrm hl hfr he hB hn hd h1 hz fin
  · rw [hst] at fl fin
    exact HandSPX.looks_onZ Zc.steady hfrm hfr fl fin
  · obtain ⟨_, _, _, oe, vs, T, oT, ts, he, _, hd1, h1v, _, _, hT, hdT, h3⟩ := hh
    obtain ⟨_, _, _, oe', vs', T', oT', ts', he', _, hd1', h1v', _, _, hT', hdT', h3'⟩ := fl'
    rw [he] at he'; cases he'
    rw [hd1] at hd1'; cases hd1'
    rw [h1v] at h1v'; cases h1v'
    rw [hT] at hT'; cases hT'
    rw [hdT] at hdT'; cases hdT'
    rw [h3] at h3'
    have := Option.some.inj h3'
    simp [rawInt] at this
/-- [elt for target in iter if ..], the element may let an exception out -/
theorem pe_lcX {elt tg iter : Expr} {ifs : List Expr} {scope : Scope} {own : List (Str × Nat)} {pos : Pos} {wi : TI} {g : TG} {tt : TT} {te : TE} (hst : X.stack = X.env :: X.outer) (hfr : X.env.frame = some X.env.locals) (tk : Takes X (WD E)) (hc : X.calm = true) (hN : X.N.Nodup) (hi : PI X tg iter wi) (ok : BlkOk X.N X.env.scope scope own)
    (hg : ∀ (s : Shared) (H : Hp) (C : Addr) (cl : List (Str × Addr)) (fp : List Addr) (xe : Value → Shared → Prop), PG (blkE X s H scope (compEnvC scope cl C X.env) fp xe) tg g) (ht : ∀ (s : Shared) (H : Hp) (C : Addr) (cl : List (Str × Addr)) (fp : List Addr) (xe : Value → Shared → Prop), PTs (blkE X s H scope (compEnvC scope cl C X.env) fp xe) ifs tt)
    (he : ∀ (s : Shared) (H : Hp) (C : Addr) (cl : List (Str × Addr)) (fp : List Addr) (xe : Value → Shared → Prop), Pss (blkE X s H scope (compEnvC scope cl C X.env) fp xe) E → PE (blkE X s H scope (compEnvC scope cl C X.env) fp xe) elt te) (hs : ∀ x, foldedSetIterable iter X.env x = pure x := by intro _; rfl) :
    PE X (.ListComp elt [⟨tg, iter, ifs, 0⟩] scope pos) (tLc wi g tt te (own.map (·.2))) := by
  refine ⟨fun pins s σ H Q I h => ?_⟩
  rw [eval_ListComp]
  have hfree : ∀ y ∈ scope.names, y.2 = .free → ∃ c, X.env.cells.lookup y.1 = some c := fun y hy e => by
    rcases ok.free y hy e with k | k
    · exact I.ok.has _ (.inl k)
    · exact I.ok.has _ (.inr k)
  refine comp_freeX rfl hs (closure_ok hfree) ok.kind (fun y hy e => by rw [ok.uniq y hy, e])
    (thn (hi.run pins s σ H _ I h) fun xv s1 hx => thn hx fun itv s2 h2 => ?_)
  obtain ⟨it, fp, tn, J, H2, e, I2, T, st2, f2, q⟩ := h2
  subst e
  refine wpAny_newObj_type (newEnv_comp ⟨rfl, ?_⟩) (by show 0 ≤ sizeLine; decide)
  generalize hD : s2.heap.objs.size = D
  have hDn : H2 D = none := I2.hok.fresh (Nat.le_of_eq hD)
  obtain ⟨W, ⟨m0, w0⟩, turn⟩ := q D hDn
  generalize hs3 : ({ s2 with heap := s2.heap.push { cls := .type "list", data := .seq ([] : List Value).toArray } } : Shared) = s3
  have I3 : Inv X pins σ (upd H2 D (.lst [])) s3 := by
    rw [← hs3]
    refine I2.laid (t' := s2.toks) (fun b o e => Heap.get?_push_of_some _ e) (Nat.le_of_eq hD) ⟨Nat.zero_le _, [], 0, .nil, ?_⟩
    rw [← hD]
    exact Heap.get?_push_size _ rfl
  have h3 : s3.heap = s2.heap.push { cls := .type "list", data := .seq ([] : List Value).toArray } := by rw [← hs3]
  have sz : ∀ b ∈ fp, b < s2.heap.objs.size := fun b hb => by
    obtain ⟨o, e, _⟩ := T.obj _ _ st2 b hb
    exact Heap.lt_size e
  have f3 : ∀ b ∈ fp, FpOk X pins (upd H2 D (.lst [])) b ∧ b < s3.heap.objs.size := fun b hb => by
    have hlt := sz b hb
    refine ⟨⟨?_, (f2 b hb).2⟩, by rw [h3, Heap.size_push]; exact Nat.lt_succ_of_lt hlt⟩
    rw [upd_ne (by rw [← hD]; exact Nat.ne_of_lt hlt)]
    exact (f2 b hb).1
  have st3 : tn 0 s3.heap := T.keep _ _ _ st2 fun b _ o e => by rw [h3]; exact Heap.get?_push_of_some _ e
  have I4 := block_start I3 ok hN f3
  obtain ⟨cl, hcl⟩ : ∃ cl, cl = cellsFrom (s3.heap.objs.size + 1) scope.names (cloFrom X.env.cells scope.names []) := ⟨_, rfl⟩
  rw [← hcl] at I4
  obtain ⟨ce, hce⟩ : ∃ ce, ce = compEnvC scope cl s3.heap.objs.size X.env := ⟨_, rfl⟩
  show codeAny (model X.prog X.w) X.A (.compStart (.ListComp elt [⟨tg, iter, ifs, 0⟩] scope pos) 0 (.ref it) (.ref D) (compEnvC scope (cellsFrom (s3.heap.objs.size + 1) scope.names (cloFrom X.env.cells scope.names [])) s3.heap.objs.size X.env)) (cPost (model X.prog X.w) X.A X.xe X.env (EP X pins σ Q) (.ref D) s3.heap.objs.size) { s3 with heap := pushCells (s3.heap.push { cls := .type "dict", data := .dict #[] }) scope.names }
  rw [← hcl, ← hce]
  have cL : ce.locals = s3.heap.objs.size := by rw [hce]; rfl
  obtain ⟨XB, hXB⟩ : ∃ XB : Value → Shared → Prop, XB = notedBy (model X.prog X.w) X.A ce (fun e s' => cPost (model X.prog X.w) X.A X.xe X.env (EP X pins σ Q) (.ref D) s3.heap.objs.size (.error e) s') := ⟨_, rfl⟩
  have px : Pss (blkE X s3 (upd H2 D (.lst [])) scope ce fp XB) E := fun pins' σ' H' s e s' I' c => by
    show XB e s'
    rw [hXB]
    exact leave_block hst hfr tk I3 f3 hce I' c
  have pg := hg s3 (upd H2 D (.lst [])) s3.heap.objs.size cl fp XB
  have pt := ht s3 (upd H2 D (.lst [])) s3.heap.objs.size cl fp XB
  have pe := he s3 (upd H2 D (.lst [])) s3.heap.objs.size cl fp XB
  rw [← hce] at I4 pg pt pe
  have pe := pe px
  have nfp : ∀ b ∈ fp, (upd H2 D (.lst [])) b = none := fun b hb => (f3 b hb).1.1
  have I4 : Inv (blkE X s3 (upd H2 D (.lst [])) scope ce fp XB) [] _ _ _ := I4.toTry XB
  generalize hH3 : upd H2 D (.lst []) = H3 at I3 I4 pg pt pe w0 nfp f3
  generalize hs4 : ({ s3 with heap := pushCells (s3.heap.push { cls := .type "dict", data := .dict #[] }) scope.names } : Shared) = s4 at I4 ⊢
  have st4 : tn 0 s4.heap := T.keep _ _ _ st3 fun b _ o e => by rw [← hs4]; exact pushCells_keeps _ _ _ _ (Heap.get?_push_of_some _ e)
  have stat : ∀ {σ' : L2.St} {H' : Hp} {s' : Shared}, Inv (blkE X s3 H3 scope ce fp XB) [] σ' H' s' → (∀ b ∈ fp, H' b = none) → ∀ b ∈ fp, FpOk (blkE X s3 H3 scope ce fp XB) [] H' b := fun {σ' H' s'} I' hn b hb =>
    ⟨hn b hb, (I'.ok.exf b hb).1, I'.ok.exfs b hb, .inl hb, fun x c e => (I'.ok.exf b hb).2 x c e, fun p hp => absurd (show p ∈ ([] : List (Addr × Obj)) ++ [] from hp) (by simp)⟩
  have xin : ∀ {α : Type} {t : Sem α} {Q1 Q2 : α → Shared → Prop} {s0 : Shared}, wpAny (model X.prog X.w) X.A t Q1 XB s0 → (∀ a s, Q1 a s → Q2 a s) → wpAny (model X.prog X.w) X.A t Q2 (notedBy (model X.prog X.w) X.A ce (fun e s' => cPost (model X.prog X.w) X.A X.xe X.env (EP X pins σ Q) (.ref D) s3.heap.objs.size (.error e) s')) s0 := fun h k => wpAny_mono h k fun _ _ z => by rw [hXB] at z; exact z
  have loop : codeAny (model X.prog X.w) X.A (.compLoop (.ListComp elt [⟨tg, iter, ifs, 0⟩] scope pos) 0 (.ref it) (.ref D) ce) (cPost (model X.prog X.w) X.A X.xe X.env (EP X pins σ Q) (.ref D) s3.heap.objs.size) s4 := by
    refine compLoop_any (fun n s' => ∃ i H', Inv (blkE X s3 H3 scope ce fp XB) [] (wipe σ (own.map (·.2))) H' s' ∧ tn i s'.heap ∧ (∀ b ∈ fp, H' b = none) ∧ W i n H') ?_ m0 ⟨0, H3, I4, st4, nfp, w0⟩
    rintro n s5 ⟨i, H5, I5, st5, n5, w5⟩
    rcases turn i n H5 w5 with ⟨stop, qq⟩ | ⟨go, Nx, hNx, step⟩
    · have td := T.done (blkE X s3 H3 scope ce fp XB) rfl rfl rfl hc i [] s5 _ H5 (fun _ _ => False) I5 (stat I5 n5) st5 stop
      refine thnF td fun r s6 ⟨hr, I6⟩ => ?_
      subst hr
      have I7 : Inv X pins σ H5 s6 := I3.call' (ch := fp) I6.os I6.base I6.hok I6.bare fun b hb => ⟨(f3 b hb).1.2.2.2.1, (f3 b hb).1.2.1, (f3 b hb).1.2.2.2.2.1, (f3 b hb).1.2.2.2.2.2⟩
      have nC : H5 s3.heap.objs.size = none := by
        have z : H5 ce.locals = none := I6.free
        rw [cL] at z
        exact z
      obtain ⟨m, hn, _⟩ := I6.loc
      have hn : s6.heap.Ns ce.locals m := hn
      rw [cL] at hn
      obtain ⟨f0, f1, f2, f3', f4, f5⟩ := I3.fpOk (Nat.le_refl _) nC
      exact ⟨m, hn, fun h'' sb => ⟨.ref D, H5, I7.turned (t' := s6.toks) (fun b o hb e => (sb.2 b hb).trans e) f0 f1 f3' f4 f5, rfl, qq⟩⟩
    · have ti := T.item (blkE X s3 H3 scope ce fp XB) rfl rfl rfl hc i [] s5 _ H5 (fun _ _ => False) I5 (stat I5 n5) st5 go
      refine thnF ti fun r s6 ⟨u, hr, h6⟩ => ?_
      subst hr
      refine thnF h6 fun _ s7 ⟨x, H7, I7, r7, y7, st7, n7⟩ => ?_
      have I7' := I7.pinned (stat I7 n7) (T.obj _ _ st7)
      refine xin (pg.run _ s7 _ H7 x u _ I7' r7 (step x H7 y7)) fun _ s8 ⟨σ8, H8, I8, hw8, q8⟩ => ?_
      refine xin (pt.run _ s8 σ8 H8 _ I8 q8) fun b s9 ⟨H9, I9, q9⟩ => ?_
      have fin : ∀ {s' : Shared} {H' : Hp}, Inv (blkE X s3 H3 scope ce fp XB) ([] ++ pinsAt fp s7.heap) σ8 H' s' → Nx H' → ∃ m, m < n ∧ ∃ i H', Inv (blkE X s3 H3 scope ce fp XB) [] (wipe σ (own.map (·.2))) H' s' ∧ tn i s'.heap ∧ (∀ b ∈ fp, H' b = none) ∧ W i m H' := fun {s' H'} I' nx => by
        obtain ⟨m', hm, w'⟩ := hNx H' nx
        have pin' : ∀ b ∈ fp, ∀ o, s7.heap.get? b = some o → s'.heap.get? b = some o ∧ H' b = none := fun b hb o e =>
          let z := I'.pin (b, o) (List.mem_append_right _ (List.mem_append_right _ (mem_pinsAt hb e)))
          ⟨z.1, z.2.1⟩
        have hl : (wipe σ (own.map (·.2))).length = σ8.length := by rw [← hw8, wipe_length]
        refine ⟨m', hm, i + 1, H', (I'.unpinned (pins := [])).weak hl (fun j v e => ?_), T.keep _ _ _ st7 fun b hb o e => (pin' b hb o e).1, fun b hb => ?_, w'⟩
        · rw [← hw8] at e
          exact (wipe_some e).1
        · obtain ⟨o, e, _⟩ := T.obj _ _ st7 b hb
          exact (pin' b hb o e).2
      cases b with
      | false =>
        simp only [Bool.false_eq_true, if_false] at q9 ⊢
        exact fin I9 q9
      | true =>
        simp only [if_true] at q9 ⊢
        refine xin (pe.run _ s9 σ8 H9 _ I9 q9) fun z s10 ⟨yv, H10, I10, r10, acc, hD10, hz10, nx⟩ => ?_
        exact app_ok (X := blkE X s3 H3 scope ce fp XB) I10 hD10 hz10 r10 fun s11 I11 => fin I11 nx
  exact codeAny_compStart_list loop (T.self X.A 0 _ _ _ st4 loop)
theorem pe_lcLX {elt tg iter : Expr} {ifs : List Expr} {scope : Scope} {own : List (Str × Nat)} {pos : Pos} {g : TG} {tt : TT} {te tl : TE} (hst : X.stack = X.env :: X.outer) (hfr : X.env.frame = some X.env.locals) (tk : Takes X (WD E)) (hc : X.calm = true) (hN : X.N.Nodup) (hl : PE X iter tl) (ok : BlkOk X.N X.env.scope scope own)
    (hg : ∀ (s : Shared) (H : Hp) (C : Addr) (cl : List (Str × Addr)) (fp : List Addr) (xe : Value → Shared → Prop), PG (blkE X s H scope (compEnvC scope cl C X.env) fp xe) tg g) (ht : ∀ (s : Shared) (H : Hp) (C : Addr) (cl : List (Str × Addr)) (fp : List Addr) (xe : Value → Shared → Prop), PTs (blkE X s H scope (compEnvC scope cl C X.env) fp xe) ifs tt)
    (he : ∀ (s : Shared) (H : Hp) (C : Addr) (cl : List (Str × Addr)) (fp : List Addr) (xe : Value → Shared → Prop), Pss (blkE X s H scope (compEnvC scope cl C X.env) fp xe) E → PE (blkE X s H scope (compEnvC scope cl C X.env) fp xe) elt te) (hs : ∀ x, foldedSetIterable iter X.env x = pure x := by intro _; rfl) :
    PE X (.ListComp elt [⟨tg, iter, ifs, 0⟩] scope pos) (fLcL tl g tt te (own.map (·.2))) :=
  PE_imp (pe_lcX (E := E) hst hfr tk hc hN (pi_list (PE_mo hl)) ok (fun a b c d e f => PG_mo (hg a b c d e f)) (fun a b c d e f => PTs_mo (ht a b c d e f)) (fun a b c d e f px => PE_mo (he a b c d e f px)) hs) fun _ _ _ h => lcL_up h
/-- str(e) of a number or of a text; int(e) of a text -/
def gStrA : List V → Hp → VK → Prop := fun xs H Q => (∃ i : Int, xs = [.int i] ∧ i.natAbs.log2 < 1920 ∧ Q (.str (toString i)) H) ∨ ∃ a : Str, xs = [.str a] ∧ Q (.str a) H
theorem strA : CallR X (.type "str") gStrA := by
  intro pins s σ H xs us Q I r h
  rcases h with h | h
  · exact call_str_int pins s σ H xs us Q I r h
  · exact SkE.call_str_str pins s σ H xs us Q I r h
def gIntS : List V → Hp → VK → Prop := fun xs H Q => ∃ (a : Str) (n : Int), xs = [.str a] ∧ PySem.intText? a = some n ∧ a.length ≤ 640 ∧ Q (.int n) H
theorem intS : CallR X (.type "int") gIntS := call_int_str
end
end TA

set_option linter.all false
set_option maxRecDepth 100000
set_option maxHeartbeats 1000000
/-! The draws of a law: what they promise. -/
namespace TA
open PySem L2
local macro_rules | `(tactic| simp! [$as,*]) => `(tactic| first | simp only [L2.start, tSeq, tAsg, tOp, fFld, tVar, gIxL, gIxT, tCB, tCons, tNil, gLenL, gLenT, gLenS, rI, rI0, fSet, tIfS, tTest, tB, rNotN, rIsN, rEq, rNe, tC, tDrop, fBM, fBM0, gTy, rAppend, tTup, tLst, tRet, tRetN, tNext, gName, fTup, gCons, gNil, tCall, fCallS, fMeth, tMeth, fMethS, fMake, tMake, fMakeS, tUn, rU, tAnd, tOr, tNot, tAndV, tOrV, tNotV, tIf, tChain, gListL, gListT, tSl, tNoPart, tPart, gSlL, fRaise, gStrI, gCatS, gMin2, gMax2, gIntB, tYes, fLcL, fLcT, fLcS, fLcR1, fForL, fForR1, fForR2, fRev, fGetI, gGetI, gInI, gLenI, fPutI, fNewI,
  List.map_cons, List.map_nil, List.length_cons, List.length_nil, List.replicate, List.cons_append, List.nil_append, List.append_nil, List.getElem?_cons_zero, List.getElem?_cons_succ, List.set_cons_zero, List.set_cons_succ, reduceIte, Bool.not_true, Bool.not_false, Nat.reduceAdd, Nat.reduceSub, Bool.false_eq_true, eq_self,
  Option.some.injEq, V.int.injEq, V.ref.injEq, V.str.injEq, V.bl.injEq, HO.ins.injEq, HO.lst.injEq, HO.tup.injEq, HO.dK.injEq, List.cons.injEq, and_assoc, exists_eq_left', exists_and_left, and_true, true_and, true_or, or_true, false_or, or_false, exists_eq_left, exists_eq_right, exists_eq_right', exists_eq, exists_eq', exists_const, upd_same, sc_ii, sc_ss, sc_bb, sc_in, sc_ni, sc_ns, sc_sn, sc_nn, $as,*] | skip)
/-- the script stands, told by what does not change -/
def Scr (K : PySem.W.Frag) (I : Hp) (a : Addr) : Prop := ∃ ns : List Int, SqL K I a (ns.map V.int)
theorem sqL_sub {K : PySem.W.Frag} {I H : Hp} {a : Addr} {xs : List V} (s : Sub I H) (h : SqL K I a xs) : SqL K H a xs := Same.seq s h
theorem Scr.mono {K : PySem.W.Frag} {I J : Hp} {a : Addr} (s : Sub I J) (h : Scr K I a) : Scr K J a := let ⟨ns, h⟩ := h; ⟨ns, sqL_sub s h⟩
/-- the script at a, the town at t with at most n items, the rest M -/
structure Dr (K : PySem.W.Frag) (I H : Hp) (a t : Addr) (n : Nat) (M : List (Addr × HO)) : Prop where
  scr : Scr K I a
  w : ∃ zs : List V, zs.length ≤ n ∧ W I H ((t, .lst zs) :: M)
section
variable {K : PySem.W.Frag} {I I' H H' : Hp} {a t p : Addr} {n m : Nat} {M M' : List (Addr × HO)} {o o' : HO}
theorem Dr.le (d : Dr K I H a t n M) (h : n ≤ m) : Dr K I H a t m M := let ⟨s, zs, l, w⟩ := d; ⟨s, zs, Nat.le_trans l h, w⟩
theorem Dr.newM (d : Dr K I H a t n M) (h : H p = none) : Dr K I (upd H p o) a t n ((p, o) :: M) := let ⟨s, zs, l, w⟩ := d; ⟨s, zs, l, (w.newM h).swap⟩
theorem Dr.newI (d : Dr K I H a t n M) (h : H p = none) : Dr K (upd I p o) (upd H p o) a t n M := let ⟨s, zs, l, w⟩ := d; ⟨s.mono (Sub.new (w.noI h)), zs, l, w.newI h⟩
theorem Dr.skip (d : Dr K I H a t n M) (h : H p = none) : Dr K I (upd H p o) a t n M := let ⟨s, zs, l, w⟩ := d; ⟨s, zs, l, w.skip h⟩
theorem Dr.drop (d : Dr K I H a t n ((p, o) :: M)) : Dr K I H a t n M := let ⟨s, zs, l, w⟩ := d; ⟨s, zs, l, w.swap.drop⟩
theorem Dr.put (d : Dr K I H a t n ((p, o) :: M)) : Dr K I (upd H p o') a t n ((p, o') :: M) := let ⟨s, zs, l, w⟩ := d; ⟨s, zs, l, w.swap.put.swap⟩
theorem Dr.freeze (d : Dr K I H a t n ((p, o) :: M)) : Dr K (upd I p o) H a t n M := let ⟨s, zs, l, w⟩ := d; ⟨s.mono (Sub.new (w.out (p, o) (by simp))), zs, l, w.swap.freeze⟩
theorem Dr.perm (d : Dr K I H a t n M) (e : M'.Perm M) : Dr K I H a t n M' := let ⟨s, zs, l, w⟩ := d; ⟨s, zs, l, w.perm (e.cons _)⟩
theorem Dr.same (d : Dr K I H a t n M) (e : Same H H') : Dr K I H' a t n M := let ⟨s, zs, l, w⟩ := d; ⟨s, zs, l, w.same e⟩
theorem Dr.has (d : Dr K I H a t n M) : Has H M := let ⟨s, zs, l, w⟩ := d; w.has.2
theorem Dr.sub (d : Dr K I H a t n M) : Sub I H := let ⟨s, zs, l, w⟩ := d; w.sub
theorem Dr.noI (d : Dr K I H a t n M) (h : H p = none) : I p = none := let ⟨s, zs, l, w⟩ := d; w.noI h
theorem Dr.out (d : Dr K I H a t n M) : ∀ p ∈ M, I p.1 = none := let ⟨s, zs, l, w⟩ := d; fun p h => w.out p (List.mem_cons_of_mem _ h)
/-- the town among what may change -/
theorem Dr.of {zs : List V} (s : Scr K I a) (l : zs.length ≤ n) (w : W I H ((t, .lst zs) :: M)) : Dr K I H a t n M := ⟨s, zs, l, w⟩
/-- by a rule for what may change -/
theorem Dr.w2 (d : Dr K I H a t n M) (f : ∀ zs : List V, W I H ((t, .lst zs) :: M) → W I' H' ((t, .lst zs) :: M')) (e : Sub I I') : Dr K I' H' a t n M' := let ⟨s, zs, l, w⟩ := d; ⟨s.mono e, zs, l, f zs w⟩
end
def Two30 : Int := 1073741824
def sp__law_cell (K : PySem.W.Frag) : Sp := fun vs H Q _ => ∃ (a : Addr) (k : Int), vs = [.ref a, .int k] ∧ Scr K H a ∧ ∀ i : Int, Q (.int i) H
def sp__law_mix (K : PySem.W.Frag) : Sp := fun vs H Q _ => ∃ (a : Addr) (k : Int), vs = [.ref a, .int k] ∧ Scr K H a ∧ ∀ i : Int, 0 ≤ i → i < 4294967231 → Q (.int i) H
def sp__law_draw (K : PySem.W.Frag) : Sp := fun vs H Q _ => ∃ (I : Hp) (a t : Addr) (n : Nat) (M : List (Addr × HO)) (m : Int), vs = [.ref a, .ref t, .int m] ∧ Dr K I H a t n M ∧ n < 1000000 ∧ 0 < m ∧
  ∀ (d : Int) (H' : Hp), 0 ≤ d → d < m → Dr K I H' a t (n + 1) M → Q (.int d) H'
def sp__law_pick (K : PySem.W.Frag) : Sp := fun vs H Q _ => ∃ (I : Hp) (a t l : Addr) (n : Nat) (M : List (Addr × HO)) (xs : List V), vs = [.ref a, .ref t, .ref l] ∧ Dr K I H a t n M ∧ n < 1000000 ∧ (∀ H', Dr K I H' a t n M ∨ Dr K I H' a t (n + 1) M → H' l = some (.lst xs)) ∧ xs ≠ [] ∧
  ∀ (x : V) (H' : Hp), x ∈ xs → Dr K I H' a t (n + 1) M → Q x H'
def t__law_cell (K : PySem.W.Frag) (E : XK) : TS := tSeq (tIfS (tTru K (tVar 0)) (tRet (tOp (rIxL K) (tVar 0) (tOp (rI (fun _ j => 0 < j) fun i j => .int (i % j)) (tVar 1) (tCB (gLenK K) (tCons (tVar 0) (tNil)))))) (tNext)) (tRet (tC (.int 0)))
abbrev nn__law_cell : List Str := ["script", "k"]
def t__law_mix (K : PySem.W.Frag) (E : XK) : TS := tSeq (tAsg (tOp (rI (fun _ j => 0 < j) fun i j => .int (i % j)) (tOp (rI0 fun i j => .int (i + j)) (tCall (sp__law_cell K) [] E (tCons (tVar 0) (tCons (tVar 1) (tNil)))) (tOp (rI CMul fun i j => .int (i * j)) (tC (.int 104729)) (tOp (rI0 fun i j => .int (i + j)) (tVar 1) (tC (.int 1))))) (tC (.int 4294967291))) (gName 2)) (tSeq (tAsg (tOp (rI (fun _ j => 0 < j) fun i j => .int (i % j)) (tOp (rI CPow fun i j => .int (i ^ j.toNat)) (tVar 2) (tC (.int 5))) (tC (.int 4294967279))) (gName 2)) (tRet (tOp (rI (fun _ j => 0 < j) fun i j => .int (i % j)) (tOp (rI0 fun i j => .int (i + j)) (tOp (rI CMul fun i j => .int (i * j)) (tOp (rI CDiv fun i j => .int (i / j)) (tVar 2) (tC (.int 64))) (tC (.int 69621))) (tVar 2)) (tC (.int 4294967231)))))
abbrev nn__law_mix : List Str := ["script", "k", "number"]
def t__law_draw (K : PySem.W.Frag) (E : XK) : TS := tSeq (tDrop (fBM "list" rAppend (tVar 1) (tCons (tC (.int 0)) (tNil)))) (tRet (tOp (rI (fun _ j => 0 < j) fun i j => .int (i % j)) (tOp (rI CDiv fun i j => .int (i / j)) (tCall (sp__law_mix K) [] E (tCons (tVar 0) (tCons (tCB (gLenL) (tCons (tVar 1) (tNil))) (tNil)))) (tC (.int 8))) (tVar 2)))
abbrev nn__law_draw : List Str := ["script", "town", "many"]
def t__law_pick (K : PySem.W.Frag) (E : XK) : TS := tRet (tOp gIxL (tVar 2) (tCall (sp__law_draw K) [] E (tCons (tVar 0) (tCons (tVar 1) (tCons (tCB (gLenL) (tCons (tVar 2) (tNil))) (tNil))))))
abbrev nn__law_pick : List Str := ["script", "town", "some"]
section
variable {K : PySem.W.Frag}
theorem len__law_cell : ∀ vs H Q E, sp__law_cell K vs H Q E → vs.length = ["script", "k"].length := by
  rintro _ _ _ _ ⟨a, k, rfl, _⟩; rfl
theorem len__law_mix : ∀ vs H Q E, sp__law_mix K vs H Q E → vs.length = ["script", "k"].length := by
  rintro _ _ _ _ ⟨a, k, rfl, _⟩; rfl
theorem len__law_draw : ∀ vs H Q E, sp__law_draw K vs H Q E → vs.length = ["script", "town", "many"].length := by
  rintro _ _ _ _ ⟨I, a, t, n, M, m, rfl, _⟩; rfl
theorem len__law_pick : ∀ vs H Q E, sp__law_pick K vs H Q E → vs.length = ["script", "town", "some"].length := by
  rintro _ _ _ _ ⟨I, a, t, l, n, M, m, rfl, _⟩; rfl
theorem atI_ok {α : Type} {xs : List α} {i : Int} (h0 : 0 ≤ i) (h1 : i < xs.length) : ∃ x, atI xs i = some x ∧ x ∈ xs := by
  have hl : i.toNat < xs.length := by omega
  refine ⟨xs[i.toNat], ?_, List.getElem_mem hl⟩
  unfold atI ixN
  rw [if_pos h0, if_pos h1]
  simp [List.getElem?_eq_getElem hl]
theorem pure__law_cell : ∀ vs H Q E, sp__law_cell K vs H Q E → t__law_cell K E { nx := fun _ H2 => Q .non H2, rt := Q } (L2.start nn__law_cell vs) H := by
  rintro vs H Q E ⟨a, k, rfl, ⟨ns, hS⟩, hQ⟩
  unfold t__law_cell
  simp! [tTru]
  refine ⟨!(ns.map V.int).isEmpty, .inl ⟨_, hS, rfl⟩, ?_⟩
  cases ns with
  | nil => simp! [List.isEmpty_nil]; exact hQ 0
  | cons n ns =>
    simp! [List.isEmpty_cons, rIxL, gLenK]
    refine ⟨_, hS, ?_⟩
    have hp : (0 : Int) < ((List.map V.int ns).length : Int) + 1 := by omega
    refine ⟨by simpa using hp, _, hS, ?_⟩
    obtain ⟨x, h1, h2⟩ := atI_ok (xs := V.int n :: List.map V.int ns) (i := k % ((((V.int n :: List.map V.int ns).length : Nat)) : Int)) (Int.emod_nonneg _ (by simp only [List.length_cons]; omega)) (Int.emod_lt_of_pos _ (by simp only [List.length_cons]; omega))
    obtain ⟨y, hy⟩ : ∃ y, x = V.int y := by
      rcases List.mem_cons.mp h2 with e | e
      · exact ⟨n, e⟩
      · obtain ⟨z, _, e⟩ := List.mem_map.mp e; exact ⟨z, e.symm⟩
    subst hy
    exact ⟨_, h1, hQ y⟩
theorem pure__law_mix : ∀ vs H Q E, sp__law_mix K vs H Q E → t__law_mix K E { nx := fun _ H2 => Q .non H2, rt := Q } (L2.start nn__law_mix vs) H := by
  rintro vs H Q E ⟨a, k, rfl, hS, hQ⟩
  unfold t__law_mix
  simp! [and_true]
  refine ⟨a, k, rfl, hS, fun i => ?_⟩
  simp! [and_true]
  refine ⟨.inl ⟨by decide, by decide⟩, by decide, ?_⟩
  have h1 := Int.emod_nonneg (i + 104729 * (k + 1)) (b := 4294967291) (by decide)
  have h2 := Int.emod_lt_of_pos (i + 104729 * (k + 1)) (b := 4294967291) (by decide)
  generalize (i + 104729 * (k + 1)) % 4294967291 = x at h1 h2
  refine ⟨⟨by decide, by decide, by omega⟩, by decide, ?_⟩
  generalize hy : x ^ (5 : Int).toNat % 4294967279 = y
  have h3 : 0 ≤ y := by rw [← hy]; exact Int.emod_nonneg _ (by decide)
  have h4 : y < 4294967279 := by rw [← hy]; exact Int.emod_lt_of_pos _ (by decide)
  refine ⟨⟨by decide, by decide⟩, .inl ⟨by omega, by omega⟩, by decide, ?_⟩
  exact hQ _ (Int.emod_nonneg _ (by decide)) (Int.emod_lt_of_pos _ (by decide))
theorem pure__law_draw : ∀ vs H Q E, sp__law_draw K vs H Q E → t__law_draw K E { nx := fun _ H2 => Q .non H2, rt := Q } (L2.start nn__law_draw vs) H := by
  rintro vs H Q E ⟨I, a, t, n, M, m, rfl, ⟨hS, zs, hz, w⟩, hn, hm, hQ⟩
  have ht := w.has.1
  unfold t__law_draw
  simp! [ht]
  have := line_big
  refine ⟨by omega, a, _, rfl, hS.mono (w.put (o' := .lst (zs ++ [V.int 0]))).sub, fun i h0 h1 => ?_⟩
  simp! [and_true]
  refine ⟨⟨by decide, by decide⟩, hm, hQ _ _ (Int.emod_nonneg _ (by omega)) (Int.emod_lt_of_pos _ hm) ⟨hS, _, ?_, w.put⟩⟩
  simp; exact hz
theorem pure__law_pick : ∀ vs H Q E, sp__law_pick K vs H Q E → t__law_pick K E { nx := fun _ H2 => Q .non H2, rt := Q } (L2.start nn__law_pick vs) H := by
  rintro vs H Q E ⟨I, a, t, l, n, M, xs, rfl, d, hn, hl, hx, hQ⟩
  have h0 := hl H (.inl d)
  unfold t__law_pick
  simp! [h0]
  have hp : 0 < xs.length := List.length_pos_iff.mpr hx
  refine ⟨I, a, t, n, M, _, rfl, d, hn, by omega, fun i H' i0 i1 d' => ?_⟩
  simp! [hl H' (.inr d')]
  obtain ⟨x, e1, e2⟩ := atI_ok (xs := xs) i0 (by omega)
  exact ⟨x, e1, hQ x H' e2 d'⟩
end
end TA

set_option linter.all false
set_option maxRecDepth 100000
set_option maxHeartbeats 1000000
/-! How a refusal is told. -/
namespace TA
open PySem L2
local macro_rules | `(tactic| simp! [$as,*]) => `(tactic| first | simp only [L2.start, tSeq, tAsg, tOp, fFld, tVar, gIxL, gIxT, tCB, tCons, tNil, gLenL, gLenT, gLenS, rI, rI0, fSet, tIfS, tTest, tB, rNotN, rIsN, rEq, rNe, tC, tDrop, fBM, fBM0, gTy, rAppend, tTup, tLst, tRet, tRetN, tNext, gName, fTup, gCons, gNil, tCall, fCallS, fMeth, tMeth, fMethS, fMake, tMake, fMakeS, tUn, rU, tAnd, tOr, tNot, tAndV, tOrV, tNotV, tIf, tChain, gListL, gListT, tSl, tNoPart, tPart, gSlL, fRaise, gStrI, gCatS, gMin2, gMax2, gIntB, tYes, fLcL, fLcT, fLcS, fLcR1, fForL, fForR1, fForR2, fRev, fGetI, gGetI, gInI, gLenI, fPutI, fNewI,
  List.map_cons, List.map_nil, List.length_cons, List.length_nil, List.replicate, List.cons_append, List.nil_append, List.append_nil, List.getElem?_cons_zero, List.getElem?_cons_succ, List.set_cons_zero, List.set_cons_succ, reduceIte, Bool.not_true, Bool.not_false, Nat.reduceAdd, Nat.reduceSub, Bool.false_eq_true, eq_self,
  Option.some.injEq, V.int.injEq, V.ref.injEq, V.str.injEq, V.bl.injEq, HO.ins.injEq, HO.lst.injEq, HO.tup.injEq, HO.dK.injEq, List.cons.injEq, and_assoc, exists_eq_left', exists_and_left, and_true, true_and, true_or, or_true, false_or, or_false, exists_eq_left, exists_eq_right, exists_eq_right', exists_eq, exists_eq', exists_const, upd_same, sc_ii, sc_ss, sc_bb, sc_in, sc_ni, sc_ns, sc_sn, sc_nn, $as,*] | skip)
def wordOf (x : Str) : Str := if x = "BadText" then "text" else if x = "BadNumber" then "number" else "ask"
def refD : Option Str → PyData
  | none => .tuple [.str "ok"]
  | some x => .tuple [.str "refused", .str (wordOf x)]
/-- a held error of the class x, or None -/
def HeldV (K : PySem.W.Frag) (I : Hp) (v : V) : Option Str → Prop
  | none => v = .non
  | some x => x ∈ errs ∧ ∃ a, v = .ref a ∧ I a = some (ExC (.ref (He.ga K x)) a)
def sp__law_refusal (K : PySem.W.Frag) : Sp := fun vs H Q _ => ∃ (I : Hp) (M : List (Addr × HO)) (v : V) (c : Option Str), vs = [v] ∧ W I H M ∧ HeldV K I v c ∧ ∀ (I' H' : Hp) (v' : V), Sub I I' → W I' H' M → Rp I' v' (refD c) → Q v' H'
def t__law_refusal (K : PySem.W.Frag) (E : XK) : TS := tSeq (tIfS (tTest (tOp (rIsN) (tVar 0) (tC .non))) (tRet (tTup (tCons (tC (.str "ok")) (tNil)))) (tNext)) (tSeq (tAsg (tLst (tCons (tCB (gIs (.ref (He.ga K "BadText")) (tabOf K "BadText")) (tCons (tVar 0) (tCons (tC (.ref (He.ga K "BadText"))) tNil))) (tCons (tCB (gIs (.ref (He.ga K "BadNumber")) (tabOf K "BadNumber")) (tCons (tVar 0) (tCons (tC (.ref (He.ga K "BadNumber"))) tNil))) (tCons (tCB (gIs (.ref (He.ga K "BadAsk")) (tabOf K "BadAsk")) (tCons (tVar 0) (tCons (tC (.ref (He.ga K "BadAsk"))) tNil))) (tNil))))) (gName 1)) (tSeq (tIfS (tOr (tTest (tOp (rNe) (fBM "list" gCnt (tVar 1) (tCons (tC (.bl true)) (tNil))) (tC (.int 1)))) (tNot (tB (tCB (gIs (.ty "ValueError") (tabV K)) (tCons (tVar 0) (tCons (tC (.ty "ValueError")) tNil)))))) (tRet (tTup (tCons (tC (.str "wrong")) (tNil)))) (tNext)) (tRet (tTup (tCons (tC (.str "refused")) (tCons (tOp gIxL (tLst (tCons (tC (.str "text")) (tCons (tC (.str "number")) (tCons (tC (.str "ask")) (tNil))))) (fBM "list" gIdx (tVar 1) (tCons (tC (.bl true)) (tNil)))) (tNil)))))))
abbrev nn__law_refusal : List Str := ["held", "kinds"]
section
variable {K : PySem.W.Frag}
theorem len__law_refusal : ∀ vs H Q E, sp__law_refusal K vs H Q E → vs.length = ["held"].length := by
  rintro _ _ _ _ ⟨I, M, v, c, rfl, _⟩; rfl
theorem gIs_ok {c : V} {tab : List (Addr × Bool)} {H : Hp} {Q : VK} {a D : Addr} {b : Bool} (h : H a = some (ExC (.ref D) a)) (m : (D, b) ∈ tab) (q : Q (.bl b) H) : gIs c tab [.ref a, c] H Q := ⟨a, D, b, rfl, h, m, q⟩
theorem tab_in {x y : Str} {b : Bool} (hx : x ∈ errs) (e : decide (x = y) = b) : (He.ga K x, b) ∈ tabOf K y := List.mem_map.mpr ⟨x, hx, by rw [e]⟩
theorem tabV_in {x : Str} (hx : x ∈ errs) : (He.ga K x, true) ∈ tabV K := List.mem_map.mpr ⟨x, hx, rfl⟩
theorem errs_cases {x : Str} (h : x ∈ errs) : x = "BadText" ∨ x = "BadNumber" ∨ x = "BadAsk" := by simpa [errs] using h
theorem three_le : (3 : Nat) ≤ sizeLine := by have := line_big; omega
theorem two_le : (2 : Nat) ≤ sizeLine := by have := line_big; omega
theorem one_le : (1 : Nat) ≤ sizeLine := by have := line_big; omega
/-- the rest of it, the three answers known -/
theorem pure__law_refusal : ∀ vs H Q E, sp__law_refusal K vs H Q E → t__law_refusal K E { nx := fun _ H2 => Q .non H2, rt := Q } (L2.start nn__law_refusal vs) H := by
  rintro vs H Q E ⟨I, M, v, c, rfl, w, hv, hQ⟩
  unfold t__law_refusal
  cases c with
  | none =>
    obtain rfl : v = .non := hv
    simp! [decide_true]
    refine ⟨one_le, fun p hp => hQ _ _ _ (Sub.new (w.noI hp)) (w.newI hp) (.tup upd_same (.cons (.str _) .nil))⟩
  | some x =>
    obtain ⟨hx, a, rfl, ha⟩ := hv
    have h0 : H a = some (ExC (.ref (He.ga K x)) a) := w.sub _ _ ha
    simp! [decide_false, reduceCtorEq]
    refine gIs_ok h0 (tab_in hx rfl) (gIs_ok h0 (tab_in hx rfl) (gIs_ok h0 (tab_in hx rfl) ?_))
    simp! [and_true]
    refine ⟨three_le, fun l hl => ?_⟩
    have w1 := w.newI (o := .lst [.bl (decide (x = "BadText")), .bl (decide (x = "BadNumber")), .bl (decide (x = "BadAsk"))]) hl
    have e1 : decide (x = "BadText") = true ∧ decide (x = "BadNumber") = false ∧ decide (x = "BadAsk") = false ∧ wordOf x = "text" ∨ decide (x = "BadText") = false ∧ decide (x = "BadNumber") = true ∧ decide (x = "BadAsk") = false ∧ wordOf x = "number" ∨
        decide (x = "BadText") = false ∧ decide (x = "BadNumber") = false ∧ decide (x = "BadAsk") = true ∧ wordOf x = "ask" := by
      rcases errs_cases hx with rfl | rfl | rfl
      · left; decide +kernel
      · right; left; decide +kernel
      · right; right; decide +kernel
    rcases e1 with ⟨e1, e2, e3, e4⟩ | ⟨e1, e2, e3, e4⟩ | ⟨e1, e2, e3, e4⟩
    all_goals
      rw [e1, e2, e3] at w1 ⊢
      simp! [gCnt, flatV, List.all_cons, List.all_nil, Bool.and_true, scal]
      refine ite_nt (by decide) (gIs_ok (by have := w1.sub a _ (Sub.new (w.noI hl) _ _ ha); exact this) (tabV_in hx) ?_)
      simp! [and_true]
      refine ⟨three_le, fun p hp => ?_⟩
      have hI := w1.newI (o := .lst [V.str "text", V.str "number", V.str "ask"]) hp
      have hlp : l ≠ p := fun z => by rw [z, upd_same] at hp; cases hp
      have hll := hI.sub l _ (by rw [upd_ne hlp, upd_same])
      refine ⟨.inl ⟨_, hll⟩, l, _, _, _, rfl, rfl, hll, rfl, rfl, rfl, ?_⟩
      simp! [and_true]
      refine ⟨_, rfl, two_le, fun r hr => ?_⟩
      have w3 := hI.newI (o := .tup [V.str "refused", V.str (wordOf x)]) hr
      rw [e4] at w3
      refine hQ _ _ _ ((Sub.new (w.noI hl)).trans ((Sub.new (w1.noI hp)).trans (Sub.new (hI.noI hr)))) w3 ?_
      show Rp _ _ (.tuple [.str "refused", .str (wordOf x)])
      rw [e4]
      exact .tup upd_same (.cons (.str _) (.cons (.str _) .nil))
end
end TA

set_option linter.all false
set_option maxRecDepth 100000
set_option maxHeartbeats 1000000
/-! Data side by side with the values that stand for them. -/
namespace TA
open PySem L2
section
variable {H H' I : Hp} {α : Type}
theorem RpAll.length : ∀ {vs : List V} {ds : List PyData}, RpAll H vs ds → vs.length = ds.length
  | _, _, .nil => rfl
  | _, _, .cons _ r => by rw [List.length_cons, List.length_cons, r.length]
theorem RpAll.get : ∀ {vs : List V} {ds : List PyData} {i : Nat} {v : V}, RpAll H vs ds → vs[i]? = some v → ∃ d, ds[i]? = some d ∧ Rp H v d
  | _, _, _, _, .nil, h => by simp at h
  | _, _, 0, _, .cons r _, h => by simp at h; subst h; exact ⟨_, rfl, r⟩
  | _, _, i + 1, _, .cons _ t, h => by simpa using t.get (i := i) (by simpa using h)
theorem RpAll.snoc : ∀ {vs : List V} {ds : List PyData} {v : V} {d : PyData}, RpAll H vs ds → Rp H v d → RpAll H (vs ++ [v]) (ds ++ [d])
  | _, _, _, _, .nil, h => .cons h .nil
  | _, _, _, _, .cons r t, h => .cons r (t.snoc h)
/-- values paired with what they stand for -/
def Enc (H : Hp) (e : α → PyData) (zs : List (V × α)) : Prop := ∀ z ∈ zs, Rp H z.1 (e z.2)
theorem Enc.nil {e : α → PyData} : Enc H e [] := fun _ h => by cases h
theorem Enc.mono {e : α → PyData} {zs : List (V × α)} (s : Sub H H') (h : Enc H e zs) : Enc H' e zs := fun z hz => (h z hz).mono s
theorem Enc.snoc {e : α → PyData} {zs : List (V × α)} {v : V} {x : α} (h : Enc H e zs) (r : Rp H v (e x)) : Enc H e (zs ++ [(v, x)]) := fun z hz => by
  rcases List.mem_append.mp hz with q | q
  · exact h z q
  · rw [List.mem_singleton.mp q]; exact r
theorem Enc.sub {e : α → PyData} {zs ys : List (V × α)} (h : Enc H e zs) (k : ∀ z ∈ ys, z ∈ zs) : Enc H e ys := fun z hz => h z (k z hz)
theorem Enc.filter {e : α → PyData} {zs : List (V × α)} (h : Enc H e zs) (p : V × α → Bool) : Enc H e (zs.filter p) := h.sub fun z hz => (List.mem_filter.mp hz).1
theorem Enc.all {e : α → PyData} : ∀ {zs : List (V × α)}, Enc H e zs → RpAll H (zs.map Prod.fst) (zs.map fun z => e z.2)
  | [], _ => .nil
  | z :: zs, h => .cons (h z List.mem_cons_self) (Enc.all fun y hy => h y (List.mem_cons_of_mem _ hy))
/-- from values and data in two lists -/
theorem enc_of {e : α → PyData} : ∀ {vs : List V} {xs : List α}, RpAll H vs (xs.map e) → ∃ zs : List (V × α), vs = zs.map Prod.fst ∧ xs = zs.map Prod.snd ∧ Enc H e zs
  | [], [], _ => ⟨[], rfl, rfl, Enc.nil⟩
  | [], _ :: _, h => by cases h
  | _ :: _, [], h => by cases h
  | v :: vs, x :: xs, h => by
    cases h with
    | cons h1 h2 =>
      obtain ⟨zs, rfl, rfl, k⟩ := enc_of h2
      refine ⟨(v, x) :: zs, rfl, rfl, fun z hz => ?_⟩
      rcases List.mem_cons.mp hz with q | q
      · rw [q]; exact h1
      · exact k z q
end
/-! ### sorted, of typed data -/
/-- the order of sorted over data of one kind -/
def leD {α : Type} (e : α → PyData) (x y : α) : Bool := dle (e x) (e y)
def sortE {α : Type} (e : α → PyData) (l : List α) : List α := l.mergeSort (leD e)
/-- data of one kind that sorted takes -/
structure Sorts {α : Type} (e : α → PyData) : Prop where
  alike : ∀ x y, PySem.W.alike (e x) (e y) = true
  sb : (∀ x, ∃ y r, e x = .tuple (y :: r)) ∨ ∀ x, e x ≠ .none ∧ ∀ xs, e x ≠ .tuple xs
  dp : ∀ x, (e x).depth ≤ 50
theorem sortD_use {α : Type} {e : α → PyData} (S : Sorts e) {H : Hp} {a : Addr} {zs : List (V × α)} {Q : VK} (h : H a = some (.lst (zs.map Prod.fst))) (k : Enc H e zs) (q : ∀ p, H p = none → Q (.ref p) (upd H p (.lst ((zs.mergeSort fun x y => leD e x.2 y.2).map Prod.fst)))) :
    gSortD [.ref a] H Q := by
  refine ⟨a, zs.map fun z => (z.1, e z.2), rfl, ?_, ?_, ?_, ?_, ?_, fun p hp => ?_⟩
  · rw [List.map_map]; exact h
  · rw [List.map_map, List.map_map]; exact k.all
  · intro d hd d' hd'
    rw [List.map_map] at hd hd'
    obtain ⟨z, _, rfl⟩ := List.mem_map.mp hd
    obtain ⟨z', _, rfl⟩ := List.mem_map.mp hd'
    exact S.alike _ _
  · rcases S.sb with s | s
    · left; intro d hd
      rw [List.map_map] at hd
      obtain ⟨z, _, rfl⟩ := List.mem_map.mp hd
      exact s _
    · right; intro d hd
      rw [List.map_map] at hd
      obtain ⟨z, _, rfl⟩ := List.mem_map.mp hd
      exact s _
  · intro z hz
    obtain ⟨y, _, rfl⟩ := List.mem_map.mp hz
    exact S.dp _
  · have e1 := PySem.W.sort_maps (r := fun (x y : V × α) => leD e x.2 y.2) (s := fun (x y : V × PyData) => dle x.2 y.2) (fun z : V × α => (z.1, e z.2)) (l := zs) fun a _ b _ => rfl
    rw [← e1, List.map_map]
    exact q p hp
theorem sort_snd {α : Type} {e : α → PyData} (zs : List (V × α)) : (zs.mergeSort fun x y => leD e x.2 y.2).map Prod.snd = sortE e (zs.map Prod.snd) := PySem.W.sort_maps (r := fun (x y : V × α) => leD e x.2 y.2) (s := leD e) Prod.snd fun a _ b _ => rfl
theorem sort_enc {α : Type} {e : α → PyData} {H : Hp} {zs : List (V × α)} (h : Enc H e zs) : Enc H e (zs.mergeSort fun x y => leD e x.2 y.2) := h.sub fun z hz => (List.mergeSort_perm zs _).mem_iff.mp hz
/-! ### filter comprehensions: [x for x in xs if p x] -/
theorem take_succ_get {α : Type} {l : List α} {i : Nat} {x : α} (h : l[i]? = some x) : l.take (i + 1) = l.take i ++ [x] := by
  rw [List.take_succ, h]; rfl
theorem comp_filter {α : Type} {zs : List (V × α)} {p : V × α → Bool} {src : Hp → Prop} {j : Nat} {tt : TT} {σ : St} {H I : Hp} {M : List (Addr × HO)} {Q : VK} (w : W I H M) (hn : zs.length ≤ 1000000) (hj : ∀ x, wipe ((wipe σ [j]).set j x) [j] = wipe σ [j])
    (hjj : ∀ x : V, ((wipe σ [j]).set j (some x))[j]? = some (some x)) (hsrc : ∀ D o H', W I H' ((D, o) :: M) → src H')
    (ht : ∀ z ∈ zs, ∀ D o H' Q', W I H' ((D, o) :: M) → Q' (p z) H' → tt ((wipe σ [j]).set j (some z.1)) H' Q') (hd : ∀ D H', W I H' ((D, .lst ((zs.filter p).map Prod.fst)) :: M) → Q (.ref D) H') :
    CompW src (zs.map Prod.fst).length (fun i x => (zs.map Prod.fst)[i]? = some x) (gName j) tt (tVar j) [j] σ H Q := by
  refine ⟨I, M, fun i I' acc M' => I' = I ∧ M' = M ∧ acc = ((zs.take i).filter p).map Prod.fst, w, by rw [List.length_map]; exact hn, ⟨rfl, rfl, rfl⟩, ?_, ?_, ?_⟩
  · rintro i I' acc M' D H' ⟨rfl, rfl, _⟩ _ w'
    exact hsrc _ _ _ w'
  · rintro D i x H' I' acc M' hi hx _ w' ⟨rfl, rfl, rfl⟩ _
    rw [List.getElem?_map, Option.map_eq_some_iff] at hx
    obtain ⟨z, hz, rfl⟩ := hx
    refine ⟨hj _, ht z (List.mem_of_getElem? hz) _ _ _ _ w' ?_⟩
    cases hp : p z with
    | true =>
      rw [if_pos rfl]
      refine ⟨z.1, hjj _, nxt (Sub.refl _) w' ⟨rfl, rfl, ?_⟩⟩
      rw [take_succ_get hz, List.filter_append, List.map_append, List.filter_cons_of_pos (by rw [hp]), List.filter_nil]
      rfl
    | false =>
      rw [if_neg (by decide)]
      refine nxt (Sub.refl _) w' ⟨rfl, rfl, ?_⟩
      rw [take_succ_get hz, List.filter_append, List.filter_cons_of_neg (by rw [hp]; decide), List.filter_nil, List.append_nil]
  · rintro D H' I' acc M' _ w' ⟨rfl, rfl, rfl⟩ _
    refine hd D H' ?_
    rw [List.length_map, List.take_length] at w'
    exact w'
/-! ### small numbers as texts -/
theorem log2_small {i : Int} (h0 : 0 ≤ i) (h1 : i < 1000) : i.natAbs.log2 < 1920 := by
  have h2 : i.natAbs.log2 ≤ i.natAbs := Nat.log2_le_self _
  omega
theorem len_num {i : Int} (h0 : 0 ≤ i) (h1 : i < 1000) : (Str.ofString (toString i)).length ≤ 3 := by
  have e : i = ((i.toNat : Nat) : Int) := by omega
  rw [e, TL.len_tl, TL.tl_num]
  exact TL.numL_len (by decide) (by omega)
theorem ne_size {n : Nat} (h : n ≤ 1000000) : n ≤ sizeLine := by have := line_big; omega
end TA

set_option linter.all false
set_option maxRecDepth 100000
set_option maxHeartbeats 1000000
/-! Texts as rows of signs: folding, ranks. Plain. -/
namespace TA
open PySem L2 PyProof.Rows
/-- a text's sign, as the program takes it -/
def okC (c : Nat) : Bool := decide (32 ≤ c) && decide (c < 127) && !decide (c = 37)
def okL (n : Nat) (l : List Nat) : Bool := decide (l.length ≤ n) && l.all okC
def nonE (l : List Nat) : Bool := !l.isEmpty
/-- a text folded -/
def foldL (l : List Nat) : List Nat := TL.joinL [32] ((TL.spl [32] 0 [] (l.map lo1)).filter nonE)
def hasL (w m : List Nat) : Bool := (List.range (m.length + 1)).any fun k => TL.pre w (m.drop k)
def rankM (m w : List Nat) : Option Int := if m = w then some 0 else if TL.pre w m = true then some 1 else if hasL (32 :: w) m = true then some 2 else if hasL w m = true then some 3 else none
def rankL (r q : List Nat) : Option Int := rankM (foldL r) (foldL q)
/-! ### sign by sign -/
def stepL (acc : List Nat) (c : Nat) : List Nat := if c ≠ 32 then acc ++ [lo1 c] else if acc ≠ [] ∧ acc.getLast? ≠ some 32 then acc ++ [32] else acc
def finL (acc : List Nat) : List Nat := if acc.getLast? = some 32 then acc.dropLast else acc
theorem joinL_snoc (w : List Nat) (x : Nat) : ∀ ws : List (List Nat), TL.joinL [32] (ws ++ [w]) ++ [x] = TL.joinL [32] (ws ++ [w ++ [x]])
  | [] => by simp [TL.joinL]
  | [a] => by simp [TL.joinL]
  | a :: b :: r => by
    have := joinL_snoc w x (b :: r)
    simp only [List.cons_append, TL.joinL, List.nil_append, List.append_assoc] at this ⊢
    rw [this]
theorem joinL_end : ∀ ws : List (List Nat), ws ≠ [] → TL.joinL [32] (ws ++ [[]]) = TL.joinL [32] ws ++ [32]
  | [a], _ => by simp [TL.joinL]
  | a :: b :: r, _ => by
    have := joinL_end (b :: r) (by simp)
    simp only [List.cons_append, TL.joinL, List.nil_append, List.append_assoc] at this ⊢
    rw [this]
theorem last_app {a b : List Nat} (h : b ≠ []) : (a ++ b).getLast? = b.getLast? := by
  rw [List.getLast?_append]
  cases e : b.getLast? with
  | none => exact absurd (List.getLast?_eq_none_iff.mp e) h
  | some x => rfl
theorem last_cons {x : Nat} {b : List Nat} (h : b ≠ []) : (x :: b).getLast? = b.getLast? := last_app (a := [x]) h
theorem joinL_last (w : List Nat) (h : w ≠ []) : ∀ ws : List (List Nat), (TL.joinL [32] (ws ++ [w])).getLast? = w.getLast?
  | [] => by simp [TL.joinL]
  | [a] => by
    simp only [List.cons_append, List.nil_append, TL.joinL]
    rw [last_app (by simp), last_cons h]
  | a :: b :: r => by
    have := joinL_last w h (b :: r)
    simp only [List.cons_append, TL.joinL, List.nil_append] at this ⊢
    have hn : TL.joinL [32] (b :: (r ++ [w])) ≠ [] := fun e => by
      rw [e] at this
      exact h (List.getLast?_eq_none_iff.mp this.symm)
    rw [last_app (by simp), last_cons hn]
    exact this
theorem lo1_32 {c : Nat} : lo1 c = 32 ↔ c = 32 := by unfold lo1; constructor <;> intro h <;> (split at * <;> simp_all <;> omega)
theorem enc_hit (ws : List (List Nat)) (cur : List Nat) (h : 32 ∉ cur) : stepL (TL.joinL [32] (ws ++ [cur])) 32 = TL.joinL [32] ((ws ++ [cur].filter nonE) ++ [[]]) := by
  unfold stepL
  rw [if_neg (by simp)]
  cases cur with
  | nil =>
    have : ([[]] : List (List Nat)).filter nonE = [] := rfl
    rw [this, List.append_nil]
    refine if_neg ?_
    cases ws with
    | nil => simp [TL.joinL]
    | cons a r =>
      rw [joinL_end _ (by simp)]
      simp
  | cons x cur =>
    have : ([x :: cur] : List (List Nat)).filter nonE = [x :: cur] := rfl
    rw [this, joinL_end _ (by simp)]
    have hl := joinL_last (x :: cur) (by simp) ws
    refine if_pos ⟨?_, ?_⟩
    · intro e; rw [e] at hl; exact absurd (List.getLast?_eq_none_iff.mp hl.symm) (by simp)
    · rw [hl]
      intro e
      exact h (List.mem_of_getLast? e)
theorem enc_fin (ws : List (List Nat)) (cur : List Nat) (h : 32 ∉ cur) : finL (TL.joinL [32] (ws ++ [cur])) = TL.joinL [32] (ws ++ [cur].filter nonE) := by
  unfold finL
  cases cur with
  | nil =>
    have : ([[]] : List (List Nat)).filter nonE = [] := rfl
    rw [this, List.append_nil]
    cases ws with
    | nil => simp [TL.joinL]
    | cons a r =>
      rw [joinL_end _ (by simp)]
      simp
  | cons x cur =>
    have : ([x :: cur] : List (List Nat)).filter nonE = [x :: cur] := rfl
    rw [this, joinL_last (x :: cur) (by simp)]
    refine if_neg fun e => h (List.mem_of_getLast? e)
theorem pre1 {c : Nat} {r : List Nat} : TL.pre [32] (c :: r) = decide (c = 32) := by
  unfold TL.pre
  by_cases h : c = 32 <;> simp [h]
theorem fold_go : ∀ (l ws' : List Nat) (ws : List (List Nat)), 32 ∉ ws' → finL (l.foldl stepL (TL.joinL [32] (ws ++ [ws']))) = TL.joinL [32] (ws ++ (TL.spl [32] 0 ws' (l.map lo1)).filter nonE)
  | [], cur, ws, h => by rw [List.map_nil, TL.spl_nil]; exact enc_fin ws cur h
  | c :: l, cur, ws, h => by
    rw [List.foldl_cons, List.map_cons]
    by_cases hc : c = 32
    · subst hc
      have e : lo1 32 = 32 := by decide
      rw [enc_hit ws cur h, e, TL.spl_hit (by rw [pre1]; rfl), fold_go l [] (ws ++ [cur].filter nonE) (by simp)]
      show _ = TL.joinL [32] (ws ++ ([cur] ++ TL.spl [32] 0 [] (l.map lo1)).filter nonE)
      rw [List.filter_append, List.append_assoc]
    · have e : lo1 c ≠ 32 := fun z => hc (lo1_32.mp z)
      rw [TL.spl_miss (by rw [pre1]; simpa using e)]
      have : stepL (TL.joinL [32] (ws ++ [cur])) c = TL.joinL [32] (ws ++ [cur ++ [lo1 c]]) := by
        unfold stepL; rw [if_pos hc, joinL_snoc]
      rw [this, fold_go l (cur ++ [lo1 c]) ws]
      simp only [List.mem_append, List.mem_singleton, not_or]
      exact ⟨h, fun z => e z.symm⟩
theorem fold_eq (l : List Nat) : finL (l.foldl stepL []) = foldL l := by
  have := fold_go l [] [] (by simp)
  unfold foldL
  simpa [TL.joinL] using this
theorem okC_lo1 {c : Nat} (h : okC c = true) : okC (lo1 c) = true := by
  unfold okC lo1 at *
  simp at h ⊢
  split <;> omega
theorem step_ok {acc : List Nat} {c : Nat} (ha : acc.all okC = true) (hc : okC c = true) : (stepL acc c).all okC = true := by
  unfold stepL
  split
  · simp only [List.all_append, ha, List.all_cons, okC_lo1 hc]; rfl
  · split
    · simp only [List.all_append, ha]; rfl
    · exact ha
theorem step_len (acc : List Nat) (c : Nat) : (stepL acc c).length ≤ acc.length + 1 := by
  unfold stepL
  split
  · simp
  · split <;> simp
theorem foldl_ok : ∀ {l acc : List Nat}, acc.all okC = true → l.all okC = true → (l.foldl stepL acc).all okC = true ∧ (l.foldl stepL acc).length ≤ acc.length + l.length
  | [], acc, h, _ => ⟨h, by simp⟩
  | c :: l, acc, h, h2 => by
    rw [List.all_cons, Bool.and_eq_true] at h2
    have := foldl_ok (step_ok h h2.1) h2.2
    have l1 := step_len acc c
    exact ⟨this.1, by rw [List.foldl_cons, List.length_cons]; omega⟩
theorem foldl_len : ∀ {l acc : List Nat}, (l.foldl stepL acc).length ≤ acc.length + l.length
  | [], acc => by simp
  | c :: l, acc => by
    have := @foldl_len l (stepL acc c)
    have l1 := step_len acc c
    rw [List.foldl_cons, List.length_cons]; omega
theorem fold_len (l : List Nat) : (foldL l).length ≤ l.length := by
  rw [← fold_eq]
  have := @foldl_len l []
  unfold finL
  split
  · rw [List.length_dropLast]; simp at this; omega
  · simpa using this
theorem fold_all {l : List Nat} (h : l.all okC = true) : (foldL l).all okC = true := by
  rw [← fold_eq]
  have := (foldl_ok (acc := []) rfl h).1
  unfold finL
  split
  · rw [List.all_eq_true] at this ⊢
    exact fun x hx => this x ((List.dropLast_sublist _).subset hx)
  · exact this
theorem fold_okL {n : Nat} {l : List Nat} (h : okL n l = true) : okL n (foldL l) = true := by
  unfold okL at *
  rw [Bool.and_eq_true] at *
  exact ⟨decide_eq_true (Nat.le_trans (fold_len l) (of_decide_eq_true h.1)), fold_all h.2⟩
/-! ### rank, place by place -/
def spotsL (m w : List Nat) : List Nat := (List.range (m.length + 1)).filter fun k => TL.pre w (m.drop k)
theorem pre_iff {w l : List Nat} : TL.pre w l = true ↔ ∃ r, l = w ++ r := by
  unfold TL.pre
  rw [beq_iff_eq]
  constructor
  · intro h; exact ⟨l.drop w.length, by conv => lhs; rw [← List.take_append_drop w.length l, h]⟩
  · rintro ⟨r, rfl⟩; simp
theorem mem_spots {m w : List Nat} {k : Nat} : k ∈ spotsL m w ↔ k ≤ m.length ∧ TL.pre w (m.drop k) = true := by
  unfold spotsL; rw [List.mem_filter, List.mem_range]; simp; omega
theorem has_iff {m w : List Nat} : hasL w m = true ↔ ∃ k, k ∈ spotsL m w := by
  unfold hasL
  rw [List.any_eq_true]
  constructor
  · rintro ⟨k, h1, h2⟩; exact ⟨k, mem_spots.mpr ⟨by have := List.mem_range.mp h1; omega, h2⟩⟩
  · rintro ⟨k, h⟩; obtain ⟨h1, h2⟩ := mem_spots.mp h; exact ⟨k, List.mem_range.mpr (by omega), h2⟩
theorem List.ne_nil_iff_exists_mem' {l : List Nat} : l ≠ [] ↔ ∃ k, k ∈ l := by
  cases l with
  | nil => simp
  | cons x l => exact ⟨fun _ => ⟨x, by simp⟩, fun _ => by simp⟩
theorem spots_head {m w : List Nat} : (spotsL m w).head? = some 0 ↔ TL.pre w m = true := by
  unfold spotsL
  rw [List.range_succ_eq_map, List.filter_cons]
  by_cases h : TL.pre w m = true
  · simp [h]
  · simp only [List.drop_zero, h, if_false, Bool.false_eq_true, iff_false]
    intro e
    have := List.mem_of_head? e
    simp at this
def blankAt (m : List Nat) (k : Nat) : Bool := decide (m[k - 1]? = some 32)
def rankS (m w : List Nat) : Option Int :=
  if spotsL m w = [] then none else if (spotsL m w).head? = some 0 then (if m.length = w.length then some 0 else some 1) else if (spotsL m w).filter (blankAt m) ≠ [] then some 2 else some 3
theorem rank_eq (m w : List Nat) : rankS m w = rankM m w := by
  unfold rankS rankM
  by_cases h0 : spotsL m w = []
  · rw [if_pos h0]
    have n1 : ¬ ∃ k, k ∈ spotsL m w := by rw [h0]; simp
    have n2 : ¬ TL.pre w m = true := fun h => by have := spots_head.mpr h; rw [h0] at this; simp at this
    rw [if_neg (fun e => n2 (by rw [e]; exact pre_iff.mpr ⟨[], by simp⟩)), if_neg n2, if_neg, if_neg (fun h => n1 (has_iff.mp h))]
    intro h
    obtain ⟨k, hk⟩ := has_iff.mp h
    obtain ⟨h1, h2⟩ := mem_spots.mp hk
    obtain ⟨r, hr⟩ := pre_iff.mp h2
    have : m.drop (k + 1) = w ++ r := by rw [← List.drop_drop, hr]; rfl
    have hl : k < m.length := by
      have := congrArg List.length hr
      simp at this; omega
    exact n1 ⟨k + 1, mem_spots.mpr ⟨by omega, pre_iff.mpr ⟨r, this⟩⟩⟩
  rw [if_neg h0]
  by_cases h1 : TL.pre w m = true
  · rw [if_pos (spots_head.mpr h1)]
    obtain ⟨r, hr⟩ := pre_iff.mp h1
    by_cases h2 : m = w
    · rw [if_pos h2, if_pos (by rw [h2])]
    · rw [if_neg h2, if_pos h1, if_neg]
      intro e
      rw [hr] at e
      have : r = [] := by
        rw [List.length_append] at e
        exact List.length_eq_zero_iff.mp (by omega)
      rw [this, List.append_nil] at hr
      exact h2 hr
  · rw [if_neg (fun h => h1 (spots_head.mp h)), if_neg (fun (e : m = w) => h1 (by rw [e]; exact pre_iff.mpr ⟨[], by simp⟩)), if_neg h1]
    have h3 : hasL w m = true := by
      rw [has_iff]
      cases e : spotsL m w with
      | nil => exact absurd e h0
      | cons k r => exact ⟨k, List.mem_cons_self⟩
    rw [if_pos h3]
    have key : (spotsL m w).filter (blankAt m) ≠ [] ↔ hasL (32 :: w) m = true := by
      rw [has_iff, List.ne_nil_iff_exists_mem']
      constructor
      · rintro ⟨k, hk⟩
        obtain ⟨hk, hb⟩ := List.mem_filter.mp hk
        obtain ⟨h4, h5⟩ := mem_spots.mp hk
        have hk0 : k ≠ 0 := fun e => h1 (by rw [e] at h5; exact h5)
        have hb : m[k - 1]? = some 32 := of_decide_eq_true hb
        obtain ⟨r, hr⟩ := pre_iff.mp h5
        obtain ⟨hl, hg⟩ := List.getElem?_eq_some_iff.mp hb
        refine ⟨k - 1, mem_spots.mpr ⟨by omega, pre_iff.mpr ⟨r, ?_⟩⟩⟩
        rw [List.drop_eq_getElem_cons hl, hg, show k - 1 + 1 = k by omega, hr]; rfl
      · rintro ⟨k, hk⟩
        obtain ⟨h4, h5⟩ := mem_spots.mp hk
        obtain ⟨r, hr⟩ := pre_iff.mp h5
        have : m.drop (k + 1) = w ++ r := by rw [← List.drop_drop, hr]; rfl
        have hl : k < m.length := by
          have := congrArg List.length hr
          simp at this; omega
        refine ⟨k + 1, List.mem_filter.mpr ⟨mem_spots.mpr ⟨by omega, pre_iff.mpr ⟨r, this⟩⟩, decide_eq_true ?_⟩⟩
        have := congrArg (fun x => x[0]?) hr
        simpa using this
    by_cases h4 : hasL (32 :: w) m = true
    · rw [if_pos (key.mpr h4), if_pos h4]
    · rw [if_neg (fun h => h4 (key.mp h)), if_neg h4]
end TA

set_option linter.all false
set_option maxRecDepth 100000
set_option maxHeartbeats 1000000
/-! Texts: what the functions promise. -/
namespace TA
open PySem L2 PyProof.Rows
open SX (S S_len S_inj S_cat S_tl split_S join_S lower_S upper_S)
local macro_rules | `(tactic| simp! [$as,*]) => `(tactic| first | simp only [L2.start, tSeq, tAsg, tOp, fFld, tVar, gIxL, gIxT, tCB, tCons, tNil, gLenL, gLenT, gLenS, rI, rI0, fSet, tIfS, tTest, tB, rNotN, rIsN, rEq, rNe, tC, tDrop, fBM, fBM0, gTy, rAppend, tTup, tLst, tRet, tRetN, tNext, gName, fTup, gCons, gNil, tCall, fCallS, fMeth, tMeth, fMethS, fMake, tMake, fMakeS, tUn, rU, tAnd, tOr, tNot, tAndV, tOrV, tNotV, tIf, tChain, gListL, gListT, tSl, tNoPart, tPart, gSlL, fRaise, gStrI, gCatS, gMin2, gMax2, gIntB, tYes, fLcL, fLcT, fLcS, fLcR1, fForL, fForR1, fForR2, fRev, fGetI, gGetI, gInI, gLenI, fPutI, fNewI,
  List.map_cons, List.map_nil, List.length_cons, List.length_nil, List.replicate, List.cons_append, List.nil_append, List.append_nil, List.getElem?_cons_zero, List.getElem?_cons_succ, List.set_cons_zero, List.set_cons_succ, reduceIte, Bool.not_true, Bool.not_false, Nat.reduceAdd, Nat.reduceSub, Bool.false_eq_true, eq_self,
  Option.some.injEq, V.int.injEq, V.ref.injEq, V.str.injEq, V.bl.injEq, HO.ins.injEq, HO.lst.injEq, HO.tup.injEq, HO.dK.injEq, List.cons.injEq, and_assoc, exists_eq_left', exists_and_left, and_true, true_and, true_or, or_true, false_or, or_false, exists_eq_left, exists_eq_right, exists_eq_right', exists_eq, exists_eq', exists_const, upd_same, sc_ii, sc_ss, sc_bb, sc_in, sc_ni, sc_ns, sc_sn, sc_nn, $as,*] | skip)
theorem lit_b : (" " : Str) = S [32] := by kernel_rfl
theorem lit_e : ("" : Str) = S [] := by kernel_rfl
theorem S_eq {a b : List Nat} : (S a = S b) = (a = b) := propext ⟨S_inj, fun e => by rw [e]⟩
theorem S_size (a : List Nat) : (S a).cps.size = a.length := by simp [S]
theorem S_list (a : List Nat) : (S a).cps.toList = a := rfl
abbrev bT (K : PySem.W.Frag) : Value := .ref (He.ga K "BadText")
abbrev bN (K : PySem.W.Frag) : Value := .ref (He.ga K "BadNumber")
abbrev bA (K : PySem.W.Frag) : Value := .ref (He.ga K "BadAsk")
def sp_look_text (K : PySem.W.Frag) : Sp := fun vs H Q E => ∃ (l : List Nat) (n : Nat), vs = [.str (S l), .int n] ∧ l.length ≤ 1000000 ∧ ∀ H', Same H H' → if okL n l = true then Q .non H' else E (bT K) none H'
def sp_folded (K : PySem.W.Frag) : Sp := fun vs H Q E => ∃ (l : List Nat), vs = [.str (S l)] ∧ l.length ≤ 1000000 ∧ ∀ H', Same H H' → if okL 20 l = true then Q (.str (S (foldL l))) H' else E (bT K) none H'
def oiV : Option Int → V
  | none => .non
  | some i => .int i
def sp_rank (K : PySem.W.Frag) : Sp := fun vs H Q E => ∃ (r q : List Nat), vs = [.str (S r), .str (S q)] ∧ r.length ≤ 1000000 ∧ q.length ≤ 1000000 ∧ ∀ H', Same H H' → if okL 12 q = true ∧ okL 20 r = true then Q (oiV (rankL r q)) H' else E (bT K) none H'
def sp__law_folded (K : PySem.W.Frag) : Sp := fun vs H Q E => ∃ (l : List Nat), vs = [.str (S l)] ∧ l.length ≤ 1000 ∧ l.all okC = true ∧ ∀ H', Same H H' → Q (.str (S (foldL l))) H'
def sp__law_rank (K : PySem.W.Frag) : Sp := fun vs H Q E => ∃ (r q : List Nat), vs = [.str (S r), .str (S q)] ∧ r.length ≤ 1000 ∧ r.all okC = true ∧ q.length ≤ 1000 ∧ q.all okC = true ∧ ∀ H', Same H H' → Q (oiV (rankL r q)) H'
def t_look_text (K : PySem.W.Frag) (E : XK) : TS := tIfS (tOr (tTest (tOp (rI0 fun i j => .bl (decide (j < i))) (tCB (gLenS) (tCons (tVar 0) (tNil))) (tVar 1))) (tNot (tB (tCB (gAll) (tCons (fLcS (tVar 0) (gName 2) (tYes) (tAndV (tChain (rI0 fun i j => .bl (decide (i ≤ j))) (rI0 fun i j => .bl (decide (i < j))) (tC (.int 32)) (tCB (gOrd) (tCons (tVar 2) (tNil))) (tC (.int 127))) (tOp (rNe) (tCB (gOrd) (tCons (tVar 2) (tNil))) (tC (.int 37)))) [2]) (tNil)))))) (fRaise (WD E) (He.ga K "BadText")) (tNext)
abbrev nn_look_text : List Str := ["text", "most", "sign"]
def t_folded (K : PySem.W.Frag) (E : XK) : TS := tSeq (tDrop (tCall (sp_look_text K) [] E (tCons (tVar 0) (tCons (tC (.int 20)) (tNil))))) (tRet (fBM "str" gJoin (tC (.str " ")) (tCons (fLcL (fBM "str" gSplit (fBM0 "str" gLower (tVar 0)) (tCons (tC (.str " ")) (tNil))) (gName 1) (tTest (tOp (rNe) (tVar 1) (tC (.str "")))) (tVar 1) [1]) (tNil))))
abbrev nn_folded : List Str := ["text", "word"]
def t_rank (K : PySem.W.Frag) (E : XK) : TS := tSeq (tDrop (tCall (sp_look_text K) [] E (tCons (tVar 1) (tCons (tC (.int 12)) (tNil))))) (tSeq (tAsg (tCall (sp_folded K) [] E (tCons (tVar 0) (tNil))) (gName 2)) (tSeq (tAsg (tCall (sp_folded K) [] E (tCons (tVar 1) (tNil))) (gName 3)) (tSeq (tIfS (tTest (tOp (rEq) (tVar 2) (tVar 3))) (tRet (tC (.int 0))) (tNext)) (tSeq (tIfS (tB (fBM "str" gStarts (tVar 2) (tCons (tVar 3) (tNil)))) (tRet (tC (.int 1))) (tNext)) (tSeq (tIfS (tTest (tOp (gInS) (tOp (gCatS) (tC (.str " ")) (tVar 3)) (tVar 2))) (tRet (tC (.int 2))) (tNext)) (tRet (tIf (tTest (tOp (gInS) (tVar 3) (tVar 2))) (tC (.int 3)) (tC .non))))))))
abbrev nn_rank : List Str := ["row", "query", "mine", "wanted"]
def t__law_folded (K : PySem.W.Frag) (E : XK) : TS := tSeq (tAsg (tC (.str "")) (gName 1)) (tSeq (fForS (tVar 0) (gName 2) (tIfS (tTest (tOp (rNe) (tVar 2) (tC (.str " ")))) (tAsg (tOp (gCatS) (tVar 1) (fBM0 "str" gLower (tVar 2))) (gName 1)) (tIfS (tAnd (tTest (tOp (rNe) (tVar 1) (tC (.str "")))) (tTest (tOp (rNe) (tOp rIxS (tVar 1) (tUn (rU fun i => .int (-i)) (tC (.int 1)))) (tC (.str " "))))) (tAsg (tOp (gCatS) (tVar 1) (tC (.str " "))) (gName 1)) (tNext)))) (tRet (tIf (tTest (tOp (rEq) (tSl rSlS (tVar 1) (tPart (tUn (rU fun i => .int (-i)) (tC (.int 1)))) (tNoPart)) (tC (.str " ")))) (tSl rSlS (tVar 1) (tNoPart) (tPart (tUn (rU fun i => .int (-i)) (tC (.int 1))))) (tVar 1))))
abbrev nn__law_folded : List Str := ["text", "found", "sign"]
def t__law_rank (K : PySem.W.Frag) (E : XK) : TS := tSeq (tAsg (tCall (sp__law_folded K) [] E (tCons (tVar 0) (tNil))) (gName 2)) (tSeq (tAsg (tCall (sp__law_folded K) [] E (tCons (tVar 1) (tNil))) (gName 3)) (tSeq (tAsg (fLcR1 (tCons (tOp (rI0 fun i j => .int (i + j)) (tCB (gLenS) (tCons (tVar 2) (tNil))) (tC (.int 1))) (tNil)) (gName 5) (tTest (tOp (rEq) (tSl rSlS (tVar 2) (tPart (tVar 5)) (tPart (tOp (rI0 fun i j => .int (i + j)) (tVar 5) (tCB (gLenS) (tCons (tVar 3) (tNil)))))) (tVar 3))) (tVar 5) [5]) (gName 4)) (tSeq (tIfS (tTest (tOp (gEqD) (tVar 4) (tLst (tNil)))) (tRet (tC .non)) (tNext)) (tSeq (tIfS (tTest (tOp (rEq) (tOp gIxL (tVar 4) (tC (.int 0))) (tC (.int 0)))) (tRet (tIf (tTest (tOp (rEq) (tCB (gLenS) (tCons (tVar 2) (tNil))) (tCB (gLenS) (tCons (tVar 3) (tNil))))) (tC (.int 0)) (tC (.int 1)))) (tNext)) (tRet (tIf (tTest (tOp (gNeD) (fLcL (tVar 4) (gName 5) (tTest (tOp (rEq) (tOp rIxS (tVar 2) (tOp (rI0 fun i j => .int (i - j)) (tVar 5) (tC (.int 1)))) (tC (.str " ")))) (tVar 5) [5]) (tLst (tNil)))) (tC (.int 2)) (tC (.int 3))))))))
abbrev nn__law_rank : List Str := ["row", "query", "mine", "wanted", "spots", "k"]
section
variable {K : PySem.W.Frag}
theorem len_look_text : ∀ vs H Q E, sp_look_text K vs H Q E → vs.length = ["text", "most"].length := by
  rintro _ _ _ _ ⟨l, n, rfl, _⟩; rfl
theorem len_folded : ∀ vs H Q E, sp_folded K vs H Q E → vs.length = ["text"].length := by
  rintro _ _ _ _ ⟨l, rfl, _⟩; rfl
theorem len_rank : ∀ vs H Q E, sp_rank K vs H Q E → vs.length = ["row", "query"].length := by
  rintro _ _ _ _ ⟨r, q, rfl, _⟩; rfl
theorem len__law_folded : ∀ vs H Q E, sp__law_folded K vs H Q E → vs.length = ["text"].length := by
  rintro _ _ _ _ ⟨l, rfl, _⟩; rfl
theorem len__law_rank : ∀ vs H Q E, sp__law_rank K vs H Q E → vs.length = ["row", "query"].length := by
  rintro _ _ _ _ ⟨r, q, rfl, _⟩; rfl
theorem ord1 (c : Nat) : (S [c]).cps.getD 0 0 = c := rfl
theorem ordA (c : Nat) : (#[c] : Array Nat).getD 0 0 = c := rfl
theorem len1S (c : Nat) : (S [c]).length = 1 := rfl
theorem fm_range {β : Type} {l : List Nat} {f : Nat → Option β} {g : Nat → Option β} (h : ∀ i c, l[i]? = some c → f i = g c) : (List.range l.length).filterMap f = l.filterMap g := by
  induction l generalizing f with
  | nil => rfl
  | cons c l ih =>
    rw [List.length_cons, List.range_succ_eq_map, List.filterMap_cons, List.filterMap_cons, h 0 c rfl, List.filterMap_map, ih (f := f ∘ Nat.succ) fun i c hc => h (i + 1) c (by simpa using hc)]
theorem pure_look_text : ∀ vs H Q E, sp_look_text K vs H Q E → t_look_text K E { nx := fun _ H2 => Q .non H2, rt := Q } (L2.start nn_look_text vs) H := by
  rintro vs H Q E ⟨l, n, rfl, hl, hQ⟩
  unfold t_look_text
  simp! [S_len]
  have := line_big
  refine ⟨by omega, ?_⟩
  by_cases h1 : (n : Int) < l.length
  · refine ite_t h1 ?_
    have := hQ H (Same.refl H)
    rw [if_neg (by unfold okL; rw [decide_eq_false (by omega)]; simp)] at this
    exact this
  · refine ite_f h1 ?_
    refine comp_pure (fun i => (l[i]?).map fun c => V.bl (okC c)) (W.start H) (by rw [S_size]; exact hl) (fun _ _ _ _ => trivial) ?_ ?_
    · rintro D i x acc H' T F hi ⟨c, hc, rfl⟩ w' kT kF
      have hc : l[i]? = some c := hc
      simp! [wipe, gOrd, len1S, ordA]
      have out : ∀ b, b = okC c → T (V.bl b) H' := fun b e => kT _ H' (by rw [hc, e]; rfl) w'
      by_cases a : 32 ≤ c
      · refine ite_t (by omega) ?_
        by_cases b : c < 127
        · refine ite_t (by omega) (out _ ?_)
          unfold okC
          rw [decide_eq_true a, decide_eq_true b, Bool.true_and, Bool.true_and]
          exact congrArg not (decide_eq_decide.mpr (show (c : Int) = 37 ↔ c = 37 by omega))
        · refine ite_f (by omega) (out _ ?_)
          unfold okC
          rw [decide_eq_true a, decide_eq_false b]; rfl
      · refine ite_f (by omega) ?_
        refine out _ ?_
        unfold okC
        rw [decide_eq_false a]; rfl
    · intro D H' w'
      rw [S_size, fm_range (g := fun c => some (V.bl (okC c))) (fun i c hc => by rw [hc]; rfl), show (fun c => some (V.bl (okC c))) = (fun c => some ((V.bl ∘ okC) c)) from rfl, List.filterMap_eq_map'] at w'
      have hD := w'.has.1
      refine ⟨_, l.map okC, rfl, by rw [hD, List.map_map], ?_⟩
      have := hQ H' w'.sub
      have e : okL n l = l.all okC := by unfold okL; rw [decide_eq_true (by omega)]; rfl
      rw [e] at this
      have e2 : (l.map okC).all id = l.all okC := by rw [List.all_map]; rfl
      rw [e2]
      cases hb : l.all okC with
      | true => rw [hb, if_pos rfl] at this; simpa using this
      | false => rw [hb, if_neg (by decide)] at this; simpa [fRaise] using this
theorem all_lt {l : List Nat} (h : l.all okC = true) : l.all (· < 128) = true := by
  rw [List.all_eq_true] at h ⊢
  intro c hc
  have := h c hc
  unfold okC at this
  simp at this ⊢
  omega
theorem okL_all {n : Nat} {l : List Nat} (h : okL n l = true) : l.all okC = true := by
  unfold okL at h; rw [Bool.and_eq_true] at h; exact h.2
theorem okL_len {n : Nat} {l : List Nat} (h : okL n l = true) : l.length ≤ n := by
  unfold okL at h; rw [Bool.and_eq_true] at h; exact of_decide_eq_true h.1
/-- how the parts of a text add up -/
theorem spl_sum : ∀ (l acc : List Nat), ((TL.spl [32] 0 acc l).map List.length).sum + (TL.spl [32] 0 acc l).length = acc.length + l.length + 1
  | [], acc => by rw [TL.spl_nil]; simp
  | c :: l, acc => by
    by_cases h : c = 32
    · rw [TL.spl_hit (by rw [pre1]; simpa using h)]
      have := spl_sum l []
      simp at this ⊢; omega
    · rw [TL.spl_miss (by rw [pre1]; simpa using h)]
      have := spl_sum l (acc ++ [c])
      simp at this ⊢; omega
theorem filter_sum : ∀ (l : List (List Nat)), ((l.filter nonE).map List.length).sum ≤ (l.map List.length).sum
  | [] => Nat.le_refl _
  | x :: l => by
    rw [List.filter_cons]
    have := filter_sum l
    split <;> simp <;> omega
theorem pure_folded : ∀ vs H Q E, sp_folded K vs H Q E → t_folded K E { nx := fun _ H2 => Q .non H2, rt := Q } (L2.start nn_folded vs) H := by
  rintro vs H Q E ⟨l, rfl, hl, hQ⟩
  unfold t_folded
  simp! [and_true]
  refine ⟨l, 20, rfl, hl, fun H1 s1 => ?_⟩
  by_cases h1 : okL 20 l = true
  · rw [if_pos h1]
    have hl2 := okL_len h1
    have ha := all_lt (okL_all h1)
    have := line_big
    simp! [gLower, gSplit, gJoin, lit_b, lit_e, S_len, lower_S ha, List.length_map]
    refine ⟨by omega, by decide, by omega, fun p hp => ?_⟩
    have w1 := (W.start H1).newI (o := .lst ((Txt.split (S (l.map lo1)) (S [32])).map V.str)) hp
    have e := split_S (a := l.map lo1) (b := [32]) (by simp) (by decide)
    rw [e] at w1 ⊢
    have hsum := spl_sum (l.map lo1) []
    have hfs := filter_sum (TL.spl [32] 0 [] (l.map lo1))
    unfold foldL at hQ
    generalize hpp : TL.spl [32] 0 [] (l.map lo1) = parts at hsum hfs w1 hQ ⊢
    simp at hsum
    refine comp_pure (fun i => (parts[i]?).bind fun c => if nonE c = true then some (V.str (S c)) else none) w1 (by simp; omega) (fun _ _ _ w' => w'.sub _ _ upd_same) ?_ ?_
    · rintro D i x acc H' T F hi hx w' kT kF
      simp only [List.getElem?_map, Option.map_map, Option.map_eq_some_iff] at hx
      obtain ⟨c, hc, rfl⟩ := hx
      simp! [wipe, Function.comp, S_eq]
      cases c with
      | nil => rw [if_neg (by decide)]; exact kF _ (by rw [hc]; rfl) w'
      | cons x c => rw [if_pos (by simp)]; exact kT _ _ (by rw [hc]; rfl) w'
    · intro D H' w'
      have e2 : (List.range (parts.map S).length).filterMap (fun i => (parts[i]?).bind fun c => if nonE c = true then some (V.str (S c)) else none) = ((parts.filter nonE).map S).map V.str := by
        rw [List.length_map]
        clear hsum hfs w1 w' hQ e hpp
        have : ∀ (ps : List (List Nat)) (f : Nat → Option V), (∀ i, f i = (ps[i]?).bind fun c => if nonE c = true then some (V.str (S c)) else none) → (List.range ps.length).filterMap f = ((ps.filter nonE).map S).map V.str := by
          intro ps
          induction ps with
          | nil => intro f hf; rfl
          | cons p ps ih =>
            intro f hf
            rw [List.length_cons, List.range_succ_eq_map, List.filterMap_cons, List.filterMap_map, ih (f ∘ Nat.succ) (fun i => by simp [hf]), hf 0, List.filter_cons]
            by_cases hp : nonE p = true <;> simp [hp]
        exact this parts _ fun i => rfl
      rw [e2] at w'
      have hD := w'.has.1
      refine ⟨_, rfl, (parts.filter nonE).map S, hD, ?_, ?_⟩
      · rw [SX.lens]
        have := List.length_filter_le nonE parts
        have e3 : (List.map (fun x => x.length) (parts.filter nonE)).sum = ((parts.filter nonE).map List.length).sum := rfl
        rw [e3, List.length_map]; omega
      · rw [join_S]
        have := hQ H' (Same.trans s1 (Same.trans (fun b o h => (Sub.new hp) b o h) w'.sub))
        rw [if_pos h1] at this
        exact this
  · rw [if_neg h1]
    have := hQ H1 s1
    rw [if_neg h1] at this
    exact this
theorem subAt_pre (m w : List Nat) (i : Nat) : Builtin.Str.subAt (S m) (S w) i = TL.pre w (m.drop i) := by
  rw [StrLaws.subAt_eq, S_len]; rfl
theorem pre_len {w l : List Nat} (h : TL.pre w l = true) : w.length ≤ l.length := by
  obtain ⟨r, rfl⟩ := pre_iff.mp h; simp
theorem starts_S (m w : List Nat) : Txt.startswith (S m) (S w) = TL.pre w m := by
  rw [Bool.eq_iff_iff]
  unfold Txt.startswith
  rw [Bool.and_eq_true, decide_eq_true_eq, subAt_pre, List.drop_zero, S_len, S_len, Nat.zero_add]
  exact ⟨fun h => h.2, fun h => ⟨pre_len h, h⟩⟩
theorem in_S (m w : List Nat) : (!(Builtin.Str.occurrences (S m) (S w) 0 m.length 1).isEmpty) = hasL w m := by
  have e := StrLaws.found_iff (S m) (S w)
  rw [S_len, S_len] at e
  rw [Bool.eq_iff_iff, e, has_iff]
  constructor
  · rintro ⟨i, h1, h2⟩; rw [subAt_pre] at h2; exact ⟨i, mem_spots.mpr ⟨by omega, h2⟩⟩
  · rintro ⟨i, h⟩
    obtain ⟨h1, h2⟩ := mem_spots.mp h
    refine ⟨i, ?_, by rw [subAt_pre]; exact h2⟩
    have := pre_len h2
    rw [List.length_drop] at this; omega
theorem pure_rank : ∀ vs H Q E, sp_rank K vs H Q E → t_rank K E { nx := fun _ H2 => Q .non H2, rt := Q } (L2.start nn_rank vs) H := by
  rintro vs H Q E ⟨r, q, rfl, hr, hq, hQ⟩
  unfold t_rank
  simp! [and_true]
  refine ⟨q, 12, rfl, hq, fun H1 s1 => ?_⟩
  by_cases h1 : okL 12 q = true
  · rw [if_pos h1]
    refine ⟨r, rfl, hr, fun H2 s2 => ?_⟩
    by_cases h2 : okL 20 r = true
    · rw [if_pos h2]
      refine ⟨q, rfl, hq, fun H3 s3 => ?_⟩
      have h3 : okL 20 q = true := by
        unfold okL at h1 ⊢
        rw [Bool.and_eq_true] at h1 ⊢
        exact ⟨decide_eq_true (by have := of_decide_eq_true h1.1; omega), h1.2⟩
      rw [if_pos h3]
      have := hQ H3 (s1.trans (s2.trans s3))
      rw [if_pos ⟨h1, h2⟩] at this
      unfold rankL rankM at this
      generalize hm : foldL r = m at this ⊢
      generalize hw : foldL q = w at this ⊢
      simp! [S_eq, gStarts, gInS, starts_S, lit_b, S_cat, in_S, S_len]
      have hb := line_big
      have hwl := fold_len q
      rw [hw] at hwl
      by_cases c1 : m = w
      · rw [if_pos c1] at this; exact ite_t c1 this
      rw [if_neg c1] at this
      refine ite_f c1 ?_
      by_cases c2 : TL.pre w m = true
      · rw [if_pos c2] at this; rw [if_pos c2]; exact this
      rw [if_neg c2] at this; rw [if_neg c2]
      refine ⟨by omega, ?_⟩
      by_cases c3 : hasL (32 :: w) m = true
      · rw [if_pos c3] at this; rw [if_pos c3]; exact this
      rw [if_neg c3] at this; rw [if_neg c3]
      by_cases c4 : hasL w m = true
      · rw [if_pos c4] at this; rw [if_pos c4]; exact this
      rw [if_neg c4] at this; rw [if_neg c4]; exact this
    · rw [if_neg h2]
      have := hQ H2 (s1.trans s2)
      rw [if_neg (fun h => h2 h.2)] at this
      exact this
  · rw [if_neg h1]
    have := hQ H1 s1
    rw [if_neg (fun h => h1 h.1)] at this
    exact this
theorem cut_lo (z : List Nat) : cutS (S z) (some (-1)) none = S (z.drop (z.length - 1)) := by
  unfold cutS
  have e : (-1 + (z.length : Int)).toNat = z.length - 1 := by omega
  simp [S_len, HT.sIx, e]
  rw [List.take_of_length_le (by simp)]
theorem cut_hi (z : List Nat) : cutS (S z) none (some (-1)) = S z.dropLast := by
  unfold cutS
  have e : (-1 + (z.length : Int)).toNat = z.length - 1 := by omega
  simp [S_len, HT.sIx, e, List.dropLast_eq_take]
theorem last_at {z : List Nat} {c : Nat} (h : z.getLast? = some c) : atI z (-1) = some c := by
  rw [List.getLast?_eq_getElem?] at h
  obtain ⟨hl, _⟩ := List.getElem?_eq_some_iff.mp h
  unfold atI ixN
  rw [if_neg (by decide), if_pos (by omega)]
  show z[(-1 + (z.length : Int)).toNat]? = some c
  rw [show (-1 + (z.length : Int)).toNat = z.length - 1 by omega]; exact h
theorem drop_last {z : List Nat} : z.drop (z.length - 1) = z.getLast?.toList := by
  cases h : z.getLast? with
  | none => rw [List.getLast?_eq_none_iff.mp h]; rfl
  | some c =>
    obtain ⟨y, rfl⟩ := List.getLast?_eq_some_iff.mp h
    simp
theorem pure__law_folded : ∀ vs H Q E, sp__law_folded K vs H Q E → t__law_folded K E { nx := fun _ H2 => Q .non H2, rt := Q } (L2.start nn__law_folded vs) H := by
  rintro vs H Q E ⟨l, rfl, hl, ha, hQ⟩
  have hb := line_big
  unfold t__law_folded
  simp! [fForS, lit_b, lit_e, S_eq]
  refine ⟨fun i σ H' => H' = H ∧ ∃ v, σ = [some (.str (S l)), some (.str (S ((l.take i).foldl stepL []))), v], ⟨rfl, none, rfl⟩, ?_, ?_⟩
  · rintro i c σ H' hi ⟨rfl, v, rfl⟩
    have hi : l[i]? = some c := hi
    have hc : okC c = true := List.all_eq_true.mp ha c (List.mem_of_getElem? hi)
    have hlen := @foldl_len (l.take i) []
    have hlow := lower_S (a := [c]) (all_lt (by simpa using hc))
    have htk : ((l.take (i + 1)).foldl stepL []) = stepL ((l.take i).foldl stepL []) c := by
      rw [take_succ_get hi, List.foldl_append]; rfl
    simp only [htk]
    generalize (l.take i).foldl stepL [] = acc at hlen ⊢
    simp! [gLower, hlow, S_cat, S_len, S_eq]
    have hlen : acc.length ≤ 1000 := by simp at hlen; omega
    by_cases c1 : c = 32
    · refine ite_nt c1 ?_
      by_cases c2 : acc = []
      · refine ite_nt c2 ?_
        unfold stepL
        rw [if_neg (by simpa using c1), if_neg (fun h => h.1 c2)]
      · refine ite_nf c2 ?_
        obtain ⟨d, hd⟩ : ∃ d, acc.getLast? = some d := by
          cases h : acc.getLast? with
          | none => exact absurd (List.getLast?_eq_none_iff.mp h) c2
          | some d => exact ⟨d, rfl⟩
        refine ⟨_, _, d, rfl, rfl, by rw [S_len]; omega, last_at hd, rfl, ?_⟩
        simp! [S_eq]
        by_cases c3 : d = 32
        · refine ite_nt c3 ?_
          unfold stepL
          rw [if_neg (by simpa using c1), if_neg (fun h => h.2 (by rw [hd, c3]))]
        · refine ite_nf c3 ⟨by omega, ?_⟩
          unfold stepL
          rw [if_neg (by simpa using c1), if_pos ⟨c2, fun h => c3 (by rw [hd] at h; exact Option.some.inj h)⟩]
    · refine ite_nf c1 ⟨by decide, by omega, ?_⟩
      unfold stepL
      rw [if_pos c1]
  · rintro σ H' ⟨rfl, v, rfl⟩
    have e : l.take (S l).cps.size = l := by rw [S_size, List.take_length]
    rw [e]
    have hf := fold_eq l
    have hlen := @foldl_len l []
    generalize l.foldl stepL [] = acc at hf hlen ⊢
    simp! [rSlS, cut_lo, cut_hi, S_len, S_eq, drop_last]
    have hlen : acc.length ≤ 1000 := by simp at hlen; omega
    refine ⟨by omega, ?_⟩
    unfold finL at hf
    by_cases c1 : acc.getLast? = some 32
    · rw [if_pos c1] at hf
      refine ite_t (by rw [c1]; rfl) ⟨by omega, ?_⟩
      rw [hf]; exact hQ _ (Same.refl _)
    · rw [if_neg c1] at hf
      refine ite_f ?_ ?_
      · intro h
        apply c1
        cases h2 : acc.getLast? with
        | none => rw [h2] at h; simp at h
        | some d => rw [h2] at h; simp at h; rw [h]
      · rw [hf]; exact hQ _ (Same.refl _)
theorem cut_mid (m : List Nat) (k n : Nat) (h : k ≤ m.length) : cutS (S m) (some (k : Int)) (some ((k : Int) + (n : Int))) = S ((m.drop k).take n) := by
  unfold cutS
  have e1 : HT.sIx (S m).length 0 (some (k : Int)) = k := by rw [S_len]; unfold HT.sIx; simp only []; rw [if_neg (by omega)]; omega
  have e2 : HT.sIx (S m).length (S m).length (some ((k : Int) + (n : Int))) = min (k + n) m.length := by rw [S_len]; unfold HT.sIx; simp only []; rw [if_neg (by omega)]; omega
  rw [e1, e2]
  have : (List.take (min (k + n) m.length - k) (m.drop k)) = (m.drop k).take n := by
    by_cases h : k + n ≤ m.length
    · rw [Nat.min_eq_left h, Nat.add_sub_cancel_left]
    · rw [Nat.min_eq_right (by omega), List.take_of_length_le (by simp), List.take_of_length_le (by simp; omega)]
  exact congrArg S this
theorem cut_to (m : List Nat) (n : Nat) : cutS (S m) none (some (n : Int)) = S (m.take n) := by
  unfold cutS
  have e2 : HT.sIx (S m).length (S m).length (some (n : Int)) = min n m.length := by rw [S_len]; unfold HT.sIx; simp only []; rw [if_neg (by omega)]; omega
  rw [e2]
  show S ((m.drop 0).take (min n m.length - 0)) = _
  rw [List.drop_zero, Nat.sub_zero]
  by_cases h : n ≤ m.length
  · rw [Nat.min_eq_left h]
  · rw [Nat.min_eq_right (by omega), List.take_of_length_le (by simp), List.take_of_length_le (by omega)]
theorem at0 {α : Type} {x : α} {l : List α} : atI (x :: l) 0 = some x := by unfold atI ixN; simp
theorem pure__law_rank : ∀ vs H Q E, sp__law_rank K vs H Q E → t__law_rank K E { nx := fun _ H2 => Q .non H2, rt := Q } (L2.start nn__law_rank vs) H := by
  rintro vs H Q E ⟨r, q, rfl, hr, ar, hq, aq, hQ⟩
  have hb := line_big
  unfold t__law_rank
  simp! [and_true]
  refine ⟨r, rfl, hr, ar, fun H1 s1 => ⟨q, rfl, hq, aq, fun H2 s2 => ?_⟩⟩
  have h1 := fold_len r
  have h2 := fold_len q
  unfold rankL at hQ
  generalize foldL r = m at hQ h1 ⊢
  generalize foldL q = w at hQ h2 ⊢
  rw [← rank_eq] at hQ
  simp! [S_len]
  refine ⟨by omega, by omega, by omega, ?_⟩
  refine comp_pure (fun k => if TL.pre w (m.drop k) = true then some (V.int k) else none) (W.start H2) (by omega) (fun _ _ _ _ => trivial) ?_ ?_
  · rintro D k x acc H' T F hi rfl w' kT kF
    simp! [wipe, rSlS, S_len]
    have e := cut_mid m k w.length (by omega)
    refine ⟨by omega, by omega, ?_⟩
    rw [e]
    simp only [S_eq]
    by_cases c : (m.drop k).take w.length = w
    · refine ite_t c (kT _ _ ?_ w')
      rw [if_pos (by unfold TL.pre; rw [c]; simp)]
    · refine ite_f c (kF _ ?_ w')
      rw [if_neg (by unfold TL.pre; simpa using c)]
  · intro D H' w'
    have e : (List.range ((m.length : Int) + 1).toNat).filterMap (fun k => if TL.pre w (m.drop k) = true then some (V.int k) else none) = ((spotsL m w).map fun (k : Nat) => (k : Int)).map V.int := by
      unfold spotsL
      rw [show ((m.length : Int) + 1).toNat = m.length + 1 by omega, List.map_map]
      generalize List.range (m.length + 1) = ks
      induction ks with
      | nil => rfl
      | cons k ks ih =>
        rw [List.filterMap_cons, List.filter_cons]
        by_cases c : TL.pre w (m.drop k) = true <;> simp [c, ih]
    rw [e] at w'
    have sps : ∀ k ∈ spotsL m w, k ≤ m.length ∧ (k = 0 → (spotsL m w).head? = some 0) := fun k hk => by
      obtain ⟨h3, h4⟩ := mem_spots.mp hk
      exact ⟨h3, fun z => spots_head.mpr (by rw [z] at h4; exact h4)⟩
    unfold rankS at hQ
    generalize hsp : spotsL m w = sp at w' hQ sps
    refine ⟨Nat.zero_le _, fun p hp => ?_⟩
    have w2 := w'.newI (o := .lst []) hp
    have hp2 : (upd H' p (.lst [])) p = some (.lst []) := upd_same
    generalize upd H' p (.lst []) = H3 at w2 hp2 ⊢
    have hD := w2.has.1
    have sm : Same H H3 := s1.trans (s2.trans (Same.trans (fun b o h => Sub.new (w'.noI hp) b o h) w2.sub))
    refine eqD_nil hD (rpAll_ints _) hp2 ?_
    cases sp with
    | nil =>
      simp! [List.isEmpty_nil]
      exact hQ _ sm
    | cons k0 sp =>
      simp! [List.isEmpty_cons, hD]
      refine ⟨V.int k0, at0, rfl, ?_⟩
      rw [if_neg (by simp)] at hQ
      by_cases c : k0 = 0
      · subst c
        rw [if_pos (show (0 :: sp).head? = some 0 from rfl)] at hQ
        refine ite_t rfl ⟨by omega, by omega, ?_⟩
        by_cases c2 : m.length = w.length
        · rw [if_pos c2] at hQ; exact ite_t (by omega) (hQ _ sm)
        · rw [if_neg c2] at hQ; exact ite_f (by omega) (hQ _ sm)
      · rw [if_neg (by simpa using c)] at hQ
        refine ite_f (by simpa using c) ?_
        have hlen : (k0 :: sp).length ≤ m.length + 1 := by
          rw [← hsp]; unfold spotsL
          exact Nat.le_trans (List.length_filter_le _ _) (by simp)
        have nz : ∀ k ∈ k0 :: sp, 1 ≤ k ∧ k ≤ m.length := fun k hk => ⟨by
          have := (sps k hk).2
          rcases Nat.eq_zero_or_pos k with z | z
          · have := this z; simp at this; exact absurd this c
          · exact z, (sps k hk).1⟩
        have e5 : V.int (k0 : Int) :: ((sp.map fun (k : Nat) => (k : Int)).map V.int) = (k0 :: sp).map fun (k : Nat) => V.int k := by simp
        have e7 : ((sp.map fun (k : Nat) => (k : Int)).map V.int).length + 1 = (k0 :: sp).length := by simp
        rw [e5, e7]
        have hD' : H3 D = some (.lst ((k0 :: sp).map fun (k : Nat) => V.int k)) := by rw [hD, ← e5]; rfl
        generalize hks : k0 :: sp = ks at hQ hlen nz hD' ⊢
        refine comp_pure (fun i => (ks[i]?).bind fun k => if blankAt m k = true then some (V.int k) else none) w2 (by omega) (fun _ _ _ w' => by rw [w'.has.2.1, ← hks]; simp) ?_ ?_
        · rintro D2 i x acc H' T F hi hx w' kT kF
          rw [List.getElem?_map, Option.map_eq_some_iff] at hx
          obtain ⟨k, hk, rfl⟩ := hx
          obtain ⟨k1, k2⟩ := nz k (List.mem_of_getElem? hk)
          have hg : m[k - 1]? = some (m[k - 1]'(by omega)) := List.getElem?_eq_getElem (by omega)
          simp! [wipe]
          refine ⟨_, _, m[k - 1]'(by omega), rfl, rfl, by rw [S_len]; omega, ?_, rfl, ?_⟩
          · unfold atI ixN
            rw [if_pos (by omega), if_pos (show ((k : Int) - 1) < ((S m).cps.toList.length : Nat) from by show _ < ((m.length : Nat) : Int); omega)]
            show m[((k : Int) - 1).toNat]? = _
            rw [show ((k : Int) - 1).toNat = k - 1 by omega]; exact hg
          · simp! [lit_b, S_eq]
            by_cases c3 : m[k - 1]'(by omega) = 32
            · refine ite_t c3 (kT _ _ ?_ w')
              rw [hk]; show (if blankAt m k = true then _ else _) = _
              rw [if_pos (by unfold blankAt; rw [hg, c3]; rfl)]
            · refine ite_f c3 (kF _ ?_ w')
              rw [hk]; show (if blankAt m k = true then _ else _) = _
              rw [if_neg (by unfold blankAt; rw [hg]; simpa using c3)]
        · intro D2 H4 w4
          have e6 : (List.range ks.length).filterMap (fun i => (ks[i]?).bind fun k => if blankAt m k = true then some (V.int k) else none) = ((ks.filter (blankAt m)).map fun (k : Nat) => (k : Int)).map V.int := by
            rw [fm_range (g := fun k => if blankAt m k = true then some (V.int k) else none) (fun i c h => by rw [h]; rfl), List.map_map]
            clear w4 hD' nz hlen hQ hks
            induction ks with
            | nil => rfl
            | cons k ks ih =>
              rw [List.filterMap_cons, List.filter_cons]
              by_cases c : blankAt m k = true <;> simp [c, ih]
          rw [e6] at w4
          refine ⟨Nat.zero_le _, fun p2 hp2 => ?_⟩
          have w5 := w4.newI (o := .lst []) hp2
          have hp3 : (upd H4 p2 (.lst [])) p2 = some (.lst []) := upd_same
          generalize upd H4 p2 (.lst []) = H5 at w5 hp3 ⊢
          have sm5 : Same H H5 := s1.trans (s2.trans (Same.trans (Same.trans (fun b o h => Sub.new (w'.noI hp) b o h) (fun b o h => Sub.new (w4.noI hp2) b o h)) w5.sub))
          refine neD_nil w5.has.1 (rpAll_ints _) hp3 ?_
          cases hfl : ks.filter (blankAt m) with
          | nil =>
            rw [hfl, if_neg (by simp)] at hQ
            simp! [List.isEmpty_nil]
            exact hQ _ sm5
          | cons a b =>
            rw [hfl, if_pos (by simp)] at hQ
            simp! [List.isEmpty_cons]
            exact hQ _ sm5
end
end TA

set_option linter.all false
set_option maxRecDepth 100000
set_option maxHeartbeats 1000000
/-! Rows and queries drawn. -/
namespace TA
open PySem L2 PyProof.Rows
open SX (S S_len S_inj S_cat S_tl)
local macro_rules | `(tactic| simp! [$as,*]) => `(tactic| first | simp only [L2.start, tSeq, tAsg, tOp, fFld, tVar, gIxL, gIxT, tCB, tCons, tNil, gLenL, gLenT, gLenS, rI, rI0, fSet, tIfS, tTest, tB, rNotN, rIsN, rEq, rNe, tC, tDrop, fBM, fBM0, gTy, rAppend, tTup, tLst, tRet, tRetN, tNext, gName, fTup, gCons, gNil, tCall, fCallS, fMeth, tMeth, fMethS, fMake, tMake, fMakeS, tUn, rU, tAnd, tOr, tNot, tAndV, tOrV, tNotV, tIf, tChain, gListL, gListT, tSl, tNoPart, tPart, gSlL, fRaise, gStrI, gCatS, gMin2, gMax2, gIntB, tYes, fLcL, fLcT, fLcS, fLcR1, fForL, fForR1, fForR2, fRev, fGetI, gGetI, gInI, gLenI, fPutI, fNewI,
  List.map_cons, List.map_nil, List.length_cons, List.length_nil, List.replicate, List.cons_append, List.nil_append, List.append_nil, List.getElem?_cons_zero, List.getElem?_cons_succ, List.set_cons_zero, List.set_cons_succ, reduceIte, Bool.not_true, Bool.not_false, Nat.reduceAdd, Nat.reduceSub, Bool.false_eq_true, eq_self,
  Option.some.injEq, V.int.injEq, V.ref.injEq, V.str.injEq, V.bl.injEq, HO.ins.injEq, HO.lst.injEq, HO.tup.injEq, HO.dK.injEq, List.cons.injEq, and_assoc, exists_eq_left', exists_and_left, and_true, true_and, true_or, or_true, false_or, or_false, exists_eq_left, exists_eq_right, exists_eq_right', exists_eq, exists_eq', exists_const, upd_same, sc_ii, sc_ss, sc_bb, sc_in, sc_ni, sc_ns, sc_sn, sc_nn, $as,*] | skip)
def sp__law_row (K : PySem.W.Frag) : Sp := fun vs H Q _ => ∃ (I : Hp) (a t : Addr) (n : Nat) (M : List (Addr × HO)), vs = [.ref a, .ref t] ∧ Dr K I H a t n M ∧ n < 900000 ∧
  ∀ (l : List Nat) (H' : Hp), okL 15 l = true → Dr K I H' a t (n + 7) M → Q (.str (S l)) H'
def sp__law_query (K : PySem.W.Frag) : Sp := fun vs H Q _ => ∃ (I : Hp) (a t : Addr) (n : Nat) (M : List (Addr × HO)), vs = [.ref a, .ref t] ∧ Dr K I H a t n M ∧ n < 900000 ∧
  ∀ (l : List Nat) (H' : Hp), okL 8 l = true → Dr K I H' a t (n + 5) M → Q (.str (S l)) H'
def t__law_row (K : PySem.W.Frag) (E : XK) : TS := tSeq (tAsg (tC (.str "")) (gName 2)) (tSeq (fForR1 (tCons (tOp (rI0 fun i j => .int (i + j)) (tC (.int 1)) (tCall (sp__law_draw K) [] E (tCons (tVar 0) (tCons (tVar 1) (tCons (tC (.int 3)) (tNil)))))) (tNil)) (gName 3) (tSeq (tAsg (tOp (gCatS) (tVar 2) (tCall (sp__law_pick K) [] E (tCons (tVar 0) (tCons (tVar 1) (tCons (tLst (tCons (tC (.str "a")) (tCons (tC (.str "ab")) (tCons (tC (.str "Ab")) (tCons (tC (.str "b")) (tCons (tC (.str "abc")) (tCons (tC (.str "ba")) (tCons (tC (.str "c ")) (tNil))))))))) (tNil)))))) (gName 2)) (tAsg (tOp (gCatS) (tVar 2) (tCall (sp__law_pick K) [] E (tCons (tVar 0) (tCons (tVar 1) (tCons (tLst (tCons (tC (.str "")) (tCons (tC (.str " ")) (tCons (tC (.str "  ")) (tNil))))) (tNil)))))) (gName 2)))) (tRet (tVar 2)))
abbrev nn__law_row : List Str := ["script", "town", "found", "k"]
def t__law_query (K : PySem.W.Frag) (E : XK) : TS := tSeq (tAsg (tC (.str "")) (gName 2)) (tSeq (fForR1 (tCons (tCall (sp__law_draw K) [] E (tCons (tVar 0) (tCons (tVar 1) (tCons (tC (.int 5)) (tNil))))) (tNil)) (gName 3) (tAsg (tOp (gCatS) (tVar 2) (tCall (sp__law_pick K) [] E (tCons (tVar 0) (tCons (tVar 1) (tCons (tLst (tCons (tC (.str "a")) (tCons (tC (.str "b")) (tCons (tC (.str "A")) (tCons (tC (.str "ab")) (tCons (tC (.str " ")) (tCons (tC (.str "c")) (tNil)))))))) (tNil)))))) (gName 2))) (tRet (tVar 2)))
abbrev nn__law_query : List Str := ["script", "town", "found", "k"]
section
variable {K : PySem.W.Frag}
theorem len__law_row : ∀ vs H Q E, sp__law_row K vs H Q E → vs.length = ["script", "town"].length := by
  rintro _ _ _ _ ⟨_, _, _, _, _, rfl, _⟩; rfl
theorem len__law_query : ∀ vs H Q E, sp__law_query K vs H Q E → vs.length = ["script", "town"].length := by
  rintro _ _ _ _ ⟨_, _, _, _, _, rfl, _⟩; rfl
theorem okL_app {m n : Nat} {a b : List Nat} (h1 : okL m a = true) (h2 : okL n b = true) : okL (m + n) (a ++ b) = true := by
  unfold okL at *
  rw [Bool.and_eq_true] at *
  have := of_decide_eq_true h1.1
  have := of_decide_eq_true h2.1
  exact ⟨decide_eq_true (by simp; omega), by rw [List.all_append, h1.2, h2.2]; rfl⟩
theorem okL_le {m n : Nat} {a : List Nat} (h : okL m a = true) (hn : m ≤ n) : okL n a = true := by
  unfold okL at *
  rw [Bool.and_eq_true] at *
  exact ⟨decide_eq_true (Nat.le_trans (of_decide_eq_true h.1) hn), h.2⟩
/-- texts of a list of literals -/
theorem mem_texts {n : Nat} : ∀ {xs : List Str} {x : V}, (xs.all fun s => okL n s.cps.toList) = true → x ∈ xs.map V.str → ∃ l, x = .str (S l) ∧ okL n l = true := fun {xs x} h hx => by
  obtain ⟨s, hs, rfl⟩ := List.mem_map.mp hx
  exact ⟨s.cps.toList, by rw [S_tl], List.all_eq_true.mp h s hs⟩
structure PR (K : PySem.W.Frag) (I : Hp) (a t : Addr) (n : Nat) (M : List (Addr × HO)) (f g : Nat) (i : Nat) (σ : L2.St) (H : Hp) : Prop where
  ex : ∃ (l : List Nat) (v : Option V), σ = [some (.ref a), some (.ref t), some (.str (S l)), v] ∧ okL (f * i) l = true ∧ Dr K I H a t (n + 1 + g * i) M
theorem pure__law_row : ∀ vs H Q E, sp__law_row K vs H Q E → t__law_row K E { nx := fun _ H2 => Q .non H2, rt := Q } (L2.start nn__law_row vs) H := by
  rintro vs H Q E ⟨I, a, t, n, M, rfl, d, hn, hQ⟩
  have hb := line_big
  unfold t__law_row
  simp! [and_true]
  refine ⟨I, a, t, n, M, 3, rfl, d, by omega, by decide, fun j H1 j0 j1 d1 => ?_⟩
  refine ⟨_, rfl, by omega, by omega, PR K I a t n M 5 2, ⟨[], none, by rw [lit_e], rfl, d1.le (by omega)⟩, ?_, ?_⟩
  · rintro i σ H2 hi ⟨l, v, rfl, hl, d2⟩
    have l1 := okL_len hl
    simp! [and_true]
    refine ⟨by omega, fun p hp => ?_⟩
    have d3 := d2.newM (o := .lst ((["a", "ab", "Ab", "b", "abc", "ba", "c "] : List Str).map V.str)) hp
    refine ⟨I, a, t, p, _, _, _, rfl, d3, by omega, fun H' h => h.elim (fun d => d.has.1) (fun d => d.has.1), by simp, fun x H3 hx d4 => ?_⟩
    obtain ⟨l2, rfl, ok2⟩ := mem_texts (n := 3) (by decide +kernel) hx
    have l2' := okL_len ok2
    simp! [S_cat, S_len, List.length_append]
    refine ⟨by omega, by omega, fun p2 hp2 => ?_⟩
    have d5 := d4.drop.newM (o := .lst ((["", " ", "  "] : List Str).map V.str)) hp2
    refine ⟨I, a, t, p2, _, _, _, rfl, d5, by omega, fun H' h => h.elim (fun d => d.has.1) (fun d => d.has.1), by simp, fun x H4 hx d6 => ?_⟩
    obtain ⟨l3, rfl, ok3⟩ := mem_texts (n := 2) (by decide +kernel) hx
    have l3' := okL_len ok3
    simp! [S_cat, S_len, List.length_append]
    exact ⟨by omega, ⟨_, _, rfl, okL_le (okL_app (okL_app hl ok2) ok3) (by omega), d6.drop.le (by omega)⟩⟩
  · rintro σ H2 ⟨l, v, rfl, hl, d2⟩
    simp! [and_true]
    exact hQ l H2 (okL_le hl (by omega)) (d2.le (by omega))
theorem pure__law_query : ∀ vs H Q E, sp__law_query K vs H Q E → t__law_query K E { nx := fun _ H2 => Q .non H2, rt := Q } (L2.start nn__law_query vs) H := by
  rintro vs H Q E ⟨I, a, t, n, M, rfl, d, hn, hQ⟩
  have hb := line_big
  unfold t__law_query
  simp! [and_true]
  refine ⟨I, a, t, n, M, 5, rfl, d, by omega, by decide, fun j H1 j0 j1 d1 => ?_⟩
  refine ⟨_, rfl, by omega, by omega, PR K I a t n M 2 1, ⟨[], none, by rw [lit_e], rfl, d1.le (by omega)⟩, ?_, ?_⟩
  · rintro i σ H2 hi ⟨l, v, rfl, hl, d2⟩
    have l1 := okL_len hl
    simp! [and_true]
    refine ⟨by omega, fun p hp => ?_⟩
    have d3 := d2.newM (o := .lst ((["a", "b", "A", "ab", " ", "c"] : List Str).map V.str)) hp
    refine ⟨I, a, t, p, _, _, _, rfl, d3, by omega, fun H' h => h.elim (fun d => d.has.1) (fun d => d.has.1), by simp, fun x H3 hx d4 => ?_⟩
    obtain ⟨l2, rfl, ok2⟩ := mem_texts (n := 2) (by decide +kernel) hx
    have l2' := okL_len ok2
    simp! [S_cat, S_len, List.length_append]
    exact ⟨by omega, ⟨_, _, rfl, okL_le (okL_app hl ok2) (by omega), d4.drop.le (by omega)⟩⟩
  · rintro σ H2 ⟨l, v, rfl, hl, d2⟩
    simp! [and_true]
    exact hQ l H2 (okL_le hl (by omega)) (d2.le (by omega))
end
end TA

set_option linter.all false
set_option maxRecDepth 100000
set_option maxHeartbeats 1000000
/-! Comprehensions that make data; the order of rows. -/
namespace TA
open PySem L2 PyProof.Rows
open SX (S S_len S_inj S_cat S_tl)
abbrev Tx := List Nat
abbrev sV (l : Tx) : V := .str (S l)
abbrev sD (l : Tx) : PyData := .str (S l)
/-- an object that stands, never to change or to change -/
def Ls (I : Hp) (M : List (Addr × HO)) (l : Addr) (o : HO) : Prop := I l = some o ∨ (l, o) ∈ M
section
variable {I I' H : Hp} {M : List (Addr × HO)} {l : Addr} {o : HO} {x : Addr × HO}
theorem Ls.at (h : Ls I M l o) (w : W I H M) : H l = some o := h.elim (fun h => w.sub _ _ h) fun h => has_mem w.has _ h
theorem Ls.mono (h : Ls I M l o) (s : Sub I I') : Ls I' M l o := h.elim (fun h => .inl (s _ _ h)) .inr
theorem Ls.cons (h : Ls I M l o) : Ls I (x :: M) l o := h.elim .inl fun h => .inr (List.mem_cons_of_mem _ h)
theorem W.mkI {p : Addr} (w : W I H M) (hp : H p = none) (o : HO) : ∃ I', Sub I I' ∧ W I' (upd H p o) M ∧ I' p = some o := ⟨upd I p o, Sub.new (w.noI hp), w.newI hp, upd_same⟩
theorem W.frz {p : Addr} (w : W I H ((p, o) :: M)) : ∃ I', Sub I I' ∧ W I' H M ∧ I' p = some o := ⟨upd I p o, Sub.new (w.out (p, o) List.mem_cons_self), w.freeze, upd_same⟩
theorem Ls.head : Ls I ((l, o) :: M) l o := .inr List.mem_cons_self
theorem Ls.i (h : I l = some o) : Ls I M l o := .inl h
end
theorem fm_list {α β : Type} {l : List α} {out : Nat → Option β} {g : α → Option β} (h : ∀ i a, l[i]? = some a → out i = g a) : (List.range l.length).filterMap out = l.filterMap g := by
  induction l generalizing out with
  | nil => rfl
  | cons c l ih =>
    rw [List.length_cons, List.range_succ_eq_map, List.filterMap_cons, List.filterMap_cons, h 0 c rfl, List.filterMap_map, ih (out := out ∘ Nat.succ) fun i c hc => h (i + 1) c (by simpa using hc)]
/-- a comprehension that makes data that never change -/
theorem comp_data {β : Type} {src : Hp → Prop} {n : Nat} {item : Nat → V → Prop} {g : TG} {tt : TT} {te : TE} {vs : List Nat} {σ : Sl} {H : Hp} {Q : VK} {I : Hp} {M : List (Addr × HO)} (e : β → PyData) (out : Nat → Option β) (w : W I H M) (hn : n ≤ 1000000)
    (hsrc : ∀ I' D acc H', Sub I I' → W I' H' ((D, .lst acc) :: M) → src H')
    (turn : ∀ D i x acc I' H' (T : VK) (F : Hp → Prop), i < n → item i x → Sub I I' → W I' H' ((D, .lst acc) :: M) → (∀ I2 H4 y b, out i = some b → Sub I' I2 → W I2 H4 ((D, .lst acc) :: M) → Rp I2 y (e b) → T y H4) →
      (∀ I2 H3, out i = none → Sub I' I2 → W I2 H3 ((D, .lst acc) :: M) → F H3) → g x (wipe σ vs) H' fun σ2 H2 => wipe σ2 vs = wipe σ vs ∧ tt σ2 H2 fun b H3 => if b = true then te σ2 H3 T else F H3)
    (fin : ∀ I' D H' (ys : List (V × β)), Sub I I' → W I' H' ((D, .lst (ys.map Prod.fst)) :: M) → Enc I' e ys → ys.map Prod.snd = (List.range n).filterMap out → Q (.ref D) H') : CompW src n item g tt te vs σ H Q := by
  refine ⟨I, M, fun i I' acc M' => M' = M ∧ ∃ ys : List (V × β), acc = ys.map Prod.fst ∧ Enc I' e ys ∧ ys.map Prod.snd = (List.range i).filterMap out, w, hn, ⟨rfl, [], rfl, Enc.nil, rfl⟩, ?_, ?_, ?_⟩
  · rintro i I' acc M' D H' ⟨rfl, _⟩ s w'
    exact hsrc I' D _ H' s w'
  · rintro D i x H' I' acc M' hi hx s w' ⟨rfl, ys, rfl, en, es⟩ _
    refine turn D i x _ I' H' _ _ hi hx s w' (fun I2 H4 y b e2 s2 w4 r => nxt s2 w4 ⟨rfl, ys ++ [(y, b)], by simp, (en.mono s2).snoc r, ?_⟩) fun I2 H3 e2 s2 w3 => nxt s2 w3 ⟨rfl, ys, rfl, en.mono s2, ?_⟩
    · rw [List.range_succ, List.filterMap_append, List.filterMap_cons_some e2, List.map_append, es]; rfl
    · rw [List.range_succ, List.filterMap_append, List.filterMap_cons_none e2, es]
      exact (List.append_nil _).symm
  · rintro D H' I' acc M' s w' ⟨rfl, ys, rfl, en, es⟩ _
    exact fin I' D H' ys s w' en es
theorem enc_strs {I : Hp} : ∀ {ys : List (V × Tx)}, Enc I sD ys → ys.map Prod.fst = (ys.map Prod.snd).map sV
  | [], _ => rfl
  | (v, x) :: ys, h => by
    have h1 : Rp I v (.str (S x)) := h (v, x) List.mem_cons_self
    have h2 := enc_strs (ys := ys) fun z hz => h z (List.mem_cons_of_mem _ hz)
    simp only [List.map_cons, h2]
    cases h1; rfl
theorem rpAll_tx {H : Hp} : ∀ (ns : List Tx), RpAll H (ns.map sV) (ns.map sD)
  | [] => .nil
  | n :: ns => .cons (.str _) (rpAll_tx ns)
theorem txs_flat (ns : List Tx) : (ns.map sV).all flatV = true := by
  rw [List.all_map]; exact List.all_eq_true.mpr fun _ _ => rfl
theorem in_tx (k : Tx) (ns : List Tx) : inV (sV k) (ns.map sV) = decide (k ∈ ns) := by
  unfold inV
  rw [Bool.eq_iff_iff, List.any_map, List.any_eq_true, decide_eq_true_eq]
  constructor
  · rintro ⟨x, hx, e⟩
    have : S x = S k := by simpa [eqV] using e
    rw [← S_inj this]; exact hx
  · intro h; exact ⟨k, h, by simp [eqV]⟩
/-! ### sorted rows, whatever their order was -/
theorem leD_trans {α : Type} {e : α → PyData} (a b c : α) (h1 : leD e a b = true) (h2 : leD e b c = true) : leD e a c = true := by
  unfold leD dle PySem.W.dataLt at *
  rw [Bool.not_eq_true'] at *
  cases h : PyProof.Rows.lexLt PyProof.Rows.itemOrd (PySem.W.keyToks (e c)) (PySem.W.keyToks (e a)) with
  | false => rfl
  | true =>
    rcases PyProof.Rows.lex_negTrans _ (PySem.W.keyToks (e b)) _ h with q | q
    · rw [h2] at q; cases q
    · rw [h1] at q; cases q
theorem leD_total {α : Type} {e : α → PyData} (a b : α) : (leD e a b || leD e b a) = true := by
  unfold leD dle PySem.W.dataLt
  cases h : PyProof.Rows.lexLt PyProof.Rows.itemOrd (PySem.W.keyToks (e b)) (PySem.W.keyToks (e a)) with
  | false => rfl
  | true =>
    cases h2 : PyProof.Rows.lexLt PyProof.Rows.itemOrd (PySem.W.keyToks (e a)) (PySem.W.keyToks (e b)) with
    | false => rfl
    | true =>
      have := PyProof.Rows.lex_trans _ _ _ h h2
      rw [PyProof.Rows.lex_irrefl] at this; cases this
def Inj {α : Type} (e : α → PyData) : Prop := ∀ x y, PySem.W.keyToks (e x) = PySem.W.keyToks (e y) → x = y
theorem leD_anti {α : Type} {e : α → PyData} (inj : Inj e) (a b : α) (h1 : leD e a b = true) (h2 : leD e b a = true) : a = b := by
  unfold leD dle PySem.W.dataLt at *
  rw [Bool.not_eq_true'] at *
  exact inj _ _ (PyProof.Rows.lex_total _ _ h2 h1)
theorem sortE_sorted {α : Type} {e : α → PyData} (l : List α) : (sortE e l).Pairwise fun a b => leD e a b = true := List.pairwise_mergeSort leD_trans leD_total l
theorem sortE_perm {α : Type} {e : α → PyData} (inj : Inj e) {l m : List α} (h : l.Perm m) : sortE e l = sortE e m :=
  List.Perm.eq_of_pairwise (fun a b _ _ => leD_anti inj a b) (sortE_sorted l) (sortE_sorted m) (((List.mergeSort_perm l _).trans h).trans (List.mergeSort_perm m _).symm)
theorem sortE_id {α : Type} {e : α → PyData} {l : List α} (h : l.Pairwise fun a b => leD e a b = true) : sortE e l = l := List.mergeSort_of_pairwise h
theorem sortE_mem {α : Type} {e : α → PyData} {l : List α} {x : α} : x ∈ sortE e l ↔ x ∈ l := (List.mergeSort_perm l _).mem_iff
theorem sortE_len {α : Type} {e : α → PyData} {l : List α} : (sortE e l).length = l.length := List.length_mergeSort _
/-! ### the rows that fit best -/
abbrev Fit := Int × Tx × Tx
def fitD (x : Fit) : PyData := .tuple [.int x.1, sD x.2.1, sD x.2.2]
theorem fit_sorts : Sorts fitD := ⟨fun x y => by simp [fitD, PySem.W.alike, PySem.W.alikeAll], .inl fun x => ⟨_, _, rfl⟩, fun x => by simp [fitD, PyData.depth, PyData.depthAll]⟩
theorem fit_inj : Inj fitD := by
  rintro ⟨a, b, c⟩ ⟨a', b', c'⟩ h
  simp [fitD, PySem.W.keyToks, PySem.W.keyToksAll] at h
  obtain ⟨rfl, rfl, rfl⟩ := h
  rfl
def fitOf (q : Tx) (r : Tx) : Option Fit := (rankL r q).map fun k => (k, foldL r, r)
def bestL (rows : List Tx) (q : Tx) : List Tx := (sortE fitD (rows.filterMap (fitOf q))).map (·.2.2)
theorem best_perm {rows rows' : List Tx} (q : Tx) (h : rows.Perm rows') : bestL rows q = bestL rows' q := by
  unfold bestL; rw [sortE_perm fit_inj (h.filterMap _)]
theorem best_len (rows : List Tx) (q : Tx) : (bestL rows q).length ≤ rows.length := by
  unfold bestL; rw [List.length_map, sortE_len]; exact List.length_filterMap_le _ _
theorem mem_best {rows : List Tx} {q r : Tx} : r ∈ bestL rows q ↔ r ∈ rows ∧ (rankL r q).isSome = true := by
  unfold bestL fitOf
  simp only [List.mem_map, sortE_mem, List.mem_filterMap, Option.map_eq_some_iff]
  constructor
  · rintro ⟨f, ⟨a, ha, k, hk, rfl⟩, rfl⟩; exact ⟨ha, by rw [hk]; rfl⟩
  · rintro ⟨h1, h2⟩
    obtain ⟨k, hk⟩ := Option.isSome_iff_exists.mp h2
    exact ⟨_, ⟨r, h1, k, hk, rfl⟩, rfl⟩
end TA

set_option linter.all false
set_option maxRecDepth 100000
set_option maxHeartbeats 1000000
/-! Stores, and the rows that fit best. -/
namespace TA
open PySem L2 PyProof.Rows
open SX (S S_len S_inj S_cat S_tl)
local macro_rules | `(tactic| simp! [$as,*]) => `(tactic| first | simp only [L2.start, tSeq, tAsg, tOp, fFld, tVar, gIxL, gIxT, tCB, tCons, tNil, gLenL, gLenT, gLenS, rI, rI0, fSet, tIfS, tTest, tB, rNotN, rIsN, rEq, rNe, tC, tDrop, fBM, fBM0, gTy, rAppend, tTup, tLst, tRet, tRetN, tNext, gName, fTup, gCons, gNil, tCall, fCallS, fMeth, tMeth, fMethS, fMake, tMake, fMakeS, tUn, rU, tAnd, tOr, tNot, tAndV, tOrV, tNotV, tIf, tChain, gListL, gListT, tSl, tNoPart, tPart, gSlL, fRaise, gStrI, gCatS, gMin2, gMax2, gIntB, tYes, fLcL, fLcT, fLcS, fLcR1, fForL, fForR1, fForR2, fRev, fGetI, gGetI, gInI, gLenI, fPutI, fNewI,
  List.map_cons, List.map_nil, List.length_cons, List.length_nil, List.replicate, List.cons_append, List.nil_append, List.append_nil, List.getElem?_cons_zero, List.getElem?_cons_succ, List.set_cons_zero, List.set_cons_succ, reduceIte, Bool.not_true, Bool.not_false, Nat.reduceAdd, Nat.reduceSub, Bool.false_eq_true, eq_self,
  Option.some.injEq, V.int.injEq, V.ref.injEq, V.str.injEq, V.bl.injEq, HO.ins.injEq, HO.lst.injEq, HO.tup.injEq, HO.dK.injEq, List.cons.injEq, and_assoc, exists_eq_left', exists_and_left, and_true, true_and, true_or, or_true, false_or, or_false, exists_eq_left, exists_eq_right, exists_eq_right', exists_eq, exists_eq', exists_const, upd_same, sc_ii, sc_ss, sc_bb, sc_in, sc_ni, sc_ns, sc_sn, sc_nn, $as,*] | skip)
def n_Store : List Str := ["rows"]
theorem nd_Store : n_Store.Nodup := by decide +kernel
section
variable {v0 x : V}
theorem lk_Store_rows : (n_Store.zip [v0]).lookup ("rows" : Str) = some v0 := lookup_zip 0 nd_Store rfl rfl
theorem pf_Store_rows : putF ("rows" : Str) x (n_Store.zip [v0]) = n_Store.zip [x] := putF_zip 0 nd_Store rfl (by simp only [List.length_cons, List.length_nil]; omega)
theorem no_Store_add : (n_Store.zip [v0]).lookup ("add" : Str) = none := lookup_out (by decide +kernel)
theorem no_Store_remove : (n_Store.zip [v0]).lookup ("remove" : Str) = none := lookup_out (by decide +kernel)
theorem no_Store_all_rows : (n_Store.zip [v0]).lookup ("all_rows" : Str) = none := lookup_out (by decide +kernel)
theorem no_Store_answer : (n_Store.zip [v0]).lookup ("answer" : Str) = none := lookup_out (by decide +kernel)
theorem in_Store : putF "rows" v0 ([]) = n_Store.zip [v0] := by kernel_rfl
theorem il_Store_1 : (putF "rows" v0 ([])).length < 1000 := Nat.lt_of_lt_of_le (lt_putF lt0) (by omega)
theorem ln_Store : (n_Store.zip [v0]).length < 1000 := by simp only [n_Store, List.zip_cons_cons, List.zip_nil_right, List.length_cons, List.length_nil]; omega
end
def oStore (K : PySem.W.Frag) (dx r : Addr) : HO := .ins (He.ga K "Store") dx (n_Store.zip [.ref r])
/-- an end: None, or an error of a class -/
def Out (K : PySem.W.Frag) (Q : VK) (E : XK) (o : Option Str) (H : Hp) : Prop := match o with
  | none => Q .non H
  | some e => E (.ref (He.ga K e)) none H
def rowsOk (rows : List Tx) : Prop := (∀ r ∈ rows, okL 20 r = true) ∧ rows.length ≤ 1000
def manyOk (n : Int) : Bool := decide (1 ≤ n ∧ n ≤ 6)
def addE (rows : List Tx) (row : Tx) : Option Str := if okL 20 row = false ∨ foldL row = [] ∨ row ∈ rows then some "BadText" else if rows.length = 12 then some "BadNumber" else none
def addR (rows : List Tx) (row : Tx) : List Tx := if addE rows row = none then rows ++ [row] else rows
def remE (rows : List Tx) (row : Tx) : Option Str := if row ∈ rows then none else some "BadText"
def ansE (q : Tx) (n : Int) : Option Str := if manyOk n = false then some "BadNumber" else if okL 12 q = false then some "BadText" else none
def ansR (rows : List Tx) (q : Tx) (n : Int) : List Tx := (bestL rows q).take n.toNat
def ansA (rows : List Tx) (q : Tx) (n : Int) : Bool := decide (((bestL rows q).length : Int) ≤ n)
def ansD (rows : List Tx) (q : Tx) (n : Int) : PyData := .tuple [.list ((ansR rows q n).map sD), .bool (ansA rows q n)]
def sp_look_many (K : PySem.W.Frag) : Sp := fun vs H Q E => ∃ n : Int, vs = [.int n] ∧ Out K Q E (if manyOk n = true then none else some "BadNumber") H
def sp_best (K : PySem.W.Frag) : Sp := fun vs H Q _ => ∃ (I : Hp) (M : List (Addr × HO)) (l : Addr) (rows : List Tx) (q : Tx) (n : Int), vs = [.ref l, sV q, .int n] ∧ W I H M ∧ Ls I M l (.lst (rows.map sV)) ∧ rowsOk rows ∧ okL 12 q = true ∧ 0 ≤ n ∧
  ∀ (I' H' : Hp) (p : Addr), Sub I I' → W I' H' M → I' p = some (.lst ((ansR rows q n).map sV)) → Q (.ref p) H'
def sp__law_best (K : PySem.W.Frag) : Sp := sp_best K
def sp_Store___init__ (K : PySem.W.Frag) : Sp := fun vs H Q _ => ∃ (I : Hp) (M : List (Addr × HO)) (x dx : Addr), vs = [.ref x] ∧ W I H ((x, .ins (He.ga K "Store") dx []) :: M) ∧ ∀ (H' : Hp) (r : Addr), W I H' ((x, oStore K dx r) :: (r, .lst []) :: M) → Q .non H'
def sp_Store_add (K : PySem.W.Frag) : Sp := fun vs H Q E => ∃ (I : Hp) (M : List (Addr × HO)) (x dx r : Addr) (rows : List Tx) (row : Tx), vs = [.ref x, sV row] ∧ W I H ((x, oStore K dx r) :: (r, .lst (rows.map sV)) :: M) ∧ rows.length ≤ 1000 ∧ row.length ≤ 1000000 ∧
  ∀ H', W I H' ((x, oStore K dx r) :: (r, .lst ((addR rows row).map sV)) :: M) → Out K Q E (addE rows row) H'
def sp_Store_remove (K : PySem.W.Frag) : Sp := fun vs H Q E => ∃ (I : Hp) (M : List (Addr × HO)) (x dx r : Addr) (rows : List Tx) (row : Tx), vs = [.ref x, sV row] ∧ W I H ((x, oStore K dx r) :: (r, .lst (rows.map sV)) :: M) ∧ rows.length ≤ 1000 ∧
  ∀ H', W I H' ((x, oStore K dx r) :: (r, .lst ((rows.erase row).map sV)) :: M) → Out K Q E (remE rows row) H'
def sp_Store_all_rows (K : PySem.W.Frag) : Sp := fun vs H Q _ => ∃ (x dx r : Addr) (o : List V), vs = [.ref x] ∧ H x = some (oStore K dx r) ∧ H r = some (.lst o) ∧ ∀ p, H p = none → Q (.ref p) (upd H p (.lst o))
def sp_Store_answer (K : PySem.W.Frag) : Sp := fun vs H Q E => ∃ (I : Hp) (M : List (Addr × HO)) (x dx r : Addr) (rows : List Tx) (q : Tx) (n : Int), vs = [.ref x, sV q, .int n] ∧ W I H M ∧ Ls I M x (oStore K dx r) ∧ Ls I M r (.lst (rows.map sV)) ∧ rowsOk rows ∧ q.length ≤ 1000000 ∧
  (ansE q n = none → ∀ (I' H' : Hp) (v : V), Sub I I' → W I' H' M → Rp I' v (ansD rows q n) → Q v H') ∧ ∀ e, ansE q n = some e → ∀ H', W I H' M → E (.ref (He.ga K e)) none H'
def t_look_many (K : PySem.W.Frag) (E : XK) : TS := tIfS (tNot (tTest (tChain (rI0 fun i j => .bl (decide (i ≤ j))) (rI0 fun i j => .bl (decide (i ≤ j))) (tC (.int 1)) (tVar 0) (tC (.int 6))))) (fRaise (WD E) (He.ga K "BadNumber")) (tNext)
abbrev nn_look_many : List Str := ["many"]
def t_best (K : PySem.W.Frag) (E : XK) : TS := tSeq (tAsg (fLcL (tVar 0) (gName 4) (tYes) (tTup (tCons (tCall (sp_rank K) [] E0 (tCons (tVar 4) (tCons (tVar 1) (tNil)))) (tCons (tCall (sp_folded K) [] E0 (tCons (tVar 4) (tNil))) (tCons (tVar 4) (tNil))))) [4]) (gName 3)) (tRet (tSl gSlL (fLcL (tCB (gSortD) (tCons (fLcL (tVar 3) (gName 5) (tTest (tOp (rNotN) (tOp gIxT (tVar 5) (tC (.int 0))) (tC .non))) (tVar 5) [5]) (tNil))) (fTup 3 (gCons (gName 6) (gCons (gName 7) (gCons (gName 4) (gNil))))) (tYes) (tVar 4) [6, 7, 4]) (tNoPart) (tPart (tVar 2))))
abbrev nn_best : List Str := ["rows", "query", "many", "some", "row", "one", "fits", "small"]
def t__law_best (K : PySem.W.Frag) (E : XK) : TS := tSeq (tAsg (tLst (tNil)) (gName 3)) (tSeq (fForL (tVar 0) (gName 4) (tSeq (tAsg (tCall (sp__law_rank K) [] E (tCons (tVar 4) (tCons (tVar 1) (tNil)))) (gName 5)) (tIfS (tTest (tOp (rNotN) (tVar 5) (tC .non))) (tDrop (fBM "list" rAppend (tVar 3) (tCons (tTup (tCons (tVar 5) (tCons (tCall (sp__law_folded K) [] E (tCons (tVar 4) (tNil))) (tCons (tVar 4) (tNil))))) (tNil)))) (tNext)))) (tRet (tSl gSlL (fLcL (tCB (gSortD) (tCons (tVar 3) (tNil))) (fTup 3 (gCons (gName 5) (gCons (gName 6) (gCons (gName 4) (gNil))))) (tYes) (tVar 4) [5, 6, 4]) (tNoPart) (tPart (tVar 2)))))
abbrev nn__law_best : List Str := ["rows", "query", "many", "found", "row", "fits", "small"]
def t_Store___init__ (K : PySem.W.Frag) (E : XK) : TS := fSet (He.ga K "Store") "rows" (tVar 0) (tLst (tNil))
abbrev nn_Store___init__ : List Str := ["self"]
def t_Store_add (K : PySem.W.Frag) (E : XK) : TS := tSeq (tDrop (tCall (sp_look_text K) [] E (tCons (tVar 1) (tCons (tC (.int 20)) (tNil))))) (tSeq (tIfS (tOr (tTest (tOp (rEq) (tCall (sp_folded K) [] E (tCons (tVar 1) (tNil))) (tC (.str "")))) (tTest (tOp (gInL false) (tVar 1) (fFld (He.ga K "Store") "rows" (tVar 0))))) (fRaise (WD E) (He.ga K "BadText")) (tNext)) (tSeq (tIfS (tTest (tOp (rEq) (tCB (gLenL) (tCons (fFld (He.ga K "Store") "rows" (tVar 0)) (tNil))) (tC (.int 12)))) (fRaise (WD E) (He.ga K "BadNumber")) (tNext)) (tDrop (fBM "list" rAppend (fFld (He.ga K "Store") "rows" (tVar 0)) (tCons (tVar 1) (tNil))))))
abbrev nn_Store_add : List Str := ["self", "row"]
def t_Store_remove (K : PySem.W.Frag) (E : XK) : TS := tSeq (tIfS (tTest (tOp (gInL true) (tVar 1) (fFld (He.ga K "Store") "rows" (tVar 0)))) (fRaise (WD E) (He.ga K "BadText")) (tNext)) (tDrop (fBM "list" gRemS (fFld (He.ga K "Store") "rows" (tVar 0)) (tCons (tVar 1) (tNil))))
abbrev nn_Store_remove : List Str := ["self", "row"]
def t_Store_all_rows (K : PySem.W.Frag) (E : XK) : TS := tRet (tCB (gListL) (tCons (fFld (He.ga K "Store") "rows" (tVar 0)) (tNil)))
abbrev nn_Store_all_rows : List Str := ["self"]
def t_Store_answer (K : PySem.W.Frag) (E : XK) : TS := tSeq (tDrop (tCall (sp_look_many K) [] E (tCons (tVar 2) (tNil)))) (tSeq (tDrop (tCall (sp_look_text K) [] E (tCons (tVar 1) (tCons (tC (.int 12)) (tNil))))) (tSeq (tAsg (tCall (sp_best K) [] E (tCons (fFld (He.ga K "Store") "rows" (tVar 0)) (tCons (tVar 1) (tCons (tCB (gLenL) (tCons (fFld (He.ga K "Store") "rows" (tVar 0)) (tNil))) (tNil))))) (gName 3)) (tRet (tTup (tCons (tSl gSlL (tVar 3) (tNoPart) (tPart (tVar 2))) (tCons (tOp (rI0 fun i j => .bl (decide (i ≤ j))) (tCB (gLenL) (tCons (tVar 3) (tNil))) (tVar 2)) (tNil)))))))
abbrev nn_Store_answer : List Str := ["self", "query", "many", "some"]
section
variable {K : PySem.W.Frag}
theorem len_look_many : ∀ vs H Q E, sp_look_many K vs H Q E → vs.length = ["many"].length := by
  rintro _ _ _ _ ⟨_, rfl, _⟩; rfl
theorem len_best : ∀ vs H Q E, sp_best K vs H Q E → vs.length = ["rows", "query", "many"].length := by
  rintro _ _ _ _ ⟨_, _, _, _, _, _, rfl, _⟩; rfl
theorem len__law_best : ∀ vs H Q E, sp__law_best K vs H Q E → vs.length = ["rows", "query", "many"].length := by
  rintro _ _ _ _ ⟨_, _, _, _, _, _, rfl, _⟩; rfl
theorem len_Store___init__ : ∀ vs H Q E, sp_Store___init__ K vs H Q E → vs.length = ["self"].length := by
  rintro _ _ _ _ ⟨_, _, _, _, rfl, _⟩; rfl
theorem len_Store_add : ∀ vs H Q E, sp_Store_add K vs H Q E → vs.length = ["self", "row"].length := by
  rintro _ _ _ _ ⟨_, _, _, _, _, _, _, rfl, _⟩; rfl
theorem len_Store_remove : ∀ vs H Q E, sp_Store_remove K vs H Q E → vs.length = ["self", "row"].length := by
  rintro _ _ _ _ ⟨_, _, _, _, _, _, _, rfl, _⟩; rfl
theorem len_Store_all_rows : ∀ vs H Q E, sp_Store_all_rows K vs H Q E → vs.length = ["self"].length := by
  rintro _ _ _ _ ⟨_, _, _, _, rfl, _⟩; rfl
theorem len_Store_answer : ∀ vs H Q E, sp_Store_answer K vs H Q E → vs.length = ["self", "query", "many"].length := by
  rintro _ _ _ _ ⟨_, _, _, _, _, _, _, _, rfl, _⟩; rfl
theorem pure_look_many : ∀ vs H Q E, sp_look_many K vs H Q E → t_look_many K E { nx := fun _ H2 => Q .non H2, rt := Q } (L2.start nn_look_many vs) H := by
  rintro vs H Q E ⟨n, rfl, hQ⟩
  unfold t_look_many
  simp! [and_true]
  unfold manyOk at hQ
  by_cases c1 : 1 ≤ n
  · refine ite_t c1 ?_
    by_cases c2 : n ≤ 6
    · rw [decide_eq_true ⟨c1, c2⟩] at hQ
      exact ite_nt c2 hQ
    · rw [decide_eq_false fun h => c2 h.2] at hQ
      exact ite_nf c2 hQ
  · rw [decide_eq_false fun h => c1 h.1] at hQ
    exact ite_f c1 hQ
theorem pure_Store___init__ : ∀ vs H Q E, sp_Store___init__ K vs H Q E → t_Store___init__ K E { nx := fun _ H2 => Q .non H2, rt := Q } (L2.start nn_Store___init__ vs) H := by
  rintro vs H Q E ⟨I, M, x, dx, rfl, w, hQ⟩
  unfold t_Store___init__
  simp! [and_true]
  refine ⟨Nat.zero_le _, fun p hp => ?_⟩
  have w1 := (w.newM (o := .lst []) hp).swap
  refine ⟨_, _, w1.has.1, by simp, ?_⟩
  rw [in_Store]
  exact hQ _ p (w1.put (o' := oStore K dx p))
theorem pure_Store_all_rows : ∀ vs H Q E, sp_Store_all_rows K vs H Q E → t_Store_all_rows K E { nx := fun _ H2 => Q .non H2, rt := Q } (L2.start nn_Store_all_rows vs) H := by
  rintro vs H Q E ⟨x, dx, r, o, rfl, h1, h2, hQ⟩
  unfold t_Store_all_rows oStore at *
  simp! [h1, lk_Store_rows, h2]
  exact hQ
theorem erase_S (row : Tx) : ∀ rows : List Tx, (rows.map S).erase (S row) = (rows.erase row).map S
  | [] => rfl
  | a :: t => by
    have ih := erase_S row t
    simp only [List.map_cons, List.erase_cons]
    have : (S a == S row) = (a == row) := by rw [Bool.eq_iff_iff]; simp [S_eq]
    rw [this, ih]
    split <;> rfl
theorem pure_Store_remove : ∀ vs H Q E, sp_Store_remove K vs H Q E → t_Store_remove K E { nx := fun _ H2 => Q .non H2, rt := Q } (L2.start nn_Store_remove vs) H := by
  rintro vs H Q E ⟨I, M, x, dx, r, rows, row, rfl, w, hl, hQ⟩
  have h1 := w.has.1
  have h2 := w.has.2.1
  unfold t_Store_remove oStore at *
  simp! [h1, lk_Store_rows, gInL, h2, in_tx, txs_flat]
  refine ⟨rfl, ?_⟩
  unfold remE at hQ
  by_cases c : row ∈ rows
  · rw [if_pos c] at hQ
    refine ite_nt c ?_
    refine ⟨r, rows.map S, S row, rfl, rfl, ?_, List.mem_map.mpr ⟨row, c, rfl⟩, ?_⟩
    · rw [List.map_map]; exact h2
    · have e := erase_S row rows
      rw [e, List.map_map]
      exact hQ _ (w.swap.put (o' := .lst ((rows.erase row).map sV))).swap
  · rw [if_neg c] at hQ
    refine ite_nf c ?_
    have := hQ H (by rw [List.erase_of_not_mem c]; exact w)
    exact this
theorem pure_Store_add : ∀ vs H Q E, sp_Store_add K vs H Q E → t_Store_add K E { nx := fun _ H2 => Q .non H2, rt := Q } (L2.start nn_Store_add vs) H := by
  rintro vs H Q E ⟨I, M, x, dx, r, rows, row, rfl, w, hl, hr, hQ⟩
  have hb := line_big
  unfold t_Store_add oStore at *
  simp! [and_true]
  refine ⟨row, 20, rfl, hr, fun H1 s1 => ?_⟩
  unfold addR at hQ
  have w1 := w.same s1
  by_cases c0 : okL 20 row = true
  · rw [if_pos c0]
    refine ⟨row, rfl, hr, fun H2 s2 => ?_⟩
    rw [if_pos c0]
    have w2 := w1.same s2
    have h1 := w2.has.1
    have h2 := w2.has.2.1
    simp! [lit_e, S_eq, h1, lk_Store_rows, gInL, h2, in_tx, txs_flat, List.length_map]
    by_cases c1 : foldL row = []
    · have e : addE rows row = some "BadText" := if_pos (.inr (.inl c1))
      rw [e, if_neg (by simp)] at hQ
      exact ite_t c1 (hQ H2 w2)
    refine ite_f c1 ⟨rfl, ?_⟩
    by_cases c2 : row ∈ rows
    · have e : addE rows row = some "BadText" := if_pos (.inr (.inr c2))
      rw [e, if_neg (by simp)] at hQ
      exact ite_t c2 (hQ H2 w2)
    refine ite_f c2 ?_
    have e1 : addE rows row = (if rows.length = 12 then some ("BadNumber" : Str) else none : Option Str) := if_neg (by simp [c0, c1, c2])
    by_cases c3 : rows.length = 12
    · rw [if_pos c3] at e1
      rw [e1, if_neg (by simp)] at hQ
      exact ite_t (by omega) (hQ H2 w2)
    refine ite_f (by omega) ⟨by omega, ?_⟩
    rw [if_neg c3] at e1
    rw [e1, if_pos rfl] at hQ
    have := hQ _ (by rw [List.map_append]; exact (w2.swap.put (o' := .lst (rows.map sV ++ [row].map sV))).swap)
    exact this
  · rw [if_neg c0]
    have e : addE rows row = some "BadText" := if_pos (.inl (by simpa using c0))
    rw [e, if_neg (by simp)] at hQ
    exact hQ H1 w1
theorem cut_take (l : List Tx) {n : Int} (n0 : 0 ≤ n) : cutV (l.map sV) none (some n) = (l.take n.toNat).map sV := by
  unfold cutV
  obtain ⟨m, rfl⟩ := Int.eq_ofNat_of_zero_le n0
  have e2 : HT.sIx (l.map sV).length (l.map sV).length (some ((m : Nat) : Int)) = min m l.length := by rw [List.length_map]; unfold HT.sIx; simp only []; rw [if_neg (by omega)]; omega
  rw [e2, HT.sIx_none, List.drop_zero, Nat.sub_zero, Int.toNat_natCast, ← List.map_take]
  by_cases h : m ≤ l.length
  · rw [Nat.min_eq_left h]
  · rw [Nat.min_eq_right (by omega), List.take_of_length_le (by omega), List.take_of_length_le (by omega)]
theorem pure_Store_answer : ∀ vs H Q E, sp_Store_answer K vs H Q E → t_Store_answer K E { nx := fun _ H2 => Q .non H2, rt := Q } (L2.start nn_Store_answer vs) H := by
  rintro vs H Q E ⟨I, M, x, dx, r, rows, q, n, rfl, w, l1, l2, ro, hq, hQ, hE⟩
  have hb := line_big
  unfold t_Store_answer
  simp! [and_true]
  refine ⟨n, rfl, ?_⟩
  unfold ansE at hQ hE
  by_cases c1 : manyOk n = true
  · rw [if_pos c1]
    rw [if_neg (by simp [c1])] at hQ hE
    refine ⟨q, 12, rfl, hq, fun H1 s1 => ?_⟩
    have w1 := w.same s1
    by_cases c2 : okL 12 q = true
    · rw [if_neg (by simp [c2])] at hQ hE
      rw [if_pos c2]
      have h1 := l1.at w1
      have h2 := l2.at w1
      unfold oStore at h1
      simp! [h1, lk_Store_rows, h2]
      refine ⟨I, M, r, rows, q, _, rfl, w1, l2, ro, c2, Int.natCast_nonneg _, fun I2 H2 p s2 w2 hp => ?_⟩
      have h3 := w2.sub _ _ hp
      simp! [h3]
      have e3 : ansR rows q ((rows.map sV).length : Nat) = bestL rows q := by
        unfold ansR
        rw [List.length_map, Int.toNat_natCast, List.take_of_length_le (best_len rows q)]
      rw [e3] at hp h3 ⊢
      intro p4 hp4
      have n0 : 0 ≤ n := by unfold manyOk at c1; have := of_decide_eq_true c1; omega
      have e4 : cutV ((bestL rows q).map sV) none (some n) = (ansR rows q n).map sV := cut_take _ n0
      rw [e4]
      have w3 := w2.newI (o := .lst ((ansR rows q n).map sV)) hp4
      have s3 := Sub.new (o := .lst ((ansR rows q n).map sV)) (w2.noI hp4)
      have h5 := w3.sub _ _ (s3 _ _ hp)
      refine ⟨_, h5, two_le, fun p5 hp5 => ?_⟩
      have w4 := w3.newI (o := .tup [V.ref p4, V.bl (decide (((((bestL rows q).map sV).length : Nat) : Int) ≤ n))]) hp5
      have s4 := Sub.new (o := .tup [V.ref p4, V.bl (decide (((((bestL rows q).map sV).length : Nat) : Int) ≤ n))]) (w3.noI hp5)
      refine hQ rfl _ _ _ (s2.trans (s3.trans s4)) w4 (.tup upd_same (.cons (.lst (s4 _ _ upd_same) (rpAll_tx _)) (.cons ?_ .nil)))
      unfold ansA
      rw [List.length_map]
      exact .bl _
    · rw [if_pos (by simpa using c2)] at hE
      rw [if_neg c2]
      exact hE _ rfl _ w1
  · rw [if_neg c1]
    rw [if_pos (by simpa using c1)] at hE
    exact hE _ rfl _ w
theorem rankV_none {o : Option Int} : (oiV o = V.non) ↔ o = none := by cases o <;> simp [oiV]
/-- the end of best: sorted, rows alone, so many -/
theorem best_end {I H : Hp} {M : List (Addr × HO)} {Q : VK} {D : Addr} {zs : List (V × Fit)} {q : Tx} {n : Int} {rows : List Tx} {σ : L2.St} {j6 j7 j4 : Nat} (w : W I H M) (hD : H D = some (.lst (zs.map Prod.fst))) (en : Enc I fitD zs) (hz : zs.map Prod.snd = rows.filterMap (fitOf q)) (hl : rows.length ≤ 1000) (n0 : 0 ≤ n)
    (g : TG) (te : TE) (hg : ∀ (a b c : V) (t : Addr) H' (Q' : L2.St → Hp → Prop), H' t = some (.tup [a, b, c]) → (∀ σ2, wipe σ2 [j6, j7, j4] = wipe σ [j6, j7, j4] → te σ2 H' = (fun Q2 => Q2 c H') → Q' σ2 H') → g (.ref t) (wipe σ [j6, j7, j4]) H' Q')
    (hQ : ∀ (I' H' : Hp) (p : Addr), Sub I I' → W I' H' M → I' p = some (.lst ((ansR rows q n).map sV)) → Q (.ref p) H') :
    gSortD [.ref D] H fun x H1 => ∃ a, x = .ref a ∧ ∃ xs, H1 a = some (.lst xs) ∧ CompW (fun H => H a = some (.lst xs)) xs.length (fun i x => xs[i]? = some x) g tYes te [j6, j7, j4] σ H1 fun x H1 => ∃ a, x = .ref a ∧ ∃ xs, H1 a = some (.lst xs) ∧ ∀ p, H1 p = none → Q (.ref p) (upd H1 p (.lst (cutV xs none (some n)))) := by
  refine sortD_use fit_sorts hD (en.mono w.sub) fun f hf => ?_
  have en2 := sort_enc (e := fitD) en
  have es := sort_snd (e := fitD) zs
  rw [hz] at es
  generalize (zs.mergeSort fun x y => leD fitD x.2 y.2) = ys at en2 es ⊢
  have w1 := w.newI (o := .lst (ys.map Prod.fst)) hf
  have s1 := Sub.new (o := .lst (ys.map Prod.fst)) (w.noI hf)
  refine ⟨f, rfl, _, upd_same, ?_⟩
  have hlen : ys.length ≤ 1000 := by
    have := congrArg List.length es
    rw [List.length_map, sortE_len] at this
    have := List.length_filterMap_le (fitOf q) rows
    omega
  refine comp_data sD (fun i => (ys[i]?).map fun z => z.2.2.2) w1 (by rw [List.length_map]; omega) (fun I' D acc H' s w' => w'.sub _ _ (s _ _ upd_same)) ?_ ?_
  · rintro D2 i x acc I' H' T F hi hx s w' kT kF
    rw [List.getElem?_map, Option.map_eq_some_iff] at hx
    obtain ⟨z, hzz, rfl⟩ := hx
    have r := (en2 z (List.mem_of_getElem? hzz)).mono (s1.trans s)
    obtain ⟨v, k, a, b⟩ := z
    cases r with
    | tup h1 h2 =>
      cases h2 with
      | cons x1 h2 =>
        cases h2 with
        | cons x2 h2 =>
          cases h2 with
          | cons x3 h2 =>
            cases h2
            refine hg _ _ _ _ H' _ (w'.sub _ _ h1) fun σ2 e1 e2 => ⟨e1, ?_⟩
            show if true = true then te σ2 H' T else F H'
            rw [if_pos rfl, e2]
            exact kT I' H' _ b (by rw [hzz]; rfl) (Sub.refl _) w' x3
  · intro I' D2 H' zs2 s2 w2 en3 es3
    have e5 : (List.range (ys.map Prod.fst).length).filterMap (fun i => (ys[i]?).map fun z => z.2.2.2) = bestL rows q := by
      rw [List.length_map, fm_list (g := fun z : V × Fit => some z.2.2.2) (fun i a h => by rw [h]; rfl)]
      unfold bestL
      rw [← es, List.map_map]
      rw [← List.filterMap_eq_map']; rfl
    rw [e5] at es3
    rw [enc_strs en3, es3] at w2
    refine ⟨D2, rfl, _, w2.has.1, fun p hp => ?_⟩
    have e4 : cutV ((bestL rows q).map sV) none (some n) = (ansR rows q n).map sV := cut_take _ n0
    rw [e4]
    exact hQ _ _ _ (s1.trans (s2.trans (Sub.new (w2.drop.noI hp)))) (w2.drop.newI hp) upd_same
theorem pure_best : ∀ vs H Q E, sp_best K vs H Q E → t_best K E { nx := fun _ H2 => Q .non H2, rt := Q } (L2.start nn_best vs) H := by
  rintro vs H Q E ⟨I, M, l, rows, q, n, rfl, w, hl, ⟨ro, rl⟩, hq, n0, hQ⟩
  have hb := line_big
  have h1 := hl.at w
  unfold t_best
  simp! [h1]
  refine comp_data (fun x : Option Int × Tx × Tx => .tuple [(match x.1 with | none => .none | some i => .int i), sD x.2.1, sD x.2.2]) (fun i => (rows[i]?).map fun r => (rankL r q, foldL r, r)) w (by simp; omega) (fun I' D acc H' s w' => (hl.mono s).cons.at w') ?_ ?_
  · rintro D i x acc I' H' T F hi hx s w' kT kF
    rw [List.getElem?_map, Option.map_eq_some_iff] at hx
    obtain ⟨r, hr, rfl⟩ := hx
    have okr := ro r (List.mem_of_getElem? hr)
    simp! [wipe]
    refine ⟨r, q, rfl, by have := okL_len okr; omega, by have := okL_len hq; omega, fun H2 s2 => ?_⟩
    rw [if_pos ⟨hq, okr⟩]
    refine ⟨r, rfl, by have := okL_len okr; omega, fun H3 s3 => ?_⟩
    rw [if_pos okr]
    have w3 := (w'.same s2).same s3
    simp! [and_true]
    refine ⟨three_le, fun p hp => ?_⟩
    refine kT _ _ _ (rankL r q, foldL r, r) (by rw [hr]; rfl) (Sub.new (w3.noI hp)) (w3.newI hp) (.tup upd_same (.cons ?_ (.cons (.str _) (.cons (.str _) .nil))))
    cases rankL r q <;> constructor
  · intro I2 D H2 ys s2 w2 en es
    have e1 : (List.range (rows.map sV).length).filterMap (fun i => (rows[i]?).map fun r => (rankL r q, foldL r, r)) = rows.map fun r => (rankL r q, foldL r, r) := by
      rw [List.length_map, fm_list (g := fun r => some (rankL r q, foldL r, r)) (fun i a h => by rw [h]; rfl), List.filterMap_eq_map']
    rw [e1] at es
    simp! [w2.has.1, List.length_map]
    have hlen : ys.length = rows.length := by have := congrArg List.length es; simpa using this
    have el : ys.length = (ys.map Prod.fst).length := by simp
    rw [el]
    refine comp_filter (p := fun z => z.2.1.isSome) w2 (by omega) (fun _ => rfl) (fun _ => rfl) (fun D' o H' w' => w'.has.2.1) (fun z hz D' o H' Q' w' q' => ?_) (fun D3 H3 w3 => ?_)
    · have r := (en z hz).mono w'.sub
      obtain ⟨v, o, a, b⟩ := z
      cases r with
      | tup h1 h2 =>
        cases h2 with
        | cons x1 h2 =>
          simp! [wipe, h1, at0]
          cases o with
          | none => cases x1; simpa using q'
          | some k => cases x1; simpa using q'
    · have e3 : (ys.filter fun z => z.2.1.isSome).map Prod.fst = ((ys.filter fun z => z.2.1.isSome).map fun z => ((z.1, (z.2.1.getD 0, z.2.2.1, z.2.2.2)) : V × Fit)).map Prod.fst := by rw [List.map_map]; rfl
      have en3 : Enc I2 fitD ((ys.filter fun z => z.2.1.isSome).map fun z => ((z.1, (z.2.1.getD 0, z.2.2.1, z.2.2.2)) : V × Fit)) := by
        intro z hz
        obtain ⟨y, hy, rfl⟩ := List.mem_map.mp hz
        obtain ⟨hy1, hy2⟩ := List.mem_filter.mp hy
        have := en y hy1
        obtain ⟨v, o, a, b⟩ := y
        cases o with
        | none => simp at hy2
        | some k => exact this
      have es3 : ((ys.filter fun z => z.2.1.isSome).map fun z => ((z.1, (z.2.1.getD 0, z.2.2.1, z.2.2.2)) : V × Fit)).map Prod.snd = rows.filterMap (fitOf q) := by
        have : ∀ (ys : List (V × (Option Int × Tx × Tx))), ((ys.filter fun z => z.2.1.isSome).map fun z => ((z.1, (z.2.1.getD 0, z.2.2.1, z.2.2.2)) : V × Fit)).map Prod.snd = (ys.map Prod.snd).filterMap fun x => x.1.map fun k => (k, x.2.1, x.2.2) := by
          intro ys
          induction ys with
          | nil => rfl
          | cons y ys ih =>
            obtain ⟨v, o, a, b⟩ := y
            cases o <;> simp [List.filter_cons] <;> simpa using ih
        rw [this, es, List.filterMap_map]
        rfl
      rw [e3] at w3
      refine best_end (q := q) (n := n) (rows := rows) w3.drop.drop w3.has.1 en3 es3 rl n0 _ _ ?_ (fun I4 H4 p s4 w4 h4 => hQ I4 H4 p (s2.trans s4) w4 h4)
      intro a b c t H' Q' ht k
      simp! [ht, wipe]
      refine k _ rfl ?_
      funext Q2
      simp! [and_true]
structure PBest (I : Hp) (M : List (Addr × HO)) (l p : Addr) (rows : List Tx) (q : Tx) (n : Int) (i : Nat) (σ : L2.St) (H : Hp) : Prop where
  ex : ∃ (I' : Hp) (zs : List (V × Fit)) (r4 r5 r6 : Option V), σ = [some (.ref l), some (sV q), some (.int n), some (.ref p), r4, r5, r6] ∧ Sub I I' ∧ W I' H ((p, .lst (zs.map Prod.fst)) :: M) ∧ Enc I' fitD zs ∧ zs.map Prod.snd = (rows.take i).filterMap (fitOf q)
theorem pure__law_best : ∀ vs H Q E, sp__law_best K vs H Q E → t__law_best K E { nx := fun _ H2 => Q .non H2, rt := Q } (L2.start nn__law_best vs) H := by
  rintro vs H Q E ⟨I, M, l, rows, q, n, rfl, w, hl, ⟨ro, rl⟩, hq, n0, hQ⟩
  have hb := line_big
  have h1 := hl.at w
  unfold t__law_best
  simp! [h1]
  refine ⟨Nat.zero_le _, fun p hp => ?_⟩
  have w1 := w.newM (o := .lst []) hp
  refine ⟨_, hl.cons.at w1, PBest I M l p rows q n, ⟨I, [], _, _, _, rfl, Sub.refl _, w1, Enc.nil, rfl⟩, ?_, ?_, ?_⟩
  · rintro i σ H' _ ⟨I', zs, r4, r5, r6, rfl, s, w', en, es⟩
    exact (hl.mono s).cons.at w'
  · rintro i x σ H' hx ⟨I', zs, r4, r5, r6, rfl, s, w', en, es⟩
    rw [List.getElem?_map, Option.map_eq_some_iff] at hx
    obtain ⟨r, hr, rfl⟩ := hx
    have okr := ro r (List.mem_of_getElem? hr)
    have lr := okL_len okr
    have lq := okL_len hq
    have hz : zs.length ≤ 1000 := by
      have := congrArg List.length es
      rw [List.length_map] at this
      have := List.length_filterMap_le (fitOf q) (rows.take i)
      rw [List.length_take] at this; omega
    simp! [and_true]
    refine ⟨r, q, rfl, by omega, okL_all okr, by omega, okL_all hq, fun H2 s2 => ?_⟩
    have es2 : (rows.take (i + 1)).filterMap (fitOf q) = zs.map Prod.snd ++ (fitOf q r).toList := by
      rw [take_succ_get hr, List.filterMap_append, es]
      cases h : fitOf q r <;> simp [h]
    have w2 := w'.same s2
    cases hk : rankL r q with
    | none =>
      have e : fitOf q r = none := by unfold fitOf; rw [hk]; rfl
      simp! [oiV, decide_true]
      exact ⟨I', zs, _, _, _, rfl, s, w2, en, by rw [es2, e]; simp⟩
    | some k =>
      have e : fitOf q r = some (k, foldL r, r) := by unfold fitOf; rw [hk]; rfl
      have hp2 := w2.has.1
      simp! [oiV, decide_false, reduceCtorEq, hp2]
      refine ⟨r, rfl, by omega, okL_all okr, fun H3 s3 => ?_⟩
      have w3 := w2.same s3
      refine ⟨three_le, fun t ht => ?_⟩
      have w4 := w3.newI (o := .tup [V.int k, sV (foldL r), sV r]) ht
      have s4 := Sub.new (o := .tup [V.int k, sV (foldL r), sV r]) (w3.noI ht)
      refine ⟨_, w4.has.1, by rw [List.length_map]; omega, ?_⟩
      refine ⟨_, zs ++ [(.ref t, (k, foldL r, r))], _, _, _, rfl, s.trans s4, ?_, (en.mono s4).snoc (.tup upd_same (.cons (.int _) (.cons (.str _) (.cons (.str _) .nil)))), by rw [es2, e]; simp⟩
      have := w4.put (o' := .lst ((zs ++ [((.ref t : V), ((k, foldL r, r) : Fit))]).map Prod.fst))
      simpa using this
  · rintro σ H' ⟨I', zs, r4, r5, r6, rfl, s, w', en, es⟩
    rw [List.length_map, List.take_length] at es
    simp! [and_true]
    refine best_end (q := q) (n := n) (rows := rows) w'.drop w'.has.1 en es rl n0 _ _ ?_ (fun I4 H4 p s4 w4 h4 => hQ I4 H4 p (s.trans s4) w4 h4)
    intro a b c t H' Q' ht k
    simp! [ht, wipe]
    refine k _ rfl ?_
    funext Q2
    simp! [and_true]
end
end TA

set_option linter.all false
set_option maxRecDepth 100000
set_option maxHeartbeats 1000000
/-! Shelves. -/
namespace TA
open PySem L2 PyProof.Rows
open SX (S S_len S_inj S_cat S_tl)
local macro_rules | `(tactic| simp! [$as,*]) => `(tactic| first | simp only [L2.start, tSeq, tAsg, tOp, fFld, tVar, gIxL, gIxT, tCB, tCons, tNil, gLenL, gLenT, gLenS, rI, rI0, fSet, tIfS, tTest, tB, rNotN, rIsN, rEq, rNe, tC, tDrop, fBM, fBM0, gTy, rAppend, tTup, tLst, tRet, tRetN, tNext, gName, fTup, gCons, gNil, tCall, fCallS, fMeth, tMeth, fMethS, fMake, tMake, fMakeS, tUn, rU, tAnd, tOr, tNot, tAndV, tOrV, tNotV, tIf, tChain, gListL, gListT, tSl, tNoPart, tPart, gSlL, fRaise, gStrI, gCatS, gMin2, gMax2, gIntB, tYes, fLcL, fLcT, fLcS, fLcR1, fForL, fForR1, fForR2, fRev, fGetI, gGetI, gInI, gLenI, fPutI, fNewI,
  List.map_cons, List.map_nil, List.length_cons, List.length_nil, List.replicate, List.cons_append, List.nil_append, List.append_nil, List.getElem?_cons_zero, List.getElem?_cons_succ, List.set_cons_zero, List.set_cons_succ, reduceIte, Bool.not_true, Bool.not_false, Nat.reduceAdd, Nat.reduceSub, Bool.false_eq_true, eq_self,
  Option.some.injEq, V.int.injEq, V.ref.injEq, V.str.injEq, V.bl.injEq, HO.ins.injEq, HO.lst.injEq, HO.tup.injEq, HO.dK.injEq, List.cons.injEq, and_assoc, exists_eq_left', exists_and_left, and_true, true_and, true_or, or_true, false_or, or_false, exists_eq_left, exists_eq_right, exists_eq_right', exists_eq, exists_eq', exists_const, upd_same, sc_ii, sc_ss, sc_bb, sc_in, sc_ni, sc_ns, sc_sn, sc_nn, $as,*] | skip)
def n_Shelf : List Str := ["most", "term", "kept"]
theorem nd_Shelf : n_Shelf.Nodup := by decide +kernel
section
variable {v0 v1 v2 x : V}
theorem lk_Shelf_most : (n_Shelf.zip [v0, v1, v2]).lookup ("most" : Str) = some v0 := lookup_zip 0 nd_Shelf rfl rfl
theorem pf_Shelf_most : putF ("most" : Str) x (n_Shelf.zip [v0, v1, v2]) = n_Shelf.zip [x, v1, v2] := putF_zip 0 nd_Shelf rfl (by simp only [List.length_cons, List.length_nil]; omega)
theorem lk_Shelf_term : (n_Shelf.zip [v0, v1, v2]).lookup ("term" : Str) = some v1 := lookup_zip 1 nd_Shelf rfl rfl
theorem pf_Shelf_term : putF ("term" : Str) x (n_Shelf.zip [v0, v1, v2]) = n_Shelf.zip [v0, x, v2] := putF_zip 1 nd_Shelf rfl (by simp only [List.length_cons, List.length_nil]; omega)
theorem lk_Shelf_kept : (n_Shelf.zip [v0, v1, v2]).lookup ("kept" : Str) = some v2 := lookup_zip 2 nd_Shelf rfl rfl
theorem pf_Shelf_kept : putF ("kept" : Str) x (n_Shelf.zip [v0, v1, v2]) = n_Shelf.zip [v0, v1, x] := putF_zip 2 nd_Shelf rfl (by simp only [List.length_cons, List.length_nil]; omega)
theorem no_Shelf_put : (n_Shelf.zip [v0, v1, v2]).lookup ("put" : Str) = none := lookup_out (by decide +kernel)
theorem no_Shelf_queries : (n_Shelf.zip [v0, v1, v2]).lookup ("queries" : Str) = none := lookup_out (by decide +kernel)
theorem no_Shelf_source : (n_Shelf.zip [v0, v1, v2]).lookup ("source" : Str) = none := lookup_out (by decide +kernel)
theorem no_Shelf_get : (n_Shelf.zip [v0, v1, v2]).lookup ("get" : Str) = none := lookup_out (by decide +kernel)
theorem no_Shelf_clear : (n_Shelf.zip [v0, v1, v2]).lookup ("clear" : Str) = none := lookup_out (by decide +kernel)
theorem in_Shelf : putF "kept" v2 (putF "term" v1 (putF "most" v0 ([]))) = n_Shelf.zip [v0, v1, v2] := by kernel_rfl
theorem il_Shelf_1 : (putF "most" v0 ([])).length < 1000 := Nat.lt_of_lt_of_le (lt_putF lt0) (by omega)
theorem il_Shelf_2 : (putF "term" v1 (putF "most" v0 ([]))).length < 1000 := Nat.lt_of_lt_of_le (lt_putF (lt_putF lt0)) (by omega)
theorem il_Shelf_3 : (putF "kept" v2 (putF "term" v1 (putF "most" v0 ([])))).length < 1000 := Nat.lt_of_lt_of_le (lt_putF (lt_putF (lt_putF lt0))) (by omega)
theorem ln_Shelf : (n_Shelf.zip [v0, v1, v2]).length < 1000 := by simp only [n_Shelf, List.zip_cons_cons, List.zip_nil_right, List.length_cons, List.length_nil]; omega
end
abbrev Kp := Tx × List Tx × Bool × Int
def kpD (k : Kp) : PyData := .tuple [sD k.1, .list (k.2.1.map sD), .bool k.2.2.1, .int k.2.2.2]
def oShelf (K : PySem.W.Frag) (dx : Addr) (most term : Int) (u : Addr) : HO := .ins (He.ga K "Shelf") dx (n_Shelf.zip [.int most, .int term, .ref u])
/-- a shelf's object, by what does not change -/
structure ShO (K : PySem.W.Frag) (I : Hp) (dx : Addr) (most term : Int) (ks : List Kp) (o : HO) : Prop where
  ex : ∃ (u : Addr) (zs : List (V × Kp)), o = oShelf K dx most term u ∧ I u = some (.lst (zs.map Prod.fst)) ∧ Enc I kpD zs ∧ zs.map Prod.snd = ks
theorem ShO.mono {K : PySem.W.Frag} {I I' : Hp} {dx : Addr} {most term : Int} {ks : List Kp} {o : HO} (s : Sub I I') (h : ShO K I dx most term ks o) : ShO K I' dx most term ks o := by
  obtain ⟨u, zs, h1, h2, h3, h4⟩ := h
  exact ⟨u, zs, h1, s _ _ h2, h3.mono s, h4⟩
def shelfOk (most term : Int) : Bool := decide (0 ≤ most ∧ most ≤ 6) && decide (1 ≤ term ∧ term ≤ 60)
def kpOk (key : Tx) (time term : Int) (k : Kp) : Bool := decide (time - k.2.2.2 < term) && (decide (k.1 = key) || (k.2.2.1 && hasL k.1 key))
def srcStep {α : Type} (f : α → Kp) (key : Tx) (time term : Int) (found : Option α) (z : α) : Option α :=
  if kpOk key time term (f z) = true ∧ (∀ y, found = some y → (f y).1.length < (f z).1.length) then some z else found
def srcG {α : Type} (f : α → Kp) (key : Tx) (time term : Int) (zs : List α) : Option α := zs.foldl (srcStep f key time term) none
abbrev srcK (ks : List Kp) (key : Tx) (time term : Int) : Option Kp := srcG (fun k => k) key time term ks
def lastN {α : Type} (m : Int) (l : List α) : List α := l.drop ((l.length : Int) - m).toNat
def dropK (ks : List Kp) (key : Tx) : List Kp := ks.filter fun o => !decide (o.1 = key)
def putK (most : Int) (ks : List Kp) (k : Kp) : List Kp := lastN most (dropK ks k.1 ++ [k])
def useK (ks : List Kp) (one : Kp) : List Kp := dropK ks one.1 ++ [one]
def kpsOk (ks : List Kp) : Prop := (∀ k ∈ ks, rowsOk k.2.1 ∧ okL 20 k.1 = true) ∧ ks.length ≤ 1000
def sp_Shelf___init__ (K : PySem.W.Frag) : Sp := fun vs H Q E => ∃ (I : Hp) (M : List (Addr × HO)) (x dx : Addr) (most term : Int), vs = [.ref x, .int most, .int term] ∧ W I H ((x, .ins (He.ga K "Shelf") dx []) :: M) ∧
  (shelfOk most term = true → ∀ (I' H' : Hp) (o : HO), Sub I I' → W I' H' ((x, o) :: M) → ShO K I' dx most term [] o → Q .non H') ∧ (shelfOk most term = false → E (bN K) none H)
def sp_Shelf_put (K : PySem.W.Frag) : Sp := fun vs H Q _ => ∃ (I : Hp) (M : List (Addr × HO)) (x dx : Addr) (most term : Int) (ks : List Kp) (o : HO) (q : Tx) (l : Addr) (rows : List Tx) (all : Bool) (time : Int), vs = [.ref x, sV q, .ref l, .bl all, .int time] ∧ W I H ((x, o) :: M) ∧ ShO K I dx most term ks o ∧ Ls I M l (.lst (rows.map sV)) ∧
  okL 20 q = true ∧ kpsOk ks ∧ rows.length ≤ 1000 ∧ ∀ (I' H' : Hp) (o' : HO), Sub I I' → W I' H' ((x, o') :: M) → ShO K I' dx most term (putK most ks (foldL q, rows, all, time)) o' → Q .non H'
def sp_Shelf_queries (K : PySem.W.Frag) : Sp := fun vs H Q _ => ∃ (I : Hp) (M : List (Addr × HO)) (x dx : Addr) (most term : Int) (ks : List Kp) (o : HO) (time : Int), vs = [.ref x, .int time] ∧ W I H M ∧ Ls I M x o ∧ ShO K I dx most term ks o ∧ kpsOk ks ∧
  ∀ (I' H' : Hp) (p : Addr), Sub I I' → W I' H' M → I' p = some (.lst (((ks.filter fun k => decide (time - k.2.2.2 < term)).map (·.1)).map sV)) → Q (.ref p) H'
def sp_Shelf_source (K : PySem.W.Frag) : Sp := fun vs H Q _ => ∃ (I : Hp) (M : List (Addr × HO)) (x dx u : Addr) (most term : Int) (zs : List (V × Kp)) (q : Tx) (time : Int), vs = [.ref x, sV q, .int time] ∧ W I H M ∧ Ls I M x (oShelf K dx most term u) ∧ I u = some (.lst (zs.map Prod.fst)) ∧ Enc I kpD zs ∧ okL 20 q = true ∧ kpsOk (zs.map Prod.snd) ∧
  ∀ (H' : Hp), W I H' M → Q (match srcG Prod.snd (foldL q) time term zs with | none => V.non | some z => z.1) H'
def sp_Shelf_get (K : PySem.W.Frag) : Sp := fun vs H Q _ => ∃ (I : Hp) (M : List (Addr × HO)) (x dx : Addr) (most term : Int) (ks : List Kp) (o : HO) (q : Tx) (n time : Int), vs = [.ref x, sV q, .int n, .int time] ∧ W I H ((x, o) :: M) ∧ ShO K I dx most term ks o ∧ okL 12 q = true ∧ kpsOk ks ∧ 0 ≤ n ∧
  (srcK ks (foldL q) time term = none → ∀ H', W I H' ((x, o) :: M) → Q .non H') ∧
  (∀ one, srcK ks (foldL q) time term = some one → ∀ (I' H' : Hp) (o' : HO) (p : Addr), Sub I I' → W I' H' ((x, o') :: M) → ShO K I' dx most term (useK ks one) o' → I' p = some (.lst ((ansR one.2.1 q n).map sV)) → Q (.ref p) H')
def sp_Shelf_clear (K : PySem.W.Frag) : Sp := fun vs H Q _ => ∃ (I : Hp) (M : List (Addr × HO)) (x dx : Addr) (most term : Int) (ks : List Kp) (o : HO), vs = [.ref x] ∧ W I H ((x, o) :: M) ∧ ShO K I dx most term ks o ∧ ∀ (I' H' : Hp) (o' : HO), Sub I I' → W I' H' ((x, o') :: M) → ShO K I' dx most term [] o' → Q .non H'
def t_Shelf___init__ (K : PySem.W.Frag) (E : XK) : TS := tSeq (tIfS (tOr (tNot (tTest (tChain (rI0 fun i j => .bl (decide (i ≤ j))) (rI0 fun i j => .bl (decide (i ≤ j))) (tC (.int 0)) (tVar 1) (tC (.int 6))))) (tNot (tTest (tChain (rI0 fun i j => .bl (decide (i ≤ j))) (rI0 fun i j => .bl (decide (i ≤ j))) (tC (.int 1)) (tVar 2) (tC (.int 60)))))) (fRaise (WD E) (He.ga K "BadNumber")) (tNext)) (tSeq (fSet (He.ga K "Shelf") "most" (tVar 0) (tVar 1)) (tSeq (fSet (He.ga K "Shelf") "term" (tVar 0) (tVar 2)) (fSet (He.ga K "Shelf") "kept" (tVar 0) (tLst (tNil)))))
abbrev nn_Shelf___init__ : List Str := ["self", "most", "term"]
def t_Shelf_put (K : PySem.W.Frag) (E : XK) : TS := tSeq (tAsg (tCall (sp_folded K) [] E (tCons (tVar 1) (tNil))) (gName 5)) (tSeq (fSet (He.ga K "Shelf") "kept" (tVar 0) (tOp (rCat) (fLcL (fFld (He.ga K "Shelf") "kept" (tVar 0)) (gName 6) (tTest (tOp (rNe) (tOp gIxT (tVar 6) (tC (.int 0))) (tVar 5))) (tVar 6) [6]) (tLst (tCons (tTup (tCons (tVar 5) (tCons (tCB (gListL) (tCons (tVar 2) (tNil))) (tCons (tVar 3) (tCons (tVar 4) (tNil)))))) (tNil))))) (fSet (He.ga K "Shelf") "kept" (tVar 0) (tSl gSlL (fFld (He.ga K "Shelf") "kept" (tVar 0)) (tPart (tCB (gMax2) (tCons (tC (.int 0)) (tCons (tOp (rI0 fun i j => .int (i - j)) (tCB (gLenL) (tCons (fFld (He.ga K "Shelf") "kept" (tVar 0)) (tNil))) (fFld (He.ga K "Shelf") "most" (tVar 0))) (tNil))))) (tNoPart))))
abbrev nn_Shelf_put : List Str := ["self", "query", "rows", "is_all", "time", "key", "one"]
def t_Shelf_queries (K : PySem.W.Frag) (E : XK) : TS := tRet (fLcL (fFld (He.ga K "Shelf") "kept" (tVar 0)) (gName 2) (tTest (tOp (rI0 fun i j => .bl (decide (i < j))) (tOp (rI0 fun i j => .int (i - j)) (tVar 1) (tOp gIxT (tVar 2) (tC (.int 3)))) (fFld (He.ga K "Shelf") "term" (tVar 0)))) (tOp gIxT (tVar 2) (tC (.int 0))) [2])
abbrev nn_Shelf_queries : List Str := ["self", "time", "one"]
def t_Shelf_source (K : PySem.W.Frag) (E : XK) : TS := tSeq (tAsg (tCall (sp_folded K) [] E (tCons (tVar 1) (tNil))) (gName 3)) (tSeq (tAsg (tC .non) (gName 4)) (tSeq (fForL (fFld (He.ga K "Shelf") "kept" (tVar 0)) (gName 5) (tIfS (tAnd (tTest (tOp (rI0 fun i j => .bl (decide (i < j))) (tOp (rI0 fun i j => .int (i - j)) (tVar 2) (tOp gIxT (tVar 5) (tC (.int 3)))) (fFld (He.ga K "Shelf") "term" (tVar 0)))) (tOr (tTest (tOp (rEq) (tOp gIxT (tVar 5) (tC (.int 0))) (tVar 3))) (tAnd (tB (tOp gIxT (tVar 5) (tC (.int 2)))) (tTest (tOp (gInS) (tOp gIxT (tVar 5) (tC (.int 0))) (tVar 3)))))) (tIfS (tOr (tTest (tOp (rIsN) (tVar 4) (tC .non))) (tTest (tOp (rI0 fun i j => .bl (decide (j < i))) (tCB (gLenS) (tCons (tOp gIxT (tVar 5) (tC (.int 0))) (tNil))) (tCB (gLenS) (tCons (tOp gIxT (tVar 4) (tC (.int 0))) (tNil)))))) (tAsg (tVar 5) (gName 4)) (tNext)) (tNext))) (tRet (tVar 4))))
abbrev nn_Shelf_source : List Str := ["self", "query", "time", "key", "found", "one"]
def t_Shelf_get (K : PySem.W.Frag) (E : XK) : TS := tSeq (tAsg (fMeth (He.ga K "Shelf") "source" (sp_Shelf_source K) E (tVar 0) (tCons (tVar 1) (tCons (tVar 3) (tNil)))) (gName 4)) (tSeq (tIfS (tTest (tOp (rIsN) (tVar 4) (tC .non))) (tRet (tC .non)) (tNext)) (tSeq (fSet (He.ga K "Shelf") "kept" (tVar 0) (tOp (rCat) (fLcL (fFld (He.ga K "Shelf") "kept" (tVar 0)) (gName 5) (tTest (tOp (rNe) (tOp gIxT (tVar 5) (tC (.int 0))) (tOp gIxT (tVar 4) (tC (.int 0))))) (tVar 5) [5]) (tLst (tCons (tVar 4) (tNil))))) (tRet (tCall (sp_best K) [] E (tCons (tOp gIxT (tVar 4) (tC (.int 1))) (tCons (tVar 1) (tCons (tVar 2) (tNil))))))))
abbrev nn_Shelf_get : List Str := ["self", "query", "many", "time", "one", "other"]
def t_Shelf_clear (K : PySem.W.Frag) (E : XK) : TS := fSet (He.ga K "Shelf") "kept" (tVar 0) (tLst (tNil))
abbrev nn_Shelf_clear : List Str := ["self"]
section
variable {K : PySem.W.Frag}
theorem len_Shelf___init__ : ∀ vs H Q E, sp_Shelf___init__ K vs H Q E → vs.length = ["self", "most", "term"].length := by
  rintro _ _ _ _ ⟨_, _, _, _, _, _, rfl, _⟩; rfl
theorem len_Shelf_put : ∀ vs H Q E, sp_Shelf_put K vs H Q E → vs.length = ["self", "query", "rows", "is_all", "time"].length := by
  rintro _ _ _ _ ⟨_, _, _, _, _, _, _, _, _, _, _, _, _, rfl, _⟩; rfl
theorem len_Shelf_queries : ∀ vs H Q E, sp_Shelf_queries K vs H Q E → vs.length = ["self", "time"].length := by
  rintro _ _ _ _ ⟨_, _, _, _, _, _, _, _, _, rfl, _⟩; rfl
theorem len_Shelf_source : ∀ vs H Q E, sp_Shelf_source K vs H Q E → vs.length = ["self", "query", "time"].length := by
  rintro _ _ _ _ ⟨_, _, _, _, _, _, _, _, _, _, rfl, _⟩; rfl
theorem len_Shelf_get : ∀ vs H Q E, sp_Shelf_get K vs H Q E → vs.length = ["self", "query", "many", "time"].length := by
  rintro _ _ _ _ ⟨_, _, _, _, _, _, _, _, _, _, _, rfl, _⟩; rfl
theorem len_Shelf_clear : ∀ vs H Q E, sp_Shelf_clear K vs H Q E → vs.length = ["self"].length := by
  rintro _ _ _ _ ⟨_, _, _, _, _, _, _, _, rfl, _⟩; rfl
/-- a kept answer's tuple -/
theorem rp_kp {I : Hp} {v : V} {k : Kp} (h : Rp I v (kpD k)) : ∃ t l, v = .ref t ∧ I t = some (.tup [sV k.1, .ref l, .bl k.2.2.1, .int k.2.2.2]) ∧ I l = some (.lst (k.2.1.map sV)) := by
  obtain ⟨a, b, c, d⟩ := k
  cases h with
  | tup h1 h2 =>
    cases h2 with
    | cons x1 h2 =>
      cases h2 with
      | cons x2 h2 =>
        cases h2 with
        | cons x3 h2 =>
          cases h2 with
          | cons x4 h2 =>
            cases h2; cases x1; cases x3; cases x4
            cases x2 with
            | lst y1 y2 =>
              obtain ⟨zs, rfl, e, en⟩ := enc_of (e := sD) y2
              rw [enc_strs en, ← e] at y1
              exact ⟨_, _, rfl, h1, y1⟩
theorem kp_rp {I : Hp} {t l : Addr} {k : Kp} (h1 : I t = some (.tup [sV k.1, .ref l, .bl k.2.2.1, .int k.2.2.2])) (h2 : I l = some (.lst (k.2.1.map sV))) : Rp I (.ref t) (kpD k) :=
  .tup h1 (.cons (.str _) (.cons (.lst h2 (rpAll_tx _)) (.cons (.bl _) (.cons (.int _) .nil))))
theorem atN {α : Type} {xs : List α} {i : Nat} {x : α} (h : xs[i]? = some x) : atI xs (i : Int) = some x := by
  obtain ⟨hl, e⟩ := List.getElem?_eq_some_iff.mp h
  unfold atI ixN
  rw [if_pos (by omega), if_pos (by omega), Int.toNat_natCast]; exact h
theorem at4_0 {a b c d : V} : atI [a, b, c, d] 0 = some a := atN (i := 0) rfl
theorem at4_1 {a b c d : V} : atI [a, b, c, d] 1 = some b := atN (i := 1) rfl
theorem at4_2 {a b c d : V} : atI [a, b, c, d] 2 = some c := atN (i := 2) rfl
theorem at4_3 {a b c d : V} : atI [a, b, c, d] 3 = some d := atN (i := 3) rfl
theorem pure_Shelf___init__ : ∀ vs H Q E, sp_Shelf___init__ K vs H Q E → t_Shelf___init__ K E { nx := fun _ H2 => Q .non H2, rt := Q } (L2.start nn_Shelf___init__ vs) H := by
  rintro vs H Q E ⟨I, M, x, dx, most, term, rfl, w, hQ, hE⟩
  have h0 := w.has.1
  unfold t_Shelf___init__
  simp! [h0]
  unfold shelfOk at hQ hE
  by_cases c1 : 0 ≤ most
  · refine ite_t c1 ?_
    by_cases c2 : most ≤ 6
    · refine ite_nt c2 ?_
      by_cases c3 : 1 ≤ term
      · refine ite_t c3 ?_
        by_cases c4 : term ≤ 60
        · refine ite_nt c4 ?_
          rw [decide_eq_true ⟨c1, c2⟩, decide_eq_true ⟨c3, c4⟩] at hQ
          have l1 : (putF (Str.ofString "most") (V.int most) []).length < 2 := lt_putF lt0
          have l2 : (putF (Str.ofString "term") (V.int term) (putF (Str.ofString "most") (V.int most) [])).length < 3 := lt_putF l1
          refine ⟨by decide, by omega, Nat.zero_le _, fun p hp => ?_⟩
          have w1 := (w.put (o' := .ins (He.ga K "Shelf") dx (putF "most" (.int most) []))).put (o' := .ins (He.ga K "Shelf") dx (putF "term" (.int term) (putF "most" (.int most) [])))
          obtain ⟨I2, s2, w2, h2⟩ := w1.mkI hp (.lst [])
          refine ⟨_, _, w2.has.1, by omega, ?_⟩
          rw [in_Shelf]
          exact hQ rfl I2 _ _ s2 (w2.put (o' := oShelf K dx most term p)) ⟨p, [], rfl, h2, Enc.nil, rfl⟩
        · exact ite_nf c4 (hE (by simp [c4]))
      · exact ite_f c3 (hE (by simp [c3]))
    · exact ite_nf c2 (hE (by simp [c2]))
  · exact ite_f c1 (hE (by simp [c1]))
theorem pure_Shelf_clear : ∀ vs H Q E, sp_Shelf_clear K vs H Q E → t_Shelf_clear K E { nx := fun _ H2 => Q .non H2, rt := Q } (L2.start nn_Shelf_clear vs) H := by
  rintro vs H Q E ⟨I, M, x, dx, most, term, ks, o, rfl, w, ⟨u, zs, rfl, hu, en, es⟩, hQ⟩
  unfold t_Shelf_clear
  simp! [and_true]
  refine ⟨Nat.zero_le _, fun p hp => ?_⟩
  obtain ⟨I2, s2, w2, h2⟩ := w.mkI hp (.lst [])
  refine ⟨_, _, w2.has.1, ln_Shelf, ?_⟩
  rw [pf_Shelf_kept]
  exact hQ I2 _ _ s2 (w2.put (o' := oShelf K dx most term p)) ⟨p, [], rfl, h2, Enc.nil, rfl⟩
theorem fm_keys {time term : Int} : ∀ zs : List (V × Kp), zs.filterMap (fun z => if time - z.2.2.2.2 < term then some z.2.1 else none) = ((zs.map Prod.snd).filter fun k => decide (time - k.2.2.2 < term)).map (·.1)
  | [] => rfl
  | z :: zs => by
    have ih := fm_keys (time := time) (term := term) zs
    rw [List.filterMap_cons, List.map_cons, List.filter_cons]
    by_cases c : time - z.2.2.2.2 < term <;> simp [c] <;> simpa using ih
theorem pure_Shelf_queries : ∀ vs H Q E, sp_Shelf_queries K vs H Q E → t_Shelf_queries K E { nx := fun _ H2 => Q .non H2, rt := Q } (L2.start nn_Shelf_queries vs) H := by
  rintro vs H Q E ⟨I, M, x, dx, most, term, ks, o, time, rfl, w, lx, ⟨u, zs, rfl, hu, en, es⟩, ⟨ko, kl⟩, hQ⟩
  have hx := lx.at w
  have hu1 := w.sub _ _ hu
  have hl : zs.length = ks.length := by rw [← es, List.length_map]
  unfold t_Shelf_queries oShelf at *
  simp! [hx, lk_Shelf_kept, hu1, List.length_map]
  refine comp_data sD (fun i => (zs[i]?).bind fun z => if time - z.2.2.2.2 < term then some z.2.1 else none) w (by omega) (fun I' D acc H' s w' => w'.sub _ _ (s _ _ hu)) ?_ ?_
  · rintro D i y acc I' H' T F hi hy s w' kT kF
    rw [List.getElem?_map, Option.map_eq_some_iff] at hy
    obtain ⟨z, hz, rfl⟩ := hy
    obtain ⟨t, l, e1, e2, e3⟩ := rp_kp (en z (List.mem_of_getElem? hz))
    have e2' := w'.sub _ _ (s _ _ e2)
    have hx' := (lx.mono s).cons.at w'
    simp! [wipe, e1, e2', at4_3, at4_0, hx', lk_Shelf_term]
    by_cases c : time - z.2.2.2.2 < term
    · exact ite_t c (kT I' H' _ z.2.1 (by rw [hz]; simp [c]) (Sub.refl _) w' (.str _))
    · exact ite_f c (kF I' H' (by rw [hz]; simp [c]) (Sub.refl _) w')
  · intro I2 D H2 ys s2 w2 en2 es2
    have e5 : (List.range zs.length).filterMap (fun i => (zs[i]?).bind fun z => if time - z.2.2.2.2 < term then some z.2.1 else none) = (ks.filter fun k => decide (time - k.2.2.2 < term)).map (·.1) := by
      rw [fm_list (g := fun z : V × Kp => if time - z.2.2.2.2 < term then some z.2.1 else none) (fun i a h => by rw [h]; rfl), ← es]
      exact fm_keys zs
    rw [e5] at es2
    rw [enc_strs en2, es2] at w2
    obtain ⟨I3, s3, w3, h3⟩ := w2.frz
    exact hQ I3 H2 D (s2.trans s3) w3 h3
theorem dropK_len (ks : List Kp) (key : Tx) : (dropK ks key).length ≤ ks.length := List.length_filter_le _ _
/-- the tuple's key is not the key -/
theorem keep_turn {zs : List (V × Kp)} {I I' H' : Hp} {M : List (Addr × HO)} (en : Enc I kpD zs) (s : Sub I I') (w' : W I' H' M) {z : V × Kp} (hz : z ∈ zs) : ∃ t l, z.1 = .ref t ∧ H' t = some (.tup [sV z.2.1, .ref l, .bl z.2.2.2.1, .int z.2.2.2.2]) := by
  obtain ⟨t, l, e1, e2, e3⟩ := rp_kp (en z hz)
  exact ⟨t, l, e1, w'.sub _ _ (s _ _ e2)⟩
theorem cut_from (xs : List V) {k : Int} (h : 0 ≤ k) : cutV xs (some k) none = xs.drop k.toNat := by
  unfold cutV
  obtain ⟨m, rfl⟩ := Int.eq_ofNat_of_zero_le h
  have e2 : HT.sIx xs.length 0 (some ((m : Nat) : Int)) = min m xs.length := by unfold HT.sIx; simp only []; rw [if_neg (by omega)]; omega
  rw [e2, HT.sIx_none, Int.toNat_natCast]
  rw [List.take_of_length_le (by simp)]
  by_cases c : m ≤ xs.length
  · rw [Nat.min_eq_left c]
  · rw [Nat.min_eq_right (by omega), List.drop_of_length_le (by omega), List.drop_of_length_le (by omega)]
theorem pure_Shelf_put : ∀ vs H Q E, sp_Shelf_put K vs H Q E → t_Shelf_put K E { nx := fun _ H2 => Q .non H2, rt := Q } (L2.start nn_Shelf_put vs) H := by
  rintro vs H Q E ⟨I, M, x, dx, most, term, ks, o, q, l, rows, all, time, rfl, w, ⟨u, zs, rfl, hu, en, es⟩, ll, okq, ⟨ko, kl⟩, rl, hQ⟩
  have hb := line_big
  have hl : zs.length = ks.length := by rw [← es, List.length_map]
  unfold t_Shelf_put
  simp! [and_true]
  refine ⟨q, rfl, by have := okL_len okq; omega, fun H1 sm1 => ?_⟩
  rw [if_pos okq]
  have w1 := w.same sm1
  have hx := w1.has.1
  have hu1 := w1.sub _ _ hu
  unfold oShelf at *
  simp! [hx, lk_Shelf_kept, hu1]
  refine comp_filter (p := fun z => !decide (z.2.1 = foldL q)) w1 (by omega) (fun _ => rfl) (fun _ => rfl) (fun D o H' w' => w'.sub _ _ hu) (fun z hz D o H' Q' w' q' => ?_) (fun D H2 w2 => ?_)
  · obtain ⟨t, l2, e1, e2⟩ := keep_turn en (Sub.refl _) w' hz
    simp! [wipe, e1, e2, at4_0, S_eq]
    exact q'
  have hl2 := ll.cons.cons.at w2
  simp! [hl2]
  intro p3 hp3
  obtain ⟨I3, s3, w3, h3⟩ := w2.mkI hp3 (.lst (rows.map sV))
  refine ⟨by omega, fun p4 hp4 => ?_⟩
  obtain ⟨I4, s4, w4, h4⟩ := w3.mkI hp4 (.tup [sV (foldL q), .ref p3, .bl all, .int time])
  refine ⟨one_le, fun p5 hp5 => ?_⟩
  have w5 := w4.skip (o := .lst [V.ref p4]) hp5
  have w5' := w4.newM (o := .lst [V.ref p4]) hp5
  refine ⟨D, p5, _, _, rfl, rfl, w5.has.1, w5'.has.1, by simp; have := List.length_filter_le (fun z : V × Kp => !decide (z.2.1 = foldL q)) zs; omega, fun p6 hp6 => ?_⟩
  generalize hys : zs.filter (fun z => !decide (z.2.1 = foldL q)) ++ [((V.ref p4 : V), ((foldL q, rows, all, time) : Kp))] = ys
  have e6 : (zs.filter (fun z => !decide (z.2.1 = foldL q))).map Prod.fst ++ [V.ref p4] = ys.map Prod.fst := by rw [← hys]; simp
  have es6 : ys.map Prod.snd = dropK ks (foldL q) ++ [(foldL q, rows, all, time)] := by
    rw [← hys, ← es]; unfold dropK
    rw [List.map_append, List.filter_map]; rfl
  have en6 : Enc I4 kpD ys := by
    rw [← hys]
    exact ((en.filter _).mono (s3.trans s4)).snoc (kp_rp (k := (foldL q, rows, all, time)) h4 (s4 _ _ h3))
  rw [e6]
  obtain ⟨I6, s6, w6, h6⟩ := w5.drop.mkI hp6 (.lst (ys.map Prod.fst))
  have hx6 := w6.has.1
  simp! [hx6, ln_Shelf, pf_Shelf_kept]
  have w7 := w6.put (o' := oShelf K dx most term p6)
  unfold oShelf at w7
  have hp7 := w7.sub _ _ h6
  simp! [lk_Shelf_kept, lk_Shelf_most, hp7]
  intro p8 hp8
  have hcut : cutV (ys.map Prod.fst) (some (if (((ys.map Prod.fst).length : Int) - most) > 0 then (((ys.map Prod.fst).length : Int) - most) else 0)) none = (lastN most ys).map Prod.fst := by
    rw [List.length_map, cut_from _ (by split <;> omega)]
    unfold lastN
    rw [List.map_drop]
    congr 1
    split <;> omega
  rw [hcut]
  obtain ⟨I8, s8, w8, h8⟩ := w7.mkI hp8 (.lst ((lastN most ys).map Prod.fst))
  refine ⟨_, _, w8.has.1, ln_Shelf, ?_⟩
  rw [pf_Shelf_kept]
  refine hQ I8 _ _ (s3.trans (s4.trans (s6.trans s8))) (w8.put (o' := oShelf K dx most term p8)) ⟨p8, lastN most ys, rfl, h8, (en6.mono (s6.trans s8)).sub fun z hz => List.mem_of_mem_drop hz, ?_⟩
  unfold putK lastN
  rw [List.map_drop, es6, ← List.length_map (f := Prod.snd) (as := ys), es6]
theorem src_map {key : Tx} {time term : Int} (zs : List (V × Kp)) : (srcG Prod.snd key time term zs).map Prod.snd = srcK (zs.map Prod.snd) key time term := by
  unfold srcK srcG
  have : ∀ (zs : List (V × Kp)) (f : Option (V × Kp)), (zs.foldl (srcStep Prod.snd key time term) f).map Prod.snd = (zs.map Prod.snd).foldl (srcStep (fun k => k) key time term) (f.map Prod.snd) := by
    intro zs
    induction zs with
    | nil => intro f; rfl
    | cons z zs ih =>
      intro f
      rw [List.foldl_cons, List.map_cons, List.foldl_cons, ih]
      congr 1
      unfold srcStep
      cases f with
      | none => by_cases c : kpOk key time term z.2 = true <;> simp [c]
      | some y => by_cases c : kpOk key time term z.2 = true ∧ y.2.1.length < z.2.1.length <;> simp [c]
  exact this zs none
theorem src_mem {α : Type} {f : α → Kp} {key : Tx} {time term : Int} {zs : List α} {z : α} (h : srcG f key time term zs = some z) : z ∈ zs := by
  have : ∀ (zs : List α) (o : Option α), zs.foldl (srcStep f key time term) o = some z → z ∈ zs ∨ o = some z := by
    intro zs
    induction zs with
    | nil => intro o h; exact .inr h
    | cons y zs ih =>
      intro o h
      rcases ih _ h with q | q
      · exact .inl (List.mem_cons_of_mem _ q)
      · unfold srcStep at q
        split at q
        · cases q; exact .inl List.mem_cons_self
        · exact .inr q
  rcases this zs none h with q | q
  · exact q
  · cases q
structure PSrc (I : Hp) (M : List (Addr × HO)) (x : Addr) (q : Tx) (time term : Int) (zs : List (V × Kp)) (i : Nat) (σ : L2.St) (H : Hp) : Prop where
  ex : ∃ r5 : Option V, σ = [some (.ref x), some (sV q), some (.int time), some (sV (foldL q)), some (match (zs.take i).foldl (srcStep Prod.snd (foldL q) time term) none with | none => V.non | some z => z.1), r5] ∧ W I H M
theorem find_S (m w : Tx) : (0 ≤ Txt.find (S m) (S w)) ↔ hasL w m = true := by
  have e := in_S m w
  unfold Txt.find
  rw [S_len, ← e]
  cases Builtin.Str.occurrences (S m) (S w) 0 m.length 1 with
  | nil => simp
  | cons i r => simp
theorem pure_Shelf_source : ∀ vs H Q E, sp_Shelf_source K vs H Q E → t_Shelf_source K E { nx := fun _ H2 => Q .non H2, rt := Q } (L2.start nn_Shelf_source vs) H := by
  rintro vs H Q E ⟨I, M, x, dx, u, most, term, zs, q, time, rfl, w, lx, hu, en, okq, ⟨ko, kl⟩, hQ⟩
  have hb := line_big
  unfold t_Shelf_source
  simp! [and_true]
  refine ⟨q, rfl, by have := okL_len okq; omega, fun H1 sm1 => ?_⟩
  rw [if_pos okq]
  have w1 := w.same sm1
  have hx := lx.at w1
  have hu1 := w1.sub _ _ hu
  unfold oShelf at hx
  simp! [hx, lk_Shelf_kept, hu1]
  refine ⟨PSrc I M x q time term zs, ⟨_, rfl, w1⟩, ?_, ?_, ?_⟩
  · rintro i σ H' _ ⟨r5, rfl, w'⟩
    exact w'.sub _ _ hu
  · rintro i y σ H' hy ⟨r5, rfl, w'⟩
    rw [List.getElem?_map, Option.map_eq_some_iff] at hy
    obtain ⟨z, hz, rfl⟩ := hy
    obtain ⟨t, l, e1, e2⟩ := keep_turn en (Sub.refl _) w' (List.mem_of_getElem? hz)
    have hx' := lx.at w'
    unfold oShelf at hx'
    have okz := ko z.2 (List.mem_map.mpr ⟨z, List.mem_of_getElem? hz, rfl⟩)
    have lz := okL_len okz.2
    have fin : ∀ (o : Option (V × Kp)), srcStep Prod.snd (foldL q) time term ((zs.take i).foldl (srcStep Prod.snd (foldL q) time term) none) z = o → ∀ v, v = (match o with | none => V.non | some z => z.1) → ∀ r5', PSrc I M x q time term zs (i + 1) [some (.ref x), some (sV q), some (.int time), some (sV (foldL q)), some v, r5'] H' := by
      rintro o rfl v rfl r5'
      refine ⟨r5', ?_, w'⟩
      rw [take_succ_get hz, List.foldl_append]; rfl
    have hpf := fun f (h : (zs.take i).foldl (srcStep Prod.snd (foldL q) time term) none = some f) => (src_mem (f := Prod.snd) (zs := zs.take i) h)
    generalize (zs.take i).foldl (srcStep Prod.snd (foldL q) time term) none = o at fin hpf ⊢
    have no : kpOk (foldL q) time term z.2 = false → ∀ r5', PSrc I M x q time term zs (i + 1) [some (.ref x), some (sV q), some (.int time), some (sV (foldL q)), some (match o with | none => V.non | some z => z.1), r5'] H' := fun h r5' => fin o (if_neg (by simp [h])) _ rfl r5'
    have ok : ∀ b, kpOk (foldL q) time term z.2 = b → (decide (time - z.2.2.2.2 < term) && (decide (z.2.1 = foldL q) || (z.2.2.2.1 && hasL z.2.1 (foldL q)))) = b := fun b h => h
    cases o with
    | none =>
      have yes : kpOk (foldL q) time term z.2 = true → ∀ r5', PSrc I M x q time term zs (i + 1) [some (.ref x), some (sV q), some (.int time), some (sV (foldL q)), some (V.ref t), r5'] H' := fun h r5' => fin (some z) (if_pos ⟨h, fun y hy => by cases hy⟩) _ e1.symm r5'
      simp! [e1, e2, at4_0, at4_1, at4_2, at4_3, hx', lk_Shelf_term, S_eq, gInS, S_len, in_S, decide_true]
      unfold kpOk at yes no
      by_cases c1 : time - z.2.2.2.2 < term
      · refine ite_t c1 ?_
        by_cases c2 : z.2.1 = foldL q
        · exact ite_t c2 (yes (by simp [c1, c2]) _)
        · refine ite_f c2 ?_
          by_cases c3 : z.2.2.2.1 = true
          · rw [if_pos c3]
            by_cases c4 : hasL z.2.1 (foldL q) = true
            · rw [if_pos c4]; exact yes (by simp [c1, c3, c4]) _
            · rw [if_neg c4]; exact no (by simp [c2, c4]) _
          · rw [if_neg c3]; exact no (by simp [c2, c3]) _
      · exact ite_f c1 (no (by simp [c1]) _)
    | some f =>
      obtain ⟨tf, lf, f1, f2⟩ := keep_turn en (Sub.refl _) w' (List.mem_of_mem_take (hpf f rfl))
      have okf := ko f.2 (List.mem_map.mpr ⟨f, List.mem_of_mem_take (hpf f rfl), rfl⟩)
      have lf' := okL_len okf.2
      have yes : kpOk (foldL q) time term z.2 = true → ∀ r5', (if decide ((f.2.1.length : Int) < (z.2.1.length : Int)) = true then PSrc I M x q time term zs (i + 1) [some (.ref x), some (sV q), some (.int time), some (sV (foldL q)), some (V.ref t), r5'] H' else PSrc I M x q time term zs (i + 1) [some (.ref x), some (sV q), some (.int time), some (sV (foldL q)), some (V.ref tf), r5'] H') := fun h r5' => by
        by_cases c : f.2.1.length < z.2.1.length
        · exact ite_t (by omega) (fin (some z) (if_pos ⟨h, fun y hy => by cases hy; exact c⟩) _ e1.symm r5')
        · exact ite_f (by omega) (fin (some f) (if_neg fun hh => c (hh.2 f rfl)) _ f1.symm r5')
      have no' : kpOk (foldL q) time term z.2 = false → ∀ r5', PSrc I M x q time term zs (i + 1) [some (.ref x), some (sV q), some (.int time), some (sV (foldL q)), some (V.ref tf), r5'] H' := fun h r5' => by rw [← f1]; exact no h r5'
      simp! [e1, e2, f1, f2, at4_0, at4_1, at4_2, at4_3, hx', lk_Shelf_term, S_eq, gInS, S_len, in_S, decide_false, reduceCtorEq]
      unfold kpOk at yes no'
      have a1 : z.2.1.length ≤ sizeLine := by omega
      have a2 : f.2.1.length ≤ sizeLine := by omega
      by_cases c1 : time - z.2.2.2.2 < term
      · refine ite_t c1 ?_
        by_cases c2 : z.2.1 = foldL q
        · exact ite_t c2 ⟨a1, a2, yes (by simp [c1, c2]) _⟩
        · refine ite_f c2 ?_
          by_cases c3 : z.2.2.2.1 = true
          · rw [if_pos c3]
            by_cases c4 : hasL z.2.1 (foldL q) = true
            · rw [if_pos c4]; exact ⟨a1, a2, yes (by simp [c1, c3, c4]) _⟩
            · rw [if_neg c4]; exact no' (by simp [c2, c4]) _
          · rw [if_neg c3]; exact no' (by simp [c2, c3]) _
      · exact ite_f c1 (no' (by simp [c1]) _)
  · rintro σ H' ⟨r5, rfl, w'⟩
    rw [List.length_map, List.take_length]
    simp! [and_true]
    exact hQ _ w'
theorem pure_Shelf_get : ∀ vs H Q E, sp_Shelf_get K vs H Q E → t_Shelf_get K E { nx := fun _ H2 => Q .non H2, rt := Q } (L2.start nn_Shelf_get vs) H := by
  rintro vs H Q E ⟨I, M, x, dx, most, term, ks, o, q, n, time, rfl, w, ⟨u, zs, rfl, hu, en, es⟩, okq, ⟨ko, kl⟩, n0, hno, hyes⟩
  have hb := line_big
  have hl : zs.length = ks.length := by rw [← es, List.length_map]
  have hx := w.has.1
  have hm := src_map (key := foldL q) (time := time) (term := term) zs
  rw [es] at hm
  unfold t_Shelf_get
  simp! [and_true]
  refine ⟨_, _, hx, no_Shelf_source, ?_⟩
  refine ⟨I, _, x, dx, u, most, term, zs, q, time, rfl, w, Ls.head, hu, en, okL_le okq (by decide), by rw [es]; exact ⟨ko, kl⟩, fun H1 w1 => ?_⟩
  cases hs : srcG Prod.snd (foldL q) time term zs with
  | none =>
    rw [hs] at hm
    simp! [decide_true]
    exact hno hm.symm H1 w1
  | some z =>
    rw [hs] at hm
    have hz := src_mem hs
    obtain ⟨t, l, e1, e2, e3⟩ := rp_kp (en z hz)
    have e2' := w1.sub _ _ e2
    have hx1 := w1.has.1
    have hu1 := w1.sub _ _ hu
    unfold oShelf at *
    simp! [e1, decide_false, reduceCtorEq, hx1, lk_Shelf_kept, hu1]
    refine comp_filter (p := fun y => !decide (y.2.1 = z.2.1)) w1 (by omega) (fun _ => rfl) (fun _ => rfl) (fun D o H' w' => w'.sub _ _ hu) (fun y hy D o H' Q' w' q' => ?_) (fun D H2 w2 => ?_)
    · obtain ⟨t2, l2, f1, f2⟩ := keep_turn en (Sub.refl _) w' hy
      have e2'' := w'.sub _ _ e2
      simp! [wipe, f1, f2, at4_0, S_eq, e2'']
      exact q'
    simp! [and_true]
    refine ⟨one_le, fun p5 hp5 => ?_⟩
    have w5 := w2.skip (o := .lst [V.ref t]) hp5
    have w5' := w2.newM (o := .lst [V.ref t]) hp5
    refine ⟨D, p5, _, _, rfl, rfl, w5.has.1, w5'.has.1, by simp; have := List.length_filter_le (fun y : V × Kp => !decide (y.2.1 = z.2.1)) zs; omega, fun p6 hp6 => ?_⟩
    generalize hys : zs.filter (fun y => !decide (y.2.1 = z.2.1)) ++ [z] = ys
    have e6 : (zs.filter (fun y => !decide (y.2.1 = z.2.1))).map Prod.fst ++ [V.ref t] = ys.map Prod.fst := by rw [← hys, ← e1]; simp
    have es6 : ys.map Prod.snd = useK ks z.2 := by
      rw [← hys, ← es]; unfold useK dropK
      rw [List.map_append, List.filter_map]; rfl
    have en6 : Enc I kpD ys := by
      rw [← hys]
      exact (en.filter _).snoc (en z hz)
    rw [e6]
    obtain ⟨I6, s6, w6, h6⟩ := w5.drop.mkI hp6 (.lst (ys.map Prod.fst))
    refine ⟨_, _, w6.has.1, ln_Shelf, ?_⟩
    rw [pf_Shelf_kept]
    have w7 := w6.put (o' := oShelf K dx most term p6)
    have e2' := w7.sub _ _ (s6 _ _ e2)
    unfold oShelf at w7
    refine ⟨_, e2', _, at4_1, ?_⟩
    have okz := ko z.2 (by rw [← es]; exact List.mem_map.mpr ⟨z, hz, rfl⟩)
    refine ⟨I6, _, l, z.2.2.1, q, n, rfl, w7, Ls.i (s6 _ _ e3), okz.1, okq, n0, fun I8 H8 p8 s8 w8 h8 => ?_⟩
    exact hyes z.2 hm.symm I8 H8 _ p8 (s6.trans s8) w8 ⟨p6, ys, rfl, s8 _ _ h6, en6.mono (s6.trans s8), es6⟩ h8
end
end TA

set_option linter.all false
set_option maxRecDepth 100000
set_option maxHeartbeats 1000000
/-! The law's own shelf: the longest that fits, the first of these. -/
namespace TA
open PySem L2 PyProof.Rows
open SX (S S_len S_inj S_cat S_tl)
local macro_rules | `(tactic| simp! [$as,*]) => `(tactic| first | simp only [L2.start, tSeq, tAsg, tOp, fFld, tVar, gIxL, gIxT, tCB, tCons, tNil, gLenL, gLenT, gLenS, rI, rI0, fSet, tIfS, tTest, tB, rNotN, rIsN, rEq, rNe, tC, tDrop, fBM, fBM0, gTy, rAppend, tTup, tLst, tRet, tRetN, tNext, gName, fTup, gCons, gNil, tCall, fCallS, fMeth, tMeth, fMethS, fMake, tMake, fMakeS, tUn, rU, tAnd, tOr, tNot, tAndV, tOrV, tNotV, tIf, tChain, gListL, gListT, tSl, tNoPart, tPart, gSlL, fRaise, gStrI, gCatS, gMin2, gMax2, gIntB, tYes, fLcL, fLcT, fLcS, fLcR1, fForL, fForR1, fForR2, fRev, fGetI, gGetI, gInI, gLenI, fPutI, fNewI,
  List.map_cons, List.map_nil, List.length_cons, List.length_nil, List.replicate, List.cons_append, List.nil_append, List.append_nil, List.getElem?_cons_zero, List.getElem?_cons_succ, List.set_cons_zero, List.set_cons_succ, reduceIte, Bool.not_true, Bool.not_false, Nat.reduceAdd, Nat.reduceSub, Bool.false_eq_true, eq_self,
  Option.some.injEq, V.int.injEq, V.ref.injEq, V.str.injEq, V.bl.injEq, HO.ins.injEq, HO.lst.injEq, HO.tup.injEq, HO.dK.injEq, List.cons.injEq, and_assoc, exists_eq_left', exists_and_left, and_true, true_and, true_or, or_true, false_or, or_false, exists_eq_left, exists_eq_right, exists_eq_right', exists_eq, exists_eq', exists_const, upd_same, sc_ii, sc_ss, sc_bb, sc_in, sc_ni, sc_ns, sc_sn, sc_nn, $as,*] | skip)
abbrev Tri := Int × Int × Int
def triD (x : Tri) : PyData := .tuple ([x.1, x.2.1, x.2.2].map .int)
def mtc (ks : List Kp) (key : Tx) (time term : Int) (k : Nat) : Option Tri := (ks[k]?).bind fun e => if kpOk key time term e = true then some ((e.1.length : Int), 0 - (k : Int), (k : Int)) else none
def mtch (ks : List Kp) (key : Tx) (time term : Int) (i : Nat) : List Tri := (List.range i).filterMap (mtc ks key time term)
theorem tri_lt (x y : Tri) : PySem.W.dataLt (triD x) (triD y) = decide ([x.1, x.2.1, x.2.2] < [y.1, y.2.1, y.2.2]) := by
  unfold triD
  rw [PySem.W.dataLt_tuple]
  exact PySem.W.dataLt_ints _ _
theorem tri_inj {x y : Tri} (h : triD x = triD y) : x = y := by
  obtain ⟨a, b, c⟩ := x
  obtain ⟨a', b', c'⟩ := y
  simp [triD] at h
  obtain ⟨rfl, rfl, rfl⟩ := h
  rfl
theorem maxD_ge : ∀ (xs : List PyData) (x y : PyData), y ∈ x :: xs → PySem.W.dataLt (PySem.W.maxD x xs) y = false
  | [], x, y, h => by
    rw [List.mem_singleton.mp h]
    exact PyProof.Rows.lex_irrefl _
  | z :: xs, x, y, h => by
    have e : PySem.W.maxD x (z :: xs) = PySem.W.maxD (if PySem.W.dataLt x z then z else x) xs := rfl
    rw [e]
    have ih := maxD_ge xs (if PySem.W.dataLt x z then z else x)
    have key : ∀ y, PySem.W.dataLt (if PySem.W.dataLt x z then z else x) y = false → PySem.W.dataLt (PySem.W.maxD (if PySem.W.dataLt x z then z else x) xs) y = false := by
      intro y hy
      have h1 := ih _ List.mem_cons_self
      cases hc : PySem.W.dataLt (PySem.W.maxD (if PySem.W.dataLt x z then z else x) xs) y with
      | false => rfl
      | true =>
        rcases PyProof.Rows.lex_negTrans _ (PySem.W.keyToks (if PySem.W.dataLt x z then z else x)) _ hc with q | q
        · have h1 : PyProof.Rows.lexLt PyProof.Rows.itemOrd _ _ = false := h1
          rw [h1] at q; cases q
        · have hy : PyProof.Rows.lexLt PyProof.Rows.itemOrd _ _ = false := hy
          rw [hy] at q; cases q
    rcases List.mem_cons.mp h with rfl | h
    · refine key _ ?_
      cases hc : PySem.W.dataLt y z with
      | false => simp; exact PyProof.Rows.lex_irrefl _
      | true =>
        simp
        cases hd : PySem.W.dataLt z y with
        | false => rfl
        | true =>
          have := PyProof.Rows.lex_trans _ _ _ hc hd
          rw [PyProof.Rows.lex_irrefl] at this; cases this
    · rcases List.mem_cons.mp h with rfl | h
      · refine key _ ?_
        cases hc : PySem.W.dataLt x y with
        | false => simpa using hc
        | true => simp; exact PyProof.Rows.lex_irrefl _
      · exact ih y (List.mem_cons_of_mem _ h)
theorem src_char (ks : List Kp) (key : Tx) (time term : Int) : ∀ i, i ≤ ks.length → match (ks.take i).foldl (srcStep (fun k => k) key time term) none with
    | none => ∀ (k : Nat) e, k < i → ks[k]? = some e → kpOk key time term e = false
    | some e => ∃ k : Nat, k < i ∧ ks[k]? = some e ∧ kpOk key time term e = true ∧ ∀ (j : Nat) e', j < i → ks[j]? = some e' → kpOk key time term e' = true → e'.1.length ≤ e.1.length ∧ (j < k → e'.1.length < e.1.length)
  | 0, _ => by simp
  | i + 1, hi => by
    have ih := src_char ks key time term i (by omega)
    have hz : ks[i]? = some ks[i] := List.getElem?_eq_getElem (by omega)
    rw [take_succ_get hz, List.foldl_append, List.foldl_cons, List.foldl_nil]
    generalize ks[i] = z at hz
    cases ho : (ks.take i).foldl (srcStep (fun k => k) key time term) none with
    | none =>
      rw [ho] at ih
      by_cases c : kpOk key time term z = true
      · rw [show srcStep (fun k => k) key time term none z = some z from if_pos ⟨c, fun y hy => by cases hy⟩]
        refine ⟨i, by omega, hz, c, fun j e' hj he' ok' => ?_⟩
        by_cases q : j = i
        · subst q; rw [hz] at he'; cases he'; exact ⟨Nat.le_refl _, fun h => by omega⟩
        · have := ih j e' (by omega) he'; rw [ok'] at this; cases this
      · rw [show srcStep (fun k => k) key time term none z = none from if_neg fun h => c h.1]
        intro k e hk he
        by_cases q : k = i
        · subst q; rw [hz] at he; cases he; simpa using c
        · exact ih k e (by omega) he
    | some f =>
      rw [ho] at ih
      obtain ⟨k, hk, hke, okf, hall⟩ := ih
      by_cases c : kpOk key time term z = true ∧ f.1.length < z.1.length
      · rw [show srcStep (fun k => k) key time term (some f) z = some z from if_pos ⟨c.1, fun y hy => by cases hy; exact c.2⟩]
        refine ⟨i, by omega, hz, c.1, fun j e' hj he' ok' => ?_⟩
        by_cases q : j = i
        · subst q; rw [hz] at he'; cases he'; exact ⟨Nat.le_refl _, fun h => by omega⟩
        · have := (hall j e' (by omega) he' ok').1
          exact ⟨by omega, fun _ => by omega⟩
      · rw [show srcStep (fun k => k) key time term (some f) z = some f from if_neg fun h => c ⟨h.1, h.2 f rfl⟩]
        refine ⟨k, by omega, hke, okf, fun j e' hj he' ok' => ?_⟩
        by_cases q : j = i
        · subst q; rw [hz] at he'; cases he'
          have : ¬ f.1.length < z.1.length := fun h => c ⟨ok', h⟩
          exact ⟨by omega, fun h => by omega⟩
        · exact hall j e' (by omega) he' ok'
theorem mem_mtch {ks : List Kp} {key : Tx} {time term : Int} {i : Nat} {x : Tri} : x ∈ mtch ks key time term i ↔ ∃ (k : Nat) (e : Kp), k < i ∧ ks[k]? = some e ∧ kpOk key time term e = true ∧ x = ((e.1.length : Int), 0 - (k : Int), (k : Int)) := by
  unfold mtch mtc
  rw [List.mem_filterMap]
  constructor
  · rintro ⟨k, hk, h⟩
    rw [Option.bind_eq_some_iff] at h
    obtain ⟨e, he, h⟩ := h
    split at h
    · rename_i ok; cases h; exact ⟨k, e, List.mem_range.mp hk, he, ok, rfl⟩
    · cases h
  · rintro ⟨k, e, hk, he, ok, rfl⟩
    exact ⟨k, List.mem_range.mpr hk, by rw [he]; simp [ok]⟩
theorem src_none {ks : List Kp} {key : Tx} {time term : Int} (h : mtch ks key time term ks.length = []) : srcK ks key time term = none := by
  have := src_char ks key time term ks.length (Nat.le_refl _)
  rw [List.take_length] at this
  unfold srcK srcG
  cases ho : ks.foldl (srcStep (fun k => k) key time term) none with
  | none => rfl
  | some e =>
    rw [ho] at this
    obtain ⟨k, hk, hke, ok, _⟩ := this
    have : ((e.1.length : Int), 0 - (k : Int), (k : Int)) ∈ mtch ks key time term ks.length := mem_mtch.mpr ⟨k, e, hk, hke, ok, rfl⟩
    rw [h] at this; cases this
theorem src_max {ks : List Kp} {key : Tx} {time term : Int} {x : Tri} (hx : x ∈ mtch ks key time term ks.length) (hm : triD x = maxOf ((mtch ks key time term ks.length).map triD)) :
    ∃ (k : Nat) (e : Kp), x.2.2 = (k : Int) ∧ ks[k]? = some e ∧ srcK ks key time term = some e := by
  have ge : ∀ y ∈ mtch ks key time term ks.length, ¬ ([x.1, x.2.1, x.2.2] < [y.1, y.2.1, y.2.2]) := by
    intro y hy
    have h1 : triD y ∈ (mtch ks key time term ks.length).map triD := List.mem_map.mpr ⟨y, hy, rfl⟩
    cases hc : (mtch ks key time term ks.length).map triD with
    | nil => rw [hc] at h1; cases h1
    | cons a r =>
      rw [hc] at h1 hm
      have := maxD_ge r a (triD y) h1
      have hm : triD x = PySem.W.maxD a r := hm
      rw [← hm, tri_lt] at this
      exact of_decide_eq_false this
  obtain ⟨k, e, hk, he, ok, rfl⟩ := mem_mtch.mp hx
  refine ⟨k, e, rfl, he, ?_⟩
  have := src_char ks key time term ks.length (Nat.le_refl _)
  rw [List.take_length] at this
  unfold srcK srcG
  cases ho : ks.foldl (srcStep (fun k => k) key time term) none with
  | none =>
    rw [ho] at this
    have := this k e hk he
    rw [ok] at this; cases this
  | some f =>
    rw [ho] at this
    obtain ⟨k', hk', hke', ok', hall⟩ := this
    have g := ge _ (mem_mtch.mpr ⟨k', f, hk', hke', ok', rfl⟩)
    obtain ⟨l1, l2⟩ := hall k e hk he ok
    have hkk : k = k' := by
      have h1 : ¬ ((e.1.length : Int) < (f.1.length : Int)) := fun h => g (by rw [List.cons_lt_cons_iff]; exact .inl h)
      have h2 : ¬ ((e.1.length : Int) = (f.1.length : Int) ∧ 0 - (k : Int) < 0 - (k' : Int)) := fun h => g (by rw [List.cons_lt_cons_iff]; exact .inr ⟨h.1, by rw [List.cons_lt_cons_iff]; exact .inl h.2⟩)
      have h3 : k' ≤ k := by
        rcases Nat.lt_or_ge k k' with q | q
        · have := l2 q; omega
        · exact q
      omega
    subst hkk
    rw [hke'] at he
    cases he; rfl
theorem tri_alike (xs : List Tri) : PySem.W.AlikeAll (xs.map triD) := by
  refine ⟨fun x hx y hy => ?_, fun x hx => ?_⟩
  · obtain ⟨a, _, rfl⟩ := List.mem_map.mp hx
    obtain ⟨b, _, rfl⟩ := List.mem_map.mp hy
    simp [triD, PySem.W.alike, PySem.W.alikeAll]
  · obtain ⟨a, _, rfl⟩ := List.mem_map.mp hx
    simp [triD]
theorem erase_drop : ∀ {ks : List Kp} {k : Nat} {e : Kp}, (ks.map (·.1)).Nodup → ks[k]? = some e → ks.eraseIdx k = dropK ks e.1
  | [], _, _, _, h => by simp at h
  | a :: ks, 0, e, nd, h => by
    simp at h; subst h
    rw [List.map_cons, List.nodup_cons] at nd
    unfold dropK
    rw [List.eraseIdx_cons_zero, List.filter_cons, if_neg (by simp)]
    refine (List.filter_eq_self.mpr fun x hx => ?_).symm
    have : x.1 ≠ a.1 := fun z => nd.1 (List.mem_map.mpr ⟨x, hx, z⟩)
    simpa using this
  | a :: ks, k + 1, e, nd, h => by
    rw [List.map_cons, List.nodup_cons] at nd
    have h' : ks[k]? = some e := by simpa using h
    have ih := erase_drop nd.2 h'
    unfold dropK at *
    have : a.1 ≠ e.1 := fun z => nd.1 (List.mem_map.mpr ⟨e, List.mem_of_getElem? h', z.symm⟩)
    rw [List.eraseIdx_cons_succ, List.filter_cons, if_pos (by simpa using this), ih]
/-- keys that differ, still -/
theorem nd_drop {ks : List Kp} (key : Tx) (nd : (ks.map (·.1)).Nodup) : ((dropK ks key).map (·.1)).Nodup := nd.sublist ((List.filter_sublist).map _)
theorem nd_snoc {ks : List Kp} {k : Kp} (nd : (ks.map (·.1)).Nodup) : ((dropK ks k.1 ++ [k]).map (·.1)).Nodup := by
  rw [List.map_append, List.nodup_append]
  refine ⟨nd_drop _ nd, by simp, fun a ha b hb => ?_⟩
  obtain ⟨x, hx, rfl⟩ := List.mem_map.mp ha
  have := (List.mem_filter.mp hx).2
  simp at hb this
  rw [hb]; exact this
theorem nd_use {ks : List Kp} (one : Kp) (nd : (ks.map (·.1)).Nodup) : ((useK ks one).map (·.1)).Nodup := nd_snoc nd
theorem nd_put {ks : List Kp} (most : Int) (k : Kp) (nd : (ks.map (·.1)).Nodup) : ((putK most ks k).map (·.1)).Nodup := by
  unfold putK lastN
  exact (nd_snoc nd).sublist ((List.drop_sublist _ _).map _)
theorem len_use {ks : List Kp} {one : Kp} (hm : one ∈ ks) : (useK ks one).length ≤ ks.length := by
  unfold useK dropK
  have : (ks.filter fun o => !decide (o.1 = one.1)).length < ks.length := by
    rw [List.length_filter_lt_length_iff_exists]
    exact ⟨one, hm, by simp⟩
  simp; omega
theorem ok_use {ks : List Kp} {one : Kp} (h : kpsOk ks) (hm : one ∈ ks) : kpsOk (useK ks one) := by
  obtain ⟨h1, h2⟩ := h
  refine ⟨fun k hk => ?_, ?_⟩
  · unfold useK at hk
    rcases List.mem_append.mp hk with q | q
    · exact h1 k (List.mem_filter.mp q).1
    · rw [List.mem_singleton.mp q]; exact h1 one hm
  · exact Nat.le_trans (len_use hm) h2
theorem ok_put {ks : List Kp} {k : Kp} {most : Int} (h : ∀ k ∈ ks, rowsOk k.2.1 ∧ okL 20 k.1 = true) (hk : rowsOk k.2.1 ∧ okL 20 k.1 = true) : ∀ e ∈ putK most ks k, rowsOk e.2.1 ∧ okL 20 e.1 = true := by
  intro e he
  unfold putK lastN at he
  rcases List.mem_append.mp (List.mem_of_mem_drop he) with q | q
  · exact h e (List.mem_filter.mp q).1
  · rw [List.mem_singleton.mp q]; exact hk
theorem len_put {ks : List Kp} {k : Kp} {most : Int} (h : 0 ≤ most) : (putK most ks k).length ≤ most.toNat := by
  unfold putK lastN
  rw [List.length_drop]; omega
def sp__law_rows (K : PySem.W.Frag) : Sp := fun vs H Q _ => ∃ (I : Hp) (a t : Addr) (n m : Nat) (M : List (Addr × HO)), vs = [.ref a, .ref t, .int m] ∧ Dr K I H a t n M ∧ n < 800000 ∧ m ≤ 100 ∧
  ∀ (rows : List Tx) (H' : Hp) (p : Addr), (∀ r ∈ rows, okL 15 r = true ∧ foldL r ≠ []) → rows.Nodup → rows.length ≤ m → Dr K I H' a t (n + 1 + 7 * m) ((p, .lst (rows.map sV)) :: M) → Q (.ref p) H'
def sp__law_get (K : PySem.W.Frag) : Sp := fun vs H Q _ => ∃ (I : Hp) (M : List (Addr × HO)) (l : Addr) (zs : List (V × Kp)) (q : Tx) (n time term : Int), vs = [.ref l, sV q, .int n, .int time, .int term] ∧ W I H ((l, .lst (zs.map Prod.fst)) :: M) ∧ Enc I kpD zs ∧ okL 12 q = true ∧ kpsOk (zs.map Prod.snd) ∧ ((zs.map Prod.snd).map (·.1)).Nodup ∧ 0 ≤ n ∧
  (srcK (zs.map Prod.snd) (foldL q) time term = none → ∀ I' H', Sub I I' → W I' H' ((l, .lst (zs.map Prod.fst)) :: M) → Q .non H') ∧
  (∀ one, srcK (zs.map Prod.snd) (foldL q) time term = some one → ∀ (I' H' : Hp) (zs' : List (V × Kp)) (p : Addr), Sub I I' → W I' H' ((l, .lst (zs'.map Prod.fst)) :: M) → Enc I' kpD zs' → zs'.map Prod.snd = useK (zs.map Prod.snd) one → I' p = some (.lst ((ansR one.2.1 q n).map sV)) → Q (.ref p) H')
def t__law_rows (K : PySem.W.Frag) (E : XK) : TS := tSeq (tAsg (tLst (tNil)) (gName 3)) (tSeq (fForR1 (tCons (tCall (sp__law_draw K) [] E (tCons (tVar 0) (tCons (tVar 1) (tCons (tOp (rI0 fun i j => .int (i + j)) (tVar 2) (tC (.int 1))) (tNil))))) (tNil)) (gName 4) (tSeq (tAsg (tCall (sp__law_row K) [] E (tCons (tVar 0) (tCons (tVar 1) (tNil)))) (gName 5)) (tIfS (tAnd (tTest (tOp (gInL true) (tVar 5) (tVar 3))) (tTest (tOp (rNe) (tCall (sp__law_folded K) [] E (tCons (tVar 5) (tNil))) (tC (.str ""))))) (tDrop (fBM "list" rAppend (tVar 3) (tCons (tVar 5) (tNil)))) (tNext)))) (tRet (tVar 3)))
abbrev nn__law_rows : List Str := ["script", "town", "most", "found", "k", "row"]
def t__law_get (K : PySem.W.Frag) (E : XK) : TS := tSeq (tAsg (tCall (sp__law_folded K) [] E (tCons (tVar 1) (tNil))) (gName 5)) (tSeq (tAsg (tLst (tNil)) (gName 6)) (tSeq (fForR1 (tCons (tCB (gLenL) (tCons (tVar 0) (tNil))) (tNil)) (gName 7) (tSeq (tAsg (tOp gIxL (tVar 0) (tVar 7)) (fTup 4 (gCons (gName 8) (gCons (gName 9) (gCons (gName 10) (gCons (gName 11) (gNil))))))) (tIfS (tAnd (tTest (tOp (rI0 fun i j => .bl (decide (i < j))) (tOp (rI0 fun i j => .int (i - j)) (tVar 3) (tVar 11)) (tVar 4))) (tOr (tTest (tOp (rEq) (tVar 8) (tVar 5))) (tAnd (tB (tVar 10)) (tTest (tOp (rI0 fun i j => .bl (decide (j ≤ i))) (fBM "str" gFind (tVar 5) (tCons (tVar 8) (tNil))) (tC (.int 0))))))) (tDrop (fBM "list" rAppend (tVar 6) (tCons (tTup (tCons (tCB (gLenS) (tCons (tVar 8) (tNil))) (tCons (tOp (rI0 fun i j => .int (i - j)) (tC (.int 0)) (tVar 7)) (tCons (tVar 7) (tNil))))) (tNil)))) (tNext)))) (tSeq (tIfS (tTest (tOp (gEqD) (tVar 6) (tLst (tNil)))) (tRet (tC .non)) (tNext)) (tSeq (tAsg (fBM "list" gPopAt (tVar 0) (tCons (tOp gIxT (tCB (gMaxD) (tCons (tVar 6) (tNil))) (tC (.int 2))) (tNil))) (gName 12)) (tSeq (tDrop (fBM "list" rAppend (tVar 0) (tCons (tVar 12) (tNil)))) (tRet (tCall (sp__law_best K) [] E (tCons (tOp gIxT (tVar 12) (tC (.int 1))) (tCons (tVar 1) (tCons (tVar 2) (tNil)))))))))))
abbrev nn__law_get : List Str := ["kept", "query", "many", "time", "term", "key", "some", "k", "name", "rows", "is_all", "when", "used"]
section
variable {K : PySem.W.Frag}
theorem len__law_rows : ∀ vs H Q E, sp__law_rows K vs H Q E → vs.length = ["script", "town", "most"].length := by
  rintro _ _ _ _ ⟨_, _, _, _, _, _, rfl, _⟩; rfl
theorem len__law_get : ∀ vs H Q E, sp__law_get K vs H Q E → vs.length = ["kept", "query", "many", "time", "term"].length := by
  rintro _ _ _ _ ⟨_, _, _, _, _, _, _, _, rfl, _⟩; rfl
structure PRows (K : PySem.W.Frag) (I : Hp) (a t p : Addr) (n m : Nat) (M : List (Addr × HO)) (i : Nat) (σ : L2.St) (H : Hp) : Prop where
  ex : ∃ (rows : List Tx) (r4 r5 : Option V), σ = [some (.ref a), some (.ref t), some (.int m), some (.ref p), r4, r5] ∧ (∀ r ∈ rows, okL 15 r = true ∧ foldL r ≠ []) ∧ rows.Nodup ∧ rows.length ≤ i ∧ Dr K I H a t (n + 1 + 7 * i) ((p, .lst (rows.map sV)) :: M)
theorem pure__law_rows : ∀ vs H Q E, sp__law_rows K vs H Q E → t__law_rows K E { nx := fun _ H2 => Q .non H2, rt := Q } (L2.start nn__law_rows vs) H := by
  rintro vs H Q E ⟨I, a, t, n, m, M, rfl, d, hn, hm, hQ⟩
  have hb := line_big
  unfold t__law_rows
  simp! [and_true]
  refine ⟨Nat.zero_le _, fun p hp => ?_⟩
  have d1 := d.newM (o := .lst []) hp
  refine ⟨I, a, t, n, _, _, rfl, d1, by omega, by omega, fun j H2 j0 j1 d2 => ?_⟩
  refine ⟨_, rfl, by omega, by omega, PRows K I a t p n m M, ⟨[], _, _, rfl, by simp, List.nodup_nil, by simp, d2.le (by omega)⟩, ?_, ?_⟩
  · rintro i σ H3 hi ⟨rows, r4, r5, rfl, ro, nd, rl, d3⟩
    simp! [and_true]
    refine ⟨I, a, t, _, _, rfl, d3, by omega, fun r H4 okr d4 => ?_⟩
    have hp4 := d4.has.1
    simp! [gInL, hp4, txs_flat, in_tx]
    refine ⟨rfl, ?_⟩
    by_cases c : r ∈ rows
    · exact ite_nt c ⟨rows, _, _, rfl, ro, nd, by omega, d4.le (by omega)⟩
    refine ite_nf c ⟨r, rfl, by have := okL_len okr; omega, okL_all okr, fun H5 s5 => ?_⟩
    have d5 := d4.same s5
    have hp5 := d5.has.1
    simp! [lit_e, S_eq, hp5]
    by_cases c2 : foldL r = []
    · exact ite_nt c2 ⟨rows, _, _, rfl, ro, nd, by omega, d5.le (by omega)⟩
    refine ite_nf c2 ⟨by simp; omega, ?_⟩
    refine ⟨rows ++ [r], _, _, rfl, fun x hx => ?_, ?_, by simp; omega, ?_⟩
    · rcases List.mem_append.mp hx with q | q
      · exact ro x q
      · rw [List.mem_singleton.mp q]; exact ⟨okr, c2⟩
    · rw [List.nodup_append]
      exact ⟨nd, by simp, fun a ha b hb => by rw [List.mem_singleton.mp hb]; exact fun e => c (e ▸ ha)⟩
    · rw [List.map_append]
      exact (d5.put (o' := .lst (rows.map sV ++ [r].map sV))).le (by omega)
  · rintro σ H3 ⟨rows, r4, r5, rfl, ro, nd, rl, d3⟩
    simp! [and_true]
    exact hQ rows H3 p ro nd (by omega) (d3.le (by omega))
structure PGet (I : Hp) (l ps : Addr) (M : List (Addr × HO)) (zs : List (V × Kp)) (q : Tx) (n time term : Int) (i : Nat) (σ : L2.St) (H : Hp) : Prop where
  ex : ∃ (I' : Hp) (ts : List (V × Tri)) (rest : List (Option V)), σ = some (.ref l) :: some (sV q) :: some (.int n) :: some (.int time) :: some (.int term) :: some (sV (foldL q)) :: some (.ref ps) :: rest ∧ rest.length = 6 ∧ Sub I I' ∧
    W I' H ((ps, .lst (ts.map Prod.fst)) :: (l, .lst (zs.map Prod.fst)) :: M) ∧ Enc I' triD ts ∧ ts.map Prod.snd = mtch (zs.map Prod.snd) (foldL q) time term i
theorem er_map {α β : Type} (f : α → β) : ∀ (l : List α) (k : Nat), (l.map f).eraseIdx k = (l.eraseIdx k).map f
  | [], _ => by simp
  | a :: l, 0 => by simp
  | a :: l, k + 1 => by simp [er_map f l k]
theorem at3_2 {a b c : V} : atI [a, b, c] 2 = some c := atN (i := 2) rfl
theorem pure__law_get : ∀ vs H Q E, sp__law_get K vs H Q E → t__law_get K E { nx := fun _ H2 => Q .non H2, rt := Q } (L2.start nn__law_get vs) H := by
  rintro vs H Q E ⟨I, M, l, zs, q, n, time, term, rfl, w, en, okq, ⟨ko, kl⟩, nd, n0, hno, hyes⟩
  have hb := line_big
  have lq := okL_len okq
  rw [List.length_map] at kl
  unfold t__law_get
  simp! [and_true]
  refine ⟨q, rfl, by omega, okL_all okq, fun H1 s1 => ⟨Nat.zero_le _, fun ps hps => ?_⟩⟩
  have w1 := (w.same s1).newM (o := .lst []) hps
  have hl1 := w1.has.2.1
  simp! [hl1, List.length_map]
  refine ⟨by omega, by omega, PGet I l ps M zs q n time term, ⟨I, [], _, rfl, rfl, Sub.refl _, w1, Enc.nil, rfl⟩, ?_, ?_⟩
  · rintro i σ H2 hi ⟨I2, ts, rest, rfl, hr, s2, w2, en2, es2⟩
    match rest, hr with
    | [r7, r8, r9, r10, r11, r12], _ =>
    have hi : i < zs.length := by omega
    have hz : zs[i]? = some zs[i] := List.getElem?_eq_getElem hi
    have hin : zs[i] ∈ zs := List.getElem_mem hi
    have hl2 := w2.has.2.1
    generalize zs[i] = z at hz hin
    obtain ⟨t, l2, e1, e2⟩ := keep_turn en s2 w2 hin
    have okz := ko z.2 (List.mem_map.mpr ⟨z, hin, rfl⟩)
    have lz := okL_len okz.2
    have hat : atI (zs.map Prod.fst) (i : Int) = some (.ref t) := by rw [← e1]; exact atN (by rw [List.getElem?_map, hz]; rfl)
    have hps2 := w2.has.1
    have hts : ts.length ≤ i := by
      have := congrArg List.length es2
      rw [List.length_map] at this
      rw [this]; unfold mtch
      exact Nat.le_trans (List.length_filterMap_le _ _) (by simp)
    have em : mtch (zs.map Prod.snd) (foldL q) time term (i + 1) = ts.map Prod.snd ++ (mtc (zs.map Prod.snd) (foldL q) time term i).toList := by
      unfold mtch at *
      rw [List.range_succ, List.filterMap_append, es2]
      cases h : mtc (zs.map Prod.snd) (foldL q) time term i <;> simp [h]
    have hmt : mtc (zs.map Prod.snd) (foldL q) time term i = if kpOk (foldL q) time term z.2 = true then some ((z.2.1.length : Int), 0 - (i : Int), (i : Int)) else none := by
      unfold mtc; rw [List.getElem?_map, hz]; rfl
    have no : kpOk (foldL q) time term z.2 = false → ∀ rest', rest'.length = 6 → PGet I l ps M zs q n time term (i + 1) (some (.ref l) :: some (sV q) :: some (.int n) :: some (.int time) :: some (.int term) :: some (sV (foldL q)) :: some (.ref ps) :: rest') H2 := fun h rest' hr' =>
      ⟨I2, ts, rest', rfl, hr', s2, w2, en2, by rw [em, hmt, h]; simp⟩
    simp! [Int.zero_add, hl2, hat, e2, S_eq, gFind, hps2, S_len]
    have yes : kpOk (foldL q) time term z.2 = true → z.2.1.length ≤ sizeLine ∧ 3 ≤ sizeLine ∧ ∀ (p : Addr), H2 p = none → (∃ x, upd H2 p (.tup [.int (z.2.1.length : Int), .int (0 - (i : Int)), .int (i : Int)]) ps = some (.lst x) ∧ x.length < sizeLine ∧
        PGet I l ps M zs q n time term (i + 1) [some (.ref l), some (sV q), some (.int n), some (.int time), some (.int term), some (sV (foldL q)), some (.ref ps), some (.int i), some (sV z.2.1), some (.ref l2), some (.bl z.2.2.2.1), some (.int z.2.2.2.2), r12] (upd (upd H2 p (.tup [.int (z.2.1.length : Int), .int (0 - (i : Int)), .int (i : Int)])) ps (.lst (x ++ [.ref p])))) := by
      intro h
      refine ⟨by omega, three_le, fun p hp => ?_⟩
      obtain ⟨I3, s3, w3, h3⟩ := w2.mkI hp (.tup [.int (z.2.1.length : Int), .int (0 - (i : Int)), .int (i : Int)])
      refine ⟨_, w3.has.1, by rw [List.length_map]; omega, ?_⟩
      refine ⟨I3, ts ++ [(.ref p, ((z.2.1.length : Int), 0 - (i : Int), (i : Int)))], _, rfl, rfl, s2.trans s3, ?_, (en2.mono s3).snoc (.tup h3 (.cons (.int _) (.cons (.int _) (.cons (.int _) .nil)))), by rw [em, hmt, h]; simp⟩
      have := w3.put (o' := .lst ((ts ++ [((.ref p : V), (((z.2.1.length : Int), 0 - (i : Int), (i : Int)) : Tri))]).map Prod.fst))
      simpa using this
    unfold kpOk at yes no
    by_cases c1 : time - z.2.2.2.2 < term
    · refine ite_t c1 ?_
      by_cases c2 : z.2.1 = foldL q
      · exact ite_t c2 (yes (by simp [c1, c2]))
      · refine ite_f c2 ?_
        by_cases c3 : z.2.2.2.1 = true
        · rw [if_pos c3]
          by_cases c4 : hasL z.2.1 (foldL q) = true
          · exact ite_t ((find_S _ _).mpr c4) (yes (by simp [c1, c3, c4]))
          · exact ite_f (fun h => c4 ((find_S _ _).mp h)) (no (by simp [c2, c4]) _ rfl)
        · rw [if_neg c3]; exact no (by simp [c2, c3]) _ rfl
    · exact ite_f c1 (no (by simp [c1]) _ rfl)
  · rintro σ H2 ⟨I2, ts, rest, rfl, hr, s2, w2, en2, es2⟩
    match rest, hr with
    | [r7, r8, r9, r10, r11, r12], _ =>
    simp! [and_true]
    refine ⟨Nat.zero_le _, fun p hp => ?_⟩
    obtain ⟨I3, s3, w3, h3⟩ := w2.mkI hp (.lst [])
    have es2 : ts.map Prod.snd = mtch (zs.map Prod.snd) (foldL q) time term (zs.map Prod.snd).length := by rw [es2, List.length_map]; rfl
    refine eqD_nil w3.has.1 ((en2.mono s3).mono w3.sub).all (w3.sub _ _ h3) ?_
    cases hts : ts with
    | nil =>
      subst hts
      simp! [List.isEmpty_nil]
      exact hno (src_none es2.symm) I3 _ (s2.trans s3) w3.drop
    | cons t0 ts' =>
      have hne : ts ≠ [] := by rw [hts]; simp
      simp! [List.isEmpty_cons, w3.has.2.1]
      clear hts t0 ts'
      refine ⟨ps, ts.map fun t => (t.1, triD t.2), rfl, by simpa using hne, by rw [List.map_map]; exact w3.has.1, ?_, ?_, ?_, ?_⟩
      · rw [List.map_map, List.map_map]; exact ((en2.mono s3).mono w3.sub).all
      · rw [List.map_map]
        have := tri_alike (ts.map Prod.snd)
        rw [List.map_map] at this
        exact this
      · intro z hz
        obtain ⟨y, _, rfl⟩ := List.mem_map.mp hz
        simp [triD, PyData.depth, PyData.depthAll]
      · intro z hz hmx
        obtain ⟨y, hy, rfl⟩ := List.mem_map.mp hz
        have hyt : y.2 ∈ mtch (zs.map Prod.snd) (foldL q) time term (zs.map Prod.snd).length := by rw [← es2]; exact List.mem_map.mpr ⟨y, hy, rfl⟩
        have hmx : triD y.2 = maxOf ((mtch (zs.map Prod.snd) (foldL q) time term (zs.map Prod.snd).length).map triD) := by
          rw [← es2, List.map_map]
          rw [List.map_map] at hmx
          exact hmx
        obtain ⟨k, e, hk1, hk2, hsrc⟩ := src_max hyt hmx
        rw [List.getElem?_map, Option.map_eq_some_iff] at hk2
        obtain ⟨z, hzk, rfl⟩ := hk2
        have ry := (en2 y hy).mono s3
        obtain ⟨v, a1, a2, a3⟩ := y
        have hk1 : a3 = (k : Int) := hk1
        subst hk1
        cases ry with
        | tup y1 y2 =>
          cases y2 with
          | cons b1 y2 =>
            cases y2 with
            | cons b2 y2 =>
              cases y2 with
              | cons b3 y2 =>
                cases y2; cases b1; cases b2; cases b3
                have y1' := w3.sub _ _ y1
                have hinz := List.mem_of_getElem? hzk
                obtain ⟨t, l2, e1, e2, e3⟩ := rp_kp ((en z hinz).mono (s2.trans s3))
                refine ⟨_, rfl, _, y1', _, at3_2, l, zs.map Prod.fst, k, .ref t, rfl, rfl, w3.has.2.1, by rw [List.length_map]; omega, by rw [List.getElem?_map, hzk, ← e1]; rfl, ?_⟩
                have w4 := w3.swap.put (o' := .lst ((zs.map Prod.fst).eraseIdx k))
                generalize hys : zs.eraseIdx k ++ [z] = ys
                have e6 : (zs.map Prod.fst).eraseIdx k ++ [V.ref t] = ys.map Prod.fst := by rw [← hys, ← e1, er_map]; simp
                have es6 : ys.map Prod.snd = useK (zs.map Prod.snd) z.2 := by
                  rw [← hys]; unfold useK
                  rw [List.map_append, ← er_map, erase_drop nd (by rw [List.getElem?_map, hzk]; rfl)]; rfl
                have en6 : Enc I3 kpD ys := by
                  rw [← hys]
                  exact ((en.mono (s2.trans s3)).sub fun z hz => List.mem_of_mem_eraseIdx hz).snoc ((en z hinz).mono (s2.trans s3))
                refine ⟨.inl ⟨_, w4.has.1⟩, _, w4.has.1, by have := List.length_eraseIdx_le (zs.map Prod.fst) k; rw [List.length_map] at this; omega, ?_⟩
                rw [e6]
                have w5 := w4.put (o' := .lst (ys.map Prod.fst))
                refine ⟨t, rfl, _, w5.sub _ _ e2, _, at4_1, ?_⟩
                have okz := ko z.2 (List.mem_map.mpr ⟨z, hinz, rfl⟩)
                refine ⟨I3, _, l2, z.2.2.1, q, n, rfl, w5, Ls.i e3, okz.1, okq, n0, fun I8 H8 p8 s8 w8 h8 => ?_⟩
                exact hyes z.2 hsrc I8 H8 ys p8 (s2.trans (s3.trans s8)) (w8.swap.drop) (en6.mono s8) es6 h8
end
end TA

set_option linter.all false
set_option maxRecDepth 100000
set_option maxHeartbeats 1000000
/-! What is told from less. Plain. -/
namespace TA
open PySem L2 PyProof.Rows
open SX (S S_len S_inj S_cat S_tl)
/-! ### folded texts -/
def clean : Bool → Tx → Bool
  | _, [] => true
  | b, c :: l => decide (lo1 c = c) && (if c = 32 then !b && clean true l else clean false l)
def endB (acc : Tx) : Bool := decide (acc = [] ∨ acc.getLast? = some 32)
theorem endB_snoc (acc : Tx) (c : Nat) : endB (acc ++ [c]) = decide (c = 32) := by
  unfold endB; simp
theorem lo1_idem (c : Nat) : lo1 (lo1 c) = lo1 c := by unfold lo1; split <;> simp <;> omega
theorem step_clean (acc : Tx) (c : Nat) : ∃ m, stepL acc c = acc ++ m ∧ clean (endB acc) m = true := by
  unfold stepL
  by_cases h : c = 32
  · rw [if_neg (by simpa using h)]
    by_cases h2 : acc ≠ [] ∧ acc.getLast? ≠ some 32
    · rw [if_pos h2]
      refine ⟨[32], rfl, ?_⟩
      have : endB acc = false := by unfold endB; exact decide_eq_false fun q => q.elim h2.1 h2.2
      rw [this]; decide
    · rw [if_neg h2]; exact ⟨[], by simp, rfl⟩
  · rw [if_pos h]
    refine ⟨[lo1 c], rfl, ?_⟩
    unfold clean clean
    rw [if_neg (fun q => h (lo1_32.mp q))]
    simp [lo1_idem]
theorem clean_app : ∀ {b : Bool} {m k : Tx}, clean b m = true → clean (if m = [] then b else endB m) k = true → clean b (m ++ k) = true
  | b, [], k, _, h2 => by simpa using h2
  | b, c :: m, k, h1, h2 => by
    rw [if_neg (by simp)] at h2
    rw [List.cons_append]
    unfold clean at h1 ⊢
    rw [Bool.and_eq_true] at h1 ⊢
    refine ⟨h1.1, ?_⟩
    have h1 := h1.2
    have e : ∀ d, (if m = [] then decide (c = 32) else endB m) = d → endB (c :: m) = d := by
      intro d hd
      rw [← hd]
      by_cases q : m = []
      · subst q; simp [endB]
      · rw [if_neg q]; unfold endB; rw [last_cons q]; simp [q]
    split at h1
    · rename_i hc
      rw [Bool.and_eq_true] at h1
      rw [if_pos hc, Bool.and_eq_true]
      exact ⟨h1.1, clean_app h1.2 (by rw [e _ rfl] at h2; simpa [hc] using h2)⟩
    · rename_i hc
      rw [if_neg hc]
      exact clean_app h1 (by rw [e _ rfl] at h2; simpa [hc] using h2)
theorem endB_app {acc m : Tx} (h : m ≠ []) : endB (acc ++ m) = endB m := by
  unfold endB; rw [last_app h]; simp [h]
theorem foldl_clean : ∀ (l acc : Tx), ∃ m, l.foldl stepL acc = acc ++ m ∧ clean (endB acc) m = true
  | [], acc => ⟨[], by simp, rfl⟩
  | c :: l, acc => by
    obtain ⟨m1, e1, c1⟩ := step_clean acc c
    obtain ⟨m2, e2, c2⟩ := foldl_clean l (stepL acc c)
    refine ⟨m1 ++ m2, by rw [List.foldl_cons, e2, e1, List.append_assoc], clean_app c1 ?_⟩
    rw [e1] at c2
    by_cases q : m1 = []
    · rw [if_pos q]; rw [q, List.append_nil] at c2; exact c2
    · rw [if_neg q]; rw [endB_app q] at c2; exact c2
theorem clean_pre : ∀ {b : Bool} {m k : Tx}, clean b (m ++ k) = true → clean b m = true
  | b, [], k, _ => by cases b <;> rfl
  | b, c :: m, k, h => by
    rw [List.cons_append] at h
    unfold clean at h ⊢
    rw [Bool.and_eq_true] at h ⊢
    refine ⟨h.1, ?_⟩
    have h := h.2
    split at h
    · rename_i hc
      rw [Bool.and_eq_true] at h
      rw [if_pos hc, Bool.and_eq_true]
      exact ⟨h.1, clean_pre h.2⟩
    · rename_i hc
      rw [if_neg hc]; exact clean_pre h
theorem fold_clean (l : Tx) : clean true (foldL l) = true := by
  rw [← fold_eq]
  obtain ⟨m, e, c⟩ := foldl_clean l []
  rw [e]
  rw [show endB [] = true by decide] at c
  unfold finL
  split
  · rename_i h
    have hm : m ≠ [] := fun q => by rw [q] at h; simp at h
    rw [List.nil_append]
    have : m = m.dropLast ++ [m.getLast hm] := (List.dropLast_concat_getLast hm).symm
    rw [this] at c
    exact clean_pre c
  · exact c
theorem clean_weak : ∀ {m : Tx}, clean true m = true → clean false m = true
  | [], _ => rfl
  | c :: m, h => by
    unfold clean at h ⊢
    rw [Bool.and_eq_true] at h ⊢
    refine ⟨h.1, ?_⟩
    have h := h.2
    split at h
    · simp at h
    · rename_i hc; rw [if_neg hc]; exact h
theorem clean_foldl : ∀ (m acc : Tx), clean (endB acc) m = true → m.foldl stepL acc = acc ++ m
  | [], acc, _ => by simp
  | c :: m, acc, h => by
    unfold clean at h
    rw [Bool.and_eq_true] at h
    have h1 := of_decide_eq_true h.1
    have h := h.2
    have e : stepL acc c = acc ++ [c] := by
      unfold stepL
      split at h
      · rename_i hc
        rw [Bool.and_eq_true] at h
        rw [if_neg (by simpa using hc), if_pos, hc]
        have := h.1
        unfold endB at this
        simp at this
        exact ⟨this.1, this.2⟩
      · rename_i hc
        rw [if_pos hc, h1]
    rw [List.foldl_cons, e, clean_foldl m (acc ++ [c]), List.append_assoc]
    · rfl
    · rw [endB_snoc]
      split at h
      · rename_i hc; rw [Bool.and_eq_true] at h; rw [decide_eq_true hc]; exact h.2
      · rename_i hc; rw [decide_eq_false hc]; exact h
theorem spl_free' : ∀ (l acc : Tx), 32 ∉ acc → ∀ p ∈ TL.spl [32] 0 acc l, 32 ∉ p
  | [], acc, h, p, hp => by rw [TL.spl_nil] at hp; rw [List.mem_singleton.mp hp]; exact h
  | c :: l, acc, h, p, hp => by
    by_cases hc : c = 32
    · rw [TL.spl_hit (by rw [pre1]; simpa using hc)] at hp
      rcases List.mem_cons.mp hp with q | q
      · rw [q]; exact h
      · exact spl_free' l [] (by simp) p q
    · rw [TL.spl_miss (by rw [pre1]; simpa using hc)] at hp
      refine spl_free' l (acc ++ [c]) ?_ p hp
      simp only [List.mem_append, List.mem_singleton, not_or]
      exact ⟨h, fun z => hc z.symm⟩
theorem fold_last (l : Tx) : (foldL l).getLast? ≠ some 32 := by
  unfold foldL
  have hw : ∀ p ∈ (TL.spl [32] 0 [] (l.map lo1)).filter nonE, 32 ∉ p ∧ p ≠ [] := fun p hp => by
    obtain ⟨h1, h2⟩ := List.mem_filter.mp hp
    refine ⟨spl_free' _ [] (by simp) p h1, fun q => ?_⟩
    subst q; simp [nonE] at h2
  generalize (TL.spl [32] 0 [] (l.map lo1)).filter nonE = ws at hw
  cases h : ws.getLast? with
  | none => rw [List.getLast?_eq_none_iff.mp h]; simp [TL.joinL]
  | some w =>
    obtain ⟨ys, rfl⟩ := List.getLast?_eq_some_iff.mp h
    obtain ⟨h1, h2⟩ := hw w (by simp)
    rw [joinL_last w h2]
    exact fun q => h1 (List.mem_of_getLast? q)
theorem fold_of_clean {m : Tx} (h : clean true m = true) (hl : m.getLast? ≠ some 32) : foldL m = m := by
  rw [← fold_eq, clean_foldl m [] h, List.nil_append]
  unfold finL
  rw [if_neg hl]
theorem fold_idem (l : Tx) : foldL (foldL l) = foldL l := fold_of_clean (fold_clean l) (fold_last l)
theorem fold_longer (l : Tx) : foldL ([97, 98] ++ foldL l ++ [99]) = [97, 98] ++ foldL l ++ [99] := by
  refine fold_of_clean ?_ (by rw [last_app (by simp)]; simp)
  refine clean_app (m := [97, 98] ++ foldL l) (clean_app (m := [97, 98]) (by decide) ?_) ?_
  · rw [if_neg (by simp), show endB [97, 98] = false by decide]
    exact clean_weak (fold_clean l)
  · rw [if_neg (by simp)]
    cases endB ([97, 98] ++ foldL l) <;> decide
/-! ### who fits -/
theorem has_iff' {w m : Tx} : hasL w m = true ↔ ∃ a b, m = a ++ w ++ b := by
  rw [has_iff]
  constructor
  · rintro ⟨k, hk⟩
    obtain ⟨h1, h2⟩ := mem_spots.mp hk
    obtain ⟨r, hr⟩ := pre_iff.mp h2
    exact ⟨m.take k, r, by rw [List.append_assoc, ← hr, List.take_append_drop]⟩
  · rintro ⟨a, b, rfl⟩
    refine ⟨a.length, mem_spots.mpr ⟨by simp, pre_iff.mpr ⟨b, ?_⟩⟩⟩
    rw [List.append_assoc, List.drop_left]
theorem has_trans {a b c : Tx} (h1 : hasL a b = true) (h2 : hasL b c = true) : hasL a c = true := by
  obtain ⟨x, y, rfl⟩ := has_iff'.mp h1
  obtain ⟨z, u, rfl⟩ := has_iff'.mp h2
  exact has_iff'.mpr ⟨z ++ x, y ++ u, by simp⟩
theorem rank_some {r q : Tx} : (rankL r q).isSome = hasL (foldL q) (foldL r) := by
  unfold rankL rankM
  by_cases h : hasL (foldL q) (foldL r) = true
  · rw [h]
    repeat' split
    all_goals first | rfl | simp_all
  · have h1 : ¬ foldL r = foldL q := fun e => h (has_iff'.mpr ⟨[], [], by simp [e]⟩)
    have h2 : ¬ TL.pre (foldL q) (foldL r) = true := fun e => by
      obtain ⟨b, hb⟩ := pre_iff.mp e
      exact h (has_iff'.mpr ⟨[], b, by simp [hb]⟩)
    have h3 : ¬ hasL (32 :: foldL q) (foldL r) = true := fun e => by
      obtain ⟨a, b, hb⟩ := has_iff'.mp e
      exact h (has_iff'.mpr ⟨a ++ [32], b, by rw [hb]; simp⟩)
    rw [if_neg h1, if_neg h2, if_neg h3, if_neg h]
    simpa using h
theorem fit_congr {q q' : Tx} (h : foldL q = foldL q') : fitOf q = fitOf q' := by
  funext r; unfold fitOf rankL; rw [h]
theorem best_congr {q q' : Tx} (rows : List Tx) (h : foldL q = foldL q') : bestL rows q = bestL rows q' := by
  unfold bestL; rw [fit_congr h]
theorem fit_back {q : Tx} {x : Fit} {rows : List Tx} (h : x ∈ rows.filterMap (fitOf q)) : fitOf q x.2.2 = some x := by
  obtain ⟨r, hr, e⟩ := List.mem_filterMap.mp h
  unfold fitOf at e ⊢
  obtain ⟨k, hk, rfl⟩ := Option.map_eq_some_iff.mp e
  rw [hk]; rfl
theorem fm_back {q : Tx} : ∀ {xs : List Fit}, (∀ x ∈ xs, fitOf q x.2.2 = some x) → (xs.map (·.2.2)).filterMap (fitOf q) = xs
  | [], _ => rfl
  | x :: xs, h => by
    rw [List.map_cons, List.filterMap_cons, h x List.mem_cons_self, fm_back fun y hy => h y (List.mem_cons_of_mem _ hy)]
/-- the first m of the best are the best of themselves -/
theorem best_take (rows : List Tx) (q : Tx) (m : Nat) : bestL ((bestL rows q).take m) q = (bestL rows q).take m := by
  have h1 : ((bestL rows q).take m).filterMap (fitOf q) = (sortE fitD (rows.filterMap (fitOf q))).take m := by
    unfold bestL
    rw [← List.map_take]
    exact fm_back fun x hx => fit_back (sortE_mem.mp (List.mem_of_mem_take hx))
  have e : ∀ X, bestL X q = (sortE fitD (X.filterMap (fitOf q))).map (·.2.2) := fun _ => rfl
  rw [e ((bestL rows q).take m), h1, sortE_id ((sortE_sorted _).sublist (List.take_sublist _ _)), List.map_take]
  rfl
theorem best_filter (q' : Tx) : ∀ rows : List Tx, (rows.filterMap (fitOf q')).map (·.2.2) = rows.filter fun r => (rankL r q').isSome
  | [] => rfl
  | r :: rows => by
    have ih := best_filter q' rows
    rw [List.filterMap_cons, List.filter_cons]
    unfold fitOf at ih ⊢
    cases hk : rankL r q' <;> simp <;> simpa using ih
theorem fm_less {q q' : Tx} (h : hasL (foldL q') (foldL q) = true) : ∀ rows : List Tx, (rows.filter fun r => (rankL r q').isSome).filterMap (fitOf q) = rows.filterMap (fitOf q)
  | [] => rfl
  | r :: rows => by
    have ih' := fm_less h rows
    rw [List.filter_cons]
    by_cases c : (rankL r q').isSome = true
    · rw [if_pos c, List.filterMap_cons, List.filterMap_cons, ih']
    · rw [if_neg c, List.filterMap_cons, ih']
      have : fitOf q r = none := by
        unfold fitOf
        cases hk : rankL r q with
        | none => rfl
        | some k =>
          exfalso
          apply c
          rw [rank_some]
          have h2 : (rankL r q).isSome = true := by rw [hk]; rfl
          rw [rank_some] at h2
          exact has_trans h h2
      rw [this]
/-- the best of all that fit less are the best -/
theorem best_less (rows : List Tx) {q q' : Tx} (h : hasL (foldL q') (foldL q) = true) : bestL (bestL rows q') q = bestL rows q := by
  have p1 : (bestL rows q').Perm (rows.filter fun r => (rankL r q').isSome) := by
    rw [← best_filter]
    exact (List.mergeSort_perm _ _).map _
  rw [best_perm q p1]
  have e : ∀ X, bestL X q = (sortE fitD (X.filterMap (fitOf q))).map (·.2.2) := fun _ => rfl
  rw [e, fm_less h, e]
/-- a kept answer that is the store's -/
def Faith (rows : List Tx) (n : Int) (k : Kp) : Prop := ∃ q, okL 12 q = true ∧ k.1 = foldL q ∧ k.2.1 = ansR rows q n ∧ k.2.2.1 = ansA rows q n
theorem told_less {rows : List Tx} {n : Int} {k : Kp} {q : Tx} {time term : Int} (n0 : 0 ≤ n) (f : Faith rows n k) (h : kpOk (foldL q) time term k = true) : ansR k.2.1 q n = ansR rows q n := by
  obtain ⟨q', _, h1, h2, h3⟩ := f
  unfold kpOk at h
  rw [Bool.and_eq_true, Bool.or_eq_true] at h
  rcases h.2 with c | c
  · have e : foldL q' = foldL q := by rw [← h1]; exact of_decide_eq_true c
    rw [h2]; unfold ansR
    rw [best_congr rows e, best_take, List.take_take, Nat.min_self]
  · rw [Bool.and_eq_true, h3, h1] at c
    have hl : (bestL rows q').length ≤ n.toNat := by
      have := of_decide_eq_true c.1; omega
    rw [h2]; unfold ansR
    rw [List.take_of_length_le hl, best_less rows c.2]
theorem src_ok {ks : List Kp} {key : Tx} {time term : Int} {one : Kp} (h : srcK ks key time term = some one) : kpOk key time term one = true := by
  have := src_char ks key time term ks.length (Nat.le_refl _)
  rw [List.take_length] at this
  unfold srcK srcG at h
  rw [h] at this
  obtain ⟨_, _, _, ok, _⟩ := this
  exact ok
theorem src_none_iff {ks : List Kp} {key : Tx} {time term : Int} : srcK ks key time term = none ↔ ∀ k ∈ ks, kpOk key time term k = false := by
  constructor
  · intro h k hk
    obtain ⟨i, hi, e⟩ := List.mem_iff_getElem.mp hk
    have := src_char ks key time term ks.length (Nat.le_refl _)
    rw [List.take_length] at this
    unfold srcK srcG at h
    rw [h] at this
    exact this i k hi (by rw [List.getElem?_eq_getElem hi, e])
  · intro h
    cases hs : srcK ks key time term with
    | none => rfl
    | some one => have := src_ok hs; rw [h one (src_mem hs)] at this; cases this
theorem told_get {rows : List Tx} {n : Int} {ks : List Kp} {q : Tx} {time term : Int} {one : Kp} (n0 : 0 ≤ n) (f : ∀ k ∈ ks, Faith rows n k) (h : srcK ks (foldL q) time term = some one) : ansR one.2.1 q n = ansR rows q n :=
  told_less n0 (f one (src_mem h)) (src_ok h)
theorem faith_use {rows : List Tx} {n : Int} {ks : List Kp} {one : Kp} (f : ∀ k ∈ ks, Faith rows n k) (h : one ∈ ks) : ∀ k ∈ useK ks one, Faith rows n k := by
  intro k hk
  unfold useK at hk
  rcases List.mem_append.mp hk with q | q
  · exact f k (List.mem_filter.mp q).1
  · rw [List.mem_singleton.mp q]; exact f one h
theorem faith_put {rows : List Tx} {n most : Int} {ks : List Kp} {one : Kp} (f : ∀ k ∈ ks, Faith rows n k) (h : Faith rows n one) : ∀ k ∈ putK most ks one, Faith rows n k := by
  intro k hk
  unfold putK lastN at hk
  rcases List.mem_append.mp (List.mem_of_mem_drop hk) with q | q
  · exact f k (List.mem_filter.mp q).1
  · rw [List.mem_singleton.mp q]; exact h
theorem mem_put {ks : List Kp} {one : Kp} {most : Int} (h : 1 ≤ most) : one ∈ putK most ks one := by
  unfold putK lastN
  rw [List.drop_append, List.mem_append]
  right
  have : ((((dropK ks one.1 ++ [one]).length : Int) - most).toNat - (dropK ks one.1).length) = 0 := by simp; omega
  rw [this]; simp
theorem nd_inj : ∀ {ks : List Kp} {a b : Kp}, (ks.map (·.1)).Nodup → a ∈ ks → b ∈ ks → a.1 = b.1 → a = b
  | [], _, _, _, h, _, _ => by cases h
  | x :: ks, a, b, nd, ha, hb, e => by
    rw [List.map_cons, List.nodup_cons] at nd
    rcases List.mem_cons.mp ha with e1 | h1
    · rcases List.mem_cons.mp hb with e2 | h2
      · rw [e1, e2]
      · rw [e1] at e; exact absurd (List.mem_map.mpr ⟨b, h2, e.symm⟩) nd.1
    · rcases List.mem_cons.mp hb with e2 | h2
      · rw [e2] at e; exact absurd (List.mem_map.mpr ⟨a, h1, e⟩) nd.1
      · exact nd_inj nd.2 h1 h2 e
theorem keys_use {ks : List Kp} {one k : Kp} (nd : (ks.map (·.1)).Nodup) (h1 : one ∈ ks) : k ∈ useK ks one ↔ k ∈ ks := by
  unfold useK dropK
  rw [List.mem_append, List.mem_filter, List.mem_singleton]
  constructor
  · rintro (h | rfl)
    · exact h.1
    · exact h1
  · intro h
    by_cases e : k.1 = one.1
    · right
      exact nd_inj nd h h1 e
    · exact .inl ⟨h, by simpa using e⟩
end TA

set_option linter.all false
set_option maxRecDepth 100000
set_option maxHeartbeats 2000000
/-! Roads. -/
namespace TA
open PySem L2
local macro_rules | `(tactic| simp! [$as,*]) => `(tactic| first | simp only [L2.start, tSeq, tAsg, tOp, fFld, tVar, gIxL, gIxT, tCB, tCons, tNil, gLenL, gLenT, gLenS, rI, rI0, fSet, tIfS, tTest, tB, rNotN, rIsN, rEq, rNe, tC, tDrop, fBM, fBM0, gTy, rAppend, tTup, tLst, tRet, tRetN, tNext, gName, fTup, gCons, gNil, tCall, fCallS, fMeth, tMeth, fMethS, fMake, tMake, fMakeS, tUn, rU, tAnd, tOr, tNot, tAndV, tOrV, tNotV, tIf, tChain, gListL, gListT, tSl, tNoPart, tPart, gSlL, fRaise, gStrI, gCatS, gMin2, gMax2, gIntB, tYes, fLcL, fLcT, fLcS, fLcR1, fForL, fForR1, fForR2, fRev, fGetI, gGetI, gInI, gLenI, fPutI, fNewI,
  List.map_cons, List.map_nil, List.length_cons, List.length_nil, List.replicate, List.cons_append, List.nil_append, List.append_nil, List.getElem?_cons_zero, List.getElem?_cons_succ, List.set_cons_zero, List.set_cons_succ, reduceIte, Bool.not_true, Bool.not_false, Nat.reduceAdd, Nat.reduceSub, Bool.false_eq_true, eq_self,
  Option.some.injEq, V.int.injEq, V.ref.injEq, V.str.injEq, V.bl.injEq, HO.ins.injEq, HO.lst.injEq, HO.tup.injEq, HO.dK.injEq, List.cons.injEq, and_assoc, exists_eq_left', exists_and_left, and_true, true_and, true_or, or_true, false_or, or_false, exists_eq_left, exists_eq_right, exists_eq_right', exists_eq, exists_eq', exists_const, upd_same, sc_ii, sc_ss, sc_bb, sc_in, sc_ni, sc_ns, sc_sn, sc_nn, $as,*] | skip)
def n_Road : List Str := ["delays", "sent", "under_way"]
theorem nd_Road : n_Road.Nodup := by decide +kernel
section
variable {v0 v1 v2 x : V}
theorem lk_Road_delays : (n_Road.zip [v0, v1, v2]).lookup ("delays" : Str) = some v0 := lookup_zip 0 nd_Road rfl rfl
theorem pf_Road_delays : putF ("delays" : Str) x (n_Road.zip [v0, v1, v2]) = n_Road.zip [x, v1, v2] := putF_zip 0 nd_Road rfl (by simp only [List.length_cons, List.length_nil]; omega)
theorem lk_Road_sent : (n_Road.zip [v0, v1, v2]).lookup ("sent" : Str) = some v1 := lookup_zip 1 nd_Road rfl rfl
theorem pf_Road_sent : putF ("sent" : Str) x (n_Road.zip [v0, v1, v2]) = n_Road.zip [v0, x, v2] := putF_zip 1 nd_Road rfl (by simp only [List.length_cons, List.length_nil]; omega)
theorem lk_Road_under_way : (n_Road.zip [v0, v1, v2]).lookup ("under_way" : Str) = some v2 := lookup_zip 2 nd_Road rfl rfl
theorem pf_Road_under_way : putF ("under_way" : Str) x (n_Road.zip [v0, v1, v2]) = n_Road.zip [v0, v1, x] := putF_zip 2 nd_Road rfl (by simp only [List.length_cons, List.length_nil]; omega)
theorem no_Road_send : (n_Road.zip [v0, v1, v2]).lookup ("send" : Str) = none := lookup_out (by decide +kernel)
theorem no_Road_due : (n_Road.zip [v0, v1, v2]).lookup ("due" : Str) = none := lookup_out (by decide +kernel)
theorem no_Road_many : (n_Road.zip [v0, v1, v2]).lookup ("many" : Str) = none := lookup_out (by decide +kernel)
theorem in_Road : putF "under_way" v2 (putF "sent" v1 (putF "delays" v0 ([]))) = n_Road.zip [v0, v1, v2] := by kernel_rfl
theorem il_Road_1 : (putF "delays" v0 ([])).length < 1000 := Nat.lt_of_lt_of_le (lt_putF lt0) (by omega)
theorem il_Road_2 : (putF "sent" v1 (putF "delays" v0 ([]))).length < 1000 := Nat.lt_of_lt_of_le (lt_putF (lt_putF lt0)) (by omega)
theorem il_Road_3 : (putF "under_way" v2 (putF "sent" v1 (putF "delays" v0 ([])))).length < 1000 := Nat.lt_of_lt_of_le (lt_putF (lt_putF (lt_putF lt0))) (by omega)
theorem ln_Road : (n_Road.zip [v0, v1, v2]).length < 1000 := by simp only [n_Road, List.zip_cons_cons, List.zip_nil_right, List.length_cons, List.length_nil]; omega
end
/-- a road as an object -/
def oRoad (K : PySem.W.Frag) (dx d : Addr) (n : Int) (u : Addr) : HO := .ins (He.ga K "Road") dx (n_Road.zip [.ref d, .int n, .ref u])
def delV : Option Int → V
  | none => .non
  | some i => .int i
def delOk : Option Int → Bool
  | none => true
  | some i => decide (1 ≤ i) && decide (i ≤ 30)
def roadOk (ds : List (Option Int)) : Bool := decide (1 ≤ ds.length) && decide (ds.length ≤ 8) && ds.all delOk
/-- an ask under way: when it comes, its number, its query -/
abbrev Ask := Int × Int × Str
def askD (x : Ask) : PyData := .tuple [.int x.1, .int x.2.1, .str x.2.2]
def dueD (x : Ask) : PyData := .tuple [.int x.2.1, .str x.2.2]
theorem ask_sorts : Sorts askD := ⟨fun x y => by simp [askD, PySem.W.alike, PySem.W.alikeAll], .inl fun x => ⟨_, _, rfl⟩, fun x => by simp [askD, PyData.depth, PyData.depthAll]⟩
theorem rp_ask {H : Hp} {v : V} {x : Ask} (h : Rp H v (askD x)) : ∃ t, v = .ref t ∧ H t = some (.tup [.int x.1, .int x.2.1, .str x.2.2]) := by
  unfold askD at h
  cases h with
  | tup h r =>
    cases r with
    | cons h1 r =>
      cases r with
      | cons h2 r =>
        cases r with
        | cons h3 r =>
          cases r
          cases h1; cases h2; cases h3
          exact ⟨_, rfl, h⟩
/-- the delays that a road keeps, what is under way -/
structure RoadW (K : PySem.W.Frag) (I H : Hp) (p dx d u : Addr) (ds : List (Option Int)) (n : Nat) (zs : List (V × Ask)) (M : List (Addr × HO)) : Prop where
  w : W I H ((p, oRoad K dx d n u) :: (u, .lst (zs.map Prod.fst)) :: M)
  dl : I d = some (.lst (ds.map delV))
  en : Enc I askD zs
/-- the next delay -/
def nextDelay (ds : List (Option Int)) (n : Nat) : Option Int := (ds[n % ds.length]?).getD none
def sentUw (ds : List (Option Int)) (n : Nat) (uw : List Ask) (q : Str) (time : Int) : List Ask := match nextDelay ds n with
  | none => uw
  | some d => uw ++ [(time + d, ((n + 1 : Nat) : Int), q)]
def sp_Road___init__ (K : PySem.W.Frag) : Sp := fun vs H Q E => ∃ (I : Hp) (M : List (Addr × HO)) (p dx l : Addr) (ds : List (Option Int)), vs = [.ref p, .ref l] ∧ W I H ((p, .ins (He.ga K "Road") dx []) :: M) ∧ (∀ I' H' o, Sub I I' → W I' H' ((p, o) :: M) → H' l = some (.lst (ds.map delV))) ∧ ds.length ≤ 100 ∧
  (roadOk ds = true → ∀ (I' H' : Hp) (d u : Addr), Sub I I' → RoadW K I' H' p dx d u ds 0 [] M → Q .non H') ∧ (roadOk ds = false → ∀ (I' H' : Hp), Sub I I' → W I' H' ((p, .ins (He.ga K "Road") dx []) :: M) → E (.ref (He.ga K "BadNumber")) none H')
def sp_Road_send (K : PySem.W.Frag) : Sp := fun vs H Q _ => ∃ (I : Hp) (M : List (Addr × HO)) (p dx d u : Addr) (ds : List (Option Int)) (n : Nat) (zs : List (V × Ask)) (q : Str) (time : Int), vs = [.ref p, .str q, .int time] ∧ RoadW K I H p dx d u ds n zs M ∧ ds ≠ [] ∧ zs.length ≤ 100000 ∧
  ∀ (I' H' : Hp) (zs' : List (V × Ask)), Sub I I' → RoadW K I' H' p dx d u ds (n + 1) zs' M → zs'.map Prod.snd = sentUw ds n (zs.map Prod.snd) q time → Q (.int ((n + 1 : Nat) : Int)) H'
def sp_Road_due (K : PySem.W.Frag) : Sp := fun vs H Q _ => ∃ (I : Hp) (M : List (Addr × HO)) (p dx d u : Addr) (ds : List (Option Int)) (n : Nat) (zs : List (V × Ask)) (time : Int), vs = [.ref p, .int time] ∧ RoadW K I H p dx d u ds n zs M ∧ zs.length ≤ 100000 ∧
  ∀ (I' H' : Hp) (u' : Addr) (zs' : List (V × Ask)) (v : V), Sub I I' → RoadW K I' H' p dx d u' ds n zs' M → zs'.map Prod.snd = (zs.map Prod.snd).filter (fun x => decide (time < x.1)) →
    Rp I' v (.list ((sortE askD ((zs.map Prod.snd).filter fun x => decide (x.1 ≤ time))).map dueD)) → Q v H'
def sp_Road_many (K : PySem.W.Frag) : Sp := fun vs H Q _ => ∃ (p dx d u : Addr) (n : Nat), vs = [.ref p] ∧ H p = some (oRoad K dx d n u) ∧ Q (.int n) H
def t_Road___init__ (K : PySem.W.Frag) (E : XK) : TS := tSeq (tAsg (tChain (rI0 fun i j => .bl (decide (i ≤ j))) (rI0 fun i j => .bl (decide (i ≤ j))) (tC (.int 1)) (tCB (gLenL) (tCons (tVar 1) (tNil))) (tC (.int 8))) (gName 2)) (tSeq (tIfS (tOr (tNot (tB (tVar 2))) (tNot (tB (tCB (gAll) (tCons (fLcL (tVar 1) (gName 3) (tYes) (tOrV (tOp (rIsN) (tVar 3) (tC .non)) (tChain (rI0 fun i j => .bl (decide (i ≤ j))) (rI0 fun i j => .bl (decide (i ≤ j))) (tC (.int 1)) (tVar 3) (tC (.int 30)))) [3]) (tNil)))))) (fRaise (WD E) (He.ga K "BadNumber")) (tNext)) (tSeq (fSet (He.ga K "Road") "delays" (tVar 0) (tCB (gListL) (tCons (tVar 1) (tNil)))) (tSeq (fSet (He.ga K "Road") "sent" (tVar 0) (tC (.int 0))) (fSet (He.ga K "Road") "under_way" (tVar 0) (tLst (tNil))))))
abbrev nn_Road___init__ : List Str := ["self", "delays", "good", "delay"]
def t_Road_send (K : PySem.W.Frag) (E : XK) : TS := tSeq (tAsg (tOp gIxL (fFld (He.ga K "Road") "delays" (tVar 0)) (tOp (rI (fun _ j => 0 < j) fun i j => .int (i % j)) (fFld (He.ga K "Road") "sent" (tVar 0)) (tCB (gLenL) (tCons (fFld (He.ga K "Road") "delays" (tVar 0)) (tNil))))) (gName 3)) (tSeq (fSet (He.ga K "Road") "sent" (tVar 0) (tOp (rI0 fun i j => .int (i + j)) (fFld (He.ga K "Road") "sent" (tVar 0)) (tC (.int 1)))) (tSeq (tIfS (tTest (tOp (rNotN) (tVar 3) (tC .non))) (tDrop (fBM "list" rAppend (fFld (He.ga K "Road") "under_way" (tVar 0)) (tCons (tTup (tCons (tOp (rI0 fun i j => .int (i + j)) (tVar 2) (tVar 3)) (tCons (fFld (He.ga K "Road") "sent" (tVar 0)) (tCons (tVar 1) (tNil))))) (tNil)))) (tNext)) (tRet (fFld (He.ga K "Road") "sent" (tVar 0)))))
abbrev nn_Road_send : List Str := ["self", "query", "time", "delay"]
def t_Road_due (K : PySem.W.Frag) (E : XK) : TS := tSeq (tAsg (tCB (gSortD) (tCons (fLcL (fFld (He.ga K "Road") "under_way" (tVar 0)) (gName 3) (tTest (tOp (rI0 fun i j => .bl (decide (i ≤ j))) (tOp gIxT (tVar 3) (tC (.int 0))) (tVar 1))) (tVar 3) [3]) (tNil))) (gName 2)) (tSeq (fSet (He.ga K "Road") "under_way" (tVar 0) (fLcL (fFld (He.ga K "Road") "under_way" (tVar 0)) (gName 3) (tTest (tOp (rI0 fun i j => .bl (decide (j < i))) (tOp gIxT (tVar 3) (tC (.int 0))) (tVar 1))) (tVar 3) [3])) (tRet (fLcL (tVar 2) (fTup 3 (gCons (gName 4) (gCons (gName 5) (gCons (gName 6) (gNil))))) (tYes) (tTup (tCons (tVar 5) (tCons (tVar 6) (tNil)))) [4, 5, 6])))
abbrev nn_Road_due : List Str := ["self", "time", "found", "one", "when", "number", "query"]
def t_Road_many (K : PySem.W.Frag) (E : XK) : TS := tRet (fFld (He.ga K "Road") "sent" (tVar 0))
abbrev nn_Road_many : List Str := ["self"]
section
variable {K : PySem.W.Frag}
theorem len_Road___init__ : ∀ vs H Q E, sp_Road___init__ K vs H Q E → vs.length = ["self", "delays"].length := by
  rintro _ _ _ _ ⟨_, _, _, _, _, _, rfl, _⟩; rfl
theorem len_Road_send : ∀ vs H Q E, sp_Road_send K vs H Q E → vs.length = ["self", "query", "time"].length := by
  rintro _ _ _ _ ⟨_, _, _, _, _, _, _, _, _, _, _, rfl, _⟩; rfl
theorem len_Road_due : ∀ vs H Q E, sp_Road_due K vs H Q E → vs.length = ["self", "time"].length := by
  rintro _ _ _ _ ⟨_, _, _, _, _, _, _, _, _, _, rfl, _⟩; rfl
theorem len_Road_many : ∀ vs H Q E, sp_Road_many K vs H Q E → vs.length = ["self"].length := by
  rintro _ _ _ _ ⟨_, _, _, _, _, rfl, _⟩; rfl
theorem pure_Road_many : ∀ vs H Q E, sp_Road_many K vs H Q E → t_Road_many K E { nx := fun _ H2 => Q .non H2, rt := Q } (L2.start nn_Road_many vs) H := by
  rintro vs H Q E ⟨p, dx, d, u, n, rfl, h, hQ⟩
  unfold t_Road_many oRoad at *
  simp! [h, lk_Road_sent]
  exact hQ
theorem atI_mod {α : Type} {xs : List α} {n : Nat} (h : xs ≠ []) : ∃ x, xs[n % xs.length]? = some x ∧ atI xs ((n : Int) % (xs.length : Int)) = some x := by
  have hp : 0 < xs.length := List.length_pos_iff.mpr h
  have hl : n % xs.length < xs.length := Nat.mod_lt _ hp
  refine ⟨xs[n % xs.length], List.getElem?_eq_getElem hl, ?_⟩
  have := atI_nat (xs := xs) (j := n % xs.length) (List.getElem?_eq_getElem hl)
  rw [← this]
  congr 1
theorem pure_Road_send : ∀ vs H Q E, sp_Road_send K vs H Q E → t_Road_send K E { nx := fun _ H2 => Q .non H2, rt := Q } (L2.start nn_Road_send vs) H := by
  rintro vs H Q E ⟨I, M, p, dx, d, u, ds, n, zs, q, time, rfl, ⟨w, hd, en⟩, hne, hz, hQ⟩
  have h1 := w.has.1
  have h3 := w.has.2.1
  have h2 := w.sub d _ hd
  unfold t_Road_send oRoad at *
  simp! [h1, h2, h3, lk_Road_delays, lk_Road_sent, lk_Road_under_way, pf_Road_sent, ln_Road, List.length_map]
  have hpos : 0 < ds.length := List.length_pos_iff.mpr hne
  obtain ⟨x, e1, e2⟩ := atI_mod (xs := ds.map delV) (n := n) (by simpa using hne)
  rw [List.length_map] at e1 e2
  rw [List.getElem?_map, Option.map_eq_some_iff] at e1
  obtain ⟨dl, e1, rfl⟩ := e1
  have en1 : nextDelay ds n = dl := by unfold nextDelay; rw [e1]; rfl
  refine ⟨by omega, _, e2, ?_⟩
  have w1 := w.put (o' := .ins (He.ga K "Road") dx (n_Road.zip [V.ref d, V.int ((n : Int) + 1), V.ref u]))
  cases dl with
  | none =>
    simp! [delV, decide_true]
    exact hQ _ _ zs (Sub.refl _) ⟨w1, hd, en⟩ (by unfold sentUw; rw [en1])
  | some i =>
    simp! [delV, decide_false, reduceCtorEq]
    refine ⟨.inl ⟨_, w1.has.2.1⟩, three_le, fun t ht => ?_⟩
    have w2 := w1.newI (o := .tup [V.int (time + i), V.int ((n : Int) + 1), V.str q]) ht
    have w3 := (w2.swap.put (o' := .lst (zs.map Prod.fst ++ [V.ref t]))).swap
    have sI := Sub.new (o := .tup [V.int (time + i), V.int ((n : Int) + 1), V.str q]) (w1.noI ht)
    refine ⟨_, w2.has.2.1, ?_, _, _, w3.has.1, _, lk_Road_sent, ?_⟩
    · have := line_big; rw [List.length_map]; omega
    · refine hQ _ _ (zs ++ [(.ref t, (time + i, ((n + 1 : Nat) : Int), q))]) sI ⟨?_, sI _ _ hd, ?_⟩ ?_
      · rw [List.map_append]; exact w3
      · exact (en.mono sI).snoc (.tup upd_same (.cons (.int _) (.cons (.int _) (.cons (.str _) .nil))))
      · unfold sentUw; rw [en1, List.map_append]; rfl
theorem pure_Road_due : ∀ vs H Q E, sp_Road_due K vs H Q E → t_Road_due K E { nx := fun _ H2 => Q .non H2, rt := Q } (L2.start nn_Road_due vs) H := by
  rintro vs H Q E ⟨I, M, p, dx, d, u, ds, n, zs, time, rfl, ⟨w, hd, en⟩, hz, hQ⟩
  have h1 := w.has.1
  have h3 := w.has.2.1
  unfold t_Road_due oRoad at *
  simp! [h1, h3, lk_Road_under_way]
  have tst : ∀ z ∈ zs, ∀ I' H', Sub I I' → Sub I' H' → ∃ t, z.1 = V.ref t ∧ H' t = some (.tup [.int z.2.1, .int z.2.2.1, .str z.2.2.2]) := fun z hzz I' H' s1 s2 => by
    obtain ⟨t, e, h⟩ := rp_ask (en z hzz)
    exact ⟨t, e, s2 _ _ (s1 _ _ h)⟩
  refine comp_filter (p := fun z => decide (z.2.1 ≤ time)) w (by omega) (fun _ => rfl) (fun _ => rfl) (fun D o H' w' => w'.has.2.2.1) (fun z hzz D o H' Q' w' q => ?_) (fun D H' w' => ?_)
  · obtain ⟨t, e, h⟩ := tst z hzz I H' (Sub.refl _) w'.sub
    simp! [wipe, e, h]
    exact ⟨_, rfl, by simpa using q⟩
  refine sortD_use ask_sorts w'.has.1 ((en.filter _).mono w'.sub) fun f hf => ?_
  generalize hys : ((zs.filter fun z => decide (z.2.1 ≤ time)).mergeSort fun x y => leD askD x.2 y.2) = ys at hf ⊢
  have hyd : ys.map Prod.snd = sortE askD ((zs.map Prod.snd).filter fun x => decide (x.1 ≤ time)) := by
    rw [← hys, sort_snd, List.filter_map]; rfl
  have enY : Enc I askD ys := by rw [← hys]; exact sort_enc (en.filter _)
  have lenY : ys.length ≤ zs.length := by rw [← hys, List.length_mergeSort]; exact List.length_filter_le _ _
  have w2 := w'.drop.newI (o := .lst (ys.map Prod.fst)) hf
  have s2 := Sub.new (o := .lst (ys.map Prod.fst)) (w'.noI hf)
  generalize upd H' f (.lst (ys.map Prod.fst)) = H2 at w2 ⊢
  generalize hI2 : upd I f (.lst (ys.map Prod.fst)) = I2 at w2 s2
  have hf2 : I2 f = some (.lst (ys.map Prod.fst)) := by rw [← hI2, upd_same]
  simp! [w2.has.1, w2.has.2.1, lk_Road_under_way]
  refine comp_filter (p := fun z => decide (time < z.2.1)) w2 (by omega) (fun _ => rfl) (fun _ => rfl) (fun D o H' w' => w'.has.2.2.1) (fun z hzz D o H' Q' w' q => ?_) (fun D2 H3 w3 => ?_)
  · obtain ⟨t, e, h⟩ := tst z hzz I2 H' s2 w'.sub
    simp! [wipe, e, h]
    exact ⟨_, rfl, by simpa using q⟩
  have w4 := w3.swap.put (o' := .ins (He.ga K "Road") dx (n_Road.zip [V.ref d, V.int n, V.ref D2]))
  have w5 := w4.rot.drop
  simp! [w3.has.2.1, pf_Road_under_way, ln_Road]
  generalize upd H3 p _ = H4 at w5 ⊢
  have hf4 := w5.sub f _ hf2
  refine ⟨_, hf4, I2, _, fun i I' acc M' => M' = _ ∧ RpAll I' acc ((ys.take i).map fun z => dueD z.2), w5, by rw [List.length_map]; omega, ⟨rfl, .nil⟩, ?_, ?_, ?_⟩
  · rintro i I' acc M' D H' ⟨rfl, _⟩ s w'
    exact w'.sub f _ (s _ _ hf2)
  · rintro D i x H' I' acc M' hi hx s w' ⟨rfl, r⟩ _
    rw [List.getElem?_map, Option.map_eq_some_iff] at hx
    obtain ⟨z, hzz, rfl⟩ := hx
    obtain ⟨t, e, h⟩ := rp_ask (enY z (List.mem_of_getElem? hzz))
    have h' := w'.sub t _ (s _ _ (s2 _ _ h))
    simp! [e, h', wipe]
    refine ⟨two_le, fun g hg => ?_⟩
    have w6 := w'.newI (o := .tup [V.int z.2.2.1, V.str z.2.2.2]) hg
    have s6 := Sub.new (o := .tup [V.int z.2.2.1, V.str z.2.2.2]) (w'.noI hg)
    refine nxt s6 w6 ⟨rfl, ?_⟩
    rw [take_succ_get hzz, List.map_append]
    exact (r.mono s6).snoc (.tup upd_same (.cons (.int _) (.cons (.str _) .nil)))
  · rintro D H' I' acc M' s w' ⟨rfl, r⟩ _
    have w6 := w'.freeze
    have s6 := Sub.new (o := .lst acc) (w'.out (D, .lst acc) List.mem_cons_self)
    rw [List.length_map, List.take_length] at r
    refine hQ _ _ D2 _ _ (s2.trans (s.trans s6)) ⟨w6, s6 _ _ (s _ _ (s2 _ _ hd)), ((en.filter _).mono s2).mono (s.trans s6)⟩ ?_ (.lst upd_same ?_)
    · rw [List.filter_map]; rfl
    · have e : ys.map (fun z => dueD z.2) = (sortE askD ((zs.map Prod.snd).filter fun x => decide (x.1 ≤ time))).map dueD := by rw [← hyd, List.map_map]; rfl
      rw [← e]
      exact r.mono s6
theorem pure_Road___init__ : ∀ vs H Q E, sp_Road___init__ K vs H Q E → t_Road___init__ K E { nx := fun _ H2 => Q .non H2, rt := Q } (L2.start nn_Road___init__ vs) H := by
  rintro vs H Q E ⟨I, M, p, dx, l, ds, rfl, w, hl, hlen, hyes, hno⟩
  have h0 := hl I H _ (Sub.refl _) w
  unfold t_Road___init__
  simp! [h0, List.length_map]
  have raise : ∀ I' H', Sub I I' → W I' H' ((p, .ins (He.ga K "Road") dx []) :: M) → roadOk ds = false → ∀ σ, WD E (.ref (He.ga K "BadNumber")) none σ H' := fun I' H' s w' e _ => hno e I' H' s w'
  by_cases c1 : (1 : Int) ≤ (ds.length : Int)
  · rw [if_pos (decide_eq_true c1)]
    by_cases c2 : (ds.length : Int) ≤ 8
    · rw [if_neg (by rw [decide_eq_true c2]; decide)]
      refine ⟨I, _, fun i I' acc M' => I' = I ∧ M' = _ ∧ acc = ((ds.take i).map delOk).map V.bl, w, by omega, ⟨rfl, rfl, rfl⟩, ?_, ?_, ?_⟩
      · rintro i I' acc M' D H' ⟨rfl, rfl, _⟩ s w'
        exact hl _ _ _ (Sub.refl _) w'.drop
      · rintro D i x H' I' acc M' hi hx s w' ⟨rfl, rfl, rfl⟩ _
        rw [List.getElem?_map, Option.map_eq_some_iff] at hx
        obtain ⟨z, hzz, rfl⟩ := hx
        have e1 : ∀ b, delOk z = b → ((ds.take i).map delOk).map V.bl ++ [V.bl b] = ((ds.take (i + 1)).map delOk).map V.bl := fun b e => by
          rw [take_succ_get hzz, List.map_append, List.map_append, ← e]; rfl
        cases z with
        | none =>
          simp! [delV, wipe, decide_true]
          exact nxt (Sub.refl _) w' ⟨rfl, rfl, e1 _ rfl⟩
        | some k =>
          simp! [delV, wipe, decide_false, reduceCtorEq]
          by_cases k1 : 1 ≤ k
          · rw [if_pos (decide_eq_true k1)]
            exact nxt (Sub.refl _) w' ⟨rfl, rfl, e1 _ (by simp [delOk, k1])⟩
          · rw [if_neg (by rw [decide_eq_false k1]; decide)]
            exact nxt (Sub.refl _) w' ⟨rfl, rfl, e1 _ (by simp [delOk, k1])⟩
      · rintro D H' I' acc M' s w' ⟨rfl, rfl, rfl⟩ _
        rw [List.take_length] at w'
        refine ⟨D, ds.map delOk, rfl, w'.has.1, ?_⟩
        have e : roadOk ds = (ds.map delOk).all id := by
          unfold roadOk
          rw [decide_eq_true (show 1 ≤ ds.length by omega), decide_eq_true (show ds.length ≤ 8 by omega), List.all_map]
          rfl
        rw [← e]
        have w1 := w'.drop
        cases e2 : roadOk ds with
        | false =>
          simp! [and_true]
          exact raise _ _ (Sub.refl _) w1 e2 _
        | true =>
          have hl1 := hl _ _ _ (Sub.refl _) w1
          simp! [hl1]
          intro d hd
          have w2 := w1.newI (o := .lst (ds.map delV)) hd
          have s2 := Sub.new (o := .lst (ds.map delV)) (w1.noI hd)
          have w3 := w2.put (o' := .ins (He.ga K "Road") dx (putF "delays" (.ref d) []))
          have w4 := w3.put (o' := .ins (He.ga K "Road") dx (putF "sent" (.int 0) (putF "delays" (.ref d) [])))
          refine ⟨_, _, w2.has.1, by simp, Nat.lt_of_lt_of_le (lt_putF lt0) (by omega), Nat.zero_le _, fun u hu => ?_⟩
          have w5 := w4.newM (o := .lst []) hu
          have w6 := w5.swap.put (o' := .ins (He.ga K "Road") dx (putF "under_way" (.ref u) (putF "sent" (.int 0) (putF "delays" (.ref d) []))))
          refine ⟨_, _, w5.has.2.1, ?_, ?_⟩
          · exact Nat.lt_of_lt_of_le (lt_putF (lt_putF lt0)) (by omega)
          · rw [in_Road] at w6 ⊢
            exact hyes e2 _ _ d u s2 ⟨w6, upd_same, Enc.nil⟩
    · rw [if_pos (by rw [decide_eq_false c2]; decide)]
      exact raise _ _ (Sub.refl _) w (by unfold roadOk; rw [decide_eq_false (show ¬ ds.length ≤ 8 by omega)]; simp) _
  · rw [if_neg (by rw [decide_eq_false c1]; decide)]
    exact raise _ _ (Sub.refl _) w (by unfold roadOk; rw [decide_eq_false (show ¬ 1 ≤ ds.length by omega)]; simp) _
end
end TA

set_option linter.all false
set_option maxRecDepth 100000
set_option maxHeartbeats 1000000
/-! An asker, plain. -/
namespace TA
open PySem L2 PyProof.Rows
open SX (S S_len S_inj S_cat S_tl)
inductive Lg | off (n : Int) | came (n : Int) | late (n : Int) | lost (n : Int) | asked (n : Int) (key : Tx)
def lgD : Lg → PyData
  | .off n => .tuple [.str "off", .int n]
  | .came n => .tuple [.str "came", .int n]
  | .late n => .tuple [.str "late", .int n]
  | .lost n => .tuple [.str "lost", .int n]
  | .asked n key => .tuple [.str "asked", .int n, sD key]
/-- what never changes of an asker -/
structure Rul where
  many : Int
  pause : Int
  asks : Int
  pat : Int
  ds : List (Option Int)
  most : Int
  term : Int
structure AS where
  time : Int
  now : Tx
  at_ : Int
  due : Bool
  tries : Int
  asked : List (Int × Tx)
  flying : List (Int × Int)
  shown : Option (Tx × List Tx × Bool)
  log : List Lg
  sent : Nat
  uw : List (Int × Int × Tx)
  ks : List Kp
/-- asks for what does not stand there any more (none: all asks) are called off -/
def dropS (s : AS) (w : Option Tx) : AS :=
  { s with asked := s.asked.filter fun p => decide (some (foldL p.2) = w), log := s.log ++ (s.asked.filter fun p => !decide (some (foldL p.2) = w)).map fun p => .off p.1 }
def showS (s : AS) (rows : List Tx) : AS := dropS { s with shown := some (foldL s.now, rows, false), due := false } none
def freshS (s : AS) : Bool := match s.shown with
  | none => false
  | some (k, _, old) => decide (k = foldL s.now) && !old
def nearS (R : Rul) (s : AS) : AS :=
  if foldL s.now = [] then { s with due := false, shown := none }
  else match srcK s.ks (foldL s.now) s.time R.term with
    | some one => showS { s with ks := useK s.ks one } (ansR one.2.1 s.now R.many)
    | none => match s.shown with
      | none => s
      | some (k, rows, _) => if freshS s = true then s else if ansR rows s.now R.many = [] then { s with shown := none } else { s with shown := some (k, ansR rows s.now R.many, true) }
def sendU (R : Rul) (s : AS) : List (Int × Int × Tx) := match nextDelay R.ds s.sent with
  | none => s.uw
  | some d => s.uw ++ [(s.time + d, ((s.sent + 1 : Nat) : Int), s.now)]
def nextN (s : AS) : Int := ((s.sent + 1 : Nat) : Int)
def askS (R : Rul) (s : AS) : AS :=
  if s.due = true ∧ R.pause ≤ s.time - s.at_ ∧ (s.flying.length : Int) < R.asks then
    { s with due := false, tries := s.tries + 1, sent := s.sent + 1, uw := sendU R s, asked := s.asked ++ [(nextN s, s.now)], flying := s.flying ++ [(nextN s, s.time)], log := s.log ++ [Lg.asked (nextN s) (foldL s.now)] }
  else s
def putS (R : Rul) (s : AS) (text : Tx) : AS :=
  askS R (nearS R { (if foldL text = foldL s.now then s else { dropS s (some (foldL text)) with at_ := s.time, due := decide (foldL text ≠ []), tries := 0 }) with now := text })
/-- an answer comes -/
def comeS (R : Rul) (rows : List Tx) (s : AS) (n : Int) (q : Tx) : AS :=
  let s1 := { s with flying := s.flying.filter fun p => !decide (p.1 = n), ks := putK R.most s.ks (foldL q, ansR rows q R.many, ansA rows q R.many, s.time) }
  if (s1.asked.any fun p => decide (p.1 = n)) = true then showS { s1 with asked := s1.asked.filter fun p => !decide (p.1 = n), log := s1.log ++ [.came n] } (ansR rows q R.many)
  else nearS R { s1 with log := s1.log ++ [.late n] }
/-- an ask that took too long -/
def lostS (R : Rul) (s : AS) (n : Int) : AS :=
  if (s.flying.any fun p => decide (p.1 = n ∧ R.pat ≤ s.time - p.2)) = true then
    let s1 := { s with flying := s.flying.filter fun p => !decide (p.1 = n) }
    if (s1.asked.any fun p => decide (p.1 = n)) = true then { s1 with asked := s1.asked.filter fun p => !decide (p.1 = n), log := s1.log ++ [.lost n], due := decide (s1.tries < 3) } else s1
  else s
def againT (R : Rul) (s : AS) : AS := ((s.flying.map (·.1)).mergeSort fun a b => decide (a ≤ b)).foldl (lostS R) s
/-! ### calling off, ask by ask -/
def keepA (w : Option Tx) (p : Int × Tx) : Bool := decide (some (foldL p.2) = w)
def dropPre (s : AS) (w : Option Tx) (i : Nat) : AS :=
  { s with asked := (s.asked.take i).filter (keepA w) ++ s.asked.drop i, log := s.log ++ ((s.asked.take i).filter fun p => !keepA w p).map fun p => Lg.off p.1 }
theorem dropPre_0 (s : AS) (w : Option Tx) : dropPre s w 0 = s := by simp [dropPre]
theorem dropPre_all (s : AS) (w : Option Tx) : dropPre s w s.asked.length = dropS s w := by
  unfold dropPre dropS
  rw [List.take_length, List.drop_length, List.append_nil]; rfl
theorem dropPre_keep {s : AS} {w : Option Tx} {i : Nat} {p : Int × Tx} (h : s.asked[i]? = some p) (k : keepA w p = true) : dropPre s w (i + 1) = dropPre s w i := by
  obtain ⟨hl, e⟩ := List.getElem?_eq_some_iff.mp h
  unfold dropPre
  rw [take_succ_get h, List.filter_append, List.filter_append, List.drop_eq_getElem_cons hl, e]
  simp [k]
theorem dropPre_off {s : AS} {w : Option Tx} {i : Nat} {p : Int × Tx} (h : s.asked[i]? = some p) (k : keepA w p = false) : dropPre s w (i + 1) = { dropPre s w i with asked := (s.asked.take i).filter (keepA w) ++ s.asked.drop (i + 1), log := (dropPre s w i).log ++ [Lg.off p.1] } := by
  unfold dropPre
  rw [take_succ_get h, List.filter_append, List.filter_append]
  simp [k]
theorem nd_pre {s : AS} {w : Option Tx} {i : Nat} {p : Int × Tx} (nd : (s.asked.map (·.1)).Nodup) (h : s.asked[i]? = some p) :
    ((dropPre s w i).asked.filter fun q => !decide (q.1 = p.1)) = (s.asked.take i).filter (keepA w) ++ s.asked.drop (i + 1) ∧ p ∈ (dropPre s w i).asked := by
  obtain ⟨hl, e⟩ := List.getElem?_eq_some_iff.mp h
  have hsplit : s.asked = s.asked.take i ++ p :: s.asked.drop (i + 1) := by
    conv => lhs; rw [← List.take_append_drop i s.asked, List.drop_eq_getElem_cons hl, e]
  have hn : ∀ q ∈ s.asked.take i ++ s.asked.drop (i + 1), q.1 ≠ p.1 := by
    intro q hq z
    rw [hsplit, List.map_append, List.map_cons] at nd
    obtain ⟨n1, n2, n3⟩ := List.nodup_append.mp nd
    rcases List.mem_append.mp hq with c | c
    · exact n3 _ (List.mem_map.mpr ⟨q, c, rfl⟩) _ List.mem_cons_self z
    · exact (List.nodup_cons.mp n2).1 (z ▸ List.mem_map.mpr ⟨q, c, rfl⟩)
  have e2 : (dropPre s w i).asked = (s.asked.take i).filter (keepA w) ++ p :: s.asked.drop (i + 1) := by
    unfold dropPre; rw [List.drop_eq_getElem_cons hl, e]
  rw [e2]
  refine ⟨?_, by simp⟩
  have f1 : ((s.asked.take i).filter (keepA w)).filter (fun q => !decide (q.1 = p.1)) = (s.asked.take i).filter (keepA w) :=
    List.filter_eq_self.mpr fun q hq => by simpa using hn q (List.mem_append_left _ (List.mem_filter.mp hq).1)
  have f2 : (s.asked.drop (i + 1)).filter (fun q => !decide (q.1 = p.1)) = s.asked.drop (i + 1) :=
    List.filter_eq_self.mpr fun q hq => by simpa using hn q (List.mem_append_right _ hq)
  rw [List.filter_append, List.filter_cons, if_neg (by simp), f1, f2]
theorem pre_mem {s : AS} {w : Option Tx} {i : Nat} : ∀ p ∈ (dropPre s w i).asked, p ∈ s.asked := by
  intro p hp
  unfold dropPre at hp
  rcases List.mem_append.mp hp with c | c
  · exact List.mem_of_mem_take (List.mem_filter.mp c).1
  · exact List.mem_of_mem_drop c
theorem pre_nd {s : AS} {w : Option Tx} {i : Nat} (nd : (s.asked.map (·.1)).Nodup) : ((dropPre s w i).asked.map (·.1)).Nodup := by
  refine nd.sublist (List.Sublist.map _ ?_)
  unfold dropPre
  conv => rhs; rw [← List.take_append_drop i s.asked]
  exact List.filter_sublist.append (List.Sublist.refl _)
theorem lk_asked : ∀ {l : List (Int × Tx)} {p : Int × Tx}, (l.map (·.1)).Nodup → p ∈ l → lkI (l.map fun p => (p.1, sV p.2)) p.1 = some (sV p.2)
  | [], _, _, h => by cases h
  | q :: l, p, nd, h => by
    rw [List.map_cons, List.nodup_cons] at nd
    unfold lkI
    rw [List.map_cons]
    by_cases e : q.1 = p.1
    · rw [List.find?_cons_of_pos (by simpa using e)]
      rcases List.mem_cons.mp h with c | c
      · rw [c]; rfl
      · exact absurd (List.mem_map.mpr ⟨p, c, e.symm⟩) nd.1
    · rw [List.find?_cons_of_neg (by simpa using e)]
      rcases List.mem_cons.mp h with c | c
      · exact absurd (by rw [c]) e
      · exact lk_asked nd.2 c
theorem drop_asked (l : List (Int × Tx)) (n : Int) : dropI (l.map fun p => (p.1, sV p.2)) n = (l.filter fun p => !decide (p.1 = n)).map fun p => (p.1, sV p.2) := by
  unfold dropI; rw [List.filter_map]; rfl
/-! ### a tick -/
def uw1 (x : Int × Int × Tx) : Ask := (x.1, x.2.1, S x.2.2)
def uwS (l : List (Int × Int × Tx)) : List Ask := l.map uw1
def sortU (l : List (Int × Int × Tx)) : List (Int × Int × Tx) := l.mergeSort fun x y => leD askD (uw1 x) (uw1 y)
theorem sortU_S (l : List (Int × Int × Tx)) : sortE askD (uwS l) = uwS (sortU l) := (PySem.W.sort_maps (r := fun x y => leD askD (uw1 x) (uw1 y)) (s := leD askD) uw1 fun _ _ _ _ => rfl).symm
def dueU (time : Int) (l : List (Int × Int × Tx)) : List (Int × Int × Tx) := sortU (l.filter fun x => decide (x.1 ≤ time))
def restU (time : Int) (l : List (Int × Int × Tx)) : List (Int × Int × Tx) := l.filter fun x => decide (time < x.1)
def tick0 (s : AS) : AS := { s with time := s.time + 1, uw := restU (s.time + 1) s.uw }
def comeAll (R : Rul) (rows : List Tx) (s : AS) (l : List (Int × Int × Tx)) : AS := l.foldl (fun s x => comeS R rows s x.2.1 x.2.2) s
def stepS (R : Rul) (rows : List Tx) (s : AS) : AS := askS R (againT R (comeAll R rows (tick0 s) (dueU (s.time + 1) s.uw)))
def tickS (R : Rul) (rows : List Tx) : Nat → AS → AS
  | 0, s => s
  | n + 1, s => tickS R rows n (stepS R rows s)
theorem tickS_succ (R : Rul) (rows : List Tx) : ∀ (n : Nat) (s : AS), tickS R rows (n + 1) s = stepS R rows (tickS R rows n s)
  | 0, _ => rfl
  | n + 1, s => tickS_succ R rows n (stepS R rows s)
theorem tickS_add (R : Rul) (rows : List Tx) : ∀ (n m : Nat) (s : AS), tickS R rows (n + m) s = tickS R rows m (tickS R rows n s)
  | 0, m, s => by rw [Nat.zero_add]; rfl
  | n + 1, m, s => by rw [Nat.succ_add]; exact tickS_add R rows n m (stepS R rows s)
def againE (s : AS) : Bool := decide (foldL s.now = []) || !s.asked.isEmpty
def againS (R : Rul) (s : AS) : AS := askS R { s with ks := [], due := true, tries := 0, at_ := s.time - R.pause }
/-! ### what is kept of numbers and texts; k: asks that are about to come -/
structure OkS (R : Rul) (k : Nat) (s : AS) : Prop where
  many : manyOk R.many = true
  ds : R.ds ≠ []
  most : 0 ≤ R.most ∧ R.most ≤ 6
  asks : R.asks ≤ 3
  now : okL 12 s.now = true
  qa : ∀ p ∈ s.asked, okL 12 p.2 = true ∧ p.1 ≤ s.sent
  qu : ∀ p ∈ s.uw, okL 12 p.2.2 = true
  ks : ∀ k ∈ s.ks, rowsOk k.2.1 ∧ okL 20 k.1 = true
  kl : s.ks.length ≤ 6
  sh : ∀ k rs old, s.shown = some (k, rs, old) → rowsOk rs
  na : (s.asked.map (·.1)).Nodup
  nf : (s.flying.map (·.1)).Nodup
  fs : ∀ p ∈ s.flying, p.1 ≤ s.sent
  fl : s.flying.length ≤ 3
  lg : s.log.length + s.asked.length + s.uw.length + k ≤ 3 * s.sent
theorem len_split {α : Type} (p : α → Bool) : ∀ l : List α, l.length = (l.filter p).length + (l.filter fun x => !p x).length
  | [] => rfl
  | x :: l => by
    have := len_split p l
    cases h : p x <;> simp [h] <;> omega
section
variable {R : Rul} {k : Nat} {s : AS}
theorem OkS.n0 (h : OkS R k s) : 0 ≤ R.many := by
  have := h.many; unfold manyOk at this; have := of_decide_eq_true this; omega
theorem OkS.drop (h : OkS R k s) (w : Option Tx) : OkS R k (dropS s w) :=
  { h with
    qa := fun p hp => h.qa p (List.mem_filter.mp hp).1
    na := h.na.sublist (List.filter_sublist.map _)
    lg := by
      have e := len_split (fun p : Int × Tx => decide (some (foldL p.2) = w)) s.asked
      have := h.lg
      simp only [dropS, List.length_append, List.length_map]
      omega }
theorem OkS.show (h : OkS R k s) {rows : List Tx} (ro : rowsOk rows) : OkS R k (showS s rows) :=
  OkS.drop (s := { s with shown := some (foldL s.now, rows, false), due := false }) { h with sh := fun _ _ _ e => by cases e; exact ro } none
theorem ansR_ok {rows : List Tx} {q : Tx} {n : Int} (h : rowsOk rows) : rowsOk (ansR rows q n) := by
  unfold ansR
  refine ⟨fun r hr => h.1 r (mem_best.mp (List.mem_of_mem_take hr)).1, ?_⟩
  have := best_len rows q
  have := h.2
  rw [List.length_take]; omega
theorem OkS.use (h : OkS R k s) {one : Kp} (hm : one ∈ s.ks) : OkS R k { s with ks := useK s.ks one } :=
  { h with
    ks := (ok_use ⟨h.ks, by have := h.kl; omega⟩ hm).1
    kl := Nat.le_trans (len_use hm) h.kl }
theorem OkS.near (h : OkS R k s) : OkS R k (nearS R s) := by
  unfold nearS
  split
  · exact { h with sh := fun _ _ _ e => by cases e }
  · split
    · rename_i one e
      have hm := src_mem e
      exact (h.use hm).show (ansR_ok (h.ks one hm).1)
    · split
      · exact h
      · rename_i key rows old e
        split
        · exact h
        · split
          · exact { h with sh := fun _ _ _ e => by cases e }
          · exact { h with sh := fun _ _ _ e' => by cases e'; exact ansR_ok (h.sh _ _ _ e) }
theorem nd_snocI {α : Type} {l : List (Int × α)} {n : Int} {x : α} (h : (l.map (·.1)).Nodup) (hn : ∀ p ∈ l, p.1 < n) : ((l ++ [(n, x)]).map (·.1)).Nodup := by
  rw [List.map_append, List.nodup_append]
  refine ⟨h, by simp, fun a ha b hb => ?_⟩
  obtain ⟨p, hp, rfl⟩ := List.mem_map.mp ha
  simp at hb
  have := hn p hp
  rw [hb]; exact Int.ne_of_lt this
theorem sendU_len : (sendU R s).length ≤ s.uw.length + 1 := by
  unfold sendU; split <;> simp
theorem sendU_mem {x : Int × Int × Tx} (h : x ∈ sendU R s) : x ∈ s.uw ∨ x.2.2 = s.now := by
  unfold sendU at h; split at h
  · exact .inl h
  · rcases List.mem_append.mp h with q | q
    · exact .inl q
    · right; rw [List.mem_singleton.mp q]
theorem OkS.ask (h : OkS R k s) : OkS R k (askS R s) := by
  unfold askS
  split
  · rename_i c
    have hn : ∀ i : Int, i ≤ s.sent → i < nextN s := fun i hi => by unfold nextN; omega
    refine { h with qa := ?_, qu := ?_, na := nd_snocI h.na fun p hp => hn _ (h.qa p hp).2, nf := nd_snocI h.nf fun p hp => hn _ (h.fs p hp), fs := ?_, fl := ?_, lg := ?_ }
    · intro p hp
      rcases List.mem_append.mp hp with q | q
      · exact ⟨(h.qa p q).1, by have := (h.qa p q).2; simp only []; omega⟩
      · rw [List.mem_singleton.mp q]; exact ⟨h.now, by simp [nextN]⟩
    · intro p hp
      rcases sendU_mem hp with q | q
      · exact h.qu p q
      · rw [q]; exact h.now
    · intro p hp
      rcases List.mem_append.mp hp with q | q
      · have := h.fs p q; simp only []; omega
      · rw [List.mem_singleton.mp q]; simp [nextN]
    · have := c.2.2
      have := h.asks
      simp only [List.length_append, List.length_cons, List.length_nil]; omega
    · have := h.lg
      have := sendU_len (R := R) (s := s)
      simp only [List.length_append, List.length_cons, List.length_nil]; omega
  · exact h
theorem OkS.put (h : OkS R k s) {text : Tx} (ht : okL 12 text = true) : OkS R k (putS R s text) := by
  unfold putS
  refine OkS.ask (OkS.near ?_)
  split
  · exact { h with now := ht }
  · exact { h.drop (some (foldL text)) with now := ht }
theorem filter_len_lt {α : Type} {l : List α} {p : α → Bool} {x : α} (h : x ∈ l) (hp : p x = false) : (l.filter p).length + 1 ≤ l.length := by
  have : (l.filter p).length < l.length := by
    rw [List.length_filter_lt_length_iff_exists]
    exact ⟨x, h, by simp [hp]⟩
  omega
def came0 (R : Rul) (rows : List Tx) (s : AS) (n : Int) (q : Tx) : AS := { s with flying := s.flying.filter fun p => !decide (p.1 = n), ks := putK R.most s.ks (foldL q, ansR rows q R.many, ansA rows q R.many, s.time), asked := s.asked.filter fun p => !decide (p.1 = n), log := s.log ++ [.came n] }
def late0 (R : Rul) (rows : List Tx) (s : AS) (n : Int) (q : Tx) : AS := { s with flying := s.flying.filter fun p => !decide (p.1 = n), ks := putK R.most s.ks (foldL q, ansR rows q R.many, ansA rows q R.many, s.time), log := s.log ++ [.late n] }
theorem comeS_eq (R : Rul) (rows : List Tx) (s : AS) (n : Int) (q : Tx) : comeS R rows s n q = if (s.asked.any fun p => decide (p.1 = n)) = true then showS (came0 R rows s n q) (ansR rows q R.many) else nearS R (late0 R rows s n q) := rfl
section
variable {rows : List Tx} {n : Int} {q : Tx}
theorem OkS.kok (h : OkS R (k + 1) s) (ro : rowsOk rows) (hq : okL 12 q = true) : (∀ e ∈ putK R.most s.ks (foldL q, ansR rows q R.many, ansA rows q R.many, s.time), rowsOk e.2.1 ∧ okL 20 e.1 = true) ∧ (putK R.most s.ks (foldL q, ansR rows q R.many, ansA rows q R.many, s.time)).length ≤ 6 := by
  refine ⟨ok_put h.ks ⟨ansR_ok ro, fold_okL (okL_le hq (by decide))⟩, ?_⟩
  have := len_put (ks := s.ks) (k := (foldL q, ansR rows q R.many, ansA rows q R.many, s.time)) h.most.1
  have := h.most.2
  omega
theorem OkS.came (h : OkS R (k + 1) s) (ro : rowsOk rows) (hq : okL 12 q = true) (c : (s.asked.any fun p => decide (p.1 = n)) = true) : OkS R k (came0 R rows s n q) := by
  have hl := h.lg
  obtain ⟨p, hp, e⟩ := List.any_eq_true.mp c
  have := filter_len_lt (p := fun p : Int × Tx => !decide (p.1 = n)) hp (by simpa using e)
  exact { h with
    qa := fun p hp => h.qa p (List.mem_filter.mp hp).1
    ks := (h.kok ro hq).1, kl := (h.kok ro hq).2, nf := h.nf.sublist (List.filter_sublist.map _), fl := Nat.le_trans (List.length_filter_le _ _) h.fl
    na := h.na.sublist (List.filter_sublist.map _)
    fs := fun p hp => h.fs p (List.mem_filter.mp hp).1
    lg := by simp only [came0, List.length_append, List.length_cons, List.length_nil]; omega }
theorem OkS.late (h : OkS R (k + 1) s) (ro : rowsOk rows) (hq : okL 12 q = true) : OkS R k (late0 R rows s n q) := by
  have hl := h.lg
  exact { h with
    ks := (h.kok ro hq).1, kl := (h.kok ro hq).2, nf := h.nf.sublist (List.filter_sublist.map _), fl := Nat.le_trans (List.length_filter_le _ _) h.fl
    fs := fun p hp => h.fs p (List.mem_filter.mp hp).1
    lg := by simp only [late0, List.length_append, List.length_cons, List.length_nil]; omega }
theorem OkS.come (h : OkS R (k + 1) s) (ro : rowsOk rows) (hq : okL 12 q = true) : OkS R k (comeS R rows s n q) := by
  rw [comeS_eq]
  split
  · rename_i c
    exact (h.came ro hq c).show (ansR_ok ro)
  · exact (h.late ro hq).near
end
theorem OkS.comes {rows : List Tx} (ro : rowsOk rows) : ∀ {l : List (Int × Int × Tx)} {s : AS}, OkS R (k + l.length) s → (∀ x ∈ l, okL 12 x.2.2 = true) → OkS R k (comeAll R rows s l)
  | [], _, h, _ => h
  | x :: l, s, h, hq => OkS.comes ro (l := l) (s := comeS R rows s x.2.1 x.2.2) (OkS.come (k := k + l.length) h ro (hq x List.mem_cons_self)) fun y hy => hq y (List.mem_cons_of_mem _ hy)
theorem OkS.lost (h : OkS R k s) (n : Int) : OkS R k (lostS R s n) := by
  have nf' : ((s.flying.filter fun p => !decide (p.1 = n)).map (·.1)).Nodup := h.nf.sublist (List.filter_sublist.map _)
  have fl' : (s.flying.filter fun p => !decide (p.1 = n)).length ≤ 3 := Nat.le_trans (List.length_filter_le _ _) h.fl
  have hl := h.lg
  unfold lostS
  split
  · simp only []
    split
    · rename_i c
      obtain ⟨p, hp, e⟩ := List.any_eq_true.mp c
      have := filter_len_lt (p := fun p : Int × Tx => !decide (p.1 = n)) hp (by simpa using e)
      exact { h with
        qa := fun p hp => h.qa p (List.mem_filter.mp hp).1
        nf := nf', fl := fl'
        na := h.na.sublist (List.filter_sublist.map _)
        fs := fun p hp => h.fs p (List.mem_filter.mp hp).1
        lg := by simp only [List.length_append, List.length_cons, List.length_nil]; omega }
    · exact { h with nf := nf', fl := fl', fs := fun p hp => h.fs p (List.mem_filter.mp hp).1 }
  · exact h
theorem OkS.losts : ∀ {l : List Int} {s : AS}, OkS R k s → OkS R k (l.foldl (lostS R) s)
  | [], _, h => h
  | x :: l, _, h => OkS.losts (l := l) (h.lost x)
theorem OkS.againT (h : OkS R k s) : OkS R k (againT R s) := OkS.losts h
theorem dueU_len (time : Int) (l : List (Int × Int × Tx)) : (dueU time l).length + (restU time l).length = l.length := by
  unfold dueU restU sortU
  rw [List.length_mergeSort]
  have e := len_split (fun x : Int × Int × Tx => decide (x.1 ≤ time)) l
  have e2 : l.filter (fun x => !decide (x.1 ≤ time)) = l.filter fun x => decide (time < x.1) := List.filter_congr fun x _ => by
    rw [Bool.eq_iff_iff]; simp
  rw [e2] at e
  exact e.symm
theorem mem_due {time : Int} {l : List (Int × Int × Tx)} {x : Int × Int × Tx} : x ∈ dueU time l ↔ x ∈ l ∧ x.1 ≤ time := by
  unfold dueU sortU
  rw [(List.mergeSort_perm _ _).mem_iff, List.mem_filter]; simp
theorem OkS.tick0 (h : OkS R k s) : OkS R (k + (dueU (s.time + 1) s.uw).length) (tick0 s) :=
  { h with
    qu := fun p hp => h.qu p (List.mem_filter.mp hp).1
    lg := by
      have := h.lg
      have := dueU_len (s.time + 1) s.uw
      simp only [TA.tick0]; omega }
theorem OkS.step (h : OkS R k s) {rows : List Tx} (ro : rowsOk rows) : OkS R k (stepS R rows s) :=
  OkS.ask (OkS.againT (OkS.comes ro h.tick0 fun x hx => h.qu x (mem_due.mp hx).1))
theorem OkS.tick {rows : List Tx} (ro : rowsOk rows) : ∀ {n : Nat} {s : AS}, OkS R k s → OkS R k (tickS R rows n s)
  | 0, _, h => h
  | n + 1, _, h => OkS.tick ro (n := n) (h.step ro)
theorem OkS.again (h : OkS R k s) : OkS R k (againS R s) := OkS.ask { h with ks := (by simp), kl := Nat.zero_le _ }
/-! ### how many asks were sent -/
theorem drop_sent (s : AS) (w : Option Tx) : (dropS s w).sent = s.sent := rfl
theorem show_sent (s : AS) (rows : List Tx) : (showS s rows).sent = s.sent := rfl
theorem near_sent (R : Rul) (s : AS) : (nearS R s).sent = s.sent := by
  unfold nearS; split
  · rfl
  · split
    · rfl
    · split
      · rfl
      · split
        · rfl
        · split <;> rfl
theorem ask_sent (R : Rul) (s : AS) : (askS R s).sent ≤ s.sent + 1 ∧ s.sent ≤ (askS R s).sent := by
  unfold askS; split <;> simp
theorem put_sent (R : Rul) (s : AS) (t : Tx) : (putS R s t).sent ≤ s.sent + 1 := by
  unfold putS
  refine Nat.le_trans (ask_sent R _).1 ?_
  rw [near_sent]
  split <;> simp [dropS]
theorem come_sent (R : Rul) (rows : List Tx) (s : AS) (n : Int) (q : Tx) : (comeS R rows s n q).sent = s.sent := by
  unfold comeS; simp only []; split
  · rfl
  · rw [near_sent]
theorem comes_sent (R : Rul) (rows : List Tx) : ∀ (l : List (Int × Int × Tx)) (s : AS), (comeAll R rows s l).sent = s.sent
  | [], _ => rfl
  | x :: l, s => (comes_sent R rows l (comeS R rows s x.2.1 x.2.2)).trans (come_sent R rows s _ _)
theorem lost_sent (R : Rul) (s : AS) (n : Int) : (lostS R s n).sent = s.sent := by
  unfold lostS; split
  · simp only []; split <;> rfl
  · rfl
theorem losts_sent (R : Rul) : ∀ (l : List Int) (s : AS), (l.foldl (lostS R) s).sent = s.sent
  | [], _ => rfl
  | x :: l, s => (losts_sent R l (lostS R s x)).trans (lost_sent R s x)
theorem step_sent (R : Rul) (rows : List Tx) (s : AS) : (stepS R rows s).sent ≤ s.sent + 1 := by
  unfold stepS againT
  refine Nat.le_trans (ask_sent R _).1 ?_
  rw [losts_sent, comes_sent]; exact Nat.le_refl _
theorem tick_sent (R : Rul) (rows : List Tx) : ∀ (n : Nat) (s : AS), (tickS R rows n s).sent ≤ s.sent + n
  | 0, s => Nat.le_refl _
  | n + 1, s => by
    have := tick_sent R rows n (stepS R rows s)
    have := step_sent R rows s
    rw [tickS]; omega
theorem again_sent (R : Rul) (s : AS) : (againS R s).sent ≤ s.sent + 1 := (ask_sent R _).1
end
end TA

set_option linter.all false
set_option maxRecDepth 100000
set_option maxHeartbeats 1000000
/-! Askers: what stands, and what the methods promise. -/
namespace TA
open PySem L2 PyProof.Rows
open SX (S S_len S_inj S_cat S_tl)
local macro_rules | `(tactic| simp! [$as,*]) => `(tactic| first | simp only [L2.start, tSeq, tAsg, tOp, fFld, tVar, gIxL, gIxT, tCB, tCons, tNil, gLenL, gLenT, gLenS, rI, rI0, fSet, tIfS, tTest, tB, rNotN, rIsN, rEq, rNe, tC, tDrop, fBM, fBM0, gTy, rAppend, tTup, tLst, tRet, tRetN, tNext, gName, fTup, gCons, gNil, tCall, fCallS, fMeth, tMeth, fMethS, fMake, tMake, fMakeS, tUn, rU, tAnd, tOr, tNot, tAndV, tOrV, tNotV, tIf, tChain, gListL, gListT, tSl, tNoPart, tPart, gSlL, fRaise, gStrI, gCatS, gMin2, gMax2, gIntB, tYes, fLcL, fLcT, fLcS, fLcR1, fForL, fForR1, fForR2, fRev, fGetI, gGetI, gInI, gLenI, fPutI, fNewI,
  List.map_cons, List.map_nil, List.length_cons, List.length_nil, List.replicate, List.cons_append, List.nil_append, List.append_nil, List.getElem?_cons_zero, List.getElem?_cons_succ, List.set_cons_zero, List.set_cons_succ, reduceIte, Bool.not_true, Bool.not_false, Nat.reduceAdd, Nat.reduceSub, Bool.false_eq_true, eq_self,
  Option.some.injEq, V.int.injEq, V.ref.injEq, V.str.injEq, V.bl.injEq, HO.ins.injEq, HO.lst.injEq, HO.tup.injEq, HO.dK.injEq, List.cons.injEq, and_assoc, exists_eq_left', exists_and_left, and_true, true_and, true_or, or_true, false_or, or_false, exists_eq_left, exists_eq_right, exists_eq_right', exists_eq, exists_eq', exists_const, upd_same, sc_ii, sc_ss, sc_bb, sc_in, sc_ni, sc_ns, sc_sn, sc_nn, $as,*] | skip)
def n_Asker : List Str := ["store", "road", "shelf", "rows_most", "pause", "asks_most", "patience", "time", "now", "typed_at", "is_due", "tries", "asked", "flying", "shown", "rows"]
theorem nd_Asker : n_Asker.Nodup := by decide +kernel
section
variable {v0 v1 v2 v3 v4 v5 v6 v7 v8 v9 v10 v11 v12 v13 v14 v15 x : V}
theorem lk_Asker_store : (n_Asker.zip [v0, v1, v2, v3, v4, v5, v6, v7, v8, v9, v10, v11, v12, v13, v14, v15]).lookup ("store" : Str) = some v0 := lookup_zip 0 nd_Asker rfl rfl
theorem pf_Asker_store : putF ("store" : Str) x (n_Asker.zip [v0, v1, v2, v3, v4, v5, v6, v7, v8, v9, v10, v11, v12, v13, v14, v15]) = n_Asker.zip [x, v1, v2, v3, v4, v5, v6, v7, v8, v9, v10, v11, v12, v13, v14, v15] := putF_zip 0 nd_Asker rfl (by simp only [List.length_cons, List.length_nil]; omega)
theorem lk_Asker_road : (n_Asker.zip [v0, v1, v2, v3, v4, v5, v6, v7, v8, v9, v10, v11, v12, v13, v14, v15]).lookup ("road" : Str) = some v1 := lookup_zip 1 nd_Asker rfl rfl
theorem pf_Asker_road : putF ("road" : Str) x (n_Asker.zip [v0, v1, v2, v3, v4, v5, v6, v7, v8, v9, v10, v11, v12, v13, v14, v15]) = n_Asker.zip [v0, x, v2, v3, v4, v5, v6, v7, v8, v9, v10, v11, v12, v13, v14, v15] := putF_zip 1 nd_Asker rfl (by simp only [List.length_cons, List.length_nil]; omega)
theorem lk_Asker_shelf : (n_Asker.zip [v0, v1, v2, v3, v4, v5, v6, v7, v8, v9, v10, v11, v12, v13, v14, v15]).lookup ("shelf" : Str) = some v2 := lookup_zip 2 nd_Asker rfl rfl
theorem pf_Asker_shelf : putF ("shelf" : Str) x (n_Asker.zip [v0, v1, v2, v3, v4, v5, v6, v7, v8, v9, v10, v11, v12, v13, v14, v15]) = n_Asker.zip [v0, v1, x, v3, v4, v5, v6, v7, v8, v9, v10, v11, v12, v13, v14, v15] := putF_zip 2 nd_Asker rfl (by simp only [List.length_cons, List.length_nil]; omega)
theorem lk_Asker_rows_most : (n_Asker.zip [v0, v1, v2, v3, v4, v5, v6, v7, v8, v9, v10, v11, v12, v13, v14, v15]).lookup ("rows_most" : Str) = some v3 := lookup_zip 3 nd_Asker rfl rfl
theorem pf_Asker_rows_most : putF ("rows_most" : Str) x (n_Asker.zip [v0, v1, v2, v3, v4, v5, v6, v7, v8, v9, v10, v11, v12, v13, v14, v15]) = n_Asker.zip [v0, v1, v2, x, v4, v5, v6, v7, v8, v9, v10, v11, v12, v13, v14, v15] := putF_zip 3 nd_Asker rfl (by simp only [List.length_cons, List.length_nil]; omega)
theorem lk_Asker_pause : (n_Asker.zip [v0, v1, v2, v3, v4, v5, v6, v7, v8, v9, v10, v11, v12, v13, v14, v15]).lookup ("pause" : Str) = some v4 := lookup_zip 4 nd_Asker rfl rfl
theorem pf_Asker_pause : putF ("pause" : Str) x (n_Asker.zip [v0, v1, v2, v3, v4, v5, v6, v7, v8, v9, v10, v11, v12, v13, v14, v15]) = n_Asker.zip [v0, v1, v2, v3, x, v5, v6, v7, v8, v9, v10, v11, v12, v13, v14, v15] := putF_zip 4 nd_Asker rfl (by simp only [List.length_cons, List.length_nil]; omega)
theorem lk_Asker_asks_most : (n_Asker.zip [v0, v1, v2, v3, v4, v5, v6, v7, v8, v9, v10, v11, v12, v13, v14, v15]).lookup ("asks_most" : Str) = some v5 := lookup_zip 5 nd_Asker rfl rfl
theorem pf_Asker_asks_most : putF ("asks_most" : Str) x (n_Asker.zip [v0, v1, v2, v3, v4, v5, v6, v7, v8, v9, v10, v11, v12, v13, v14, v15]) = n_Asker.zip [v0, v1, v2, v3, v4, x, v6, v7, v8, v9, v10, v11, v12, v13, v14, v15] := putF_zip 5 nd_Asker rfl (by simp only [List.length_cons, List.length_nil]; omega)
theorem lk_Asker_patience : (n_Asker.zip [v0, v1, v2, v3, v4, v5, v6, v7, v8, v9, v10, v11, v12, v13, v14, v15]).lookup ("patience" : Str) = some v6 := lookup_zip 6 nd_Asker rfl rfl
theorem pf_Asker_patience : putF ("patience" : Str) x (n_Asker.zip [v0, v1, v2, v3, v4, v5, v6, v7, v8, v9, v10, v11, v12, v13, v14, v15]) = n_Asker.zip [v0, v1, v2, v3, v4, v5, x, v7, v8, v9, v10, v11, v12, v13, v14, v15] := putF_zip 6 nd_Asker rfl (by simp only [List.length_cons, List.length_nil]; omega)
theorem lk_Asker_time : (n_Asker.zip [v0, v1, v2, v3, v4, v5, v6, v7, v8, v9, v10, v11, v12, v13, v14, v15]).lookup ("time" : Str) = some v7 := lookup_zip 7 nd_Asker rfl rfl
theorem pf_Asker_time : putF ("time" : Str) x (n_Asker.zip [v0, v1, v2, v3, v4, v5, v6, v7, v8, v9, v10, v11, v12, v13, v14, v15]) = n_Asker.zip [v0, v1, v2, v3, v4, v5, v6, x, v8, v9, v10, v11, v12, v13, v14, v15] := putF_zip 7 nd_Asker rfl (by simp only [List.length_cons, List.length_nil]; omega)
theorem lk_Asker_now : (n_Asker.zip [v0, v1, v2, v3, v4, v5, v6, v7, v8, v9, v10, v11, v12, v13, v14, v15]).lookup ("now" : Str) = some v8 := lookup_zip 8 nd_Asker rfl rfl
theorem pf_Asker_now : putF ("now" : Str) x (n_Asker.zip [v0, v1, v2, v3, v4, v5, v6, v7, v8, v9, v10, v11, v12, v13, v14, v15]) = n_Asker.zip [v0, v1, v2, v3, v4, v5, v6, v7, x, v9, v10, v11, v12, v13, v14, v15] := putF_zip 8 nd_Asker rfl (by simp only [List.length_cons, List.length_nil]; omega)
theorem lk_Asker_typed_at : (n_Asker.zip [v0, v1, v2, v3, v4, v5, v6, v7, v8, v9, v10, v11, v12, v13, v14, v15]).lookup ("typed_at" : Str) = some v9 := lookup_zip 9 nd_Asker rfl rfl
theorem pf_Asker_typed_at : putF ("typed_at" : Str) x (n_Asker.zip [v0, v1, v2, v3, v4, v5, v6, v7, v8, v9, v10, v11, v12, v13, v14, v15]) = n_Asker.zip [v0, v1, v2, v3, v4, v5, v6, v7, v8, x, v10, v11, v12, v13, v14, v15] := putF_zip 9 nd_Asker rfl (by simp only [List.length_cons, List.length_nil]; omega)
theorem lk_Asker_is_due : (n_Asker.zip [v0, v1, v2, v3, v4, v5, v6, v7, v8, v9, v10, v11, v12, v13, v14, v15]).lookup ("is_due" : Str) = some v10 := lookup_zip 10 nd_Asker rfl rfl
theorem pf_Asker_is_due : putF ("is_due" : Str) x (n_Asker.zip [v0, v1, v2, v3, v4, v5, v6, v7, v8, v9, v10, v11, v12, v13, v14, v15]) = n_Asker.zip [v0, v1, v2, v3, v4, v5, v6, v7, v8, v9, x, v11, v12, v13, v14, v15] := putF_zip 10 nd_Asker rfl (by simp only [List.length_cons, List.length_nil]; omega)
theorem lk_Asker_tries : (n_Asker.zip [v0, v1, v2, v3, v4, v5, v6, v7, v8, v9, v10, v11, v12, v13, v14, v15]).lookup ("tries" : Str) = some v11 := lookup_zip 11 nd_Asker rfl rfl
theorem pf_Asker_tries : putF ("tries" : Str) x (n_Asker.zip [v0, v1, v2, v3, v4, v5, v6, v7, v8, v9, v10, v11, v12, v13, v14, v15]) = n_Asker.zip [v0, v1, v2, v3, v4, v5, v6, v7, v8, v9, v10, x, v12, v13, v14, v15] := putF_zip 11 nd_Asker rfl (by simp only [List.length_cons, List.length_nil]; omega)
theorem lk_Asker_asked : (n_Asker.zip [v0, v1, v2, v3, v4, v5, v6, v7, v8, v9, v10, v11, v12, v13, v14, v15]).lookup ("asked" : Str) = some v12 := lookup_zip 12 nd_Asker rfl rfl
theorem pf_Asker_asked : putF ("asked" : Str) x (n_Asker.zip [v0, v1, v2, v3, v4, v5, v6, v7, v8, v9, v10, v11, v12, v13, v14, v15]) = n_Asker.zip [v0, v1, v2, v3, v4, v5, v6, v7, v8, v9, v10, v11, x, v13, v14, v15] := putF_zip 12 nd_Asker rfl (by simp only [List.length_cons, List.length_nil]; omega)
theorem lk_Asker_flying : (n_Asker.zip [v0, v1, v2, v3, v4, v5, v6, v7, v8, v9, v10, v11, v12, v13, v14, v15]).lookup ("flying" : Str) = some v13 := lookup_zip 13 nd_Asker rfl rfl
theorem pf_Asker_flying : putF ("flying" : Str) x (n_Asker.zip [v0, v1, v2, v3, v4, v5, v6, v7, v8, v9, v10, v11, v12, v13, v14, v15]) = n_Asker.zip [v0, v1, v2, v3, v4, v5, v6, v7, v8, v9, v10, v11, v12, x, v14, v15] := putF_zip 13 nd_Asker rfl (by simp only [List.length_cons, List.length_nil]; omega)
theorem lk_Asker_shown : (n_Asker.zip [v0, v1, v2, v3, v4, v5, v6, v7, v8, v9, v10, v11, v12, v13, v14, v15]).lookup ("shown" : Str) = some v14 := lookup_zip 14 nd_Asker rfl rfl
theorem pf_Asker_shown : putF ("shown" : Str) x (n_Asker.zip [v0, v1, v2, v3, v4, v5, v6, v7, v8, v9, v10, v11, v12, v13, v14, v15]) = n_Asker.zip [v0, v1, v2, v3, v4, v5, v6, v7, v8, v9, v10, v11, v12, v13, x, v15] := putF_zip 14 nd_Asker rfl (by simp only [List.length_cons, List.length_nil]; omega)
theorem lk_Asker_rows : (n_Asker.zip [v0, v1, v2, v3, v4, v5, v6, v7, v8, v9, v10, v11, v12, v13, v14, v15]).lookup ("rows" : Str) = some v15 := lookup_zip 15 nd_Asker rfl rfl
theorem pf_Asker_rows : putF ("rows" : Str) x (n_Asker.zip [v0, v1, v2, v3, v4, v5, v6, v7, v8, v9, v10, v11, v12, v13, v14, v15]) = n_Asker.zip [v0, v1, v2, v3, v4, v5, v6, v7, v8, v9, v10, v11, v12, v13, v14, x] := putF_zip 15 nd_Asker rfl (by simp only [List.length_cons, List.length_nil]; omega)
theorem no_Asker_clock : (n_Asker.zip [v0, v1, v2, v3, v4, v5, v6, v7, v8, v9, v10, v11, v12, v13, v14, v15]).lookup ("clock" : Str) = none := lookup_out (by decide +kernel)
theorem no_Asker_typed : (n_Asker.zip [v0, v1, v2, v3, v4, v5, v6, v7, v8, v9, v10, v11, v12, v13, v14, v15]).lookup ("typed" : Str) = none := lookup_out (by decide +kernel)
theorem no_Asker_put : (n_Asker.zip [v0, v1, v2, v3, v4, v5, v6, v7, v8, v9, v10, v11, v12, v13, v14, v15]).lookup ("put" : Str) = none := lookup_out (by decide +kernel)
theorem no_Asker_key : (n_Asker.zip [v0, v1, v2, v3, v4, v5, v6, v7, v8, v9, v10, v11, v12, v13, v14, v15]).lookup ("key" : Str) = none := lookup_out (by decide +kernel)
theorem no_Asker_rub : (n_Asker.zip [v0, v1, v2, v3, v4, v5, v6, v7, v8, v9, v10, v11, v12, v13, v14, v15]).lookup ("rub" : Str) = none := lookup_out (by decide +kernel)
theorem no_Asker_drop_other : (n_Asker.zip [v0, v1, v2, v3, v4, v5, v6, v7, v8, v9, v10, v11, v12, v13, v14, v15]).lookup ("drop_other" : Str) = none := lookup_out (by decide +kernel)
theorem no_Asker_look_near : (n_Asker.zip [v0, v1, v2, v3, v4, v5, v6, v7, v8, v9, v10, v11, v12, v13, v14, v15]).lookup ("look_near" : Str) = none := lookup_out (by decide +kernel)
theorem no_Asker_is_fresh : (n_Asker.zip [v0, v1, v2, v3, v4, v5, v6, v7, v8, v9, v10, v11, v12, v13, v14, v15]).lookup ("is_fresh" : Str) = none := lookup_out (by decide +kernel)
theorem no_Asker_show : (n_Asker.zip [v0, v1, v2, v3, v4, v5, v6, v7, v8, v9, v10, v11, v12, v13, v14, v15]).lookup ("show" : Str) = none := lookup_out (by decide +kernel)
theorem no_Asker_ask_if_due : (n_Asker.zip [v0, v1, v2, v3, v4, v5, v6, v7, v8, v9, v10, v11, v12, v13, v14, v15]).lookup ("ask_if_due" : Str) = none := lookup_out (by decide +kernel)
theorem no_Asker_step : (n_Asker.zip [v0, v1, v2, v3, v4, v5, v6, v7, v8, v9, v10, v11, v12, v13, v14, v15]).lookup ("step" : Str) = none := lookup_out (by decide +kernel)
theorem no_Asker_try_again : (n_Asker.zip [v0, v1, v2, v3, v4, v5, v6, v7, v8, v9, v10, v11, v12, v13, v14, v15]).lookup ("try_again" : Str) = none := lookup_out (by decide +kernel)
theorem no_Asker_tick : (n_Asker.zip [v0, v1, v2, v3, v4, v5, v6, v7, v8, v9, v10, v11, v12, v13, v14, v15]).lookup ("tick" : Str) = none := lookup_out (by decide +kernel)
theorem no_Asker_again : (n_Asker.zip [v0, v1, v2, v3, v4, v5, v6, v7, v8, v9, v10, v11, v12, v13, v14, v15]).lookup ("again" : Str) = none := lookup_out (by decide +kernel)
theorem no_Asker_view : (n_Asker.zip [v0, v1, v2, v3, v4, v5, v6, v7, v8, v9, v10, v11, v12, v13, v14, v15]).lookup ("view" : Str) = none := lookup_out (by decide +kernel)
theorem no_Asker_is_waiting : (n_Asker.zip [v0, v1, v2, v3, v4, v5, v6, v7, v8, v9, v10, v11, v12, v13, v14, v15]).lookup ("is_waiting" : Str) = none := lookup_out (by decide +kernel)
theorem no_Asker_log : (n_Asker.zip [v0, v1, v2, v3, v4, v5, v6, v7, v8, v9, v10, v11, v12, v13, v14, v15]).lookup ("log" : Str) = none := lookup_out (by decide +kernel)
theorem in_Asker : putF "rows" v15 (putF "shown" v14 (putF "flying" v13 (putF "asked" v12 (putF "tries" v11 (putF "is_due" v10 (putF "typed_at" v9 (putF "now" v8 (putF "time" v7 (putF "patience" v6 (putF "asks_most" v5 (putF "pause" v4 (putF "rows_most" v3 (putF "shelf" v2 (putF "road" v1 (putF "store" v0 ([])))))))))))))))) = n_Asker.zip [v0, v1, v2, v3, v4, v5, v6, v7, v8, v9, v10, v11, v12, v13, v14, v15] := by kernel_rfl
theorem il_Asker_1 : (putF "store" v0 ([])).length < 1000 := Nat.lt_of_lt_of_le (lt_putF lt0) (by omega)
theorem il_Asker_2 : (putF "road" v1 (putF "store" v0 ([]))).length < 1000 := Nat.lt_of_lt_of_le (lt_putF (lt_putF lt0)) (by omega)
theorem il_Asker_3 : (putF "shelf" v2 (putF "road" v1 (putF "store" v0 ([])))).length < 1000 := Nat.lt_of_lt_of_le (lt_putF (lt_putF (lt_putF lt0))) (by omega)
theorem il_Asker_4 : (putF "rows_most" v3 (putF "shelf" v2 (putF "road" v1 (putF "store" v0 ([]))))).length < 1000 := Nat.lt_of_lt_of_le (lt_putF (lt_putF (lt_putF (lt_putF lt0)))) (by omega)
theorem il_Asker_5 : (putF "pause" v4 (putF "rows_most" v3 (putF "shelf" v2 (putF "road" v1 (putF "store" v0 ([])))))).length < 1000 := Nat.lt_of_lt_of_le (lt_putF (lt_putF (lt_putF (lt_putF (lt_putF lt0))))) (by omega)
theorem il_Asker_6 : (putF "asks_most" v5 (putF "pause" v4 (putF "rows_most" v3 (putF "shelf" v2 (putF "road" v1 (putF "store" v0 ([]))))))).length < 1000 := Nat.lt_of_lt_of_le (lt_putF (lt_putF (lt_putF (lt_putF (lt_putF (lt_putF lt0)))))) (by omega)
theorem il_Asker_7 : (putF "patience" v6 (putF "asks_most" v5 (putF "pause" v4 (putF "rows_most" v3 (putF "shelf" v2 (putF "road" v1 (putF "store" v0 ([])))))))).length < 1000 := Nat.lt_of_lt_of_le (lt_putF (lt_putF (lt_putF (lt_putF (lt_putF (lt_putF (lt_putF lt0))))))) (by omega)
theorem il_Asker_8 : (putF "time" v7 (putF "patience" v6 (putF "asks_most" v5 (putF "pause" v4 (putF "rows_most" v3 (putF "shelf" v2 (putF "road" v1 (putF "store" v0 ([]))))))))).length < 1000 := Nat.lt_of_lt_of_le (lt_putF (lt_putF (lt_putF (lt_putF (lt_putF (lt_putF (lt_putF (lt_putF lt0)))))))) (by omega)
theorem il_Asker_9 : (putF "now" v8 (putF "time" v7 (putF "patience" v6 (putF "asks_most" v5 (putF "pause" v4 (putF "rows_most" v3 (putF "shelf" v2 (putF "road" v1 (putF "store" v0 ([])))))))))).length < 1000 := Nat.lt_of_lt_of_le (lt_putF (lt_putF (lt_putF (lt_putF (lt_putF (lt_putF (lt_putF (lt_putF (lt_putF lt0))))))))) (by omega)
theorem il_Asker_10 : (putF "typed_at" v9 (putF "now" v8 (putF "time" v7 (putF "patience" v6 (putF "asks_most" v5 (putF "pause" v4 (putF "rows_most" v3 (putF "shelf" v2 (putF "road" v1 (putF "store" v0 ([]))))))))))).length < 1000 := Nat.lt_of_lt_of_le (lt_putF (lt_putF (lt_putF (lt_putF (lt_putF (lt_putF (lt_putF (lt_putF (lt_putF (lt_putF lt0)))))))))) (by omega)
theorem il_Asker_11 : (putF "is_due" v10 (putF "typed_at" v9 (putF "now" v8 (putF "time" v7 (putF "patience" v6 (putF "asks_most" v5 (putF "pause" v4 (putF "rows_most" v3 (putF "shelf" v2 (putF "road" v1 (putF "store" v0 ([])))))))))))).length < 1000 := Nat.lt_of_lt_of_le (lt_putF (lt_putF (lt_putF (lt_putF (lt_putF (lt_putF (lt_putF (lt_putF (lt_putF (lt_putF (lt_putF lt0))))))))))) (by omega)
theorem il_Asker_12 : (putF "tries" v11 (putF "is_due" v10 (putF "typed_at" v9 (putF "now" v8 (putF "time" v7 (putF "patience" v6 (putF "asks_most" v5 (putF "pause" v4 (putF "rows_most" v3 (putF "shelf" v2 (putF "road" v1 (putF "store" v0 ([]))))))))))))).length < 1000 := Nat.lt_of_lt_of_le (lt_putF (lt_putF (lt_putF (lt_putF (lt_putF (lt_putF (lt_putF (lt_putF (lt_putF (lt_putF (lt_putF (lt_putF lt0)))))))))))) (by omega)
theorem il_Asker_13 : (putF "asked" v12 (putF "tries" v11 (putF "is_due" v10 (putF "typed_at" v9 (putF "now" v8 (putF "time" v7 (putF "patience" v6 (putF "asks_most" v5 (putF "pause" v4 (putF "rows_most" v3 (putF "shelf" v2 (putF "road" v1 (putF "store" v0 ([])))))))))))))).length < 1000 := Nat.lt_of_lt_of_le (lt_putF (lt_putF (lt_putF (lt_putF (lt_putF (lt_putF (lt_putF (lt_putF (lt_putF (lt_putF (lt_putF (lt_putF (lt_putF lt0))))))))))))) (by omega)
theorem il_Asker_14 : (putF "flying" v13 (putF "asked" v12 (putF "tries" v11 (putF "is_due" v10 (putF "typed_at" v9 (putF "now" v8 (putF "time" v7 (putF "patience" v6 (putF "asks_most" v5 (putF "pause" v4 (putF "rows_most" v3 (putF "shelf" v2 (putF "road" v1 (putF "store" v0 ([]))))))))))))))).length < 1000 := Nat.lt_of_lt_of_le (lt_putF (lt_putF (lt_putF (lt_putF (lt_putF (lt_putF (lt_putF (lt_putF (lt_putF (lt_putF (lt_putF (lt_putF (lt_putF (lt_putF lt0)))))))))))))) (by omega)
theorem il_Asker_15 : (putF "shown" v14 (putF "flying" v13 (putF "asked" v12 (putF "tries" v11 (putF "is_due" v10 (putF "typed_at" v9 (putF "now" v8 (putF "time" v7 (putF "patience" v6 (putF "asks_most" v5 (putF "pause" v4 (putF "rows_most" v3 (putF "shelf" v2 (putF "road" v1 (putF "store" v0 ([])))))))))))))))).length < 1000 := Nat.lt_of_lt_of_le (lt_putF (lt_putF (lt_putF (lt_putF (lt_putF (lt_putF (lt_putF (lt_putF (lt_putF (lt_putF (lt_putF (lt_putF (lt_putF (lt_putF (lt_putF lt0))))))))))))))) (by omega)
theorem il_Asker_16 : (putF "rows" v15 (putF "shown" v14 (putF "flying" v13 (putF "asked" v12 (putF "tries" v11 (putF "is_due" v10 (putF "typed_at" v9 (putF "now" v8 (putF "time" v7 (putF "patience" v6 (putF "asks_most" v5 (putF "pause" v4 (putF "rows_most" v3 (putF "shelf" v2 (putF "road" v1 (putF "store" v0 ([]))))))))))))))))).length < 1000 := Nat.lt_of_lt_of_le (lt_putF (lt_putF (lt_putF (lt_putF (lt_putF (lt_putF (lt_putF (lt_putF (lt_putF (lt_putF (lt_putF (lt_putF (lt_putF (lt_putF (lt_putF (lt_putF lt0)))))))))))))))) (by omega)
theorem ln_Asker : (n_Asker.zip [v0, v1, v2, v3, v4, v5, v6, v7, v8, v9, v10, v11, v12, v13, v14, v15]).length < 1000 := by simp only [n_Asker, List.zip_cons_cons, List.zip_nil_right, List.length_cons, List.length_nil]; omega
end
section
variable {I H : Hp} {M : List (Addr × HO)} {p : Addr} {o o' : HO} {x0 x1 x2 x3 x4 x5 : Addr × HO}
theorem W.putAt (A : List (Addr × HO)) (w : W I H (A ++ (p, o) :: M)) : W I (upd H p o') (A ++ (p, o') :: M) :=
  ((w.perm (List.perm_middle (a := (p, o)) (l₁ := A) (l₂ := M)).symm).put).perm List.perm_middle
theorem W.put1 (w : W I H (x0 :: (p, o) :: M)) : W I (upd H p o') (x0 :: (p, o') :: M) := W.putAt [x0] w
theorem W.put2 (w : W I H (x0 :: x1 :: (p, o) :: M)) : W I (upd H p o') (x0 :: x1 :: (p, o') :: M) := W.putAt [x0, x1] w
theorem W.put3 (w : W I H (x0 :: x1 :: x2 :: (p, o) :: M)) : W I (upd H p o') (x0 :: x1 :: x2 :: (p, o') :: M) := W.putAt [x0, x1, x2] w
theorem W.put4 (w : W I H (x0 :: x1 :: x2 :: x3 :: (p, o) :: M)) : W I (upd H p o') (x0 :: x1 :: x2 :: x3 :: (p, o') :: M) := W.putAt [x0, x1, x2, x3] w
theorem W.put5 (w : W I H (x0 :: x1 :: x2 :: x3 :: x4 :: (p, o) :: M)) : W I (upd H p o') (x0 :: x1 :: x2 :: x3 :: x4 :: (p, o') :: M) := W.putAt [x0, x1, x2, x3, x4] w
theorem W.put6 (w : W I H (x0 :: x1 :: x2 :: x3 :: x4 :: x5 :: (p, o) :: M)) : W I (upd H p o') (x0 :: x1 :: x2 :: x3 :: x4 :: x5 :: (p, o') :: M) := W.putAt [x0, x1, x2, x3, x4, x5] w
end
/-- where the parts of an asker stand -/
structure Ad where
  x : Addr
  dx : Addr
  pa : Addr
  pf : Addr
  pl : Addr
  rd : Addr
  drd : Addr
  d : Addr
  sh : Addr
  dsh : Addr
  st : Addr
  dst : Addr
  r : Addr
def oAsker (K : PySem.W.Frag) (a : Ad) (R : Rul) (s : AS) (vs : V) : HO :=
  .ins (He.ga K "Asker") a.dx (n_Asker.zip [.ref a.st, .ref a.rd, .ref a.sh, .int R.many, .int R.pause, .int R.asks, .int R.pat, .int s.time, sV s.now, .int s.at_, .bl s.due, .int s.tries, .ref a.pa, .ref a.pf, vs, .ref a.pl])
def ShV (I : Hp) (v : V) : Option (Tx × List Tx × Bool) → Prop
  | none => v = .non
  | some (k, rows, old) => ∃ t l, v = .ref t ∧ I t = some (.tup [sV k, .ref l, .bl old]) ∧ I l = some (.lst (rows.map sV))
theorem ShV.mono {I I' : Hp} {v : V} {o : Option (Tx × List Tx × Bool)} (s : Sub I I') (h : ShV I v o) : ShV I' v o := by
  cases o with
  | none => exact h
  | some x => obtain ⟨t, l, h1, h2, h3⟩ := h; exact ⟨t, l, h1, s _ _ h2, s _ _ h3⟩
abbrev dAsked (s : AS) : HO := dI (s.asked.map fun p => (p.1, sV p.2))
abbrev dFly (s : AS) : HO := dI (s.flying.map fun p => (p.1, V.int p.2))
/-- an asker's own things -/
structure AskO (K : PySem.W.Frag) (I : Hp) (a : Ad) (R : Rul) (s : AS) (L : List (Addr × HO)) : Prop where
  ex : ∃ (u : Addr) (o : HO) (vs : V) (lv : List V) (zs : List (V × Ask)),
    L = [(a.x, oAsker K a R s vs), (a.pa, dAsked s), (a.pf, dFly s), (a.pl, .lst lv), (a.rd, oRoad K a.drd a.d s.sent u), (u, .lst (zs.map Prod.fst)), (a.sh, o)] ∧
    I a.d = some (.lst (R.ds.map delV)) ∧ Enc I askD zs ∧ zs.map Prod.snd = uwS s.uw ∧ ShO K I a.dsh R.most R.term s.ks o ∧ RpAll I lv (s.log.map lgD) ∧ ShV I vs s.shown
theorem AskO.mono {K : PySem.W.Frag} {I I' : Hp} {a : Ad} {R : Rul} {s : AS} {L : List (Addr × HO)} (h : AskO K I a R s L) (sb : Sub I I') : AskO K I' a R s L := by
  obtain ⟨u, o, vs, lv, zs, h1, h2, h3, h4, h5, h6, h7⟩ := h
  exact ⟨u, o, vs, lv, zs, h1, sb _ _ h2, h3.mono sb, h4, h5.mono sb, h6.mono sb, h7.mono sb⟩
structure AskW (K : PySem.W.Frag) (I H : Hp) (a : Ad) (R : Rul) (rows : List Tx) (s : AS) (M : List (Addr × HO)) : Prop where
  ex : ∃ L, AskO K I a R s L ∧ W I H (L ++ M) ∧ Ls I M a.st (oStore K a.dst a.r) ∧ Ls I M a.r (.lst (rows.map sV))
section
variable {K : PySem.W.Frag} {I I' H H' : Hp} {a : Ad} {R : Rul} {rows : List Tx} {s : AS} {M : List (Addr × HO)}
theorem AskW.same (h : AskW K I H a R rows s M) (e : Same H H') : AskW K I H' a R rows s M := by
  obtain ⟨L, h1, h2, h3, h4⟩ := h
  exact ⟨L, h1, h2.same e, h3, h4⟩
theorem AskW.sub (h : AskW K I H a R rows s M) : Sub I H := by
  obtain ⟨L, h1, h2, h3, h4⟩ := h
  exact h2.sub
theorem AskW.noI {p : Addr} (h : AskW K I H a R rows s M) (hp : H p = none) : I p = none := by
  obtain ⟨L, h1, h2, h3, h4⟩ := h
  exact h2.noI hp
theorem AskW.mkI {p : Addr} (h : AskW K I H a R rows s M) (hp : H p = none) (o : HO) : ∃ I', Sub I I' ∧ AskW K I' (upd H p o) a R rows s M ∧ I' p = some o := by
  obtain ⟨L, h1, h2, h3, h4⟩ := h
  obtain ⟨I', sb, w, e⟩ := h2.mkI hp o
  exact ⟨I', sb, ⟨L, h1.mono sb, w, h3.mono sb, h4.mono sb⟩, e⟩
theorem AskW.newM {p : Addr} {o : HO} (h : AskW K I H a R rows s M) (hp : H p = none) : AskW K I (upd H p o) a R rows s ((p, o) :: M) := by
  obtain ⟨L, h1, h2, h3, h4⟩ := h
  exact ⟨L, h1, (h2.newM hp).perm List.perm_middle, h3.cons, h4.cons⟩
theorem AskW.skip {p : Addr} {o : HO} (h : AskW K I H a R rows s M) (hp : H p = none) : AskW K I (upd H p o) a R rows s M := by
  obtain ⟨L, h1, h2, h3, h4⟩ := h
  exact ⟨L, h1, h2.skip hp, h3, h4⟩
theorem AskW.obj (h : AskW K I H a R rows s M) : ∃ vs, H a.x = some (oAsker K a R s vs) ∧ ShV I vs s.shown := by
  obtain ⟨L, ⟨u, o, vs, lv, zs, rfl, h2, h3, h4, h5, h6, h7⟩, w, l1, l2⟩ := h
  exact ⟨vs, w.has.1, h7⟩
theorem use_fold {l : Tx} {H : Hp} {Q : VK} {E : XK} (h : okL 12 l = true) (q : ∀ H', Same H H' → Q (sV (foldL l)) H') : sp_folded K [sV l] H Q E :=
  ⟨l, rfl, by have := okL_len h; omega, fun H' s => by rw [if_pos (okL_le h (by decide))]; exact q H' s⟩
end
def wV : Option Tx → V
  | none => .non
  | some k => sV k
/-- what each method takes -/
def askP (K : PySem.W.Frag) (H : Hp) (I : Hp) (M : List (Addr × HO)) (a : Ad) (R : Rul) (rows : List Tx) (s : AS) : Prop := AskW K I H a R rows s M ∧ OkS R 0 s ∧ rowsOk rows ∧ s.sent ≤ 300000
def sp_Asker_clock (K : PySem.W.Frag) : Sp := fun vs H Q _ => ∃ (I : Hp) (M : List (Addr × HO)) (a : Ad) (R : Rul) (rows : List Tx) (s : AS), vs = [.ref a.x] ∧ AskW K I H a R rows s M ∧ Q (.int s.time) H
def sp_Asker_typed (K : PySem.W.Frag) : Sp := fun vs H Q _ => ∃ (I : Hp) (M : List (Addr × HO)) (a : Ad) (R : Rul) (rows : List Tx) (s : AS), vs = [.ref a.x] ∧ AskW K I H a R rows s M ∧ Q (sV s.now) H
def sp_Asker_is_waiting (K : PySem.W.Frag) : Sp := fun vs H Q _ => ∃ (I : Hp) (M : List (Addr × HO)) (a : Ad) (R : Rul) (rows : List Tx) (s : AS), vs = [.ref a.x] ∧ AskW K I H a R rows s M ∧ Q (.bl (s.due || !s.asked.isEmpty)) H
def sp_Asker_log (K : PySem.W.Frag) : Sp := fun vs H Q _ => ∃ (I : Hp) (M : List (Addr × HO)) (a : Ad) (R : Rul) (rows : List Tx) (s : AS), vs = [.ref a.x] ∧ AskW K I H a R rows s M ∧
  ∀ (H' : Hp) (p : Addr) (lv : List V), AskW K I H' a R rows s ((p, .lst lv) :: M) → RpAll I lv (s.log.map lgD) → Q (.ref p) H'
def sp_Asker_is_fresh (K : PySem.W.Frag) : Sp := fun vs H Q _ => ∃ (I : Hp) (M : List (Addr × HO)) (a : Ad) (R : Rul) (rows : List Tx) (s : AS), vs = [.ref a.x] ∧ AskW K I H a R rows s M ∧ okL 12 s.now = true ∧ s.shown ≠ none ∧
  ∀ H', Same H H' → Q (.bl (freshS s)) H'
def sp_Asker_drop_other (K : PySem.W.Frag) : Sp := fun vs H Q _ => ∃ (I : Hp) (M : List (Addr × HO)) (a : Ad) (R : Rul) (rows : List Tx) (s : AS) (k : Nat) (w : Option Tx), vs = [.ref a.x, wV w] ∧ AskW K I H a R rows s M ∧ OkS R k s ∧ s.sent ≤ 300001 ∧
  ∀ I' H', Sub I I' → AskW K I' H' a R rows (dropS s w) M → Q .non H'
def sp_Asker_show (K : PySem.W.Frag) : Sp := fun vs H Q _ => ∃ (I : Hp) (M : List (Addr × HO)) (a : Ad) (R : Rul) (rows : List Tx) (s : AS) (k : Nat) (l : Addr) (rs : List Tx), vs = [.ref a.x, .ref l] ∧ AskW K I H a R rows s M ∧ OkS R k s ∧ s.sent ≤ 300001 ∧ I l = some (.lst (rs.map sV)) ∧ rowsOk rs ∧
  ∀ I' H', Sub I I' → AskW K I' H' a R rows (showS s rs) M → Q .non H'
def sp_Asker_look_near (K : PySem.W.Frag) : Sp := fun vs H Q _ => ∃ (I : Hp) (M : List (Addr × HO)) (a : Ad) (R : Rul) (rows : List Tx) (s : AS) (k : Nat), vs = [.ref a.x] ∧ AskW K I H a R rows s M ∧ OkS R k s ∧ s.sent ≤ 300001 ∧
  ∀ I' H', Sub I I' → AskW K I' H' a R rows (nearS R s) M → Q .non H'
def sp_Asker_ask_if_due (K : PySem.W.Frag) : Sp := fun vs H Q _ => ∃ (I : Hp) (M : List (Addr × HO)) (a : Ad) (R : Rul) (rows : List Tx) (s : AS) (k : Nat), vs = [.ref a.x] ∧ AskW K I H a R rows s M ∧ OkS R k s ∧ s.sent ≤ 30000 ∧
  ∀ I' H', Sub I I' → AskW K I' H' a R rows (askS R s) M → Q .non H'
def sp_Asker_try_again (K : PySem.W.Frag) : Sp := fun vs H Q _ => ∃ (I : Hp) (M : List (Addr × HO)) (a : Ad) (R : Rul) (rows : List Tx) (s : AS) (k : Nat), vs = [.ref a.x] ∧ AskW K I H a R rows s M ∧ OkS R k s ∧ s.sent ≤ 300001 ∧
  ∀ I' H', Sub I I' → AskW K I' H' a R rows (againT R s) M → Q .non H'
def sp_Asker_step (K : PySem.W.Frag) : Sp := fun vs H Q _ => ∃ (I : Hp) (M : List (Addr × HO)) (a : Ad) (R : Rul) (rows : List Tx) (s : AS), vs = [.ref a.x] ∧ AskW K I H a R rows s M ∧ OkS R 0 s ∧ rowsOk rows ∧ s.sent ≤ 30000 ∧
  ∀ I' H', Sub I I' → AskW K I' H' a R rows (stepS R rows s) M → Q .non H'
def tickOk (n : Int) : Bool := decide (0 ≤ n ∧ n ≤ 100)
def sp_Asker_tick (K : PySem.W.Frag) : Sp := fun vs H Q E => ∃ (I : Hp) (M : List (Addr × HO)) (a : Ad) (R : Rul) (rows : List Tx) (s : AS) (n : Int), vs = [.ref a.x, .int n] ∧ AskW K I H a R rows s M ∧ OkS R 0 s ∧ rowsOk rows ∧ s.sent ≤ 29000 ∧
  (tickOk n = true → ∀ I' H', Sub I I' → AskW K I' H' a R rows (tickS R rows n.toNat s) M → Q .non H') ∧ (tickOk n = false → E (bN K) none H)
def sp_Asker_put (K : PySem.W.Frag) : Sp := fun vs H Q E => ∃ (I : Hp) (M : List (Addr × HO)) (a : Ad) (R : Rul) (rows : List Tx) (s : AS) (t : Tx), vs = [.ref a.x, sV t] ∧ AskW K I H a R rows s M ∧ OkS R 0 s ∧ s.sent ≤ 29000 ∧ t.length ≤ 1000000 ∧
  (okL 12 t = true → ∀ I' H', Sub I I' → AskW K I' H' a R rows (putS R s t) M → Q .non H') ∧ (okL 12 t = false → ∀ H', Same H H' → E (bT K) none H')
def sp_Asker_key (K : PySem.W.Frag) : Sp := fun vs H Q E => ∃ (I : Hp) (M : List (Addr × HO)) (a : Ad) (R : Rul) (rows : List Tx) (s : AS) (t : Tx), vs = [.ref a.x, sV t] ∧ AskW K I H a R rows s M ∧ OkS R 0 s ∧ s.sent ≤ 29000 ∧ t.length ≤ 1000 ∧
  (okL 12 (s.now ++ t) = true → ∀ I' H', Sub I I' → AskW K I' H' a R rows (putS R s (s.now ++ t)) M → Q .non H') ∧ (okL 12 (s.now ++ t) = false → ∀ H', Same H H' → E (bT K) none H')
def sp_Asker_rub (K : PySem.W.Frag) : Sp := fun vs H Q E => ∃ (I : Hp) (M : List (Addr × HO)) (a : Ad) (R : Rul) (rows : List Tx) (s : AS), vs = [.ref a.x] ∧ AskW K I H a R rows s M ∧ OkS R 0 s ∧ s.sent ≤ 29000 ∧
  ∀ I' H', Sub I I' → AskW K I' H' a R rows (putS R s s.now.dropLast) M → Q .non H'
def sp_Asker_again (K : PySem.W.Frag) : Sp := fun vs H Q E => ∃ (I : Hp) (M : List (Addr × HO)) (a : Ad) (R : Rul) (rows : List Tx) (s : AS), vs = [.ref a.x] ∧ AskW K I H a R rows s M ∧ OkS R 0 s ∧ s.sent ≤ 29000 ∧
  (againE s = false → ∀ I' H', Sub I I' → AskW K I' H' a R rows (againS R s) M → Q .non H') ∧ (againE s = true → ∀ H', Same H H' → E (bA K) none H')
def viewW (s : AS) : Tx := match s.shown with
  | none => [110, 111, 116, 104, 105, 110, 103]
  | some _ => if freshS s = true then [102, 114, 101, 115, 104] else [111, 108, 100]
def viewK (s : AS) : Tx := match s.shown with
  | none => []
  | some (k, _, _) => k
def viewR (s : AS) : List Tx := match s.shown with
  | none => []
  | some (_, rs, _) => rs
def sp_Asker_view (K : PySem.W.Frag) : Sp := fun vs H Q E => ∃ (I : Hp) (M : List (Addr × HO)) (a : Ad) (R : Rul) (rows : List Tx) (s : AS), vs = [.ref a.x] ∧ AskW K I H a R rows s M ∧ OkS R 0 s ∧
  ∀ (I' H' : Hp) (t l : Addr), Sub I I' → AskW K I' H' a R rows s ((l, .lst ((viewR s).map sV)) :: M) → I' t = some (.tup [sV (viewW s), sV (viewK s), .ref l]) → Q (.ref t) H'
def rulesOk (R : Rul) : Bool := manyOk R.many && (decide (0 ≤ R.pause ∧ R.pause ≤ 9) && (decide (1 ≤ R.asks ∧ R.asks ≤ 3) && decide (1 ≤ R.pat ∧ R.pat ≤ 40)))
def S0 : AS := ⟨0, [], 0, false, 0, [], [], none, [], 0, [], []⟩
def sp_Asker___init__ (K : PySem.W.Frag) : Sp := fun vs H Q E => ∃ (I : Hp) (M : List (Addr × HO)) (x dx st rd sh drd d u dsh dst r : Addr) (o : HO) (R : Rul) (rows : List Tx), vs = [.ref x, .ref st, .ref rd, .ref sh, .int R.many, .int R.pause, .int R.asks, .int R.pat] ∧
  W I H ((x, .ins (He.ga K "Asker") dx []) :: (rd, oRoad K drd d 0 u) :: (u, .lst []) :: (sh, o) :: M) ∧ I d = some (.lst (R.ds.map delV)) ∧ ShO K I dsh R.most R.term [] o ∧ Ls I M st (oStore K dst r) ∧ Ls I M r (.lst (rows.map sV)) ∧
  (rulesOk R = true → ∀ (I' H' : Hp) (pa pf pl : Addr), Sub I I' → AskW K I' H' ⟨x, dx, pa, pf, pl, rd, drd, d, sh, dsh, st, dst, r⟩ R rows S0 M → Q .non H') ∧ (rulesOk R = false → E (bN K) none H)
def t_Asker___init__ (K : PySem.W.Frag) (E : XK) : TS := tSeq (tDrop (tCall (sp_look_many K) [] E (tCons (tVar 4) (tNil)))) (tSeq (tIfS (tOr (tNot (tTest (tChain (rI0 fun i j => .bl (decide (i ≤ j))) (rI0 fun i j => .bl (decide (i ≤ j))) (tC (.int 0)) (tVar 5) (tC (.int 9))))) (tOr (tNot (tTest (tChain (rI0 fun i j => .bl (decide (i ≤ j))) (rI0 fun i j => .bl (decide (i ≤ j))) (tC (.int 1)) (tVar 6) (tC (.int 3))))) (tNot (tTest (tChain (rI0 fun i j => .bl (decide (i ≤ j))) (rI0 fun i j => .bl (decide (i ≤ j))) (tC (.int 1)) (tVar 7) (tC (.int 40))))))) (fRaise (WD E) (He.ga K "BadNumber")) (tNext)) (tSeq (fSet (He.ga K "Asker") "store" (tVar 0) (tVar 1)) (tSeq (fSet (He.ga K "Asker") "road" (tVar 0) (tVar 2)) (tSeq (fSet (He.ga K "Asker") "shelf" (tVar 0) (tVar 3)) (tSeq (fSet (He.ga K "Asker") "rows_most" (tVar 0) (tVar 4)) (tSeq (fSet (He.ga K "Asker") "pause" (tVar 0) (tVar 5)) (tSeq (fSet (He.ga K "Asker") "asks_most" (tVar 0) (tVar 6)) (tSeq (fSet (He.ga K "Asker") "patience" (tVar 0) (tVar 7)) (tSeq (fSet (He.ga K "Asker") "time" (tVar 0) (tC (.int 0))) (tSeq (fSet (He.ga K "Asker") "now" (tVar 0) (tC (.str ""))) (tSeq (fSet (He.ga K "Asker") "typed_at" (tVar 0) (tC (.int 0))) (tSeq (fSet (He.ga K "Asker") "is_due" (tVar 0) (tC (.bl false))) (tSeq (fSet (He.ga K "Asker") "tries" (tVar 0) (tC (.int 0))) (tSeq (fSet (He.ga K "Asker") "asked" (tVar 0) (fNewI)) (tSeq (fSet (He.ga K "Asker") "flying" (tVar 0) (fNewI)) (tSeq (fSet (He.ga K "Asker") "shown" (tVar 0) (tC .non)) (fSet (He.ga K "Asker") "rows" (tVar 0) (tLst (tNil)))))))))))))))))))
abbrev nn_Asker___init__ : List Str := ["self", "store", "road", "shelf", "many", "pause", "asks", "patience"]
def t_Asker_clock (K : PySem.W.Frag) (E : XK) : TS := tRet (fFld (He.ga K "Asker") "time" (tVar 0))
abbrev nn_Asker_clock : List Str := ["self"]
def t_Asker_typed (K : PySem.W.Frag) (E : XK) : TS := tRet (fFld (He.ga K "Asker") "now" (tVar 0))
abbrev nn_Asker_typed : List Str := ["self"]
def t_Asker_put_B1_2 (K : PySem.W.Frag) (E : XK) : TS := tSeq (fSet (He.ga K "Asker") "now" (tVar 0) (tVar 1)) (tSeq (tDrop (fMeth (He.ga K "Asker") "look_near" (sp_Asker_look_near K) E (tVar 0) (tNil))) (tDrop (fMeth (He.ga K "Asker") "ask_if_due" (sp_Asker_ask_if_due K) E (tVar 0) (tNil))))
def t_Asker_put (K : PySem.W.Frag) (E : XK) : TS := tSeq (tDrop (tCall (sp_look_text K) [] E (tCons (tVar 1) (tCons (tC (.int 12)) (tNil))))) (tSeq (tIfS (tTest (tOp (rNe) (tCall (sp_folded K) [] E (tCons (tVar 1) (tNil))) (tCall (sp_folded K) [] E (tCons (fFld (He.ga K "Asker") "now" (tVar 0)) (tNil))))) (tSeq (tDrop (fMeth (He.ga K "Asker") "drop_other" (sp_Asker_drop_other K) E (tVar 0) (tCons (tCall (sp_folded K) [] E (tCons (tVar 1) (tNil))) (tNil)))) (tSeq (fSet (He.ga K "Asker") "typed_at" (tVar 0) (fFld (He.ga K "Asker") "time" (tVar 0))) (tSeq (fSet (He.ga K "Asker") "is_due" (tVar 0) (tOp (rNe) (tCall (sp_folded K) [] E (tCons (tVar 1) (tNil))) (tC (.str "")))) (fSet (He.ga K "Asker") "tries" (tVar 0) (tC (.int 0)))))) (tNext)) (t_Asker_put_B1_2 K E))
abbrev nn_Asker_put : List Str := ["self", "text"]
def t_Asker_key (K : PySem.W.Frag) (E : XK) : TS := tDrop (fMeth (He.ga K "Asker") "put" (sp_Asker_put K) E (tVar 0) (tCons (tOp (gCatS) (fFld (He.ga K "Asker") "now" (tVar 0)) (tVar 1)) (tNil)))
abbrev nn_Asker_key : List Str := ["self", "sign"]
def t_Asker_rub (K : PySem.W.Frag) (E : XK) : TS := tDrop (fMeth (He.ga K "Asker") "put" (sp_Asker_put K) E (tVar 0) (tCons (tSl rSlS (fFld (He.ga K "Asker") "now" (tVar 0)) (tNoPart) (tPart (tUn (rU fun i => .int (-i)) (tC (.int 1))))) (tNil)))
abbrev nn_Asker_rub : List Str := ["self"]
def t_Asker_drop_other (K : PySem.W.Frag) (E : XK) : TS := fForL (tCB (gListK) (tCons (fBM0 "dict" gKeys (fFld (He.ga K "Asker") "asked" (tVar 0))) (tNil))) (gName 2) (tIfS (tTest (tOp (rNe) (tCall (sp_folded K) [] E (tCons (fGetI (fFld (He.ga K "Asker") "asked" (tVar 0)) (tVar 2)) (tNil))) (tVar 1))) (tSeq (tDrop (fBM "dict" gPop1 (fFld (He.ga K "Asker") "asked" (tVar 0)) (tCons (tVar 2) (tNil)))) (tDrop (fBM "list" rAppend (fFld (He.ga K "Asker") "rows" (tVar 0)) (tCons (tTup (tCons (tC (.str "off")) (tCons (tVar 2) (tNil)))) (tNil))))) (tNext))
abbrev nn_Asker_drop_other : List Str := ["self", "wanted", "number"]
def t_Asker_look_near (K : PySem.W.Frag) (E : XK) : TS := tSeq (tIfS (tTest (tOp (rEq) (tCall (sp_folded K) [] E (tCons (fFld (He.ga K "Asker") "now" (tVar 0)) (tNil))) (tC (.str "")))) (tSeq (fSet (He.ga K "Asker") "is_due" (tVar 0) (tC (.bl false))) (tSeq (fSet (He.ga K "Asker") "shown" (tVar 0) (tC .non)) (tRetN))) (tNext)) (tSeq (tAsg (fMeth (He.ga K "Shelf") "get" (sp_Shelf_get K) E (fFld (He.ga K "Asker") "shelf" (tVar 0)) (tCons (fFld (He.ga K "Asker") "now" (tVar 0)) (tCons (fFld (He.ga K "Asker") "rows_most" (tVar 0)) (tCons (fFld (He.ga K "Asker") "time" (tVar 0)) (tNil))))) (gName 1)) (tIfS (tTest (tOp (rNotN) (tVar 1) (tC .non))) (tDrop (fMeth (He.ga K "Asker") "show" (sp_Asker_show K) E (tVar 0) (tCons (tVar 1) (tNil)))) (tIfS (tAnd (tTest (tOp (rNotN) (fFld (He.ga K "Asker") "shown" (tVar 0)) (tC .non))) (tNot (tB (fMeth (He.ga K "Asker") "is_fresh" (sp_Asker_is_fresh K) E (tVar 0) (tNil))))) (tSeq (tAsg (tCall (sp_best K) [] E (tCons (tOp gIxT (fFld (He.ga K "Asker") "shown" (tVar 0)) (tC (.int 1))) (tCons (fFld (He.ga K "Asker") "now" (tVar 0)) (tCons (fFld (He.ga K "Asker") "rows_most" (tVar 0)) (tNil))))) (gName 2)) (fSet (He.ga K "Asker") "shown" (tVar 0) (tIf (fTru (tVar 2)) (tTup (tCons (tOp gIxT (fFld (He.ga K "Asker") "shown" (tVar 0)) (tC (.int 0))) (tCons (tVar 2) (tCons (tC (.bl true)) (tNil))))) (tC .non)))) (tNext))))
abbrev nn_Asker_look_near : List Str := ["self", "found", "some"]
def t_Asker_is_fresh (K : PySem.W.Frag) (E : XK) : TS := tRet (tAndV (tOp (rEq) (tOp gIxT (fFld (He.ga K "Asker") "shown" (tVar 0)) (tC (.int 0))) (tCall (sp_folded K) [] E (tCons (fFld (He.ga K "Asker") "now" (tVar 0)) (tNil)))) (tNotV (tOp gIxT (fFld (He.ga K "Asker") "shown" (tVar 0)) (tC (.int 2)))))
abbrev nn_Asker_is_fresh : List Str := ["self"]
def t_Asker_show (K : PySem.W.Frag) (E : XK) : TS := tSeq (fSet (He.ga K "Asker") "shown" (tVar 0) (tTup (tCons (tCall (sp_folded K) [] E (tCons (fFld (He.ga K "Asker") "now" (tVar 0)) (tNil))) (tCons (tVar 1) (tCons (tC (.bl false)) (tNil)))))) (tSeq (fSet (He.ga K "Asker") "is_due" (tVar 0) (tC (.bl false))) (tDrop (fMeth (He.ga K "Asker") "drop_other" (sp_Asker_drop_other K) E (tVar 0) (tCons (tC .non) (tNil)))))
abbrev nn_Asker_show : List Str := ["self", "some"]
def t_Asker_ask_if_due (K : PySem.W.Frag) (E : XK) : TS := tSeq (tAsg (tOp (rI0 fun i j => .bl (decide (j ≤ i))) (tOp (rI0 fun i j => .int (i - j)) (fFld (He.ga K "Asker") "time" (tVar 0)) (fFld (He.ga K "Asker") "typed_at" (tVar 0))) (fFld (He.ga K "Asker") "pause" (tVar 0))) (gName 1)) (tIfS (tAnd (tB (fFld (He.ga K "Asker") "is_due" (tVar 0))) (tAnd (tB (tVar 1)) (tTest (tOp (rI0 fun i j => .bl (decide (i < j))) (tCB (gLenI) (tCons (fFld (He.ga K "Asker") "flying" (tVar 0)) (tNil))) (fFld (He.ga K "Asker") "asks_most" (tVar 0)))))) (tSeq (fSet (He.ga K "Asker") "is_due" (tVar 0) (tC (.bl false))) (tSeq (fSet (He.ga K "Asker") "tries" (tVar 0) (tOp (rI0 fun i j => .int (i + j)) (fFld (He.ga K "Asker") "tries" (tVar 0)) (tC (.int 1)))) (tSeq (tAsg (fMeth (He.ga K "Road") "send" (sp_Road_send K) E (fFld (He.ga K "Asker") "road" (tVar 0)) (tCons (fFld (He.ga K "Asker") "now" (tVar 0)) (tCons (fFld (He.ga K "Asker") "time" (tVar 0)) (tNil)))) (gName 2)) (tSeq (fPutI (fFld (He.ga K "Asker") "asked" (tVar 0)) (tVar 2) (fFld (He.ga K "Asker") "now" (tVar 0))) (tSeq (fPutI (fFld (He.ga K "Asker") "flying" (tVar 0)) (tVar 2) (fFld (He.ga K "Asker") "time" (tVar 0))) (tDrop (fBM "list" rAppend (fFld (He.ga K "Asker") "rows" (tVar 0)) (tCons (tTup (tCons (tC (.str "asked")) (tCons (tVar 2) (tCons (tCall (sp_folded K) [] E (tCons (fFld (He.ga K "Asker") "now" (tVar 0)) (tNil))) (tNil))))) (tNil))))))))) (tNext))
abbrev nn_Asker_ask_if_due : List Str := ["self", "is_time", "number"]
def t_Asker_step (K : PySem.W.Frag) (E : XK) : TS := tSeq (fSet (He.ga K "Asker") "time" (tVar 0) (tOp (rI0 fun i j => .int (i + j)) (fFld (He.ga K "Asker") "time" (tVar 0)) (tC (.int 1)))) (tSeq (fForL (fMeth (He.ga K "Road") "due" (sp_Road_due K) E (fFld (He.ga K "Asker") "road" (tVar 0)) (tCons (fFld (He.ga K "Asker") "time" (tVar 0)) (tNil))) (fTup 2 (gCons (gName 1) (gCons (gName 2) (gNil)))) (tSeq (tAsg (fMeth (He.ga K "Store") "answer" (sp_Store_answer K) E (fFld (He.ga K "Asker") "store" (tVar 0)) (tCons (tVar 2) (tCons (fFld (He.ga K "Asker") "rows_most" (tVar 0)) (tNil)))) (fTup 2 (gCons (gName 3) (gCons (gName 4) (gNil))))) (tSeq (tDrop (fBM "dict" gPop2 (fFld (He.ga K "Asker") "flying" (tVar 0)) (tCons (tVar 1) (tCons (tC .non) (tNil))))) (tSeq (tDrop (fMeth (He.ga K "Shelf") "put" (sp_Shelf_put K) E (fFld (He.ga K "Asker") "shelf" (tVar 0)) (tCons (tVar 2) (tCons (tVar 3) (tCons (tVar 4) (tCons (fFld (He.ga K "Asker") "time" (tVar 0)) (tNil))))))) (tIfS (tTest (tOp (gInI) (tVar 1) (fFld (He.ga K "Asker") "asked" (tVar 0)))) (tSeq (tDrop (fBM "dict" gPop1 (fFld (He.ga K "Asker") "asked" (tVar 0)) (tCons (tVar 1) (tNil)))) (tSeq (tDrop (fBM "list" rAppend (fFld (He.ga K "Asker") "rows" (tVar 0)) (tCons (tTup (tCons (tC (.str "came")) (tCons (tVar 1) (tNil)))) (tNil)))) (tDrop (fMeth (He.ga K "Asker") "show" (sp_Asker_show K) E (tVar 0) (tCons (tVar 3) (tNil)))))) (tSeq (tDrop (fBM "list" rAppend (fFld (He.ga K "Asker") "rows" (tVar 0)) (tCons (tTup (tCons (tC (.str "late")) (tCons (tVar 1) (tNil)))) (tNil)))) (tDrop (fMeth (He.ga K "Asker") "look_near" (sp_Asker_look_near K) E (tVar 0) (tNil))))))))) (tSeq (tDrop (fMeth (He.ga K "Asker") "try_again" (sp_Asker_try_again K) E (tVar 0) (tNil))) (tDrop (fMeth (He.ga K "Asker") "ask_if_due" (sp_Asker_ask_if_due K) E (tVar 0) (tNil)))))
abbrev nn_Asker_step : List Str := ["self", "number", "query", "some", "is_all"]
def t_Asker_try_again (K : PySem.W.Frag) (E : XK) : TS := fForL (tCB (gSortK) (tCons (fBM0 "dict" gKeys (fFld (He.ga K "Asker") "flying" (tVar 0))) (tNil))) (gName 1) (tIfS (tTest (tOp (rI0 fun i j => .bl (decide (j ≤ i))) (tOp (rI0 fun i j => .int (i - j)) (fFld (He.ga K "Asker") "time" (tVar 0)) (fGetI (fFld (He.ga K "Asker") "flying" (tVar 0)) (tVar 1))) (fFld (He.ga K "Asker") "patience" (tVar 0)))) (tSeq (tDrop (fBM "dict" gPop1 (fFld (He.ga K "Asker") "flying" (tVar 0)) (tCons (tVar 1) (tNil)))) (tIfS (tTest (tOp (gInI) (tVar 1) (fFld (He.ga K "Asker") "asked" (tVar 0)))) (tSeq (tDrop (fBM "dict" gPop1 (fFld (He.ga K "Asker") "asked" (tVar 0)) (tCons (tVar 1) (tNil)))) (tSeq (tDrop (fBM "list" rAppend (fFld (He.ga K "Asker") "rows" (tVar 0)) (tCons (tTup (tCons (tC (.str "lost")) (tCons (tVar 1) (tNil)))) (tNil)))) (fSet (He.ga K "Asker") "is_due" (tVar 0) (tOp (rI0 fun i j => .bl (decide (i < j))) (fFld (He.ga K "Asker") "tries" (tVar 0)) (tC (.int 3)))))) (tNext))) (tNext))
abbrev nn_Asker_try_again : List Str := ["self", "number"]
def t_Asker_tick (K : PySem.W.Frag) (E : XK) : TS := tSeq (tIfS (tNot (tTest (tChain (rI0 fun i j => .bl (decide (i ≤ j))) (rI0 fun i j => .bl (decide (i ≤ j))) (tC (.int 0)) (tVar 1) (tC (.int 100))))) (fRaise (WD E) (He.ga K "BadNumber")) (tNext)) (fForR1 (tCons (tVar 1) (tNil)) (gName 2) (tDrop (fMeth (He.ga K "Asker") "step" (sp_Asker_step K) E (tVar 0) (tNil))))
abbrev nn_Asker_tick : List Str := ["self", "many", "k"]
def t_Asker_again (K : PySem.W.Frag) (E : XK) : TS := tSeq (tIfS (tOr (tTest (tOp (rEq) (tCall (sp_folded K) [] E (tCons (fFld (He.ga K "Asker") "now" (tVar 0)) (tNil))) (tC (.str "")))) (fTru (fFld (He.ga K "Asker") "asked" (tVar 0)))) (fRaise (WD E) (He.ga K "BadAsk")) (tNext)) (tSeq (tDrop (fMeth (He.ga K "Shelf") "clear" (sp_Shelf_clear K) E (fFld (He.ga K "Asker") "shelf" (tVar 0)) (tNil))) (tSeq (fSet (He.ga K "Asker") "is_due" (tVar 0) (tC (.bl true))) (tSeq (fSet (He.ga K "Asker") "tries" (tVar 0) (tC (.int 0))) (tSeq (fSet (He.ga K "Asker") "typed_at" (tVar 0) (tOp (rI0 fun i j => .int (i - j)) (fFld (He.ga K "Asker") "time" (tVar 0)) (fFld (He.ga K "Asker") "pause" (tVar 0)))) (tDrop (fMeth (He.ga K "Asker") "ask_if_due" (sp_Asker_ask_if_due K) E (tVar 0) (tNil)))))))
abbrev nn_Asker_again : List Str := ["self"]
def t_Asker_view_B1_2 (K : PySem.W.Frag) (E : XK) : TS := tRet (tTup (tCons (tVar 1) (tCons (tOp gIxT (fFld (He.ga K "Asker") "shown" (tVar 0)) (tC (.int 0))) (tCons (tCB (gListL) (tCons (tOp gIxT (fFld (He.ga K "Asker") "shown" (tVar 0)) (tC (.int 1))) (tNil))) (tNil)))))
def t_Asker_view (K : PySem.W.Frag) (E : XK) : TS := tSeq (tIfS (tTest (tOp (rIsN) (fFld (He.ga K "Asker") "shown" (tVar 0)) (tC .non))) (tRet (tTup (tCons (tC (.str "nothing")) (tCons (tC (.str "")) (tCons (tLst (tNil)) (tNil)))))) (tNext)) (tSeq (tAsg (tIf (tB (fMeth (He.ga K "Asker") "is_fresh" (sp_Asker_is_fresh K) E (tVar 0) (tNil))) (tC (.str "fresh")) (tC (.str "old"))) (gName 1)) (t_Asker_view_B1_2 K E))
abbrev nn_Asker_view : List Str := ["self", "word"]
def t_Asker_is_waiting (K : PySem.W.Frag) (E : XK) : TS := tRet (tOrV (fFld (He.ga K "Asker") "is_due" (tVar 0)) (tOp (rI0 fun i j => .bl (decide (j < i))) (tCB (gLenI) (tCons (fFld (He.ga K "Asker") "asked" (tVar 0)) (tNil))) (tC (.int 0))))
abbrev nn_Asker_is_waiting : List Str := ["self"]
def t_Asker_log (K : PySem.W.Frag) (E : XK) : TS := tRet (tCB (gListL) (tCons (fFld (He.ga K "Asker") "rows" (tVar 0)) (tNil)))
abbrev nn_Asker_log : List Str := ["self"]
section
variable {K : PySem.W.Frag}
theorem len_Asker___init__ : ∀ vs H Q E, sp_Asker___init__ K vs H Q E → vs.length = ["self", "store", "road", "shelf", "many", "pause", "asks", "patience"].length := by
  rintro _ _ _ _ ⟨_, _, _, _, _, _, _, _, _, _, _, _, _, _, _, _, rfl, _⟩; rfl
theorem len_Asker_clock : ∀ vs H Q E, sp_Asker_clock K vs H Q E → vs.length = ["self"].length := by
  rintro _ _ _ _ ⟨_, _, _, _, _, _, rfl, _⟩; rfl
theorem len_Asker_typed : ∀ vs H Q E, sp_Asker_typed K vs H Q E → vs.length = ["self"].length := by
  rintro _ _ _ _ ⟨_, _, _, _, _, _, rfl, _⟩; rfl
theorem len_Asker_is_waiting : ∀ vs H Q E, sp_Asker_is_waiting K vs H Q E → vs.length = ["self"].length := by
  rintro _ _ _ _ ⟨_, _, _, _, _, _, rfl, _⟩; rfl
theorem len_Asker_log : ∀ vs H Q E, sp_Asker_log K vs H Q E → vs.length = ["self"].length := by
  rintro _ _ _ _ ⟨_, _, _, _, _, _, rfl, _⟩; rfl
theorem len_Asker_is_fresh : ∀ vs H Q E, sp_Asker_is_fresh K vs H Q E → vs.length = ["self"].length := by
  rintro _ _ _ _ ⟨_, _, _, _, _, _, rfl, _⟩; rfl
theorem len_Asker_drop_other : ∀ vs H Q E, sp_Asker_drop_other K vs H Q E → vs.length = ["self", "wanted"].length := by
  rintro _ _ _ _ ⟨_, _, _, _, _, _, _, _, rfl, _⟩; rfl
theorem len_Asker_show : ∀ vs H Q E, sp_Asker_show K vs H Q E → vs.length = ["self", "some"].length := by
  rintro _ _ _ _ ⟨_, _, _, _, _, _, _, _, _, rfl, _⟩; rfl
theorem len_Asker_look_near : ∀ vs H Q E, sp_Asker_look_near K vs H Q E → vs.length = ["self"].length := by
  rintro _ _ _ _ ⟨_, _, _, _, _, _, _, rfl, _⟩; rfl
theorem len_Asker_ask_if_due : ∀ vs H Q E, sp_Asker_ask_if_due K vs H Q E → vs.length = ["self"].length := by
  rintro _ _ _ _ ⟨_, _, _, _, _, _, _, rfl, _⟩; rfl
theorem len_Asker_try_again : ∀ vs H Q E, sp_Asker_try_again K vs H Q E → vs.length = ["self"].length := by
  rintro _ _ _ _ ⟨_, _, _, _, _, _, _, rfl, _⟩; rfl
theorem len_Asker_step : ∀ vs H Q E, sp_Asker_step K vs H Q E → vs.length = ["self"].length := by
  rintro _ _ _ _ ⟨_, _, _, _, _, _, rfl, _⟩; rfl
theorem len_Asker_tick : ∀ vs H Q E, sp_Asker_tick K vs H Q E → vs.length = ["self", "many"].length := by
  rintro _ _ _ _ ⟨_, _, _, _, _, _, _, rfl, _⟩; rfl
theorem len_Asker_put : ∀ vs H Q E, sp_Asker_put K vs H Q E → vs.length = ["self", "text"].length := by
  rintro _ _ _ _ ⟨_, _, _, _, _, _, _, rfl, _⟩; rfl
theorem len_Asker_key : ∀ vs H Q E, sp_Asker_key K vs H Q E → vs.length = ["self", "sign"].length := by
  rintro _ _ _ _ ⟨_, _, _, _, _, _, _, rfl, _⟩; rfl
theorem len_Asker_rub : ∀ vs H Q E, sp_Asker_rub K vs H Q E → vs.length = ["self"].length := by
  rintro _ _ _ _ ⟨_, _, _, _, _, _, rfl, _⟩; rfl
theorem len_Asker_again : ∀ vs H Q E, sp_Asker_again K vs H Q E → vs.length = ["self"].length := by
  rintro _ _ _ _ ⟨_, _, _, _, _, _, rfl, _⟩; rfl
theorem len_Asker_view : ∀ vs H Q E, sp_Asker_view K vs H Q E → vs.length = ["self"].length := by
  rintro _ _ _ _ ⟨_, _, _, _, _, _, rfl, _⟩; rfl
theorem pure_Asker_clock : ∀ vs H Q E, sp_Asker_clock K vs H Q E → t_Asker_clock K E { nx := fun _ H2 => Q .non H2, rt := Q } (L2.start nn_Asker_clock vs) H := by
  rintro vs H Q E ⟨I, M, a, R, rows, s, rfl, w, hQ⟩
  obtain ⟨vs, hx, _⟩ := w.obj
  unfold t_Asker_clock oAsker at *
  simp! [hx, lk_Asker_time]
  exact hQ
theorem pure_Asker_typed : ∀ vs H Q E, sp_Asker_typed K vs H Q E → t_Asker_typed K E { nx := fun _ H2 => Q .non H2, rt := Q } (L2.start nn_Asker_typed vs) H := by
  rintro vs H Q E ⟨I, M, a, R, rows, s, rfl, w, hQ⟩
  obtain ⟨vs, hx, _⟩ := w.obj
  unfold t_Asker_typed oAsker at *
  simp! [hx, lk_Asker_now]
  exact hQ
theorem pure_Asker_is_waiting : ∀ vs H Q E, sp_Asker_is_waiting K vs H Q E → t_Asker_is_waiting K E { nx := fun _ H2 => Q .non H2, rt := Q } (L2.start nn_Asker_is_waiting vs) H := by
  rintro vs H Q E ⟨I, M, a, R, rows, s, rfl, w, hQ⟩
  obtain ⟨L, ⟨u, o, vs, lv, zs, rfl, hd, en, es, so, rl, hs⟩, w, l1, l2⟩ := w
  have hx := w.has.1
  have ha := w.has.2.1
  unfold t_Asker_is_waiting oAsker at *
  simp! [hx, lk_Asker_is_due, lk_Asker_asked]
  cases hd : s.due with
  | true => rw [if_pos rfl]; rw [hd] at hQ; exact hQ
  | false =>
    rw [if_neg (by decide)]
    rw [hd] at hQ
    refine ⟨_, ha, ?_⟩
    have e : decide ((0 : Int) < ((s.asked.map fun p => (p.1, sV p.2)).length : Nat)) = !s.asked.isEmpty := by
      cases s.asked <;> simp
    rw [e]; exact hQ
theorem pure_Asker_log : ∀ vs H Q E, sp_Asker_log K vs H Q E → t_Asker_log K E { nx := fun _ H2 => Q .non H2, rt := Q } (L2.start nn_Asker_log vs) H := by
  rintro vs H Q E ⟨I, M, a, R, rows, s, rfl, w, hQ⟩
  obtain ⟨L, ⟨u, o, vs, lv, zs, rfl, hd, en, es, so, rl, hs⟩, w, l1, l2⟩ := w
  have hx := w.has.1
  have ha := w.has.2.2.2.1
  unfold t_Asker_log oAsker at *
  simp! [hx, lk_Asker_rows, ha]
  intro p hp
  exact hQ _ p lv (AskW.newM ⟨_, ⟨u, o, vs, lv, zs, rfl, hd, en, es, so, rl, hs⟩, w, l1, l2⟩ hp) rl
theorem freshS_some {s : AS} {k : Tx} {rs : List Tx} {old : Bool} (h : s.shown = some (k, rs, old)) : freshS s = (decide (k = foldL s.now) && !old) := by
  unfold freshS; rw [h]
theorem at3_0 {a b c : V} : atI [a, b, c] 0 = some a := atN (i := 0) rfl
theorem at3_1 {a b c : V} : atI [a, b, c] 1 = some b := atN (i := 1) rfl
theorem pure_Asker_is_fresh : ∀ vs H Q E, sp_Asker_is_fresh K vs H Q E → t_Asker_is_fresh K E { nx := fun _ H2 => Q .non H2, rt := Q } (L2.start nn_Asker_is_fresh vs) H := by
  rintro vs H Q E ⟨I, M, a, R, rows, s, rfl, w, ok, hne, hQ⟩
  obtain ⟨vs, hx, hs⟩ := w.obj
  cases hsh : s.shown with
  | none => exact absurd hsh hne
  | some v =>
    obtain ⟨k, rs, old⟩ := v
    rw [hsh] at hs
    obtain ⟨t, l, rfl, h1, h2⟩ := hs
    have h1' := w.sub _ _ h1
    unfold t_Asker_is_fresh oAsker at *
    simp! [hx, lk_Asker_shown, lk_Asker_now, h1', at3_0]
    refine use_fold ok fun H' sm => ?_
    rw [freshS_some hsh] at hQ
    simp! [S_eq, sm _ _ hx, lk_Asker_shown, sm _ _ h1', at3_2]
    by_cases c : k = foldL s.now
    · rw [decide_eq_true c] at hQ
      rw [if_pos (decide_eq_true c)]
      exact hQ H' sm
    · rw [decide_eq_false c] at hQ
      rw [if_neg (by rw [decide_eq_false c]; decide)]
      exact hQ H' sm
end
end TA

set_option linter.all false
set_option maxRecDepth 100000
set_option maxHeartbeats 1000000
/-! Askers: calling off, showing, looking near, asking. -/
namespace TA
open PySem L2 PyProof.Rows
open SX (S S_len S_inj S_cat S_tl)
local macro_rules | `(tactic| simp! [$as,*]) => `(tactic| first | simp only [L2.start, tSeq, tAsg, tOp, fFld, tVar, gIxL, gIxT, tCB, tCons, tNil, gLenL, gLenT, gLenS, rI, rI0, fSet, tIfS, tTest, tB, rNotN, rIsN, rEq, rNe, tC, tDrop, fBM, fBM0, gTy, rAppend, tTup, tLst, tRet, tRetN, tNext, gName, fTup, gCons, gNil, tCall, fCallS, fMeth, tMeth, fMethS, fMake, tMake, fMakeS, tUn, rU, tAnd, tOr, tNot, tAndV, tOrV, tNotV, tIf, tChain, gListL, gListT, tSl, tNoPart, tPart, gSlL, fRaise, gStrI, gCatS, gMin2, gMax2, gIntB, tYes, fLcL, fLcT, fLcS, fLcR1, fForL, fForR1, fForR2, fRev, fGetI, gGetI, gInI, gLenI, fPutI, fNewI,
  List.map_cons, List.map_nil, List.length_cons, List.length_nil, List.replicate, List.cons_append, List.nil_append, List.append_nil, List.getElem?_cons_zero, List.getElem?_cons_succ, List.set_cons_zero, List.set_cons_succ, reduceIte, Bool.not_true, Bool.not_false, Nat.reduceAdd, Nat.reduceSub, Bool.false_eq_true, eq_self,
  Option.some.injEq, V.int.injEq, V.ref.injEq, V.str.injEq, V.bl.injEq, HO.ins.injEq, HO.lst.injEq, HO.tup.injEq, HO.dK.injEq, List.cons.injEq, and_assoc, exists_eq_left', exists_and_left, and_true, true_and, true_or, or_true, false_or, or_false, exists_eq_left, exists_eq_right, exists_eq_right', exists_eq, exists_eq', exists_const, upd_same, sc_ii, sc_ss, sc_bb, sc_in, sc_ni, sc_ns, sc_sn, sc_nn, $as,*] | skip)
section
variable {K : PySem.W.Frag}
structure PDrop (K : PySem.W.Frag) (I : Hp) (a : Ad) (R : Rul) (rows : List Tx) (s : AS) (w : Option Tx) (M : List (Addr × HO)) (i : Nat) (σ : L2.St) (H : Hp) : Prop where
  ex : ∃ (I' : Hp) (v : Option V), σ = [some (.ref a.x), some (wV w), v] ∧ Sub I I' ∧ AskW K I' H a R rows (dropPre s w i) M
theorem wV_ne {k : Tx} {w : Option Tx} : (sV k = wV w) ↔ some k = w := by
  cases w with
  | none => simp [wV]
  | some x => simp [wV, S_eq]
theorem scal_w {k : Tx} {w : Option Tx} : scal (sV k) (wV w) = true := by cases w <;> rfl
theorem keys_asked (l : List (Int × Tx)) : ((l.map fun p => (p.1, sV p.2)).map fun p => ((Sum.inl p.1 : L2.Key), p.2)).map (fun kv => kV kv.1) = (l.map (·.1)).map V.int := by
  simp [kV]
theorem pure_Asker_drop_other : ∀ vs H Q E, sp_Asker_drop_other K vs H Q E → t_Asker_drop_other K E { nx := fun _ H2 => Q .non H2, rt := Q } (L2.start nn_Asker_drop_other vs) H := by
  rintro vs H Q E ⟨I, M, a, R, rows, s, k, wt, rfl, aw, ok, hse, hQ⟩
  have hb := line_big
  obtain ⟨L, ⟨u, o, vs, lv, zs, rfl, hd, en, es, so, rl, hs⟩, w, l1, l2⟩ := id aw
  have hx := w.has.1
  have ha := w.has.2.1
  unfold t_Asker_drop_other
  unfold oAsker at hx
  simp! [hx, lk_Asker_asked, gKeys, gListK]
  refine ⟨.inr ⟨_, ha⟩, _, ha, fun p hp => ⟨a.pa, rfl, _, (w.skip hp).has.2.1, fun p1 hp1 => ?_⟩⟩
  rw [keys_asked]
  obtain ⟨I1, s1, aw1, h1⟩ := (aw.skip (o := KwO a.pa p) hp).mkI hp1 (.lst ((s.asked.map (·.1)).map V.int))
  refine ⟨PDrop K I1 a R rows s wt M, ⟨I1, _, rfl, Sub.refl _, by rw [dropPre_0]; exact aw1⟩, ?_, ?_, ?_⟩
  · rintro i σ H' _ ⟨I', v, rfl, s', aw'⟩
    exact aw'.sub _ _ (s' _ _ h1)
  · rintro i x σ H' hi ⟨I', v, rfl, s', aw'⟩
    rw [List.map_map, List.getElem?_map, Option.map_eq_some_iff] at hi
    obtain ⟨pr, hpr, rfl⟩ := hi
    obtain ⟨e1, e2⟩ := nd_pre (w := wt) ok.na hpr
    have nd2 := pre_nd (w := wt) (i := i) ok.na
    have hlk := lk_asked nd2 e2
    have okp := (ok.qa pr (List.mem_of_getElem? hpr)).1
    obtain ⟨L, ⟨u, o, vs, lv, zs, rfl, hd, en, es, so, rl, hs⟩, w', l1, l2⟩ := id aw'
    have hx' := w'.has.1
    have ha' := w'.has.2.1
    unfold oAsker at hx'
    simp! [Function.comp, hx', lk_Asker_asked]
    refine ⟨_, ha', _, hlk, use_fold okp fun H2 sm => ?_⟩
    have aw2 := aw'.same sm
    have w2 := w'.same sm
    have hx2 := w2.has.1
    have ha2 := w2.has.2.1
    have hl2 := w2.has.2.2.2.1
    unfold oAsker at hx2
    refine ⟨scal_w, ?_⟩
    by_cases c : some (foldL pr.2) = wt
    · rw [if_neg (by rw [decide_eq_true (wV_ne.mpr c)]; decide)]
      exact ⟨I', _, rfl, s', by rw [dropPre_keep hpr (decide_eq_true c)]; exact aw2⟩
    · rw [if_pos (by rw [decide_eq_false (fun h => c (wV_ne.mp h))]; decide)]
      simp! [hx2, lk_Asker_asked, gPop1]
      refine ⟨.inr ⟨_, ha2⟩, _, ha2, _, hlk, ?_⟩
      rw [drop_asked, e1]
      have w3 := w2.put1 (o' := dI (((s.asked.take i).filter (keepA wt) ++ s.asked.drop (i + 1)).map fun p => (p.1, sV p.2)))
      have hx3 := w3.has.1
      have hl3 := w3.has.2.2.2.1
      unfold oAsker at hx3
      simp! [hx3, lk_Asker_rows, hl3]
      refine ⟨two_le, fun p4 hp4 => ?_⟩
      obtain ⟨I4, s4, w4, h4⟩ := w3.mkI hp4 (.tup [.str "off", .int pr.1])
      have hlen : lv.length < sizeLine := by
        have := rl.length
        have := ok.lg
        have : (dropPre s wt i).log.length ≤ s.log.length + s.asked.length := by
          unfold dropPre
          simp only [List.length_append, List.length_map]
          have := List.length_filter_le (fun p => !keepA wt p) (s.asked.take i)
          rw [List.length_take] at this
          omega
        rw [List.length_map] at *
        omega
      refine ⟨_, w4.has.2.2.2.1, hlen, ?_⟩
      refine ⟨I4, _, rfl, s'.trans s4, ?_⟩
      rw [dropPre_off hpr (decide_eq_false c)]
      refine ⟨_, ⟨u, o, vs, lv ++ [.ref p4], zs, rfl, s4 _ _ hd, en.mono s4, es, so.mono s4, ?_, hs.mono s4⟩, w4.put3 (o' := .lst (lv ++ [.ref p4])), l1.mono s4, l2.mono s4⟩
      rw [List.map_append]
      exact (rl.mono s4).snoc (.tup h4 (.cons (.str _) (.cons (.int _) .nil)))
  · rintro σ H' ⟨I', v, rfl, s', aw'⟩
    have e : (List.map V.int (List.map (fun x => x.fst) s.asked)).length = s.asked.length := by simp
    rw [e, dropPre_all] at aw'
    exact hQ I' H' (s1.trans s') aw'
theorem pure_Asker_show : ∀ vs H Q E, sp_Asker_show K vs H Q E → t_Asker_show K E { nx := fun _ H2 => Q .non H2, rt := Q } (L2.start nn_Asker_show vs) H := by
  rintro vs H Q E ⟨I, M, a, R, rows, s, k, l, rs, rfl, aw, ok, hse, hl, ro, hQ⟩
  obtain ⟨L, ⟨u, o, vs, lv, zs, rfl, hd, en, es, so, rl, hs⟩, w, l1, l2⟩ := id aw
  have hx := w.has.1
  unfold t_Asker_show
  unfold oAsker at hx
  simp! [hx, lk_Asker_now]
  refine use_fold ok.now fun H1 sm => ?_
  have w1 := w.same sm
  refine ⟨three_le, fun p hp => ?_⟩
  obtain ⟨I2, s2, w2, h2⟩ := w1.mkI hp (.tup [sV (foldL s.now), .ref l, .bl false])
  refine ⟨_, _, w2.has.1, ln_Asker, ?_⟩
  simp! [pf_Asker_shown, pf_Asker_is_due, ln_Asker, no_Asker_drop_other]
  have w3 := (w2.put (o' := oAsker K a R s (.ref p))).put (o' := oAsker K a R { s with due := false } (.ref p))
  refine ⟨I2, M, a, R, rows, { s with shown := some (foldL s.now, rs, false), due := false }, k, none, rfl, ⟨_, ⟨u, o, .ref p, lv, zs, rfl, s2 _ _ hd, en.mono s2, es, so.mono s2, rl.mono s2, ⟨p, l, rfl, h2, s2 _ _ hl⟩⟩, w3, l1.mono s2, l2.mono s2⟩, { ok with sh := fun _ _ _ e => by cases e; exact ro }, hse, fun I' H' sb aw' => hQ I' H' (s2.trans sb) aw'⟩
theorem sendU_S {R : Rul} {s : AS} : sentUw R.ds s.sent (uwS s.uw) (S s.now) s.time = uwS (sendU R s) := by
  unfold sentUw sendU
  cases nextDelay R.ds s.sent with
  | none => rfl
  | some d => simp [uwS, uw1]
theorem lkI_none {kvs : List (Int × V)} {k : Int} (h : ∀ p ∈ kvs, p.1 ≠ k) : lkI kvs k = none := by
  unfold lkI
  rw [Option.map_eq_none_iff, List.find?_eq_none]
  intro p hp
  simpa using h p hp
theorem lk_new {l : List (Int × Tx)} {n : Nat} (h : ∀ p ∈ l, p.1 ≤ n) : lkI (l.map fun p => (p.1, sV p.2)) ((n + 1 : Nat) : Int) = none := lkI_none fun p hp => by
  obtain ⟨q, hq, rfl⟩ := List.mem_map.mp hp
  have := h q hq
  simp only []; omega
theorem lk_newF {l : List (Int × Int)} {n : Nat} (h : ∀ p ∈ l, p.1 ≤ n) : lkI (l.map fun p => (p.1, V.int p.2)) ((n + 1 : Nat) : Int) = none := lkI_none fun p hp => by
  obtain ⟨q, hq, rfl⟩ := List.mem_map.mp hp
  have := h q hq
  simp only []; omega
theorem pure_Asker_ask_if_due : ∀ vs H Q E, sp_Asker_ask_if_due K vs H Q E → t_Asker_ask_if_due K E { nx := fun _ H2 => Q .non H2, rt := Q } (L2.start nn_Asker_ask_if_due vs) H := by
  rintro vs H Q E ⟨I, M, a, R, rows, s, k, rfl, aw, ok, hse, hQ⟩
  have hb := line_big
  obtain ⟨L, ⟨u, o, vs, lv, zs, rfl, hd, en, es, so, rl, hs⟩, w, l1, l2⟩ := id aw
  have hx := w.has.1
  have hf := w.has.2.2.1
  unfold t_Asker_ask_if_due
  unfold oAsker at hx
  simp! [hx, lk_Asker_time, lk_Asker_typed_at, lk_Asker_pause, lk_Asker_is_due]
  have hno : ¬ (s.due = true ∧ R.pause ≤ s.time - s.at_ ∧ (s.flying.length : Int) < R.asks) → Q .non H := fun h => by
    have := hQ I H (Sub.refl _)
    unfold askS at this
    rw [if_neg h] at this
    exact this aw
  by_cases c1 : s.due = true
  · rw [if_pos c1]
    by_cases c2 : R.pause ≤ s.time - s.at_
    · refine ite_t c2 ?_
      simp! [hx, lk_Asker_flying, lk_Asker_asks_most]
      refine ⟨_, hf, ?_⟩
      rw [List.length_map]
      by_cases c3 : (s.flying.length : Int) < R.asks
      · refine ite_t c3 ?_
        have hQ := fun I' H' sb => hQ I' H' sb
        unfold askS at hQ
        simp only [if_pos (And.intro c1 (And.intro c2 c3))] at hQ
        simp! [pf_Asker_is_due, pf_Asker_tries, ln_Asker, lk_Asker_tries, lk_Asker_road]
        have w2 := (w.put (o' := oAsker K a R { s with due := false } vs)).put (o' := oAsker K a R { s with due := false, tries := s.tries + 1 } vs)
        refine ⟨_, _, w2.has.2.2.2.2.1, no_Road_send, ?_⟩
        simp! [lk_Asker_now, lk_Asker_time]
        have hzl : zs.length = s.uw.length := by
          have := congrArg List.length es
          unfold uwS at this
          rw [List.length_map, List.length_map] at this
          exact this
        have hlg := ok.lg
        refine ⟨I, _, a.rd, a.drd, a.d, u, R.ds, s.sent, zs, S s.now, s.time, rfl, ⟨w2.sel [_, _, _, _, _, _, _] [4, 5, 0, 1, 2, 3, 6], hd, en⟩, ok.ds, by omega, fun I3 H3 zs3 s3 ⟨w3', hd3, en3⟩ es3 => ?_⟩
        have w3 : W I3 H3 ((a.x, oAsker K a R { s with due := false, tries := s.tries + 1 } vs) :: (a.pa, dAsked s) :: (a.pf, dFly s) :: (a.pl, .lst lv) :: (a.rd, oRoad K a.drd a.d ((s.sent + 1 : Nat) : Int) u) :: (u, .lst (zs3.map Prod.fst)) :: (a.sh, o) :: M) := w3'.sel [_, _, _, _, _, _, _] [2, 3, 4, 5, 0, 1, 6]
        rw [es, sendU_S] at es3
        clear w3' w2
        have hx3 := w3.has.1
        have ha3 := w3.has.2.1
        unfold oAsker at hx3
        simp! [hx3, lk_Asker_now, lk_Asker_asked]
        refine ⟨_, ha3, lk_new fun p hp => (ok.qa p hp).2, by rw [List.length_map]; omega, ?_⟩
        have w4 := w3.put1 (o' := dI ((s.asked.map fun p => (p.1, sV p.2)) ++ [(((s.sent + 1 : Nat) : Int), sV s.now)]))
        have hx4 := w4.has.1
        have hf4 := w4.has.2.2.1
        unfold oAsker at hx4
        simp! [hx4, lk_Asker_time, lk_Asker_flying]
        refine ⟨_, hf4, lk_newF fun p hp => ok.fs p hp, by have := ok.fl; rw [List.length_map]; omega, ?_⟩
        have w5 := w4.put2 (o' := dI ((s.flying.map fun p => (p.1, V.int p.2)) ++ [(((s.sent + 1 : Nat) : Int), V.int s.time)]))
        have hx5 := w5.has.1
        have hl5 := w5.has.2.2.2.1
        unfold oAsker at hx5
        simp! [hx5, lk_Asker_rows, hl5, lk_Asker_now]
        refine use_fold ok.now fun H6 sm => ?_
        have w6 := w5.same sm
        refine ⟨three_le, fun p7 hp7 => ?_⟩
        obtain ⟨I7, s7, w7, h7⟩ := w6.mkI hp7 (.tup [.str "asked", .int ((s.sent + 1 : Nat) : Int), sV (foldL s.now)])
        have hlv := rl.length
        rw [List.length_map] at hlv
        refine ⟨_, w7.has.2.2.2.1, by omega, ?_⟩
        have sb := s3.trans s7
        refine hQ I7 _ sb ⟨_, ⟨u, o, vs, lv ++ [.ref p7], zs3, rfl, sb _ _ hd, en3.mono s7, es3, so.mono sb, ?_, hs.mono sb⟩, ?_, l1.mono sb, l2.mono sb⟩
        · rw [List.map_append]
          exact (rl.mono sb).snoc (.tup h7 (.cons (.str _) (.cons (.int _) (.cons (.str _) .nil))))
        · have w8 := w7.put3 (o' := .lst (lv ++ [.ref p7]))
          unfold dAsked dFly
          simp only [List.map_append, List.map_cons, List.map_nil]
          exact w8
      · exact ite_f c3 (hno fun h => c3 h.2.2)
    · refine ite_f c2 (hno fun h => c2 h.2.1)
  · rw [if_neg c1]
    exact hno fun h => c1 h.1
end
end TA

set_option linter.all false
set_option maxRecDepth 100000
set_option maxHeartbeats 1000000
/-! Askers: looking near. -/
namespace TA
open PySem L2 PyProof.Rows
open SX (S S_len S_inj S_cat S_tl)
local macro_rules | `(tactic| simp! [$as,*]) => `(tactic| first | simp only [L2.start, tSeq, tAsg, tOp, fFld, tVar, gIxL, gIxT, tCB, tCons, tNil, gLenL, gLenT, gLenS, rI, rI0, fSet, tIfS, tTest, tB, rNotN, rIsN, rEq, rNe, tC, tDrop, fBM, fBM0, gTy, rAppend, tTup, tLst, tRet, tRetN, tNext, gName, fTup, gCons, gNil, tCall, fCallS, fMeth, tMeth, fMethS, fMake, tMake, fMakeS, tUn, rU, tAnd, tOr, tNot, tAndV, tOrV, tNotV, tIf, tChain, gListL, gListT, tSl, tNoPart, tPart, gSlL, fRaise, gStrI, gCatS, gMin2, gMax2, gIntB, tYes, fLcL, fLcT, fLcS, fLcR1, fForL, fForR1, fForR2, fRev, fGetI, gGetI, gInI, gLenI, fPutI, fNewI,
  List.map_cons, List.map_nil, List.length_cons, List.length_nil, List.replicate, List.cons_append, List.nil_append, List.append_nil, List.getElem?_cons_zero, List.getElem?_cons_succ, List.set_cons_zero, List.set_cons_succ, reduceIte, Bool.not_true, Bool.not_false, Nat.reduceAdd, Nat.reduceSub, Bool.false_eq_true, eq_self,
  Option.some.injEq, V.int.injEq, V.ref.injEq, V.str.injEq, V.bl.injEq, HO.ins.injEq, HO.lst.injEq, HO.tup.injEq, HO.dK.injEq, List.cons.injEq, and_assoc, exists_eq_left', exists_and_left, and_true, true_and, true_or, or_true, false_or, or_false, exists_eq_left, exists_eq_right, exists_eq_right', exists_eq, exists_eq', exists_const, upd_same, sc_ii, sc_ss, sc_bb, sc_in, sc_ni, sc_ns, sc_sn, sc_nn, $as,*] | skip)
section
variable {K : PySem.W.Frag}
theorem pure_Asker_look_near : ∀ vs H Q E, sp_Asker_look_near K vs H Q E → t_Asker_look_near K E { nx := fun _ H2 => Q .non H2, rt := Q } (L2.start nn_Asker_look_near vs) H := by
  rintro vs H Q E ⟨I, M, a, R, rows, s, k, rfl, aw, ok, hse, hQ⟩
  have hb := line_big
  obtain ⟨L, ⟨u, o, vs, lv, zs, rfl, hd, en, es, so, rl, hs⟩, w, l1, l2⟩ := id aw
  have hx := w.has.1
  unfold t_Asker_look_near
  unfold oAsker at hx
  simp! [hx, lk_Asker_now]
  refine use_fold ok.now fun H1 sm => ?_
  have w1 := w.same sm
  have aw1 := aw.same sm
  have hx1 := w1.has.1
  unfold oAsker at hx1
  simp! [lit_e, S_eq]
  by_cases c1 : foldL s.now = []
  · refine ite_t c1 ?_
    have hQ := hQ I
    unfold nearS at hQ
    simp only [if_pos c1] at hQ
    simp! [hx1, pf_Asker_shown, pf_Asker_is_due, ln_Asker]
    refine hQ _ (Sub.refl _) ⟨_, ⟨u, o, .non, lv, zs, rfl, hd, en, es, so, rl, rfl⟩, (w1.put (o' := oAsker K a R { s with due := false } vs)).put, l1, l2⟩
  · refine ite_f c1 ?_
    simp! [hx1, lk_Asker_shelf, lk_Asker_now, lk_Asker_rows_most, lk_Asker_time]
    obtain ⟨su, szs, rfl, sh1, sh2, sh3⟩ := id so
    refine ⟨_, _, w1.has.2.2.2.2.2.2.1, no_Shelf_get, ?_⟩
    refine ⟨I, _, a.sh, a.dsh, R.most, R.term, s.ks, _, s.now, R.many, s.time, rfl, w1.sel [_, _, _, _, _, _, _] [6, 0, 1, 2, 3, 4, 5], so, ok.now, ⟨ok.ks, by have := ok.kl; omega⟩, ok.n0, fun hno H2 w2' => ?_, fun one hone I2 H2 o2 p2 s2 w2' so2 h2 => ?_⟩
    · have w2 : W I H2 ((a.x, oAsker K a R s vs) :: (a.pa, dAsked s) :: (a.pf, dFly s) :: (a.pl, .lst lv) :: (a.rd, oRoad K a.drd a.d s.sent u) :: (u, .lst (zs.map Prod.fst)) :: (a.sh, oShelf K a.dsh R.most R.term su) :: M) := w2'.sel [_, _, _, _, _, _, _] [1, 2, 3, 4, 5, 6, 0]
      clear w2'
      have aw2 : AskW K I H2 a R rows s M := ⟨_, ⟨u, _, vs, lv, zs, rfl, hd, en, es, so, rl, hs⟩, w2, l1, l2⟩
      have hx2 := w2.has.1
      unfold oAsker at hx2
      have hQ := fun I' H' sb => hQ I' H' sb
      unfold nearS at hQ
      simp only [if_neg c1, hno] at hQ
      cases hsh : s.shown with
      | none =>
        rw [hsh] at hs hQ
        have hs : vs = .non := hs
        subst hs
        simp! [decide_true, hx2, lk_Asker_shown]
        exact hQ I H2 (Sub.refl _) aw2
      | some v =>
        obtain ⟨key, rs, old⟩ := v
        have hs0 := hs
        rw [hsh] at hs hQ
        obtain ⟨t, l, rfl, h1, h2⟩ := hs
        simp only [] at hQ
        simp! [decide_true, decide_false, hx2, lk_Asker_shown, reduceCtorEq, no_Asker_is_fresh]
        refine ⟨I, M, a, R, rows, s, rfl, aw2, ok.now, by rw [hsh]; simp, fun H3 sm3 => ?_⟩
        have aw3 := aw2.same sm3
        have w3 := w2.same sm3
        have hx3 := w3.has.1
        unfold oAsker at hx3
        simp! [and_true]
        by_cases c2 : freshS s = true
        · simp only [if_pos c2] at hQ
          rw [c2]
          simp! [and_true]
          exact hQ I H3 (Sub.refl _) aw3
        · simp only [if_neg c2] at hQ
          rw [show freshS s = false by simpa using c2]
          have h1' := w3.sub _ _ h1
          simp! [hx3, lk_Asker_shown, h1', at3_1, lk_Asker_now, lk_Asker_rows_most]
          refine ⟨I, _, l, rs, s.now, R.many, rfl, w3, Ls.i h2, ok.sh _ _ _ hsh, ok.now, ok.n0, fun I4 H4 p s4 w4 h4 => ?_⟩
          have hx4 := w4.has.1
          unfold oAsker at hx4
          have h4' := w4.sub _ _ h4
          simp! [fTru, gTru, h4']
          refine ⟨_, .inl rfl, ?_⟩
          cases hr : ansR rs s.now R.many with
          | nil =>
            rw [hr] at h4 h4'
            simp only [hr, if_pos] at hQ
            rw [List.map_nil, List.isEmpty_nil]
            simp! [hx4, pf_Asker_shown, ln_Asker]
            exact hQ I4 _ s4 ⟨_, ⟨u, _, .non, lv, zs, rfl, s4 _ _ hd, en.mono s4, es, so.mono s4, rl.mono s4, rfl⟩, w4.put, l1.mono s4, l2.mono s4⟩
          | cons r0 rs0 =>
            rw [hr] at h4 h4'
            simp only [hr, reduceCtorEq, if_neg, not_false_eq_true] at hQ
            rw [List.map_cons, List.isEmpty_cons]
            have h1'' := w4.sub _ _ (s4 _ _ h1)
            simp! [hx4, lk_Asker_shown, h1'', at3_0]
            refine ⟨three_le, fun p5 hp5 => ?_⟩
            obtain ⟨I5, s5, w5, h5⟩ := w4.mkI hp5 (.tup [sV key, .ref p, .bl true])
            have sb := s4.trans s5
            refine ⟨_, _, w5.has.1, ln_Asker, ?_⟩
            rw [pf_Asker_shown]
            exact hQ I5 _ sb ⟨_, ⟨u, _, .ref p5, lv, zs, rfl, sb _ _ hd, en.mono sb, es, so.mono sb, rl.mono sb, ⟨p5, p, rfl, h5, s5 _ _ h4⟩⟩, w5.put, l1.mono sb, l2.mono sb⟩
    · have w2 : W I2 H2 ((a.x, oAsker K a R s vs) :: (a.pa, dAsked s) :: (a.pf, dFly s) :: (a.pl, .lst lv) :: (a.rd, oRoad K a.drd a.d s.sent u) :: (u, .lst (zs.map Prod.fst)) :: (a.sh, o2) :: M) := w2'.sel [_, _, _, _, _, _, _] [1, 2, 3, 4, 5, 6, 0]
      clear w2'
      have aw2 : AskW K I2 H2 a R rows { s with ks := useK s.ks one } M := ⟨_, ⟨u, _, vs, lv, zs, rfl, s2 _ _ hd, en.mono s2, es, so2, rl.mono s2, hs.mono s2⟩, w2, l1.mono s2, l2.mono s2⟩
      have hx2 := w2.has.1
      unfold oAsker at hx2
      have hQ := fun I' H' sb => hQ I' H' sb
      unfold nearS at hQ
      simp only [if_neg c1, hone] at hQ
      simp! [decide_false, reduceCtorEq, hx2, no_Asker_show]
      have hm := src_mem hone
      exact ⟨I2, M, a, R, rows, _, k, p2, ansR one.2.1 s.now R.many, rfl, aw2, ok.use hm, hse, h2, ansR_ok (ok.ks one hm).1, fun I' H' sb aw' => hQ I' H' (s2.trans sb) aw'⟩
end
end TA

set_option linter.all false
set_option maxRecDepth 100000
set_option maxHeartbeats 1000000
/-! Askers: asks that took too long; ticks. -/
namespace TA
open PySem L2 PyProof.Rows
open SX (S S_len S_inj S_cat S_tl)
local macro_rules | `(tactic| simp! [$as,*]) => `(tactic| first | simp only [L2.start, tSeq, tAsg, tOp, fFld, tVar, gIxL, gIxT, tCB, tCons, tNil, gLenL, gLenT, gLenS, rI, rI0, fSet, tIfS, tTest, tB, rNotN, rIsN, rEq, rNe, tC, tDrop, fBM, fBM0, gTy, rAppend, tTup, tLst, tRet, tRetN, tNext, gName, fTup, gCons, gNil, tCall, fCallS, fMeth, tMeth, fMethS, fMake, tMake, fMakeS, tUn, rU, tAnd, tOr, tNot, tAndV, tOrV, tNotV, tIf, tChain, gListL, gListT, tSl, tNoPart, tPart, gSlL, fRaise, gStrI, gCatS, gMin2, gMax2, gIntB, tYes, fLcL, fLcT, fLcS, fLcR1, fForL, fForR1, fForR2, fRev, fGetI, gGetI, gInI, gLenI, fPutI, fNewI,
  List.map_cons, List.map_nil, List.length_cons, List.length_nil, List.replicate, List.cons_append, List.nil_append, List.append_nil, List.getElem?_cons_zero, List.getElem?_cons_succ, List.set_cons_zero, List.set_cons_succ, reduceIte, Bool.not_true, Bool.not_false, Nat.reduceAdd, Nat.reduceSub, Bool.false_eq_true, eq_self,
  Option.some.injEq, V.int.injEq, V.ref.injEq, V.str.injEq, V.bl.injEq, HO.ins.injEq, HO.lst.injEq, HO.tup.injEq, HO.dK.injEq, List.cons.injEq, and_assoc, exists_eq_left', exists_and_left, and_true, true_and, true_or, or_true, false_or, or_false, exists_eq_left, exists_eq_right, exists_eq_right', exists_eq, exists_eq', exists_const, upd_same, sc_ii, sc_ss, sc_bb, sc_in, sc_ni, sc_ns, sc_sn, sc_nn, $as,*] | skip)
section
variable {K : PySem.W.Frag}
theorem lk_gen {α : Type} (f : α → V) : ∀ {l : List (Int × α)} {p : Int × α}, (l.map (·.1)).Nodup → p ∈ l → lkI (l.map fun p => (p.1, f p.2)) p.1 = some (f p.2)
  | [], _, _, h => by cases h
  | q :: l, p, nd, h => by
    rw [List.map_cons, List.nodup_cons] at nd
    unfold lkI
    rw [List.map_cons]
    by_cases e : q.1 = p.1
    · rw [List.find?_cons_of_pos (by simpa using e)]
      rcases List.mem_cons.mp h with c | c
      · rw [c]; rfl
      · exact absurd (List.mem_map.mpr ⟨p, c, e.symm⟩) nd.1
    · rw [List.find?_cons_of_neg (by simpa using e)]
      rcases List.mem_cons.mp h with c | c
      · exact absurd (by rw [c]) e
      · exact lk_gen f nd.2 c
theorem drop_gen {α : Type} (f : α → V) (l : List (Int × α)) (n : Int) : dropI (l.map fun p => (p.1, f p.2)) n = (l.filter fun p => !decide (p.1 = n)).map fun p => (p.1, f p.2) := by
  unfold dropI; rw [List.filter_map]; rfl
theorem lk_any {α : Type} (f : α → V) (l : List (Int × α)) (n : Int) : (lkI (l.map fun p => (p.1, f p.2)) n).isSome = l.any fun p => decide (p.1 = n) := by
  induction l with
  | nil => rfl
  | cons q l ih =>
    unfold lkI at *
    rw [List.map_cons, List.any_cons]
    by_cases e : q.1 = n
    · rw [List.find?_cons_of_pos (by simpa using e)]; simp [e]
    · rw [List.find?_cons_of_neg (by simpa using e), ih]; simp [e]
theorem keys_fly (l : List (Int × Int)) : ((l.map fun p => (p.1, V.int p.2)).map fun p => ((Sum.inl p.1 : L2.Key), p.2)).map (fun kv => kV kv.1) = (l.map (·.1)).map V.int := by
  simp [kV]
def flyK (s : AS) : List Int := (s.flying.map (·.1)).mergeSort fun a b => decide (a ≤ b)
theorem againT_eq (R : Rul) (s : AS) : againT R s = (flyK s).foldl (lostS R) s := rfl
theorem lost_fly {R : Rul} {s : AS} {n : Int} {p : Int × Int} (h : p ∈ s.flying) (hn : p.1 ≠ n) : p ∈ (lostS R s n).flying := by
  have : p ∈ s.flying.filter fun p => !decide (p.1 = n) := List.mem_filter.mpr ⟨h, by simpa using hn⟩
  unfold lostS
  split
  · simp only []; split <;> exact this
  · exact h
theorem losts_fly {R : Rul} : ∀ {l : List Int} {s : AS} {p : Int × Int}, p ∈ s.flying → p.1 ∉ l → p ∈ (l.foldl (lostS R) s).flying
  | [], _, _, h, _ => h
  | n :: l, s, p, h, hn => losts_fly (l := l) (lost_fly h fun e => hn (e ▸ List.mem_cons_self)) fun h => hn (List.mem_cons_of_mem _ h)
theorem lost_time {R : Rul} {s : AS} {n : Int} : (lostS R s n).time = s.time ∧ (lostS R s n).tries = s.tries := by
  unfold lostS; split
  · simp only []; split <;> exact ⟨rfl, rfl⟩
  · exact ⟨rfl, rfl⟩
theorem lost_if {R : Rul} {s : AS} {p : Int × Int} (nd : (s.flying.map (·.1)).Nodup) (h : p ∈ s.flying) : (s.flying.any fun q => decide (q.1 = p.1 ∧ R.pat ≤ s.time - q.2)) = decide (R.pat ≤ s.time - p.2) := by
  rw [Bool.eq_iff_iff, List.any_eq_true]
  constructor
  · rintro ⟨q, hq, e⟩
    have e := of_decide_eq_true e
    have := lk_gen V.int nd hq
    rw [e.1, lk_gen V.int nd h] at this
    have : p.2 = q.2 := by simpa using this
    rw [this]; exact decide_eq_true e.2
  · intro e
    exact ⟨p, h, by rw [decide_eq_true ⟨rfl, of_decide_eq_true e⟩]⟩
structure PTry (K : PySem.W.Frag) (I : Hp) (a : Ad) (R : Rul) (rows : List Tx) (s : AS) (M : List (Addr × HO)) (i : Nat) (σ : L2.St) (H : Hp) : Prop where
  ex : ∃ (I' : Hp) (v : Option V), σ = [some (.ref a.x), v] ∧ Sub I I' ∧ AskW K I' H a R rows (((flyK s).take i).foldl (lostS R) s) M
theorem pure_Asker_try_again : ∀ vs H Q E, sp_Asker_try_again K vs H Q E → t_Asker_try_again K E { nx := fun _ H2 => Q .non H2, rt := Q } (L2.start nn_Asker_try_again vs) H := by
  rintro vs H Q E ⟨I, M, a, R, rows, s, k, rfl, aw, ok, hse, hQ⟩
  have hb := line_big
  obtain ⟨L, ⟨u, o, vs, lv, zs, rfl, hd, en, es, so, rl, hs⟩, w, l1, l2⟩ := id aw
  have hx := w.has.1
  have ha := w.has.2.2.1
  unfold t_Asker_try_again
  unfold oAsker at hx
  simp! [hx, lk_Asker_flying, gKeys, gSortK]
  refine ⟨.inr ⟨_, ha⟩, _, ha, fun p hp => ⟨a.pf, rfl, _, (w.skip hp).has.2.2.1, s.flying.map (·.1), keys_fly _, fun p1 hp1 => ?_⟩⟩
  obtain ⟨I1, s1, aw1, h1⟩ := (aw.skip (o := KwO a.pf p) hp).mkI hp1 (.lst ((flyK s).map V.int))
  refine ⟨PTry K I1 a R rows s M, ⟨I1, _, rfl, Sub.refl _, aw1⟩, ?_, ?_, ?_⟩
  · rintro i σ H' _ ⟨I', v, rfl, s', aw'⟩
    exact aw'.sub _ _ (s' _ _ h1)
  · rintro i x σ H' hi ⟨I', v, rfl, s', aw'⟩
    have hi : ((flyK s).map V.int)[i]? = some x := hi
    rw [List.getElem?_map, Option.map_eq_some_iff] at hi
    obtain ⟨n, hn, rfl⟩ := hi
    have hke : ((flyK s).take (i + 1)).foldl (lostS R) s = lostS R (((flyK s).take i).foldl (lostS R) s) n := by
      rw [take_succ_get hn, List.foldl_append]; rfl
    have hnd : (flyK s).Nodup := (List.mergeSort_perm _ _).nodup_iff.mpr ok.nf
    have hin : n ∈ s.flying.map (·.1) := (List.mergeSort_perm _ _).mem_iff.mp (List.mem_of_getElem? hn)
    obtain ⟨pr, hpr, rfl⟩ := List.mem_map.mp hin
    have hpr2 : pr ∈ (((flyK s).take i).foldl (lostS R) s).flying := losts_fly hpr fun hm => by
      obtain ⟨j, hj, e⟩ := List.getElem_of_mem hm
      rw [List.length_take] at hj
      rw [List.getElem_take] at e
      have := nodup_ix_any hnd (List.getElem?_eq_some_iff.mpr ⟨by omega, e⟩) hn
      omega
    have ok2 : OkS R k (((flyK s).take i).foldl (lostS R) s) := OkS.losts ok
    have hse2 : (((flyK s).take i).foldl (lostS R) s).sent ≤ 300001 := by rw [losts_sent]; exact hse
    have hgo : ∀ I2 H2 v, Sub I1 I2 → AskW K I2 H2 a R rows (lostS R (((flyK s).take i).foldl (lostS R) s) pr.1) M → PTry K I1 a R rows s M (i + 1) [some (.ref a.x), v] H2 := fun I2 H2 v sb aw2 => ⟨I2, v, rfl, sb, by rw [hke]; exact aw2⟩
    clear hke
    generalize ((flyK s).take i).foldl (lostS R) s = s2 at *
    obtain ⟨L, ⟨u, o, vs, lv, zs, rfl, hd, en, es, so, rl, hs⟩, w', l1, l2⟩ := id aw'
    have hx' := w'.has.1
    have ha' := w'.has.2.2.1
    unfold oAsker at hx'
    simp! [hx', lk_Asker_flying, lk_Asker_time, lk_Asker_patience]
    refine ⟨_, ha', _, lk_gen V.int ok2.nf hpr2, ?_⟩
    unfold lostS at hgo
    rw [lost_if ok2.nf hpr2] at hgo
    simp! [and_true]
    by_cases c1 : R.pat ≤ s2.time - pr.2
    · refine ite_t c1 ?_
      simp only [decide_eq_true c1, if_pos] at hgo
      simp! [hx', lk_Asker_flying, gPop1]
      refine ⟨.inr ⟨_, ha'⟩, _, ha', _, lk_gen V.int ok2.nf hpr2, ?_⟩
      rw [drop_gen V.int]
      have w2 := w'.put2 (o' := dI ((s2.flying.filter fun p => !decide (p.1 = pr.1)).map fun p => (p.1, V.int p.2)))
      have hx2 := w2.has.1
      have ha2 := w2.has.2.1
      unfold oAsker at hx2
      simp! [hx2, lk_Asker_asked]
      refine ⟨_, ha2, ?_⟩
      rw [lk_any sV]
      cases c2 : s2.asked.any fun p => decide (p.1 = pr.1) with
      | false =>
        simp only [c2, Bool.false_eq_true, if_false] at hgo
        simp! [and_true]
        exact hgo I' _ _ s' ⟨_, ⟨u, o, vs, lv, zs, rfl, hd, en, es, so, rl, hs⟩, w2, l1, l2⟩
      | true =>
        simp only [c2, if_true] at hgo
        obtain ⟨qr, hqr, e⟩ := List.any_eq_true.mp c2
        have e := of_decide_eq_true e
        have hlk := lk_gen sV ok2.na hqr
        rw [e] at hlk
        simp! [hx2, lk_Asker_asked]
        refine ⟨.inr ⟨_, ha2⟩, _, ha2, _, hlk, ?_⟩
        rw [drop_gen sV]
        have w3 := w2.put1 (o' := dI ((s2.asked.filter fun p => !decide (p.1 = pr.1)).map fun p => (p.1, sV p.2)))
        have hx3 := w3.has.1
        have hl3 := w3.has.2.2.2.1
        unfold oAsker at hx3
        simp! [hx3, lk_Asker_rows, hl3]
        refine ⟨two_le, fun p4 hp4 => ?_⟩
        obtain ⟨I4, s4, w4, h4⟩ := w3.mkI hp4 (.tup [.str "lost", .int pr.1])
        have hlv := rl.length
        have hlg := ok2.lg
        rw [List.length_map] at hlv
        refine ⟨_, w4.has.2.2.2.1, by omega, ?_⟩
        have w5 := w4.put3 (o' := .lst (lv ++ [.ref p4]))
        have hx5 := w5.has.1
        unfold oAsker at hx5
        simp! [hx5, lk_Asker_tries, pf_Asker_is_due, ln_Asker]
        refine hgo I4 _ _ (s'.trans s4) ⟨_, ⟨u, o, vs, lv ++ [.ref p4], zs, rfl, s4 _ _ hd, en.mono s4, es, so.mono s4, ?_, hs.mono s4⟩, w5.put, l1.mono s4, l2.mono s4⟩
        rw [List.map_append]
        exact (rl.mono s4).snoc (.tup h4 (.cons (.str _) (.cons (.int _) .nil)))
    · refine ite_f c1 ?_
      simp only [decide_eq_false c1, Bool.false_eq_true, if_false] at hgo
      exact hgo I' _ _ s' aw'
  · rintro σ H' ⟨I', v, rfl, s', aw'⟩
    have e : ((flyK s).map V.int).length = (flyK s).length := by simp
    have e2 : (flyK s).take (((flyK s).map V.int).length) = flyK s := by rw [e, List.take_length]
    refine hQ I' H' (s1.trans s') ?_
    rw [againT_eq]
    have aw' : AskW K I' H' a R rows (((flyK s).take (((flyK s).map V.int).length)).foldl (lostS R) s) M := aw'
    rw [e2] at aw'
    exact aw'
end
end TA

set_option linter.all false
set_option maxRecDepth 100000
set_option maxHeartbeats 1000000
/-! Askers: ticks. -/
namespace TA
open PySem L2 PyProof.Rows
open SX (S S_len S_inj S_cat S_tl)
local macro_rules | `(tactic| simp! [$as,*]) => `(tactic| first | simp only [L2.start, tSeq, tAsg, tOp, fFld, tVar, gIxL, gIxT, tCB, tCons, tNil, gLenL, gLenT, gLenS, rI, rI0, fSet, tIfS, tTest, tB, rNotN, rIsN, rEq, rNe, tC, tDrop, fBM, fBM0, gTy, rAppend, tTup, tLst, tRet, tRetN, tNext, gName, fTup, gCons, gNil, tCall, fCallS, fMeth, tMeth, fMethS, fMake, tMake, fMakeS, tUn, rU, tAnd, tOr, tNot, tAndV, tOrV, tNotV, tIf, tChain, gListL, gListT, tSl, tNoPart, tPart, gSlL, fRaise, gStrI, gCatS, gMin2, gMax2, gIntB, tYes, fLcL, fLcT, fLcS, fLcR1, fForL, fForR1, fForR2, fRev, fGetI, gGetI, gInI, gLenI, fPutI, fNewI,
  List.map_cons, List.map_nil, List.length_cons, List.length_nil, List.replicate, List.cons_append, List.nil_append, List.append_nil, List.getElem?_cons_zero, List.getElem?_cons_succ, List.set_cons_zero, List.set_cons_succ, reduceIte, Bool.not_true, Bool.not_false, Nat.reduceAdd, Nat.reduceSub, Bool.false_eq_true, eq_self,
  Option.some.injEq, V.int.injEq, V.ref.injEq, V.str.injEq, V.bl.injEq, HO.ins.injEq, HO.lst.injEq, HO.tup.injEq, HO.dK.injEq, List.cons.injEq, and_assoc, exists_eq_left', exists_and_left, and_true, true_and, true_or, or_true, false_or, or_false, exists_eq_left, exists_eq_right, exists_eq_right', exists_eq, exists_eq', exists_const, upd_same, sc_ii, sc_ss, sc_bb, sc_in, sc_ni, sc_ns, sc_sn, sc_nn, $as,*] | skip)
section
variable {K : PySem.W.Frag}
theorem rp_answ {I : Hp} {v : V} {rows : List Tx} {q : Tx} {n : Int} (h : Rp I v (ansD rows q n)) : ∃ t l, v = .ref t ∧ I t = some (.tup [.ref l, .bl (ansA rows q n)]) ∧ I l = some (.lst ((ansR rows q n).map sV)) := by
  cases h with
  | tup h1 h2 =>
    cases h2 with
    | cons x1 h2 =>
      cases h2 with
      | cons x2 h2 =>
        cases h2; cases x2
        cases x1 with
        | lst y1 y2 =>
          obtain ⟨zs, rfl, e, en⟩ := enc_of (e := sD) y2
          rw [enc_strs en, ← e] at y1
          exact ⟨_, _, rfl, h1, y1⟩
theorem rl_snoc {I : Hp} {lv : List V} {lg : List Lg} {v : V} {x : Lg} (h : RpAll I lv (lg.map lgD)) (r : Rp I v (lgD x)) : RpAll I (lv ++ [v]) ((lg ++ [x]).map lgD) := by
  rw [List.map_append]; exact h.snoc r
theorem rp_due {I : Hp} {v : V} {y : Int × Int × Tx} (h : Rp I v (dueD (uw1 y))) : ∃ t, v = .ref t ∧ I t = some (.tup [.int y.2.1, sV y.2.2]) := by
  cases h with
  | tup h1 h2 =>
    cases h2 with
    | cons x1 h2 =>
      cases h2 with
      | cons x2 h2 =>
        cases h2; cases x2; cases x1
        exact ⟨_, rfl, h1⟩
structure PStep (K : PySem.W.Frag) (I : Hp) (a : Ad) (R : Rul) (rows : List Tx) (s : AS) (l : List (Int × Int × Tx)) (M : List (Addr × HO)) (i : Nat) (σ : L2.St) (H : Hp) : Prop where
  ex : ∃ (I' : Hp) (rest : List (Option V)), σ = some (.ref a.x) :: rest ∧ rest.length = 4 ∧ Sub I I' ∧ AskW K I' H a R rows (comeAll R rows s (l.take i)) M
theorem many_ok {R : Rul} {k : Nat} {s : AS} (ok : OkS R k s) {q : Tx} (hq : okL 12 q = true) : ansE q R.many = none := by
  unfold ansE
  rw [if_neg (by rw [ok.many]; decide), if_neg (by rw [hq]; decide)]
theorem pure_Asker_step : ∀ vs H Q E, sp_Asker_step K vs H Q E → t_Asker_step K E { nx := fun _ H2 => Q .non H2, rt := Q } (L2.start nn_Asker_step vs) H := by
  rintro vs H Q E ⟨I, M, a, R, rows, s, rfl, aw, ok, ro, hse, hQ⟩
  have hb := line_big
  obtain ⟨L, ⟨u, o, vs, lv, zs, rfl, hd, en, es, so, rl, hs⟩, w, l1, l2⟩ := id aw
  have hx := w.has.1
  unfold t_Asker_step
  unfold oAsker at hx
  simp! [hx, lk_Asker_time, pf_Asker_time, ln_Asker, lk_Asker_road]
  have w1 := w.put (o' := oAsker K a R { s with time := s.time + 1 } vs)
  refine ⟨_, _, w1.has.2.2.2.2.1, no_Road_due, ?_⟩
  simp! [lk_Asker_time]
  have hzl : zs.length = s.uw.length := by
    have := congrArg List.length es
    unfold uwS at this
    rw [List.length_map, List.length_map] at this
    exact this
  have hlg := ok.lg
  refine ⟨I, _, a.rd, a.drd, a.d, u, R.ds, s.sent, zs, s.time + 1, rfl, ⟨w1.sel [_, _, _, _, _, _, _] [4, 5, 0, 1, 2, 3, 6], hd, en⟩, by omega, fun I3 H3 u3 zs3 v s3 rw3 es30 rv => ?_⟩
  obtain ⟨w3', hd3, en3⟩ := rw3
  have w3 : W I3 H3 ((a.x, oAsker K a R { s with time := s.time + 1 } vs) :: (a.pa, dAsked s) :: (a.pf, dFly s) :: (a.pl, .lst lv) :: (a.rd, oRoad K a.drd a.d s.sent u3) :: (u3, .lst (zs3.map Prod.fst)) :: (a.sh, o) :: M) := w3'.sel [_, _, _, _, _, _, _] [2, 3, 4, 5, 0, 1, 6]
  clear w3' w1
  have es3 : zs3.map Prod.snd = uwS (restU (s.time + 1) s.uw) := by
    rw [es30, es]; unfold uwS restU; rw [List.filter_map]; rfl
  have ev : sortE askD ((zs.map Prod.snd).filter fun x => decide (x.1 ≤ s.time + 1)) = uwS (dueU (s.time + 1) s.uw) := by
    unfold dueU; rw [← sortU_S, es]; unfold uwS; rw [List.filter_map]; rfl
  rw [ev] at rv
  have aw3 : AskW K I3 H3 a R rows (tick0 s) M := ⟨_, ⟨u3, o, vs, lv, zs3, rfl, hd3, en3, es3, so.mono s3, rl.mono s3, hs.mono s3⟩, w3, l1.mono s3, l2.mono s3⟩
  have ok3 := ok.tick0
  have hq3 : ∀ x ∈ dueU (s.time + 1) s.uw, okL 12 x.2.2 = true := fun x hx => ok.qu x (mem_due.mp hx).1
  have hse3 : (tick0 s).sent ≤ 30000 := hse
  unfold stepS at hQ
  generalize dueU (s.time + 1) s.uw = due at *
  generalize tick0 s = s1 at *
  clear es3 es30 ev en3 es en w3 w hx so rl hs hd3 hd l1 l2 hzl hlg ok aw
  cases rv with
  | lst h4 r4 =>
  rename_i dl xs
  have h4' := aw3.sub _ _ h4
  have hxl : xs.length = due.length := by have := r4.length; simpa [uwS] using this
  simp! [h4']
  refine ⟨PStep K I3 a R rows s1 due M, ⟨I3, _, rfl, rfl, Sub.refl _, aw3⟩, ?_, ?_, ?_⟩
  · rintro i σ H' _ ⟨I', rest, rfl, hr, s', aw'⟩
    exact aw'.sub _ _ (s' _ _ h4)
  · rintro i x σ H' hi ⟨I', rest, rfl, hr, s', aw'⟩
    match rest, hr with
    | [r1, r2, r3, r5], _ =>
    obtain ⟨d, hd, rd⟩ := r4.get hi
    unfold uwS at hd
    rw [List.map_map, List.getElem?_map, Option.map_eq_some_iff] at hd
    obtain ⟨y, hy, rfl⟩ := hd
    obtain ⟨t, rfl, ht⟩ := rp_due rd
    have hil : i < due.length := (List.getElem?_eq_some_iff.mp hy).1
    have okq := hq3 y (List.mem_of_getElem? hy)
    have hke : comeAll R rows s1 (due.take (i + 1)) = comeS R rows (comeAll R rows s1 (due.take i)) y.2.1 y.2.2 := by
      unfold comeAll; rw [take_succ_get hy, List.foldl_append]; rfl
    have ok2 : OkS R (due.length - i) (comeAll R rows s1 (due.take i)) := OkS.comes ro (by rw [List.length_take]; rw [show due.length - i + min i due.length = 0 + due.length by omega]; exact ok3) fun x hx => hq3 x (List.mem_of_mem_take hx)
    have hse2 : (comeAll R rows s1 (due.take i)).sent ≤ 30000 := by rw [comes_sent]; exact hse3
    have hgo : ∀ I2 H2 rest, rest.length = 4 → Sub I3 I2 → AskW K I2 H2 a R rows (comeS R rows (comeAll R rows s1 (due.take i)) y.2.1 y.2.2) M → PStep K I3 a R rows s1 due M (i + 1) (some (.ref a.x) :: rest) H2 := fun I2 H2 rest hr sb aw2 => ⟨I2, rest, rfl, hr, sb, by rw [hke]; exact aw2⟩
    clear hke
    generalize comeAll R rows s1 (due.take i) = s2 at *
    obtain ⟨j, hj⟩ : ∃ j, due.length - i = j + 1 := ⟨due.length - i - 1, by omega⟩
    rw [hj] at ok2
    have ht' := aw'.sub _ _ (s' _ _ ht)
    obtain ⟨L, ⟨u, o, vs, lv, zs, rfl, hd, en, es, so, rl, hs⟩, w', l1, l2⟩ := id aw'
    have hx' := w'.has.1
    unfold oAsker at hx'
    simp! [ht', hx', lk_Asker_store]
    refine ⟨_, _, (l1.cons.cons.cons.cons.cons.cons.cons).at w', no_Store_answer, ?_⟩
    simp! [lk_Asker_rows_most]
    refine ⟨I', _, a.st, a.dst, a.r, rows, y.2.2, R.many, rfl, w', l1.cons.cons.cons.cons.cons.cons.cons, l2.cons.cons.cons.cons.cons.cons.cons, ro, by have := okL_len okq; omega, fun _ I5 H5 v5 s5 w5 rv5 => ?_, fun e he => by rw [many_ok ok2 okq] at he; cases he⟩
    obtain ⟨tt, l, rfl, e1, e2⟩ := rp_answ rv5
    have e1' := w5.sub _ _ e1
    have hx5 := w5.has.1
    have hf5 := w5.has.2.2.1
    unfold oAsker at hx5
    simp! [e1', hx5, lk_Asker_flying, gPop2]
    refine ⟨.inr ⟨_, hf5⟩, _, hf5, ?_⟩
    rw [drop_gen V.int]
    have w6 := w5.put2 (o' := dI ((s2.flying.filter fun p => !decide (p.1 = y.2.1)).map fun p => (p.1, V.int p.2)))
    have hx6 := w6.has.1
    unfold oAsker at hx6
    simp! [hx6, lk_Asker_shelf, lk_Asker_time]
    obtain ⟨su, szs, rfl, sh1, sh2, sh3⟩ := id so
    refine ⟨_, _, w6.has.2.2.2.2.2.2.1, no_Shelf_put, ?_⟩
    have arl := ansR_ok (q := y.2.2) (n := R.many) ro
    refine ⟨I5, _, a.sh, a.dsh, R.most, R.term, s2.ks, _, y.2.2, l, ansR rows y.2.2 R.many, ansA rows y.2.2 R.many, s2.time, rfl, w6.sel [_, _, _, _, _, _, _] [6, 0, 1, 2, 3, 4, 5], so.mono s5, Ls.i e2, okL_le okq (by decide), ⟨ok2.ks, by have := ok2.kl; omega⟩, arl.2, fun I7 H7 o7 s7 w7' so7 => ?_⟩
    have w7 : W I7 H7 ((a.x, oAsker K a R s2 vs) :: (a.pa, dAsked s2) :: (a.pf, dI ((s2.flying.filter fun p => !decide (p.1 = y.2.1)).map fun p => (p.1, V.int p.2))) :: (a.pl, .lst lv) :: (a.rd, oRoad K a.drd a.d s2.sent u) :: (u, .lst (zs.map Prod.fst)) :: (a.sh, o7) :: M) := w7'.sel [_, _, _, _, _, _, _] [1, 2, 3, 4, 5, 6, 0]
    clear w7'
    have hx7 := w7.has.1
    have ha7 := w7.has.2.1
    have hl7 := w7.has.2.2.2.1
    unfold oAsker at hx7
    have sb := s5.trans s7
    have hlv := rl.length
    have hlg := ok2.lg
    rw [List.length_map] at hlv
    simp! [hx7, lk_Asker_asked]
    refine ⟨_, ha7, ?_⟩
    rw [lk_any sV]
    simp only [comeS_eq] at hgo
    cases c2 : s2.asked.any fun p => decide (p.1 = y.2.1) with
    | true =>
      simp only [c2, if_true] at hgo
      obtain ⟨qr, hqr, e⟩ := List.any_eq_true.mp c2
      have e := of_decide_eq_true e
      have hlk := lk_gen sV ok2.na hqr
      rw [e] at hlk
      simp! [hx7, lk_Asker_asked, gPop1]
      refine ⟨.inr ⟨_, ha7⟩, _, ha7, _, hlk, ?_⟩
      rw [drop_gen sV]
      have w8 := w7.put1 (o' := dI ((s2.asked.filter fun p => !decide (p.1 = y.2.1)).map fun p => (p.1, sV p.2)))
      have hx8 := w8.has.1
      have hl8 := w8.has.2.2.2.1
      unfold oAsker at hx8
      simp! [hx8, lk_Asker_rows, hl8]
      refine ⟨two_le, fun p9 hp9 => ?_⟩
      obtain ⟨I9, s9, w9, h9⟩ := w8.mkI hp9 (.tup [.str "came", .int y.2.1])
      refine ⟨_, w9.has.2.2.2.1, by omega, ?_⟩
      have w10 := w9.put3 (o' := .lst (lv ++ [.ref p9]))
      have hx10 := w10.has.1
      unfold oAsker at hx10
      have sc := sb.trans s9
      simp! [hx10, no_Asker_show]
      refine ⟨I9, M, a, R, rows, came0 R rows s2 y.2.1 y.2.2, j, l, ansR rows y.2.2 R.many, rfl, ?_, ok2.came ro okq c2, by simp only [came0]; omega, s9 _ _ (s7 _ _ e2), arl, fun I' H' sb' aw' => hgo I' H' _ rfl (s'.trans (sc.trans sb')) aw'⟩
      · show AskW K I9 _ a R rows _ M
        refine ⟨_, ⟨u, o7, vs, lv ++ [V.ref p9], zs, rfl, sc _ _ hd, en.mono sc, es, so7.mono s9, ?_, hs.mono sc⟩, w10, l1.mono sc, l2.mono sc⟩
        exact rl_snoc (rl.mono sc) (.tup h9 (.cons (.str _) (.cons (.int _) .nil)))
    | false =>
      simp only [c2, Bool.false_eq_true, if_false] at hgo
      simp! [hx7, lk_Asker_rows, hl7]
      refine ⟨two_le, fun p9 hp9 => ?_⟩
      obtain ⟨I9, s9, w9, h9⟩ := w7.mkI hp9 (.tup [.str "late", .int y.2.1])
      refine ⟨_, w9.has.2.2.2.1, by omega, ?_⟩
      have w10 := w9.put3 (o' := .lst (lv ++ [.ref p9]))
      have hx10 := w10.has.1
      unfold oAsker at hx10
      have sc := sb.trans s9
      simp! [hx10, no_Asker_look_near]
      refine ⟨I9, M, a, R, rows, late0 R rows s2 y.2.1 y.2.2, j, rfl, ?_, ok2.late ro okq, by simp only [late0]; omega, fun I' H' sb' aw' => hgo I' H' _ rfl (s'.trans (sc.trans sb')) aw'⟩
      · show AskW K I9 _ a R rows _ M
        refine ⟨_, ⟨u, o7, vs, lv ++ [V.ref p9], zs, rfl, sc _ _ hd, en.mono sc, es, so7.mono s9, ?_, hs.mono sc⟩, w10, l1.mono sc, l2.mono sc⟩
        exact rl_snoc (rl.mono sc) (.tup h9 (.cons (.str _) (.cons (.int _) .nil)))
  · rintro σ H' ⟨I', rest, rfl, hr, s', aw'⟩
    match rest, hr with
    | [r1, r2, r3, r5], _ =>
    rw [hxl, List.take_length] at aw'
    have ok2 : OkS R 0 (comeAll R rows s1 due) := OkS.comes ro ok3 hq3
    have hse2 : (comeAll R rows s1 due).sent ≤ 30000 := by rw [comes_sent]; exact hse3
    obtain ⟨vs, hx', _⟩ := aw'.obj
    unfold oAsker at hx'
    simp! [hx', no_Asker_try_again]
    refine ⟨I', M, a, R, rows, _, 0, rfl, aw', ok2, by omega, fun I5 H5 s5 aw5 => ?_⟩
    obtain ⟨vs, hx5, _⟩ := aw5.obj
    unfold oAsker at hx5
    simp! [hx5, no_Asker_ask_if_due]
    exact ⟨I5, M, a, R, rows, _, 0, rfl, aw5, ok2.againT, by rw [againT_eq, losts_sent]; exact hse2, fun I6 H6 s6 aw6 => hQ I6 H6 (s3.trans (s'.trans (s5.trans s6))) aw6⟩
end
end TA

set_option linter.all false
set_option maxRecDepth 100000
set_option maxHeartbeats 1000000
/-! Askers: what others call. -/
namespace TA
open PySem L2 PyProof.Rows
open SX (S S_len S_inj S_cat S_tl)
local macro_rules | `(tactic| simp! [$as,*]) => `(tactic| first | simp only [L2.start, tSeq, tAsg, tOp, fFld, tVar, gIxL, gIxT, tCB, tCons, tNil, gLenL, gLenT, gLenS, rI, rI0, fSet, tIfS, tTest, tB, rNotN, rIsN, rEq, rNe, tC, tDrop, fBM, fBM0, gTy, rAppend, tTup, tLst, tRet, tRetN, tNext, gName, fTup, gCons, gNil, tCall, fCallS, fMeth, tMeth, fMethS, fMake, tMake, fMakeS, tUn, rU, tAnd, tOr, tNot, tAndV, tOrV, tNotV, tIf, tChain, gListL, gListT, tSl, tNoPart, tPart, gSlL, fRaise, gStrI, gCatS, gMin2, gMax2, gIntB, tYes, fLcL, fLcT, fLcS, fLcR1, fForL, fForR1, fForR2, fRev, fGetI, gGetI, gInI, gLenI, fPutI, fNewI,
  List.map_cons, List.map_nil, List.length_cons, List.length_nil, List.replicate, List.cons_append, List.nil_append, List.append_nil, List.getElem?_cons_zero, List.getElem?_cons_succ, List.set_cons_zero, List.set_cons_succ, reduceIte, Bool.not_true, Bool.not_false, Nat.reduceAdd, Nat.reduceSub, Bool.false_eq_true, eq_self,
  Option.some.injEq, V.int.injEq, V.ref.injEq, V.str.injEq, V.bl.injEq, HO.ins.injEq, HO.lst.injEq, HO.tup.injEq, HO.dK.injEq, List.cons.injEq, and_assoc, exists_eq_left', exists_and_left, and_true, true_and, true_or, or_true, false_or, or_false, exists_eq_left, exists_eq_right, exists_eq_right', exists_eq, exists_eq', exists_const, upd_same, sc_ii, sc_ss, sc_bb, sc_in, sc_ni, sc_ns, sc_sn, sc_nn, $as,*] | skip)
section
variable {K : PySem.W.Frag}
structure PTick (K : PySem.W.Frag) (I : Hp) (a : Ad) (R : Rul) (rows : List Tx) (s : AS) (n : Int) (M : List (Addr × HO)) (i : Nat) (σ : L2.St) (H : Hp) : Prop where
  ex : ∃ (I' : Hp) (v : Option V), σ = [some (.ref a.x), some (.int n), v] ∧ Sub I I' ∧ AskW K I' H a R rows (tickS R rows i s) M
theorem pure_Asker_tick : ∀ vs H Q E, sp_Asker_tick K vs H Q E → t_Asker_tick K E { nx := fun _ H2 => Q .non H2, rt := Q } (L2.start nn_Asker_tick vs) H := by
  rintro vs H Q E ⟨I, M, a, R, rows, s, n, rfl, aw, ok, ro, hse, hQ, hE⟩
  unfold t_Asker_tick
  simp! [and_true]
  unfold tickOk at hQ hE
  by_cases c1 : 0 ≤ n
  · refine ite_t c1 ?_
    by_cases c2 : n ≤ 100
    · refine ite_nt c2 ?_
      have hQ := hQ (decide_eq_true ⟨c1, c2⟩)
      refine ⟨by omega, by omega, PTick K I a R rows s n M, ⟨I, _, rfl, Sub.refl _, aw⟩, ?_, ?_⟩
      · rintro i σ H' hi ⟨I', v, rfl, s', aw'⟩
        obtain ⟨vs, hx', _⟩ := aw'.obj
        unfold oAsker at hx'
        simp! [hx', no_Asker_step]
        have := tick_sent R rows i s
        refine ⟨I', M, a, R, rows, _, rfl, aw', OkS.tick ro ok, ro, by omega, fun I2 H2 s2 aw2 => ⟨I2, _, rfl, s'.trans s2, by rw [tickS_succ]; exact aw2⟩⟩
      · rintro σ H' ⟨I', v, rfl, s', aw'⟩
        exact hQ I' H' s' aw'
    · exact ite_nf c2 (hE (decide_eq_false fun h => c2 h.2))
  · exact ite_f c1 (hE (decide_eq_false fun h => c1 h.1))
theorem use_look {t : Tx} {H : Hp} {Q : VK} {E : XK} (h : t.length ≤ 1000000) (q : ∀ H', Same H H' → if okL 12 t = true then Q .non H' else E (bT K) none H') : sp_look_text K [sV t, .int 12] H Q E := ⟨t, 12, rfl, h, q⟩
theorem pure_Asker_put : ∀ vs H Q E, sp_Asker_put K vs H Q E → t_Asker_put K E { nx := fun _ H2 => Q .non H2, rt := Q } (L2.start nn_Asker_put vs) H := by
  rintro vs H Q E ⟨I, M, a, R, rows, s, t, rfl, aw, ok, hse, htl, hQ, hE⟩
  unfold t_Asker_put
  simp! [and_true]
  refine use_look htl fun H1 sm1 => ?_
  have aw1 := aw.same sm1
  by_cases okt : okL 12 t = true
  · rw [if_pos okt]
    have hQ := hQ okt
    refine use_fold okt fun H2 sm2 => ?_
    have aw2 := aw1.same sm2
    obtain ⟨vs, hx2, _⟩ := aw2.obj
    unfold oAsker at hx2
    simp! [hx2, lk_Asker_now]
    refine use_fold ok.now fun H3 sm3 => ?_
    have aw3 := aw2.same sm3
    -- the end of it
    have fin : ∀ (s' : AS) (I' H' : Hp) (σ : L2.St), Sub I I' → OkS R 0 s' → okL 12 t = true → s'.sent ≤ 29000 → AskW K I' H' a R rows s' M → (∀ I2 H2, Sub I' I2 → AskW K I2 H2 a R rows (askS R (nearS R { s' with now := t })) M → Q .non H2) →
        t_Asker_put_B1_2 K E { nx := fun _ H2 => Q .non H2, rt := Q } [some (.ref a.x), some (sV t)] H' := by
      intro s' I' H' σ sb ok' okt hse' aw' hq
      obtain ⟨L, ⟨u, o, vs, lv, zs, rfl, hd, en, es, so, rl, hs⟩, w', l1, l2⟩ := id aw'
      have hx' := w'.has.1
      unfold oAsker at hx'
      unfold t_Asker_put_B1_2
      simp! [hx', pf_Asker_now, ln_Asker, no_Asker_look_near]
      have aw4 : AskW K I' _ a R rows { s' with now := t } M := ⟨_, ⟨u, o, vs, lv, zs, rfl, hd, en, es, so, rl, hs⟩, w'.put, l1, l2⟩
      refine ⟨I', M, a, R, rows, { s' with now := t }, 0, rfl, aw4, { ok' with now := okt }, by simp only []; omega, fun I5 H5 s5 aw5 => ?_⟩
      obtain ⟨vs, hx5, _⟩ := aw5.obj
      unfold oAsker at hx5
      simp! [hx5, no_Asker_ask_if_due]
      refine ⟨I5, M, a, R, rows, _, 0, rfl, aw5, OkS.near { ok' with now := okt }, by rw [near_sent]; simp only []; omega, fun I6 H6 s6 aw6 => hq I6 H6 (s5.trans s6) aw6⟩
    unfold putS at hQ
    simp! [S_eq]
    by_cases c : foldL t = foldL s.now
    · refine ite_nt c ?_
      simp only [if_pos c] at hQ
      exact fin s I H3 [] (Sub.refl _) ok okt (by omega) aw3 hQ
    · refine ite_nf c ?_
      simp only [if_neg c] at hQ
      obtain ⟨vs, hx3, _⟩ := aw3.obj
      unfold oAsker at hx3
      simp! [hx3, no_Asker_drop_other]
      refine use_fold okt fun H4 sm4 => ?_
      have aw4 := aw3.same sm4
      refine ⟨I, M, a, R, rows, s, 0, some (foldL t), rfl, aw4, ok, by omega, fun I5 H5 s5 aw5 => ?_⟩
      obtain ⟨L, ⟨u, o, vs, lv, zs, rfl, hd, en, es, so, rl, hs⟩, w5, l1, l2⟩ := id aw5
      have hx5 := w5.has.1
      unfold oAsker at hx5
      simp! [hx5, lk_Asker_time, pf_Asker_typed_at, ln_Asker]
      have w6 := w5.put (o' := oAsker K a R { dropS s (some (foldL t)) with at_ := s.time } vs)
      refine use_fold okt fun H7 sm7 => ?_
      have w7 := w6.same sm7
      have hx7 := w7.has.1
      unfold oAsker at hx7
      simp! [lit_e, S_eq, hx7, pf_Asker_is_due, pf_Asker_tries, ln_Asker]
      refine fin { dropS s (some (foldL t)) with at_ := s.time, due := decide (foldL t ≠ []), tries := 0 } I5 _ [] s5 { ok.drop (some (foldL t)) with } okt (by simp only [dropS]; omega) ⟨_, ⟨u, o, vs, lv, zs, rfl, hd, en, es, so, rl, hs⟩, ?_, l1, l2⟩ fun I2 H2 s2 aw2 => hQ I2 H2 (s5.trans s2) aw2
      have e : (!decide (foldL t = [])) = decide (foldL t ≠ []) := by by_cases z : foldL t = [] <;> simp [z]
      rw [← e]
      exact (w7.put (o' := oAsker K a R { dropS s (some (foldL t)) with at_ := s.time, due := !decide (foldL t = []) } vs)).put
  · rw [if_neg okt]
    exact hE (by simpa using okt) H1 sm1
theorem pure_Asker_key : ∀ vs H Q E, sp_Asker_key K vs H Q E → t_Asker_key K E { nx := fun _ H2 => Q .non H2, rt := Q } (L2.start nn_Asker_key vs) H := by
  rintro vs H Q E ⟨I, M, a, R, rows, s, t, rfl, aw, ok, hse, htl, hQ, hE⟩
  have hb := line_big
  have hn := okL_len ok.now
  unfold t_Asker_key
  obtain ⟨vs, hx, _⟩ := aw.obj
  unfold oAsker at hx
  simp! [hx, lk_Asker_now, no_Asker_put, S_len, S_cat]
  exact ⟨by omega, I, M, a, R, rows, s, s.now ++ t, rfl, aw, ok, hse, by rw [List.length_append]; omega, hQ, hE⟩
theorem pure_Asker_rub : ∀ vs H Q E, sp_Asker_rub K vs H Q E → t_Asker_rub K E { nx := fun _ H2 => Q .non H2, rt := Q } (L2.start nn_Asker_rub vs) H := by
  rintro vs H Q E ⟨I, M, a, R, rows, s, rfl, aw, ok, hse, hQ⟩
  have hb := line_big
  have hn := okL_len ok.now
  have okd : okL 12 s.now.dropLast = true := by
    have := ok.now
    unfold okL at this ⊢
    rw [Bool.and_eq_true] at this ⊢
    refine ⟨decide_eq_true (by rw [List.length_dropLast]; omega), List.all_eq_true.mpr fun c hc => List.all_eq_true.mp this.2 c ((List.dropLast_sublist _).subset hc)⟩
  unfold t_Asker_rub
  obtain ⟨vs, hx, _⟩ := aw.obj
  unfold oAsker at hx
  simp! [hx, lk_Asker_now, no_Asker_put, rSlS, S_len, cut_hi]
  refine ⟨by omega, I, M, a, R, rows, s, s.now.dropLast, rfl, aw, ok, hse, by rw [List.length_dropLast]; omega, fun _ => hQ, fun h => by rw [okd] at h; cases h⟩
theorem pure_Asker_again : ∀ vs H Q E, sp_Asker_again K vs H Q E → t_Asker_again K E { nx := fun _ H2 => Q .non H2, rt := Q } (L2.start nn_Asker_again vs) H := by
  rintro vs H Q E ⟨I, M, a, R, rows, s, rfl, aw, ok, hse, hQ, hE⟩
  unfold t_Asker_again
  obtain ⟨vs, hx, _⟩ := aw.obj
  unfold oAsker at hx
  unfold againE at hQ hE
  simp! [hx, lk_Asker_now]
  refine use_fold ok.now fun H1 sm1 => ?_
  have aw1 := aw.same sm1
  simp! [lit_e, S_eq]
  by_cases c1 : foldL s.now = []
  · exact ite_t c1 (hE (by simp [c1]) H1 sm1)
  refine ite_f c1 ?_
  obtain ⟨L, ⟨u, o, vs, lv, zs, rfl, hd, en, es, so, rl, hs⟩, w1, l1, l2⟩ := id aw1
  have hx1 := w1.has.1
  have ha1 := w1.has.2.1
  unfold oAsker at hx1
  simp! [fTru, hx1, lk_Asker_asked, gTru]
  refine ⟨!s.asked.isEmpty, .inr (.inr ⟨_, ha1, by simp⟩), ?_⟩
  cases c2 : s.asked.isEmpty with
  | false => simp! [and_true]; exact hE (by simp [c2]) H1 sm1
  | true =>
    have hQ := hQ (by simp [c1, c2])
    unfold againS at hQ
    simp! [hx1, lk_Asker_shelf]
    obtain ⟨su, szs, rfl, sh1, sh2, sh3⟩ := id so
    refine ⟨_, _, w1.has.2.2.2.2.2.2.1, no_Shelf_clear, ?_⟩
    refine ⟨I, _, a.sh, a.dsh, R.most, R.term, s.ks, _, rfl, w1.sel [_, _, _, _, _, _, _] [6, 0, 1, 2, 3, 4, 5], so, fun I2 H2 o2 s2 w2' so2 => ?_⟩
    have w2 : W I2 H2 ((a.x, oAsker K a R s vs) :: (a.pa, dAsked s) :: (a.pf, dFly s) :: (a.pl, .lst lv) :: (a.rd, oRoad K a.drd a.d s.sent u) :: (u, .lst (zs.map Prod.fst)) :: (a.sh, o2) :: M) := w2'.sel [_, _, _, _, _, _, _] [1, 2, 3, 4, 5, 6, 0]
    clear w2'
    have hx2 := w2.has.1
    unfold oAsker at hx2
    simp! [hx2, pf_Asker_is_due, pf_Asker_tries, pf_Asker_typed_at, ln_Asker, lk_Asker_time, lk_Asker_pause, no_Asker_ask_if_due]
    have w3 := ((w2.put (o' := oAsker K a R { s with due := true } vs)).put (o' := oAsker K a R { s with due := true, tries := 0 } vs)).put (o' := oAsker K a R { s with due := true, tries := 0, at_ := s.time - R.pause } vs)
    refine ⟨I2, M, a, R, rows, { s with ks := [], due := true, tries := 0, at_ := s.time - R.pause }, 0, rfl, ⟨_, ⟨u, o2, vs, lv, zs, rfl, s2 _ _ hd, en.mono s2, es, so2, rl.mono s2, hs.mono s2⟩, w3, l1.mono s2, l2.mono s2⟩, { ok with ks := (by simp), kl := Nat.zero_le _ }, by simp only []; omega, fun I4 H4 s4 aw4 => hQ I4 H4 (s2.trans s4) aw4⟩
theorem lit_nothing : ("nothing" : Str) = S [110, 111, 116, 104, 105, 110, 103] := by kernel_rfl
theorem lit_fresh : ("fresh" : Str) = S [102, 114, 101, 115, 104] := by kernel_rfl
theorem lit_old : ("old" : Str) = S [111, 108, 100] := by kernel_rfl
theorem pure_Asker_view : ∀ vs H Q E, sp_Asker_view K vs H Q E → t_Asker_view K E { nx := fun _ H2 => Q .non H2, rt := Q } (L2.start nn_Asker_view vs) H := by
  rintro vs H Q E ⟨I, M, a, R, rows, s, rfl, aw, ok, hQ⟩
  unfold t_Asker_view
  obtain ⟨vs, hx, hs⟩ := aw.obj
  unfold oAsker at hx
  cases hsh : s.shown with
  | none =>
    rw [hsh] at hs
    have hs : vs = .non := hs
    subst hs
    simp! [hx, lk_Asker_shown, decide_true]
    refine ⟨Nat.zero_le _, fun l hl => ⟨three_le, fun t ht => ?_⟩⟩
    have hv : viewR s = [] ∧ viewK s = [] ∧ viewW s = [110, 111, 116, 104, 105, 110, 103] := by unfold viewR viewK viewW; rw [hsh]; exact ⟨rfl, rfl, rfl⟩
    rw [hv.1, hv.2.1, hv.2.2] at hQ
    have aw1 := aw.newM (o := .lst []) hl
    obtain ⟨I2, s2, aw2, h2⟩ := aw1.mkI ht (.tup [.str "nothing", .str "", .ref l])
    rw [lit_nothing, lit_e] at h2 aw2 ⊢
    exact hQ I2 _ t l s2 aw2 h2
  | some v =>
    obtain ⟨key, rs, old⟩ := v
    rw [hsh] at hs
    obtain ⟨t, l, rfl, h1, h2⟩ := hs
    simp! [hx, lk_Asker_shown, decide_false, reduceCtorEq, no_Asker_is_fresh]
    refine ⟨I, M, a, R, rows, s, rfl, aw, ok.now, by rw [hsh]; simp, fun H1 sm1 => ?_⟩
    have aw1 := aw.same sm1
    have hx1 := sm1 _ _ hx
    have h1' := aw1.sub _ _ h1
    have h2' := aw1.sub _ _ h2
    have hv : viewR s = rs ∧ viewK s = key ∧ viewW s = if freshS s = true then [102, 114, 101, 115, 104] else [111, 108, 100] := by unfold viewR viewK viewW; rw [hsh]; exact ⟨rfl, rfl, rfl⟩
    rw [hv.1, hv.2.1] at hQ
    have fin : t_Asker_view_B1_2 K E { nx := fun _ H2 => Q .non H2, rt := Q } [some (.ref a.x), some (sV (viewW s))] H1 := by
      unfold t_Asker_view_B1_2
      simp! [hx1, lk_Asker_shown, h1', at3_0, at3_1, h2']
      intro l2 hl2
      refine ⟨three_le, fun t2 ht2 => ?_⟩
      have aw2 := aw1.newM (o := .lst (rs.map sV)) hl2
      obtain ⟨I3, s3, aw3, h3⟩ := aw2.mkI ht2 (.tup [sV (viewW s), sV key, .ref l2])
      exact hQ I3 _ t2 l2 s3 aw3 h3
    rw [hv.2.2] at fin
    cases c : freshS s with
    | true =>
      rw [c, if_pos rfl] at fin
      simp! [lit_fresh]
      exact fin
    | false =>
      rw [c, if_neg (by decide)] at fin
      simp! [lit_old]
      exact fin
end
end TA

set_option linter.all false
set_option maxRecDepth 100000
set_option maxHeartbeats 4000000
/-! A new asker. -/
namespace TA
open PySem L2 PyProof.Rows
open SX (S S_len S_inj S_cat S_tl)
local macro_rules | `(tactic| simp! [$as,*]) => `(tactic| first | simp only [L2.start, tSeq, tAsg, tOp, fFld, tVar, gIxL, gIxT, tCB, tCons, tNil, gLenL, gLenT, gLenS, rI, rI0, fSet, tIfS, tTest, tB, rNotN, rIsN, rEq, rNe, tC, tDrop, fBM, fBM0, gTy, rAppend, tTup, tLst, tRet, tRetN, tNext, gName, fTup, gCons, gNil, tCall, fCallS, fMeth, tMeth, fMethS, fMake, tMake, fMakeS, tUn, rU, tAnd, tOr, tNot, tAndV, tOrV, tNotV, tIf, tChain, gListL, gListT, tSl, tNoPart, tPart, gSlL, fRaise, gStrI, gCatS, gMin2, gMax2, gIntB, tYes, fLcL, fLcT, fLcS, fLcR1, fForL, fForR1, fForR2, fRev, fGetI, gGetI, gInI, gLenI, fPutI, fNewI,
  List.map_cons, List.map_nil, List.length_cons, List.length_nil, List.replicate, List.cons_append, List.nil_append, List.append_nil, List.getElem?_cons_zero, List.getElem?_cons_succ, List.set_cons_zero, List.set_cons_succ, reduceIte, Bool.not_true, Bool.not_false, Nat.reduceAdd, Nat.reduceSub, Bool.false_eq_true, eq_self,
  Option.some.injEq, V.int.injEq, V.ref.injEq, V.str.injEq, V.bl.injEq, HO.ins.injEq, HO.lst.injEq, HO.tup.injEq, HO.dK.injEq, List.cons.injEq, and_assoc, exists_eq_left', exists_and_left, and_true, true_and, true_or, or_true, false_or, or_false, exists_eq_left, exists_eq_right, exists_eq_right', exists_eq, exists_eq', exists_const, upd_same, sc_ii, sc_ss, sc_bb, sc_in, sc_ni, sc_ns, sc_sn, sc_nn, $as,*] | skip)
section
variable {K : PySem.W.Frag}
theorem upd_upd {H : Hp} {a : Addr} {o o' : HO} : upd (upd H a o) a o' = upd H a o' := by
  funext b
  by_cases e : b = a
  · subst e; rw [upd_same, upd_same]
  · rw [upd_ne e, upd_ne e, upd_ne e]
theorem pure_Asker___init__ : ∀ vs H Q E, sp_Asker___init__ K vs H Q E → t_Asker___init__ K E { nx := fun _ H2 => Q .non H2, rt := Q } (L2.start nn_Asker___init__ vs) H := by
  rintro vs H Q E ⟨I, M, x, dx, st, rd, sh, drd, d, u, dsh, dst, r, o, R, rows, rfl, w, hd, so, l1, l2, hQ, hE⟩
  have hx := w.has.1
  unfold t_Asker___init__
  simp! [and_true]
  unfold rulesOk at hQ hE
  refine ⟨R.many, rfl, ?_⟩
  by_cases c0 : manyOk R.many = true
  · rw [if_pos c0]
    rw [c0, Bool.true_and] at hQ hE
    unfold Out
    simp only []
    by_cases c1 : 0 ≤ R.pause
    · refine ite_t c1 ?_
      by_cases c2 : R.pause ≤ 9
      · refine ite_nt c2 ?_
        by_cases c3 : 1 ≤ R.asks
        · refine ite_t c3 ?_
          by_cases c4 : R.asks ≤ 3
          · refine ite_nt c4 ?_
            by_cases c5 : 1 ≤ R.pat
            · refine ite_t c5 ?_
              by_cases c6 : R.pat ≤ 40
              · refine ite_nt c6 ?_
                have hQ := hQ (by simp [c1, c2, c3, c4, c5, c6])
                simp! [hx, upd_upd, il_Asker_1, il_Asker_2, il_Asker_3, il_Asker_4, il_Asker_5, il_Asker_6, il_Asker_7, il_Asker_8, il_Asker_9, il_Asker_10, il_Asker_11, il_Asker_12, List.length_nil, show (0 : Nat) < 1000 from by decide]
                intro pa hpa
                have w2 := (w.put (o' := .ins (He.ga K "Asker") dx (putF "tries" (.int 0) (putF "is_due" (.bl false) (putF "typed_at" (.int 0) (putF "now" (.str "") (putF "time" (.int 0) (putF "patience" (.int R.pat) (putF "asks_most" (.int R.asks) (putF "pause" (.int R.pause) (putF "rows_most" (.int R.many) (putF "shelf" (.ref sh) (putF "road" (.ref rd) (putF "store" (.ref st) [])))))))))))))).newM (o := dI []) hpa
                refine ⟨_, _, w2.has.2.1, il_Asker_12, fun pf hpf => ?_⟩
                have w3 := (w2.put1 (o' := .ins (He.ga K "Asker") dx (putF "asked" (.ref pa) (putF "tries" (.int 0) (putF "is_due" (.bl false) (putF "typed_at" (.int 0) (putF "now" (.str "") (putF "time" (.int 0) (putF "patience" (.int R.pat) (putF "asks_most" (.int R.asks) (putF "pause" (.int R.pause) (putF "rows_most" (.int R.many) (putF "shelf" (.ref sh) (putF "road" (.ref rd) (putF "store" (.ref st) []))))))))))))))).newM (o := dI []) hpf
                refine ⟨_, _, w3.has.2.2.1, il_Asker_13, ?_⟩
                simp! [il_Asker_14]
                refine ⟨Nat.zero_le _, fun pl hpl => ?_⟩
                have w5 := (w3.put2 (o' := .ins (He.ga K "Asker") dx (putF "shown" .non (putF "flying" (.ref pf) (putF "asked" (.ref pa) (putF "tries" (.int 0) (putF "is_due" (.bl false) (putF "typed_at" (.int 0) (putF "now" (.str "") (putF "time" (.int 0) (putF "patience" (.int R.pat) (putF "asks_most" (.int R.asks) (putF "pause" (.int R.pause) (putF "rows_most" (.int R.many) (putF "shelf" (.ref sh) (putF "road" (.ref rd) (putF "store" (.ref st) []))))))))))))))))).newM (o := .lst []) hpl
                refine ⟨_, _, w5.has.2.2.2.1, il_Asker_15, ?_⟩
                rw [in_Asker]
                have w6 := w5.put3 (o' := oAsker K ⟨x, dx, pa, pf, pl, rd, drd, d, sh, dsh, st, dst, r⟩ R S0 .non)
                have hlit : (V.str ("" : Str)) = sV [] := by rw [lit_e]
                rw [hlit]
                refine hQ I _ pa pf pl (Sub.refl _) ⟨_, ⟨u, o, .non, [], [], rfl, hd, Enc.nil, rfl, so, .nil, rfl⟩, ?_, l1, l2⟩
                exact W.sel [_, _, _, _, _, _, _] w6 [3, 2, 1, 0, 4, 5, 6]
              · exact ite_nf c6 (hE (by simp [c6]))
            · exact ite_f c5 (hE (by simp [c5]))
          · exact ite_nf c4 (hE (by simp [c4]))
        · exact ite_f c3 (hE (by simp [c3]))
      · exact ite_nf c2 (hE (by simp [c2]))
    · exact ite_f c1 (hE (by simp [c1]))
  · rw [if_neg c0]
    exact hE (by simp [c0])
end
end TA

set_option linter.all false
set_option maxRecDepth 100000
set_option maxHeartbeats 1000000
/-! What the laws about askers draw and make. -/
namespace TA
open PySem L2 PyProof.Rows
open SX (S S_len S_inj S_cat S_tl)
local macro_rules | `(tactic| simp! [$as,*]) => `(tactic| first | simp only [L2.start, tSeq, tAsg, tOp, fFld, tVar, gIxL, gIxT, tCB, tCons, tNil, gLenL, gLenT, gLenS, rI, rI0, fSet, tIfS, tTest, tB, rNotN, rIsN, rEq, rNe, tC, tDrop, fBM, fBM0, gTy, rAppend, tTup, tLst, tRet, tRetN, tNext, gName, fTup, gCons, gNil, tCall, fCallS, fMeth, tMeth, fMethS, fMake, tMake, fMakeS, tUn, rU, tAnd, tOr, tNot, tAndV, tOrV, tNotV, tIf, tChain, gListL, gListT, tSl, tNoPart, tPart, gSlL, fRaise, gStrI, gCatS, gMin2, gMax2, gIntB, tYes, fLcL, fLcT, fLcS, fLcR1, fForL, fForR1, fForR2, fRev, fGetI, gGetI, gInI, gLenI, fPutI, fNewI,
  List.map_cons, List.map_nil, List.length_cons, List.length_nil, List.replicate, List.cons_append, List.nil_append, List.append_nil, List.getElem?_cons_zero, List.getElem?_cons_succ, List.set_cons_zero, List.set_cons_succ, reduceIte, Bool.not_true, Bool.not_false, Nat.reduceAdd, Nat.reduceSub, Bool.false_eq_true, eq_self,
  Option.some.injEq, V.int.injEq, V.ref.injEq, V.str.injEq, V.bl.injEq, HO.ins.injEq, HO.lst.injEq, HO.tup.injEq, HO.dK.injEq, List.cons.injEq, and_assoc, exists_eq_left', exists_and_left, and_true, true_and, true_or, or_true, false_or, or_false, exists_eq_left, exists_eq_right, exists_eq_right', exists_eq, exists_eq', exists_const, upd_same, sc_ii, sc_ss, sc_bb, sc_in, sc_ni, sc_ns, sc_sn, sc_nn, $as,*] | skip)
/-- the script, the town, an asker, and the rest -/
structure LW (K : PySem.W.Frag) (I H : Hp) (a t : Addr) (n : Nat) (ad : Ad) (R : Rul) (rows : List Tx) (s : AS) (M : List (Addr × HO)) : Prop where
  ex : ∃ L, AskO K I ad R s L ∧ Dr K I H a t n (L ++ M) ∧ Ls I M ad.st (oStore K ad.dst ad.r) ∧ Ls I M ad.r (.lst (rows.map sV))
section
variable {K : PySem.W.Frag} {I I' H H' : Hp} {a t p : Addr} {o : HO} {n m : Nat} {ad : Ad} {R : Rul} {rows : List Tx} {s s' : AS} {M : List (Addr × HO)} {Q : VK} {E : XK}
theorem LW.le (h : LW K I H a t n ad R rows s M) (e : n ≤ m) : LW K I H a t m ad R rows s M := by
  obtain ⟨L, ao, d, l1, l2⟩ := h
  exact ⟨L, ao, d.le e, l1, l2⟩
theorem LW.same (h : LW K I H a t n ad R rows s M) (e : Same H H') : LW K I H' a t n ad R rows s M := by
  obtain ⟨L, ao, d, l1, l2⟩ := h
  exact ⟨L, ao, d.same e, l1, l2⟩
theorem LW.sub (h : LW K I H a t n ad R rows s M) : Sub I H := by
  obtain ⟨L, ao, d, l1, l2⟩ := h
  exact d.sub
theorem LW.mkI (h : LW K I H a t n ad R rows s M) (hp : H p = none) (o : HO) : ∃ I', Sub I I' ∧ LW K I' (upd H p o) a t n ad R rows s M ∧ I' p = some o := by
  obtain ⟨L, ao, d, l1, l2⟩ := h
  have sb : Sub I (upd I p o) := Sub.new (d.noI hp)
  exact ⟨_, sb, ⟨L, ao.mono sb, d.newI hp, l1.mono sb, l2.mono sb⟩, upd_same⟩
theorem LW.skip (h : LW K I H a t n ad R rows s M) (hp : H p = none) : LW K I (upd H p o) a t n ad R rows s M := by
  obtain ⟨L, ao, d, l1, l2⟩ := h
  exact ⟨L, ao, d.skip hp, l1, l2⟩
theorem LW.newM (h : LW K I H a t n ad R rows s M) (hp : H p = none) : LW K I (upd H p o) a t n ad R rows s ((p, o) :: M) := by
  obtain ⟨L, ao, d, l1, l2⟩ := h
  exact ⟨L, ao, (d.newM hp).perm List.perm_middle, l1.cons, l2.cons⟩
theorem LW.l1 (h : LW K I H a t n ad R rows s M) : Ls I M ad.st (oStore K ad.dst ad.r) := by
  obtain ⟨L, ao, d, l1, l2⟩ := h
  exact l1
theorem LW.l2 (h : LW K I H a t n ad R rows s M) : Ls I M ad.r (.lst (rows.map sV)) := by
  obtain ⟨L, ao, d, l1, l2⟩ := h
  exact l2
/-- the first one will not change any more -/
theorem LW.frz (h : LW K I H a t n ad R rows s ((p, o) :: M)) (l1 : Ls I M ad.st (oStore K ad.dst ad.r)) (l2 : Ls I M ad.r (.lst (rows.map sV))) : ∃ I', Sub I I' ∧ LW K I' H a t n ad R rows s M ∧ I' p = some o := by
  obtain ⟨L, ao, d, _, _⟩ := h
  have d1 : Dr K I H a t n ((p, o) :: (L ++ M)) := d.perm List.perm_middle.symm
  have sb : Sub I (upd I p o) := Sub.new (d1.out (p, o) List.mem_cons_self)
  exact ⟨_, sb, ⟨L, ao.mono sb, d1.freeze, l1.mono sb, l2.mono sb⟩, upd_same⟩
theorem LW.put (h : LW K I H a t n ad R rows s ((p, o) :: M)) {o' : HO} (l1 : Ls I M ad.st (oStore K ad.dst ad.r)) (l2 : Ls I M ad.r (.lst (rows.map sV))) : LW K I (upd H p o') a t n ad R rows s ((p, o') :: M) := by
  obtain ⟨L, ao, d, _, _⟩ := h
  have d1 : Dr K I H a t n ((p, o) :: (L ++ M)) := d.perm List.perm_middle.symm
  exact ⟨L, ao, d1.put.perm List.perm_middle, l1.cons, l2.cons⟩
theorem LW.drop (h : LW K I H a t n ad R rows s ((p, o) :: M)) (l1 : Ls I M ad.st (oStore K ad.dst ad.r)) (l2 : Ls I M ad.r (.lst (rows.map sV))) : LW K I H a t n ad R rows s M := by
  obtain ⟨L, ao, d, _, _⟩ := h
  have d1 : Dr K I H a t n ((p, o) :: (L ++ M)) := d.perm List.perm_middle.symm
  exact ⟨L, ao, d1.drop, l1, l2⟩
theorem LW.scr (h : LW K I H a t n ad R rows s M) : Scr K I a := by
  obtain ⟨L, ao, d, l1, l2⟩ := h
  exact d.scr
/-- as a method sees it -/
theorem LW.aw (h : LW K I H a t n ad R rows s M) : ∃ zs : List V, AskW K I H ad R rows s ((t, .lst zs) :: M) ∧ (∀ (I' H' : Hp) (s' : AS), Sub I I' → AskW K I' H' ad R rows s' ((t, .lst zs) :: M) → LW K I' H' a t n ad R rows s' M) ∧
    ∀ (I' H' : Hp) (s' : AS) (p : Addr) (o : HO), Sub I I' → AskW K I' H' ad R rows s' ((p, o) :: (t, .lst zs) :: M) → LW K I' H' a t n ad R rows s' ((p, o) :: M) := by
  obtain ⟨L, ao, ⟨sc, zs, lz, w⟩, l1, l2⟩ := h
  refine ⟨zs, ⟨L, ao, w.perm List.perm_middle, l1.cons, l2.cons⟩, fun I' H' s' sb aw => ?_, fun I' H' s' p o sb aw => ?_⟩
  · obtain ⟨L', ao', w', _, _⟩ := aw
    exact ⟨L', ao', ⟨sc.mono sb, zs, lz, w'.perm List.perm_middle.symm⟩, l1.mono sb, l2.mono sb⟩
  · obtain ⟨L', ao', w', _, _⟩ := aw
    refine ⟨L', ao', ⟨sc.mono sb, zs, lz, w'.perm ?_⟩, (l1.mono sb).cons, (l2.mono sb).cons⟩
    have e := (List.perm_middle (a := (t, HO.lst zs)) (l₁ := L' ++ [(p, o)]) (l₂ := M)).symm
    simp only [List.append_assoc, List.cons_append, List.nil_append] at e
    exact e
theorem LW.obj (h : LW K I H a t n ad R rows s M) : ∃ vs, H ad.x = some (oAsker K ad R s vs) ∧ ShV I vs s.shown := by
  obtain ⟨zs, aw, _⟩ := h.aw
  exact aw.obj
theorem LW.store (h : LW K I H a t n ad R rows s M) : H ad.st = some (oStore K ad.dst ad.r) := by
  obtain ⟨L, ao, ⟨sc, zs, lz, w⟩, l1, l2⟩ := h
  have := l1.at (w.perm (M' := M ++ ((t, .lst zs) :: L)) ?_ |> fun w => (⟨w.sub, has_of fun p hp => has_mem w.has p (List.mem_append_left _ hp), fun p hp => w.out p (List.mem_append_left _ hp), by have := w.nd; rw [List.map_append] at this; exact (List.nodup_append.mp this).1⟩ : W I H M))
  · exact this
  · exact (List.perm_append_comm (l₁ := M) (l₂ := (t, .lst zs) :: L))
/-! ### draws -/
theorem LW.draw {b : Int} (h : LW K I H a t n ad R rows s M) (hn : n < 1000000) (hb : 0 < b) (q : ∀ (d : Int) (H' : Hp), 0 ≤ d → d < b → LW K I H' a t (n + 1) ad R rows s M → Q (.int d) H') : sp__law_draw K [.ref a, .ref t, .int b] H Q E := by
  obtain ⟨L, ao, d, l1, l2⟩ := h
  exact ⟨I, a, t, n, _, b, rfl, d, hn, hb, fun i H' h0 h1 d' => q i H' h0 h1 ⟨L, ao, d', l1, l2⟩⟩
theorem LW.pick {l : Addr} {xs : List V} (h : LW K I H a t n ad R rows s M) (hn : n < 1000000) (hl : I l = some (.lst xs)) (hx : xs ≠ []) (q : ∀ (x : V) (H' : Hp), x ∈ xs → LW K I H' a t (n + 1) ad R rows s M → Q x H') : sp__law_pick K [.ref a, .ref t, .ref l] H Q E := by
  obtain ⟨L, ao, d, l1, l2⟩ := h
  refine ⟨I, a, t, l, n, _, xs, rfl, d, hn, fun H' hd => ?_, hx, fun x H' hx d' => q x H' hx ⟨L, ao, d', l1, l2⟩⟩
  rcases hd with hd | hd
  · exact hd.sub _ _ hl
  · exact hd.sub _ _ hl
theorem LW.query (h : LW K I H a t n ad R rows s M) (hn : n < 900000) (q : ∀ (l : Tx) (H' : Hp), okL 8 l = true → LW K I H' a t (n + 5) ad R rows s M → Q (sV l) H') : sp__law_query K [.ref a, .ref t] H Q E := by
  obtain ⟨L, ao, d, l1, l2⟩ := h
  exact ⟨I, a, t, n, _, rfl, d, hn, fun l H' h0 d' => q l H' h0 ⟨L, ao, d', l1, l2⟩⟩
theorem LW.row (h : LW K I H a t n ad R rows s M) (hn : n < 900000) (q : ∀ (l : Tx) (H' : Hp), okL 15 l = true → LW K I H' a t (n + 7) ad R rows s M → Q (sV l) H') : sp__law_row K [.ref a, .ref t] H Q E := by
  obtain ⟨L, ao, d, l1, l2⟩ := h
  exact ⟨I, a, t, n, _, rfl, d, hn, fun l H' h0 d' => q l H' h0 ⟨L, ao, d', l1, l2⟩⟩
/-! ### the asker's methods -/
theorem LW.m_put {tx : Tx} (h : LW K I H a t n ad R rows s M) (ok : OkS R 0 s) (hse : s.sent ≤ 29000) (hl : tx.length ≤ 1000000) (q : okL 12 tx = true → ∀ I' H', Sub I I' → LW K I' H' a t n ad R rows (putS R s tx) M → Q .non H') (e : okL 12 tx = false → ∀ H', Same H H' → E (bT K) none H') : sp_Asker_put K [.ref ad.x, sV tx] H Q E := by
  obtain ⟨zs, aw, b, _⟩ := h.aw
  exact ⟨I, _, ad, R, rows, s, tx, rfl, aw, ok, hse, hl, fun o I' H' sb aw' => q o I' H' sb (b I' H' _ sb aw'), e⟩
theorem LW.m_key {tx : Tx} (h : LW K I H a t n ad R rows s M) (ok : OkS R 0 s) (hse : s.sent ≤ 29000) (hl : tx.length ≤ 1000) (q : okL 12 (s.now ++ tx) = true → ∀ I' H', Sub I I' → LW K I' H' a t n ad R rows (putS R s (s.now ++ tx)) M → Q .non H') (e : okL 12 (s.now ++ tx) = false → ∀ H', Same H H' → E (bT K) none H') : sp_Asker_key K [.ref ad.x, sV tx] H Q E := by
  obtain ⟨zs, aw, b, _⟩ := h.aw
  exact ⟨I, _, ad, R, rows, s, tx, rfl, aw, ok, hse, hl, fun o I' H' sb aw' => q o I' H' sb (b I' H' _ sb aw'), e⟩
theorem LW.m_rub (h : LW K I H a t n ad R rows s M) (ok : OkS R 0 s) (hse : s.sent ≤ 29000) (q : ∀ I' H', Sub I I' → LW K I' H' a t n ad R rows (putS R s s.now.dropLast) M → Q .non H') : sp_Asker_rub K [.ref ad.x] H Q E := by
  obtain ⟨zs, aw, b, _⟩ := h.aw
  exact ⟨I, _, ad, R, rows, s, rfl, aw, ok, hse, fun I' H' sb aw' => q I' H' sb (b I' H' _ sb aw')⟩
theorem LW.m_tick {k : Int} (h : LW K I H a t n ad R rows s M) (ok : OkS R 0 s) (ro : rowsOk rows) (hse : s.sent ≤ 29000) (q : tickOk k = true → ∀ I' H', Sub I I' → LW K I' H' a t n ad R rows (tickS R rows k.toNat s) M → Q .non H') (e : tickOk k = false → E (bN K) none H) : sp_Asker_tick K [.ref ad.x, .int k] H Q E := by
  obtain ⟨zs, aw, b, _⟩ := h.aw
  exact ⟨I, _, ad, R, rows, s, k, rfl, aw, ok, ro, hse, fun o I' H' sb aw' => q o I' H' sb (b I' H' _ sb aw'), e⟩
theorem LW.m_again (h : LW K I H a t n ad R rows s M) (ok : OkS R 0 s) (hse : s.sent ≤ 29000) (q : againE s = false → ∀ I' H', Sub I I' → LW K I' H' a t n ad R rows (againS R s) M → Q .non H') (e : againE s = true → ∀ H', Same H H' → E (bA K) none H') : sp_Asker_again K [.ref ad.x] H Q E := by
  obtain ⟨zs, aw, b, _⟩ := h.aw
  exact ⟨I, _, ad, R, rows, s, rfl, aw, ok, hse, fun o I' H' sb aw' => q o I' H' sb (b I' H' _ sb aw'), e⟩
theorem LW.m_typed (h : LW K I H a t n ad R rows s M) (q : Q (sV s.now) H) : sp_Asker_typed K [.ref ad.x] H Q E := by
  obtain ⟨zs, aw, b, _⟩ := h.aw
  exact ⟨I, _, ad, R, rows, s, rfl, aw, q⟩
theorem LW.m_clock (h : LW K I H a t n ad R rows s M) (q : Q (.int s.time) H) : sp_Asker_clock K [.ref ad.x] H Q E := by
  obtain ⟨zs, aw, b, _⟩ := h.aw
  exact ⟨I, _, ad, R, rows, s, rfl, aw, q⟩
theorem LW.m_wait (h : LW K I H a t n ad R rows s M) (q : Q (.bl (s.due || !s.asked.isEmpty)) H) : sp_Asker_is_waiting K [.ref ad.x] H Q E := by
  obtain ⟨zs, aw, b, _⟩ := h.aw
  exact ⟨I, _, ad, R, rows, s, rfl, aw, q⟩
/-- the view, its list still to be changed -/
theorem LW.m_viewM (h : LW K I H a t n ad R rows s M) (ok : OkS R 0 s) (q : ∀ (I' H' : Hp) (v l : Addr), Sub I I' → LW K I' H' a t n ad R rows s ((l, .lst ((viewR s).map sV)) :: M) → I' v = some (.tup [sV (viewW s), sV (viewK s), .ref l]) → Q (.ref v) H') : sp_Asker_view K [.ref ad.x] H Q E := by
  obtain ⟨zs, aw, _, b⟩ := h.aw
  exact ⟨I, _, ad, R, rows, s, rfl, aw, ok, fun I' H' v l sb aw' hv => q I' H' v l sb (b I' H' _ _ _ sb aw') hv⟩
theorem LW.m_view (h : LW K I H a t n ad R rows s M) (ok : OkS R 0 s) (q : ∀ (I' H' : Hp) (v l : Addr), Sub I I' → LW K I' H' a t n ad R rows s M → I' v = some (.tup [sV (viewW s), sV (viewK s), .ref l]) → I' l = some (.lst ((viewR s).map sV)) → Q (.ref v) H') : sp_Asker_view K [.ref ad.x] H Q E :=
  h.m_viewM ok fun I' H' v l sb lw hv => by
    obtain ⟨I2, s2, lw2, h2⟩ := lw.frz (h.l1.mono sb) (h.l2.mono sb)
    exact q I2 H' v l (sb.trans s2) lw2 (s2 _ _ hv) h2
theorem LW.m_logM (h : LW K I H a t n ad R rows s M) (q : ∀ (H' : Hp) (p : Addr) (lv : List V), LW K I H' a t n ad R rows s ((p, .lst lv) :: M) → RpAll I lv (s.log.map lgD) → Q (.ref p) H') : sp_Asker_log K [.ref ad.x] H Q E := by
  obtain ⟨zs, aw, _, b⟩ := h.aw
  exact ⟨I, _, ad, R, rows, s, rfl, aw, fun H' p lv aw' r => q H' p lv (b I H' _ _ _ (Sub.refl _) aw') r⟩
theorem LW.m_log (h : LW K I H a t n ad R rows s M) (q : ∀ (I' H' : Hp) (v : V), Sub I I' → LW K I' H' a t n ad R rows s M → Rp I' v (.list (s.log.map lgD)) → Q v H') : sp_Asker_log K [.ref ad.x] H Q E :=
  h.m_logM fun H' p lv lw r => by
    obtain ⟨I2, s2, lw2, h2⟩ := lw.frz h.l1 h.l2
    exact q I2 H' _ s2 lw2 (.lst h2 (r.mono s2))
/-- the store is asked -/
theorem LW.m_answer {qr : Tx} (h : LW K I H a t n ad R rows s M) (ro : rowsOk rows) (ok : OkS R 0 s) (okq : okL 12 qr = true) (q : ∀ (I' H' : Hp) (v l : Addr), Sub I I' → LW K I' H' a t n ad R rows s M → I' v = some (.tup [.ref l, .bl (ansA rows qr R.many)]) → I' l = some (.lst ((ansR rows qr R.many).map sV)) → Q (.ref v) H') : sp_Store_answer K [.ref ad.st, sV qr, .int R.many] H Q E := by
  obtain ⟨L, ao, ⟨sc, zs, lz, w⟩, l1, l2⟩ := h
  have lift : ∀ {p : Addr} {o : HO}, Ls I M p o → Ls I ((t, .lst zs) :: (L ++ M)) p o := fun h => h.elim .inl fun h => .inr (List.mem_cons_of_mem _ (List.mem_append_right _ h))
  refine ⟨I, _, ad.st, ad.dst, ad.r, rows, qr, R.many, rfl, w, lift l1, lift l2, ro, by have := okL_len okq; omega, fun _ I5 H5 v5 s5 w5 rv5 => ?_, fun e he => by rw [many_ok ok okq] at he; cases he⟩
  obtain ⟨tt, l, rfl, e1, e2⟩ := rp_answ rv5
  exact q I5 H5 tt l s5 ⟨L, ao.mono s5, ⟨sc.mono s5, zs, lz, w5⟩, l1.mono s5, l2.mono s5⟩ e1 e2
/-- all that may change, as one list -/
theorem LW.wv (h : LW K I H a t n ad R rows s M) : ∃ X, W I H X ∧ (∀ I' H', Sub I I' → W I' H' X → LW K I' H' a t n ad R rows s M) ∧ (∀ I' H' p o, Sub I I' → W I' H' ((p, o) :: X) → LW K I' H' a t n ad R rows s ((p, o) :: M)) ∧ ∀ p o, Ls I M p o → Ls I X p o := by
  obtain ⟨L, ao, ⟨sc, zs, lz, w⟩, l1, l2⟩ := h
  refine ⟨_, w, fun I' H' sb w' => ⟨L, ao.mono sb, ⟨sc.mono sb, zs, lz, w'⟩, l1.mono sb, l2.mono sb⟩, fun I' H' p o sb w' => ⟨L, ao.mono sb, ⟨sc.mono sb, zs, lz, w'.perm ?_⟩, (l1.mono sb).cons, (l2.mono sb).cons⟩, fun p o h => h.elim .inl fun h => .inr (List.mem_cons_of_mem _ (List.mem_append_right _ h))⟩
  have e := (List.perm_middle (a := (p, o)) (l₁ := (t, HO.lst zs) :: L) (l₂ := M))
  exact e
theorem LW.m_best {l : Addr} {rs : List Tx} {qr : Tx} {k : Int} (h : LW K I H a t n ad R rows s M) (hl : I l = some (.lst (rs.map sV))) (ro : rowsOk rs) (okq : okL 12 qr = true) (k0 : 0 ≤ k) (q : ∀ (I' H' : Hp) (p : Addr), Sub I I' → LW K I' H' a t n ad R rows s M → I' p = some (.lst ((ansR rs qr k).map sV)) → Q (.ref p) H') : sp_best K [.ref l, sV qr, .int k] H Q E := by
  obtain ⟨X, w, b, _, _⟩ := h.wv
  exact ⟨I, X, l, rs, qr, k, rfl, w, Ls.i hl, ro, okq, k0, fun I' H' p sb w' hp => q I' H' p sb (b I' H' sb w') hp⟩
/-- [x for x in xs if ..] of texts -/
theorem LW.filt {l : Addr} {rs : List Tx} {p : Tx → Bool} {j : Nat} {tt : TT} {σ : L2.St} (h : LW K I H a t n ad R rows s M) (hl : I l = some (.lst (rs.map sV))) (hn : rs.length ≤ 1000000) (hj : ∀ x, wipe ((wipe σ [j]).set j x) [j] = wipe σ [j]) (hjj : ∀ x : V, ((wipe σ [j]).set j (some x))[j]? = some (some x))
    (ht : ∀ r ∈ rs, ∀ H' Q', Sub I H' → Q' (p r) H' → tt ((wipe σ [j]).set j (some (sV r))) H' Q') (hd : ∀ (I' H' : Hp) (D : Addr), Sub I I' → LW K I' H' a t n ad R rows s M → I' D = some (.lst ((rs.filter p).map sV)) → Q (.ref D) H') :
    CompW (fun H => H l = some (.lst (rs.map sV))) (rs.map sV).length (fun i x => (rs.map sV)[i]? = some x) (gName j) tt (tVar j) [j] σ H Q := by
  obtain ⟨X, w, _, b, _⟩ := h.wv
  have e : (rs.map fun r => ((sV r : V), r)).map Prod.fst = rs.map sV := by rw [List.map_map]; rfl
  have := comp_filter (zs := rs.map fun r => ((sV r : V), r)) (p := fun z => p z.2) (src := fun H => H l = some (.lst (rs.map sV))) (j := j) (tt := tt) (σ := σ) (Q := Q) w (by rw [List.length_map]; exact hn) hj hjj (fun D o H' w' => w'.sub _ _ hl) (fun z hz D o H' Q' w' q' => ?_) (fun D H' w' => ?_)
  · rw [e] at this; exact this
  · obtain ⟨r, hr, rfl⟩ := List.mem_map.mp hz
    exact ht r hr H' Q' w'.sub q'
  · have e2 : ((rs.map fun r => ((sV r : V), r)).filter fun z => p z.2).map Prod.fst = (rs.filter p).map sV := by
      rw [List.filter_map, List.map_map]; rfl
    rw [e2] at w'
    have lw := b I H' D _ (Sub.refl _) w'
    obtain ⟨I2, s2, lw2, h2⟩ := lw.frz h.l1 h.l2
    exact hd I2 H' D s2 lw2 h2
end
end TA

set_option linter.all false
set_option maxRecDepth 100000
set_option maxHeartbeats 1000000
/-! Stores, delays, rules that are drawn; roads, shelves, askers that are made. -/
namespace TA
open PySem L2 PyProof.Rows
open SX (S S_len S_inj S_cat S_tl)
local macro_rules | `(tactic| simp! [$as,*]) => `(tactic| first | simp only [L2.start, tSeq, tAsg, tOp, fFld, tVar, gIxL, gIxT, tCB, tCons, tNil, gLenL, gLenT, gLenS, rI, rI0, fSet, tIfS, tTest, tB, rNotN, rIsN, rEq, rNe, tC, tDrop, fBM, fBM0, gTy, rAppend, tTup, tLst, tRet, tRetN, tNext, gName, fTup, gCons, gNil, tCall, fCallS, fMeth, tMeth, fMethS, fMake, tMake, fMakeS, tUn, rU, tAnd, tOr, tNot, tAndV, tOrV, tNotV, tIf, tChain, gListL, gListT, tSl, tNoPart, tPart, gSlL, fRaise, gStrI, gCatS, gMin2, gMax2, gIntB, tYes, fLcL, fLcT, fLcS, fLcR1, fForL, fForR1, fForR2, fRev, fGetI, gGetI, gInI, gLenI, fPutI, fNewI,
  List.map_cons, List.map_nil, List.length_cons, List.length_nil, List.replicate, List.cons_append, List.nil_append, List.append_nil, List.getElem?_cons_zero, List.getElem?_cons_succ, List.set_cons_zero, List.set_cons_succ, reduceIte, Bool.not_true, Bool.not_false, Nat.reduceAdd, Nat.reduceSub, Bool.false_eq_true, eq_self,
  Option.some.injEq, V.int.injEq, V.ref.injEq, V.str.injEq, V.bl.injEq, HO.ins.injEq, HO.lst.injEq, HO.tup.injEq, HO.dK.injEq, List.cons.injEq, and_assoc, exists_eq_left', exists_and_left, and_true, true_and, true_or, or_true, false_or, or_false, exists_eq_left, exists_eq_right, exists_eq_right', exists_eq, exists_eq', exists_const, upd_same, sc_ii, sc_ss, sc_bb, sc_in, sc_ni, sc_ns, sc_sn, sc_nn, $as,*] | skip)
/-- a comprehension whose turns draw -/
theorem comp_draw {β : Type} {K : PySem.W.Frag} {src : Hp → Prop} {N : Nat} {item : Nat → V → Prop} {g : TG} {tt : TT} {te : TE} {vs : List Nat} {σ : Sl} {H : Hp} {Q : VK} {I : Hp} {M : List (Addr × HO)} {a t : Addr} {n0 : Nat} (c : Nat) (Rel : Hp → V → β → Prop) (mono : ∀ {I I' : Hp} {v : V} {b : β}, Sub I I' → Rel I v b → Rel I' v b)
    (d : Dr K I H a t n0 M) (hN : N ≤ 1000) (hsrc : ∀ I' D acc m H', Sub I I' → Dr K I' H' a t m ((D, .lst acc) :: M) → src H')
    (turn : ∀ D i x acc I' H' (T : VK) (F : Hp → Prop), i < N → item i x → Sub I I' → Dr K I' H' a t (n0 + c * i) ((D, .lst acc) :: M) → (∀ I4 H4 y b, Sub I' I4 → Rel I4 y b → Dr K I4 H4 a t (n0 + c * i + c) ((D, .lst acc) :: M) → T y H4) →
      g x (wipe σ vs) H' fun σ2 H2 => wipe σ2 vs = wipe σ vs ∧ tt σ2 H2 fun b H3 => if b = true then te σ2 H3 T else F H3)
    (fin : ∀ I' D H' (zs : List (V × β)), Sub I I' → zs.length = N → (∀ z ∈ zs, Rel I' z.1 z.2) → Dr K I' H' a t (n0 + c * N) ((D, .lst (zs.map Prod.fst)) :: M) → Q (.ref D) H') : CompW src N item g tt te vs σ H Q := by
  obtain ⟨sc, tz, lz, w⟩ := d
  refine ⟨I, _, fun i I' acc M' => ∃ (tz : List V) (zs : List (V × β)), M' = (t, .lst tz) :: M ∧ tz.length ≤ n0 + c * i ∧ acc = zs.map Prod.fst ∧ zs.length = i ∧ ∀ z ∈ zs, Rel I' z.1 z.2, w, by omega, ⟨tz, [], rfl, lz, rfl, rfl, by simp⟩, ?_, ?_, ?_⟩
  · rintro i I' acc M' D H' ⟨tz, zs, rfl, h1, rfl, h3, h4⟩ sb w'
    exact hsrc I' D _ _ H' sb ⟨sc.mono sb, tz, h1, w'.swap⟩
  · rintro D i x H' I' acc M' hi hx sb w' ⟨tz, zs, rfl, h1, rfl, h3, h4⟩ _
    refine turn D i x _ I' H' _ _ hi hx sb ⟨sc.mono sb, tz, h1, w'.swap⟩ fun I4 H4 y b s4 r4 d4 => ?_
    obtain ⟨sc4, tz4, lz4, w4⟩ := d4
    refine nxt s4 w4.swap ⟨tz4, zs ++ [(y, b)], rfl, by rw [Nat.mul_succ]; omega, by simp, by simp [h3], fun z hz => ?_⟩
    rcases List.mem_append.mp hz with q | q
    · exact mono s4 (h4 z q)
    · rw [List.mem_singleton.mp q]; exact r4
  · rintro D H' I' acc M' sb w' ⟨tz, zs, rfl, h1, rfl, h3, h4⟩ _
    exact fin I' D H' zs sb h3 h4 ⟨sc.mono sb, tz, h1, w'.swap⟩
def sp__law_store (K : PySem.W.Frag) : Sp := fun vs H Q _ => ∃ (I : Hp) (M : List (Addr × HO)) (p : Addr) (rows : List Tx), vs = [.ref p] ∧ W I H M ∧ Ls I M p (.lst (rows.map sV)) ∧ (∀ r ∈ rows, okL 15 r = true ∧ foldL r ≠ []) ∧ rows.Nodup ∧ rows.length ≤ 12 ∧
  ∀ (H' : Hp) (x dx r : Addr), W I H' ((x, oStore K dx r) :: (r, .lst (rows.map sV)) :: M) → Q (.ref x) H'
def sp__law_delays (K : PySem.W.Frag) : Sp := fun vs H Q _ => ∃ (I : Hp) (a t : Addr) (n : Nat) (M : List (Addr × HO)) (kind : Bool), vs = [.ref a, .ref t, .bl kind] ∧ Dr K I H a t n M ∧ n < 900000 ∧
  ∀ (I' H' : Hp) (p : Addr) (ds : List (Option Int)), Sub I I' → 1 ≤ ds.length → ds.length ≤ 8 → (∀ x ∈ ds, delOk x = true) → (kind = true → ∀ x ∈ ds, x ≠ none) → Dr K I' H' a t (n + 10) M → I' p = some (.lst (ds.map delV)) → Q (.ref p) H'
def sp__law_rules (K : PySem.W.Frag) : Sp := fun vs H Q _ => ∃ (I : Hp) (a t : Addr) (n : Nat) (M : List (Addr × HO)), vs = [.ref a, .ref t] ∧ Dr K I H a t n M ∧ n < 900000 ∧
  ∀ (I' H' : Hp) (p : Addr) (m pa ak pt : Int), Sub I I' → 1 ≤ m → m ≤ 6 → 0 ≤ pa → pa ≤ 9 → 1 ≤ ak → ak ≤ 3 → 1 ≤ pt → pt ≤ 40 → Dr K I' H' a t (n + 5) M → I' p = some (.tup [.int m, .int pa, .int ak, .int pt]) → Q (.ref p) H'
def t__law_store (K : PySem.W.Frag) (E : XK) : TS := tSeq (tAsg (fMake (He.ga K "Store") (sp_Store___init__ K) E (tNil)) (gName 1)) (tSeq (fForL (tVar 0) (gName 2) (tDrop (fMeth (He.ga K "Store") "add" (sp_Store_add K) E (tVar 1) (tCons (tVar 2) (tNil))))) (tRet (tVar 1)))
abbrev nn__law_store : List Str := ["rows", "found", "row"]
def t__law_delays (K : PySem.W.Frag) (E : XK) : TS := tSeq (tAsg (tOp (rCat) (tLst (tCons (tOp (rI0 fun i j => .int (i + j)) (tC (.int 1)) (tCall (sp__law_draw K) [] E (tCons (tVar 0) (tCons (tVar 1) (tCons (tC (.int 30)) (tNil)))))) (tCons (tC (.int 1)) (tCons (tC (.int 3)) (tCons (tC (.int 30)) (tNil)))))) (tOp (rRep) (tLst (tCons (tC .non) (tNil))) (tCB (gIntB) (tCons (tNotV (tVar 2)) (tNil))))) (gName 3)) (tRet (fLcR1 (tCons (tOp (rI0 fun i j => .int (i + j)) (tC (.int 1)) (tCall (sp__law_draw K) [] E (tCons (tVar 0) (tCons (tVar 1) (tCons (tC (.int 8)) (tNil)))))) (tNil)) (gName 4) (tYes) (tCall (sp__law_pick K) [] E0 (tCons (tVar 0) (tCons (tVar 1) (tCons (tVar 3) (tNil))))) [4]))
abbrev nn__law_delays : List Str := ["script", "town", "is_kind", "some", "k"]
def t__law_rules (K : PySem.W.Frag) (E : XK) : TS := tRet (tTup (tCons (tOp (rI0 fun i j => .int (i + j)) (tC (.int 1)) (tCall (sp__law_draw K) [] E (tCons (tVar 0) (tCons (tVar 1) (tCons (tC (.int 6)) (tNil)))))) (tCons (tCall (sp__law_draw K) [] E (tCons (tVar 0) (tCons (tVar 1) (tCons (tC (.int 10)) (tNil))))) (tCons (tOp (rI0 fun i j => .int (i + j)) (tC (.int 1)) (tCall (sp__law_draw K) [] E (tCons (tVar 0) (tCons (tVar 1) (tCons (tC (.int 3)) (tNil)))))) (tCons (tCall (sp__law_pick K) [] E (tCons (tVar 0) (tCons (tVar 1) (tCons (tLst (tCons (tC (.int 1)) (tCons (tC (.int 5)) (tCons (tC (.int 40)) (tCons (tOp (rI0 fun i j => .int (i + j)) (tC (.int 1)) (tCall (sp__law_draw K) [] E (tCons (tVar 0) (tCons (tVar 1) (tCons (tC (.int 40)) (tNil)))))) (tNil)))))) (tNil))))) (tNil))))))
abbrev nn__law_rules : List Str := ["script", "town"]
section
variable {K : PySem.W.Frag}
theorem len__law_store : ∀ vs H Q E, sp__law_store K vs H Q E → vs.length = ["rows"].length := by
  rintro _ _ _ _ ⟨_, _, _, _, rfl, _⟩; rfl
theorem len__law_delays : ∀ vs H Q E, sp__law_delays K vs H Q E → vs.length = ["script", "town", "is_kind"].length := by
  rintro _ _ _ _ ⟨_, _, _, _, _, _, rfl, _⟩; rfl
theorem len__law_rules : ∀ vs H Q E, sp__law_rules K vs H Q E → vs.length = ["script", "town"].length := by
  rintro _ _ _ _ ⟨_, _, _, _, _, rfl, _⟩; rfl
theorem add_none' {rows : List Tx} {i : Nat} {r : Tx} (ro : ∀ r ∈ rows, okL 15 r = true ∧ foldL r ≠ []) (nd : rows.Nodup) (hl : rows.length ≤ 12) (h : rows[i]? = some r) : addE (rows.take i) r = none ∧ addR (rows.take i) r = rows.take (i + 1) := by
  have hr := ro r (List.mem_of_getElem? h)
  have hi := (List.getElem?_eq_some_iff.mp h).1
  have h1 : r ∉ rows.take i := by
    intro hm
    obtain ⟨j, hj, e⟩ := List.mem_take_iff_getElem.mp hm
    have := nodup_ix_any nd (show rows[j]? = some r by rw [List.getElem?_eq_getElem (by omega), e]) h
    omega
  have e : addE (rows.take i) r = none := by
    unfold addE
    rw [if_neg, if_neg]
    · rw [List.length_take]; omega
    · simp only [not_or]
      exact ⟨by rw [okL_le hr.1 (by decide)]; simp, hr.2, h1⟩
  refine ⟨e, ?_⟩
  unfold addR
  rw [e, if_pos rfl, take_succ_get h]
structure PSto (K : PySem.W.Frag) (I : Hp) (p x dx r : Addr) (rows : List Tx) (M : List (Addr × HO)) (i : Nat) (σ : L2.St) (H : Hp) : Prop where
  ex : ∃ (v : Option V), σ = [some (.ref p), some (.ref x), v] ∧ W I H ((x, oStore K dx r) :: (r, .lst ((rows.take i).map sV)) :: M)
theorem pure__law_store : ∀ vs H Q E, sp__law_store K vs H Q E → t__law_store K E { nx := fun _ H2 => Q .non H2, rt := Q } (L2.start nn__law_store vs) H := by
  rintro vs H Q E ⟨I, M, p, rows, rfl, w, lp, ro, nd, rl, hQ⟩
  unfold t__law_store
  simp! [and_true]
  intro x dx hx hdx ne
  have w2 := w.skip (o := .own x) hdx
  have hx1 : upd H dx (.own x) x = none := by rw [upd_ne (Ne.symm ne)]; exact hx
  have w3 := w2.newM (o := .ins (He.ga K "Store") dx []) hx1
  refine ⟨I, _, x, dx, rfl, w3, fun H4 r w4 => ⟨rfl, ?_⟩⟩
  have hp4 := lp.cons.cons.at w4
  simp! [hp4]
  refine ⟨PSto K I p x dx r rows M, ⟨_, rfl, w4⟩, ?_, ?_, ?_⟩
  · rintro i σ H' _ ⟨v, rfl, w'⟩
    exact lp.cons.cons.at w'
  · rintro i y σ H' hy ⟨v, rfl, w'⟩
    rw [List.getElem?_map, Option.map_eq_some_iff] at hy
    obtain ⟨row, hrow, rfl⟩ := hy
    obtain ⟨e1, e2⟩ := add_none' ro nd rl hrow
    have lr := okL_len (ro row (List.mem_of_getElem? hrow)).1
    simp! [and_true]
    refine ⟨_, _, w'.has.1, no_Store_add, ?_⟩
    refine ⟨I, _, x, dx, r, rows.take i, row, rfl, w', by rw [List.length_take]; omega, by omega, fun H2 w2 => ?_⟩
    rw [e1]
    rw [e2] at w2
    exact ⟨_, rfl, w2⟩
  · rintro σ H5 ⟨v, rfl, w5⟩
    rw [List.length_map, List.take_length] at w5
    simp! [and_true]
    exact hQ H5 x dx r w5
theorem pure__law_rules : ∀ vs H Q E, sp__law_rules K vs H Q E → t__law_rules K E { nx := fun _ H2 => Q .non H2, rt := Q } (L2.start nn__law_rules vs) H := by
  rintro vs H Q E ⟨I, a, t, n, M, rfl, d, hn, hQ⟩
  unfold t__law_rules
  simp! [and_true]
  refine ⟨I, a, t, n, M, 6, rfl, d, by omega, by decide, fun d1 H1 a1 b1 D1 => ?_⟩
  simp! [and_true]
  refine ⟨I, a, t, _, M, 10, rfl, D1, by omega, by decide, fun d2 H2 a2 b2 D2 => ?_⟩
  simp! [and_true]
  refine ⟨I, a, t, _, M, 3, rfl, D2, by omega, by decide, fun d3 H3 a3 b3 D3 => ?_⟩
  simp! [and_true]
  refine ⟨I, a, t, _, M, 40, rfl, D3, by omega, by decide, fun d4 H4 a4 b4 D4 => ?_⟩
  simp! [and_true]
  have hb := line_big
  refine ⟨by omega, fun l hl => ?_⟩
  have D5 := D4.newI (o := .lst [V.int 1, V.int 5, V.int 40, V.int (1 + d4)]) hl
  have s5 := Sub.new (o := .lst [V.int 1, V.int 5, V.int 40, V.int (1 + d4)]) (D4.noI hl)
  refine ⟨_, a, t, l, _, M, _, rfl, D5, by omega, fun H' h => h.elim (fun d => d.sub _ _ upd_same) (fun d => d.sub _ _ upd_same), by simp, fun y H6 hy D6 => ?_⟩
  have hy : ∃ k : Int, y = .int k ∧ 1 ≤ k ∧ k ≤ 40 := by
    simp only [List.mem_cons, List.mem_nil_iff, or_false] at hy
    rcases hy with rfl | rfl | rfl | rfl
    · exact ⟨_, rfl, by decide, by decide⟩
    · exact ⟨_, rfl, by decide, by decide⟩
    · exact ⟨_, rfl, by decide, by decide⟩
    · exact ⟨_, rfl, by omega, by omega⟩
  obtain ⟨k, rfl, k1, k2⟩ := hy
  refine ⟨by omega, fun v hv => ?_⟩
  have D7 := D6.newI (o := .tup [V.int (1 + d1), V.int d2, V.int (1 + d3), V.int k]) hv
  have s7 := Sub.new (o := .tup [V.int (1 + d1), V.int d2, V.int (1 + d3), V.int k]) (D6.noI hv)
  exact hQ _ _ v (1 + d1) d2 (1 + d3) k (s5.trans s7) (by omega) (by omega) (by omega) (by omega) (by omega) (by omega) k1 k2 D7 upd_same
theorem pure__law_delays : ∀ vs H Q E, sp__law_delays K vs H Q E → t__law_delays K E { nx := fun _ H2 => Q .non H2, rt := Q } (L2.start nn__law_delays vs) H := by
  rintro vs H Q E ⟨I, a, t, n, M, kind, rfl, d, hn, hQ⟩
  have hb := line_big
  unfold t__law_delays
  simp! [and_true]
  refine ⟨I, a, t, n, M, 30, rfl, d, by omega, by decide, fun d1 H1 a1 b1 D1 => ?_⟩
  simp! [and_true]
  refine ⟨by omega, fun l1 hl1 => ?_⟩
  have D2 := D1.newM (o := .lst [V.int (1 + d1), V.int 1, V.int 3, V.int 30]) hl1
  refine ⟨by omega, fun l2 hl2 => ?_⟩
  have D3 := D2.newM (o := .lst [V.non]) hl2
  have hk : ∃ xs : List (Option Int), (List.replicate (if (!kind) = true then (1 : Int) else 0).toNat [V.non]).flatten = xs.map delV ∧ (∀ x ∈ xs, x = none ∧ kind = false) ∧ xs.length ≤ 1 := by
    cases kind with
    | true => exact ⟨[], rfl, by simp, by simp⟩
    | false => exact ⟨[none], rfl, by simp, by simp⟩
  obtain ⟨xs, e1, e2, e3⟩ := hk
  refine ⟨l2, _, _, rfl, rfl, D3.has.1, by cases kind <;> decide, by cases kind <;> decide, by cases kind <;> simp <;> omega, fun l3 hl3 => ?_⟩
  rw [e1]
  have D4 := D3.newM (o := .lst (xs.map delV)) hl3
  refine ⟨l1, l3, _, _, rfl, rfl, D4.has.2.2.1, D4.has.1, by simp; omega, fun l4 hl4 => ?_⟩
  have e4 : [V.int (1 + d1), V.int 1, V.int 3, V.int 30] ++ xs.map delV = ([some (1 + d1), some 1, some 3, some 30] ++ xs).map delV := by rw [List.map_append]; rfl
  rw [e4]
  have D5 := (D4.newI (o := .lst (([some (1 + d1), some 1, some 3, some 30] ++ xs).map delV)) hl4).drop.drop.drop
  have s5 := Sub.new (o := .lst (([some (1 + d1), some 1, some 3, some 30] ++ xs).map delV)) (D4.noI hl4)
  refine ⟨_, a, t, _, M, 8, rfl, D5, by omega, by decide, fun d2 H2 a2 b2 D6 => ⟨_, rfl, by omega, by omega, ?_⟩⟩
  generalize hI5 : upd I l4 _ = I5 at D6 s5
  have hl5 : I5 l4 = some (.lst (([some (1 + d1), some 1, some 3, some 30] ++ xs).map delV)) := by rw [← hI5, upd_same]
  refine comp_draw (β := Option Int) 1 (fun _ v b => v = delV b ∧ delOk b = true ∧ (kind = true → b ≠ none)) (fun _ h => h) D6 (by omega) (fun _ _ _ _ _ _ _ => trivial) ?_ ?_
  · rintro D i x acc I' H' T F hi rfl sb D7 kT
    simp! [wipe]
    refine ⟨I', a, t, l4, _, _, _, rfl, D7, by omega, fun H' h => h.elim (fun d => d.sub _ _ (sb _ _ hl5)) (fun d => d.sub _ _ (sb _ _ hl5)), by simp, fun y H8 hy D8 => ?_⟩
    obtain ⟨b, hb', rfl⟩ := List.mem_map.mp hy
    refine kT I' H8 _ b (Sub.refl _) ⟨rfl, ?_, ?_⟩ D8
    · rcases List.mem_append.mp hb' with q | q
      · simp only [List.mem_cons, List.mem_nil_iff, or_false] at q
        rcases q with rfl | rfl | rfl | rfl
        · simp [delOk]; omega
        · decide
        · decide
        · decide
      · rw [(e2 b q).1]; rfl
    · intro hk
      rcases List.mem_append.mp hb' with q | q
      · simp only [List.mem_cons, List.mem_nil_iff, or_false] at q
        rcases q with rfl | rfl | rfl | rfl <;> simp
      · rw [(e2 b q).2] at hk; cases hk
  · intro I' D H' zs sb hzl hz D7
    have e5 : zs.map Prod.fst = (zs.map Prod.snd).map delV := by
      rw [List.map_map]
      exact List.map_congr_left fun z hzz => (hz z hzz).1
    rw [e5] at D7
    have D8 := D7.freeze
    have s8 := Sub.new (o := .lst ((zs.map Prod.snd).map delV)) (D7.out (D, _) List.mem_cons_self)
    refine hQ _ _ D (zs.map Prod.snd) (s5.trans (sb.trans s8)) (by rw [List.length_map]; omega) (by rw [List.length_map]; omega) (fun x hx => ?_) (fun hk x hx => ?_) (D8.le (by omega)) upd_same
    · obtain ⟨z, hzz, rfl⟩ := List.mem_map.mp hx; exact (hz z hzz).2.1
    · obtain ⟨z, hzz, rfl⟩ := List.mem_map.mp hx; exact (hz z hzz).2.2 hk
end
/-! ### what is made -/
section
variable {K : PySem.W.Frag} {I H : Hp} {M : List (Addr × HO)} {Q : Addr → Hp → Prop} {E : XK}
theorem mk_shelf {most term : Int} (w : W I H M) (ok : shelfOk most term = true) (q : ∀ (I' H' : Hp) (x dsh : Addr) (o : HO), Sub I I' → W I' H' ((x, o) :: M) → ShO K I' dsh most term [] o → Q x H') :
    ∀ x dx, H x = none → H dx = none → dx ≠ x → sp_Shelf___init__ K [.ref x, .int most, .int term] (upd (upd H dx (.own x)) x (.ins (He.ga K "Shelf") dx [])) (fun v H2 => v = .non ∧ Q x H2) E := by
  intro x dx hx hdx ne
  have w1 := w.skip (o := .own x) hdx
  have hx1 : upd H dx (.own x) x = none := by rw [upd_ne (Ne.symm ne)]; exact hx
  have w2 := w1.newM (o := .ins (He.ga K "Shelf") dx []) hx1
  exact ⟨I, _, x, dx, most, term, rfl, w2, fun _ I' H' o s' w' so => ⟨rfl, q I' H' x dx o s' w' so⟩, fun e => by rw [ok] at e; cases e⟩
theorem mk_road {l : Addr} {ds : List (Option Int)} (w : W I H M) (hl : I l = some (.lst (ds.map delV))) (ok : roadOk ds = true) (hd : ds.length ≤ 100) (q : ∀ (I' H' : Hp) (x drd d u : Addr), Sub I I' → W I' H' ((x, oRoad K drd d 0 u) :: (u, .lst []) :: M) → I' d = some (.lst (ds.map delV)) → Q x H') :
    ∀ x dx, H x = none → H dx = none → dx ≠ x → sp_Road___init__ K [.ref x, .ref l] (upd (upd H dx (.own x)) x (.ins (He.ga K "Road") dx [])) (fun v H2 => v = .non ∧ Q x H2) E := by
  intro x dx hx hdx ne
  have w1 := w.skip (o := .own x) hdx
  have hx1 : upd H dx (.own x) x = none := by rw [upd_ne (Ne.symm ne)]; exact hx
  have w2 := w1.newM (o := .ins (He.ga K "Road") dx []) hx1
  refine ⟨I, _, x, dx, l, ds, rfl, w2, fun I' H' o s' w' => w'.sub _ _ (s' _ _ hl), hd, fun _ I' H' d u s' rw' => ⟨rfl, ?_⟩, fun e => by rw [ok] at e; cases e⟩
  obtain ⟨w', hd', _⟩ := rw'
  exact q I' H' x dx d u s' w' hd'
/-- a new asker -/
theorem mk_asker {a t st rd sh drd d u dsh dst r : Addr} {o : HO} {R : Rul} {rows : List Tx} {n : Nat} (dr : Dr K I H a t n ((rd, oRoad K drd d 0 u) :: (u, .lst []) :: (sh, o) :: M)) (hd : I d = some (.lst (R.ds.map delV))) (so : ShO K I dsh R.most R.term [] o) (l1 : Ls I M st (oStore K dst r)) (l2 : Ls I M r (.lst (rows.map sV))) (ok : rulesOk R = true)
    (q : ∀ (I' H' : Hp) (ad : Ad), Sub I I' → ad.st = st → ad.r = r → ad.dst = dst → LW K I' H' a t n ad R rows S0 M → Q ad.x H') :
    ∀ x dx, H x = none → H dx = none → dx ≠ x → sp_Asker___init__ K [.ref x, .ref st, .ref rd, .ref sh, .int R.many, .int R.pause, .int R.asks, .int R.pat] (upd (upd H dx (.own x)) x (.ins (He.ga K "Asker") dx [])) (fun v H2 => v = .non ∧ Q x H2) E := by
  intro x dx hx hdx ne
  obtain ⟨sc, zs, lz, w⟩ := dr
  have w1 := w.skip (o := .own x) hdx
  have hx1 : upd H dx (.own x) x = none := by rw [upd_ne (Ne.symm ne)]; exact hx
  have w2 := w1.newM (o := .ins (He.ga K "Asker") dx []) hx1
  refine ⟨I, (t, .lst zs) :: M, x, dx, st, rd, sh, drd, d, u, dsh, dst, r, o, R, rows, rfl, W.sel [_, _, _, _, _] w2 [0, 2, 3, 4, 1], hd, so, l1.cons, l2.cons, fun _ I' H' pa pf pl sb aw => ⟨rfl, ?_⟩, fun e => by rw [ok] at e; cases e⟩
  obtain ⟨L, ao, w', _, _⟩ := aw
  exact q I' H' ⟨x, dx, pa, pf, pl, rd, drd, d, sh, dsh, st, dst, r⟩ sb rfl rfl rfl ⟨L, ao, ⟨sc.mono sb, zs, lz, w'.perm List.perm_middle.symm⟩, l1.mono sb, l2.mono sb⟩
end
end TA

set_option linter.all false
set_option maxRecDepth 100000
set_option maxHeartbeats 1000000
/-! Askers, plain: what holds between two calls. -/
namespace TA
open PySem L2 PyProof.Rows
/-- asks and their texts; P: the asks that were not told yet -/
structure InvA (P : List (Int × Int × Tx)) (s : AS) : Prop where
  af : ∀ p ∈ s.asked, foldL p.2 = foldL s.now
  au : ∀ x ∈ P, ∀ p ∈ s.asked, p.1 = x.2.1 → p.2 = x.2.2
  pn : ∀ x ∈ P, x.2.1 ≤ s.sent
  an : ∀ p ∈ s.asked, p.1 ≤ s.sent
  one : s.asked.length ≤ 1
  da : s.due = true → s.asked = []
section
variable {R : Rul} {s : AS} {P : List (Int × Int × Tx)} {rows : List Tx}
theorem drop_none (s : AS) : (dropS s none).asked = [] := by
  unfold dropS; simp
theorem InvA.sub (h : InvA P s) {l : List (Int × Tx)} (hl : l.Sublist s.asked) : (∀ p ∈ l, foldL p.2 = foldL s.now) ∧ (∀ x ∈ P, ∀ p ∈ l, p.1 = x.2.1 → p.2 = x.2.2) ∧ (∀ p ∈ l, p.1 ≤ s.sent) ∧ l.length ≤ 1 :=
  ⟨fun p hp => h.af p (hl.subset hp), fun x hx p hp => h.au x hx p (hl.subset hp), fun p hp => h.an p (hl.subset hp), Nat.le_trans hl.length_le h.one⟩
theorem InvA.show (h : InvA P s) (rs : List Tx) : InvA P (showS s rs) := by
  have e : (showS s rs).asked = [] := drop_none _
  exact ⟨by simp [e], by simp [e], h.pn, by simp [e], by simp [e], fun _ => e⟩
theorem InvA.near (h : InvA P s) : InvA P (nearS R s) := by
  unfold nearS
  split
  · exact { h with da := fun z => by cases z }
  · split
    · rename_i one _
      exact InvA.show (s := { s with ks := useK s.ks one }) ⟨h.af, h.au, h.pn, h.an, h.one, h.da⟩ _
    · split
      · exact h
      · split
        · exact h
        · split
          · exact { h with }
          · exact { h with }
theorem InvA.ask (h : InvA s.uw s) : InvA (askS R s).uw (askS R s) := by
  unfold askS
  split
  · rename_i c
    have e := h.da c.1
    refine ⟨?_, ?_, ?_, ?_, ?_, fun z => by cases z⟩
    · intro p hp
      simp only [e, List.nil_append, List.mem_singleton] at hp
      rw [hp]
    · intro x hx p hp hn
      simp only [e, List.nil_append, List.mem_singleton] at hp
      rw [hp]
      rcases (show x ∈ s.uw ∨ x.2.2 = s.now from sendU_mem hx) with q | q
      · have := h.pn x q
        rw [hp] at hn
        simp only [nextN] at hn; omega
      · rw [q]
    · intro x hx
      simp only [] at hx ⊢
      unfold sendU at hx
      split at hx
      · have := h.pn x hx; omega
      · rcases List.mem_append.mp hx with q | q
        · have := h.pn x q; omega
        · rw [List.mem_singleton.mp q]; simp only []; omega
    · intro p hp
      simp only [e, List.nil_append, List.mem_singleton] at hp
      rw [hp]; simp only [nextN]; omega
    · simp [e]
  · exact h
theorem InvA.put (h : InvA s.uw s) (t : Tx) : InvA (putS R s t).uw (putS R s t) := by
  unfold putS
  have near_uw : ∀ s : AS, (nearS R s).uw = s.uw := fun s => by
    unfold nearS; split
    · rfl
    · split
      · rfl
      · split
        · rfl
        · split
          · rfl
          · split <;> rfl
  refine InvA.ask ?_
  rw [near_uw]
  refine InvA.near ?_
  split
  · rename_i c
    exact { h with af := fun p hp => (h.af p hp).trans c.symm }
  · rename_i c
    have e : s.asked.filter (fun p => decide (some (foldL p.2) = some (foldL t))) = [] := by
      rw [List.filter_eq_nil_iff]
      intro p hp
      rw [h.af p hp]
      simpa using fun z => c z.symm
    refine ⟨?_, ?_, h.pn, ?_, ?_, ?_⟩ <;> simp only [dropS, e]
    · simp
    · simp
    · simp
    · simp
    · simp
theorem near_uw (R : Rul) (s : AS) : (nearS R s).uw = s.uw := by
  unfold nearS; split
  · rfl
  · split
    · rfl
    · split
      · rfl
      · split
        · rfl
        · split <;> rfl
theorem come_uw (R : Rul) (rows : List Tx) (s : AS) (n : Int) (q : Tx) : (comeS R rows s n q).uw = s.uw := by
  rw [comeS_eq]; split
  · rfl
  · rw [near_uw]; rfl
theorem lost_uw (R : Rul) (s : AS) (n : Int) : (lostS R s n).uw = s.uw := by
  unfold lostS; split
  · simp only []; split <;> rfl
  · rfl
theorem InvA.come {x : Int × Int × Tx} (h : InvA (x :: P) s) : InvA P (comeS R rows s x.2.1 x.2.2) := by
  have h' : InvA P s := { h with au := fun y hy => h.au y (List.mem_cons_of_mem _ hy), pn := fun y hy => h.pn y (List.mem_cons_of_mem _ hy) }
  rw [comeS_eq]; split
  · refine InvA.show ?_ _
    obtain ⟨a, b, c, d⟩ := h'.sub (l := s.asked.filter fun p => !decide (p.1 = x.2.1)) List.filter_sublist
    exact ⟨a, b, h'.pn, c, d, fun z => by show (s.asked.filter fun p => !decide (p.1 = x.2.1)) = []; rw [h'.da z]; rfl⟩
  · refine InvA.near ?_
    exact { h' with }
theorem InvA.comes : ∀ {l : List (Int × Int × Tx)} {s : AS}, InvA (l ++ P) s → InvA P (comeAll R rows s l)
  | [], _, h => h
  | x :: l, s, h => InvA.comes (l := l) (InvA.come h)
theorem InvA.lost (h : InvA P s) (n : Int) : InvA P (lostS R s n) := by
  obtain ⟨a, b, c, d⟩ := h.sub (l := s.asked.filter fun p => !decide (p.1 = n)) List.filter_sublist
  unfold lostS; split
  · simp only []; split
    · rename_i hc
      obtain ⟨p, hp, e⟩ := List.any_eq_true.mp hc
      have e1 : (s.asked.filter fun p => !decide (p.1 = n)) = [] := by
        have := filter_len_lt (p := fun p : Int × Tx => !decide (p.1 = n)) hp (by simpa using e)
        have := h.one
        exact List.eq_nil_of_length_eq_zero (by omega)
      exact ⟨a, b, h.pn, c, d, fun _ => e1⟩
    · exact { h with }
  · exact h
theorem InvA.losts : ∀ {l : List Int} {s : AS}, InvA P s → InvA P (l.foldl (lostS R) s)
  | [], _, h => h
  | x :: l, _, h => InvA.losts (l := l) (h.lost x)
theorem comes_uw (R : Rul) (rows : List Tx) : ∀ (l : List (Int × Int × Tx)) (s : AS), (comeAll R rows s l).uw = s.uw
  | [], _ => rfl
  | x :: l, s => (comes_uw R rows l (comeS R rows s x.2.1 x.2.2)).trans (come_uw R rows s _ _)
theorem losts_uw (R : Rul) : ∀ (l : List Int) (s : AS), (l.foldl (lostS R) s).uw = s.uw
  | [], _ => rfl
  | x :: l, s => (losts_uw R l (lostS R s x)).trans (lost_uw R s x)
theorem InvA.tick0 (h : InvA s.uw s) : InvA (dueU (s.time + 1) s.uw ++ (tick0 s).uw) (tick0 s) := by
  have hm : ∀ x ∈ dueU (s.time + 1) s.uw ++ (TA.tick0 s).uw, x ∈ s.uw := fun x hx => by
    rcases List.mem_append.mp hx with q | q
    · exact (mem_due.mp q).1
    · exact (List.mem_filter.mp q).1
  exact { h with au := fun x hx => h.au x (hm x hx), pn := fun x hx => h.pn x (hm x hx) }
theorem InvA.step (h : InvA s.uw s) : InvA (stepS R rows s).uw (stepS R rows s) := by
  unfold stepS
  refine InvA.ask ?_
  have e : (againT R (comeAll R rows (TA.tick0 s) (dueU (s.time + 1) s.uw))).uw = (TA.tick0 s).uw := by
    unfold againT; rw [losts_uw, comes_uw]
  rw [e]
  exact InvA.losts (InvA.comes h.tick0)
theorem InvA.tick : ∀ {n : Nat} {s : AS}, InvA s.uw s → InvA (tickS R rows n s).uw (tickS R rows n s)
  | 0, _, h => h
  | n + 1, _, h => InvA.tick (n := n) h.step
theorem InvA.again (h : InvA s.uw s) (e : againE s = false) : InvA (againS R s).uw (againS R s) := by
  unfold againE at e
  rw [Bool.or_eq_false_iff] at e
  have ea : s.asked = [] := by have := e.2; simpa using this
  unfold againS
  refine InvA.ask ?_
  exact { h with da := fun _ => ea }
end
/-! ### what is shown, while the store stays -/
/-- what is shown was answered -/
def ShPre (rows : List Tx) (n : Int) : Option (Tx × List Tx × Bool) → Prop
  | none => True
  | some (k, rs, old) => okL 12 k = true ∧ foldL k = k ∧ (∀ r ∈ rs, r ∈ ansR rows k n) ∧ (old = false → rs = ansR rows k n)
/-- and fits what stands typed -/
def ShOk (rows : List Tx) (n : Int) (now : Tx) : Option (Tx × List Tx × Bool) → Prop
  | none => True
  | some (k, rs, old) => foldL now ≠ [] ∧ (old = false → k = foldL now) ∧ (old = true → rs ≠ [] ∧ bestL rs now = rs ∧ rs.length ≤ n.toNat)
structure Fr (rows : List Tx) (R : Rul) (s : AS) : Prop where
  fk : ∀ k ∈ s.ks, Faith rows R.many k
  pre : ShPre rows R.many s.shown
  ok : ShOk rows R.many s.now s.shown
theorem ansR_congr {rows : List Tx} {q q' : Tx} {n : Int} (h : foldL q = foldL q') : ansR rows q n = ansR rows q' n := by unfold ansR; rw [best_congr rows h]
section
variable {R : Rul} {s : AS} {rows : List Tx}
theorem Fr.showA {q : Tx} (hn : foldL s.now ≠ []) (okn : okL 12 s.now = true) (fk : ∀ k ∈ s.ks, Faith rows R.many k) (h : foldL q = foldL s.now) : Fr rows R (showS s (ansR rows q R.many)) := by
  refine ⟨fk, ⟨fold_okL okn, fold_idem _, fun r hr => ?_, fun _ => ?_⟩, ⟨hn, fun _ => rfl, fun z => by cases z⟩⟩
  · rw [ansR_congr (q := foldL s.now) (q' := q) ((fold_idem _).trans h.symm)]; exact hr
  · exact ansR_congr (h.trans (fold_idem _).symm)
theorem Fr.near (okn : okL 12 s.now = true) (n0 : 0 ≤ R.many) (fk : ∀ k ∈ s.ks, Faith rows R.many k) (pre : ShPre rows R.many s.shown) : Fr rows R (nearS R s) := by
  unfold nearS
  split
  · exact ⟨fk, trivial, trivial⟩
  · rename_i hn
    split
    · rename_i one e
      have e1 := told_get n0 fk e
      rw [e1]
      exact Fr.showA (s := { s with ks := useK s.ks one }) hn okn (faith_use fk (src_mem e)) rfl
    · split
      · rename_i e
        exact ⟨fk, by rw [e]; trivial, by rw [e]; trivial⟩
      · rename_i k rs old e
        rw [e] at pre
        obtain ⟨p1, p2, p3, p4⟩ := pre
        split
        · rename_i c
          unfold freshS at c
          rw [e] at c
          simp only [Bool.and_eq_true, decide_eq_true_eq] at c
          refine ⟨fk, by rw [e]; exact ⟨p1, p2, p3, p4⟩, ?_⟩
          rw [e]
          exact ⟨hn, fun _ => c.1, fun z => by rw [z] at c; simp at c⟩
        · split
          · exact ⟨fk, trivial, trivial⟩
          · rename_i hne
            refine ⟨fk, ⟨p1, p2, fun r hr => p3 r (mem_best.mp (List.mem_of_mem_take hr)).1, fun z => by cases z⟩, ⟨hn, (fun z => by cases z), fun _ => ⟨hne, ?_, ?_⟩⟩⟩
            · unfold ansR
              exact best_take rs s.now _
            · unfold ansR
              rw [List.length_take]; omega
theorem Fr.ask (h : Fr rows R s) : Fr rows R (askS R s) := by
  unfold askS; split
  · exact ⟨h.fk, h.pre, h.ok⟩
  · exact h
theorem Fr.put (h : Fr rows R s) (n0 : 0 ≤ R.many) {t : Tx} (ht : okL 12 t = true) : Fr rows R (putS R s t) := by
  unfold putS
  refine Fr.ask (Fr.near ht n0 ?_ ?_)
  · split
    · exact h.fk
    · exact h.fk
  · split
    · exact h.pre
    · exact h.pre
theorem come_now (R : Rul) (rows : List Tx) (s : AS) (n : Int) (q : Tx) : (comeS R rows s n q).now = s.now := by
  have : ∀ s : AS, (nearS R s).now = s.now := fun s => by
    unfold nearS; split
    · rfl
    · split
      · rfl
      · split
        · rfl
        · split
          · rfl
          · split <;> rfl
  rw [comeS_eq]; split
  · rfl
  · rw [this]; rfl
theorem Fr.come {x : Int × Int × Tx} {P : List (Int × Int × Tx)} (h : Fr rows R s) (i : InvA (x :: P) s) (okn : okL 12 s.now = true) (n0 : 0 ≤ R.many) (hx : okL 12 x.2.2 = true) (hne : foldL s.now = [] → s.asked = []) : Fr rows R (comeS R rows s x.2.1 x.2.2) := by
  have fk : ∀ k ∈ putK R.most s.ks (foldL x.2.2, ansR rows x.2.2 R.many, ansA rows x.2.2 R.many, s.time), Faith rows R.many k := faith_put h.fk ⟨x.2.2, hx, rfl, rfl, rfl⟩
  rw [comeS_eq]; split
  · rename_i c
    obtain ⟨p, hp, e⟩ := List.any_eq_true.mp c
    have e := of_decide_eq_true e
    have e1 := i.au x List.mem_cons_self p hp e
    have e2 := i.af p hp
    rw [e1] at e2
    refine Fr.showA (s := came0 R rows s x.2.1 x.2.2) (fun z => ?_) okn fk e2
    rw [hne z] at hp; cases hp
  · exact Fr.near okn n0 fk h.pre
/-- nothing typed, nothing asked -/
def NoE (s : AS) : Prop := foldL s.now = [] → s.asked = [] ∧ s.due = false
theorem NoE.near (h : NoE s) : NoE (nearS R s) := by
  unfold nearS
  split
  · rename_i c; exact fun _ => ⟨(h c).1, rfl⟩
  · rename_i c
    split
    · exact fun z => absurd z c
    · split
      · exact h
      · split
        · exact h
        · split <;> exact fun z => absurd z c
theorem NoE.ask (h : NoE s) : NoE (askS R s) := by
  unfold askS; split
  · rename_i c
    intro z
    have := (h z).2
    rw [this] at c
    exact absurd c.1 (by decide)
  · exact h
theorem NoE.put {t : Tx} (h : NoE s) (i : InvA s.uw s) : NoE (putS R s t) := by
  unfold putS
  refine NoE.ask (NoE.near ?_)
  split
  · rename_i c
    intro z
    exact h (c ▸ z)
  · rename_i c
    intro z
    have z : foldL t = [] := z
    refine ⟨?_, by simp [z]⟩
    show s.asked.filter (fun p => decide (some (foldL p.2) = some (foldL t))) = []
    rw [List.filter_eq_nil_iff]
    intro p hp
    rw [i.af p hp]
    simpa using fun z => c z.symm
theorem NoE.come {x : Int × Int × Tx} (h : NoE s) : NoE (comeS R rows s x.2.1 x.2.2) := by
  rw [comeS_eq]; split
  · rename_i c
    intro z
    obtain ⟨p, hp, e⟩ := List.any_eq_true.mp c
    rw [(h z).1] at hp; cases hp
  · exact NoE.near h
theorem NoE.lost (h : NoE s) (n : Int) : NoE (lostS R s n) := by
  unfold lostS; split
  · simp only []; split
    · rename_i c
      intro z
      obtain ⟨p, hp, e⟩ := List.any_eq_true.mp c
      have z : foldL s.now = [] := z
      rw [(h z).1] at hp; cases hp
    · exact h
  · exact h
theorem NoE.losts : ∀ {l : List Int} {s : AS}, NoE s → NoE (l.foldl (lostS R) s)
  | [], _, h => h
  | x :: l, _, h => NoE.losts (l := l) (h.lost x)
theorem comes_now (R : Rul) (rows : List Tx) : ∀ (l : List (Int × Int × Tx)) (s : AS), (comeAll R rows s l).now = s.now
  | [], _ => rfl
  | x :: l, s => (comes_now R rows l (comeS R rows s x.2.1 x.2.2)).trans (come_now R rows s _ _)
theorem Fr.comes : ∀ {l P : List (Int × Int × Tx)} {s : AS}, Fr rows R s → InvA (l ++ P) s → NoE s → okL 12 s.now = true → 0 ≤ R.many → (∀ x ∈ l, okL 12 x.2.2 = true) → Fr rows R (comeAll R rows s l) ∧ NoE (comeAll R rows s l)
  | [], _, _, h, _, n, _, _, _ => ⟨h, n⟩
  | x :: l, P, s, h, i, n, okn, n0, hx => Fr.comes (l := l) (P := P) (h.come i okn n0 (hx x List.mem_cons_self) fun z => (n z).1) (InvA.come i) n.come (by rw [come_now]; exact okn) n0 fun y hy => hx y (List.mem_cons_of_mem _ hy)
theorem lost_sh (R : Rul) (s : AS) (n : Int) : (lostS R s n).shown = s.shown ∧ (lostS R s n).now = s.now ∧ (lostS R s n).ks = s.ks := by
  unfold lostS; split
  · simp only []; split <;> exact ⟨rfl, rfl, rfl⟩
  · exact ⟨rfl, rfl, rfl⟩
theorem losts_sh (R : Rul) : ∀ (l : List Int) (s : AS), (l.foldl (lostS R) s).shown = s.shown ∧ (l.foldl (lostS R) s).now = s.now ∧ (l.foldl (lostS R) s).ks = s.ks
  | [], _ => ⟨rfl, rfl, rfl⟩
  | x :: l, s => by
    obtain ⟨a, b, c⟩ := losts_sh R l (lostS R s x)
    obtain ⟨d, e, f⟩ := lost_sh R s x
    exact ⟨a.trans d, b.trans e, c.trans f⟩
theorem Fr.losts {l : List Int} (h : Fr rows R s) : Fr rows R (l.foldl (lostS R) s) := by
  obtain ⟨a, b, c⟩ := losts_sh R l s
  exact ⟨by rw [c]; exact h.fk, by rw [a]; exact h.pre, by rw [a, b]; exact h.ok⟩
theorem Fr.step (h : Fr rows R s) (i : InvA s.uw s) (n : NoE s) (ok : OkS R 0 s) : Fr rows R (stepS R rows s) ∧ NoE (stepS R rows s) := by
  have h0 : Fr rows R (tick0 s) := ⟨h.fk, h.pre, h.ok⟩
  obtain ⟨a, b⟩ := Fr.comes (l := dueU (s.time + 1) s.uw) h0 i.tick0 (s := tick0 s) n ok.now ok.n0 fun x hx => ok.qu x (mem_due.mp hx).1
  exact ⟨Fr.ask (Fr.losts a), NoE.ask (NoE.losts b)⟩
theorem Fr.tick (ro : rowsOk rows) : ∀ {m : Nat} {s : AS}, Fr rows R s → InvA s.uw s → NoE s → OkS R 0 s → Fr rows R (tickS R rows m s) ∧ NoE (tickS R rows m s)
  | 0, _, h, _, n, _ => ⟨h, n⟩
  | m + 1, s, h, i, n, ok => Fr.tick ro (m := m) (h.step i n ok).1 i.step (h.step i n ok).2 (ok.step ro)
/-- all of it -/
structure Good (rows : List Tx) (R : Rul) (s : AS) : Prop where
  ok : OkS R 0 s
  ia : InvA s.uw s
  fr : Fr rows R s
  ne : NoE s
theorem Good.put (h : Good rows R s) {t : Tx} (ht : okL 12 t = true) : Good rows R (putS R s t) := ⟨h.ok.put ht, h.ia.put t, h.fr.put h.ok.n0 ht, h.ne.put h.ia⟩
theorem Good.tick (h : Good rows R s) (ro : rowsOk rows) (m : Nat) : Good rows R (tickS R rows m s) := ⟨h.ok.tick ro, h.ia.tick, (h.fr.tick ro h.ia h.ne h.ok).1, (h.fr.tick ro h.ia h.ne h.ok).2⟩
theorem again_ks {P : List (Int × Int × Tx)} : (againS R s).ks = [] := by unfold againS askS; split <;> rfl
theorem Good.again (h : Good rows R s) (e : againE s = false) : Good rows R (againS R s) := by
  refine ⟨h.ok.again, h.ia.again e, Fr.ask ⟨by simp, h.fr.pre, h.fr.ok⟩, ?_⟩
  unfold againE at e
  rw [Bool.or_eq_false_iff] at e
  have e1 : foldL s.now ≠ [] := by have := e.1; simpa using this
  exact NoE.ask fun z => absurd z e1
end
end TA

set_option linter.all false
set_option maxRecDepth 100000
set_option maxHeartbeats 2000000
/-! More for the laws of askers. -/
namespace TA
open PySem L2 PyProof.Rows
open SX (S S_len S_inj S_cat S_tl num_S)
local macro_rules | `(tactic| simp! [$as,*]) => `(tactic| first | simp only [L2.start, tSeq, tAsg, tOp, fFld, tVar, gIxL, gIxT, tCB, tCons, tNil, gLenL, gLenT, gLenS, rI, rI0, fSet, tIfS, tTest, tB, rNotN, rIsN, rEq, rNe, tC, tDrop, fBM, fBM0, gTy, rAppend, tTup, tLst, tRet, tRetN, tNext, gName, fTup, gCons, gNil, tCall, fCallS, fMeth, tMeth, fMethS, fMake, tMake, fMakeS, tUn, rU, tAnd, tOr, tNot, tAndV, tOrV, tNotV, tIf, tChain, gListL, gListT, tSl, tNoPart, tPart, gSlL, fRaise, gStrI, gCatS, gMin2, gMax2, gIntB, tYes, fLcL, fLcT, fLcS, fLcR1, fForL, fForR1, fForR2, fRev, fGetI, gGetI, gInI, gLenI, fPutI, fNewI,
  List.map_cons, List.map_nil, List.length_cons, List.length_nil, List.replicate, List.cons_append, List.nil_append, List.append_nil, List.getElem?_cons_zero, List.getElem?_cons_succ, List.set_cons_zero, List.set_cons_succ, reduceIte, Bool.not_true, Bool.not_false, Nat.reduceAdd, Nat.reduceSub, Bool.false_eq_true, eq_self,
  Option.some.injEq, V.int.injEq, V.ref.injEq, V.str.injEq, V.bl.injEq, HO.ins.injEq, HO.lst.injEq, HO.tup.injEq, HO.dK.injEq, List.cons.injEq, and_assoc, exists_eq_left', exists_and_left, and_true, true_and, true_or, or_true, false_or, or_false, exists_eq_left, exists_eq_right, exists_eq_right', exists_eq, exists_eq', exists_const, upd_same, sc_ii, sc_ss, sc_bb, sc_in, sc_ni, sc_ns, sc_sn, sc_nn, $as,*] | skip)
section
variable {K : PySem.W.Frag}
theorem good0 {rows : List Tx} {R : Rul} (h : rulesOk R = true) (hd : R.ds ≠ []) (hm : 0 ≤ R.most ∧ R.most ≤ 6) : Good rows R S0 := by
  unfold rulesOk at h
  simp only [Bool.and_eq_true, decide_eq_true_eq] at h
  refine ⟨⟨h.1, hd, hm, by omega, rfl, by simp [S0], by simp [S0], by simp [S0], by simp [S0], by simp [S0], by simp [S0], by simp [S0], by simp [S0], by simp [S0], by simp [S0]⟩, ⟨by simp [S0], by simp [S0], by simp [S0], by simp [S0], by simp [S0], by simp [S0]⟩, ⟨by simp [S0], trivial, trivial⟩, fun _ => ⟨rfl, rfl⟩⟩
theorem view_cases {rows : List Tx} {R : Rul} {s : AS} (h : Fr rows R s) : (s.shown = none ∧ viewW s = [110, 111, 116, 104, 105, 110, 103] ∧ viewK s = [] ∧ viewR s = []) ∨
    (foldL s.now ≠ [] ∧ viewW s = [102, 114, 101, 115, 104] ∧ viewK s = foldL s.now ∧ viewR s = ansR rows s.now R.many) ∨
    (foldL s.now ≠ [] ∧ viewW s = [111, 108, 100] ∧ okL 12 (viewK s) = true ∧ viewR s ≠ [] ∧ bestL (viewR s) s.now = viewR s ∧ (viewR s).length ≤ R.many.toNat ∧ ∀ r ∈ viewR s, r ∈ ansR rows (viewK s) R.many) := by
  obtain ⟨fk, pre, ok⟩ := h
  unfold viewW viewK viewR freshS
  cases hs : s.shown with
  | none => exact .inl ⟨rfl, rfl, rfl, rfl⟩
  | some v =>
    obtain ⟨k, rs, old⟩ := v
    rw [hs] at pre ok
    obtain ⟨p1, p2, p3, p4⟩ := pre
    obtain ⟨o1, o2, o3⟩ := ok
    right
    cases old with
    | false =>
      left
      have e := o2 rfl
      refine ⟨o1, ?_, e, ?_⟩
      · simp [e]
      · rw [p4 rfl]; exact ansR_congr (by rw [p2, e])
    | true =>
      right
      obtain ⟨q1, q2, q3⟩ := o3 rfl
      exact ⟨o1, by simp, p1, q1, q2, q3, p3⟩
theorem at2_0 {a b : V} : atI [a, b] 0 = some a := atN (i := 0) rfl
theorem d_list (l : List Tx) : (PyData.list (l.map sD)).depth ≤ 50 := Nat.le_trans (depth_list (k := 0) fun d hd => by obtain ⟨z, _, rfl⟩ := List.mem_map.mp hd; simp [PyData.depth]) (by decide)
theorem d_tup2 (x : Tx) (l : List Tx) : (PyData.tuple [sD x, .list (l.map sD)]).depth ≤ 50 := by
  refine Nat.le_trans (depth_tuple (k := 1) fun d hd => ?_) (by decide)
  simp only [List.mem_cons, List.mem_nil_iff, or_false] at hd
  rcases hd with rfl | rfl
  · simp [PyData.depth]
  · exact depth_list (k := 0) fun d hd => by obtain ⟨z, _, rfl⟩ := List.mem_map.mp hd; simp [PyData.depth]
theorem rp_tx {H : Hp} {l : Addr} {rs : List Tx} (h : H l = some (.lst (rs.map sV))) : Rp H (.ref l) (.list (rs.map sD)) := .lst h (rpAll_tx _)
theorem tickOk_of {k : Int} (h0 : 0 ≤ k) (h1 : k ≤ 100) : tickOk k = true := decide_eq_true ⟨h0, h1⟩
theorem AskW.wv {I H : Hp} {a : Ad} {R : Rul} {rows : List Tx} {s : AS} {M : List (Addr × HO)} (h : AskW K I H a R rows s M) : ∃ X, W I H X ∧ ∀ I' H', Sub I I' → W I' H' X → AskW K I' H' a R rows s M := by
  obtain ⟨L, ao, w, l1, l2⟩ := h
  exact ⟨_, w, fun I' H' sb w' => ⟨L, ao.mono sb, w', l1.mono sb, l2.mono sb⟩⟩
theorem d_lgs (l : List Lg) : (PyData.list (l.map lgD)).depth ≤ 50 := Nat.le_trans (depth_list (k := 1) fun d hd => by
  obtain ⟨z, _, rfl⟩ := List.mem_map.mp hd
  cases z <;> simp [lgD, PyData.depth, PyData.depthAll]) (by decide)
theorem LW.hd {I H : Hp} {a t p : Addr} {o : HO} {n : Nat} {ad : Ad} {R : Rul} {rows : List Tx} {s : AS} {M : List (Addr × HO)} (h : LW K I H a t n ad R rows s ((p, o) :: M)) : H p = some o := by
  obtain ⟨L, ao, ⟨sc, zs, lz, w⟩, l1, l2⟩ := h
  exact has_mem w.has (p, o) (List.mem_cons_of_mem _ (List.mem_append_right _ List.mem_cons_self))
section
variable {I H : Hp} {a t pd : Addr} {n : Nat} {ad : Ad} {R : Rul} {rows : List Tx} {s : AS} {M : List (Addr × HO)} {Q : VK} {E : XK} {lv : List V} {L : List Lg}
theorem LW.logtest (h : LW K I H a t n ad R rows s ((pd, .lst lv) :: M)) (r : RpAll I lv (L.map lgD)) (e : s.log = L) (q : ∀ I' H', Sub I I' → LW K I' H' a t n ad R rows s ((pd, .lst lv) :: M) → Q (.bl false) H') : sp_Asker_log K [.ref ad.x] H (fun x H1 => gNeD x (.ref pd) H1 Q) E :=
  h.m_log fun I' H' v sb lw rv => by
    rw [e] at rv
    exact neD_f (rv.mono lw.sub) (.lst lw.hd ((r.mono sb).mono lw.sub)) (d_lgs L) (q I' H' sb lw)
end
theorem lit_nothing' : sV [110, 111, 116, 104, 105, 110, 103] = V.str ("nothing" : Str) := by rw [lit_nothing]
section
variable {I I' H H' : Hp} {a t p : Addr} {o : HO} {n : Nat} {ad : Ad} {R : Rul} {rows : List Tx} {s : AS} {M M' : List (Addr × HO)}
theorem LW.perm (h : LW K I H a t n ad R rows s M) (e : M'.Perm M) : LW K I H a t n ad R rows s M' := by
  obtain ⟨L, ao, d, l1, l2⟩ := h
  exact ⟨L, ao, d.perm (e.append_left L), l1.elim .inl fun h => .inr (e.mem_iff.mpr h), l2.elim .inl fun h => .inr (e.mem_iff.mpr h)⟩
theorem LW.mem (h : LW K I H a t n ad R rows s M) (hm : (p, o) ∈ M) : H p = some o := by
  obtain ⟨L, ao, ⟨sc, zs, lz, w⟩, l1, l2⟩ := h
  exact has_mem w.has (p, o) (List.mem_cons_of_mem _ (List.mem_append_right _ hm))
end
def lgV : Lg → List V
  | .off n => [.str "off", .int n]
  | .came n => [.str "came", .int n]
  | .late n => [.str "late", .int n]
  | .lost n => [.str "lost", .int n]
  | .asked n key => [.str "asked", .int n, sV key]
theorem rp2 {I : Hp} {v : V} {a : Str} {n : Int} (h : Rp I v (.tuple [.str a, .int n])) : ∃ t, v = .ref t ∧ I t = some (.tup [.str a, .int n]) := by
  cases h with
  | tup h1 h2 =>
    cases h2 with
    | cons x1 h2 =>
      cases h2 with
      | cons x2 h2 =>
        cases h2; cases x1; cases x2
        exact ⟨_, rfl, h1⟩
theorem rp_lg {I : Hp} {v : V} {x : Lg} (h : Rp I v (lgD x)) : ∃ t, v = .ref t ∧ I t = some (.tup (lgV x)) := by
  cases x with
  | off n => exact rp2 h
  | came n => exact rp2 h
  | late n => exact rp2 h
  | lost n => exact rp2 h
  | asked n key =>
    cases h with
    | tup h1 h2 =>
      cases h2 with
      | cons x1 h2 =>
        cases h2 with
        | cons x2 h2 =>
          cases h2 with
          | cons x3 h2 =>
            cases h2; cases x1; cases x2; cases x3
            exact ⟨_, rfl, h1⟩
end
end TA

set_option linter.all false
set_option maxRecDepth 100000
set_option maxHeartbeats 2000000
/-! Deeds: what they are, how they are looked at and done. -/
namespace TA
open PySem L2 PyProof.Rows
open SX (S S_len S_inj S_cat S_tl)
local macro_rules | `(tactic| simp! [$as,*]) => `(tactic| first | simp only [L2.start, tSeq, tAsg, tOp, fFld, tVar, gIxL, gIxT, tCB, tCons, tNil, gLenL, gLenT, gLenS, rI, rI0, fSet, tIfS, tTest, tB, rNotN, rIsN, rEq, rNe, tC, tDrop, fBM, fBM0, gTy, rAppend, tTup, tLst, tRet, tRetN, tNext, gName, fTup, gCons, gNil, tCall, fCallS, fMeth, tMeth, fMethS, fMake, tMake, fMakeS, tUn, rU, tAnd, tOr, tNot, tAndV, tOrV, tNotV, tIf, tChain, gListL, gListT, tSl, tNoPart, tPart, gSlL, fRaise, gStrI, gCatS, gMin2, gMax2, gIntB, tYes, fLcL, fLcT, fLcS, fLcR1, fForL, fForR1, fForR2, fRev, fGetI, gGetI, gInI, gLenI, fPutI, fNewI,
  List.map_cons, List.map_nil, List.length_cons, List.length_nil, List.replicate, List.cons_append, List.nil_append, List.append_nil, List.getElem?_cons_zero, List.getElem?_cons_succ, List.set_cons_zero, List.set_cons_succ, reduceIte, Bool.not_true, Bool.not_false, Nat.reduceAdd, Nat.reduceSub, Bool.false_eq_true, eq_self,
  Option.some.injEq, V.int.injEq, V.ref.injEq, V.str.injEq, V.bl.injEq, HO.ins.injEq, HO.lst.injEq, HO.tup.injEq, HO.dK.injEq, List.cons.injEq, and_assoc, exists_eq_left', exists_and_left, and_true, true_and, true_or, or_true, false_or, or_false, exists_eq_left, exists_eq_right, exists_eq_right', exists_eq, exists_eq', exists_const, upd_same, sc_ii, sc_ss, sc_bb, sc_in, sc_ni, sc_ns, sc_sn, sc_nn, $as,*] | skip)
inductive Ar | no | tx (l : Tx) | nm (n : Int)
inductive Dd | nil | one (w : Str) (a : Ar)
def arV : Ar → List V
  | .no => []
  | .tx l => [sV l]
  | .nm n => [.int n]
def ddV : Dd → List V
  | .nil => []
  | .one w a => .str w :: arV a
def arD : Ar → List PyData
  | .no => []
  | .tx l => [sD l]
  | .nm n => [.int n]
def ddD : Dd → PyData
  | .nil => .tuple []
  | .one w a => .tuple (.str w :: arD a)
def arN : Ar → Int
  | .no => 1
  | .tx _ => 2
  | .nm _ => 2
/-- what is wrong with the rest of a deed -/
def arE : Ar → Option Str
  | .no => none
  | .tx l => if okL 40 l = true then none else some "BadText"
  | .nm n => if 0 ≤ n ∧ n ≤ 999 then none else some "BadNumber"
def ddE : Dd → Option Str
  | .nil => some "BadAsk"
  | .one w a => if wN w = some (arN a) then arE a else some "BadAsk"
/-- ticks are numbers, all else texts -/
def ddW : Dd → Prop
  | .nil => True
  | .one w .no => True
  | .one w (.tx l) => w ≠ "tick" ∧ l.length ≤ 1000
  | .one w (.nm n) => w = "tick"
theorem ddE_one (w : Str) (a : Ar) : ddE (.one w a) = if wN w = some (arN a) then arE a else some (Str.ofString "BadAsk") := rfl
theorem arE_txE (l : Tx) : arE (.tx l) = if okL 40 l = true then none else some (Str.ofString "BadText") := rfl
theorem arE_nmE (n : Int) : arE (.nm n) = if 0 ≤ n ∧ n ≤ 999 then none else some (Str.ofString "BadNumber") := rfl
theorem at1_0 {a : V} : atI [a] 0 = some a := atN (i := 0) rfl
theorem at2_1' {a b : V} : atI [a, b] 1 = some b := atN (i := 1) rfl
theorem rp_dd {I : Hp} {v : V} : ∀ {d : Dd}, Rp I v (ddD d) → ∃ p, v = .ref p ∧ I p = some (.tup (ddV d))
  | .nil, h => by
    cases h with
    | tup h1 h2 => cases h2; exact ⟨_, rfl, h1⟩
  | .one w .no, h => by
    cases h with
    | tup h1 h2 =>
      cases h2 with
      | cons a b => cases a; cases b; exact ⟨_, rfl, h1⟩
  | .one w (.tx l), h => by
    cases h with
    | tup h1 h2 =>
      cases h2 with
      | cons a b =>
        cases a
        cases b with
        | cons c d => cases c; cases d; exact ⟨_, rfl, h1⟩
  | .one w (.nm n), h => by
    cases h with
    | tup h1 h2 =>
      cases h2 with
      | cons a b =>
        cases a
        cases b with
        | cons c d => cases c; cases d; exact ⟨_, rfl, h1⟩
theorem dd_rp {I : Hp} {p : Addr} : ∀ {d : Dd}, I p = some (.tup (ddV d)) → Rp I (.ref p) (ddD d)
  | .nil, h => .tup h .nil
  | .one w .no, h => .tup h (.cons (.str _) .nil)
  | .one w (.tx l), h => .tup h (.cons (.str _) (.cons (.str _) .nil))
  | .one w (.nm n), h => .tup h (.cons (.str _) (.cons (.int _) .nil))
/-- the first that is wrong -/
def ddsE (l : List Dd) : Option Str := l.findSome? ddE
def sp_look_deed (K : PySem.W.Frag) : Sp := fun vs H Q E => ∃ (p : Addr) (d : Dd), vs = [.ref p] ∧ H p = some (.tup (ddV d)) ∧ ddW d ∧ ∀ H', Same H H' → Out K Q E (ddE d) H'
def sp_look_deeds (K : PySem.W.Frag) : Sp := fun vs H Q E => ∃ (I : Hp) (M : List (Addr × HO)) (l : Addr) (zs : List (V × Dd)), vs = [.ref l] ∧ W I H M ∧ Ls I M l (.lst (zs.map Prod.fst)) ∧ Enc I ddD zs ∧ (∀ z ∈ zs, ddW z.2) ∧
  ∀ H', W I H' M → Out K Q E (ddsE (zs.map Prod.snd)) H'
def t_look_deed (K : PySem.W.Frag) (E : XK) : TS := tSeq (tIfS (tOr (tTest (tOp (rEq) (tCB (gLenT) (tCons (tVar 0) (tNil))) (tC (.int 0)))) (tOr (tTest (tOp (gInW K true) (tOp gIxT (tVar 0) (tC (.int 0))) (tC (.ref (He.ga K "WORDS"))))) (tTest (tOp (rNe) (tCB (gLenT) (tCons (tVar 0) (tNil))) (tOp (gIxW K) (tC (.ref (He.ga K "WORDS"))) (tOp gIxT (tVar 0) (tC (.int 0)))))))) (fRaise (WD E) (He.ga K "BadAsk")) (tNext)) (tIfS (tTest (tOp (rEq) (tOp gIxT (tVar 0) (tC (.int 0))) (tC (.str "tick")))) (tIfS (tNot (tTest (tChain (rI0 fun i j => .bl (decide (i ≤ j))) (rI0 fun i j => .bl (decide (i ≤ j))) (tC (.int 0)) (tOp gIxT (tVar 0) (tC (.int 1))) (tC (.int 999))))) (fRaise (WD E) (He.ga K "BadNumber")) (tNext)) (tIfS (tTest (tOp (rEq) (tCB (gLenT) (tCons (tVar 0) (tNil))) (tC (.int 2)))) (tDrop (tCall (sp_look_text K) [] E (tCons (tOp gIxT (tVar 0) (tC (.int 1))) (tCons (tC (.int 40)) (tNil))))) (tNext)))
abbrev nn_look_deed : List Str := ["deed"]
def t_look_deeds (K : PySem.W.Frag) (E : XK) : TS := fForL (tVar 0) (gName 1) (tDrop (tCall (sp_look_deed K) [] E (tCons (tVar 1) (tNil))))
abbrev nn_look_deeds : List Str := ["deeds", "deed"]
section
variable {K : PySem.W.Frag}
theorem len_look_deed : ∀ vs H Q E, sp_look_deed K vs H Q E → vs.length = ["deed"].length := by
  rintro _ _ _ _ ⟨_, _, rfl, _⟩; rfl
theorem len_look_deeds : ∀ vs H Q E, sp_look_deeds K vs H Q E → vs.length = ["deeds"].length := by
  rintro _ _ _ _ ⟨_, _, _, _, rfl, _⟩; rfl
theorem pure_look_deed : ∀ vs H Q E, sp_look_deed K vs H Q E → t_look_deed K E { nx := fun _ H2 => Q .non H2, rt := Q } (L2.start nn_look_deed vs) H := by
  rintro vs H Q E ⟨p, d, rfl, hp, hw, hQ⟩
  unfold t_look_deed
  have hb := line_big
  cases d with
  | nil =>
    have hp : H p = some (.tup []) := hp
    simp! [hp]
    exact ite_t rfl (hQ H (Same.refl _))
  | one w a =>
    have fin : ∀ (n : Int), n = arN a → ∀ X : Prop, (wN w = some n → X) → if (wN w).isNone = true then WD E (Value.ref (He.ga K (Str.ofString "BadAsk"))) none [some (V.ref p)] H else ∃ x, wN w = some x ∧ if (!decide (n = x)) = true then WD E (Value.ref (He.ga K (Str.ofString "BadAsk"))) none [some (V.ref p)] H else X := by
      intro n hn X hX
      by_cases c : wN w = some n
      · rw [if_neg (by rw [c]; simp)]
        exact ⟨n, c, ite_nt rfl (hX c)⟩
      · have e : ddE (.one w a) = some (Str.ofString "BadAsk") := by rw [ddE_one, ← hn, if_neg c]
        have bad : WD E (Value.ref (He.ga K (Str.ofString "BadAsk"))) none [some (V.ref p)] H := by
          have := hQ H (Same.refl _)
          rw [e] at this
          exact this
        cases z : wN w with
        | none => rw [if_pos (by rfl)]; exact bad
        | some x =>
          rw [if_neg (by simp)]
          refine ⟨x, rfl, ?_⟩
          rw [z] at c
          exact ite_nf (fun q => c (by rw [q])) bad
    have good : wN w = some (arN a) → ddE (.one w a) = arE a := fun c => by rw [ddE_one, if_pos c]
    cases a with
    | no =>
      have hp : H p = some (.tup [.str w]) := hp
      simp! [hp, gInW, gIxW, at1_0]
      refine ite_f (by decide) (fin 1 rfl _ fun c => ?_)
      have hq := hQ H (Same.refl _)
      rw [good c] at hq
      by_cases ct : w = "tick"
      · rw [ct] at c
        exact absurd c (by decide +kernel)
      · exact ite_f ct (ite_f (by decide) hq)
    | tx l =>
      have hp : H p = some (.tup [.str w, sV l]) := hp
      simp! [hp, gInW, gIxW, at2_0, at2_1']
      refine ite_f (by decide) (fin 2 rfl _ fun c => ?_)
      refine ite_f hw.1 (ite_t rfl ?_)
      have hl := hw.2
      refine ⟨l, 40, rfl, by omega, fun H' sm => ?_⟩
      have hq := hQ H' sm
      rw [good c, arE_txE] at hq
      by_cases z : okL 40 l = true
      · rw [if_pos z]; rw [if_pos z] at hq; exact hq
      · rw [if_neg z]; rw [if_neg z] at hq; exact hq
    | nm n =>
      have hp : H p = some (.tup [.str w, .int n]) := hp
      simp! [hp, gInW, gIxW, at2_0, at2_1']
      refine ite_f (by decide) (fin 2 rfl _ fun c => ?_)
      have hq := hQ H (Same.refl _)
      rw [good c, arE_nmE] at hq
      have ct : w = "tick" := hw
      refine ite_t ct ?_
      by_cases z : 0 ≤ n
      · refine ite_t z ?_
        by_cases z2 : n ≤ 999
        · rw [if_pos ⟨z, z2⟩] at hq
          rw [decide_eq_true z2, if_neg (by decide)]
          exact hq
        · rw [if_neg fun q => z2 q.2] at hq
          rw [decide_eq_false z2, if_pos (by decide)]
          exact hq
      · rw [if_neg fun q => z q.1] at hq
        exact ite_f z hq
structure PLd (K : PySem.W.Frag) (I : Hp) (M : List (Addr × HO)) (l : Addr) (ds : List Dd) (i : Nat) (σ : L2.St) (H : Hp) : Prop where
  ex : ∃ v : Option V, σ = [some (.ref l), v] ∧ W I H M ∧ ddsE (ds.take i) = none
theorem pure_look_deeds : ∀ vs H Q E, sp_look_deeds K vs H Q E → t_look_deeds K E { nx := fun _ H2 => Q .non H2, rt := Q } (L2.start nn_look_deeds vs) H := by
  rintro vs H Q E ⟨I, M, l, zs, rfl, w, hl, en, wt, hQ⟩
  unfold t_look_deeds
  have hl1 := hl.at w
  simp! [hl1]
  refine ⟨PLd K I M l (zs.map Prod.snd), ⟨_, rfl, w, rfl⟩, ?_, ?_, ?_⟩
  · rintro i σ H' _ ⟨v, rfl, w', _⟩
    exact hl.at w'
  · rintro i y σ H' hy ⟨v, rfl, w', e⟩
    rw [List.getElem?_map, Option.map_eq_some_iff] at hy
    obtain ⟨z, hz, rfl⟩ := hy
    obtain ⟨p, hp, hp2⟩ := rp_dd (en z (List.mem_of_getElem? hz))
    have hz2 : (zs.map Prod.snd)[i]? = some z.2 := by rw [List.getElem?_map, hz]; rfl
    have e2 : ddsE ((zs.map Prod.snd).take (i + 1)) = ddE z.2 := by
      unfold ddsE at *
      rw [take_succ_get hz2, List.findSome?_append, e]
      simp only [List.findSome?_cons, List.findSome?_nil, Option.none_or]
      cases ddE z.2 <;> rfl
    simp! [and_true]
    refine ⟨p, z.2, by rw [hp], w'.sub _ _ hp2, wt z (List.mem_of_getElem? hz), fun H2 sm => ?_⟩
    cases c : ddE z.2 with
    | none => exact ⟨_, rfl, w'.same sm, by rw [e2, c]⟩
    | some x =>
      have q := hQ H2 (w'.same sm)
      have e3 : ddsE (zs.map Prod.snd) = some x := by
        unfold ddsE at *
        rw [← List.take_append_drop (i + 1) (zs.map Prod.snd), List.findSome?_append, e2, c]; rfl
      rw [e3] at q
      exact q
  · rintro σ H' ⟨v, rfl, w', e⟩
    rw [List.length_map] at e
    have q := hQ H' w'
    rw [List.take_of_length_le (by rw [List.length_map]; exact Nat.le_refl _)] at e
    rw [e] at q
    exact q
end
end TA

set_option linter.all false
set_option maxRecDepth 100000
set_option maxHeartbeats 2000000
/-! Deeds done to a store and an asker. -/
namespace TA
open PySem L2 PyProof.Rows
open SX (S S_len S_inj S_cat S_tl)
local macro_rules | `(tactic| simp! [$as,*]) => `(tactic| first | simp only [L2.start, tSeq, tAsg, tOp, fFld, tVar, gIxL, gIxT, tCB, tCons, tNil, gLenL, gLenT, gLenS, rI, rI0, fSet, tIfS, tTest, tB, rNotN, rIsN, rEq, rNe, tC, tDrop, fBM, fBM0, gTy, rAppend, tTup, tLst, tRet, tRetN, tNext, gName, fTup, gCons, gNil, tCall, fCallS, fMeth, tMeth, fMethS, fMake, tMake, fMakeS, tUn, rU, tAnd, tOr, tNot, tAndV, tOrV, tNotV, tIf, tChain, gListL, gListT, tSl, tNoPart, tPart, gSlL, fRaise, gStrI, gCatS, gMin2, gMax2, gIntB, tYes, fLcL, fLcT, fLcS, fLcR1, fForL, fForR1, fForR2, fRev, fGetI, gGetI, gInI, gLenI, fPutI, fNewI,
  List.map_cons, List.map_nil, List.length_cons, List.length_nil, List.replicate, List.cons_append, List.nil_append, List.append_nil, List.getElem?_cons_zero, List.getElem?_cons_succ, List.set_cons_zero, List.set_cons_succ, reduceIte, Bool.not_true, Bool.not_false, Nat.reduceAdd, Nat.reduceSub, Bool.false_eq_true, eq_self,
  Option.some.injEq, V.int.injEq, V.ref.injEq, V.str.injEq, V.bl.injEq, HO.ins.injEq, HO.lst.injEq, HO.tup.injEq, HO.dK.injEq, List.cons.injEq, and_assoc, exists_eq_left', exists_and_left, and_true, true_and, true_or, or_true, false_or, or_false, exists_eq_left, exists_eq_right, exists_eq_right', exists_eq, exists_eq', exists_const, upd_same, sc_ii, sc_ss, sc_bb, sc_in, sc_ni, sc_ns, sc_sn, sc_nn, $as,*] | skip)
inductive Deed | put (l : Tx) | key (l : Tx) | rub | tick (n : Int) | again | add (l : Tx) | rem (l : Tx)
def Deed.dd : Deed → Dd
  | .put l => .one "put" (.tx l)
  | .key l => .one "key" (.tx l)
  | .rub => .one "rub" .no
  | .tick n => .one "tick" (.nm n)
  | .again => .one "again" .no
  | .add l => .one "add" (.tx l)
  | .rem l => .one "remove" (.tx l)
def deedD (d : Deed) : PyData := ddD d.dd
/-- a deed that can be -/
def deedE : Deed → Option Str
  | .put l => arE (.tx l)
  | .key l => arE (.tx l)
  | .rub => none
  | .tick n => arE (.nm n)
  | .again => none
  | .add l => arE (.tx l)
  | .rem l => arE (.tx l)
theorem ddE_deed : ∀ d : Deed, ddE d.dd = deedE d := by
  intro d
  cases d <;> (unfold Deed.dd; rw [ddE_one, if_pos (by show wN _ = some (_ : Int); first | (show wN _ = some 2; decide +kernel) | (show wN _ = some 1; decide +kernel))]) <;> rfl
theorem arE_tx {l : Tx} (h : arE (.tx l) = none) : okL 40 l = true := by
  rw [arE_txE] at h
  by_cases c : okL 40 l = true
  · exact c
  · rw [if_neg c] at h; cases h
def doR (R : Rul) (rows : List Tx) (s : AS) : Deed → List Tx × AS × Option Str
  | .put l => if okL 12 l = true then (rows, putS R s l, none) else (rows, s, some "BadText")
  | .key l => if okL 12 (s.now ++ l) = true then (rows, putS R s (s.now ++ l), none) else (rows, s, some "BadText")
  | .rub => (rows, putS R s s.now.dropLast, none)
  | .tick n => if tickOk n = true then (rows, tickS R rows n.toNat s, none) else (rows, s, some "BadNumber")
  | .again => if againE s = true then (rows, s, some "BadAsk") else (rows, againS R s, none)
  | .add l => (addR rows l, s, addE rows l)
  | .rem l => (rows.erase l, s, remE rows l)
/-- what stands between two deeds -/
structure PlI (R : Rul) (rows : List Tx) (s : AS) (n : Nat) : Prop where
  ok : OkS R 0 s
  ro : ∀ r ∈ rows, okL 20 r = true
  rl : rows.length ≤ 12
  se : s.sent ≤ 100 * n
theorem PlI.rok {R : Rul} {rows : List Tx} {s : AS} {n : Nat} (h : PlI R rows s n) : rowsOk rows := ⟨h.ro, by have := h.rl; omega⟩
theorem okTick {R : Rul} {rows : List Tx} (ro : rowsOk rows) : ∀ (n : Nat) {s : AS}, OkS R 0 s → OkS R 0 (tickS R rows n s)
  | 0, _, h => h
  | n + 1, _, h => okTick ro n (h.step ro)
theorem PlI.do {R : Rul} {rows : List Tx} {s : AS} {n : Nat} (h : PlI R rows s n) (d : Deed) : PlI R (doR R rows s d).1 (doR R rows s d).2.1 (n + 1) := by
  have hse := h.se
  have lift : PlI R rows s (n + 1) := ⟨h.ok, h.ro, h.rl, by omega⟩
  cases d with
  | put l =>
    unfold doR
    by_cases c : okL 12 l = true
    · simp only [if_pos c]
      exact ⟨h.ok.put c, h.ro, h.rl, by have := put_sent R s l; show (putS R s l).sent ≤ _; omega⟩
    · simp only [if_neg c]; exact lift
  | key l =>
    unfold doR
    by_cases c : okL 12 (s.now ++ l) = true
    · simp only [if_pos c]
      exact ⟨h.ok.put c, h.ro, h.rl, by have := put_sent R s (s.now ++ l); show (putS R s (s.now ++ l)).sent ≤ _; omega⟩
    · simp only [if_neg c]; exact lift
  | rub =>
    have c : okL 12 s.now.dropLast = true := by
      have := h.ok.now
      unfold okL at *
      rw [Bool.and_eq_true, decide_eq_true_eq] at *
      exact ⟨by rw [List.length_dropLast]; omega, List.all_eq_true.mpr fun x hx => List.all_eq_true.mp this.2 x (List.dropLast_subset _ hx)⟩
    exact ⟨h.ok.put c, h.ro, h.rl, by have := put_sent R s s.now.dropLast; show (putS R s s.now.dropLast).sent ≤ _; omega⟩
  | tick k =>
    unfold doR
    by_cases c : tickOk k = true
    · simp only [if_pos c]
      refine ⟨okTick h.rok _ h.ok, h.ro, h.rl, ?_⟩
      have := tick_sent R rows k.toNat s
      have hk := of_decide_eq_true c
      show (tickS R rows k.toNat s).sent ≤ _
      omega
    · simp only [if_neg c]; exact lift
  | again =>
    unfold doR
    by_cases c : againE s = true
    · simp only [if_pos c]; exact lift
    · simp only [if_neg c]
      exact ⟨h.ok.again, h.ro, h.rl, by have := again_sent R s; show (againS R s).sent ≤ _; omega⟩
  | add l =>
    refine ⟨lift.ok, ?_, ?_, lift.se⟩
    · show ∀ r ∈ addR rows l, okL 20 r = true
      unfold addR
      split
      · rename_i c
        intro r hr
        rcases List.mem_append.mp hr with q | q
        · exact h.ro r q
        · rw [List.mem_singleton.mp q]
          unfold addE at c
          by_cases z : okL 20 l = false ∨ foldL l = [] ∨ l ∈ rows
          · rw [if_pos z] at c; cases c
          · cases z2 : okL 20 l with
            | true => rfl
            | false => exact absurd (.inl z2) z
      · exact h.ro
    · show (addR rows l).length ≤ 12
      unfold addR
      split
      · rename_i c
        have := h.rl
        rw [List.length_append]
        unfold addE at c
        by_cases z : okL 20 l = false ∨ foldL l = [] ∨ l ∈ rows
        · rw [if_pos z] at c; cases c
        · rw [if_neg z] at c
          by_cases z2 : rows.length = 12
          · rw [if_pos z2] at c; cases c
          · simp; omega
      · exact h.rl
  | rem l =>
    refine ⟨lift.ok, fun r hr => h.ro r (List.mem_of_mem_erase hr), ?_, lift.se⟩
    show (rows.erase l).length ≤ 12
    have := List.length_erase_le (a := l) (l := rows)
    have := h.rl
    omega
/-! ### the store may change -/
theorem pm2 {α : Type} {a b : α} {L M : List α} : (a :: b :: (L ++ M)).Perm (L ++ a :: b :: M) := (List.perm_middle.trans (List.Perm.cons _ List.perm_middle)).symm
theorem pmx {α : Type} {a b x : α} {L M : List α} : (a :: b :: (L ++ x :: M)).Perm (x :: a :: b :: (L ++ M)) := List.perm_middle (l₁ := a :: b :: L)
theorem pm3 {α : Type} {a b x : α} {L M : List α} : (a :: b :: (L ++ x :: M)).Perm (L ++ x :: a :: b :: M) := pmx.trans ((pm2.cons x).trans List.perm_middle.symm)
structure SW (K : PySem.W.Frag) (I H : Hp) (ad : Ad) (R : Rul) (rows : List Tx) (s : AS) (M : List (Addr × HO)) : Prop where
  aw : AskW K I H ad R rows s ((ad.st, oStore K ad.dst ad.r) :: (ad.r, .lst (rows.map sV)) :: M)
section
variable {K : PySem.W.Frag} {I I' H H' : Hp} {p : Addr} {o : HO} {ad : Ad} {R : Rul} {rows : List Tx} {s s' : AS} {M : List (Addr × HO)} {Q : VK} {E : XK}
theorem SW.same (h : SW K I H ad R rows s M) (e : Same H H') : SW K I H' ad R rows s M := ⟨h.aw.same e⟩
theorem SW.sub (h : SW K I H ad R rows s M) : Sub I H := h.aw.sub
theorem SW.mkI (h : SW K I H ad R rows s M) (hp : H p = none) (o : HO) : ∃ I', Sub I I' ∧ SW K I' (upd H p o) ad R rows s M ∧ I' p = some o := by
  obtain ⟨I', a, b, c⟩ := h.aw.mkI hp o
  exact ⟨I', a, ⟨b⟩, c⟩
theorem SW.perm {M' : List (Addr × HO)} (h : SW K I H ad R rows s M) (e : List.Perm M' M) : SW K I H ad R rows s M' := by
  obtain ⟨L, ao, w, l1, l2⟩ := h.aw
  exact ⟨⟨L, ao, w.perm (List.Perm.append_left L ((e.cons _).cons _)), Ls.head, Ls.head.cons⟩⟩
theorem SW.w (h : SW K I H ad R rows s M) : ∃ L, AskO K I ad R s L ∧ W I H ((ad.st, oStore K ad.dst ad.r) :: (ad.r, .lst (rows.map sV)) :: (L ++ M)) := by
  obtain ⟨L, ao, w, l1, l2⟩ := h.aw
  exact ⟨L, ao, w.perm pm2⟩
theorem SW.of {L : List (Addr × HO)} (ao : AskO K I ad R s L) (w : W I H ((ad.st, oStore K ad.dst ad.r) :: (ad.r, .lst (rows.map sV)) :: (L ++ M))) : SW K I H ad R rows s M :=
  ⟨⟨L, ao, w.perm pm2.symm, Ls.head, Ls.head.cons⟩⟩
theorem SW.newM (h : SW K I H ad R rows s M) (hp : H p = none) : SW K I (upd H p o) ad R rows s ((p, o) :: M) := by
  obtain ⟨L, ao, w⟩ := h.w
  exact .of ao ((w.newM hp).perm pmx)
theorem SW.put {o' : HO} (h : SW K I H ad R rows s ((p, o) :: M)) : SW K I (upd H p o') ad R rows s ((p, o') :: M) := by
  obtain ⟨L, ao, w⟩ := h.w
  exact .of ao (((w.perm pmx.symm).put).perm pmx)
theorem SW.has (h : SW K I H ad R rows s ((p, o) :: M)) : H p = some o := by
  obtain ⟨L, ao, w⟩ := h.w
  exact (w.perm pmx.symm).has.1
theorem SW.frz (h : SW K I H ad R rows s ((p, o) :: M)) : ∃ I', Sub I I' ∧ SW K I' H ad R rows s M ∧ I' p = some o := by
  obtain ⟨L, ao, w⟩ := h.w
  obtain ⟨I', a, b, c⟩ := (w.perm pmx.symm).frz
  exact ⟨I', a, .of (ao.mono a) b, c⟩
theorem W.dropL : ∀ (L : List (Addr × HO)), W I H (L ++ M) → W I H M
  | [], w => w
  | (p, o) :: L, w => W.dropL L w.drop
theorem SW.drop (h : SW K I H ad R rows s M) : W I H M := by
  obtain ⟨L, ao, w⟩ := h.w
  exact W.dropL L w.drop.drop
theorem SW.asker (h : SW K I H ad R rows s M) : ∃ vs, H ad.x = some (oAsker K ad R s vs) ∧ ShV I vs s.shown := h.aw.obj
theorem SW.store (h : SW K I H ad R rows s M) : H ad.st = some (oStore K ad.dst ad.r) := by
  obtain ⟨L, ao, w⟩ := h.w
  exact w.has.1
theorem SW.m_add {row : Tx} (h : SW K I H ad R rows s M) (hr : rows.length ≤ 1000) (hl : row.length ≤ 1000000) (q : ∀ H', SW K I H' ad R (addR rows row) s M → Out K Q E (addE rows row) H') : sp_Store_add K [.ref ad.st, sV row] H Q E := by
  obtain ⟨L, ao, w⟩ := h.w
  exact ⟨I, L ++ M, ad.st, ad.dst, ad.r, rows, row, rfl, w, hr, hl, fun H' w' => q H' (.of ao w')⟩
theorem SW.m_rem {row : Tx} (h : SW K I H ad R rows s M) (hr : rows.length ≤ 1000) (q : ∀ H', SW K I H' ad R (rows.erase row) s M → Out K Q E (remE rows row) H') : sp_Store_remove K [.ref ad.st, sV row] H Q E := by
  obtain ⟨L, ao, w⟩ := h.w
  exact ⟨I, L ++ M, ad.st, ad.dst, ad.r, rows, row, rfl, w, hr, fun H' w' => q H' (.of ao w')⟩
theorem SW.m_view (h : SW K I H ad R rows s M) (ok : OkS R 0 s) (q : ∀ (I' H' : Hp) (v l : Addr), Sub I I' → SW K I' H' ad R rows s M → I' v = some (.tup [sV (viewW s), sV (viewK s), .ref l]) → I' l = some (.lst ((viewR s).map sV)) → Q (.ref v) H') : sp_Asker_view K [.ref ad.x] H Q E := by
  refine ⟨I, _, ad, R, rows, s, rfl, h.aw, ok, fun I' H' t l sb aw hv => ?_⟩
  obtain ⟨L, ao, w, l1, l2⟩ := aw
  have h1 : SW K I' H' ad R rows s ((l, .lst ((viewR s).map sV)) :: M) := .of ao (w.perm pm3)
  obtain ⟨I2, s2, h2, e2⟩ := h1.frz
  exact q I2 H' t l (sb.trans s2) h2 (s2 _ _ hv) e2
theorem SW.m_log (h : SW K I H ad R rows s M) (q : ∀ (I' H' : Hp) (v : V), Sub I I' → SW K I' H' ad R rows s M → Rp I' v (.list (s.log.map lgD)) → Q v H') : sp_Asker_log K [.ref ad.x] H Q E := by
  refine ⟨I, _, ad, R, rows, s, rfl, h.aw, fun H' p lv aw r => ?_⟩
  obtain ⟨L, ao, w, l1, l2⟩ := aw
  have h1 : SW K I H' ad R rows s ((p, .lst lv) :: M) := .of ao (w.perm pm3)
  obtain ⟨I2, s2, h2, e2⟩ := h1.frz
  exact q I2 H' _ s2 h2 (.lst e2 (r.mono s2))
end
/-! ### the methods, by deeds -/
def sp_do (K : PySem.W.Frag) : Sp := fun vs H Q E => ∃ (I : Hp) (M : List (Addr × HO)) (ad : Ad) (R : Rul) (rows : List Tx) (s : AS) (n : Nat) (p : Addr) (d : Deed), vs = [.ref ad.st, .ref ad.x, .ref p] ∧ SW K I H ad R rows s M ∧ PlI R rows s n ∧ n ≤ 200 ∧ I p = some (.tup (ddV d.dd)) ∧ deedE d = none ∧
  ∀ I' H', Sub I I' → SW K I' H' ad R (doR R rows s d).1 (doR R rows s d).2.1 M → Out K Q E (doR R rows s d).2.2 H'
def sp__law_oneP (K : PySem.W.Frag) : Sp := fun vs H Q E => ∃ (I : Hp) (M : List (Addr × HO)) (ad : Ad) (R : Rul) (rows : List Tx) (s : AS) (n : Nat) (p g : Addr) (d : Deed) (kind : Int), vs = [.int kind, .ref g] ∧ I g = some (.lst [.ref ad.st, .ref ad.x, .ref p]) ∧ SW K I H ad R rows s M ∧ PlI R rows s n ∧ n ≤ 200 ∧ I p = some (.tup (ddV d.dd)) ∧ deedE d = none ∧
  ∀ I' H', Sub I I' → SW K I' H' ad R (doR R rows s d).1 (doR R rows s d).2.1 M → Out K Q E (doR R rows s d).2.2 H'
def wordW : Option Str → Str
  | none => "done"
  | some e => wordOf e
def sp_word_of (K : PySem.W.Frag) : Sp := fun vs H Q E => ∃ (I : Hp) (M : List (Addr × HO)) (ad : Ad) (R : Rul) (rows : List Tx) (s : AS) (n : Nat) (p : Addr) (d : Deed), vs = [.ref ad.st, .ref ad.x, .ref p] ∧ SW K I H ad R rows s M ∧ PlI R rows s n ∧ n ≤ 200 ∧ I p = some (.tup (ddV d.dd)) ∧ deedE d = none ∧
  ∀ I' H', Sub I I' → SW K I' H' ad R (doR R rows s d).1 (doR R rows s d).2.1 M → Q (.str (wordW (doR R rows s d).2.2)) H'
def t_do (K : PySem.W.Frag) (E : XK) : TS := tSeq (tAsg (tOp gIxT (tVar 2) (tC (.int 0))) (gName 3)) (tIfS (tTest (tOp (rEq) (tVar 3) (tC (.str "put")))) (tDrop (fMeth (He.ga K "Asker") "put" (sp_Asker_put K) E (tVar 1) (tCons (tOp gIxT (tVar 2) (tC (.int 1))) (tNil)))) (tIfS (tTest (tOp (rEq) (tVar 3) (tC (.str "key")))) (tDrop (fMeth (He.ga K "Asker") "key" (sp_Asker_key K) E (tVar 1) (tCons (tOp gIxT (tVar 2) (tC (.int 1))) (tNil)))) (tIfS (tTest (tOp (rEq) (tVar 3) (tC (.str "rub")))) (tDrop (fMeth (He.ga K "Asker") "rub" (sp_Asker_rub K) E (tVar 1) (tNil))) (tIfS (tTest (tOp (rEq) (tVar 3) (tC (.str "tick")))) (tDrop (fMeth (He.ga K "Asker") "tick" (sp_Asker_tick K) E (tVar 1) (tCons (tOp gIxT (tVar 2) (tC (.int 1))) (tNil)))) (tIfS (tTest (tOp (rEq) (tVar 3) (tC (.str "again")))) (tDrop (fMeth (He.ga K "Asker") "again" (sp_Asker_again K) E (tVar 1) (tNil))) (tIfS (tTest (tOp (rEq) (tVar 3) (tC (.str "add")))) (tDrop (fMeth (He.ga K "Store") "add" (sp_Store_add K) E (tVar 0) (tCons (tOp gIxT (tVar 2) (tC (.int 1))) (tNil)))) (tDrop (fMeth (He.ga K "Store") "remove" (sp_Store_remove K) E (tVar 0) (tCons (tOp gIxT (tVar 2) (tC (.int 1))) (tNil))))))))))
abbrev nn_do : List Str := ["store", "asker", "deed", "word"]
def t_word_of (K : PySem.W.Frag) (E : XK) : TS := tSeq (tAsg (tC (.str "done")) (gName 3)) (tSeq (fun D σ H => (fun W : WX => tDrop (fCallS (sp_do K) W (tCons (tVar 0) (tCons (tVar 1) (tCons (tVar 2) (tNil)))))) (wWord K [("BadText", "text"), ("BadNumber", "number"), ("BadAsk", "ask")] 3 D) D σ H) (tRet (tVar 3)))
abbrev nn_word_of : List Str := ["store", "asker", "deed", "word"]
section
variable {K : PySem.W.Frag} {I H : Hp} {ad : Ad} {R : Rul} {rows : List Tx} {s : AS} {M : List (Addr × HO)} {Q : VK} {E : XK} {n : Nat}
theorem SW.d_put {l : Tx} (h : SW K I H ad R rows s M) (pl : PlI R rows s n) (hn : n ≤ 200) (hd : deedE (.put l) = none) (q : ∀ I' H', Sub I I' → SW K I' H' ad R (doR R rows s (.put l)).1 (doR R rows s (.put l)).2.1 M → Out K Q E (doR R rows s (.put l)).2.2 H') : sp_Asker_put K [.ref ad.x, sV l] H Q E := by
  have hse := pl.se
  refine ⟨I, _, ad, R, rows, s, l, rfl, h.aw, pl.ok, by omega, by have := okL_len (arE_tx hd); omega, fun c I' H' sb aw => ?_, fun c H' sm => ?_⟩
  · unfold doR at q
    simp only [if_pos c] at q
    exact q I' H' sb ⟨aw⟩
  · unfold doR at q
    simp only [if_neg (show ¬ okL 12 l = true by rw [c]; decide)] at q
    exact q I H' (Sub.refl _) (h.same sm)
theorem SW.d_key {l : Tx} (h : SW K I H ad R rows s M) (pl : PlI R rows s n) (hn : n ≤ 200) (hd : deedE (.key l) = none) (q : ∀ I' H', Sub I I' → SW K I' H' ad R (doR R rows s (.key l)).1 (doR R rows s (.key l)).2.1 M → Out K Q E (doR R rows s (.key l)).2.2 H') : sp_Asker_key K [.ref ad.x, sV l] H Q E := by
  have hse := pl.se
  refine ⟨I, _, ad, R, rows, s, l, rfl, h.aw, pl.ok, by omega, by have := okL_len (arE_tx hd); omega, fun c I' H' sb aw => ?_, fun c H' sm => ?_⟩
  · unfold doR at q
    simp only [if_pos c] at q
    exact q I' H' sb ⟨aw⟩
  · unfold doR at q
    simp only [if_neg (show ¬ okL 12 (s.now ++ l) = true by rw [c]; decide)] at q
    exact q I H' (Sub.refl _) (h.same sm)
theorem SW.d_rub (h : SW K I H ad R rows s M) (pl : PlI R rows s n) (hn : n ≤ 200) (q : ∀ I' H', Sub I I' → SW K I' H' ad R (doR R rows s .rub).1 (doR R rows s .rub).2.1 M → Out K Q E (doR R rows s .rub).2.2 H') : sp_Asker_rub K [.ref ad.x] H Q E := by
  have hse := pl.se
  exact ⟨I, _, ad, R, rows, s, rfl, h.aw, pl.ok, by omega, fun I' H' sb aw => q I' H' sb ⟨aw⟩⟩
theorem SW.d_tick {k : Int} (h : SW K I H ad R rows s M) (pl : PlI R rows s n) (hn : n ≤ 200) (q : ∀ I' H', Sub I I' → SW K I' H' ad R (doR R rows s (.tick k)).1 (doR R rows s (.tick k)).2.1 M → Out K Q E (doR R rows s (.tick k)).2.2 H') : sp_Asker_tick K [.ref ad.x, .int k] H Q E := by
  have hse := pl.se
  refine ⟨I, _, ad, R, rows, s, k, rfl, h.aw, pl.ok, pl.rok, by omega, fun c I' H' sb aw => ?_, fun c => ?_⟩
  · unfold doR at q
    simp only [if_pos c] at q
    exact q I' H' sb ⟨aw⟩
  · unfold doR at q
    simp only [if_neg (show ¬ tickOk k = true by rw [c]; decide)] at q
    exact q I H (Sub.refl _) h
theorem SW.d_again (h : SW K I H ad R rows s M) (pl : PlI R rows s n) (hn : n ≤ 200) (q : ∀ I' H', Sub I I' → SW K I' H' ad R (doR R rows s .again).1 (doR R rows s .again).2.1 M → Out K Q E (doR R rows s .again).2.2 H') : sp_Asker_again K [.ref ad.x] H Q E := by
  have hse := pl.se
  refine ⟨I, _, ad, R, rows, s, rfl, h.aw, pl.ok, by omega, fun c I' H' sb aw => ?_, fun c H' sm => ?_⟩
  · unfold doR at q
    simp only [if_neg (show ¬ againE s = true by rw [c]; decide)] at q
    exact q I' H' sb ⟨aw⟩
  · unfold doR at q
    simp only [if_pos c] at q
    exact q I H' (Sub.refl _) (h.same sm)
theorem SW.d_add {l : Tx} (h : SW K I H ad R rows s M) (pl : PlI R rows s n) (hd : deedE (.add l) = none) (q : ∀ I' H', Sub I I' → SW K I' H' ad R (doR R rows s (.add l)).1 (doR R rows s (.add l)).2.1 M → Out K Q E (doR R rows s (.add l)).2.2 H') : sp_Store_add K [.ref ad.st, sV l] H Q E :=
  h.m_add (by have := pl.rl; omega) (by have := okL_len (arE_tx hd); omega) fun H' h' => q I H' (Sub.refl _) h'
theorem SW.d_rem {l : Tx} (h : SW K I H ad R rows s M) (pl : PlI R rows s n) (hd : deedE (.rem l) = none) (q : ∀ I' H', Sub I I' → SW K I' H' ad R (doR R rows s (.rem l)).1 (doR R rows s (.rem l)).2.1 M → Out K Q E (doR R rows s (.rem l)).2.2 H') : sp_Store_remove K [.ref ad.st, sV l] H Q E :=
  h.m_rem (by have := pl.rl; omega) fun H' h' => q I H' (Sub.refl _) h'
theorem len_do : ∀ vs H Q E, sp_do K vs H Q E → vs.length = ["store", "asker", "deed"].length := by
  rintro _ _ _ _ ⟨_, _, _, _, _, _, _, _, _, rfl, _⟩; rfl
theorem len_word_of : ∀ vs H Q E, sp_word_of K vs H Q E → vs.length = ["store", "asker", "deed"].length := by
  rintro _ _ _ _ ⟨_, _, _, _, _, _, _, _, _, rfl, _⟩; rfl
theorem doE_in {d : Deed} {e : Str} (h : (doR R rows s d).2.2 = some e) : e ∈ errs := by
  cases d with
  | put l =>
    by_cases c : okL 12 l = true
    · simp only [doR, if_pos c] at h; cases h
    · simp only [doR, if_neg c] at h; cases h; decide +kernel
  | key l =>
    by_cases c : okL 12 (s.now ++ l) = true
    · simp only [doR, if_pos c] at h; cases h
    · simp only [doR, if_neg c] at h; cases h; decide +kernel
  | rub => cases h
  | tick k =>
    by_cases c : tickOk k = true
    · simp only [doR, if_pos c] at h; cases h
    · simp only [doR, if_neg c] at h; cases h; decide +kernel
  | again =>
    by_cases c : againE s = true
    · simp only [doR, if_pos c] at h; cases h; decide +kernel
    · simp only [doR, if_neg c] at h; cases h
  | add l =>
    have h : addE rows l = some e := h
    unfold addE at h
    split at h
    · cases h; decide +kernel
    · split at h
      · cases h; decide +kernel
      · cases h
  | rem l =>
    have h : remE rows l = some e := h
    unfold remE at h
    split at h
    · cases h
    · cases h; decide +kernel
theorem outQ {o : Option Str} {H : Hp} {Q' : VK} (h : Out K Q E o H) (q : ∀ v H', Q v H' → Q' v H') : Out K Q' E o H := by
  cases o with
  | none => exact q _ _ h
  | some e => exact h
theorem outN {o : Option Str} {H : Hp} (h : Out K Q E o H) : Out K (fun _ H1 => Q .non H1) E o H := by
  cases o with
  | none => exact h
  | some e => exact h
theorem pure_do : ∀ vs H Q E, sp_do K vs H Q E → t_do K E { nx := fun _ H2 => Q .non H2, rt := Q } (L2.start nn_do vs) H := by
  rintro vs H Q E ⟨I, M, ad, R, rows, s, n, p, d, rfl, h, pl, hn, hp, hd, hQ⟩
  obtain ⟨vs, hx, _⟩ := h.asker
  have hst := h.store
  have hp1 := h.sub _ _ hp
  unfold oAsker at hx
  unfold oStore at hst
  unfold t_do
  have hQ' := fun I' H' sb sw => outN (hQ I' H' sb sw)
  cases d with
  | put l =>
    have hp1 : H p = some (.tup [.str "put", sV l]) := hp1
    simp! [hp1, hx, hst, at2_0, at2_1', no_Asker_put, no_Asker_key, no_Asker_rub, no_Asker_tick, no_Asker_again, no_Store_add, no_Store_remove]
    exact ite_t trivial (h.d_put pl hn hd hQ')
  | key l =>
    have hp1 : H p = some (.tup [.str "key", sV l]) := hp1
    simp! [hp1, hx, hst, at2_0, at2_1', no_Asker_put, no_Asker_key, no_Asker_rub, no_Asker_tick, no_Asker_again, no_Store_add, no_Store_remove]
    exact ite_f (by decide +kernel) (ite_t trivial (h.d_key pl hn hd hQ'))
  | rub =>
    have hp1 : H p = some (.tup [.str "rub"]) := hp1
    simp! [hp1, hx, hst, at1_0, no_Asker_put, no_Asker_key, no_Asker_rub, no_Asker_tick, no_Asker_again, no_Store_add, no_Store_remove]
    exact ite_f (by decide +kernel) (ite_f (by decide +kernel) (ite_t trivial (h.d_rub pl hn hQ')))
  | tick k =>
    have hp1 : H p = some (.tup [.str "tick", .int k]) := hp1
    simp! [hp1, hx, hst, at2_0, at2_1', no_Asker_put, no_Asker_key, no_Asker_rub, no_Asker_tick, no_Asker_again, no_Store_add, no_Store_remove]
    exact ite_f (by decide +kernel) (ite_f (by decide +kernel) (ite_f (by decide +kernel) (ite_t trivial (h.d_tick pl hn hQ'))))
  | again =>
    have hp1 : H p = some (.tup [.str "again"]) := hp1
    simp! [hp1, hx, hst, at1_0, no_Asker_put, no_Asker_key, no_Asker_rub, no_Asker_tick, no_Asker_again, no_Store_add, no_Store_remove]
    exact ite_f (by decide +kernel) (ite_f (by decide +kernel) (ite_f (by decide +kernel) (ite_f (by decide +kernel) (ite_t trivial (h.d_again pl hn hQ')))))
  | add l =>
    have hp1 : H p = some (.tup [.str "add", sV l]) := hp1
    simp! [hp1, hx, hst, at2_0, at2_1', no_Asker_put, no_Asker_key, no_Asker_rub, no_Asker_tick, no_Asker_again, no_Store_add, no_Store_remove]
    exact ite_f (by decide +kernel) (ite_f (by decide +kernel) (ite_f (by decide +kernel) (ite_f (by decide +kernel) (ite_f (by decide +kernel) (ite_t trivial (h.d_add pl hd hQ'))))))
  | rem l =>
    have hp1 : H p = some (.tup [.str "remove", sV l]) := hp1
    simp! [hp1, hx, hst, at2_0, at2_1', no_Asker_put, no_Asker_key, no_Asker_rub, no_Asker_tick, no_Asker_again, no_Store_add, no_Store_remove]
    exact ite_f (by decide +kernel) (ite_f (by decide +kernel) (ite_f (by decide +kernel) (ite_f (by decide +kernel) (ite_f (by decide +kernel) (ite_f (by decide +kernel) (h.d_rem pl hd hQ'))))))
theorem pure_word_of : ∀ vs H Q E, sp_word_of K vs H Q E → t_word_of K E { nx := fun _ H2 => Q .non H2, rt := Q } (L2.start nn_word_of vs) H := by
  rintro vs H Q E ⟨I, M, ad, R, rows, s, n, p, d, rfl, h, pl, hn, hp, hd, hQ⟩
  unfold t_word_of
  simp! [and_true]
  refine ⟨I, M, ad, R, rows, s, n, p, d, rfl, h, pl, hn, hp, hd, fun I' H' sb sw => ?_⟩
  have q := hQ I' H' sb sw
  cases e : (doR R rows s d).2.2 with
  | none =>
    rw [e] at q
    exact q
  | some x =>
    rw [e] at q
    refine ⟨x, wordOf x, ?_, rfl, ⟨_, rfl, q⟩⟩
    rcases errs_cases (doE_in e) with rfl | rfl | rfl <;> decide +kernel
end
end TA

set_option linter.all false
set_option maxRecDepth 100000
set_option maxHeartbeats 2000000
/-! Whole diaries played. -/
namespace TA
open PySem L2 PyProof.Rows
open SX (S S_len S_inj S_cat S_tl)
local macro_rules | `(tactic| simp! [$as,*]) => `(tactic| first | simp only [L2.start, tSeq, tAsg, tOp, fFld, tVar, gIxL, gIxT, tCB, tCons, tNil, gLenL, gLenT, gLenS, rI, rI0, fSet, tIfS, tTest, tB, rNotN, rIsN, rEq, rNe, tC, tDrop, fBM, fBM0, gTy, rAppend, tTup, tLst, tRet, tRetN, tNext, gName, fTup, gCons, gNil, tCall, fCallS, fMeth, tMeth, fMethS, fMake, tMake, fMakeS, tUn, rU, tAnd, tOr, tNot, tAndV, tOrV, tNotV, tIf, tChain, gListL, gListT, tSl, tNoPart, tPart, gSlL, fRaise, gStrI, gCatS, gMin2, gMax2, gIntB, tYes, fLcL, fLcT, fLcS, fLcR1, fForL, fForR1, fForR2, fRev, fGetI, gGetI, gInI, gLenI, fPutI, fNewI,
  List.map_cons, List.map_nil, List.length_cons, List.length_nil, List.replicate, List.cons_append, List.nil_append, List.append_nil, List.getElem?_cons_zero, List.getElem?_cons_succ, List.set_cons_zero, List.set_cons_succ, reduceIte, Bool.not_true, Bool.not_false, Nat.reduceAdd, Nat.reduceSub, Bool.false_eq_true, eq_self,
  Option.some.injEq, V.int.injEq, V.ref.injEq, V.str.injEq, V.bl.injEq, HO.ins.injEq, HO.lst.injEq, HO.tup.injEq, HO.dK.injEq, List.cons.injEq, and_assoc, exists_eq_left', exists_and_left, and_true, true_and, true_or, or_true, false_or, or_false, exists_eq_left, exists_eq_right, exists_eq_right', exists_eq, exists_eq', exists_const, upd_same, sc_ii, sc_ss, sc_bb, sc_in, sc_ni, sc_ns, sc_sn, sc_nn, $as,*] | skip)
/-! ### few asks are sent -/
structure TI (c : Int) (s : AS) : Prop where
  t0 : 0 ≤ s.tries
  t3 : s.tries ≤ 3
  du : s.due = true → s.tries ≤ 2
  se : (s.sent : Int) ≤ c + s.tries
section
variable {c : Int} {s : AS} {R : Rul} {rows : List Tx}
theorem TI.drop (h : TI c s) (w : Option Tx) : TI c (dropS s w) := ⟨h.t0, h.t3, h.du, h.se⟩
theorem TI.show (h : TI c s) (rs : List Tx) : TI c (showS s rs) := ⟨h.t0, h.t3, fun z => (by cases z), h.se⟩
theorem TI.near (h : TI c s) : TI c (nearS R s) := by
  unfold nearS
  split
  · exact ⟨h.t0, h.t3, fun z => (by cases z), h.se⟩
  · split
    · exact ⟨h.t0, h.t3, fun z => (by cases z), h.se⟩
    · split
      · exact h
      · split
        · exact h
        · split
          · exact ⟨h.t0, h.t3, h.du, h.se⟩
          · exact ⟨h.t0, h.t3, h.du, h.se⟩
theorem TI.ask (h : TI c s) : TI c (askS R s) := by
  unfold askS
  split
  · rename_i z
    have := h.du z.1
    have := h.t0
    have := h.se
    exact ⟨by show 0 ≤ s.tries + 1; omega, by show s.tries + 1 ≤ 3; omega, fun q => (by cases q), by show ((s.sent + 1 : Nat) : Int) ≤ c + (s.tries + 1); omega⟩
  · exact h
theorem TI.put (h : TI c s) (l : Tx) : TI (c + 3) (putS R s l) := by
  unfold putS
  refine TI.ask (TI.near ?_)
  have := h.se
  have := h.t3
  split
  · exact ⟨h.t0, h.t3, h.du, by show (s.sent : Int) ≤ c + 3 + s.tries; omega⟩
  · exact ⟨by show (0 : Int) ≤ 0; omega, by show (0 : Int) ≤ 3; omega, fun _ => by show (0 : Int) ≤ 2; omega, by show (s.sent : Int) ≤ c + 3 + 0; omega⟩
theorem TI.come (h : TI c s) (n : Int) (q : Tx) : TI c (comeS R rows s n q) := by
  unfold comeS
  simp only []
  split
  · exact ⟨h.t0, h.t3, fun z => (by cases z), h.se⟩
  · exact TI.near ⟨h.t0, h.t3, h.du, h.se⟩
theorem TI.comes : ∀ (l : List (Int × Int × Tx)) {s : AS}, TI c s → TI c (comeAll R rows s l)
  | [], _, h => h
  | x :: l, _, h => TI.comes l (h.come x.2.1 x.2.2)
theorem TI.lost (h : TI c s) (n : Int) : TI c (lostS R s n) := by
  unfold lostS
  split
  · simp only []
    split
    · exact ⟨h.t0, h.t3, fun z => by have : s.tries < 3 := of_decide_eq_true z; show s.tries ≤ 2; omega, h.se⟩
    · exact ⟨h.t0, h.t3, h.du, h.se⟩
  · exact h
theorem TI.losts : ∀ (l : List Int) {s : AS}, TI c s → TI c (l.foldl (lostS R) s)
  | [], _, h => h
  | x :: l, _, h => TI.losts l (h.lost x)
theorem TI.step (h : TI c s) : TI c (stepS R rows s) := TI.ask (TI.losts _ (TI.comes _ ⟨h.t0, h.t3, h.du, h.se⟩))
theorem TI.tick : ∀ (n : Nat) {s : AS}, TI c s → TI c (tickS R rows n s)
  | 0, _, h => h
  | n + 1, _, h => TI.tick n h.step
theorem TI.again (h : TI c s) : TI (c + 3) (againS R s) := by
  have := h.se
  have := h.t3
  exact TI.ask ⟨by show (0 : Int) ≤ 0; omega, by show (0 : Int) ≤ 3; omega, fun _ => by show (0 : Int) ≤ 2; omega, by show (s.sent : Int) ≤ c + 3 + 0; omega⟩
theorem TI.le (h : TI c s) {c' : Int} (e : c ≤ c') : TI c' s := ⟨h.t0, h.t3, h.du, by have := h.se; omega⟩
theorem TI.do (h : TI c s) (d : Deed) : TI (c + 3) (doR R rows s d).2.1 := by
  have h' : TI (c + 3) s := h.le (by omega)
  cases d with
  | put l =>
    by_cases z : okL 12 l = true
    · simp only [doR, if_pos z]; exact h.put l
    · simp only [doR, if_neg z]; exact h'
  | key l =>
    by_cases z : okL 12 (s.now ++ l) = true
    · simp only [doR, if_pos z]; exact h.put _
    · simp only [doR, if_neg z]; exact h'
  | rub => exact h.put _
  | tick k =>
    by_cases z : tickOk k = true
    · simp only [doR, if_pos z]; exact h'.tick _
    · simp only [doR, if_neg z]; exact h'
  | again =>
    by_cases z : againE s = true
    · simp only [doR, if_pos z]; exact h'
    · simp only [doR, if_neg z]; exact h.again
  | add l => exact h'
  | rem l => exact h'
end
/-! ### many deeds -/
def viewD (s : AS) : PyData := .tuple [sD (viewW s), sD (viewK s), .list ((viewR s).map sD)]
def entD (e : Option Str) (s : AS) : PyData := .tuple [.str (wordW e), viewD s]
structure PlR where
  rows : List Tx
  s : AS
  out : List PyData
def stepR (R : Rul) (x : PlR) (d : Deed) : PlR := ⟨(doR R x.rows x.s d).1, (doR R x.rows x.s d).2.1, x.out ++ [entD (doR R x.rows x.s d).2.2 (doR R x.rows x.s d).2.1]⟩
def runR (R : Rul) (ds : List Deed) : PlR := ds.foldl (stepR R) ⟨[], S0, []⟩
theorem runR_succ {R : Rul} {ds : List Deed} {i : Nat} {d : Deed} (h : ds[i]? = some d) : runR R (ds.take (i + 1)) = stepR R (runR R (ds.take i)) d := by
  unfold runR; rw [take_succ_get h, List.foldl_append]; rfl
theorem runR_snoc (R : Rul) (ds : List Deed) (d : Deed) : runR R (ds ++ [d]) = stepR R (runR R ds) d := by
  unfold runR; rw [List.foldl_append]; rfl
structure RI (R : Rul) (ds : List Deed) : Prop where
  pl : PlI R (runR R ds).rows (runR R ds).s ds.length
  ti : TI (3 * ds.length) (runR R ds).s
theorem runR_i {R : Rul} (h : rulesOk R = true) (hd : R.ds ≠ []) (hm : 0 ≤ R.most ∧ R.most ≤ 6) (ds : List Deed) : ∀ i, i ≤ ds.length → RI R (ds.take i)
  | 0, _ => ⟨⟨(good0 (rows := []) h hd hm).ok, by simp [runR], by simp [runR], by simp [runR, S0]⟩, ⟨by simp [runR, S0], by simp [runR, S0], by simp [runR, S0], by simp [runR, S0]⟩⟩
  | i + 1, hi => by
    obtain ⟨p, t⟩ := runR_i h hd hm ds i (by omega)
    have e : ds[i]? = some ds[i] := List.getElem?_eq_getElem (by omega)
    have l1 : (ds.take i).length = i := by rw [List.length_take]; omega
    have l2 : (ds.take (i + 1)).length = i + 1 := by rw [List.length_take]; omega
    rw [l1] at p t
    refine ⟨?_, ?_⟩
    · rw [runR_succ e, l2]; exact p.do _
    · rw [runR_succ e, l2]
      have := t.do (R := R) (rows := (runR R (ds.take i)).rows) ds[i]
      exact this.le (by omega)
theorem log_few {R : Rul} {ds : List Deed} (h : RI R ds) : (runR R ds).s.log.length ≤ 9 * ds.length + 9 := by
  have h1 := h.pl.ok.lg
  have h2 := h.ti.se
  have h3 := h.ti.t3
  omega
def playD (R : Rul) (ds : List Deed) : PyData := .tuple [.list (runR R ds).out, .list ((runR R ds).s.log.map lgD)]
def lgW : Lg → Str
  | .off _ => "off"
  | .came _ => "came"
  | .late _ => "late"
  | .lost _ => "lost"
  | .asked _ _ => "asked"
def cntD (ws : List Str) (m : List Str) : PyData := .list ((srtS m).map fun w => .tuple [.str w, .int ((ws.countP fun z => decide (z = w) : Nat) : Int)])
/-- what played takes: good rules, or delays that can't be; any deeds -/
def sp_played (K : PySem.W.Frag) : Sp := fun vs H Q E => ∃ (I : Hp) (M : List (Addr × HO)) (ld ls lr le : Addr) (R : Rul) (zs : List (V × Dd)) (ds : List Deed), vs = [.ref ld, .ref ls, .ref lr, .ref le] ∧ W I H M ∧
  I ld = some (.lst (R.ds.map delV)) ∧ I ls = some (.tup [.int R.most, .int R.term]) ∧ I lr = some (.tup [.int R.many, .int R.pause, .int R.asks, .int R.pat]) ∧ I le = some (.lst (zs.map Prod.fst)) ∧ Enc I ddD zs ∧ (∀ z ∈ zs, ddW z.2) ∧ zs.length ≤ 100 ∧ R.ds.length ≤ 100 ∧
  (ddsE (zs.map Prod.snd) = none → roadOk R.ds = true → zs.map Prod.snd = ds.map Deed.dd ∧ shelfOk R.most R.term = true ∧ rulesOk R = true ∧ ∀ (I' H' : Hp) (v : V), Sub I I' → W I' H' M → Rp I' v (playD R ds) → Q v H') ∧
  (∀ e, ddsE (zs.map Prod.snd) = some e → ∀ H', W I H' M → E (.ref (He.ga K e)) none H') ∧
  (ddsE (zs.map Prod.snd) = none → roadOk R.ds = false → ∀ I' H', Sub I I' → W I' H' M → E (bN K) none H')
def sp_counts (K : PySem.W.Frag) : Sp := fun vs H Q _ => ∃ (I : Hp) (M : List (Addr × HO)) (v : V) (lg : List Lg), vs = [v] ∧ W I H M ∧ Rp I v (.list (lg.map lgD)) ∧ lg.length < 3000 ∧
  ∀ (I' H' : Hp) (v : V) (m : List Str), Sub I I' → W I' H' M → m.Nodup → (∀ x, x ∈ m ↔ x ∈ lg.map lgW) → Rp I' v (cntD (lg.map lgW) m) → Q v H'
def t_played (K : PySem.W.Frag) (E : XK) : TS := tSeq (tDrop (tCall (sp_look_deeds K) [] E (tCons (tVar 3) (tNil)))) (tSeq (tAsg (fMake (He.ga K "Store") (sp_Store___init__ K) E (tNil)) (gName 4)) (tSeq (tAsg (fMake (He.ga K "Asker") (sp_Asker___init__ K) E (tCons (tVar 4) (tCons (fMake (He.ga K "Road") (sp_Road___init__ K) E (tCons (tVar 0) (tNil))) (tCons (fMake (He.ga K "Shelf") (sp_Shelf___init__ K) E (tCons (tOp gIxT (tVar 1) (tC (.int 0))) (tCons (tOp gIxT (tVar 1) (tC (.int 1))) (tNil)))) (tCons (tOp gIxT (tVar 2) (tC (.int 0))) (tCons (tOp gIxT (tVar 2) (tC (.int 1))) (tCons (tOp gIxT (tVar 2) (tC (.int 2))) (tCons (tOp gIxT (tVar 2) (tC (.int 3))) (tNil))))))))) (gName 5)) (tSeq (tAsg (fLcL (tVar 3) (gName 7) (tYes) (tTup (tCons (tCall (sp_word_of K) [] E0 (tCons (tVar 4) (tCons (tVar 5) (tCons (tVar 7) (tNil))))) (tCons (fMeth (He.ga K "Asker") "view" (sp_Asker_view K) E0 (tVar 5) (tNil)) (tNil)))) [7]) (gName 6)) (tRet (tTup (tCons (tVar 6) (tCons (fMeth (He.ga K "Asker") "log" (sp_Asker_log K) E (tVar 5) (tNil)) (tNil))))))))
abbrev nn_played : List Str := ["delays", "shelf", "rules", "deeds", "store", "asker", "found", "deed"]
def t_counts (K : PySem.W.Frag) (E : XK) : TS := tSeq (tAsg (fLcL (tVar 0) (gName 2) (tYes) (tOp gIxT (tVar 2) (tC (.int 0))) [2]) (gName 1)) (tRet (fLcL (fSortS (tVar 1)) (gName 3) (tYes) (tTup (tCons (tVar 3) (tCons (fBM "list" gCnt (tVar 1) (tCons (tVar 3) (tNil))) (tNil)))) [3]))
abbrev nn_counts : List Str := ["log", "words", "line", "word"]
section
variable {K : PySem.W.Frag}
theorem len_played : ∀ vs H Q E, sp_played K vs H Q E → vs.length = ["delays", "shelf", "rules", "deeds"].length := by
  rintro _ _ _ _ ⟨_, _, _, _, _, _, _, _, _, rfl, _⟩; rfl
theorem len_counts : ∀ vs H Q E, sp_counts K vs H Q E → vs.length = ["log"].length := by
  rintro _ _ _ _ ⟨_, _, _, _, rfl, _⟩; rfl
theorem dds_ok {ds : List Deed} (h : ddsE (ds.map Deed.dd) = none) : ∀ d ∈ ds, deedE d = none := by
  intro d hd
  unfold ddsE at h
  have := List.findSome?_eq_none_iff.mp h d.dd (List.mem_map.mpr ⟨d, hd, rfl⟩)
  rw [ddE_deed] at this
  exact this
structure CPl (K : PySem.W.Frag) (ad : Ad) (R : Rul) (ds : List Deed) (M : List (Addr × HO)) (i : Nat) (I : Hp) (acc : List V) (M' : List (Addr × HO)) : Prop where
  ex : ∃ L, AskO K I ad R (runR R (ds.take i)).s L ∧ M' = (ad.st, oStore K ad.dst ad.r) :: (ad.r, .lst ((runR R (ds.take i)).rows.map sV)) :: (L ++ M) ∧ RpAll I acc (runR R (ds.take i)).out
theorem RpAll.mono' {I I' : Hp} {vs : List V} {ds : List PyData} (s : Sub I I') (h : RpAll I vs ds) : RpAll I' vs ds := h.mono s
section
variable {I H : Hp} {M : List (Addr × HO)} {Q : Addr → Hp → Prop} {E : XK}
theorem mk_askerS {st rd sh drd d u dsh dst r : Addr} {o : HO} {R : Rul} {rows : List Tx} (w : W I H ((rd, oRoad K drd d 0 u) :: (u, .lst []) :: (sh, o) :: (st, oStore K dst r) :: (r, .lst (rows.map sV)) :: M)) (hd : I d = some (.lst (R.ds.map delV))) (so : ShO K I dsh R.most R.term [] o) (ok : rulesOk R = true)
    (q : ∀ (I' H' : Hp) (ad : Ad), Sub I I' → ad.st = st → SW K I' H' ad R rows S0 M → Q ad.x H') :
    ∀ x dx, H x = none → H dx = none → dx ≠ x → sp_Asker___init__ K [.ref x, .ref st, .ref rd, .ref sh, .int R.many, .int R.pause, .int R.asks, .int R.pat] (upd (upd H dx (.own x)) x (.ins (He.ga K "Asker") dx [])) (fun v H2 => v = .non ∧ Q x H2) E := by
  intro x dx hx hdx ne
  have w1 := w.skip (o := .own x) hdx
  have hx1 : upd H dx (.own x) x = none := by rw [upd_ne (Ne.symm ne)]; exact hx
  have w2 := w1.newM (o := .ins (He.ga K "Asker") dx []) hx1
  exact ⟨I, _, x, dx, st, rd, sh, drd, d, u, dsh, dst, r, o, R, rows, rfl, w2, hd, so, Ls.head, Ls.head.cons, fun _ I' H' pa pf pl sb aw => ⟨rfl, q I' H' ⟨x, dx, pa, pf, pl, rd, drd, d, sh, dsh, st, dst, r⟩ sb rfl ⟨aw⟩⟩, fun e => by rw [ok] at e; cases e⟩
theorem mk_store (w : W I H M) (q : ∀ (H' : Hp) (x dx r : Addr), W I H' ((x, oStore K dx r) :: (r, .lst []) :: M) → Q x H') :
    ∀ x dx, H x = none → H dx = none → dx ≠ x → sp_Store___init__ K [.ref x] (upd (upd H dx (.own x)) x (.ins (He.ga K "Store") dx [])) (fun v H2 => v = .non ∧ Q x H2) E := by
  intro x dx hx hdx ne
  have w2 := w.skip (o := .own x) hdx
  have hx1 : upd H dx (.own x) x = none := by rw [upd_ne (Ne.symm ne)]; exact hx
  have w3 := w2.newM (o := .ins (He.ga K "Store") dx []) hx1
  exact ⟨I, _, x, dx, rfl, w3, fun H4 r w4 => ⟨rfl, q H4 x dx r w4⟩⟩
end
theorem view_rp {I : Hp} {s : AS} {v l : Addr} (h1 : I v = some (.tup [sV (viewW s), sV (viewK s), .ref l])) (h2 : I l = some (.lst ((viewR s).map sV))) : Rp I (.ref v) (viewD s) :=
  .tup h1 (.cons (.str _) (.cons (.str _) (.cons (rp_tx h2) .nil)))
theorem pure_played : ∀ vs H Q E, sp_played K vs H Q E → t_played K E { nx := fun _ H2 => Q .non H2, rt := Q } (L2.start nn_played vs) H := by
  rintro vs H Q E ⟨I, M, ld, ls, lr, le, R, zs, ds, rfl, w, hld, hls, hlr, hle, en, wt, hz, hdl, hok, hbad, hroad⟩
  unfold t_played
  simp! [and_true]
  refine ⟨I, M, le, zs, rfl, w, Ls.i hle, en, wt, fun H1 w1 => ?_⟩
  cases hE : ddsE (zs.map Prod.snd) with
  | some e => exact hbad e hE H1 w1
  | none =>
    show _
    simp! [and_true]
    refine mk_store w1 fun H4 x dx r w4 => ?_
    simp! [and_true]
    cases hr : roadOk R.ds with
    | false =>
      intro x2 dx2 hx hdx ne
      have w5 := w4.skip (o := .own x2) hdx
      have hx1 : upd H4 dx2 (.own x2) x2 = none := by rw [upd_ne (Ne.symm ne)]; exact hx
      have w6 := w5.newM (o := .ins (He.ga K "Road") dx2 []) hx1
      exact ⟨I, _, x2, dx2, ld, R.ds, rfl, w6, fun I' H' o s' w' => w'.sub _ _ (s' _ _ hld), hdl, fun z => (by rw [hr] at z; cases z), fun _ I' H' s' w' => hroad hE hr I' H' s' w'.drop.drop.drop⟩
    | true =>
      obtain ⟨ez, so, ru, hQ⟩ := hok hE hr
      refine mk_road w4 hld hr hdl fun I5 H5 rd drd d u s5 w5 hd5 => ?_
      have hls5 := w5.sub _ _ (s5 _ _ hls)
      simp! [hls5, at2_0, at2_1']
      refine mk_shelf w5 so fun I6 H6 sh dsh o6 s6 w6 so6 => ?_
      have hlr6 := w6.sub _ _ ((s5.trans s6) _ _ hlr)
      simp! [hlr6, at4_0, at4_1, at4_2, at4_3]
      refine mk_askerS (R := R) (rows := []) (w6.sel [_, _, _] [1, 2, 0]) (s6 _ _ hd5) so6 ru fun I7 H7 ad s7 e7 sw7 => ?_
      have s57 := s5.trans (s6.trans s7)
      have hle7 := sw7.sub _ _ (s57 _ _ hle)
      have hm : 0 ≤ R.most ∧ R.most ≤ 6 := by
        unfold shelfOk at so
        simp only [Bool.and_eq_true, decide_eq_true_eq] at so
        omega
      have hd0 : R.ds ≠ [] := by
        intro z
        rw [z] at hr
        exact absurd hr (by decide)
      have ri := runR_i ru hd0 hm ds
      have zl : ds.length = zs.length := by
        have := congrArg List.length ez
        rw [List.length_map, List.length_map] at this
        exact this.symm
      have dok := dds_ok (ds := ds) (by rw [← ez]; exact hE)
      simp! [hle7]
      obtain ⟨L7, ao7, w7⟩ := sw7.w
      refine ⟨I7, _, CPl K ad R ds M, w7, by rw [List.length_map]; omega, ⟨L7, ao7, rfl, .nil⟩, ?_, ?_, ?_⟩
      · rintro i I' acc M' D H' _ sb w'
        exact w'.sub _ _ (sb _ _ (s57 _ _ hle))
      · rintro D i y H' I' acc M' hi hy sb w' ⟨L, ao, rfl, ra⟩ _
        rw [List.getElem?_map, Option.map_eq_some_iff] at hy
        obtain ⟨z, hzi, rfl⟩ := hy
        rw [List.length_map] at hi
        have hdi : ds[i]? = some ds[i] := List.getElem?_eq_getElem (by omega)
        have ez2 : z.2 = ds[i].dd := by
          have := congrArg (fun l => l[i]?) ez
          simp only [List.getElem?_map, hzi, hdi, Option.map_some, Option.some.injEq] at this
          exact this
        obtain ⟨p, hp, hp2⟩ := rp_dd (en z (List.mem_of_getElem? hzi))
        rw [ez2] at hp2
        have sw : SW K I' H' ad R (runR R (ds.take i)).rows (runR R (ds.take i)).s ((D, .lst acc) :: M) := .of ao (w'.perm pmx)
        have s0 := (s57.trans sb)
        simp! [wipe, hp]
        have hl : (ds.take i).length = i := by rw [List.length_take]; omega
        have pl := (ri i (by omega)).pl
        rw [hl] at pl
        rw [← e7]
        refine ⟨I', _, ad, R, _, _, i, p, ds[i], rfl, sw, pl, by omega, s0 _ _ hp2, dok _ (List.getElem_mem _), fun I8 H8 s8 sw8 => ?_⟩
        obtain ⟨vs8, hx8, _⟩ := sw8.asker
        unfold oAsker at hx8
        simp! [hx8, no_Asker_view]
        refine sw8.m_view (pl.do _).ok fun I9 H9 v l s9 sw9 hv hl => ?_
        refine ⟨two_le, fun q hq => ?_⟩
        obtain ⟨I10, s10, sw10, hq10⟩ := sw9.mkI hq (.tup [.str (wordW (doR R (runR R (ds.take i)).rows (runR R (ds.take i)).s ds[i]).2.2), .ref v])
        obtain ⟨L10, ao10, w10⟩ := sw10.w
        refine nxt (s8.trans (s9.trans s10)) (w10.perm pmx.symm) ⟨L10, ?_, ?_, ?_⟩
        · rw [runR_succ hdi]; exact ao10
        · rw [runR_succ hdi]; rfl
        · rw [runR_succ hdi]
          exact (ra.mono (s8.trans (s9.trans s10))).snoc (.tup hq10 (.cons (.str _) (.cons (view_rp (s10 _ _ hv) (s10 _ _ hl)) .nil)))
      · rintro D H' I' acc M' sb w' ⟨L, ao, rfl, ra⟩ _
        have e8 : ds.take (zs.map Prod.fst).length = ds := List.take_of_length_le (by rw [List.length_map]; omega)
        rw [e8] at ao w' ra
        have sw : SW K I' H' ad R (runR R ds).rows (runR R ds).s ((D, .lst acc) :: M) := .of ao (w'.perm pmx)
        obtain ⟨I8, s8, sw8, hD⟩ := sw.frz
        obtain ⟨vs8, hx8, _⟩ := sw8.asker
        unfold oAsker at hx8
        simp! [hx8, no_Asker_log]
        refine sw8.m_log fun I9 H9 v s9 sw9 rv => ?_
        refine ⟨two_le, fun q hq => ?_⟩
        obtain ⟨I10, s10, sw10, hq10⟩ := sw9.mkI hq (.tup [.ref D, v])
        exact hQ I10 _ _ (s57.trans (sb.trans (s8.trans (s9.trans s10)))) sw10.drop (.tup hq10 (.cons (.lst ((s9.trans s10) _ _ hD) (ra.mono (s8.trans (s9.trans s10)))) (.cons (rv.mono s10) .nil)))
theorem rp_list {I : Hp} {v : V} {ds : List PyData} (h : Rp I v (.list ds)) : ∃ p vs, v = .ref p ∧ I p = some (.lst vs) ∧ RpAll I vs ds := by
  cases h with
  | lst h1 h2 => exact ⟨_, _, rfl, h1, h2⟩
theorem rp_lgP {I : Hp} {v : V} {x : Lg} (h : Rp I v (lgD x)) : ∃ p vs, v = .ref p ∧ I p = some (.tup (.str (lgW x) :: vs)) := by
  cases x <;> (unfold lgD at h; cases h with
    | tup h1 h2 => cases h2 with
      | cons a b => cases a; exact ⟨_, _, rfl, h1⟩)
theorem fm_mapP {α β : Type} {l : List α} {g : α → β} : (List.range l.length).filterMap (fun i => (l[i]?).map g) = l.map g := by
  rw [fm_list (g := fun a => some (g a)) (fun i a h => by rw [h]; rfl)]; simp
theorem nd_leP {α : Type} [DecidableEq α] : ∀ {l m : List α}, l.Nodup → (∀ x ∈ l, x ∈ m) → l.length ≤ m.length
  | [], _, _, _ => Nat.zero_le _
  | x :: l, m, nd, h => by
    rw [List.nodup_cons] at nd
    have hx := h x List.mem_cons_self
    have := nd_leP (l := l) (m := m.erase x) nd.2 fun y hy => (List.mem_erase_of_ne (show y ≠ x from fun e => nd.1 (by rw [← e]; exact hy))).mpr (h y (List.mem_cons_of_mem _ hy))
    rw [List.length_erase_of_mem hx] at this
    have := List.length_pos_of_mem hx
    rw [List.length_cons]; omega
theorem atI0 {x : V} {xs : List V} : atI (x :: xs) 0 = some x := atN (i := 0) rfl
theorem countW (ws : List Str) (w : Str) : (ws.map V.str).countP (fun z => eqV z (.str w)) = ws.countP fun z => decide (z = w) := by
  rw [List.countP_map]
  refine List.countP_congr fun x _ => ?_
  show eqV (.str x) (.str w) = true ↔ decide (x = w) = true
  unfold eqV; simp
theorem flatW (ws : List Str) : (ws.map V.str).all flatV = true := List.all_eq_true.mpr fun v hv => by obtain ⟨x, _, rfl⟩ := List.mem_map.mp hv; rfl
section
variable {I H : Hp} {M : List (Addr × HO)} {Q : VK} {σ : L2.St}
/-- [line[0] for line in log] -/
theorem comp_words {l : Addr} {vs : List V} {lg : List Lg} {j : Nat} (w : W I H M) (hl : I l = some (.lst vs)) (rv : RpAll I vs (lg.map lgD)) (few : lg.length < 3000) (hj : ∀ x, wipe ((wipe σ [j]).set j x) [j] = wipe σ [j]) (hjj : ∀ x : V, ((wipe σ [j]).set j (some x))[j]? = some (some x))
    (q : ∀ I' H' D, Sub I I' → W I' H' M → I' D = some (.lst ((lg.map lgW).map V.str)) → Q (.ref D) H') :
    CompW (fun H => H l = some (.lst vs)) vs.length (fun i x => vs[i]? = some x) (gName j) tYes (tOp gIxT (tVar j) (tC (.int 0))) [j] σ H Q := by
  obtain ⟨zs, rfl, e2, en⟩ := enc_of rv
  have zl : zs.length = lg.length := by rw [e2, List.length_map]
  refine comp_pure (fun i => (zs[i]?).map fun z => V.str (lgW z.2)) w (by rw [List.length_map]; omega) (fun _ _ _ w' => w'.sub _ _ hl) ?_ ?_
  · rintro D i x acc H' T F hi hx w' kT kF
    rw [List.getElem?_map, Option.map_eq_some_iff] at hx
    obtain ⟨z, hz, rfl⟩ := hx
    obtain ⟨p, vs, hp, hp2⟩   := rp_lgP (en z (List.mem_of_getElem? hz))
    have hp3 := w'.sub _ _ hp2
    refine ⟨hj _, ?_⟩
    simp! [hjj, hp, hp3, atI0]
    exact kT _ _ (by rw [hz]; rfl) w'
  · intro D H' w'
    have e3 : (List.range (zs.map Prod.fst).length).filterMap (fun i => (zs[i]?).map fun z => V.str (lgW z.2)) = (lg.map lgW).map V.str := by
      rw [List.length_map, e2, List.map_map, List.map_map, fm_mapP]
      rfl
    rw [e3] at w'
    obtain ⟨I', s', w2, hD⟩ := w'.frz
    exact q I' H' D s' w2 hD
/-- [(word, words.count(word)) for word in sorted(set(words))] -/
theorem comp_counts {l D : Addr} {ws m : List Str} {j jw : Nat} (w : W I H M) (hl : I l = some (.lst ((srtS m).map V.str))) (hD : I D = some (.lst (ws.map V.str))) (few : m.length < 3000) (hj : ∀ x, wipe ((wipe σ [j]).set j x) [j] = wipe σ [j]) (hjj : ∀ x : V, ((wipe σ [j]).set j (some x))[j]? = some (some x)) (hw : ∀ x : V, ((wipe σ [j]).set j (some x))[jw]? = some (some (.ref D)))
    (q : ∀ I' H' v, Sub I I' → W I' H' M → Rp I' v (cntD ws m) → Q v H') :
    CompW (fun H => H l = some (.lst ((srtS m).map V.str))) ((srtS m).map V.str).length (fun i x => ((srtS m).map V.str)[i]? = some x) (gName j) tYes (tTup (tCons (tVar j) (tCons (fBM "list" gCnt (tVar jw) (tCons (tVar j) (tNil))) (tNil)))) [j] σ H Q := by
  have sl : (srtS m).length = m.length := by unfold srtS; rw [List.length_mergeSort]
  refine comp_data (fun x : Str => PyData.tuple [.str x, .int ((ws.countP fun z => decide (z = x) : Nat) : Int)]) (fun i => (srtS m)[i]?) w (by rw [List.length_map, sl]; omega) (fun I' _ _ _ sb w' => w'.sub _ _ (sb _ _ hl)) ?_ ?_
  · rintro D2 i x acc I' H' T F hi hx sb w' kT kF
    rw [List.getElem?_map, Option.map_eq_some_iff] at hx
    obtain ⟨z, hz, rfl⟩ := hx
    have hD' := w'.sub _ _ (sb _ _ hD)
    refine ⟨hj _, ?_⟩
    simp! [hjj, hw, gCnt, hD', flatW, countW]
    refine ⟨rfl, two_le, fun p hp => ?_⟩
    obtain ⟨I2, s2, w2, h2⟩ := w'.mkI hp (.tup [.str z, .int ((ws.countP fun y => decide (y = z) : Nat) : Int)])
    exact kT I2 _ _ z hz s2 w2 (.tup h2 (.cons (.str _) (.cons (.int _) .nil)))
  · intro I' D2 H' ys sb w' en e
    obtain ⟨I2, s2, w2, h2⟩ := w'.frz
    refine q I2 H' _ (sb.trans s2) w2 (.lst h2 ?_)
    have e2 : (srtS m).map (fun w => PyData.tuple [.str w, .int ((ws.countP fun z => decide (z = w) : Nat) : Int)]) = ys.map fun z => PyData.tuple [.str z.2, .int ((ws.countP fun y => decide (y = z.2) : Nat) : Int)] := by
      have e3 : ys.map Prod.snd = srtS m := by
        rw [e, List.length_map]
        have := fm_mapP (l := srtS m) (g := fun x => x)
        simpa using this
      rw [← e3, List.map_map]; rfl
    rw [e2]
    exact (en.mono s2).all
end
theorem pure_counts : ∀ vs H Q E, sp_counts K vs H Q E → t_counts K E { nx := fun _ H2 => Q .non H2, rt := Q } (L2.start nn_counts vs) H := by
  rintro vs H Q E ⟨I, M, v, lg, rfl, w, rv, few, hQ⟩
  obtain ⟨l, vs, rfl, hl, ra⟩ := rp_list rv
  have hl1 := w.sub _ _ hl
  unfold t_counts
  simp! [hl1]
  refine comp_words w hl ra few (fun _ => rfl) (fun _ => rfl) fun I1 H1 D s1 w1 hD => ?_
  have hD1 := w1.sub _ _ hD
  simp! [fSortS]
  refine ⟨lg.map lgW, hD1, by rw [List.length_map]; exact few, fun a p2 o m ha hp2 nd mem => ?_⟩
  have w2 := ((w1.skip (o := o) ha).newM (o := .lst ((srtS m).map V.str)) hp2)
  obtain ⟨I3, s3, w3, h3⟩ := w2.frz
  have few2 : m.length < 3000 := by
    have : m.length ≤ (lg.map lgW).length := nd_leP nd fun x hx => (mem x).mp hx
    rw [List.length_map] at this
    omega
  refine comp_counts w3 h3 (s3 _ _ hD) few2 (fun _ => rfl) (fun _ => rfl) (fun _ => rfl) fun I4 H4 v s4 w4 r4 => ?_
  exact hQ I4 H4 v m (s1.trans (s3.trans s4)) w4 nd mem r4
theorem str_ext {a b : Str} (h : a.cps.toList = b.cps.toList) : a = b := by
  obtain ⟨a⟩ := a
  obtain ⟨b⟩ := b
  exact congrArg Str.mk (Array.toList_inj.mp h)
theorem srt_same {m m' xs : List Str} (nd : m.Nodup) (nd' : m'.Nodup) (h : ∀ x, x ∈ m ↔ x ∈ xs) (h' : ∀ x, x ∈ m' ↔ x ∈ xs) : srtS m = srtS m' :=
  sortE_perm (e := fun a : Str => PyData.str a) (fun a b e => by injection e with e1 _; injection e1 with e2; exact str_ext e2) ((List.perm_ext_iff_of_nodup nd nd').mpr fun x => (h x).trans (h' x).symm)
end
end TA

set_option linter.all false
set_option maxRecDepth 100000
set_option maxHeartbeats 2000000
/-! Deeds and rules drawn. -/
namespace TA
open PySem L2 PyProof.Rows
open SX (S S_len S_inj S_cat S_tl)
local macro_rules | `(tactic| simp! [$as,*]) => `(tactic| first | simp only [L2.start, tSeq, tAsg, tOp, fFld, tVar, gIxL, gIxT, tCB, tCons, tNil, gLenL, gLenT, gLenS, rI, rI0, fSet, tIfS, tTest, tB, rNotN, rIsN, rEq, rNe, tC, tDrop, fBM, fBM0, gTy, rAppend, tTup, tLst, tRet, tRetN, tNext, gName, fTup, gCons, gNil, tCall, fCallS, fMeth, tMeth, fMethS, fMake, tMake, fMakeS, tUn, rU, tAnd, tOr, tNot, tAndV, tOrV, tNotV, tIf, tChain, gListL, gListT, tSl, tNoPart, tPart, gSlL, fRaise, gStrI, gCatS, gMin2, gMax2, gIntB, tYes, fLcL, fLcT, fLcS, fLcR1, fForL, fForR1, fForR2, fRev, fGetI, gGetI, gInI, gLenI, fPutI, fNewI,
  List.map_cons, List.map_nil, List.length_cons, List.length_nil, List.replicate, List.cons_append, List.nil_append, List.append_nil, List.getElem?_cons_zero, List.getElem?_cons_succ, List.set_cons_zero, List.set_cons_succ, reduceIte, Bool.not_true, Bool.not_false, Nat.reduceAdd, Nat.reduceSub, Bool.false_eq_true, eq_self,
  Option.some.injEq, V.int.injEq, V.ref.injEq, V.str.injEq, V.bl.injEq, HO.ins.injEq, HO.lst.injEq, HO.tup.injEq, HO.dK.injEq, List.cons.injEq, and_assoc, exists_eq_left', exists_and_left, and_true, true_and, true_or, or_true, false_or, or_false, exists_eq_left, exists_eq_right, exists_eq_right', exists_eq, exists_eq', exists_const, upd_same, sc_ii, sc_ss, sc_bb, sc_in, sc_ni, sc_ns, sc_sn, sc_nn, $as,*] | skip)
def sp__law_deed (K : PySem.W.Frag) : Sp := fun vs H Q _ => ∃ (I : Hp) (a t : Addr) (n : Nat) (M : List (Addr × HO)), vs = [.ref a, .ref t] ∧ Dr K I H a t n M ∧ n < 800000 ∧
  ∀ (I' H' : Hp) (p : Addr) (d : Deed), Sub I I' → deedE d = none → Dr K I' H' a t (n + 12) M → I' p = some (.tup (ddV d.dd)) → Q (.ref p) H'
def sp__law_rulesP (K : PySem.W.Frag) : Sp := fun vs H Q _ => ∃ (I : Hp) (a t : Addr) (n : Nat) (M : List (Addr × HO)), vs = [.ref a, .ref t] ∧ Dr K I H a t n M ∧ n < 800000 ∧
  ∀ (I' H' : Hp) (p pd ps pr : Addr) (R : Rul), Sub I I' → roadOk R.ds = true → R.ds.length ≤ 100 → shelfOk R.most R.term = true → rulesOk R = true → Dr K I' H' a t (n + 20) M → I' p = some (.tup [.ref pd, .ref ps, .ref pr]) → I' pd = some (.lst (R.ds.map delV)) →
    I' ps = some (.tup [.int R.most, .int R.term]) → I' pr = some (.tup [.int R.many, .int R.pause, .int R.asks, .int R.pat]) → Q (.ref p) H'
def t__law_deed (K : PySem.W.Frag) (E : XK) : TS := tSeq (tAsg (tCall (sp__law_draw K) [] E (tCons (tVar 0) (tCons (tVar 1) (tCons (tC (.int 11)) (tNil))))) (gName 2)) (tSeq (tIfS (tTest (tOp (rI0 fun i j => .bl (decide (i < j))) (tVar 2) (tC (.int 3)))) (tRet (tTup (tCons (tC (.str "key")) (tCons (tCall (sp__law_pick K) [] E (tCons (tVar 0) (tCons (tVar 1) (tCons (tLst (tCons (tC (.str "a")) (tCons (tC (.str "b")) (tCons (tC (.str "A")) (tCons (tC (.str " ")) (tCons (tC (.str "c")) (tCons (tC (.str "")) (tCons (tC (.str "ab")) (tNil))))))))) (tNil))))) (tNil))))) (tNext)) (tSeq (tIfS (tTest (tOp (rI0 fun i j => .bl (decide (i < j))) (tVar 2) (tC (.int 6)))) (tRet (tTup (tCons (tC (.str "tick")) (tCons (tCall (sp__law_pick K) [] E (tCons (tVar 0) (tCons (tVar 1) (tCons (tLst (tCons (tC (.int 0)) (tCons (tC (.int 1)) (tCons (tC (.int 2)) (tCons (tC (.int 5)) (tCons (tC (.int 9)) (tCons (tC (.int 100)) (tCons (tC (.int 101)) (tCons (tC (.int 999)) (tNil)))))))))) (tNil))))) (tNil))))) (tNext)) (tSeq (tIfS (tTest (tOp (rEq) (tVar 2) (tC (.int 6)))) (tRet (tTup (tCons (tC (.str "put")) (tCons (tCall (sp__law_pick K) [] E (tCons (tVar 0) (tCons (tVar 1) (tCons (tLst (tCons (tCall (sp__law_query K) [] E (tCons (tVar 0) (tCons (tVar 1) (tNil)))) (tCons (tC (.str "abcabcabcabca")) (tCons (tOp (gRepS) (tC (.str "x")) (tC (.int 40))) (tNil))))) (tNil))))) (tNil))))) (tNext)) (tSeq (tIfS (tTest (tOp (rEq) (tVar 2) (tC (.int 7)))) (tRet (tCall (sp__law_pick K) [] E (tCons (tVar 0) (tCons (tVar 1) (tCons (tLst (tCons (tTup (tCons (tC (.str "rub")) (tNil))) (tCons (tTup (tCons (tC (.str "again")) (tNil))) (tNil)))) (tNil)))))) (tNext)) (tSeq (tIfS (tTest (tOp (rI0 fun i j => .bl (decide (i < j))) (tVar 2) (tC (.int 10)))) (tRet (tTup (tCons (tC (.str "add")) (tCons (tCall (sp__law_pick K) [] E (tCons (tVar 0) (tCons (tVar 1) (tCons (tLst (tCons (tCall (sp__law_row K) [] E (tCons (tVar 0) (tCons (tVar 1) (tNil)))) (tCons (tC (.str "ab")) (tCons (tC (.str "")) (tCons (tC (.str " ")) (tCons (tOp (gRepS) (tC (.str "x")) (tC (.int 21))) (tNil))))))) (tNil))))) (tNil))))) (tNext)) (tRet (tTup (tCons (tC (.str "remove")) (tCons (tCall (sp__law_pick K) [] E (tCons (tVar 0) (tCons (tVar 1) (tCons (tLst (tCons (tC (.str "ab")) (tCons (tC (.str "a")) (tCons (tC (.str "qq")) (tCons (tCall (sp__law_row K) [] E (tCons (tVar 0) (tCons (tVar 1) (tNil)))) (tNil)))))) (tNil))))) (tNil))))))))))
abbrev nn__law_deed : List Str := ["script", "town", "kind"]
def t__law_rulesP (K : PySem.W.Frag) (E : XK) : TS := tSeq (tAsg (fLcR1 (tCons (tOp (rI0 fun i j => .int (i + j)) (tC (.int 1)) (tCall (sp__law_draw K) [] E (tCons (tVar 0) (tCons (tVar 1) (tCons (tC (.int 4)) (tNil)))))) (tNil)) (gName 5) (tYes) (tCall (sp__law_pick K) [] E0 (tCons (tVar 0) (tCons (tVar 1) (tCons (tLst (tCons (tC (.int 1)) (tCons (tC (.int 2)) (tCons (tC (.int 5)) (tCons (tC (.int 30)) (tCons (tC .non) (tNil))))))) (tNil))))) [5]) (gName 2)) (tSeq (tAsg (tTup (tCons (tCall (sp__law_draw K) [] E (tCons (tVar 0) (tCons (tVar 1) (tCons (tC (.int 7)) (tNil))))) (tCons (tCall (sp__law_pick K) [] E (tCons (tVar 0) (tCons (tVar 1) (tCons (tLst (tCons (tC (.int 1)) (tCons (tC (.int 5)) (tCons (tC (.int 60)) (tNil))))) (tNil))))) (tNil)))) (gName 3)) (tSeq (tAsg (tTup (tCons (tOp (rI0 fun i j => .int (i + j)) (tC (.int 1)) (tCall (sp__law_draw K) [] E (tCons (tVar 0) (tCons (tVar 1) (tCons (tC (.int 6)) (tNil)))))) (tCons (tCall (sp__law_draw K) [] E (tCons (tVar 0) (tCons (tVar 1) (tCons (tC (.int 5)) (tNil))))) (tCons (tOp (rI0 fun i j => .int (i + j)) (tC (.int 1)) (tCall (sp__law_draw K) [] E (tCons (tVar 0) (tCons (tVar 1) (tCons (tC (.int 3)) (tNil)))))) (tNil))))) (gName 4)) (tRet (tTup (tCons (tVar 2) (tCons (tVar 3) (tCons (tOp (gCatT) (tVar 4) (tTup (tCons (tCall (sp__law_pick K) [] E (tCons (tVar 0) (tCons (tVar 1) (tCons (tLst (tCons (tC (.int 1)) (tCons (tC (.int 4)) (tCons (tC (.int 40)) (tNil))))) (tNil))))) (tNil)))) (tNil))))))))
abbrev nn__law_rulesP : List Str := ["script", "town", "delays", "shelf", "rules", "k"]
section
variable {K : PySem.W.Frag}
theorem len__law_deed : ∀ vs H Q E, sp__law_deed K vs H Q E → vs.length = ["script", "town"].length := by
  rintro _ _ _ _ ⟨_, _, _, _, _, rfl, _⟩; rfl
theorem len__law_rulesP : ∀ vs H Q E, sp__law_rulesP K vs H Q E → vs.length = ["script", "town"].length := by
  rintro _ _ _ _ ⟨_, _, _, _, _, rfl, _⟩; rfl
theorem Dr.mkIP {I H : Hp} {a t p : Addr} {n : Nat} {M : List (Addr × HO)} (d : Dr K I H a t n M) (hp : H p = none) (o : HO) : ∃ I', Sub I I' ∧ Dr K I' (upd H p o) a t n M ∧ I' p = some o := ⟨upd I p o, Sub.new (d.noI hp), d.newI hp, upd_same⟩
theorem ok_arE {l : Tx} (h : okL 40 l = true) : arE (.tx l) = none := by rw [arE_txE, if_pos h]
theorem mulOkP (x : Str) (n : Int) (h1 : x.length = 1) (h2 : 1 ≤ n) (h3 : n ≤ 100) : MulOk x n := by
  refine ⟨?_, fun _ _ => ?_, fun _ _ => ?_⟩
  · rw [decide_eq_false (by omega), decide_eq_false (by omega)]; rfl
  · rw [h1]
    have : 1 ≤ ((2 : Int) ^ 63 - 1) / n := by
      rw [Int.le_ediv_iff_mul_le (by omega)]; omega
    omega
  · rw [h1]
    have := line_big
    unfold Builtin.Str.tooLong
    simp
    omega
theorem use_pick {I H : Hp} {a t l : Addr} {n : Nat} {M : List (Addr × HO)} {xs : List V} {Q : VK} {E : XK} (d : Dr K I H a t n M) (hn : n < 1000000) (hl : I l = some (.lst xs)) (hx : xs ≠ []) (q : ∀ (x : V) (H' : Hp), x ∈ xs → Dr K I H' a t (n + 1) M → Q x H') : sp__law_pick K [.ref a, .ref t, .ref l] H Q E :=
  ⟨I, a, t, l, n, _, xs, rfl, d, hn, fun H' h => h.elim (fun d => d.sub _ _ hl) (fun d => d.sub _ _ hl), hx, q⟩
theorem pure__law_deed : ∀ vs H Q E, sp__law_deed K vs H Q E → t__law_deed K E { nx := fun _ H2 => Q .non H2, rt := Q } (L2.start nn__law_deed vs) H := by
  rintro vs H Q E ⟨I, a, t, n, M, rfl, d, hn, hQ⟩
  have hb := line_big
  have ex40 : Txt.mul (Str.ofString "x") 40 = S (List.replicate 40 120) := by kernel_rfl
  have ex21 : Txt.mul (Str.ofString "x") 21 = S (List.replicate 21 120) := by kernel_rfl
  unfold t__law_deed
  simp! [and_true]
  refine ⟨I, a, t, n, M, 11, rfl, d, by omega, by decide, fun k H1 k0 k1 d1 => ?_⟩
  simp! [and_true]
  have fin2 : ∀ (w : Str) (mk : Tx → Deed), (∀ l, (mk l).dd = .one w (.tx l)) → (∀ l, deedE (mk l) = arE (.tx l)) → ∀ (I2 H2 : Hp) (m : Nat) (l : Tx), Sub I I2 → okL 40 l = true → Dr K I2 H2 a t m M → m ≤ n + 12 → 2 ≤ sizeLine ∧ ∀ p, H2 p = none → Q (.ref p) (upd H2 p (.tup [.str w, sV l])) := by
    intro w mk e1 e2 I2 H2 m l s2 ok d2 hm
    refine ⟨two_le, fun p hp => ?_⟩
    obtain ⟨I3, s3, d3, h3⟩ := d2.mkIP hp (.tup [.str w, sV l])
    exact hQ I3 _ p (mk l) (s2.trans s3) (by rw [e2]; exact ok_arE ok) (d3.le hm) (by rw [e1]; exact h3)
  by_cases c1 : k < 3
  · refine ite_t c1 ⟨by omega, fun p hp => ?_⟩
    obtain ⟨I2, s2, d2, h2⟩ := d1.mkIP hp (.lst ((["a", "b", "A", " ", "c", "", "ab"] : List Str).map V.str))
    refine use_pick d2 (by omega) h2 (by simp) fun x H3 hx d3 => ?_
    obtain ⟨l, rfl, ok⟩ := mem_texts (n := 40) (by decide +kernel) hx
    exact fin2 "key" .key (fun _ => rfl) (fun _ => rfl) I2 H3 _ l s2 ok d3 (by omega)
  refine ite_f c1 ?_
  by_cases c2 : k < 6
  · refine ite_t c2 ⟨by omega, fun p hp => ?_⟩
    obtain ⟨I2, s2, d2, h2⟩ := d1.mkIP hp (.lst [.int 0, .int 1, .int 2, .int 5, .int 9, .int 100, .int 101, .int 999])
    refine use_pick d2 (by omega) h2 (by simp) fun x H3 hx d3 => ?_
    have hx : ∃ i : Int, x = .int i ∧ 0 ≤ i ∧ i ≤ 999 := by
      simp only [List.mem_cons, List.not_mem_nil, or_false] at hx
      rcases hx with rfl | rfl | rfl | rfl | rfl | rfl | rfl | rfl <;> exact ⟨_, rfl, by decide, by decide⟩
    obtain ⟨i, rfl, i0, i1⟩ := hx
    refine ⟨two_le, fun p hp => ?_⟩
    obtain ⟨I4, s4, d4, h4⟩ := d3.mkIP hp (.tup [.str "tick", .int i])
    exact hQ I4 _ p (.tick i) (s2.trans s4) (by show arE (.nm i) = none; rw [arE_nmE, if_pos ⟨i0, i1⟩]) (d4.le (by omega)) h4
  refine ite_f c2 ?_
  by_cases c3 : k = 6
  · refine ite_t c3 ⟨I, a, t, _, _, rfl, d1, by omega, fun l H2 ok d2 => ?_⟩
    simp! [gRepS]
    rw [ex40]
    refine ⟨mulOkP _ _ rfl (by decide) (by decide), by omega, fun p hp => ?_⟩
    obtain ⟨I2, s2, d3, h2⟩ := d2.mkIP hp (.lst [sV l, .str "abcabcabcabca", sV (List.replicate 40 120)])
    refine use_pick d3 (by omega) h2 (by simp) fun x H3 hx d4 => ?_
    have hx : ∃ l, x = sV l ∧ okL 40 l = true := by
      simp only [List.mem_cons, List.not_mem_nil, or_false] at hx
      rcases hx with rfl | rfl | rfl
      · exact ⟨l, rfl, okL_le ok (by decide)⟩
      · obtain ⟨l, e, ok⟩ := mem_texts (n := 40) (xs := ["abcabcabcabca"]) (x := .str "abcabcabcabca") (by decide +kernel) (by simp)
        exact ⟨l, e, ok⟩
      · exact ⟨_, rfl, by decide +kernel⟩
    obtain ⟨l, rfl, ok⟩ := hx
    exact fin2 "put" .put (fun _ => rfl) (fun _ => rfl) I2 H3 _ l s2 ok d4 (by omega)
  refine ite_f c3 ?_
  by_cases c4 : k = 7
  · refine ite_t c4 ⟨by omega, fun p hp => ?_⟩
    obtain ⟨I2, s2, d2, h2⟩ := d1.mkIP hp (.tup [.str "rub"])
    refine ⟨by omega, fun p3 hp3 => ?_⟩
    obtain ⟨I3, s3, d3, h3⟩ := d2.mkIP hp3 (.tup [.str "again"])
    refine ⟨by omega, fun p4 hp4 => ?_⟩
    obtain ⟨I4, s4, d4, h4⟩ := d3.mkIP hp4 (.lst [.ref p, .ref p3])
    refine use_pick d4 (by omega) h4 (by simp) fun x H3 hx d5 => ?_
    simp only [List.mem_cons, List.not_mem_nil, or_false] at hx
    rcases hx with rfl | rfl
    · exact hQ I4 _ p .rub (s2.trans (s3.trans s4)) rfl (d5.le (by omega)) ((s3.trans s4) _ _ h2)
    · exact hQ I4 _ p3 .again (s2.trans (s3.trans s4)) rfl (d5.le (by omega)) (s4 _ _ h3)
  refine ite_f c4 ?_
  by_cases c5 : k < 10
  · refine ite_t c5 ⟨I, a, t, _, _, rfl, d1, by omega, fun l H2 ok d2 => ?_⟩
    simp! [gRepS]
    rw [ex21]
    refine ⟨mulOkP _ _ rfl (by decide) (by decide), by omega, fun p hp => ?_⟩
    obtain ⟨I2, s2, d3, h2⟩ := d2.mkIP hp (.lst [sV l, .str "ab", .str "", .str " ", sV (List.replicate 21 120)])
    refine use_pick d3 (by omega) h2 (by simp) fun x H3 hx d4 => ?_
    have hx : ∃ l, x = sV l ∧ okL 40 l = true := by
      simp only [List.mem_cons, List.not_mem_nil, or_false] at hx
      rcases hx with rfl | hx | hx | hx | rfl
      · exact ⟨l, rfl, okL_le ok (by decide)⟩
      · obtain ⟨l, e, ok⟩ := mem_texts (n := 40) (xs := ["ab", "", " "]) (x := x) (by decide +kernel) (by simp [hx])
        exact ⟨l, e, ok⟩
      · obtain ⟨l, e, ok⟩ := mem_texts (n := 40) (xs := ["ab", "", " "]) (x := x) (by decide +kernel) (by simp [hx])
        exact ⟨l, e, ok⟩
      · obtain ⟨l, e, ok⟩ := mem_texts (n := 40) (xs := ["ab", "", " "]) (x := x) (by decide +kernel) (by simp [hx])
        exact ⟨l, e, ok⟩
      · exact ⟨_, rfl, by decide +kernel⟩
    obtain ⟨l, rfl, ok⟩ := hx
    exact fin2 "add" .add (fun _ => rfl) (fun _ => rfl) I2 H3 _ l s2 ok d4 (by omega)
  refine ite_f c5 ⟨I, a, t, _, _, rfl, d1, by omega, fun l H2 ok d2 => ?_⟩
  refine ⟨by omega, fun p hp => ?_⟩
  obtain ⟨I2, s2, d3, h2⟩ := d2.mkIP hp (.lst [.str "ab", .str "a", .str "qq", sV l])
  refine use_pick d3 (by omega) h2 (by simp) fun x H3 hx d4 => ?_
  have hx : ∃ l, x = sV l ∧ okL 40 l = true := by
    simp only [List.mem_cons, List.not_mem_nil, or_false] at hx
    rcases hx with hx | hx | hx | rfl
    · obtain ⟨l, e, ok⟩ := mem_texts (n := 40) (xs := ["ab", "a", "qq"]) (x := x) (by decide +kernel) (by simp [hx])
      exact ⟨l, e, ok⟩
    · obtain ⟨l, e, ok⟩ := mem_texts (n := 40) (xs := ["ab", "a", "qq"]) (x := x) (by decide +kernel) (by simp [hx])
      exact ⟨l, e, ok⟩
    · obtain ⟨l, e, ok⟩ := mem_texts (n := 40) (xs := ["ab", "a", "qq"]) (x := x) (by decide +kernel) (by simp [hx])
      exact ⟨l, e, ok⟩
    · exact ⟨l, rfl, okL_le ok (by decide)⟩
  obtain ⟨l, rfl, ok⟩ := hx
  exact fin2 "remove" .rem (fun _ => rfl) (fun _ => rfl) I2 H3 _ l s2 ok d4 (by omega)
theorem pure__law_rulesP : ∀ vs H Q E, sp__law_rulesP K vs H Q E → t__law_rulesP K E { nx := fun _ H2 => Q .non H2, rt := Q } (L2.start nn__law_rulesP vs) H := by
  rintro vs H Q E ⟨I, a, t, n, M, rfl, d, hn, hQ⟩
  have hb := line_big
  unfold t__law_rulesP
  simp! [and_true]
  refine ⟨I, a, t, n, M, 4, rfl, d, by omega, by decide, fun k H1 k0 k1 d1 => ?_⟩
  simp! [and_true]
  refine ⟨by omega, by omega, ?_⟩
  refine comp_draw (β := Option Int) 1 (fun _ v b => v = delV b ∧ delOk b = true) (fun _ h => h) d1 (by omega) (fun _ _ _ _ _ _ _ => trivial) ?_ ?_
  · rintro D i x acc I' H' T F hi rfl sb D7 kT
    simp! [wipe]
    refine ⟨by omega, fun p hp => ?_⟩
    obtain ⟨I2, s2, d2, h2⟩ := D7.mkIP hp (.lst [.int 1, .int 2, .int 5, .int 30, .non])
    refine use_pick d2 (by omega) h2 (by simp) fun x H3 hx d3 => ?_
    have hx : ∃ b, x = delV b ∧ delOk b = true := by
      simp only [List.mem_cons, List.not_mem_nil, or_false] at hx
      rcases hx with rfl | rfl | rfl | rfl | rfl
      · exact ⟨some 1, rfl, by decide⟩
      · exact ⟨some 2, rfl, by decide⟩
      · exact ⟨some 5, rfl, by decide⟩
      · exact ⟨some 30, rfl, by decide⟩
      · exact ⟨none, rfl, by decide⟩
    obtain ⟨b, rfl, ok⟩ := hx
    exact kT I2 H3 _ b s2 ⟨rfl, ok⟩ d3
  · intro I2 D H2 zs s2 hzl hz d2
    have e5 : zs.map Prod.fst = (zs.map Prod.snd).map delV := by
      rw [List.map_map]
      exact List.map_congr_left fun z hzz => (hz z hzz).1
    rw [e5] at d2
    have d3 := d2.freeze
    have s3 := Sub.new (o := .lst ((zs.map Prod.snd).map delV)) (d2.out (D, _) List.mem_cons_self)
    have hD : upd I2 D (.lst ((zs.map Prod.snd).map delV)) D = some (.lst ((zs.map Prod.snd).map delV)) := upd_same
    generalize upd I2 D (.lst ((zs.map Prod.snd).map delV)) = I3 at d3 s3 hD
    simp! [and_true]
    refine ⟨I3, a, t, _, M, 7, rfl, d3, by omega, by decide, fun mo H4 mo0 mo1 d4 => ?_⟩
    refine ⟨by omega, fun p hp => ?_⟩
    obtain ⟨I5, s5, d5, h5⟩ := d4.mkIP hp (.lst [.int 1, .int 5, .int 60])
    refine use_pick d5 (by omega) h5 (by simp) fun x H6 hx d6 => ?_
    have hx : ∃ te : Int, x = .int te ∧ 1 ≤ te ∧ te ≤ 60 := by
      simp only [List.mem_cons, List.not_mem_nil, or_false] at hx
      rcases hx with rfl | rfl | rfl <;> exact ⟨_, rfl, by decide, by decide⟩
    obtain ⟨te, rfl, te0, te1⟩ := hx
    refine ⟨two_le, fun p2 hp2 => ?_⟩
    obtain ⟨I7, s7, d7, h7⟩ := d6.mkIP hp2 (.tup [.int mo, .int te])
    refine ⟨I7, a, t, _, M, 6, rfl, d7, by omega, by decide, fun m1 H8 m10 m11 d8 => ?_⟩
    simp! [and_true]
    refine ⟨I7, a, t, _, M, 5, rfl, d8, by omega, by decide, fun pa H9 pa0 pa1 d9 => ?_⟩
    refine ⟨I7, a, t, _, M, 3, rfl, d9, by omega, by decide, fun ak H10 ak0 ak1 d10 => ?_⟩
    simp! [and_true]
    refine ⟨three_le, fun p3 hp3 => ?_⟩
    obtain ⟨I11, s11, d11, h11⟩ := d10.mkIP hp3 (.tup [.int (1 + m1), .int pa, .int (1 + ak)])
    refine ⟨by omega, fun p4 hp4 => ?_⟩
    obtain ⟨I12, s12, d12, h12⟩ := d11.mkIP hp4 (.lst [.int 1, .int 4, .int 40])
    refine use_pick d12 (by omega) h12 (by simp) fun x H13 hx d13 => ?_
    have hx : ∃ pt : Int, x = .int pt ∧ 1 ≤ pt ∧ pt ≤ 40 := by
      simp only [List.mem_cons, List.not_mem_nil, or_false] at hx
      rcases hx with rfl | rfl | rfl <;> exact ⟨_, rfl, by decide, by decide⟩
    obtain ⟨pt, rfl, pt0, pt1⟩ := hx
    refine ⟨one_le, fun p5 hp5 => ?_⟩
    obtain ⟨I14, s14, d14, h14⟩ := d13.mkIP hp5 (.tup [.int pt])
    refine ⟨p3, p5, _, _, rfl, rfl, d14.sub _ _ ((s12.trans s14) _ _ h11), d14.sub _ _ h14, by simp, by simp, by simp; omega, fun p6 hp6 => ?_⟩
    obtain ⟨I15, s15, d15, h15⟩ := d14.mkIP hp6 (.tup [.int (1 + m1), .int pa, .int (1 + ak), .int pt])
    refine ⟨three_le, fun p7 hp7 => ?_⟩
    obtain ⟨I16, s16, d16, h16⟩ := d15.mkIP hp7 (.tup [.ref D, .ref p2, .ref p6])
    have s1116 := s11.trans (s12.trans (s14.trans (s15.trans s16)))
    have s316 := s5.trans (s7.trans s1116)
    refine hQ I16 _ p7 D p2 p6 ⟨1 + m1, pa, 1 + ak, pt, zs.map Prod.snd, mo, te⟩ (s2.trans (s3.trans s316)) ?_ ?_ ?_ ?_ (d16.le (by omega)) h16 (s316 _ _ hD) (s1116 _ _ h7) (s16 _ _ h15)
    · show roadOk (zs.map Prod.snd) = true
      unfold roadOk
      simp only [Bool.and_eq_true, decide_eq_true_eq, List.all_eq_true, List.length_map]
      refine ⟨⟨by omega, by omega⟩, fun x hx => ?_⟩
      obtain ⟨z, hzz, rfl⟩ := List.mem_map.mp hx
      exact (hz z hzz).2
    · show (zs.map Prod.snd).length ≤ 100
      rw [List.length_map]; omega
    · show shelfOk mo te = true
      unfold shelfOk; simp; omega
    · unfold rulesOk manyOk
      simp only [Bool.and_eq_true, decide_eq_true_eq]
      omega
end
end TA

set_option linter.all false
set_option maxRecDepth 100000
set_option maxHeartbeats 2000000
/-! Diaries as texts, plain. -/
namespace TA
open PySem L2 PyProof.Rows
open SX (S S_len S_inj S_cat S_tl)
def putT : Tx := [112, 117, 116]
def keyT : Tx := [107, 101, 121]
def rubT : Tx := [114, 117, 98]
def tickT : Tx := [116, 105, 99, 107]
def againT' : Tx := [97, 103, 97, 105, 110]
def addT : Tx := [97, 100, 100]
def remT : Tx := [114, 101, 109, 111, 118, 101]
theorem lit_put : ("put" : Str) = S putT := by kernel_rfl
theorem lit_key : ("key" : Str) = S keyT := by kernel_rfl
theorem lit_rub : ("rub" : Str) = S rubT := by kernel_rfl
theorem lit_tick : ("tick" : Str) = S tickT := by kernel_rfl
theorem lit_again : ("again" : Str) = S againT' := by kernel_rfl
theorem lit_add : ("add" : Str) = S addT := by kernel_rfl
theorem lit_rem : ("remove" : Str) = S remT := by kernel_rfl
/-- a deed's word, the rest of its row -/
def Deed.w : Deed → Tx
  | .put _ => putT
  | .key _ => keyT
  | .rub => rubT
  | .tick _ => tickT
  | .again => againT'
  | .add _ => addT
  | .rem _ => remT
def Deed.r : Deed → Option Tx
  | .put l => some l
  | .key l => some l
  | .rub => none
  | .tick n => some (TL.numL n.toNat)
  | .again => none
  | .add l => some l
  | .rem l => some l
def rowT (d : Deed) : Tx := match d.r with
  | none => d.w
  | some l => d.w ++ 32 :: l
def textL (ds : List Deed) : Tx := TL.joinL [10] (ds.map rowT)
/-- cut at the first blank -/
def cutSp : Tx → Option (Tx × Tx)
  | [] => none
  | c :: r => if c = 32 then some ([], r) else (cutSp r).map fun p => (c :: p.1, p.2)
theorem cut_at : ∀ {w rest : Tx}, 32 ∉ w → cutSp (w ++ 32 :: rest) = some (w, rest)
  | [], rest, _ => by simp [cutSp]
  | c :: w, rest, h => by
    have hc : ¬ c = 32 := fun e => h (by rw [e]; exact List.mem_cons_self)
    have ih := cut_at (w := w) (rest := rest) fun q => h (List.mem_cons_of_mem _ q)
    rw [List.cons_append, cutSp, if_neg hc, ih]; rfl
theorem cut_no : ∀ {r : Tx}, 32 ∉ r → cutSp r = none
  | [], _ => rfl
  | c :: r, h => by
    have hc : ¬ c = 32 := fun e => h (by rw [e]; exact List.mem_cons_self)
    rw [cutSp, if_neg hc, cut_no fun q => h (List.mem_cons_of_mem _ q)]; rfl
def digs (l : Tx) : Bool := l.all fun c => decide (48 ≤ c ∧ c ≤ 57)
def deedIn (r : Tx) : Option Deed := match cutSp r with
  | none => if r = rubT then some .rub else if r = againT' then some .again else none
  | some (w, rest) =>
    if w = tickT then if 1 ≤ rest.length ∧ rest.length ≤ 3 ∧ digs rest = true then some (.tick ((NumText.digitsVal rest : Nat) : Int)) else none
    else if okL 40 rest = true then
      if w = putT then some (.put rest) else if w = keyT then some (.key rest) else if w = addT then some (.add rest) else if w = remT then some (.rem rest) else none
    else none
def rowsOf (t : Tx) : List Tx := if t = [] then [] else TL.spl [10] 0 [] t
def insL : List Tx → Option (List Deed)
  | [] => some []
  | r :: rs => match deedIn r with
    | none => none
    | some d => (insL rs).map fun ds => d :: ds
def readL (t : Tx) : Option (List Deed) := match insL (rowsOf t) with
  | none => none
  | some ds => if textL ds = t then some ds else none
theorem digs_num (n : Nat) : digs (TL.numL n) = true := List.all_eq_true.mpr fun c hc => decide_eq_true (TL.numL_digits n c hc)
theorem val_lt : ∀ (l : Tx) (a : Nat), NumText.AllDigits l → l.foldl (fun acc c => acc * 10 + (c - 48)) a < (a + 1) * 10 ^ l.length
  | [], a, _ => by simp
  | c :: l, a, h => by
    have hc := h.head
    have ih := val_lt l (a * 10 + (c - 48)) h.tail
    rw [List.foldl_cons]
    refine Nat.lt_of_lt_of_le ih ?_
    rw [List.length_cons, Nat.pow_succ]
    have : a * 10 + (c - 48) + 1 ≤ (a + 1) * 10 := by omega
    calc (a * 10 + (c - 48) + 1) * 10 ^ l.length ≤ ((a + 1) * 10) * 10 ^ l.length := Nat.mul_le_mul_right _ this
      _ = (a + 1) * (10 ^ l.length * 10) := by rw [Nat.mul_assoc, Nat.mul_comm 10]
theorem all_dig {l : Tx} (h : digs l = true) : NumText.AllDigits l := fun c hc => of_decide_eq_true (List.all_eq_true.mp h c hc)
theorem val_999 {l : Tx} (h : digs l = true) (hl : l.length ≤ 3) : NumText.digitsVal l ≤ 999 := by
  have := val_lt l 0 (all_dig h)
  have h2 : 10 ^ l.length ≤ 10 ^ 3 := Nat.pow_le_pow_right (by decide) hl
  unfold NumText.digitsVal
  omega
theorem arE_nm {n : Int} (h : arE (.nm n) = none) : 0 ≤ n ∧ n ≤ 999 := by
  rw [arE_nmE] at h
  by_cases c : 0 ≤ n ∧ n ≤ 999
  · exact c
  · rw [if_neg c] at h; cases h
/-- what is read is a deed that can be -/
theorem deedIn_ok {r : Tx} {d : Deed} (h : deedIn r = some d) : deedE d = none := by
  unfold deedIn at h
  split at h
  · split at h
    · cases h; rfl
    · split at h
      · cases h; rfl
      · cases h
  · split at h
    · split at h
      · rename_i c
        cases h
        show arE (.nm _) = none
        rw [arE_nmE, if_pos]
        have := val_999 c.2.2 c.2.1
        omega
      · cases h
    · split at h
      · rename_i ok
        have e := ok_arE ok
        split at h
        · cases h; exact e
        · split at h
          · cases h; exact e
          · split at h
            · cases h; exact e
            · split at h
              · cases h; exact e
              · cases h
      · cases h
theorem deedIn_row {d : Deed} (h : deedE d = none) : deedIn (rowT d) = some d := by
  cases d with
  | put l =>
    have e : cutSp (rowT (.put l)) = some (putT, l) := cut_at (w := putT) (by decide)
    unfold deedIn; rw [e]
    simp only []
    rw [if_neg (by decide), if_pos (arE_tx h), if_pos trivial]
  | key l =>
    have e : cutSp (rowT (.key l)) = some (keyT, l) := cut_at (w := keyT) (by decide)
    unfold deedIn; rw [e]
    simp only []
    rw [if_neg (by decide), if_pos (arE_tx h), if_neg (by decide), if_pos trivial]
  | rub =>
    have e : cutSp (rowT .rub) = none := cut_no (by decide)
    unfold deedIn; rw [e]
    simp only []
    rw [if_pos (by rfl)]
  | tick n =>
    obtain ⟨h0, h1⟩ := arE_nm h
    have e : cutSp (rowT (.tick n)) = some (tickT, TL.numL n.toNat) := cut_at (w := tickT) (by decide)
    unfold deedIn; rw [e]
    simp only []
    rw [if_pos trivial, if_pos, TL.numL_val]
    · congr 2; omega
    · exact ⟨List.length_pos_iff.mpr (TL.numL_ne _), TL.numL_len (by decide) (by omega), digs_num _⟩
  | again =>
    have e : cutSp (rowT .again) = none := cut_no (by decide)
    unfold deedIn; rw [e]
    simp only []
    rw [if_neg (by decide), if_pos (by rfl)]
  | add l =>
    have e : cutSp (rowT (.add l)) = some (addT, l) := cut_at (w := addT) (by decide)
    unfold deedIn; rw [e]
    simp only []
    rw [if_neg (by decide), if_pos (arE_tx h), if_neg (by decide), if_neg (by decide), if_pos trivial]
  | rem l =>
    have e : cutSp (rowT (.rem l)) = some (remT, l) := cut_at (w := remT) (by decide)
    unfold deedIn; rw [e]
    simp only []
    rw [if_neg (by decide), if_pos (arE_tx h), if_neg (by decide), if_neg (by decide), if_neg (by decide), if_pos trivial]
theorem ins_ok : ∀ {rs : List Tx} {ds : List Deed}, insL rs = some ds → ∀ d ∈ ds, deedE d = none
  | [], ds, h, d, hd => by cases h; cases hd
  | r :: rs, ds, h, d, hd => by
    rw [insL] at h
    cases e : deedIn r with
    | none => rw [e] at h; cases h
    | some x =>
      rw [e] at h
      simp only [Option.map_eq_some_iff] at h
      obtain ⟨ys, hy, rfl⟩ := h
      rcases List.mem_cons.mp hd with q | q
      · rw [q]; exact deedIn_ok e
      · exact ins_ok hy d q
theorem ins_rows : ∀ {ds : List Deed}, (∀ d ∈ ds, deedE d = none) → insL (ds.map rowT) = some ds
  | [], _ => rfl
  | d :: ds, h => by
    rw [List.map_cons, insL, deedIn_row (h d List.mem_cons_self)]
    simp only []
    rw [ins_rows fun x hx => h x (List.mem_cons_of_mem _ hx)]; rfl
theorem ok_free {l : Tx} {n : Nat} (h : okL n l = true) : 10 ∉ l := fun hm => by
  have := List.all_eq_true.mp (okL_all h) 10 hm
  exact absurd this (by decide)
theorem row_free {d : Deed} (h : deedE d = none) : 10 ∉ rowT d := by
  have ap : ∀ {w l : Tx}, 10 ∉ w → 10 ∉ l → 10 ∉ w ++ 32 :: l := fun a b q => by
    rcases List.mem_append.mp q with q | q
    · exact a q
    · rcases List.mem_cons.mp q with q | q
      · cases q
      · exact b q
  cases d with
  | put l => exact ap (w := putT) (by decide) (ok_free (arE_tx h))
  | key l => exact ap (w := keyT) (by decide) (ok_free (arE_tx h))
  | rub => decide
  | tick n => exact ap (w := tickT) (by decide) (TL.numL_free (.inl (by decide)))
  | again => decide
  | add l => exact ap (w := addT) (by decide) (ok_free (arE_tx h))
  | rem l => exact ap (w := remT) (by decide) (ok_free (arE_tx h))
theorem row_ne (d : Deed) : rowT d ≠ [] := by
  cases d <;> (unfold rowT Deed.r Deed.w; simp [putT, keyT, rubT, tickT, againT', addT, remT])
theorem text_ne {d : Deed} {ds : List Deed} : textL (d :: ds) ≠ [] := by
  unfold textL
  cases ds with
  | nil => exact row_ne d
  | cons x xs =>
    rw [List.map_cons, List.map_cons, TL.joinL]
    intro q
    exact row_ne d (List.append_eq_nil_iff.mp q).1
theorem read_text {ds : List Deed} (h : ∀ d ∈ ds, deedE d = none) : readL (textL ds) = some ds := by
  have e : rowsOf (textL ds) = ds.map rowT := by
    unfold rowsOf
    cases ds with
    | nil => rfl
    | cons d ds =>
      rw [if_neg text_ne]
      exact TL.spl_join (by simp) fun p hp => by
        obtain ⟨x, hx, rfl⟩ := List.mem_map.mp hp
        exact row_free (h x hx)
  unfold readL
  rw [e, ins_rows h]
  simp only []
  rw [if_pos trivial]
theorem read_some {t : Tx} {ds : List Deed} (h : readL t = some ds) : textL ds = t ∧ ∀ d ∈ ds, deedE d = none := by
  unfold readL at h
  cases e : insL (rowsOf t) with
  | none => rw [e] at h; cases h
  | some ys =>
    rw [e] at h
    simp only [] at h
    split at h
    · rename_i c
      cases h
      exact ⟨c, ins_ok e⟩
    · cases h
theorem row_len {d : Deed} (h : deedE d = none) : (rowT d).length ≤ 50 := by
  cases d with
  | put l => have := okL_len (arE_tx h); simp [rowT, Deed.r, Deed.w, putT]; omega
  | key l => have := okL_len (arE_tx h); simp [rowT, Deed.r, Deed.w, keyT]; omega
  | rub => decide
  | tick n =>
    obtain ⟨h0, h1⟩ := arE_nm h
    have := TL.numL_len (n := n.toNat) (k := 3) (by decide) (by omega)
    simp [rowT, Deed.r, Deed.w, tickT]; omega
  | again => decide
  | add l => have := okL_len (arE_tx h); simp [rowT, Deed.r, Deed.w, addT]; omega
  | rem l => have := okL_len (arE_tx h); simp [rowT, Deed.r, Deed.w, remT]; omega
theorem join_len {k : Nat} : ∀ {ps : List Tx}, (∀ p ∈ ps, p.length ≤ k) → (TL.joinL [10] ps).length ≤ (k + 1) * ps.length
  | [], _ => by simp [TL.joinL]
  | [p], h => by have := h p List.mem_cons_self; simp [TL.joinL]; omega
  | p :: q :: r, h => by
    have h1 := h p List.mem_cons_self
    have ih := join_len (ps := q :: r) fun x hx => h x (List.mem_cons_of_mem _ hx)
    rw [TL.joinL]
    simp only [List.length_append, List.length_cons, List.length_nil] at *
    rw [Nat.mul_add, Nat.mul_one]
    omega
theorem text_len {ds : List Deed} (h : ∀ d ∈ ds, deedE d = none) : (textL ds).length ≤ 51 * ds.length := by
  have := join_len (k := 50) (ps := ds.map rowT) fun p hp => by
    obtain ⟨x, hx, rfl⟩ := List.mem_map.mp hp
    exact row_len (h x hx)
  rw [List.length_map] at this
  exact this
theorem rows_len (t : Tx) : ∀ (acc : Tx), (TL.spl [10] 0 acc t).length ≤ t.length + 1 := by
  induction t with
  | nil => intro acc; simp [TL.spl_nil]
  | cons c t ih =>
    intro acc
    by_cases c10 : TL.pre [10] (c :: t) = true
    · rw [TL.spl_hit c10]
      have := ih []
      simp only [List.length_cons, List.length_nil, Nat.zero_add, Nat.sub_self] at *
      omega
    · rw [TL.spl_miss (by simpa using c10)]
      have := ih (acc ++ [c])
      simp only [List.length_cons]
      omega
def oddL : List Tx := [[10], [114, 117, 98, 32], [114, 117, 98, 10], [116, 105, 99, 107], [116, 105, 99, 107, 32], [116, 105, 99, 107, 32, 48, 49], [116, 105, 99, 107, 32, 49, 48, 48, 48], [116, 105, 99, 107, 32, 45, 49], [119, 97, 105, 116, 32, 97], [107, 101, 121], [97, 103, 97, 105, 110, 32, 49], [32, 114, 117, 98], [82, 117, 98]]
theorem odd_none : ∀ t ∈ oddL, (readL t).isNone = true := by decide +kernel
end TA

set_option linter.all false
set_option maxRecDepth 100000
set_option maxHeartbeats 2000000
/-! Diaries written and read. -/
namespace TA
open PySem L2 PyProof.Rows
open SX (S S_len S_inj S_cat S_tl)
local macro_rules | `(tactic| simp! [$as,*]) => `(tactic| first | simp only [L2.start, tSeq, tAsg, tOp, fFld, tVar, gIxL, gIxT, tCB, tCons, tNil, gLenL, gLenT, gLenS, rI, rI0, fSet, tIfS, tTest, tB, rNotN, rIsN, rEq, rNe, tC, tDrop, fBM, fBM0, gTy, rAppend, tTup, tLst, tRet, tRetN, tNext, gName, fTup, gCons, gNil, tCall, fCallS, fMeth, tMeth, fMethS, fMake, tMake, fMakeS, tUn, rU, tAnd, tOr, tNot, tAndV, tOrV, tNotV, tIf, tChain, gListL, gListT, tSl, tNoPart, tPart, gSlL, fRaise, gStrI, gCatS, gMin2, gMax2, gIntB, tYes, fLcL, fLcT, fLcS, fLcR1, fForL, fForR1, fForR2, fRev, fGetI, gGetI, gInI, gLenI, fPutI, fNewI,
  List.map_cons, List.map_nil, List.length_cons, List.length_nil, List.replicate, List.cons_append, List.nil_append, List.append_nil, List.getElem?_cons_zero, List.getElem?_cons_succ, List.set_cons_zero, List.set_cons_succ, reduceIte, Bool.not_true, Bool.not_false, Nat.reduceAdd, Nat.reduceSub, Bool.false_eq_true, eq_self,
  Option.some.injEq, V.int.injEq, V.ref.injEq, V.str.injEq, V.bl.injEq, HO.ins.injEq, HO.lst.injEq, HO.tup.injEq, HO.dK.injEq, List.cons.injEq, and_assoc, exists_eq_left', exists_and_left, and_true, true_and, true_or, or_true, false_or, or_false, exists_eq_left, exists_eq_right, exists_eq_right', exists_eq, exists_eq', exists_const, upd_same, sc_ii, sc_ss, sc_bb, sc_in, sc_ni, sc_ns, sc_sn, sc_nn, $as,*] | skip)
theorem wN_S (w : Tx) : wN (S w) = if w = putT then some 2 else if w = keyT then some 2 else if w = rubT then some 1 else if w = tickT then some 2 else if w = againT' then some 1 else if w = addT then some 2 else if w = remT then some 2 else none := by
  by_cases c1 : w = putT
  · rw [if_pos c1, c1]; decide +kernel
  by_cases c2 : w = keyT
  · rw [if_neg c1, if_pos c2, c2]; decide +kernel
  by_cases c3 : w = rubT
  · rw [if_neg c1, if_neg c2, if_pos c3, c3]; decide +kernel
  by_cases c4 : w = tickT
  · rw [if_neg c1, if_neg c2, if_neg c3, if_pos c4, c4]; decide +kernel
  by_cases c5 : w = againT'
  · rw [if_neg c1, if_neg c2, if_neg c3, if_neg c4, if_pos c5, c5]; decide +kernel
  by_cases c6 : w = addT
  · rw [if_neg c1, if_neg c2, if_neg c3, if_neg c4, if_neg c5, if_pos c6, c6]; decide +kernel
  by_cases c7 : w = remT
  · rw [if_neg c1, if_neg c2, if_neg c3, if_neg c4, if_neg c5, if_neg c6, if_pos c7, c7]; decide +kernel
  rw [if_neg c1, if_neg c2, if_neg c3, if_neg c4, if_neg c5, if_neg c6, if_neg c7]
  unfold wN lkW
  rw [Option.map_eq_none_iff, List.find?_eq_none]
  intro p hp
  have key : ∀ (x : Str) (t : Tx), x = S t → ¬ w = t → ¬ x = S w := fun x t e n q => n (by rw [e] at q; exact (S_inj q).symm)
  simp only [WL, List.mem_cons, List.not_mem_nil, or_false] at hp
  rw [decide_eq_true_eq]
  rcases hp with rfl | rfl | rfl | rfl | rfl | rfl | rfl
  · exact key _ _ lit_put c1
  · exact key _ _ lit_key c2
  · exact key _ _ lit_rub c3
  · exact key _ _ lit_tick c4
  · exact key _ _ lit_again c5
  · exact key _ _ lit_add c6
  · exact key _ _ lit_rem c7
theorem find_sp (r : Tx) : (cutSp r = none ∧ Txt.find (S r) (S [32]) = -1) ∨ ∃ w rest, r = w ++ 32 :: rest ∧ 32 ∉ w ∧ cutSp r = some (w, rest) ∧ Txt.find (S r) (S [32]) = (w.length : Int) := by
  have one : (S [32] : Str) = ⟨#[32]⟩ := rfl
  rcases StrLaws.occ_head (S r) (S [32]) 1 (Nat.le_refl 1) with ⟨h0, hn⟩ | ⟨i, rr, h0, hi, hn⟩
  · left
    have e : Txt.find (S r) (S [32]) = -1 := by unfold Txt.find; rw [h0]
    refine ⟨cut_no fun hm => ?_, e⟩
    obtain ⟨k, hk⟩ := List.mem_iff_getElem?.mp hm
    exact hn k ((StrLaws.subAt_one (S r) 32 k).mpr hk)
  · right
    have e : Txt.find (S r) (S [32]) = (i : Int) := by unfold Txt.find; rw [h0]
    have hi2 : r[i]? = some 32 := (StrLaws.subAt_one (S r) 32 i).mp hi
    obtain ⟨hl, hv⟩ := List.getElem?_eq_some_iff.mp hi2
    have er : r = r.take i ++ 32 :: r.drop (i + 1) := by
      conv => lhs; rw [← List.take_append_drop i r, List.drop_eq_getElem_cons hl, hv]
    have nw : 32 ∉ r.take i := fun hm => by
      obtain ⟨k, hk, ek⟩ := List.mem_take_iff_getElem.mp hm
      exact hn k (by omega) ((StrLaws.subAt_one (S r) 32 k).mpr (by show r[k]? = some 32; rw [List.getElem?_eq_getElem (by omega), ek]))
    refine ⟨r.take i, r.drop (i + 1), er, nw, ?_, ?_⟩
    · conv => lhs; rw [er]
      exact cut_at nw
    · rw [e, List.length_take]; omega
def sp_row_of (K : PySem.W.Frag) : Sp := fun vs H Q _ => ∃ (I : Hp) (M : List (Addr × HO)) (p : Addr) (d : Deed), vs = [.ref p] ∧ W I H M ∧ I p = some (.tup (ddV d.dd)) ∧ deedE d = none ∧ ∀ I' H', Sub I I' → W I' H' M → Q (sV (rowT d)) H'
def sp_diary_text (K : PySem.W.Frag) : Sp := fun vs H Q E => ∃ (I : Hp) (M : List (Addr × HO)) (l : Addr) (zs : List (V × Dd)) (ds : List Deed), vs = [.ref l] ∧ W I H M ∧ I l = some (.lst (zs.map Prod.fst)) ∧ Enc I ddD zs ∧ (∀ z ∈ zs, ddW z.2) ∧ zs.length ≤ 3000 ∧
  (∀ e, ddsE (zs.map Prod.snd) = some e → ∀ H', W I H' M → E (.ref (He.ga K e)) none H') ∧ (ddsE (zs.map Prod.snd) = none → zs.map Prod.snd = ds.map Deed.dd ∧ ∀ I' H', Sub I I' → W I' H' M → Q (sV (textL ds)) H')
def sp_deed_in (K : PySem.W.Frag) : Sp := fun vs H Q E => ∃ (I : Hp) (M : List (Addr × HO)) (r : Tx), vs = [sV r] ∧ W I H M ∧ r.length ≤ 100000 ∧
  (∀ d, deedIn r = some d → ∀ I' H' p, Sub I I' → W I' H' M → I' p = some (.tup (ddV d.dd)) → Q (.ref p) H') ∧ (deedIn r = none → ∀ I' H', Sub I I' → W I' H' M → E (bT K) none H')
def sp_read_diary (K : PySem.W.Frag) : Sp := fun vs H Q E => ∃ (I : Hp) (M : List (Addr × HO)) (t : Tx), vs = [sV t] ∧ W I H M ∧ t.length ≤ 5000 ∧
  (∀ ds, readL t = some ds → ∀ I' H' v, Sub I I' → W I' H' M → Rp I' v (.list (ds.map deedD)) → Q v H') ∧ (readL t = none → ∀ I' H', Sub I I' → W I' H' M → E (bT K) none H')
def sp__law_text (K : PySem.W.Frag) : Sp := fun vs H Q _ => ∃ (I : Hp) (M : List (Addr × HO)) (v : V) (ds : List Deed), vs = [v] ∧ W I H M ∧ Rp I v (.list (ds.map deedD)) ∧ (∀ d ∈ ds, deedE d = none) ∧ ds.length ≤ 10000 ∧ ∀ H', W I H' M → Q (sV (textL ds)) H'
def t_row_of (K : PySem.W.Frag) (E : XK) : TS := tRet (fBM "str" gJoin (tC (.str " ")) (tCons (fLcT (tVar 0) (gName 1) (tYes) (tCB (gStrA) (tCons (tVar 1) (tNil))) [1]) (tNil)))
abbrev nn_row_of : List Str := ["deed", "one"]
def t_diary_text (K : PySem.W.Frag) (E : XK) : TS := tSeq (tDrop (tCall (sp_look_deeds K) [] E (tCons (tVar 0) (tNil)))) (tRet (fBM "str" gJoin (tC (.str "\n")) (tCons (fLcL (tVar 0) (gName 1) (tYes) (tCall (sp_row_of K) [] E0 (tCons (tVar 1) (tNil))) [1]) (tNil))))
abbrev nn_diary_text : List Str := ["deeds", "deed"]
def t_deed_in (K : PySem.W.Frag) (E : XK) : TS := tSeq (tAsg (fBM "str" gFind (tVar 0) (tCons (tC (.str " ")) (tNil))) (gName 1)) (tSeq (tAsg (tIf (tTest (tOp (rI0 fun i j => .bl (decide (i < j))) (tVar 1) (tC (.int 0)))) (tVar 0) (tSl rSlS (tVar 0) (tNoPart) (tPart (tVar 1)))) (gName 2)) (tSeq (tIfS (tOr (tTest (tOp (gInW K true) (tVar 2) (tC (.ref (He.ga K "WORDS"))))) (tTest (tOp (rNe) (tOp (rEq) (tOp (gIxW K) (tC (.ref (He.ga K "WORDS"))) (tVar 2)) (tC (.int 1))) (tOp (rI0 fun i j => .bl (decide (i < j))) (tVar 1) (tC (.int 0)))))) (fRaise (WD E) (He.ga K "BadText")) (tNext)) (tSeq (tIfS (tTest (tOp (rI0 fun i j => .bl (decide (i < j))) (tVar 1) (tC (.int 0)))) (tRet (tTup (tCons (tVar 2) (tNil)))) (tNext)) (tSeq (tAsg (tSl rSlS (tVar 0) (tPart (tOp (rI0 fun i j => .int (i + j)) (tVar 1) (tC (.int 1)))) (tNoPart)) (gName 3)) (tSeq (tIfS (tTest (tOp (rEq) (tVar 2) (tC (.str "tick")))) (tSeq (tIfS (tOr (tNot (tTest (tChain (rI0 fun i j => .bl (decide (i ≤ j))) (rI0 fun i j => .bl (decide (i ≤ j))) (tC (.int 1)) (tCB (gLenS) (tCons (tVar 3) (tNil))) (tC (.int 3))))) (tNot (tB (tCB (gAll) (tCons (fLcS (tVar 3) (gName 4) (tYes) (tOp (gInS) (tVar 4) (tC (.str "0123456789"))) [4]) (tNil)))))) (fRaise (WD E) (He.ga K "BadText")) (tNext)) (tRet (tTup (tCons (tVar 2) (tCons (tCB (gIntS) (tCons (tVar 3) (tNil))) (tNil)))))) (tNext)) (tSeq (tDrop (tCall (sp_look_text K) [] E (tCons (tVar 3) (tCons (tC (.int 40)) (tNil))))) (tRet (tTup (tCons (tVar 2) (tCons (tVar 3) (tNil)))))))))))
abbrev nn_deed_in : List Str := ["row", "place", "word", "rest", "sign"]
def t_read_diary (K : PySem.W.Frag) (E : XK) : TS := tSeq (tAsg (tIf (tTest (tOp (rNe) (tVar 0) (tC (.str "")))) (fLcL (fBM "str" gSplit (tVar 0) (tCons (tC (.str "\n")) (tNil))) (gName 2) (tYes) (tCall (sp_deed_in K) [] E (tCons (tVar 2) (tNil))) [2]) (tLst (tNil))) (gName 1)) (tSeq (tIfS (tTest (tOp (rNe) (fBM "str" gJoin (tC (.str "\n")) (tCons (fLcL (tVar 1) (gName 3) (tYes) (tCall (sp_row_of K) [] E0 (tCons (tVar 3) (tNil))) [3]) (tNil))) (tVar 0))) (fRaise (WD E) (He.ga K "BadText")) (tNext)) (tRet (tVar 1)))
abbrev nn_read_diary : List Str := ["text", "found", "row", "deed"]
def t__law_text (K : PySem.W.Frag) (E : XK) : TS := tSeq (tAsg (tC (.str "")) (gName 1)) (tSeq (fForR1 (tCons (tCB (gLenL) (tCons (tVar 0) (tNil))) (tNil)) (gName 2) (tSeq (tAsg (tOp (gCatS) (tOp (gCatS) (tVar 1) (tIf (tTest (tOp (rI0 fun i j => .bl (decide (j < i))) (tVar 2) (tC (.int 0)))) (tC (.str "\n")) (tC (.str "")))) (tOp gIxT (tOp gIxL (tVar 0) (tVar 2)) (tC (.int 0)))) (gName 1)) (tIfS (tTest (tOp (rI0 fun i j => .bl (decide (j < i))) (tCB (gLenT) (tCons (tOp gIxL (tVar 0) (tVar 2)) (tNil))) (tC (.int 1)))) (tAsg (tOp (gCatS) (tOp (gCatS) (tVar 1) (tC (.str " "))) (tCB (gStrA) (tCons (tOp gIxT (tOp gIxL (tVar 0) (tVar 2)) (tC (.int 1))) (tNil)))) (gName 1)) (tNext)))) (tRet (tVar 1)))
abbrev nn__law_text : List Str := ["deeds", "found", "k"]
section
variable {K : PySem.W.Frag}
theorem len_row_of : ∀ vs H Q E, sp_row_of K vs H Q E → vs.length = ["deed"].length := by
  rintro _ _ _ _ ⟨_, _, _, _, rfl, _⟩; rfl
theorem len_diary_text : ∀ vs H Q E, sp_diary_text K vs H Q E → vs.length = ["deeds"].length := by
  rintro _ _ _ _ ⟨_, _, _, _, _, rfl, _⟩; rfl
theorem len_deed_in : ∀ vs H Q E, sp_deed_in K vs H Q E → vs.length = ["row"].length := by
  rintro _ _ _ _ ⟨_, _, _, rfl, _⟩; rfl
theorem len_read_diary : ∀ vs H Q E, sp_read_diary K vs H Q E → vs.length = ["text"].length := by
  rintro _ _ _ _ ⟨_, _, _, rfl, _⟩; rfl
theorem len__law_text : ∀ vs H Q E, sp__law_text K vs H Q E → vs.length = ["deeds"].length := by
  rintro _ _ _ _ ⟨_, _, _, _, rfl, _⟩; rfl
theorem lit_nl : Str.ofString "\n" = S [10] := by kernel_rfl
theorem join_SL (c : Nat) (ps : List Tx) : Txt.join (S [c]) (ps.map S) = S (TL.joinL [c] ps) := TL.ext_tl (by
  rw [TL.join_eq, TL.tl_join, List.map_map]
  have e : (TL.tl ∘ S) = (id : Tx → Tx) := rfl
  rw [e, List.map_id])
theorem sum_len {k : Nat} : ∀ {ps : List Tx}, (∀ p ∈ ps, p.length ≤ k) → ((ps.map S).map (·.length)).sum ≤ k * ps.length
  | [], _ => by simp
  | p :: ps, h => by
    have h1 := h p List.mem_cons_self
    have ih := sum_len (ps := ps) fun x hx => h x (List.mem_cons_of_mem _ hx)
    rw [List.map_cons, List.map_cons, List.sum_cons, List.length_cons, Nat.mul_succ, S_len]
    omega
theorem rp_sDP {I : Hp} {v : V} {l : Tx} (h : Rp I v (sD l)) : v = sV l := by
  unfold sD at h; cases h; rfl
theorem num_tx {n : Int} (h0 : 0 ≤ n) : (toString n : Str) = S (TL.numL n.toNat) := by
  have e : n = ((n.toNat : Nat) : Int) := by omega
  have h := TL.tl_num n.toNat
  rw [← e] at h
  exact TL.ext_tl h
/-- what str tells of a deed's parts -/
def strD : Deed → List Tx := fun d => d.w :: d.r.toList
theorem strA_ok {d : Deed} (hd : deedE d = none) {i : Nat} {x : V} {H : Hp} {Q : VK} (hx : (ddV d.dd)[i]? = some x) (q : ∀ l, (strD d)[i]? = some l → Q (sV l) H) : gStrA [x] H Q := by
  have two : ∀ (w : Str) (wt l : Tx), w = S wt → strD d = [wt, l] → ddV d.dd = [.str w, sV l] → gStrA [x] H Q := by
    intro w wt l e1 e2 e3
    rw [e3] at hx
    rw [e2] at q
    match i, hx with
    | 0, hx => cases hx; exact .inr ⟨_, rfl, by rw [e1]; exact q wt rfl⟩
    | 1, hx => cases hx; exact .inr ⟨_, rfl, q l rfl⟩
    | i + 2, hx => simp at hx
  have one : ∀ (w : Str) (wt : Tx), w = S wt → strD d = [wt] → ddV d.dd = [.str w] → gStrA [x] H Q := by
    intro w wt e1 e2 e3
    rw [e3] at hx
    rw [e2] at q
    match i, hx with
    | 0, hx => cases hx; exact .inr ⟨_, rfl, by rw [e1]; exact q wt rfl⟩
    | i + 1, hx => simp at hx
  cases d with
  | put l => exact two _ _ l lit_put rfl rfl
  | key l => exact two _ _ l lit_key rfl rfl
  | rub => exact one _ _ lit_rub rfl rfl
  | tick n =>
    obtain ⟨h0, h1⟩ := arE_nm hd
    have hx : ([.str "tick", .int n] : List V)[i]? = some x := hx
    match i, hx with
    | 0, hx => cases hx; exact .inr ⟨_, rfl, by rw [lit_tick]; exact q tickT rfl⟩
    | 1, hx => cases hx; exact .inl ⟨n, rfl, log2_small h0 (by omega), by have := q _ rfl; rw [num_tx h0]; exact this⟩
    | i + 2, hx => simp at hx
  | again => exact one _ _ lit_again rfl rfl
  | add l => exact two _ _ l lit_add rfl rfl
  | rem l => exact two _ _ l lit_rem rfl rfl
theorem ddV_len (d : Deed) : (ddV d.dd).length = (strD d).length := by cases d <;> rfl
theorem str_len {d : Deed} (h : deedE d = none) : ∀ l ∈ strD d, l.length ≤ 50 := by
  intro l hl
  have := row_len h
  cases d <;> (simp only [strD, Deed.w, Deed.r, Option.toList_some, Option.toList_none, List.mem_cons, List.not_mem_nil, or_false] at hl; simp only [rowT, Deed.w, Deed.r, List.length_append, List.length_cons] at this; first | (rcases hl with rfl | rfl <;> first | omega | (simp [putT, keyT, tickT, addT, remT]; done)) | (rw [hl]; decide))
theorem join_str (d : Deed) : TL.joinL [32] (strD d) = rowT d := by cases d <;> rfl
theorem pure_row_of : ∀ vs H Q E, sp_row_of K vs H Q E → t_row_of K E { nx := fun _ H2 => Q .non H2, rt := Q } (L2.start nn_row_of vs) H := by
  rintro vs H Q E ⟨I, M, p, d, rfl, w, hp, hd, hQ⟩
  have hp1 := w.sub _ _ hp
  have hb := line_big
  unfold t_row_of
  simp! [hp1]
  refine comp_pure (fun i => ((strD d)[i]?).map sV) w (by rw [ddV_len]; cases d <;> simp [strD, Deed.r]) (fun _ _ _ w' => w'.sub _ _ hp) ?_ ?_
  · rintro D i x acc H' T F hi hx w' kT kF
    simp! [wipe]
    exact strA_ok hd hx fun l hl => kT _ _ (by rw [hl]; rfl) w'
  · intro D H' w'
    have e3 : (List.range (ddV d.dd).length).filterMap (fun i => ((strD d)[i]?).map sV) = ((strD d).map S).map V.str := by
      rw [ddV_len, fm_mapP, List.map_map]; rfl
    rw [e3] at w'
    obtain ⟨I2, s2, w2, h2⟩ := w'.frz
    refine ⟨_, D, (strD d).map S, rfl, rfl, w2.sub _ _ h2, ?_, ?_⟩
    · have := sum_len (str_len hd)
      have l2 : (strD d).length ≤ 2 := by cases d <;> simp [strD, Deed.r]
      have l3 : (Str.ofString " ").length = 1 := rfl
      rw [List.length_map, l3]
      have := Nat.mul_le_mul_left 50 l2
      omega
    · rw [lit_b, join_SL, join_str]
      exact hQ I2 H' s2 w2
theorem typed {d : Dd} (h : ddE d = none) (hwd : ddW d) : ∃ e : Deed, d = e.dd := by
  cases d with
  | nil => cases h
  | one w a =>
    rw [ddE_one] at h
    by_cases c : wN w = some (arN a)
    · have hw : w ∈ WL.map Prod.fst := by
        unfold wN lkW at c
        rw [Option.map_eq_some_iff] at c
        obtain ⟨p, hp, _⟩ := c
        have h1 := List.find?_some hp
        have h2 := List.mem_of_find?_eq_some hp
        exact List.mem_map.mpr ⟨p, h2, of_decide_eq_true h1⟩
      simp only [WL, List.map_cons, List.map_nil, List.mem_cons, List.not_mem_nil, or_false] at hw
      have no2 : ∀ z : Str, wN z = some 1 → wN z = some 2 → False := fun z a b => by rw [a] at b; cases b
      cases a with
      | no =>
        rcases hw with rfl | rfl | rfl | rfl | rfl | rfl | rfl
        · exact absurd c (by decide +kernel)
        · exact absurd c (by decide +kernel)
        · exact ⟨.rub, rfl⟩
        · exact absurd c (by decide +kernel)
        · exact ⟨.again, rfl⟩
        · exact absurd c (by decide +kernel)
        · exact absurd c (by decide +kernel)
      | tx l =>
        have c : wN w = some 2 := c
        rcases hw with rfl | rfl | rfl | rfl | rfl | rfl | rfl
        · exact ⟨.put l, rfl⟩
        · exact ⟨.key l, rfl⟩
        · exact absurd c (by decide +kernel)
        · exact absurd rfl hwd.1
        · exact absurd c (by decide +kernel)
        · exact ⟨.add l, rfl⟩
        · exact ⟨.rem l, rfl⟩
      | nm n =>
        have e : w = "tick" := hwd
        rw [e]
        exact ⟨.tick n, rfl⟩
    · rw [if_neg c] at h; cases h
theorem pure_diary_text : ∀ vs H Q E, sp_diary_text K vs H Q E → t_diary_text K E { nx := fun _ H2 => Q .non H2, rt := Q } (L2.start nn_diary_text vs) H := by
  rintro vs H Q E ⟨I, M, l, zs, ds, rfl, w, hl, en, wt, hz, hbad, hok⟩
  have hb := line_big
  unfold t_diary_text
  simp! [and_true]
  refine ⟨I, M, l, zs, rfl, w, Ls.i hl, en, wt, fun H1 w1 => ?_⟩
  cases hE : ddsE (zs.map Prod.snd) with
  | some e => exact hbad e hE H1 w1
  | none =>
    obtain ⟨ez, hQ⟩ := hok hE
    have dok := dds_ok (ds := ds) (by rw [← ez]; exact hE)
    have zl : ds.length = zs.length := by
      have := congrArg List.length ez
      rw [List.length_map, List.length_map] at this
      exact this.symm
    have hl1 := w1.sub _ _ hl
    simp! [Out, hl1]
    refine comp_data (n := (zs.map Prod.fst).length) sD (fun i => (ds[i]?).map rowT) w1 (by rw [List.length_map]; omega) (fun I' _ _ _ sb w' => w'.sub _ _ (sb _ _ hl)) ?_ ?_
    · rintro D i x acc I' H' T F hi hx sb w' kT kF
      rw [List.getElem?_map, Option.map_eq_some_iff] at hx
      obtain ⟨z, hzi, rfl⟩ := hx
      rw [List.length_map] at hi
      have hdi : ds[i]? = some ds[i] := List.getElem?_eq_getElem (by omega)
      have ez2 : z.2 = ds[i].dd := by
        have := congrArg (fun l => l[i]?) ez
        simp only [List.getElem?_map, hzi, hdi, Option.map_some, Option.some.injEq] at this
        exact this
      obtain ⟨p, hp, hp2⟩ := rp_dd (en z (List.mem_of_getElem? hzi))
      rw [ez2] at hp2
      simp! [wipe, hp]
      exact ⟨I', _, p, ds[i], rfl, w', sb _ _ hp2, dok _ (List.getElem_mem _), fun I2 H2 s2 w2 => kT I2 H2 _ (rowT ds[i]) (by rw [hdi]; rfl) s2 w2 (.str _)⟩
    · intro I' D H' ys sb w' en' e
      have e3 : ys.map Prod.fst = ((ds.map rowT).map S).map V.str := by
        have e4 : ys.map Prod.snd = ds.map rowT := by
          rw [e, List.length_map, ← zl, fm_mapP]
        rw [← e4, List.map_map, List.map_map]
        refine List.map_congr_left fun y hy => ?_
        exact rp_sDP (en' y hy)
      rw [e3] at w'
      obtain ⟨I2, s2, w2, h2⟩ := w'.frz
      refine ⟨_, D, (ds.map rowT).map S, rfl, rfl, w2.sub _ _ h2, ?_, ?_⟩
      · have := sum_len (ps := ds.map rowT) (k := 50) fun p hp => by
          obtain ⟨x, hx, rfl⟩ := List.mem_map.mp hp
          exact row_len (dok x hx)
        have l3 : (Str.ofString "\n").length = 1 := rfl
        rw [List.length_map, List.length_map, l3]
        rw [List.length_map] at this
        have := Nat.mul_le_mul_left 50 (show ds.length ≤ 3000 by omega)
        omega
      · rw [lit_nl, join_SL]
        exact hQ I2 H' (sb.trans s2) w2
theorem cut_fr (m : Tx) {k : Nat} (h : k ≤ m.length) : cutS (S m) (some (k : Int)) none = S (m.drop k) := by
  have e := cut_mid m k (m.length - k) h
  have e2 : cutS (S m) (some (k : Int)) none = cutS (S m) (some (k : Int)) (some ((k : Int) + ((m.length - k : Nat) : Int))) := by
    unfold cutS
    have l : (S m).length = m.length := S_len m
    rw [HT.sIx_none]
    have : HT.sIx (S m).length (S m).length (some ((k : Int) + ((m.length - k : Nat) : Int))) = (S m).length := by
      rw [l]
      unfold HT.sIx
      simp only []
      rw [if_neg (by omega)]
      omega
    rw [this]
  rw [e2, e, List.take_of_length_le (by rw [List.length_drop]; omega)]
theorem fig_in (c : Nat) : (!(Builtin.Str.occurrences (Str.ofString "0123456789") ⟨#[c]⟩ 0 (Str.ofString "0123456789").length 1).isEmpty) = decide (48 ≤ c ∧ c ≤ 57) := by
  rw [StrLaws.found_one]
  have e : (Str.ofString "0123456789").cps.toList = [48, 49, 50, 51, 52, 53, 54, 55, 56, 57] := by decide +kernel
  rw [e, Bool.eq_iff_iff, decide_eq_true_eq, decide_eq_true_eq]
  simp only [List.mem_cons, List.not_mem_nil, or_false]
  omega
theorem pure_deed_in : ∀ vs H Q E, sp_deed_in K vs H Q E → t_deed_in K E { nx := fun _ H2 => Q .non H2, rt := Q } (L2.start nn_deed_in vs) H := by
  rintro vs H Q E ⟨I, M, r, rfl, w, hr, hok, hno⟩
  have hb := line_big
  unfold t_deed_in
  simp! [gFind, lit_b, gInW, gIxW]
  rcases find_sp r with ⟨hc, hf⟩ | ⟨wd, rest, er, nw, hc, hf⟩
  · rw [hf]
    refine ite_t (by decide) ?_
    have ed : deedIn r = if r = rubT then some .rub else if r = againT' then some .again else none := by unfold deedIn; rw [hc]
    have good : ∀ d : Deed, deedIn r = some d → ddV d.dd = [sV r] → 1 ≤ sizeLine ∧ ∀ p, H p = none → Q (.ref p) (upd H p (.tup [sV r])) := fun d e1 e2 => ⟨one_le, fun p hp => by
      obtain ⟨I2, s2, w2, h2⟩ := w.mkI hp (.tup [sV r])
      exact hok d e1 I2 _ p s2 w2 (by rw [e2]; exact h2)⟩
    by_cases c1 : r = rubT
    · have e1 : wN (S r) = some 1 := by rw [c1]; decide +kernel
      rw [e1, if_neg (by simp)]
      refine ⟨1, rfl, ite_nt (by decide) (ite_t (by decide) (good .rub (by rw [ed, if_pos c1]) (by rw [c1]; unfold Deed.dd ddV arV; rw [lit_rub])))⟩
    by_cases c2 : r = againT'
    · have e1 : wN (S r) = some 1 := by rw [c2]; decide +kernel
      rw [e1, if_neg (by simp)]
      refine ⟨1, rfl, ite_nt (by decide) (ite_t (by decide) (good .again (by rw [ed, if_neg c1, if_pos c2]) (by rw [c2]; unfold Deed.dd ddV arV; rw [lit_again])))⟩
    have bad := hno (by rw [ed, if_neg c1, if_neg c2]) I H (Sub.refl _) w
    have e1 : wN (S r) = none ∨ wN (S r) = some 2 := by
      rw [wN_S, if_neg c1, if_neg c2]
      repeat' split
      all_goals simp
    rcases e1 with e1 | e1
    · rw [e1, if_pos (by rfl)]
      exact bad
    · rw [e1, if_neg (by simp)]
      exact ⟨2, rfl, ite_nf (by decide) bad⟩
  · rw [hf]
    have hlen : wd.length + 1 ≤ r.length := by rw [er]; simp
    have ew : cutS (S r) none (some (wd.length : Int)) = S wd := by rw [cut_to, er, List.take_left']; rfl
    have es : cutS (S r) (some ((wd.length : Int) + 1)) none = S rest := by
      have := cut_fr r (k := wd.length + 1) hlen
      rw [show ((wd.length : Int) + 1) = ((wd.length + 1 : Nat) : Int) by omega, this, er]
      congr 1
      rw [show wd ++ 32 :: rest = (wd ++ [32]) ++ rest by simp, List.drop_left' (by simp)]
    refine ite_f (by omega) ?_
    simp! [rSlS, ew, es, S_len]
    refine ⟨by omega, ?_⟩
    have lr : rest.length ≤ r.length := by rw [er]; simp; omega
    have neg : ¬ ((wd.length : Int) < 0) := by omega
    have ed : deedIn r = (if wd = tickT then if 1 ≤ rest.length ∧ rest.length ≤ 3 ∧ digs rest = true then some (.tick ((NumText.digitsVal rest : Nat) : Int)) else none
      else if okL 40 rest = true then if wd = putT then some (.put rest) else if wd = keyT then some (.key rest) else if wd = addT then some (.add rest) else if wd = remT then some (.rem rest) else none else none) := by unfold deedIn; rw [hc]
    -- words that stand alone, and no words
    by_cases n1 : wN (S wd) = none ∨ wN (S wd) = some 1
    · have hn : deedIn r = none := by
        rw [ed]
        have hw := wN_S wd
        repeat' split
        all_goals first | rfl | (exfalso; rename_i c; rw [c] at n1; exact absurd n1 (by decide +kernel)) | (exfalso; rename_i c _; rw [c] at n1; exact absurd n1 (by decide +kernel))
      have bad := hno hn I H (Sub.refl _) w
      rcases n1 with e1 | e1
      · rw [e1, if_pos (by rfl)]
        exact bad
      · rw [e1, if_neg (by simp)]
        exact ⟨1, rfl, ite_nf (fun q => by rw [decide_eq_false neg] at q; cases q) bad⟩
    have e2 : wN (S wd) = some 2 := by
      rw [wN_S] at n1 ⊢
      repeat' split at n1
      all_goals simp_all
    rw [e2, if_neg (by simp)]
    refine ⟨2, rfl, ite_nt (by rw [decide_eq_false neg]; rfl) (ite_f neg ⟨by omega, ?_⟩)⟩
    by_cases ct : wd = tickT
    · rw [if_pos ct] at ed
      refine ite_t (by rw [ct]; exact lit_tick.symm) ⟨by omega, ?_⟩
      by_cases c1 : 1 ≤ rest.length
      · refine ite_t (by omega) ?_
        by_cases c2 : rest.length ≤ 3
        · refine ite_nt (by omega) ?_
          refine comp_pure (fun i => (rest[i]?).map fun c => V.bl (decide (48 ≤ c ∧ c ≤ 57))) w (by simp; omega) (fun _ _ _ _ => trivial) ?_ ?_
          · rintro D i x acc H' T F hi ⟨c, hcc, rfl⟩ w' kT kF
            simp! [wipe]
            exact ⟨_, _, rfl, rfl, by rw [fig_in]; exact kT _ _ (by rw [hcc]; rfl) w'⟩
          · intro D H' w'
            have e3 : (List.range rest.toArray.size).filterMap (fun i => (rest[i]?).map fun c => V.bl (decide (48 ≤ c ∧ c ≤ 57))) = (rest.map fun c => decide (48 ≤ c ∧ c ≤ 57)).map V.bl := by
              rw [List.size_toArray, fm_mapP, List.map_map]; rfl
            rw [e3] at w'
            refine ⟨D, _, rfl, w'.has.1, _, rfl, ?_⟩
            have e4 : (rest.map fun c => decide (48 ≤ c ∧ c ≤ 57)).all id = digs rest := by rw [List.all_map]; rfl
            rw [e4]
            cases hd : digs rest with
            | false =>
              exact hno (by rw [ed, if_neg fun q => by rw [hd] at q; cases q.2.2]) I H' (Sub.refl _) w'.drop
            | true =>
              have w2 := w'.drop
              refine ⟨S rest, ((NumText.digitsVal rest : Nat) : Int), rfl, PySem.intText_digits (x := S rest) (all_dig hd) (fun q => by have q : rest = [] := q; rw [q] at c1; simp at c1) (by rw [S_len]; omega), by rw [S_len]; omega, two_le, fun p hp => ?_⟩
              obtain ⟨I3, s3, w3, h3⟩ := w2.mkI hp (.tup [.str (S wd), .int ((NumText.digitsVal rest : Nat) : Int)])
              exact hok _ (by rw [ed, if_pos ⟨c1, c2, hd⟩]) I3 _ p s3 w3 (by unfold Deed.dd ddV arV; rw [lit_tick, ← ct]; exact h3)
        · exact ite_nf (by omega) (hno (by rw [ed, if_neg fun q => c2 q.2.1]) I H (Sub.refl _) w)
      · exact ite_f (by omega) (hno (by rw [ed, if_neg fun q => c1 q.1]) I H (Sub.refl _) w)
    rw [if_neg ct] at ed
    refine ite_f (fun q => ct (S_inj (q.trans lit_tick))) ⟨rest, 40, rfl, by omega, fun H1 sm => ?_⟩
    have w1 := w.same sm
    by_cases ok : okL 40 rest = true
    · rw [if_pos ok] at ed
      rw [if_pos ok]
      refine ⟨two_le, fun p hp => ?_⟩
      obtain ⟨I3, s3, w3, h3⟩ := w1.mkI hp (.tup [.str (S wd), .str (S rest)])
      have go : ∀ (d : Deed) (z : Str), deedIn r = some d → z = S wd → ddV d.dd = [.str z, sV rest] → Q (.ref p) (upd H1 p (.tup [.str (S wd), .str (S rest)])) := fun d z e1 e2 e3 => hok d e1 I3 _ p s3 w3 (by rw [e3, e2]; exact h3)
      by_cases d1 : wd = putT
      · exact go (.put rest) _ (by rw [ed, if_pos d1]) (by rw [d1]; exact lit_put) rfl
      by_cases d2 : wd = keyT
      · exact go (.key rest) _ (by rw [ed, if_neg d1, if_pos d2]) (by rw [d2]; exact lit_key) rfl
      by_cases d3 : wd = addT
      · exact go (.add rest) _ (by rw [ed, if_neg d1, if_neg d2, if_pos d3]) (by rw [d3]; exact lit_add) rfl
      by_cases d4 : wd = remT
      · exact go (.rem rest) _ (by rw [ed, if_neg d1, if_neg d2, if_neg d3, if_pos d4]) (by rw [d4]; exact lit_rem) rfl
      exfalso
      rw [wN_S, if_neg d1, if_neg d2, if_neg ct, if_neg d3, if_neg d4] at e2
      repeat' split at e2
      all_goals cases e2
    · rw [if_neg ok] at ed
      rw [if_neg ok]
      exact hno ed I H1 (Sub.refl _) w1
theorem ins_snoc {r : Tx} : ∀ {rs : List Tx}, insL (rs ++ [r]) = (insL rs).bind fun ds => (deedIn r).map fun d => ds ++ [d]
  | [] => by
    rw [List.nil_append, insL, insL]
    cases deedIn r <;> rfl
  | x :: rs => by
    rw [List.cons_append, insL, insL, ins_snoc (rs := rs)]
    cases deedIn x with
    | none => rfl
    | some d =>
      simp only []
      cases insL rs with
      | none => rfl
      | some ds => cases deedIn r <;> rfl
theorem ins_bad {r : Tx} {b : List Tx} (h : deedIn r = none) : ∀ {a : List Tx}, insL (a ++ r :: b) = none
  | [] => by rw [List.nil_append, insL, h]
  | x :: a => by
    rw [List.cons_append, insL, ins_bad h (a := a)]
    cases deedIn x <;> rfl
/-- the rows written again -/
theorem comp_rows {I H : Hp} {M : List (Addr × HO)} {Q : VK} {σ : L2.St} {a : Addr} {vs : List V} {ds : List Deed} {j : Nat} (w : W I H M) (ha : I a = some (.lst vs)) (ra : RpAll I vs (ds.map deedD)) (ok : ∀ d ∈ ds, deedE d = none) (hl : ds.length ≤ 10000)
    (hj : ∀ x, wipe ((wipe σ [j]).set j x) [j] = wipe σ [j]) (hjj : ∀ x : V, ((wipe σ [j]).set j (some x))[j]? = some (some x)) (q : ∀ I' H', Sub I I' → W I' H' M → Q (sV (textL ds)) H') :
    CompW (fun H => H a = some (.lst vs)) vs.length (fun i x => vs[i]? = some x) (gName j) tYes (tCall (sp_row_of K) [] E0 (tCons (tVar j) (tNil))) [j] σ H fun x H1 => gJoin (.str (Str.ofString "\n")) [x] H1 Q := by
  obtain ⟨zs, rfl, e2, en⟩ := enc_of ra
  have zl : ds.length = zs.length := by rw [e2, List.length_map]
  refine comp_data (n := (zs.map Prod.fst).length) sD (fun i => (ds[i]?).map rowT) w (by rw [List.length_map]; omega) (fun I' _ _ _ sb w' => w'.sub _ _ (sb _ _ ha)) ?_ ?_
  · rintro D i x acc I' H' T F hi hx sb w' kT kF
    rw [List.getElem?_map, Option.map_eq_some_iff] at hx
    obtain ⟨z, hzi, rfl⟩ := hx
    obtain ⟨p, hp, hp2⟩ := rp_dd (en z (List.mem_of_getElem? hzi))
    have hdi : ds[i]? = some z.2 := by rw [e2, List.getElem?_map, hzi]; rfl
    refine ⟨hj _, ?_⟩
    simp! [hjj, hp]
    exact ⟨I', _, p, z.2, rfl, w', sb _ _ hp2, ok _ (List.mem_of_getElem? hdi), fun I2 H2 s2 w2 => kT I2 H2 _ (rowT z.2) (by rw [hdi]; rfl) s2 w2 (.str _)⟩
  · intro I' D H' ys sb w' en' e
    have e3 : ys.map Prod.fst = ((ds.map rowT).map S).map V.str := by
      have e4 : ys.map Prod.snd = ds.map rowT := by
        rw [e, List.length_map, ← zl, fm_mapP]
      rw [← e4, List.map_map, List.map_map]
      exact List.map_congr_left fun y hy => rp_sDP (en' y hy)
    rw [e3] at w'
    obtain ⟨I2, s2, w2, h2⟩ := w'.frz
    refine ⟨_, D, (ds.map rowT).map S, rfl, rfl, w2.sub _ _ h2, ?_, ?_⟩
    · have := sum_len (ps := ds.map rowT) (k := 50) fun p hp => by
        obtain ⟨x, hx, rfl⟩ := List.mem_map.mp hp
        exact row_len (ok x hx)
      have l3 : (Str.ofString "\n").length = 1 := rfl
      rw [List.length_map, List.length_map, l3]
      rw [List.length_map] at this
      have := Nat.mul_le_mul_left 50 hl
      omega
    · rw [lit_nl, join_SL]
      exact q I2 H' (sb.trans s2) w2
structure CRd (rows : List Tx) (M : List (Addr × HO)) (i : Nat) (I : Hp) (acc : List V) (M' : List (Addr × HO)) : Prop where
  ex : M' = M ∧ ∃ ds, insL (rows.take i) = some ds ∧ RpAll I acc (ds.map deedD)
theorem ins_len : ∀ {rs : List Tx} {ds : List Deed}, insL rs = some ds → ds.length = rs.length
  | [], _, h => by cases h; rfl
  | r :: rs, _, h => by
    rw [insL] at h
    cases e : deedIn r with
    | none => rw [e] at h; cases h
    | some x =>
      rw [e] at h
      simp only [Option.map_eq_some_iff] at h
      obtain ⟨ys, hy, rfl⟩ := h
      rw [List.length_cons, List.length_cons, ins_len hy]
theorem spl_sub : ∀ (t acc : Tx), ∀ p ∈ TL.spl [10] 0 acc t, p.length ≤ acc.length + t.length := by
  intro t
  induction t with
  | nil => intro acc p hp; rw [TL.spl_nil, List.mem_singleton] at hp; rw [hp]; simp
  | cons c t ih =>
    intro acc p hp
    by_cases c10 : TL.pre [10] (c :: t) = true
    · rw [TL.spl_hit c10] at hp
      rcases List.mem_cons.mp hp with q | q
      · rw [q]; omega
      · have := ih [] p q
        simp only [List.length_cons, List.length_nil] at *
        omega
    · rw [TL.spl_miss (by simpa using c10)] at hp
      have := ih (acc ++ [c]) p hp
      simp only [List.length_append, List.length_cons, List.length_nil] at *
      omega
theorem pure_read_diary : ∀ vs H Q E, sp_read_diary K vs H Q E → t_read_diary K E { nx := fun _ H2 => Q .non H2, rt := Q } (L2.start nn_read_diary vs) H := by
  rintro vs H Q E ⟨I, M, t, rfl, w, hl, hok, hno⟩
  have hb := line_big
  unfold t_read_diary
  simp! [lit_e, S_eq]
  have fin : ∀ (I2 H2 : Hp) (a : Addr) (vs : List V) (ds : List Deed), Sub I I2 → W I2 H2 M → I2 a = some (.lst vs) → RpAll I2 vs (ds.map deedD) → insL (rowsOf t) = some ds → ds.length ≤ 10000 →
      CompW (fun H => H a = some (.lst vs)) vs.length (fun i x => vs[i]? = some x) (gName 3) tYes (tCall (sp_row_of K) [] E0 (tCons (tVar 3) tNil)) [3] [some (sV t), some (.ref a), none, none] H2 fun x H1 =>
        gJoin (V.str (Str.ofString "\n")) [x] H1 fun x H1 => scal x (sV t) = true ∧ if (!decide (x = sV t)) = true then WD E (Value.ref (He.ga K (Str.ofString "BadText"))) none [some (sV t), some (V.ref a), none, none] H1 else Q (V.ref a) H1 := by
    intro I2 H2 a vs ds s2 w2 ha ra hi hdl
    refine comp_rows w2 ha ra (ins_ok hi) hdl (fun _ => rfl) (fun _ => rfl) fun I3 H3 s3 w3 => ⟨rfl, ?_⟩
    have er : readL t = if textL ds = t then some ds else none := by unfold readL; rw [hi]
    by_cases c : textL ds = t
    · refine ite_nt (by rw [c]) (hok ds (by rw [er, if_pos c]) I3 H3 _ (s2.trans s3) w3 (.lst (s3 _ _ ha) (ra.mono s3)))
    · exact ite_nf (fun q => c (S_inj (V.str.inj q))) (hno (by rw [er, if_neg c]) I3 H3 (s2.trans s3) w3)
  by_cases c : t = []
  · refine ite_nt c ⟨Nat.zero_le _, fun p hp => ?_⟩
    obtain ⟨I2, s2, w2, h2⟩ := w.mkI hp (.lst [])
    exact fin I2 _ p [] [] s2 w2 h2 .nil (by unfold rowsOf; rw [if_pos c]; rfl) (by simp)
  · refine ite_nf c ⟨S t, Str.ofString "\n", rfl, rfl, rfl, by rw [S_len]; omega, fun p hp => ?_⟩
    have ero : rowsOf t = TL.spl [10] 0 [] t := by unfold rowsOf; rw [if_neg c]
    have esp : (Txt.split (S t) (Str.ofString "\n")).map V.str = (rowsOf t).map sV := by
      have h := TL.split_spl (S t) (Str.ofString "\n") (by rw [lit_nl]; decide) (TL.kind_ok (by decide +kernel))
      rw [lit_nl] at h
      have h2 : (Txt.split (S t) (S [10])).map TL.tl = rowsOf t := by rw [ero]; exact h
      rw [← h2, List.map_map, lit_nl]
      refine List.map_congr_left fun x _ => ?_
      show V.str x = V.str (S (TL.tl x))
      congr 1
    rw [esp]
    obtain ⟨I2, s2, w2, h2⟩ := w.mkI hp (.lst ((rowsOf t).map sV))
    refine ⟨p, rfl, _, upd_same, ?_⟩
    have rl : (rowsOf t).length ≤ 5001 := by
      have := rows_len t []
      rw [ero]; omega
    refine ⟨I2, M, CRd (rowsOf t) M, w2, by rw [List.length_map]; omega, ⟨rfl, [], rfl, .nil⟩, ?_, ?_, ?_⟩
    · rintro i I' acc M' D H' ⟨rfl, _⟩ sb w'
      exact w'.sub _ _ (sb _ _ h2)
    · rintro D i x H' I' acc M' hi hx sb w' ⟨rfl, ds, hds, ra⟩ _
      rw [List.getElem?_map, Option.map_eq_some_iff] at hx
      obtain ⟨r, hr, rfl⟩ := hx
      have hrl : r.length ≤ 100000 := by
        have := spl_sub t [] r (by rw [← ero]; exact List.mem_of_getElem? hr)
        simp only [List.length_nil] at this
        omega
      simp! [wipe]
      refine ⟨I', _, r, rfl, w', hrl, fun d hd I3 H3 p3 s3 w3 h3 => ?_, fun hd I3 H3 s3 w3 => ?_⟩
      · refine nxt s3 w3 ⟨rfl, ds ++ [d], by rw [take_succ_get hr, ins_snoc, hds]; simp [hd], ?_⟩
        rw [List.map_append]
        exact (ra.mono s3).snoc (dd_rp h3)
      · refine hno ?_ I3 H3 (s2.trans (sb.trans s3)) w3.drop
        unfold readL
        have hri := (List.getElem?_eq_some_iff.mp hr).1
        have : rowsOf t = (rowsOf t).take i ++ r :: (rowsOf t).drop (i + 1) := by
          conv => lhs; rw [← List.take_append_drop i (rowsOf t), List.drop_eq_getElem_cons hri, (List.getElem?_eq_some_iff.mp hr).2]
        rw [this, ins_bad hd]
    · rintro D H' I' acc M' sb w' ⟨rfl, ds, hds, ra⟩ _
      rw [List.length_map, List.take_length] at hds
      obtain ⟨I3, s3, w3, h3⟩ := w'.frz
      refine ⟨D, rfl, acc, w3.sub _ _ h3, ?_⟩
      exact fin I3 H' D acc ds (s2.trans (sb.trans s3)) w3 h3 (ra.mono s3) hds (by have := ins_len hds; omega)
theorem join_snoc : ∀ {ps : List Tx} {p : Tx}, ps ≠ [] → TL.joinL [10] (ps ++ [p]) = TL.joinL [10] ps ++ 10 :: p
  | [], _, h => absurd rfl h
  | [a], p, _ => rfl
  | a :: b :: r, p, _ => by
    have ih := join_snoc (ps := b :: r) (p := p) (by simp)
    rw [List.cons_append, List.cons_append, TL.joinL, TL.joinL]
    rw [List.cons_append] at ih
    rw [ih]
    simp
theorem text_snoc (ds : List Deed) (d : Deed) : textL (ds ++ [d]) = textL ds ++ (if ds = [] then [] else [10]) ++ rowT d := by
  unfold textL
  rw [List.map_append, List.map_cons, List.map_nil]
  cases ds with
  | nil => rfl
  | cons x xs =>
    rw [join_snoc (by simp), if_neg (by simp)]
    simp
theorem dd_w (d : Deed) : ∃ (w : Str) (rest : List V), ddV d.dd = .str w :: rest ∧ w = S d.w ∧ (d.r = none → rest = []) ∧ ∀ l, d.r = some l → ∃ x, rest = [x] := by
  cases d with
  | put l => exact ⟨_, _, rfl, lit_put, fun q => (by cases q), fun _ _ => ⟨_, rfl⟩⟩
  | key l => exact ⟨_, _, rfl, lit_key, fun q => (by cases q), fun _ _ => ⟨_, rfl⟩⟩
  | rub => exact ⟨_, _, rfl, lit_rub, fun q => rfl, fun _ q => by cases q⟩
  | tick n => exact ⟨_, _, rfl, lit_tick, fun q => (by cases q), fun _ _ => ⟨_, rfl⟩⟩
  | again => exact ⟨_, _, rfl, lit_again, fun q => rfl, fun _ q => by cases q⟩
  | add l => exact ⟨_, _, rfl, lit_add, fun q => (by cases q), fun _ _ => ⟨_, rfl⟩⟩
  | rem l => exact ⟨_, _, rfl, lit_rem, fun q => (by cases q), fun _ _ => ⟨_, rfl⟩⟩
structure PTx (I : Hp) (M : List (Addr × HO)) (a : Addr) (ds : List Deed) (i : Nat) (σ : L2.St) (H : Hp) : Prop where
  ex : ∃ v : Option V, σ = [some (.ref a), some (sV (textL (ds.take i))), v] ∧ W I H M
theorem pure__law_text : ∀ vs H Q E, sp__law_text K vs H Q E → t__law_text K E { nx := fun _ H2 => Q .non H2, rt := Q } (L2.start nn__law_text vs) H := by
  rintro vs H Q E ⟨I, M, v, ds, rfl, w, rv, ok, hl, hQ⟩
  have hb := line_big
  obtain ⟨a, vs, rfl, ha, ra⟩ := rp_list rv
  obtain ⟨zs, rfl, e2, en⟩ := enc_of ra
  have zl : ds.length = zs.length := by rw [e2, List.length_map]
  have ha1 := w.sub _ _ ha
  unfold t__law_text
  simp! [ha1, lit_e, List.length_map]
  refine ⟨by omega, by omega, PTx I M a ds, ⟨none, rfl, w⟩, ?_, ?_⟩
  · rintro i σ H' hi ⟨v, rfl, w'⟩
    have hi2 : i < ds.length := by omega
    have hdi : ds[i]? = some ds[i] := List.getElem?_eq_getElem hi2
    have hzi : zs[i]? = some zs[i] := List.getElem?_eq_getElem (by omega)
    have ez2 : zs[i].2 = ds[i] := by
      have : ds[i]? = some zs[i].2 := by rw [e2, List.getElem?_map, hzi]; rfl
      rw [hdi] at this
      exact (Option.some.inj this).symm
    obtain ⟨p, hp, hp2⟩ := rp_dd (en zs[i] (List.getElem_mem _))
    rw [ez2] at hp2
    have hp3 := w'.sub _ _ hp2
    have ha3 := w'.sub _ _ ha
    have hat : atI (zs.map Prod.fst) (0 + (i : Int)) = some (.ref p) := by
      rw [Int.zero_add]
      exact atN (by rw [List.getElem?_map, hzi, ← hp]; rfl)
    have tl := text_len (ds := ds.take i) fun d hd => ok d (List.mem_of_mem_take hd)
    have tl2 : (ds.take i).length ≤ 10000 := by rw [List.length_take]; omega
    have rl := row_len (ok ds[i] (List.getElem_mem _))
    simp! [ha3, hat, hp3]
    obtain ⟨wS, rest, ev, ew, en0, en1⟩ := dd_w ds[i]
    have wl : ds[i].w.length ≤ 50 := str_len (ok ds[i] (List.getElem_mem _)) _ List.mem_cons_self
    have go : ∀ (sep : Tx) (sS : Str), sS = S sep → textL (ds.take (i + 1)) = textL (ds.take i) ++ sep ++ rowT ds[i] → sep.length ≤ 1 → (S (textL (List.take i ds))).length + sS.length ≤ sizeLine ∧ ∃ x, atI (ddV ds[i].dd) 0 = some x ∧ ∃ x_1, x = V.str x_1 ∧ (S (textL (List.take i ds)) ++ sS).length + x_1.length ≤ sizeLine ∧
        if decide (1 < ((ddV ds[i].dd).length : Int)) = true then (S (textL (List.take i ds)) ++ sS ++ x_1).length + (Str.ofString " ").length ≤ sizeLine ∧ ∃ x, atI (ddV ds[i].dd) 1 = some x ∧ gStrA [x] H' fun y H2 => ∃ x, y = V.str x ∧ (S (textL (List.take i ds)) ++ sS ++ x_1 ++ Str.ofString " ").length + x.length ≤ sizeLine ∧
              PTx I M a ds (i + 1) [some (V.ref a), some (V.str (S (textL (List.take i ds)) ++ sS ++ x_1 ++ Str.ofString " " ++ x)), some (V.int (0 + (i : Int)))] H2
        else PTx I M a ds (i + 1) [some (V.ref a), some (V.str (S (textL (List.take i ds)) ++ sS ++ x_1)), some (V.int (0 + (i : Int)))] H' := by
      intro sep sS es et el
      subst es
      refine ⟨by rw [S_len, S_len]; omega, _, by rw [ev]; exact atI0, wS, rfl, by rw [ew, S_cat, S_len, S_len, List.length_append]; omega, ?_⟩
      subst ew
      cases hr : ds[i].r with
      | none =>
        have e0 := en0 hr
        subst e0
        refine ite_f (by rw [ev]; simp) ⟨some (V.int (0 + (i : Int))), ?_, w'⟩
        rw [et, S_cat, S_cat, show rowT ds[i] = ds[i].w by unfold rowT; rw [hr]]
      | some l =>
        obtain ⟨x, e1⟩ := en1 l hr
        subst e1
        have hs : strD ds[i] = [ds[i].w, l] := by unfold strD; rw [hr]; rfl
        have ll : l.length ≤ 50 := str_len (ok ds[i] (List.getElem_mem _)) _ (by rw [hs]; simp)
        refine ite_t (by rw [ev]; simp) ⟨by rw [lit_b, S_cat, S_cat, S_len, S_len, List.length_append, List.length_append, List.length_singleton]; omega, x, by rw [ev]; exact at2_1', ?_⟩
        refine strA_ok (d := ds[i]) (i := 1) (ok ds[i] (List.getElem_mem _)) (by rw [ev]; rfl) fun l' hl' => ?_
        rw [hs] at hl'
        cases hl'
        refine ⟨S l, rfl, by rw [lit_b, S_cat, S_cat, S_cat, S_len, S_len]; simp only [List.length_append, List.length_singleton]; omega, ⟨some (V.int (0 + (i : Int))), ?_, w'⟩⟩
        rw [et, lit_b, S_cat, S_cat, S_cat, S_cat, show rowT ds[i] = ds[i].w ++ 32 :: l by unfold rowT; rw [hr]]
        simp
    have et := text_snoc (ds.take i) ds[i]
    rw [← take_succ_get hdi] at et
    by_cases c : i = 0
    · refine ite_f (by omega) (go [] _ rfl (by rw [et, if_pos (by rw [c]; rfl)]) (by simp))
    · refine ite_t (by omega) (go [10] _ lit_nl (by rw [et, if_neg (fun q => by have h9 := congrArg List.length q; rw [List.length_take] at h9; have h9 : min i ds.length = 0 := h9; omega)]) (by simp))
  · rintro σ H' ⟨v, rfl, w'⟩
    simp! [and_true]
    rw [List.take_of_length_le (by omega)]
    exact hQ H' w'
end
end TA

set_option linter.all false
set_option maxRecDepth 100000
set_option maxHeartbeats 2000000
/-! law_k51_whole_diary_texts: its own defs. -/
namespace TA
open PySem L2 PyProof.Rows
open SX (S S_len S_inj S_cat S_tl)
local macro_rules | `(tactic| simp! [$as,*]) => `(tactic| first | simp only [L2.start, tSeq, tAsg, tOp, fFld, tVar, gIxL, gIxT, tCB, tCons, tNil, gLenL, gLenT, gLenS, rI, rI0, fSet, tIfS, tTest, tB, rNotN, rIsN, rEq, rNe, tC, tDrop, fBM, fBM0, gTy, rAppend, tTup, tLst, tRet, tRetN, tNext, gName, fTup, gCons, gNil, tCall, fCallS, fMeth, tMeth, fMethS, fMake, tMake, fMakeS, tUn, rU, tAnd, tOr, tNot, tAndV, tOrV, tNotV, tIf, tChain, gListL, gListT, tSl, tNoPart, tPart, gSlL, fRaise, gStrI, gCatS, gMin2, gMax2, gIntB, tYes, fLcL, fLcT, fLcS, fLcR1, fForL, fForR1, fForR2, fRev, fGetI, gGetI, gInI, gLenI, fPutI, fNewI,
  List.map_cons, List.map_nil, List.length_cons, List.length_nil, List.replicate, List.cons_append, List.nil_append, List.append_nil, List.getElem?_cons_zero, List.getElem?_cons_succ, List.set_cons_zero, List.set_cons_succ, reduceIte, Bool.not_true, Bool.not_false, Nat.reduceAdd, Nat.reduceSub, Bool.false_eq_true, eq_self,
  Option.some.injEq, V.int.injEq, V.ref.injEq, V.str.injEq, V.bl.injEq, HO.ins.injEq, HO.lst.injEq, HO.tup.injEq, HO.dK.injEq, List.cons.injEq, and_assoc, exists_eq_left', exists_and_left, and_true, true_and, true_or, or_true, false_or, or_false, exists_eq_left, exists_eq_right, exists_eq_right', exists_eq, exists_eq', exists_const, upd_same, sc_ii, sc_ss, sc_bb, sc_in, sc_ni, sc_ns, sc_sn, sc_nn, $as,*] | skip)
/-- what is asked: a text read, deeds written, deeds played by rules that can't be, by rules that can -/
inductive Ask5 | read (t : Tx) | write (zs : List (V × Dd)) (ds : List Deed) | bad (zs : List (V × Dd)) | play (zs : List (V × Dd)) (e : Str)
def kind5 : Ask5 → Int
  | .read _ => 0
  | .write _ _ => 1
  | .bad _ => 2
  | .play _ _ => 3
/-- the value that stands for it -/
def in5 (I : Hp) (v : V) : Ask5 → Prop
  | .read t => v = sV t ∧ t.length ≤ 5000
  | .write zs ds => (∃ l, v = .ref l ∧ I l = some (.lst (zs.map Prod.fst))) ∧ Enc I ddD zs ∧ (∀ z ∈ zs, ddW z.2) ∧ zs.length ≤ 3000 ∧ (ddsE (zs.map Prod.snd) = none → zs.map Prod.snd = ds.map Deed.dd)
  | .bad zs => (∃ l, v = .ref l ∧ I l = some (.lst (zs.map Prod.fst))) ∧ Enc I ddD zs ∧ (∀ z ∈ zs, ddW z.2) ∧ zs.length ≤ 100
  | .play zs e => (∃ l, v = .ref l ∧ I l = some (.lst (zs.map Prod.fst))) ∧ Enc I ddD zs ∧ (∀ z ∈ zs, ddW z.2) ∧ zs.length ≤ 100 ∧ ddsE (zs.map Prod.snd) = some e
/-- what comes of it -/
def outR (t : Tx) : PyData ⊕ Str := match readL t with
  | some ds => .inl (.list (ds.map deedD))
  | none => .inr "BadText"
def outW (zs : List (V × Dd)) (ds : List Deed) : PyData ⊕ Str := match ddsE (zs.map Prod.snd) with
  | some e => .inr e
  | none => .inl (sD (textL ds))
def outB (zs : List (V × Dd)) : PyData ⊕ Str := match ddsE (zs.map Prod.snd) with
  | some e => .inr e
  | none => .inr "BadNumber"
def out5 : Ask5 → PyData ⊕ Str
  | .read t => outR t
  | .write zs ds => outW zs ds
  | .bad zs => outB zs
  | .play _ e => .inr e
theorem ddW_okP {d : Deed} (h : deedE d = none) : ddW d.dd := by
  cases d with
  | put l => exact ⟨by decide +kernel, by have := okL_len (arE_tx h); omega⟩
  | key l => exact ⟨by decide +kernel, by have := okL_len (arE_tx h); omega⟩
  | rub => exact trivial
  | tick n => rfl
  | again => exact trivial
  | add l => exact ⟨by decide +kernel, by have := okL_len (arE_tx h); omega⟩
  | rem l => exact ⟨by decide +kernel, by have := okL_len (arE_tx h); omega⟩
theorem ddE_errs {d : Dd} {e : Str} (h : ddE d = some e) : e ∈ errs := by
  cases d with
  | nil => cases h; decide +kernel
  | one w a =>
    rw [ddE_one] at h
    split at h
    · cases a with
      | no => cases h
      | tx l => rw [arE_txE] at h; split at h <;> cases h; decide +kernel
      | nm n => rw [arE_nmE] at h; split at h <;> cases h; decide +kernel
    · cases h; decide +kernel
theorem ddsE_errs {l : List Dd} {e : Str} (h : ddsE l = some e) : e ∈ errs := by
  unfold ddsE at h
  obtain ⟨d, _, hd⟩ := List.exists_of_findSome?_eq_some h
  exact ddE_errs hd
theorem out5_errs {I : Hp} {v : V} {q : Ask5} {e : Str} (hi : in5 I v q) (h : out5 q = .inr e) : e ∈ errs := by
  cases q with
  | read t =>
    have h : outR t = .inr e := h
    unfold outR at h
    cases c : readL t with
    | none => rw [c] at h; cases h; decide +kernel
    | some ds => rw [c] at h; cases h
  | write zs ds =>
    have h : outW zs ds = .inr e := h
    unfold outW at h
    cases c : ddsE (zs.map Prod.snd) with
    | none => rw [c] at h; cases h
    | some x => rw [c] at h; cases h; exact ddsE_errs c
  | bad zs =>
    have h : outB zs = .inr e := h
    unfold outB at h
    cases c : ddsE (zs.map Prod.snd) with
    | none => rw [c] at h; cases h; decide +kernel
    | some x => rw [c] at h; cases h; exact ddsE_errs c
  | play zs x => cases h; exact ddsE_errs hi.2.2.2.2
def sp__law_one (K : PySem.W.Frag) : Sp := fun vs H Q E => ∃ (I : Hp) (M : List (Addr × HO)) (v : V) (q : Ask5), vs = [.int (kind5 q), v] ∧ W I H M ∧ in5 I v q ∧
  (∀ d, out5 q = .inl d → ∀ I' H' u, Sub I I' → W I' H' M → Rp I' u d → Q u H') ∧ ∀ e, out5 q = .inr e → ∀ I' H', Sub I I' → W I' H' M → E (.ref (He.ga K e)) none H'
def told5 (q : Ask5) : PyData := match out5 q with
  | .inl d => .tuple [.str "found", d]
  | .inr e => refD (some e)
def sp__law_told (K : PySem.W.Frag) : Sp := fun vs H Q E => ∃ (I : Hp) (M : List (Addr × HO)) (v : V) (q : Ask5), vs = [.int (kind5 q), v] ∧ W I H M ∧ in5 I v q ∧ ∀ I' H' u, Sub I I' → W I' H' M → Rp I' u (told5 q) → Q u H'
def t__law_one (K : PySem.W.Frag) (E : XK) : TS := tSeq (tIfS (tTest (tOp (rI0 fun i j => .bl (decide (i < j))) (tVar 0) (tC (.int 2)))) (tRet (tIf (tTest (tOp (rEq) (tVar 0) (tC (.int 0)))) (tCall (sp_read_diary K) [] E (tCons (tVar 1) (tNil))) (tCall (sp_diary_text K) [] E (tCons (tVar 1) (tNil))))) (tNext)) (tRet (tIf (tTest (tOp (rEq) (tVar 0) (tC (.int 2)))) (tCall (sp_played K) [] E (tCons (tLst (tCons (tC (.int 0)) (tNil))) (tCons (tTup (tCons (tC (.int 9)) (tCons (tC (.int 0)) (tNil)))) (tCons (tTup (tCons (tC (.int 0)) (tCons (tC (.int 10)) (tCons (tC (.int 0)) (tCons (tC (.int 0)) (tNil)))))) (tCons (tVar 1) (tNil)))))) (tCall (sp_played K) [] E (tCons (tLst (tCons (tC (.int 1)) (tNil))) (tCons (tTup (tCons (tC (.int 1)) (tCons (tC (.int 1)) (tNil)))) (tCons (tTup (tCons (tC (.int 1)) (tCons (tC (.int 0)) (tCons (tC (.int 1)) (tCons (tC (.int 1)) (tNil)))))) (tCons (tVar 1) (tNil))))))))
abbrev nn__law_one : List Str := ["kind", "given"]
def t__law_told (K : PySem.W.Frag) (E : XK) : TS := tSeq (tAsg (tC .non) (gName 2)) (tSeq (tAsg (tC .non) (gName 3)) (tSeq (fun D σ H => (fun W : WX => tAsg (fCallS (sp__law_one K) W (tCons (tVar 0) (tCons (tVar 1) (tNil)))) (gName 3)) (wHold (errV K) 4 2 D) D σ H) (tRet (tIf (tTest (tOp (rIsN) (tVar 2) (tC .non))) (tTup (tCons (tC (.str "found")) (tCons (tVar 3) (tNil)))) (tCall (sp__law_refusal K) [] E (tCons (tVar 2) (tNil)))))))
abbrev nn__law_told : List Str := ["kind", "some", "caught", "found", "e"]
section
variable {K : PySem.W.Frag}
theorem len__law_one : ∀ vs H Q E, sp__law_one K vs H Q E → vs.length = ["kind", "given"].length := by
  rintro _ _ _ _ ⟨_, _, _, _, rfl, _⟩; rfl
theorem len__law_told : ∀ vs H Q E, sp__law_told K vs H Q E → vs.length = ["kind", "some"].length := by
  rintro _ _ _ _ ⟨_, _, _, _, rfl, _⟩; rfl
theorem pure__law_one : ∀ vs H Q E, sp__law_one K vs H Q E → t__law_one K E { nx := fun _ H2 => Q .non H2, rt := Q } (L2.start nn__law_one vs) H := by
  rintro vs H Q E ⟨I, M, v, q, rfl, w, hi, hok, hbad⟩
  have hb := line_big
  unfold t__law_one
  cases q with
  | read t =>
    obtain ⟨rfl, hl⟩ := hi
    simp! [kind5]
    refine ite_t (by decide) (ite_t (by decide) ?_)
    refine ⟨I, M, t, rfl, w, hl, fun ds h I' H' u s' w' r => hok _ (by show outR t = _; unfold outR; rw [h]) I' H' u s' w' r, fun h I' H' s' w' => hbad _ (by show outR t = _; unfold outR; rw [h]) I' H' s' w'⟩
  | write zs ds =>
    obtain ⟨⟨l, rfl, hl⟩, en, wt, zl, hd⟩ := hi
    simp! [kind5]
    refine ite_t (by decide) (ite_f (by decide) ?_)
    refine ⟨I, M, l, zs, ds, rfl, w, hl, en, wt, by omega, fun e h H' w' => hbad e (by show outW zs ds = _; unfold outW; rw [h]) I H' (Sub.refl _) w', fun h => ⟨hd h, fun I' H' s' w' => hok _ (by show outW zs ds = _; unfold outW; rw [h]) I' H' _ s' w' (.str _)⟩⟩
  | bad zs =>
    obtain ⟨⟨l, rfl, hl⟩, en, wt, zl⟩ := hi
    simp! [kind5]
    refine ite_f (by decide) (ite_t (by decide) ⟨by omega, fun p1 hp1 => ?_⟩)
    obtain ⟨I1, s1, w1, h1⟩ := w.mkI hp1 (.lst [.int 0])
    refine ⟨two_le, fun p2 hp2 => ?_⟩
    obtain ⟨I2, s2, w2, h2⟩ := w1.mkI hp2 (.tup [.int 9, .int 0])
    refine ⟨by omega, fun p3 hp3 => ?_⟩
    obtain ⟨I3, s3, w3, h3⟩ := w2.mkI hp3 (.tup [.int 0, .int 10, .int 0, .int 0])
    have s13 := s1.trans (s2.trans s3)
    refine ⟨I3, M, p1, p2, p3, l, ⟨0, 10, 0, 0, [some 0], 9, 0⟩, zs, [], rfl, w3, (s2.trans s3) _ _ h1, s3 _ _ h2, h3, s13 _ _ hl, en.mono s13, wt, zl, by simp, fun _ h => absurd h (by decide), fun e h H' w' => hbad e (by show outB zs = _; unfold outB; rw [h]) I3 H' s13 w', fun h _ I' H' s' w' => hbad _ (by show outB zs = _; unfold outB; rw [h]) I' H' (s13.trans s') w'⟩
  | play zs e =>
    obtain ⟨⟨l, rfl, hl⟩, en, wt, zl, he⟩ := hi
    simp! [kind5]
    refine ite_f (by decide) (ite_f (by decide) ⟨by omega, fun p1 hp1 => ?_⟩)
    obtain ⟨I1, s1, w1, h1⟩ := w.mkI hp1 (.lst [.int 1])
    refine ⟨two_le, fun p2 hp2 => ?_⟩
    obtain ⟨I2, s2, w2, h2⟩ := w1.mkI hp2 (.tup [.int 1, .int 1])
    refine ⟨by omega, fun p3 hp3 => ?_⟩
    obtain ⟨I3, s3, w3, h3⟩ := w2.mkI hp3 (.tup [.int 1, .int 0, .int 1, .int 1])
    have s13 := s1.trans (s2.trans s3)
    refine ⟨I3, M, p1, p2, p3, l, ⟨1, 0, 1, 1, [some 1], 1, 1⟩, zs, [], rfl, w3, (s2.trans s3) _ _ h1, s3 _ _ h2, h3, s13 _ _ hl, en.mono s13, wt, zl, by simp, fun h => (by rw [he] at h; cases h), fun e' h H' w' => (by rw [he] at h; cases h; exact hbad e rfl I3 H' s13 w'), fun h => (by rw [he] at h; cases h)⟩
theorem pure__law_told : ∀ vs H Q E, sp__law_told K vs H Q E → t__law_told K E { nx := fun _ H2 => Q .non H2, rt := Q } (L2.start nn__law_told vs) H := by
  rintro vs H Q E ⟨I, M, v, q, rfl, w, hi, hQ⟩
  unfold t__law_told
  simp! [and_true]
  refine ⟨I, M, v, q, rfl, w, hi, fun d e I1 H1 u s1 w1 r1 => ?_, fun x e I1 H1 s1 w1 => ?_⟩
  · have et : told5 q = .tuple [.str "found", d] := by unfold told5; rw [e]
    rw [et] at hQ
    refine ite_t (B := sp__law_refusal K [V.non] H1 Q E) trivial ⟨two_le, fun p hp => ?_⟩
    obtain ⟨I2, s2, w2, h2⟩ := w1.mkI hp (.tup [.str "found", u])
    exact hQ I2 _ _ (s1.trans s2) w2 (.tup h2 (.cons (.str _) (.cons (r1.mono s2) .nil)))
  · have et : told5 q = refD (some x) := by unfold told5; rw [e]
    rw [et] at hQ
    refine ⟨errV_in (out5_errs hi e), rfl, fun b hb => ?_⟩
    simp! [decide_false, reduceCtorEq]
    obtain ⟨I2, s2, w2, h2⟩ := w1.mkI hb (ExC (.ref (He.ga K x)) b)
    exact ⟨I2, M, .ref b, some x, rfl, w2, ⟨out5_errs hi e, b, rfl, h2⟩, fun I3 H3 v' s3 w3 r => hQ I3 H3 v' (s1.trans (s2.trans s3)) w3 r⟩
end
end TA

set_option linter.all false
set_option maxRecDepth 100000
set_option maxHeartbeats 2000000
/-! law_k51_whole_diary_texts. -/
namespace TA
open PySem L2 PyProof.Rows
open SX (S S_len S_inj S_cat S_tl)
local macro_rules | `(tactic| simp! [$as,*]) => `(tactic| first | simp only [L2.start, tSeq, tAsg, tOp, fFld, tVar, gIxL, gIxT, tCB, tCons, tNil, gLenL, gLenT, gLenS, rI, rI0, fSet, tIfS, tTest, tB, rNotN, rIsN, rEq, rNe, tC, tDrop, fBM, fBM0, gTy, rAppend, tTup, tLst, tRet, tRetN, tNext, gName, fTup, gCons, gNil, tCall, fCallS, fMeth, tMeth, fMethS, fMake, tMake, fMakeS, tUn, rU, tAnd, tOr, tNot, tAndV, tOrV, tNotV, tIf, tChain, gListL, gListT, tSl, tNoPart, tPart, gSlL, fRaise, gStrI, gCatS, gMin2, gMax2, gIntB, tYes, fLcL, fLcT, fLcS, fLcR1, fForL, fForR1, fForR2, fRev, fGetI, gGetI, gInI, gLenI, fPutI, fNewI,
  List.map_cons, List.map_nil, List.length_cons, List.length_nil, List.replicate, List.cons_append, List.nil_append, List.append_nil, List.getElem?_cons_zero, List.getElem?_cons_succ, List.set_cons_zero, List.set_cons_succ, reduceIte, Bool.not_true, Bool.not_false, Nat.reduceAdd, Nat.reduceSub, Bool.false_eq_true, eq_self,
  Option.some.injEq, V.int.injEq, V.ref.injEq, V.str.injEq, V.bl.injEq, HO.ins.injEq, HO.lst.injEq, HO.tup.injEq, HO.dK.injEq, List.cons.injEq, and_assoc, exists_eq_left', exists_and_left, and_true, true_and, true_or, or_true, false_or, or_false, exists_eq_left, exists_eq_right, exists_eq_right', exists_eq, exists_eq', exists_const, upd_same, sc_ii, sc_ss, sc_bb, sc_in, sc_ni, sc_ns, sc_sn, sc_nn, $as,*] | skip)
def sp_law (K : PySem.W.Frag) : Sp := fun vs H Q _ => ∃ (a : Addr), vs = [.ref a] ∧ Scr K H a ∧ ∀ H', Q (.bl true) H'
def t_law_L1_3 (K : PySem.W.Frag) (E : XK) : TS := tSeq (tAsg (tCall (sp__law_told K) [] E (tCons (tC (.int 0)) (tCons (tVar 11) (tNil)))) (gName 12)) (tIfS (tTest (tOp (rEq) (tOp gIxT (tVar 12) (tC (.int 0))) (tC (.str "found")))) (tIfS (tOr (tTest (tOp (rNe) (tCall (sp__law_text K) [] E (tCons (tOp gIxT (tVar 12) (tC (.int 1))) (tNil))) (tVar 11))) (tTest (tOp (gNeD) (tCall (sp__law_told K) [] E (tCons (tC (.int 1)) (tCons (tOp gIxT (tVar 12) (tC (.int 1))) (tNil)))) (tTup (tCons (tC (.str "found")) (tCons (tVar 11) (tNil))))))) (tRet (tC (.bl false))) (tNext)) (tIfS (tTest (tOp (gNeD) (tVar 12) (tTup (tCons (tC (.str "refused")) (tCons (tC (.str "text")) (tNil)))))) (tRet (tC (.bl false))) (tNext)))
def t_law_L1_0 (K : PySem.W.Frag) (E : XK) : TS := tSeq (tAsg (tCall (sp__law_draw K) [] E (tCons (tVar 0) (tCons (tVar 1) (tCons (tOp (rI0 fun i j => .int (i + j)) (tCB (gLenS) (tCons (tVar 3) (tNil))) (tC (.int 1))) (tNil))))) (gName 4)) (tSeq (tAsg (tCall (sp__law_pick K) [] E (tCons (tVar 0) (tCons (tVar 1) (tCons (tLst (tCons (tC (.str "")) (tCons (tC (.str "a")) (tCons (tC (.str " ")) (tCons (tC (.str "\n")) (tCons (tC (.str "0")) (tCons (tC (.str "9")) (tCons (tC (.str "rub")) (tCons (tC (.str "tick 1")) (tCons (tC (.str "\nagain")) (tCons (tC (.str "-")) (tCons (tC (.str "\nkey b")) (tNil))))))))))))) (tNil))))) (gName 10)) (tSeq (tAsg (tOp (gCatS) (tOp (gCatS) (tSl rSlS (tVar 3) (tNoPart) (tPart (tVar 4))) (tVar 10)) (tSl rSlS (tVar 3) (tPart (tOp (rI0 fun i j => .int (i + j)) (tVar 4) (tCall (sp__law_draw K) [] E (tCons (tVar 0) (tCons (tVar 1) (tCons (tC (.int 2)) (tNil))))))) (tNoPart))) (gName 11)) (t_law_L1_3 K E)))
def t_law_B1_13 (K : PySem.W.Frag) (E : XK) : TS := tSeq (tAsg (tLst (tCons (tC (.str "\n")) (tCons (tC (.str "rub ")) (tCons (tC (.str "rub\n")) (tCons (tC (.str "tick")) (tCons (tC (.str "tick ")) (tCons (tC (.str "tick 01")) (tCons (tC (.str "tick 1000")) (tCons (tC (.str "tick -1")) (tCons (tC (.str "wait a")) (tCons (tC (.str "key")) (tNil)))))))))))) (gName 5)) (tSeq (tAsg (tOp (rCat) (tVar 5) (tLst (tCons (tC (.str "again 1")) (tCons (tC (.str " rub")) (tCons (tC (.str "Rub")) (tNil)))))) (gName 5)) (tRet (tOp (gEqD) (tCall (sp__law_told K) [] E (tCons (tC (.int 0)) (tCons (tCall (sp__law_pick K) [] E (tCons (tVar 0) (tCons (tVar 1) (tCons (tVar 5) (tNil))))) (tNil)))) (tTup (tCons (tC (.str "refused")) (tCons (tC (.str "text")) (tNil)))))))
def t_law_B1_11 (K : PySem.W.Frag) (E : XK) : TS := tSeq (tIfS (tTest (tOp (gNeD) (tCall (sp__law_told K) [] E (tCons (tC (.int 2)) (tCons (tLst (tNil)) (tNil)))) (tTup (tCons (tC (.str "refused")) (tCons (tC (.str "number")) (tNil)))))) (tRet (tC (.bl false))) (tNext)) (tSeq (fForR1 (tCons (tC (.int 5)) (tNil)) (gName 9) (t_law_L1_0 K E)) (t_law_B1_13 K E))
def t_law_B1_9 (K : PySem.W.Frag) (E : XK) : TS := tSeq (tAsg (tOp (rCat) (tOp (rCat) (tSl gSlL (tVar 2) (tNoPart) (tPart (tVar 4))) (tLst (tCons (tVar 6) (tNil)))) (tSl gSlL (tVar 2) (tPart (tVar 4)) (tNoPart))) (gName 8)) (tSeq (tIfS (tTest (tOp (gNeD) (fLcT (tTup (tCons (tC (.int 1)) (tCons (tC (.int 2)) (tCons (tC (.int 3)) (tNil))))) (gName 14) (tYes) (tCall (sp__law_told K) [] E0 (tCons (tVar 14) (tCons (tCB (gListL) (tCons (tVar 8) (tNil))) (tNil)))) [14]) (tOp (rRep) (tLst (tCons (tTup (tCons (tC (.str "refused")) (tCons (tVar 7) (tNil)))) (tNil))) (tC (.int 3))))) (tRet (tC (.bl false))) (tNext)) (t_law_B1_11 K E))
def t_law_B1_4 (K : PySem.W.Frag) (E : XK) : TS := tSeq (tAsg (tCall (sp__law_draw K) [] E (tCons (tVar 0) (tCons (tVar 1) (tCons (tOp (rI0 fun i j => .int (i + j)) (tCB (gLenL) (tCons (tVar 2) (tNil))) (tC (.int 1))) (tNil))))) (gName 4)) (tSeq (tAsg (tLst (tCons (tTup (tCons (tTup (tNil)) (tCons (tC (.str "ask")) (tNil)))) (tCons (tTup (tCons (tTup (tCons (tC (.str "wait")) (tCons (tC (.str "a")) (tNil)))) (tCons (tC (.str "ask")) (tNil)))) (tCons (tTup (tCons (tTup (tCons (tC (.str "rub")) (tCons (tC (.str "a")) (tNil)))) (tCons (tC (.str "ask")) (tNil)))) (tCons (tTup (tCons (tTup (tCons (tC (.str "tick")) (tNil))) (tCons (tC (.str "ask")) (tNil)))) (tCons (tTup (tCons (tTup (tCons (tC (.str "tick")) (tCons (tC (.int 1000)) (tNil)))) (tCons (tC (.str "number")) (tNil)))) (tNil))))))) (gName 5)) (tSeq (tAsg (tOp (rCat) (tVar 5) (tLst (tCons (tTup (tCons (tTup (tCons (tC (.str "tick")) (tCons (tOp (rI0 fun i j => .int (i - j)) (tC (.int 0)) (tC (.int 1))) (tNil)))) (tCons (tC (.str "number")) (tNil)))) (tCons (tTup (tCons (tTup (tCons (tC (.str "key")) (tCons (tOp (gRepS) (tC (.str "a")) (tC (.int 41))) (tNil)))) (tCons (tC (.str "text")) (tNil)))) (tCons (tTup (tCons (tTup (tCons (tC (.str "add")) (tCons (tC (.str "a\n")) (tNil)))) (tCons (tC (.str "text")) (tNil)))) (tNil)))))) (gName 5)) (tSeq (tDrop (fBM "list" rAppend (tVar 5) (tCons (tTup (tCons (tTup (tCons (tC (.str "put")) (tCons (tOp (gRepS) (tC (.str "~~")) (tC (.int 21))) (tNil)))) (tCons (tC (.str "text")) (tNil)))) (tNil)))) (tSeq (tAsg (tCall (sp__law_pick K) [] E (tCons (tVar 0) (tCons (tVar 1) (tCons (tVar 5) (tNil))))) (fTup 2 (gCons (gName 6) (gCons (gName 7) (gNil))))) (t_law_B1_9 K E)))))
def t_law_B1_2 (K : PySem.W.Frag) (E : XK) : TS := tSeq (tAsg (tCall (sp__law_text K) [] E (tCons (tVar 2) (tNil))) (gName 3)) (tSeq (tIfS (tOr (tTest (tOp (gNeD) (tCall (sp__law_told K) [] E (tCons (tC (.int 1)) (tCons (tVar 2) (tNil)))) (tTup (tCons (tC (.str "found")) (tCons (tVar 3) (tNil)))))) (tTest (tOp (gNeD) (tCall (sp__law_told K) [] E (tCons (tC (.int 0)) (tCons (tVar 3) (tNil)))) (tTup (tCons (tC (.str "found")) (tCons (tVar 2) (tNil))))))) (tRet (tC (.bl false))) (tNext)) (t_law_B1_4 K E))
def t_law (K : PySem.W.Frag) (E : XK) : TS := tSeq (tAsg (tLst (tNil)) (gName 1)) (tSeq (tAsg (fLcR1 (tCons (tCall (sp__law_draw K) [] E (tCons (tVar 0) (tCons (tVar 1) (tCons (tC (.int 13)) (tNil))))) (tNil)) (gName 13) (tYes) (tCall (sp__law_deed K) [] E0 (tCons (tVar 0) (tCons (tVar 1) (tNil)))) [13]) (gName 2)) (t_law_B1_2 K E))
abbrev nn_law : List Str := ["script", "town", "deeds", "text", "at", "odd", "bad", "word", "some", "bend", "sign", "bent", "told", "k", "kind"]
section
variable {K : PySem.W.Frag}
theorem len_law : ∀ vs H Q E, sp_law K vs H Q E → vs.length = ["script"].length := by
  rintro _ _ _ _ ⟨_, rfl, _⟩; rfl
theorem Dr.told {I H : Hp} {a t : Addr} {n : Nat} {M : List (Addr × HO)} {q : Ask5} {v : V} {Q : VK} {E : XK} (d : Dr K I H a t n M) (hi : in5 I v q) (k : ∀ I' H' u, Sub I I' → Dr K I' H' a t n M → Rp I' u (told5 q) → Q u H') : sp__law_told K [.int (kind5 q), v] H Q E := by
  obtain ⟨sc, tz, ltz, w⟩ := d
  exact ⟨I, _, v, q, rfl, w, hi, fun I' H' u s' w' r => k I' H' u s' ⟨sc.mono s', tz, ltz, w'⟩ r⟩
/-- what the law holds of its deeds -/
structure KD (I : Hp) (pe : Addr) (ys : List (V × Deed)) : Prop where
  he : I pe = some (.lst (ys.map Prod.fst))
  en : Enc I deedD ys
  ok : ∀ y ∈ ys, deedE y.2 = none
  yl : ys.length ≤ 12
theorem KD.mono {I I' : Hp} {pe : Addr} {ys : List (V × Deed)} (h : KD I pe ys) (s : Sub I I') : KD I' pe ys := ⟨s _ _ h.he, h.en.mono s, h.ok, h.yl⟩
abbrev KD.ds (ys : List (V × Deed)) : List Deed := ys.map Prod.snd
theorem KD.dok {I : Hp} {pe : Addr} {ys : List (V × Deed)} (h : KD I pe ys) : ∀ d ∈ ys.map Prod.snd, deedE d = none := fun d hd => by
  obtain ⟨y, hy, rfl⟩ := List.mem_map.mp hd
  exact h.ok y hy
theorem KD.rp {I : Hp} {pe : Addr} {ys : List (V × Deed)} (h : KD I pe ys) : Rp I (.ref pe) (.list ((ys.map Prod.snd).map deedD)) := by
  rw [List.map_map]
  exact .lst h.he h.en.all
theorem KD.tl {I : Hp} {pe : Addr} {ys : List (V × Deed)} (h : KD I pe ys) : (textL (ys.map Prod.snd)).length ≤ 612 := by
  have := text_len h.dok
  have := h.yl
  rw [List.length_map] at *
  omega
def DdR' (I : Hp) (v : V) (d : Deed) : Prop := (∃ p, v = .ref p ∧ I p = some (.tup (ddV d.dd))) ∧ deedE d = none
theorem DdR'.mono {I I' : Hp} {v : V} {d : Deed} (s : Sub I I') (h : DdR' I v d) : DdR' I' v d := by
  obtain ⟨⟨p, h1, h2⟩, h3⟩ := h
  exact ⟨⟨p, h1, s _ _ h2⟩, h3⟩
theorem dds_good {ds : List Deed} (h : ∀ d ∈ ds, deedE d = none) : ddsE (ds.map Deed.dd) = none := by
  unfold ddsE
  rw [List.findSome?_eq_none_iff]
  intro d hd
  obtain ⟨x, hx, rfl⟩ := List.mem_map.mp hd
  rw [ddE_deed]
  exact h x hx
/-- deeds, to be written -/
theorem in_write {I : Hp} {v : V} {ds : List Deed} (r : Rp I v (.list (ds.map deedD))) (ok : ∀ d ∈ ds, deedE d = none) (hl : ds.length ≤ 3000) : ∃ zs, in5 I v (.write zs ds) ∧ told5 (.write zs ds) = .tuple [.str "found", sD (textL ds)] := by
  obtain ⟨l, vs, rfl, h1, h2⟩ := rp_list r
  obtain ⟨zs, rfl, e2, en⟩ := enc_of h2
  have e3 : (zs.map fun z => (z.1, z.2.dd)).map Prod.fst = zs.map Prod.fst := by rw [List.map_map]; rfl
  have e4 : (zs.map fun z => (z.1, z.2.dd)).map Prod.snd = ds.map Deed.dd := by rw [e2, List.map_map, List.map_map]; rfl
  have zl : zs.length = ds.length := by rw [e2, List.length_map]
  refine ⟨zs.map fun z => (z.1, z.2.dd), ⟨⟨l, rfl, by rw [e3]; exact h1⟩, fun z hz => ?_, fun z hz => ?_, by rw [List.length_map]; omega, fun _ => e4⟩, ?_⟩
  · obtain ⟨y, hy, rfl⟩ := List.mem_map.mp hz
    exact en y hy
  · obtain ⟨y, hy, rfl⟩ := List.mem_map.mp hz
    exact ddW_okP (ok y.2 (by rw [e2]; exact List.mem_map.mpr ⟨y, hy, rfl⟩))
  · unfold told5 out5 outW
    simp only []
    rw [e4, dds_good ok]
theorem told_read {t : Tx} : told5 (.read t) = match readL t with | some ds => .tuple [.str "found", .list (ds.map deedD)] | none => refD (some "BadText") := by
  unfold told5 out5 outR
  simp only []
  cases readL t <;> rfl
theorem d_found {ds : List Deed} : (PyData.tuple [.str "found", .list (ds.map deedD)]).depth ≤ 50 := by
  have h : (PyData.list (ds.map deedD)).depth ≤ 4 := depth_list (k := 3) fun d hd => by
    obtain ⟨z, _, rfl⟩ := List.mem_map.mp hd
    cases z <;> simp [deedD, Deed.dd, ddD, arD, sD, PyData.depth, PyData.depthAll]
  simp only [PyData.depth, PyData.depthAll] at *
  omega
theorem ref_text : refD (some (Str.ofString "BadText")) = .tuple [.str "refused", .str "text"] := by
  show PyData.tuple [.str "refused", .str (wordOf (Str.ofString "BadText"))] = _
  rw [show wordOf (Str.ofString "BadText") = Str.ofString "text" by decide +kernel]
theorem ref_number : refD (some (Str.ofString "BadNumber")) = .tuple [.str "refused", .str "number"] := by
  show PyData.tuple [.str "refused", .str (wordOf (Str.ofString "BadNumber"))] = _
  rw [show wordOf (Str.ofString "BadNumber") = Str.ofString "number" by decide +kernel]
theorem d_two {x y : Str} : (PyData.tuple [.str x, .str y]).depth ≤ 50 := by simp [PyData.depth, PyData.depthAll]
theorem d_tt {x : Str} {l : Tx} : (PyData.tuple [.str x, sD l]).depth ≤ 50 := by simp [sD, PyData.depth, PyData.depthAll]
theorem read_len {t : Tx} {ds : List Deed} (h : readL t = some ds) : ds.length ≤ t.length + 1 := by
  unfold readL at h
  cases e : insL (rowsOf t) with
  | none => rw [e] at h; cases h
  | some ys =>
    rw [e] at h
    simp only [] at h
    split at h
    · cases h
      rw [ins_len e]
      unfold rowsOf
      split
      · simp
      · exact rows_len t []
    · cases h
section
variable {I H : Hp} {a t pe : Addr} {n : Nat} {ys : List (V × Deed)} {E : XK} {D : Ends} {tx : V} {r2 r3 r4 r5 r6 r7 r8 r9 r10 r11 r12 r13 r14 : Option V}
theorem w13 (d : Dr K I H a t n []) (hn : n < 10000) (rt : ∀ H', D.rt (.bl true) H') : t_law_B1_13 K E D [some (.ref a), some (.ref t), r2, r3, r4, r5, r6, r7, r8, r9, r10, r11, r12, r13, r14] H := by
  have hb := line_big
  unfold t_law_B1_13
  simp! [and_true]
  refine ⟨by omega, fun p1 hp1 => ?_⟩
  have el : [V.str (Str.ofString "\n"), V.str (Str.ofString "rub "), V.str (Str.ofString "rub\n"), V.str (Str.ofString "tick"), V.str (Str.ofString "tick "), V.str (Str.ofString "tick 01"), V.str (Str.ofString "tick 1000"), V.str (Str.ofString "tick -1"), V.str (Str.ofString "wait a"), V.str (Str.ofString "key")] = (oddL.take 10).map sV := by kernel_rfl
  have el2 : [V.str (Str.ofString "again 1"), V.str (Str.ofString " rub"), V.str (Str.ofString "Rub")] = (oddL.drop 10).map sV := by kernel_rfl
  rw [el]
  obtain ⟨I1, s1, d1, h1⟩ := d.mkIP hp1 (.lst ((oddL.take 10).map sV))
  refine ⟨by omega, fun p2 hp2 => ?_⟩
  rw [el2]
  obtain ⟨I2, s2, d2, h2⟩ := d1.mkIP hp2 (.lst ((oddL.drop 10).map sV))
  refine ⟨p1, p2, _, _, rfl, rfl, d2.sub _ _ (s2 _ _ h1), d2.sub _ _ h2, by simp [oddL]; omega, fun p3 hp3 => ?_⟩
  have e3 : (oddL.take 10).map sV ++ (oddL.drop 10).map sV = oddL.map sV := by rw [← List.map_append, List.take_append_drop]
  rw [e3]
  obtain ⟨I3, s3, d3, h3⟩ := d2.mkIP hp3 (.lst (oddL.map sV))
  simp! [and_true]
  refine use_pick d3 (by omega) h3 (by simp [oddL]) fun y H4 hy d4 => ?_
  obtain ⟨l, hl, rfl⟩ := List.mem_map.mp hy
  have hn := odd_none l hl
  have hlen : l.length ≤ 5000 := by
    have : ∀ l ∈ oddL, l.length ≤ 5000 := by decide +kernel
    exact this l hl
  refine d4.told (q := .read l) ⟨rfl, hlen⟩ fun I5 H5 u s5 d5 r5 => ?_
  have e5 : told5 (.read l) = .tuple [.str "refused", .str "text"] := by
    rw [told_read]
    cases c : readL l with
    | some ds => rw [c] at hn; cases hn
    | none => exact ref_text
  rw [e5] at r5
  refine ⟨two_le, fun p6 hp6 => ?_⟩
  obtain ⟨I6, s6, d6, h6⟩ := d5.mkIP hp6 (.tup [.str "refused", .str "text"])
  exact eqD_t ((r5.mono s6).mono d6.sub) (.tup (d6.sub _ _ h6) (.cons (.str _) (.cons (.str _) .nil))) d_two (rt _)
theorem t3 {b : Tx} (d : Dr K I H a t n []) (k : KD I pe ys) (hbl : b.length ≤ 2000) (nx : ∀ I' H' r12, Sub I I' → Dr K I' H' a t n [] → D.nx [some (.ref a), some (.ref t), some (.ref pe), some tx, r4, r5, r6, r7, r8, r9, r10, some (sV b), r12, r13, r14] H') :
    t_law_L1_3 K E D [some (.ref a), some (.ref t), some (.ref pe), some tx, r4, r5, r6, r7, r8, r9, r10, some (sV b), r12, r13, r14] H := by
  have hb := line_big
  unfold t_law_L1_3
  simp! [and_true]
  refine d.told (q := .read b) ⟨rfl, by omega⟩ fun I1 H1 u s1 d1 r1 => ?_
  rw [told_read] at r1
  cases c : readL b with
  | some ds =>
    rw [c] at r1
    obtain ⟨et, ok⟩ := read_some c
    have dl := read_len c
    have hu : ∃ p v, u = .ref p ∧ I1 p = some (.tup [.str "found", v]) ∧ Rp I1 v (.list (ds.map deedD)) := by
      cases r1 with
      | tup h1 h2 => cases h2 with
        | cons x y => cases x; cases y with
          | cons z w => cases w; exact ⟨_, _, rfl, h1, z⟩
    obtain ⟨p, v, rfl, hp, rv⟩ := hu
    have hp1 := d1.sub _ _ hp
    simp! [hp1, at2_0, at2_1']
    refine ite_t trivial ?_
    obtain ⟨sc1, tz, ltz, w1⟩ := d1
    refine ⟨I1, _, v, ds, rfl, w1, rv, ok, by omega, fun H2 w2 => ?_⟩
    have d2 : Dr K I1 H2 a t n [] := ⟨sc1, tz, ltz, w2⟩
    have hp2 := d2.sub _ _ hp
    refine ⟨rfl, ite_nt (by rw [et]) ?_⟩
    simp! [hp2, at2_1']
    obtain ⟨zs, hi, e5⟩ := in_write rv ok (by omega)
    refine d2.told (q := .write zs ds) hi fun I3 H3 u3 s3 d3 r3 => ?_
    rw [e5, et] at r3
    refine ⟨two_le, fun p4 hp4 => ?_⟩
    obtain ⟨I4, s4, d4, h4⟩ := d3.mkIP hp4 (.tup [.str "found", sV b])
    refine neD_f (d := .tuple [.str "found", sD b]) ((r3.mono s4).mono d4.sub) (.tup (d4.sub _ _ h4) (.cons (.str _) (.cons (.str _) .nil))) d_tt ?_
    simp! [and_true]
    exact nx I4 _ _ (s1.trans (s3.trans s4)) d4
  | none =>
    rw [c] at r1
    have r1 : Rp I1 u (.tuple [.str "refused", .str "text"]) := by rw [← ref_text]; exact r1
    have hu : ∃ p, u = .ref p ∧ I1 p = some (.tup [.str "refused", .str "text"]) := by
      cases r1 with
      | tup h1 h2 => cases h2 with
        | cons x y => cases x; cases y with
          | cons z w => cases z; cases w; exact ⟨_, rfl, h1⟩
    obtain ⟨p, rfl, hp⟩ := hu
    have hp1 := d1.sub _ _ hp
    simp! [hp1, at2_0]
    refine ite_f (by decide +kernel) ⟨two_le, fun p4 hp4 => ?_⟩
    obtain ⟨I4, s4, d4, h4⟩ := d1.mkIP hp4 (.tup [.str "refused", .str "text"])
    refine neD_f (d := .tuple [.str "refused", .str "text"]) ((r1.mono s4).mono d4.sub) (.tup (d4.sub _ _ h4) (.cons (.str _) (.cons (.str _) .nil))) d_two ?_
    simp! [and_true]
    exact nx I4 _ _ (s1.trans s4) d4
structure P51 (K : PySem.W.Frag) (a t pe : Addr) (ys : List (V × Deed)) (n0 i : Nat) (σ : L2.St) (H : Hp) : Prop where
  ex : ∃ (I : Hp) (r4 r5 r6 r7 r8 r9 r10 r11 r12 r13 r14 : Option V), σ = [some (.ref a), some (.ref t), some (.ref pe), some (sV (textL (ys.map Prod.snd))), r4, r5, r6, r7, r8, r9, r10, r11, r12, r13, r14] ∧ Dr K I H a t (n0 + 10 * i) [] ∧ KD I pe ys
theorem t0 {σ : L2.St} {v : Option V} {i n0 : Nat} (h : P51 K a t pe ys n0 i σ H) (hn : n0 + 10 * i < 10000) (nx : ∀ σ H, P51 K a t pe ys n0 (i + 1) σ H → D.nx σ H) : t_law_L1_0 K E D (σ.set 9 v) H := by
  have hb := line_big
  obtain ⟨I, r4, r5, r6, r7, r8, r9, r10, r11, r12, r13, r14, rfl, d, k⟩ := h
  have tl := k.tl
  unfold t_law_L1_0
  simp! [S_len]
  refine ⟨by omega, I, a, t, _, [], _, rfl, d, by omega, by omega, fun at_ H1 a0 a1 d1 => ?_⟩
  refine ⟨by omega, fun p hp => ?_⟩
  obtain ⟨I2, s2, d2, h2⟩ := d1.mkIP hp (.lst ((["", "a", " ", "\n", "0", "9", "rub", "tick 1", "\nagain", "-", "\nkey b"] : List Str).map V.str))
  refine use_pick d2 (by omega) h2 (by simp) fun y H3 hy d3 => ?_
  obtain ⟨z, hz, rfl⟩ := List.mem_map.mp hy
  have zl : z.length ≤ 10 := by
    have : ∀ z ∈ (["", "a", " ", "\n", "0", "9", "rub", "tick 1", "\nagain", "-", "\nkey b"] : List Str), z.length ≤ 10 := by decide +kernel
    exact this z hz
  simp! [rSlS, S_len]
  have lt : (S (textL (ys.map Prod.snd))).length = (textL (ys.map Prod.snd)).length := S_len _
  have c1 := cutS_length (S (textL (ys.map Prod.snd))) none (some at_)
  rw [lt] at c1
  refine ⟨by omega, by omega, I2, a, t, _, [], 2, rfl, d3, by omega, by decide, fun e H4 e0 e1 d4 => ?_⟩
  have c2 := cutS_length (S (textL (ys.map Prod.snd))) (some (at_ + e)) none
  rw [lt] at c2
  have la : ∀ x y : Str, (x ++ y).length = x.length + y.length := fun x y => by rw [TL.len_tl, TL.tl_append, List.length_append, ← TL.len_tl, ← TL.len_tl]
  have l1 := la (cutS (S (textL (ys.map Prod.snd))) none (some at_)) z
  have l2 := la (cutS (S (textL (ys.map Prod.snd))) none (some at_) ++ z) (cutS (S (textL (ys.map Prod.snd))) (some (at_ + e)) none)
  refine ⟨e, rfl, by omega, by omega, ?_⟩
  generalize hbz : cutS (S (textL (ys.map Prod.snd))) none (some at_) ++ z ++ cutS (S (textL (ys.map Prod.snd))) (some (at_ + e)) none = bz at l2 ⊢
  have eb : (.str bz : V) = sV (TL.tl bz) := by show V.str bz = V.str (S (TL.tl bz)); congr 1
  rw [eb]
  refine t3 d4 (k.mono s2) (by rw [← TL.len_tl]; omega) fun I5 H5 r12 s5 d5 => nx _ _ ⟨I5, _, _, _, _, _, _, _, _, _, _, _, rfl, d5.le (by omega), k.mono (s2.trans s5)⟩
theorem w11 (d : Dr K I H a t n []) (hn : n < 5000) (k : KD I pe ys) (rt : ∀ H', D.rt (.bl true) H') :
    t_law_B1_11 K E D [some (.ref a), some (.ref t), some (.ref pe), some (sV (textL (ys.map Prod.snd))), r4, r5, r6, r7, r8, r9, r10, r11, r12, r13, r14] H := by
  have hb := line_big
  unfold t_law_B1_11
  simp! [and_true]
  refine ⟨Nat.zero_le _, fun p1 hp1 => ?_⟩
  obtain ⟨I1, s1, d1, h1⟩ := d.mkIP hp1 (.lst [])
  refine d1.told (q := .bad []) ⟨⟨p1, rfl, h1⟩, Enc.nil, by simp, by simp⟩ fun I2 H2 u s2 d2 r2 => ?_
  have e2 : told5 (.bad []) = .tuple [.str "refused", .str "number"] := ref_number
  rw [e2] at r2
  refine ⟨two_le, fun p3 hp3 => ?_⟩
  obtain ⟨I3, s3, d3, h3⟩ := d2.mkIP hp3 (.tup [.str "refused", .str "number"])
  refine neD_f (d := .tuple [.str "refused", .str "number"]) ((r2.mono s3).mono d3.sub) (.tup (d3.sub _ _ h3) (.cons (.str _) (.cons (.str _) .nil))) d_two ?_
  simp! [and_true]
  refine ⟨by decide, by decide, P51 K a t pe ys n, ⟨I3, _, _, _, _, _, _, _, _, _, _, _, rfl, d3.le (by omega), k.mono (s1.trans (s2.trans s3))⟩, ?_, ?_⟩
  · rintro i σ H4 hi h
    simp! [and_true]
    exact t0 h (by have : i < 5 := hi; omega) fun _ _ h => h
  · rintro σ H4 ⟨I4, r4, r5, r6, r7, r8, r9, r10, r11, r12, r13, r14, rfl, d4, k4⟩
    exact w13 d4 (by have : ((5 : Int).toNat) = 5 := rfl; omega) rt
/-- a deed that can't be, with the word of its refusal -/
structure BadV (I : Hp) (v : V) (d : Dd) (wd : Str) : Prop where
  ex : ∃ p pb, v = .ref p ∧ I p = some (.tup [.ref pb, .str wd]) ∧ I pb = some (.tup (ddV d))
  wt : ddW d
  er : ∃ e, ddE d = some e ∧ wordOf e = wd
theorem BadV.mono {I I' : Hp} {v : V} {d : Dd} {wd : Str} (h : BadV I v d wd) (s : Sub I I') : BadV I' v d wd := by
  obtain ⟨⟨p, pb, h1, h2, h3⟩, h4, h5⟩ := h
  exact ⟨⟨p, pb, h1, s _ _ h2, s _ _ h3⟩, h4, h5⟩
theorem dds_mid {l1 l2 : List Dd} {d : Dd} {e : Str} (h1 : ddsE l1 = none) (h2 : ddE d = some e) : ddsE (l1 ++ d :: l2) = some e := by
  unfold ddsE at *
  rw [List.findSome?_append, h1, List.findSome?_cons, h2]; rfl
theorem cut_takeV {ys : List (V × Deed)} {k : Int} (h : 0 ≤ k) : cutV (ys.map Prod.fst) none (some k) = (ys.take k.toNat).map Prod.fst := by
  unfold cutV
  obtain ⟨m, rfl⟩ := Int.eq_ofNat_of_zero_le h
  have e2 : HT.sIx (ys.map Prod.fst).length (ys.map Prod.fst).length (some ((m : Nat) : Int)) = min m ys.length := by rw [List.length_map]; unfold HT.sIx; simp only []; rw [if_neg (by omega)]; omega
  rw [e2, HT.sIx_none, List.drop_zero, Nat.sub_zero, Int.toNat_natCast, ← List.map_take]
  by_cases h : m ≤ ys.length
  · rw [Nat.min_eq_left h]
  · rw [Nat.min_eq_right (by omega), List.take_of_length_le (by omega), List.take_of_length_le (by omega)]
theorem w9 {pb : Addr} {db : Dd} {e : Str} {at_ : Int} (d : Dr K I H a t n []) (hn : n < 4000) (k : KD I pe ys) (a0 : 0 ≤ at_) (hpb : I pb = some (.tup (ddV db))) (wt : ddW db) (he : ddE db = some e) (rt : ∀ H', D.rt (.bl true) H') :
    t_law_B1_9 K E D [some (.ref a), some (.ref t), some (.ref pe), some (sV (textL (ys.map Prod.snd))), some (.int at_), r5, some (.ref pb), some (.str (wordOf e)), r8, r9, r10, r11, r12, r13, r14] H := by
  have hb := line_big
  have hyl := k.yl
  unfold t_law_B1_9
  simp! [d.sub _ _ k.he]
  intro p1 hp1
  have ec1 : cutV (ys.map Prod.fst) none (some at_) = (ys.take at_.toNat).map Prod.fst := cut_takeV a0
  have ec2 : cutV (ys.map Prod.fst) (some at_) none = (ys.drop at_.toNat).map Prod.fst := by rw [cut_from _ a0, List.map_drop]
  rw [ec1]
  obtain ⟨I1, s1, d1, h1⟩ := d.mkIP hp1 (.lst ((ys.take at_.toNat).map Prod.fst))
  refine ⟨by omega, fun p2 hp2 => ?_⟩
  obtain ⟨I2, s2, d2, h2⟩ := d1.mkIP hp2 (.lst [.ref pb])
  refine ⟨p1, p2, _, _, rfl, rfl, d2.sub _ _ (s2 _ _ h1), d2.sub _ _ h2, by simp; omega, fun p3 hp3 => ?_⟩
  obtain ⟨I3, s3, d3, h3⟩ := d2.mkIP hp3 (.lst ((ys.take at_.toNat).map Prod.fst ++ [.ref pb]))
  have k3 := k.mono (s1.trans (s2.trans s3))
  refine ⟨_, d3.sub _ _ k3.he, fun p4 hp4 => ?_⟩
  rw [ec2]
  obtain ⟨I4, s4, d4, h4⟩ := d3.mkIP hp4 (.lst ((ys.drop at_.toNat).map Prod.fst))
  refine ⟨p3, p4, _, _, rfl, rfl, d4.sub _ _ (s4 _ _ h3), d4.sub _ _ h4, by simp; omega, fun p5 hp5 => ?_⟩
  obtain ⟨I5, s5, d5, h5⟩ := d4.mkIP hp5 (.lst ((ys.take at_.toNat).map Prod.fst ++ [.ref pb] ++ (ys.drop at_.toNat).map Prod.fst))
  refine ⟨three_le, fun p6 hp6 => ?_⟩
  obtain ⟨I6, s6, d6, h6⟩ := d5.mkIP hp6 (.tup [.int 1, .int 2, .int 3])
  have s16 := s1.trans (s2.trans (s3.trans (s4.trans (s5.trans s6))))
  have k6 := k.mono s16
  -- the deeds, one that can't be among them
  obtain ⟨zs, hzs⟩ : ∃ zs : List (V × Dd), zs = (ys.take at_.toNat).map (fun y => (y.1, y.2.dd)) ++ (.ref pb, db) :: (ys.drop at_.toNat).map (fun y => (y.1, y.2.dd)) := ⟨_, rfl⟩
  have ef : (ys.take at_.toNat).map Prod.fst ++ [V.ref pb] ++ (ys.drop at_.toNat).map Prod.fst = zs.map Prod.fst := by
    rw [hzs, List.map_append, List.map_cons, List.map_map, List.map_map]
    simp [Function.comp_def]
  rw [ef] at h5
  have zl : zs.length ≤ 100 := by
    rw [hzs]; simp; omega
  have en6 : Enc I6 ddD zs := by
    intro z hz
    rw [hzs] at hz
    rcases List.mem_append.mp hz with q | q
    · obtain ⟨y, hy, rfl⟩ := List.mem_map.mp q
      exact k6.en y (List.mem_of_mem_take hy)
    · rcases List.mem_cons.mp q with q | q
      · rw [q]; exact dd_rp (s16 _ _ hpb)
      · obtain ⟨y, hy, rfl⟩ := List.mem_map.mp q
        exact k6.en y (List.mem_of_mem_drop hy)
  have wt6 : ∀ z ∈ zs, ddW z.2 := by
    intro z hz
    rw [hzs] at hz
    rcases List.mem_append.mp hz with q | q
    · obtain ⟨y, hy, rfl⟩ := List.mem_map.mp q
      exact ddW_okP (k.ok y (List.mem_of_mem_take hy))
    · rcases List.mem_cons.mp q with q | q
      · rw [q]; exact wt
      · obtain ⟨y, hy, rfl⟩ := List.mem_map.mp q
        exact ddW_okP (k.ok y (List.mem_of_mem_drop hy))
  have er : ddsE (zs.map Prod.snd) = some e := by
    rw [hzs, List.map_append, List.map_cons]
    refine dds_mid ?_ he
    have := dds_good (ds := (ys.take at_.toNat).map Prod.snd) fun d hd => by
      obtain ⟨y, hy, rfl⟩ := List.mem_map.mp hd
      exact k.ok y (List.mem_of_mem_take hy)
    rw [List.map_map] at *
    exact this
  have told : ∀ i : Nat, i < 3 → ∃ q : Ask5, kind5 q = ((i + 1 : Nat) : Int) ∧ told5 q = refD (some e) ∧ ∀ (I' : Hp) (l : Addr), Sub I6 I' → I' l = some (.lst (zs.map Prod.fst)) → in5 I' (.ref l) q := by
    intro i hi
    match i, hi with
    | 0, _ => exact ⟨.write zs [], rfl, by unfold told5 out5 outW; simp only []; rw [er], fun I' l sb hl => ⟨⟨l, rfl, hl⟩, en6.mono sb, wt6, by omega, fun q => by rw [er] at q; cases q⟩⟩
    | 1, _ => exact ⟨.bad zs, rfl, by unfold told5 out5 outB; simp only []; rw [er], fun I' l sb hl => ⟨⟨l, rfl, hl⟩, en6.mono sb, wt6, zl⟩⟩
    | 2, _ => exact ⟨.play zs e, rfl, rfl, fun I' l sb hl => ⟨⟨l, rfl, hl⟩, en6.mono sb, wt6, zl, er⟩⟩
  obtain ⟨sc6, tz6, ltz6, w6⟩ := d6
  refine comp_data (n := 3) (fun d : PyData => d) (fun _ => some (refD (some e))) w6 (by decide) (fun I' _ _ _ sb w' => w'.sub _ _ (sb _ _ h6)) ?_ ?_
  · rintro D7 i x acc I' H' T F hi hx sb w' kT kF
    have hx : x = .int ((i + 1 : Nat) : Int) := by
      match i, hi, hx with
      | 0, _, hx => cases hx; rfl
      | 1, _, hx => cases hx; rfl
      | 2, _, hx => cases hx; rfl
    subst hx
    obtain ⟨q, e1, e2, hin⟩ := told i hi
    simp! [wipe, w'.sub _ _ (sb _ _ (s6 _ _ h5))]
    intro p8 hp8
    obtain ⟨I8, s8, w8, h8⟩ := w'.mkI hp8 (.lst (zs.map Prod.fst))
    rw [← e1]
    exact ⟨I8, _, .ref p8, q, rfl, w8, hin I8 p8 (sb.trans s8) h8, fun I9 H9 u s9 w9 r9 => kT I9 H9 u _ rfl (s8.trans s9) w9 (by rw [← e2]; exact r9)⟩
  · intro I7 D7 H7 us sb w7 en7 eu
    have w7' := w7
    obtain ⟨I8, s8, w8, h8⟩ := w7.frz
    have d8 : Dr K I8 H7 a t n [] := ⟨sc6.mono (sb.trans s8), tz6, ltz6, w8⟩
    have rl : Rp I8 (.ref D7) (.list [refD (some e), refD (some e), refD (some e)]) := by
      have ra := (en7.mono s8).all
      have e9 : us.map (fun z => z.2) = [refD (some e), refD (some e), refD (some e)] := by
        show us.map Prod.snd = _
        rw [eu]; rfl
      rw [e9] at ra
      exact .lst h8 ra
    refine ⟨two_le, fun p9 hp9 => ?_⟩
    obtain ⟨I9, s9, d9, h9⟩ := d8.mkIP hp9 (.tup [.str "refused", .str (wordOf e)])
    refine ⟨one_le, fun p10 hp10 => ?_⟩
    obtain ⟨I10, s10, d10, h10⟩ := d9.mkIP hp10 (.lst [.ref p9])
    refine ⟨p10, 3, _, rfl, rfl, d10.sub _ _ h10, by decide, by decide, by simp; omega, fun p11 hp11 => ?_⟩
    obtain ⟨I11, s11, d11, h11⟩ := d10.mkIP hp11 (.lst [.ref p9, .ref p9, .ref p9])
    have r9 : Rp I11 (.ref p9) (refD (some e)) := .tup ((s10.trans s11) _ _ h9) (.cons (.str _) (.cons (.str _) .nil))
    refine neD_f (d := .list [refD (some e), refD (some e), refD (some e)]) ((rl.mono (s9.trans (s10.trans s11))).mono d11.sub) (Rp.mono d11.sub (.lst h11 (.cons r9 (.cons r9 (.cons r9 .nil))))) (by simp [refD, PyData.depth, PyData.depthAll]) ?_
    simp! [and_true]
    exact w11 d11 (by omega) (k6.mono (sb.trans (s8.trans (s9.trans (s10.trans s11))))) rt
theorem mulOkG (x : Str) (n : Int) (h0 : 1 ≤ x.length) (h1 : x.length ≤ 2) (h2 : 1 ≤ n) (h3 : n ≤ 100) : MulOk x n := by
  have hz : ¬ x.length = 0 := by omega
  refine ⟨?_, fun _ _ => ?_, fun _ _ => ?_⟩
  · rw [decide_eq_false (by omega), decide_eq_false (by omega)]; rfl
  · have : 2 ≤ ((2 : Int) ^ 63 - 1) / n := by
      rw [Int.le_ediv_iff_mul_le (by omega)]; omega
    omega
  · have := line_big
    unfold Builtin.Str.tooLong
    have : x.length * n.toNat ≤ 2 * 100 := Nat.mul_le_mul h1 (by omega)
    simp
    omega
theorem w4 (d : Dr K I H a t n []) (hn : n < 1000) (k : KD I pe ys) (rt : ∀ H', D.rt (.bl true) H') :
    t_law_B1_4 K E D [some (.ref a), some (.ref t), some (.ref pe), some (sV (textL (ys.map Prod.snd))), r4, r5, r6, r7, r8, r9, r10, r11, r12, r13, r14] H := by
  have hb := line_big
  have hyl := k.yl
  unfold t_law_B1_4
  have la : Str.ofString "a" = S [97] := by kernel_rfl
  have lan : Str.ofString "a\n" = S [97, 10] := by kernel_rfl
  have ex41 : Txt.mul (S [97]) 41 = S (List.replicate 41 97) := by kernel_rfl
  have ex42 : Txt.mul (Str.ofString "~~") 21 = S (List.replicate 42 126) := by kernel_rfl
  simp! [d.sub _ _ k.he, List.length_map, la, lan, gRepS]
  refine ⟨I, a, t, _, [], _, rfl, d, by omega, by omega, fun at_ H1 a0 a1 d1 => ?_⟩
  refine ⟨by omega, fun q1 hq1 => ?_⟩
  obtain ⟨J1, u1, e1, g1⟩ := d1.mkIP hq1 (.tup [])
  refine ⟨two_le, fun p1 hp1 => ?_⟩
  obtain ⟨I1, s1, f1, h1⟩ := e1.mkIP hp1 (.tup [.ref q1, .str "ask"])
  have b1 : BadV I1 (.ref p1) .nil "ask" := ⟨⟨_, _, rfl, h1, s1 _ _ g1⟩, trivial, ⟨Str.ofString "BadAsk", by decide +kernel, by decide +kernel⟩⟩
  have t1 := u1.trans s1
  refine ⟨by omega, fun q2 hq2 => ?_⟩
  obtain ⟨J2, u2, e2, g2⟩ := f1.mkIP hq2 (.tup [.str "wait", sV [97]])
  refine ⟨two_le, fun p2 hp2 => ?_⟩
  obtain ⟨I2, s2, f2, h2⟩ := e2.mkIP hp2 (.tup [.ref q2, .str "ask"])
  have b2 : BadV I2 (.ref p2) (.one "wait" (.tx [97])) "ask" := ⟨⟨_, _, rfl, h2, s2 _ _ g2⟩, ⟨by decide +kernel, by simp⟩, ⟨Str.ofString "BadAsk", by decide +kernel, by decide +kernel⟩⟩
  have t2 := u2.trans s2
  refine ⟨by omega, fun q3 hq3 => ?_⟩
  obtain ⟨J3, u3, e3, g3⟩ := f2.mkIP hq3 (.tup [.str "rub", sV [97]])
  refine ⟨two_le, fun p3 hp3 => ?_⟩
  obtain ⟨I3, s3, f3, h3⟩ := e3.mkIP hp3 (.tup [.ref q3, .str "ask"])
  have b3 : BadV I3 (.ref p3) (.one "rub" (.tx [97])) "ask" := ⟨⟨_, _, rfl, h3, s3 _ _ g3⟩, ⟨by decide +kernel, by simp⟩, ⟨Str.ofString "BadAsk", by decide +kernel, by decide +kernel⟩⟩
  have t3' := u3.trans s3
  refine ⟨by omega, fun q4 hq4 => ?_⟩
  obtain ⟨J4, u4, e4, g4⟩ := f3.mkIP hq4 (.tup [.str "tick"])
  refine ⟨two_le, fun p4 hp4 => ?_⟩
  obtain ⟨I4, s4, f4, h4⟩ := e4.mkIP hp4 (.tup [.ref q4, .str "ask"])
  have b4 : BadV I4 (.ref p4) (.one "tick" .no) "ask" := ⟨⟨_, _, rfl, h4, s4 _ _ g4⟩, trivial, ⟨Str.ofString "BadAsk", by decide +kernel, by decide +kernel⟩⟩
  have t4 := u4.trans s4
  refine ⟨by omega, fun q5 hq5 => ?_⟩
  obtain ⟨J5, u5, e5, g5⟩ := f4.mkIP hq5 (.tup [.str "tick", .int 1000])
  refine ⟨two_le, fun p5 hp5 => ?_⟩
  obtain ⟨I5, s5, f5, h5⟩ := e5.mkIP hp5 (.tup [.ref q5, .str "number"])
  have b5 : BadV I5 (.ref p5) (.one "tick" (.nm 1000)) "number" := ⟨⟨_, _, rfl, h5, s5 _ _ g5⟩, rfl, ⟨Str.ofString "BadNumber", by decide +kernel, by decide +kernel⟩⟩
  have t5 := u5.trans s5
  refine ⟨by omega, fun l1 hl1 => ?_⟩
  obtain ⟨L1, v1, m1, x1⟩ := f5.mkIP hl1 (.lst [.ref p1, .ref p2, .ref p3, .ref p4, .ref p5])
  simp! [and_true]
  refine ⟨by omega, fun q6 hq6 => ?_⟩
  obtain ⟨J6, u6, e6, g6⟩ := m1.mkIP hq6 (.tup [.str "tick", .int (0 - 1)])
  refine ⟨two_le, fun p6 hp6 => ?_⟩
  obtain ⟨I6, s6, f6, h6⟩ := e6.mkIP hp6 (.tup [.ref q6, .str "number"])
  have b6 : BadV I6 (.ref p6) (.one "tick" (.nm (0 - 1))) "number" := ⟨⟨_, _, rfl, h6, s6 _ _ g6⟩, rfl, ⟨Str.ofString "BadNumber", by decide +kernel, by decide +kernel⟩⟩
  have t6 := u6.trans s6
  refine ⟨mulOkG _ _ (by decide) (by decide) (by decide) (by decide), ?_⟩
  rw [ex41]
  refine ⟨by omega, fun q7 hq7 => ?_⟩
  obtain ⟨J7, u7, e7, g7⟩ := f6.mkIP hq7 (.tup [.str "key", sV (List.replicate 41 97)])
  refine ⟨two_le, fun p7 hp7 => ?_⟩
  obtain ⟨I7, s7, f7, h7⟩ := e7.mkIP hp7 (.tup [.ref q7, .str "text"])
  have b7 : BadV I7 (.ref p7) (.one "key" (.tx (List.replicate 41 97))) "text" := ⟨⟨_, _, rfl, h7, s7 _ _ g7⟩, ⟨by decide +kernel, by simp⟩, ⟨Str.ofString "BadText", by decide +kernel, by decide +kernel⟩⟩
  have t7 := u7.trans s7
  refine ⟨by omega, fun q8 hq8 => ?_⟩
  obtain ⟨J8, u8, e8, g8⟩ := f7.mkIP hq8 (.tup [.str "add", sV [97, 10]])
  refine ⟨two_le, fun p8 hp8 => ?_⟩
  obtain ⟨I8, s8, f8, h8⟩ := e8.mkIP hp8 (.tup [.ref q8, .str "text"])
  have b8 : BadV I8 (.ref p8) (.one "add" (.tx [97, 10])) "text" := ⟨⟨_, _, rfl, h8, s8 _ _ g8⟩, ⟨by decide +kernel, by simp⟩, ⟨Str.ofString "BadText", by decide +kernel, by decide +kernel⟩⟩
  have t8 := u8.trans s8
  refine ⟨by omega, fun l2 hl2 => ?_⟩
  obtain ⟨L2, v2, m2, x2⟩ := f8.mkIP hl2 (.lst [.ref p6, .ref p7, .ref p8])
  refine ⟨l1, l2, _, _, rfl, rfl, m2.sub _ _ ((t6.trans (t7.trans (t8.trans v2))) _ _ x1), m2.sub _ _ x2, by simp; omega, fun l3 hl3 => ?_⟩
  have m3 := m2.newM (o := .lst [.ref p1, .ref p2, .ref p3, .ref p4, .ref p5, .ref p6, .ref p7, .ref p8]) hl3
  simp! [and_true]
  refine ⟨mulOkG _ _ (by decide +kernel) (by decide +kernel) (by decide) (by decide), ?_⟩
  rw [ex42]
  refine ⟨by omega, fun q9 hq9 => ?_⟩
  obtain ⟨J9, u9, e9, g9⟩ := m3.mkIP hq9 (.tup [.str "put", sV (List.replicate 42 126)])
  refine ⟨two_le, fun p9 hp9 => ?_⟩
  obtain ⟨I9, s9, f9, h9⟩ := e9.mkIP hp9 (.tup [.ref q9, .str "text"])
  have b9 : BadV I9 (.ref p9) (.one "put" (.tx (List.replicate 42 126))) "text" := ⟨⟨_, _, rfl, h9, s9 _ _ g9⟩, ⟨by decide +kernel, by simp⟩, ⟨Str.ofString "BadText", by decide +kernel, by decide +kernel⟩⟩
  have t9 := u9.trans s9
  refine ⟨_, f9.has.1, by simp; omega, ?_⟩
  have m4 := f9.put (o' := .lst [.ref p1, .ref p2, .ref p3, .ref p4, .ref p5, .ref p6, .ref p7, .ref p8, .ref p9])
  obtain ⟨I10, s10, d10, h10⟩ : ∃ I', Sub I9 I' ∧ Dr K I' _ a t (n + 1) [] ∧ I' l3 = some (.lst [.ref p1, .ref p2, .ref p3, .ref p4, .ref p5, .ref p6, .ref p7, .ref p8, .ref p9]) := ⟨_, Sub.new (m4.out (l3, _) List.mem_cons_self), m4.freeze, upd_same⟩
  have c9 := t9.trans s10
  have c8 := v2.trans c9
  have c7 := t8.trans c8
  have c6 := t7.trans c7
  have c5 := v1.trans (t6.trans c6)
  have c4 := t5.trans c5
  have c3 := t4.trans c4
  have c2 := t3'.trans c3
  have c1 := t2.trans c2
  simp! [and_true]
  refine use_pick d10 (by omega) h10 (by simp) fun x H11 hx d11 => ?_
  have hx : ∃ db wd, BadV I10 x db wd := by
    simp only [List.mem_cons, List.not_mem_nil, or_false] at hx
    rcases hx with rfl | rfl | rfl | rfl | rfl | rfl | rfl | rfl | rfl
    · exact ⟨_, _, b1.mono c1⟩
    · exact ⟨_, _, b2.mono c2⟩
    · exact ⟨_, _, b3.mono c3⟩
    · exact ⟨_, _, b4.mono c4⟩
    · exact ⟨_, _, b5.mono c5⟩
    · exact ⟨_, _, b6.mono c6⟩
    · exact ⟨_, _, b7.mono c7⟩
    · exact ⟨_, _, b8.mono c8⟩
    · exact ⟨_, _, b9.mono s10⟩
  obtain ⟨db, wd, ⟨p, pb, rfl, hp, hpb⟩, wt, e, he, rfl⟩ := hx
  simp! [d11.sub _ _ hp]
  exact w9 d11 (by omega) (k.mono (t1.trans c1)) a0 hpb wt he rt
end
theorem pure_law : ∀ vs H Q E, sp_law K vs H Q E → t_law K E { nx := fun _ H2 => Q .non H2, rt := Q } (L2.start nn_law vs) H := by
  rintro vs H Q E ⟨a, rfl, sc, hQ⟩
  have hb := line_big
  unfold t_law
  simp! [and_true]
  refine ⟨Nat.zero_le _, fun t ht => ?_⟩
  have d0 : Dr K H _ a t 0 [] := ⟨sc, [], by simp, (W.start H).newM (o := .lst []) ht⟩
  refine ⟨H, a, t, 0, [], 13, rfl, d0, by decide, by decide, fun j H1 j0 j1 d1 => ?_⟩
  refine ⟨_, rfl, by omega, by omega, ?_⟩
  refine comp_draw (β := Deed) 12 DdR' DdR'.mono d1 (by omega) (fun _ _ _ _ _ _ _ => trivial) ?_ ?_
  · rintro D i x acc I' H' T F hi rfl sb d' kT
    simp! [wipe]
    exact ⟨I', a, t, _, _, rfl, d', by omega, fun I8 H8 p8 d8 s8 ok8 dr8 h8 => kT I8 H8 _ d8 s8 ⟨⟨p8, rfl, h8⟩, ok8⟩ dr8⟩
  · intro I2 pe H2 ys s2 hyl hy d2
    obtain ⟨I3, s3, d3, h3⟩ : ∃ I', Sub I2 I' ∧ Dr K I' H2 a t (0 + 1 + 12 * j.toNat) [] ∧ I' pe = some (.lst (ys.map Prod.fst)) := ⟨_, Sub.new (d2.out (pe, _) List.mem_cons_self), d2.freeze, upd_same⟩
    have k : KD I3 pe ys := ⟨h3, fun y hyy => by
      obtain ⟨⟨p, e, h⟩, _⟩ := (hy y hyy).mono s3
      rw [e]; exact dd_rp h, fun y hyy => (hy y hyy).2, by omega⟩
    unfold t_law_B1_2
    simp! [and_true]
    obtain ⟨sc3, tz, ltz, w3⟩ := d3
    refine ⟨I3, _, .ref pe, ys.map Prod.snd, rfl, w3, k.rp, k.dok, by rw [List.length_map]; have := k.yl; omega, fun H4 w4' => ?_⟩
    have d4 : Dr K I3 H4 a t (0 + 1 + 12 * j.toNat) [] := ⟨sc3, tz, ltz, w4'⟩
    obtain ⟨zs, hin, e5⟩ := in_write k.rp k.dok (by rw [List.length_map]; have := k.yl; omega)
    refine d4.told (q := .write zs _) hin fun I5 H5 u s5 d5 r5 => ?_
    rw [e5] at r5
    refine ⟨two_le, fun p6 hp6 => ?_⟩
    obtain ⟨I6, s6, d6, h6⟩ := d5.mkIP hp6 (.tup [.str "found", sV (textL (ys.map Prod.snd))])
    refine neD_f (d := .tuple [.str "found", sD (textL (ys.map Prod.snd))]) ((r5.mono s6).mono d6.sub) (.tup (d6.sub _ _ h6) (.cons (.str _) (.cons (.str _) .nil))) d_tt ?_
    simp! [and_true]
    have k6 := k.mono (s5.trans s6)
    refine d6.told (q := .read (textL (ys.map Prod.snd))) ⟨rfl, by have := k.tl; omega⟩ fun I7 H7 u7 s7 d7 r7 => ?_
    rw [told_read, read_text k.dok] at r7
    refine ⟨two_le, fun p8 hp8 => ?_⟩
    obtain ⟨I8, s8, d8, h8⟩ := d7.mkIP hp8 (.tup [.str "found", .ref pe])
    have k8 := k6.mono (s7.trans s8)
    refine neD_f (d := .tuple [.str "found", .list ((ys.map Prod.snd).map deedD)]) ((r7.mono s8).mono d8.sub) (Rp.mono d8.sub (.tup h8 (.cons (.str _) (.cons k8.rp .nil)))) d_found ?_
    simp! [and_true]
    exact w4 d8 (by omega) k8 fun _ => hQ _
end
end TA

set_option maxHeartbeats 0
namespace TA
open PySem PySem.Spec PyProof.Rows L2
abbrev isQ : PySem.W.Frag → Bool := isB
def top (i : Nat) : Stmt := PySem.Challenge.pw_typeasks_k51_whole_diary_texts.main.body.getD i (.Pass ⟨0, 0, 0, 0⟩)
abbrev s__wall : Stmt := top 0
abbrev s_look_text : Stmt := top 9
abbrev s_folded : Stmt := top 10
abbrev s_rank : Stmt := top 11
abbrev s_look_many : Stmt := top 15
abbrev s_best : Stmt := top 16
abbrev s_Store___init__ : Stmt := inClass (top 17) 0
abbrev s_Store_add : Stmt := inClass (top 17) 1
abbrev s_Store_remove : Stmt := inClass (top 17) 2
abbrev s_Store_all_rows : Stmt := inClass (top 17) 3
abbrev s_Store_answer : Stmt := inClass (top 17) 4
abbrev s_Asker___init__ : Stmt := inClass (top 24) 0
abbrev s_Asker_clock : Stmt := inClass (top 24) 1
abbrev s_Asker_typed : Stmt := inClass (top 24) 2
abbrev s_Asker_put : Stmt := inClass (top 24) 3
abbrev s_Asker_key : Stmt := inClass (top 24) 4
abbrev s_Asker_rub : Stmt := inClass (top 24) 5
abbrev s_Asker_drop_other : Stmt := inClass (top 24) 6
abbrev s_Asker_look_near : Stmt := inClass (top 24) 7
abbrev s_Asker_is_fresh : Stmt := inClass (top 24) 8
abbrev s_Asker_show : Stmt := inClass (top 24) 9
abbrev s_Asker_ask_if_due : Stmt := inClass (top 24) 10
abbrev s_Asker_step : Stmt := inClass (top 24) 11
abbrev s_Asker_try_again : Stmt := inClass (top 24) 12
abbrev s_Asker_tick : Stmt := inClass (top 24) 13
abbrev s_Asker_again : Stmt := inClass (top 24) 14
abbrev s_Asker_view : Stmt := inClass (top 24) 15
abbrev s_Asker_is_waiting : Stmt := inClass (top 24) 16
abbrev s_Asker_log : Stmt := inClass (top 24) 17
abbrev s_Road___init__ : Stmt := inClass (top 28) 0
abbrev s_Road_send : Stmt := inClass (top 28) 1
abbrev s_Road_due : Stmt := inClass (top 28) 2
abbrev s_Road_many : Stmt := inClass (top 28) 3
abbrev s_Shelf___init__ : Stmt := inClass (top 32) 0
abbrev s_Shelf_put : Stmt := inClass (top 32) 1
abbrev s_Shelf_queries : Stmt := inClass (top 32) 2
abbrev s_Shelf_source : Stmt := inClass (top 32) 3
abbrev s_Shelf_get : Stmt := inClass (top 32) 4
abbrev s_Shelf_clear : Stmt := inClass (top 32) 5
abbrev s_look_deed : Stmt := top 38
abbrev s_look_deeds : Stmt := top 39
abbrev s_do : Stmt := top 40
abbrev s_word_of : Stmt := top 41
abbrev s_played : Stmt := top 42
abbrev s_row_of : Stmt := top 43
abbrev s_diary_text : Stmt := top 44
abbrev s_deed_in : Stmt := top 45
abbrev s_read_diary : Stmt := top 46
abbrev s__law_cell : Stmt := top 48
abbrev s__law_mix : Stmt := top 49
abbrev s__law_draw : Stmt := top 50
abbrev s__law_pick : Stmt := top 51
abbrev s__law_refusal : Stmt := top 52
abbrev s__law_row : Stmt := top 53
abbrev s__law_query : Stmt := top 54
abbrev s__law_deed : Stmt := top 55
abbrev s__law_rules : Stmt := top 56
abbrev s__law_text : Stmt := top 57
abbrev s__law_one : Stmt := top 58
abbrev s__law_told : Stmt := top 59
abbrev s_law : Stmt := top 60
def d0 : He.DefD := ⟨("_wall", none), "_wall", "_wall", defArgs s__wall, defBody s__wall, defScope s__wall, [], []⟩
def d1 : He.DefD := ⟨("look_text", none), "look_text", "look_text", defArgs s_look_text, defBody s_look_text, defScope s_look_text, [], []⟩
def d2 : He.DefD := ⟨("folded", none), "folded", "folded", defArgs s_folded, defBody s_folded, defScope s_folded, [], []⟩
def d3 : He.DefD := ⟨("rank", none), "rank", "rank", defArgs s_rank, defBody s_rank, defScope s_rank, [], []⟩
def d4 : He.DefD := ⟨("look_many", none), "look_many", "look_many", defArgs s_look_many, defBody s_look_many, defScope s_look_many, [], []⟩
def d5 : He.DefD := ⟨("best", none), "best", "best", defArgs s_best, defBody s_best, defScope s_best, [], []⟩
def d6 : He.DefD := ⟨("Store", some "__init__"), "__init__", "Store.__init__", defArgs s_Store___init__, defBody s_Store___init__, defScope s_Store___init__, [], []⟩
def d7 : He.DefD := ⟨("Store", some "add"), "add", "Store.add", defArgs s_Store_add, defBody s_Store_add, defScope s_Store_add, [], []⟩
def d8 : He.DefD := ⟨("Store", some "remove"), "remove", "Store.remove", defArgs s_Store_remove, defBody s_Store_remove, defScope s_Store_remove, [], []⟩
def d9 : He.DefD := ⟨("Store", some "all_rows"), "all_rows", "Store.all_rows", defArgs s_Store_all_rows, defBody s_Store_all_rows, defScope s_Store_all_rows, [], []⟩
def d10 : He.DefD := ⟨("Store", some "answer"), "answer", "Store.answer", defArgs s_Store_answer, defBody s_Store_answer, defScope s_Store_answer, [], []⟩
def d11 : He.DefD := ⟨("Asker", some "__init__"), "__init__", "Asker.__init__", defArgs s_Asker___init__, defBody s_Asker___init__, defScope s_Asker___init__, [], []⟩
def d12 : He.DefD := ⟨("Asker", some "clock"), "clock", "Asker.clock", defArgs s_Asker_clock, defBody s_Asker_clock, defScope s_Asker_clock, [], []⟩
def d13 : He.DefD := ⟨("Asker", some "typed"), "typed", "Asker.typed", defArgs s_Asker_typed, defBody s_Asker_typed, defScope s_Asker_typed, [], []⟩
def d14 : He.DefD := ⟨("Asker", some "put"), "put", "Asker.put", defArgs s_Asker_put, defBody s_Asker_put, defScope s_Asker_put, [], []⟩
def d15 : He.DefD := ⟨("Asker", some "key"), "key", "Asker.key", defArgs s_Asker_key, defBody s_Asker_key, defScope s_Asker_key, [], []⟩
def d16 : He.DefD := ⟨("Asker", some "rub"), "rub", "Asker.rub", defArgs s_Asker_rub, defBody s_Asker_rub, defScope s_Asker_rub, [], []⟩
def d17 : He.DefD := ⟨("Asker", some "drop_other"), "drop_other", "Asker.drop_other", defArgs s_Asker_drop_other, defBody s_Asker_drop_other, defScope s_Asker_drop_other, [], []⟩
def d18 : He.DefD := ⟨("Asker", some "look_near"), "look_near", "Asker.look_near", defArgs s_Asker_look_near, defBody s_Asker_look_near, defScope s_Asker_look_near, [], []⟩
def d19 : He.DefD := ⟨("Asker", some "is_fresh"), "is_fresh", "Asker.is_fresh", defArgs s_Asker_is_fresh, defBody s_Asker_is_fresh, defScope s_Asker_is_fresh, [], []⟩
def d20 : He.DefD := ⟨("Asker", some "show"), "show", "Asker.show", defArgs s_Asker_show, defBody s_Asker_show, defScope s_Asker_show, [], []⟩
def d21 : He.DefD := ⟨("Asker", some "ask_if_due"), "ask_if_due", "Asker.ask_if_due", defArgs s_Asker_ask_if_due, defBody s_Asker_ask_if_due, defScope s_Asker_ask_if_due, [], []⟩
def d22 : He.DefD := ⟨("Asker", some "step"), "step", "Asker.step", defArgs s_Asker_step, defBody s_Asker_step, defScope s_Asker_step, [], []⟩
def d23 : He.DefD := ⟨("Asker", some "try_again"), "try_again", "Asker.try_again", defArgs s_Asker_try_again, defBody s_Asker_try_again, defScope s_Asker_try_again, [], []⟩
def d24 : He.DefD := ⟨("Asker", some "tick"), "tick", "Asker.tick", defArgs s_Asker_tick, defBody s_Asker_tick, defScope s_Asker_tick, [], []⟩
def d25 : He.DefD := ⟨("Asker", some "again"), "again", "Asker.again", defArgs s_Asker_again, defBody s_Asker_again, defScope s_Asker_again, [], []⟩
def d26 : He.DefD := ⟨("Asker", some "view"), "view", "Asker.view", defArgs s_Asker_view, defBody s_Asker_view, defScope s_Asker_view, [], []⟩
def d27 : He.DefD := ⟨("Asker", some "is_waiting"), "is_waiting", "Asker.is_waiting", defArgs s_Asker_is_waiting, defBody s_Asker_is_waiting, defScope s_Asker_is_waiting, [], []⟩
def d28 : He.DefD := ⟨("Asker", some "log"), "log", "Asker.log", defArgs s_Asker_log, defBody s_Asker_log, defScope s_Asker_log, [], []⟩
def d29 : He.DefD := ⟨("Road", some "__init__"), "__init__", "Road.__init__", defArgs s_Road___init__, defBody s_Road___init__, defScope s_Road___init__, [], []⟩
def d30 : He.DefD := ⟨("Road", some "send"), "send", "Road.send", defArgs s_Road_send, defBody s_Road_send, defScope s_Road_send, [], []⟩
def d31 : He.DefD := ⟨("Road", some "due"), "due", "Road.due", defArgs s_Road_due, defBody s_Road_due, defScope s_Road_due, [], []⟩
def d32 : He.DefD := ⟨("Road", some "many"), "many", "Road.many", defArgs s_Road_many, defBody s_Road_many, defScope s_Road_many, [], []⟩
def d33 : He.DefD := ⟨("Shelf", some "__init__"), "__init__", "Shelf.__init__", defArgs s_Shelf___init__, defBody s_Shelf___init__, defScope s_Shelf___init__, [], []⟩
def d34 : He.DefD := ⟨("Shelf", some "put"), "put", "Shelf.put", defArgs s_Shelf_put, defBody s_Shelf_put, defScope s_Shelf_put, [], []⟩
def d35 : He.DefD := ⟨("Shelf", some "queries"), "queries", "Shelf.queries", defArgs s_Shelf_queries, defBody s_Shelf_queries, defScope s_Shelf_queries, [], []⟩
def d36 : He.DefD := ⟨("Shelf", some "source"), "source", "Shelf.source", defArgs s_Shelf_source, defBody s_Shelf_source, defScope s_Shelf_source, [], []⟩
def d37 : He.DefD := ⟨("Shelf", some "get"), "get", "Shelf.get", defArgs s_Shelf_get, defBody s_Shelf_get, defScope s_Shelf_get, [], []⟩
def d38 : He.DefD := ⟨("Shelf", some "clear"), "clear", "Shelf.clear", defArgs s_Shelf_clear, defBody s_Shelf_clear, defScope s_Shelf_clear, [], []⟩
def d39 : He.DefD := ⟨("look_deed", none), "look_deed", "look_deed", defArgs s_look_deed, defBody s_look_deed, defScope s_look_deed, [], []⟩
def d40 : He.DefD := ⟨("look_deeds", none), "look_deeds", "look_deeds", defArgs s_look_deeds, defBody s_look_deeds, defScope s_look_deeds, [], []⟩
def d41 : He.DefD := ⟨("do", none), "do", "do", defArgs s_do, defBody s_do, defScope s_do, [], []⟩
def d42 : He.DefD := ⟨("word_of", none), "word_of", "word_of", defArgs s_word_of, defBody s_word_of, defScope s_word_of, [], []⟩
def d43 : He.DefD := ⟨("played", none), "played", "played", defArgs s_played, defBody s_played, defScope s_played, [], []⟩
def d44 : He.DefD := ⟨("row_of", none), "row_of", "row_of", defArgs s_row_of, defBody s_row_of, defScope s_row_of, [], []⟩
def d45 : He.DefD := ⟨("diary_text", none), "diary_text", "diary_text", defArgs s_diary_text, defBody s_diary_text, defScope s_diary_text, [], []⟩
def d46 : He.DefD := ⟨("deed_in", none), "deed_in", "deed_in", defArgs s_deed_in, defBody s_deed_in, defScope s_deed_in, [], []⟩
def d47 : He.DefD := ⟨("read_diary", none), "read_diary", "read_diary", defArgs s_read_diary, defBody s_read_diary, defScope s_read_diary, [], []⟩
def d48 : He.DefD := ⟨("_law_cell", none), "_law_cell", "_law_cell", defArgs s__law_cell, defBody s__law_cell, defScope s__law_cell, [], []⟩
def d49 : He.DefD := ⟨("_law_mix", none), "_law_mix", "_law_mix", defArgs s__law_mix, defBody s__law_mix, defScope s__law_mix, [], []⟩
def d50 : He.DefD := ⟨("_law_draw", none), "_law_draw", "_law_draw", defArgs s__law_draw, defBody s__law_draw, defScope s__law_draw, [], []⟩
def d51 : He.DefD := ⟨("_law_pick", none), "_law_pick", "_law_pick", defArgs s__law_pick, defBody s__law_pick, defScope s__law_pick, [], []⟩
def d52 : He.DefD := ⟨("_law_refusal", none), "_law_refusal", "_law_refusal", defArgs s__law_refusal, defBody s__law_refusal, defScope s__law_refusal, [], []⟩
def d53 : He.DefD := ⟨("_law_row", none), "_law_row", "_law_row", defArgs s__law_row, defBody s__law_row, defScope s__law_row, [], []⟩
def d54 : He.DefD := ⟨("_law_query", none), "_law_query", "_law_query", defArgs s__law_query, defBody s__law_query, defScope s__law_query, [], []⟩
def d55 : He.DefD := ⟨("_law_deed", none), "_law_deed", "_law_deed", defArgs s__law_deed, defBody s__law_deed, defScope s__law_deed, [], []⟩
def d56 : He.DefD := ⟨("_law_rules", none), "_law_rules", "_law_rules", defArgs s__law_rules, defBody s__law_rules, defScope s__law_rules, [], []⟩
def d57 : He.DefD := ⟨("_law_text", none), "_law_text", "_law_text", defArgs s__law_text, defBody s__law_text, defScope s__law_text, [], []⟩
def d58 : He.DefD := ⟨("_law_one", none), "_law_one", "_law_one", defArgs s__law_one, defBody s__law_one, defScope s__law_one, [], []⟩
def d59 : He.DefD := ⟨("_law_told", none), "_law_told", "_law_told", defArgs s__law_told, defBody s__law_told, defScope s__law_told, [], []⟩
def d60 : He.DefD := ⟨("law", none), "law", "law", defArgs s_law, defBody s_law, defScope s_law, [], []⟩
def fn0 : List He.DefD := [d0, d1, d2, d3, d4, d5, d6, d7, d8, d9, d10, d11, d12, d13, d14, d15, d16, d17, d18, d19, d20, d21, d22, d23, d24, d25, d26, d27, d28, d29]
def fn1 : List He.DefD := [d30, d31, d32, d33, d34, d35, d36, d37, d38, d39, d40, d41, d42, d43, d44, d45, d46, d47, d48, d49, d50, d51, d52, d53, d54, d55, d56, d57, d58, d59]
def fn2 : List He.DefD := [d60]
def fn : List He.DefD := fn0 ++ fn1 ++ fn2
def fa0 : List He.Fa := [.glo "_wall", .glo "look_text", .glo "folded", .glo "rank", .glo "look_many", .glo "best", .glo "look_deed", .glo "look_deeds", .glo "do", .glo "word_of", .glo "played", .glo "row_of", .glo "diary_text", .glo "deed_in", .glo "read_diary", .glo "_law_cell", .glo "_law_mix", .glo "_law_draw", .glo "_law_pick", .glo "_law_refusal", .glo "_law_row", .glo "_law_query", .glo "_law_deed", .glo "_law_rules", .glo "_law_text", .glo "_law_one", .glo "_law_told", .glo "law", .glo "AskError", .glo "BadText"]
def fa1 : List He.Fa := [.glo "BadNumber", .glo "BadAsk", .glo "Store", .glo "Asker", .glo "Road", .glo "Shelf", .free "ValueError", .free "all", .free "int", .free "isinstance", .free "len", .free "list", .free "max", .free "ord", .free "range", .free "sorted", .free "str", .int "MOST_TYPED" 12, .int "MOST_ROW" 20, .int "MOST_ROWS" 12, .int "MOST_ANSWER" 6, .int "MOST_PAUSE" 9, .int "MOST_ASKS" 3, .int "MOST_PATIENCE" 40, .int "MOST_TICKS" 100, .int "TRIES" 3, .int "MOST_DELAY" 30, .int "MOST_DELAYS" 8, .int "MOST_KEPT" 6, .int "MOST_TERM" 60]
def fa2 : List He.Fa := [.glo "WORDS", .int "MOST_SIGNS" 40, .int "MOST_TICK" 999, .str "FIGURES" "0123456789", .exc "BadText", .exc "BadNumber", .exc "BadAsk", .cls "Store", .mkr "Store", .noat "Store" "rows", .meth "Store" "add", .meth "Store" "remove", .meth "Store" "all_rows", .meth "Store" "answer", .cls "Asker", .mkr "Asker", .noat "Asker" "store", .noat "Asker" "road", .noat "Asker" "shelf", .noat "Asker" "rows_most", .noat "Asker" "pause", .noat "Asker" "asks_most", .noat "Asker" "patience", .noat "Asker" "time", .noat "Asker" "now", .noat "Asker" "typed_at", .noat "Asker" "is_due", .noat "Asker" "tries", .noat "Asker" "asked", .noat "Asker" "flying"]
def fa3 : List He.Fa := [.noat "Asker" "shown", .noat "Asker" "rows", .meth "Asker" "clock", .meth "Asker" "typed", .meth "Asker" "put", .meth "Asker" "key", .meth "Asker" "rub", .meth "Asker" "drop_other", .meth "Asker" "look_near", .meth "Asker" "is_fresh", .meth "Asker" "show", .meth "Asker" "ask_if_due", .meth "Asker" "step", .meth "Asker" "try_again", .meth "Asker" "tick", .meth "Asker" "again", .meth "Asker" "view", .meth "Asker" "is_waiting", .meth "Asker" "log", .cls "Road", .mkr "Road", .noat "Road" "delays", .noat "Road" "sent", .noat "Road" "under_way", .meth "Road" "send", .meth "Road" "due", .meth "Road" "many", .cls "Shelf", .mkr "Shelf", .noat "Shelf" "most"]
def fa4 : List He.Fa := [.noat "Shelf" "term", .noat "Shelf" "kept", .meth "Shelf" "put", .meth "Shelf" "queries", .meth "Shelf" "source", .meth "Shelf" "get", .meth "Shelf" "clear", .exm "BadText" "BadText" true, .exm "BadText" "BadNumber" false, .exm "BadText" "BadAsk" false, .exm "BadText" "AskError" true, .exm "BadNumber" "BadText" false, .exm "BadNumber" "BadNumber" true, .exm "BadNumber" "BadAsk" false, .exm "BadNumber" "AskError" true, .exm "BadAsk" "BadText" false, .exm "BadAsk" "BadNumber" false, .exm "BadAsk" "BadAsk" true, .exm "BadAsk" "AskError" true]
def fa : List He.Fa := fa0 ++ fa1 ++ fa2 ++ fa3 ++ fa4
def loose0 : List PySem.Str := ["_wall", "AskError", "BadText", "BadNumber", "BadAsk", "MOST_TYPED", "MOST_ROW", "look_text", "folded", "rank", "MOST_ROWS", "MOST_ANSWER", "look_many", "best", "Store", "MOST_PAUSE", "MOST_ASKS", "MOST_PATIENCE", "MOST_TICKS", "TRIES", "Asker", "MOST_DELAY", "MOST_DELAYS", "Road", "MOST_KEPT", "MOST_TERM", "Shelf", "WORDS", "MOST_SIGNS", "MOST_TICK"]
def loose1 : List PySem.Str := ["FIGURES", "look_deed", "look_deeds", "do", "word_of", "played", "row_of", "diary_text", "deed_in", "read_diary", "_law_cell", "_law_mix", "_law_draw", "_law_pick", "_law_refusal", "_law_row", "_law_query", "_law_deed", "_law_rules", "_law_text", "_law_one", "_law_told"]
def loose : List PySem.Str := loose0 ++ loose1

abbrev N__law_cell : List Str := ["script", "k"]
theorem sc__law_cell : FnScope N__law_cell ["script", "k"] (defScope s__law_cell) := ⟨rfl, rfl, rfl, by decide +kernel, rfl, by decide +kernel, by decide +kernel⟩
theorem cal__law_cell {P : Program} {w : World} {K : PySem.W.Frag} {mg : Str → Option Value} {base : Heap} (T : TX fa K mg isQ) (U : TW K w) (hd : ∃ fd, FunD K d48.name d48.qual d48.params d48.body d48.scope (d48.dvs K) (d48.kws K) (He.fAd K d48.at_) fd)  :
    Cal P w K mg base 1 ("_law_cell", none) ["script", "k"] (sp__law_cell K) :=
  cal_of (d := d48) (N := N__law_cell) (t := t__law_cell K) hd rfl rfl sc__law_cell len__law_cell (fun _ _ _ _ _ _ us hl => match us, hl with | [_, _], _ => rfl) (fun cdv A outer s H E hr => (pss_cons (ps_if (pt_truth (pv 0) (by intro _; rfl)) (pss_one (ps_ret (pe_ix ix_list (pv 0) (pe_op op_mod (pv 1) (pe_callB lenK (by rfl) (T.free 40) (by decide +kernel) (pa_cons (pv 0) (pa_nil)))) (fun _ _ => rfl)))) (pss_nil)) (pss_one (ps_ret (pe_int))))) pure__law_cell
abbrev N__law_mix : List Str := ["script", "k", "number"]
theorem sc__law_mix : FnScope N__law_mix ["script", "k"] (defScope s__law_mix) := ⟨rfl, rfl, rfl, by decide +kernel, rfl, by decide +kernel, by decide +kernel⟩
theorem cal__law_mix {P : Program} {w : World} {K : PySem.W.Frag} {mg : Str → Option Value} {base : Heap} (T : TX fa K mg isQ) (U : TW K w) (hd : ∃ fd, FunD K d49.name d49.qual d49.params d49.body d49.scope (d49.dvs K) (d49.kws K) (He.fAd K d49.at_) fd) (c__law_cell : Cal P w K mg base 1 ("_law_cell", none) ["script", "k"] (sp__law_cell K)) :
    Cal P w K mg base 2 ("_law_mix", none) ["script", "k"] (sp__law_mix K) :=
  cal_of (d := d49) (N := N__law_mix) (t := t__law_mix K) hd rfl rfl sc__law_mix len__law_mix (fun _ _ _ _ _ _ us hl => match us, hl with | [_, _], _ => rfl) (fun cdv A outer s H E hr => (pss_cons (ps_set (i := 2) sc__law_mix.nd rfl (Or.inl rfl) (pe_op op_mod (pe_op op_add (pe_cal c__law_cell (hr.mono (by decide)) (T.glo 15) pxOf (pa_cons (pv 0) (pa_cons (pv 1) (pa_nil)))) (pe_op op_mul (pe_int) (pe_op op_add (pv 1) (pe_int)))) (pe_int))) (pss_cons (ps_set (i := 2) sc__law_mix.nd rfl (Or.inl rfl) (pe_op op_mod (pe_op op_pow (pv 2) (pe_int)) (pe_int))) (pss_one (ps_ret (pe_op op_mod (pe_op op_add (pe_op op_mul (pe_op op_fdiv (pv 2) (pe_int)) (pe_int)) (pv 2)) (pe_int))))))) pure__law_mix
abbrev N__law_draw : List Str := ["script", "town", "many"]
theorem sc__law_draw : FnScope N__law_draw ["script", "town", "many"] (defScope s__law_draw) := ⟨rfl, rfl, rfl, by decide +kernel, rfl, by decide +kernel, by decide +kernel⟩
theorem cal__law_draw {P : Program} {w : World} {K : PySem.W.Frag} {mg : Str → Option Value} {base : Heap} (T : TX fa K mg isQ) (U : TW K w) (hd : ∃ fd, FunD K d50.name d50.qual d50.params d50.body d50.scope (d50.dvs K) (d50.kws K) (He.fAd K d50.at_) fd) (c__law_mix : Cal P w K mg base 2 ("_law_mix", none) ["script", "k"] (sp__law_mix K)) :
    Cal P w K mg base 3 ("_law_draw", none) ["script", "town", "many"] (sp__law_draw K) :=
  cal_of (d := d50) (N := N__law_draw) (t := t__law_draw K) hd rfl rfl sc__law_draw len__law_draw (fun _ _ _ _ _ _ us hl => match us, hl with | [_, _, _], _ => rfl) (fun cdv A outer s H E hr => (pss_cons (ps_expr (pe_bmC PySem.F.plainAttrs_list PySem.F.slot_list_append PySem.F.type_list_append mt_append (pv 1) (pa_cons (pe_int) (pa_nil)))) (pss_one (ps_ret (pe_op op_mod (pe_op op_fdiv (pe_cal c__law_mix (hr.mono (by decide)) (T.glo 16) pxOf (pa_cons (pv 0) (pa_cons (pe_callB lenL (by rfl) (T.free 40) (by decide +kernel) (pa_cons (pv 1) (pa_nil))) (pa_nil)))) (pe_int)) (pv 2)))))) pure__law_draw
abbrev N__law_pick : List Str := ["script", "town", "some"]
theorem sc__law_pick : FnScope N__law_pick ["script", "town", "some"] (defScope s__law_pick) := ⟨rfl, rfl, rfl, by decide +kernel, rfl, by decide +kernel, by decide +kernel⟩
theorem cal__law_pick {P : Program} {w : World} {K : PySem.W.Frag} {mg : Str → Option Value} {base : Heap} (T : TX fa K mg isQ) (U : TW K w) (hd : ∃ fd, FunD K d51.name d51.qual d51.params d51.body d51.scope (d51.dvs K) (d51.kws K) (He.fAd K d51.at_) fd) (c__law_draw : Cal P w K mg base 3 ("_law_draw", none) ["script", "town", "many"] (sp__law_draw K)) :
    Cal P w K mg base 4 ("_law_pick", none) ["script", "town", "some"] (sp__law_pick K) :=
  cal_of (d := d51) (N := N__law_pick) (t := t__law_pick K) hd rfl rfl sc__law_pick len__law_pick (fun _ _ _ _ _ _ us hl => match us, hl with | [_, _, _], _ => rfl) (fun cdv A outer s H E hr => (pss_one (ps_ret (pe_ix ixL (pv 2) (pe_cal c__law_draw (hr.mono (by decide)) (T.glo 17) pxOf (pa_cons (pv 0) (pa_cons (pv 1) (pa_cons (pe_callB lenL (by rfl) (T.free 40) (by decide +kernel) (pa_cons (pv 2) (pa_nil))) (pa_nil))))) (fun _ _ => rfl))))) pure__law_pick
abbrev N__law_query : List Str := ["script", "town", "found", "k"]
theorem sc__law_query : FnScope N__law_query ["script", "town"] (defScope s__law_query) := ⟨rfl, rfl, rfl, by decide +kernel, rfl, by decide +kernel, by decide +kernel⟩
theorem cal__law_query {P : Program} {w : World} {K : PySem.W.Frag} {mg : Str → Option Value} {base : Heap} (T : TX fa K mg isQ) (U : TW K w) (hd : ∃ fd, FunD K d54.name d54.qual d54.params d54.body d54.scope (d54.dvs K) (d54.kws K) (He.fAd K d54.at_) fd) (c__law_draw : Cal P w K mg base 3 ("_law_draw", none) ["script", "town", "many"] (sp__law_draw K)) (c__law_pick : Cal P w K mg base 4 ("_law_pick", none) ["script", "town", "some"] (sp__law_pick K)) :
    Cal P w K mg base 5 ("_law_query", none) ["script", "town"] (sp__law_query K) :=
  cal_of (d := d54) (N := N__law_query) (t := t__law_query K) hd rfl rfl sc__law_query len__law_query (fun _ _ _ _ _ _ us hl => match us, hl with | [_, _], _ => rfl) (fun cdv A outer s H E hr => (pss_cons (ps_set (i := 2) sc__law_query.nd rfl (Or.inl rfl) (pe_str)) (pss_cons (ps_forR1 poOf rfl rfl (T.free 44) (pa_cons (pe_cal c__law_draw (hr.mono (by decide)) (T.glo 17) pxOf (pa_cons (pv 0) (pa_cons (pv 1) (pa_cons (pe_int) (pa_nil))))) (pa_nil)) (pg_name (i := 3) sc__law_query.nd rfl (Or.inl rfl)) (pss_one (ps_set (i := 2) sc__law_query.nd rfl (Or.inl rfl) (pe_op catS (pv 2) (pe_cal c__law_pick (hr.mono (by decide)) (T.glo 18) pxOf (pa_cons (pv 0) (pa_cons (pv 1) (pa_cons (pe_lst (pa_cons (pe_str) (pa_cons (pe_str) (pa_cons (pe_str) (pa_cons (pe_str) (pa_cons (pe_str) (pa_cons (pe_str) (pa_nil)))))))) (pa_nil))))))))) (pss_one (ps_ret (pv 2)))))) pure__law_query
abbrev N__law_row : List Str := ["script", "town", "found", "k"]
theorem sc__law_row : FnScope N__law_row ["script", "town"] (defScope s__law_row) := ⟨rfl, rfl, rfl, by decide +kernel, rfl, by decide +kernel, by decide +kernel⟩
theorem cal__law_row {P : Program} {w : World} {K : PySem.W.Frag} {mg : Str → Option Value} {base : Heap} (T : TX fa K mg isQ) (U : TW K w) (hd : ∃ fd, FunD K d53.name d53.qual d53.params d53.body d53.scope (d53.dvs K) (d53.kws K) (He.fAd K d53.at_) fd) (c__law_draw : Cal P w K mg base 3 ("_law_draw", none) ["script", "town", "many"] (sp__law_draw K)) (c__law_pick : Cal P w K mg base 4 ("_law_pick", none) ["script", "town", "some"] (sp__law_pick K)) :
    Cal P w K mg base 5 ("_law_row", none) ["script", "town"] (sp__law_row K) :=
  cal_of (d := d53) (N := N__law_row) (t := t__law_row K) hd rfl rfl sc__law_row len__law_row (fun _ _ _ _ _ _ us hl => match us, hl with | [_, _], _ => rfl) (fun cdv A outer s H E hr => (pss_cons (ps_set (i := 2) sc__law_row.nd rfl (Or.inl rfl) (pe_str)) (pss_cons (ps_forR1 poOf rfl rfl (T.free 44) (pa_cons (pe_op op_add (pe_int) (pe_cal c__law_draw (hr.mono (by decide)) (T.glo 17) pxOf (pa_cons (pv 0) (pa_cons (pv 1) (pa_cons (pe_int) (pa_nil)))))) (pa_nil)) (pg_name (i := 3) sc__law_row.nd rfl (Or.inl rfl)) (pss_cons (ps_set (i := 2) sc__law_row.nd rfl (Or.inl rfl) (pe_op catS (pv 2) (pe_cal c__law_pick (hr.mono (by decide)) (T.glo 18) pxOf (pa_cons (pv 0) (pa_cons (pv 1) (pa_cons (pe_lst (pa_cons (pe_str) (pa_cons (pe_str) (pa_cons (pe_str) (pa_cons (pe_str) (pa_cons (pe_str) (pa_cons (pe_str) (pa_cons (pe_str) (pa_nil))))))))) (pa_nil))))))) (pss_one (ps_set (i := 2) sc__law_row.nd rfl (Or.inl rfl) (pe_op catS (pv 2) (pe_cal c__law_pick (hr.mono (by decide)) (T.glo 18) pxOf (pa_cons (pv 0) (pa_cons (pv 1) (pa_cons (pe_lst (pa_cons (pe_str) (pa_cons (pe_str) (pa_cons (pe_str) (pa_nil))))) (pa_nil)))))))))) (pss_one (ps_ret (pv 2)))))) pure__law_row
abbrev N__law_deed : List Str := ["script", "town", "kind"]
theorem sc__law_deed : FnScope N__law_deed ["script", "town"] (defScope s__law_deed) := ⟨rfl, rfl, rfl, by decide +kernel, rfl, by decide +kernel, by decide +kernel⟩
theorem cal__law_deed {P : Program} {w : World} {K : PySem.W.Frag} {mg : Str → Option Value} {base : Heap} (T : TX fa K mg isQ) (U : TW K w) (hd : ∃ fd, FunD K d55.name d55.qual d55.params d55.body d55.scope (d55.dvs K) (d55.kws K) (He.fAd K d55.at_) fd) (c__law_draw : Cal P w K mg base 3 ("_law_draw", none) ["script", "town", "many"] (sp__law_draw K)) (c__law_pick : Cal P w K mg base 4 ("_law_pick", none) ["script", "town", "some"] (sp__law_pick K)) (c__law_query : Cal P w K mg base 5 ("_law_query", none) ["script", "town"] (sp__law_query K)) (c__law_row : Cal P w K mg base 5 ("_law_row", none) ["script", "town"] (sp__law_row K)) :
    Cal P w K mg base 6 ("_law_deed", none) ["script", "town"] (sp__law_deed K) :=
  cal_of (d := d55) (N := N__law_deed) (t := t__law_deed K) hd rfl rfl sc__law_deed len__law_deed (fun _ _ _ _ _ _ us hl => match us, hl with | [_, _], _ => rfl) (fun cdv A outer s H E hr => (pss_cons (ps_set (i := 2) sc__law_deed.nd rfl (Or.inl rfl) (pe_cal c__law_draw (hr.mono (by decide)) (T.glo 17) pxOf (pa_cons (pv 0) (pa_cons (pv 1) (pa_cons (pe_int) (pa_nil)))))) (pss_cons (ps_if (pt_cmpR op_lt (pv 2) (pe_int) (nomark _)) (pss_one (ps_ret (pe_tup (pa_cons (pe_str) (pa_cons (pe_cal c__law_pick (hr.mono (by decide)) (T.glo 18) pxOf (pa_cons (pv 0) (pa_cons (pv 1) (pa_cons (pe_lst (pa_cons (pe_str) (pa_cons (pe_str) (pa_cons (pe_str) (pa_cons (pe_str) (pa_cons (pe_str) (pa_cons (pe_str) (pa_cons (pe_str) (pa_nil))))))))) (pa_nil))))) (pa_nil)))))) (pss_nil)) (pss_cons (ps_if (pt_cmpR op_lt (pv 2) (pe_int) (nomark _)) (pss_one (ps_ret (pe_tup (pa_cons (pe_str) (pa_cons (pe_cal c__law_pick (hr.mono (by decide)) (T.glo 18) pxOf (pa_cons (pv 0) (pa_cons (pv 1) (pa_cons (pe_lst (pa_cons (pe_int) (pa_cons (pe_int) (pa_cons (pe_int) (pa_cons (pe_int) (pa_cons (pe_int) (pa_cons (pe_int) (pa_cons (pe_int) (pa_cons (pe_int) (pa_nil)))))))))) (pa_nil))))) (pa_nil)))))) (pss_nil)) (pss_cons (ps_if (pt_cmpR op_eq (pv 2) (pe_int) (nomark _)) (pss_one (ps_ret (pe_tup (pa_cons (pe_str) (pa_cons (pe_cal c__law_pick (hr.mono (by decide)) (T.glo 18) pxOf (pa_cons (pv 0) (pa_cons (pv 1) (pa_cons (pe_lst (pa_cons (pe_cal c__law_query (hr.mono (by decide)) (T.glo 21) pxOf (pa_cons (pv 0) (pa_cons (pv 1) (pa_nil)))) (pa_cons (pe_str) (pa_cons (pe_op repS (pe_str) (pe_int)) (pa_nil))))) (pa_nil))))) (pa_nil)))))) (pss_nil)) (pss_cons (ps_if (pt_cmpR op_eq (pv 2) (pe_int) (nomark _)) (pss_one (ps_ret (pe_cal c__law_pick (hr.mono (by decide)) (T.glo 18) pxOf (pa_cons (pv 0) (pa_cons (pv 1) (pa_cons (pe_lst (pa_cons (pe_tup (pa_cons (pe_str) (pa_nil))) (pa_cons (pe_tup (pa_cons (pe_str) (pa_nil))) (pa_nil)))) (pa_nil))))))) (pss_nil)) (pss_cons (ps_if (pt_cmpR op_lt (pv 2) (pe_int) (nomark _)) (pss_one (ps_ret (pe_tup (pa_cons (pe_str) (pa_cons (pe_cal c__law_pick (hr.mono (by decide)) (T.glo 18) pxOf (pa_cons (pv 0) (pa_cons (pv 1) (pa_cons (pe_lst (pa_cons (pe_cal c__law_row (hr.mono (by decide)) (T.glo 20) pxOf (pa_cons (pv 0) (pa_cons (pv 1) (pa_nil)))) (pa_cons (pe_str) (pa_cons (pe_str) (pa_cons (pe_str) (pa_cons (pe_op repS (pe_str) (pe_int)) (pa_nil))))))) (pa_nil))))) (pa_nil)))))) (pss_nil)) (pss_one (ps_ret (pe_tup (pa_cons (pe_str) (pa_cons (pe_cal c__law_pick (hr.mono (by decide)) (T.glo 18) pxOf (pa_cons (pv 0) (pa_cons (pv 1) (pa_cons (pe_lst (pa_cons (pe_str) (pa_cons (pe_str) (pa_cons (pe_str) (pa_cons (pe_cal c__law_row (hr.mono (by decide)) (T.glo 20) pxOf (pa_cons (pv 0) (pa_cons (pv 1) (pa_nil)))) (pa_nil)))))) (pa_nil))))) (pa_nil))))))))))))) pure__law_deed
abbrev N__law_text : List Str := ["deeds", "found", "k"]
theorem sc__law_text : FnScope N__law_text ["deeds"] (defScope s__law_text) := ⟨rfl, rfl, rfl, by decide +kernel, rfl, by decide +kernel, by decide +kernel⟩
theorem cal__law_text {P : Program} {w : World} {K : PySem.W.Frag} {mg : Str → Option Value} {base : Heap} (T : TX fa K mg isQ) (U : TW K w) (hd : ∃ fd, FunD K d57.name d57.qual d57.params d57.body d57.scope (d57.dvs K) (d57.kws K) (He.fAd K d57.at_) fd)  :
    Cal P w K mg base 1 ("_law_text", none) ["deeds"] (sp__law_text K) :=
  cal_of (d := d57) (N := N__law_text) (t := t__law_text K) hd rfl rfl sc__law_text len__law_text (fun _ _ _ _ _ _ us hl => match us, hl with | [_], _ => rfl) (fun cdv A outer s H E hr => (pss_cons (ps_set (i := 1) sc__law_text.nd rfl (Or.inl rfl) (pe_str)) (pss_cons (ps_forR1 poOf rfl rfl (T.free 44) (pa_cons (pe_callB lenL (by rfl) (T.free 40) (by decide +kernel) (pa_cons (pv 0) (pa_nil))) (pa_nil)) (pg_name (i := 2) sc__law_text.nd rfl (Or.inl rfl)) (pss_cons (ps_set (i := 1) sc__law_text.nd rfl (Or.inl rfl) (pe_op catS (pe_op catS (pv 1) (pe_ifExp (pt_cmpR op_gt (pv 2) (pe_int) (nomark _)) (pe_str) (pe_str))) (pe_ix ixT (pe_ix ixL (pv 0) (pv 2) (fun _ _ => rfl)) (pe_int) (fun _ _ => rfl)))) (pss_one (ps_if (pt_cmpR op_gt (pe_callB lenT (by rfl) (T.free 40) (by decide +kernel) (pa_cons (pe_ix ixL (pv 0) (pv 2) (fun _ _ => rfl)) (pa_nil))) (pe_int) (nomark _)) (pss_one (ps_set (i := 1) sc__law_text.nd rfl (Or.inl rfl) (pe_op catS (pe_op catS (pv 1) (pe_str)) (pe_callTy strA (by rfl) (T.free 46) (by decide +kernel) (pa_cons (pe_ix ixT (pe_ix ixL (pv 0) (pv 2) (fun _ _ => rfl)) (pe_int) (fun _ _ => rfl)) (pa_nil)))))) (pss_nil))))) (pss_one (ps_ret (pv 1)))))) pure__law_text
abbrev N_look_text : List Str := ["text", "most", "sign"]
theorem sc_look_text : FnScope N_look_text ["text", "most"] (defScope s_look_text) := ⟨rfl, rfl, rfl, by decide +kernel, rfl, by decide +kernel, by decide +kernel⟩
theorem cal_look_text {P : Program} {w : World} {K : PySem.W.Frag} {mg : Str → Option Value} {base : Heap} (T : TX fa K mg isQ) (U : TW K w) (hd : ∃ fd, FunD K d1.name d1.qual d1.params d1.body d1.scope (d1.dvs K) (d1.kws K) (He.fAd K d1.at_) fd)  :
    Cal P w K mg base 1 ("look_text", none) ["text", "most"] (sp_look_text K) :=
  cal_of (d := d1) (N := N_look_text) (t := t_look_text K) hd rfl rfl sc_look_text len_look_text (fun _ _ _ _ _ _ us hl => match us, hl with | [_, _], _ => rfl) (fun cdv A outer s H E hr => (pss_one (ps_if (PW.pt (pw_or (pt_cmpR op_gt (pe_callB lenS (by rfl) (T.free 40) (by decide +kernel) (pa_cons (pv 0) (pa_nil))) (pv 1) (nomark _)) (pw_or1 (pt_not (pt_val (pe_callB (allL rfl) (by rfl) (T.free 37) (by decide +kernel) (pa_cons (pe_lcS (own := [("sign", 2)]) (g := gName 2) (tt := tYes) (te := tAndV (tChain (rI0 fun i j => .bl (decide (i ≤ j))) (rI0 fun i j => .bl (decide (i < j))) (tC (.int 32)) (tCB (gOrd) (tCons (tVar 2) (tNil))) (tC (.int 127))) (tOp (rNe) (tCB (gOrd) (tCons (tVar 2) (tNil))) (tC (.int 37)))) rfl sc_look_text.nd (pv 0) (blkOk_by (own := [("sign", 2)]) (N := N_look_text) (sc := defScope s_look_text) (by decide +kernel)) (fun _ _ _ _ _ => pg_name (i := 2) sc_look_text.nd rfl (Or.inl rfl)) (fun _ _ _ _ _ => pts_nil) (fun _ _ _ _ _ => pe_and (pe_chain op_le op_lt (pe_int) (pe_callB ordS (by rfl) (T.free 43) (by decide +kernel) (pa_cons (pv 2) (pa_nil))) (pe_int)) (pe_one (pe_cmpR op_ne (pe_callB ordS (by rfl) (T.free 43) (by decide +kernel) (pa_cons (pv 2) (pa_nil))) (pe_int) (nomark _))))) (pa_nil)))))))) (pss_one (ps_raiseC rfl tkOf (T.exc 64) (T.glo 29))) (pss_nil)))) pure_look_text
abbrev N_deed_in : List Str := ["row", "place", "word", "rest", "sign"]
theorem sc_deed_in : FnScope N_deed_in ["row"] (defScope s_deed_in) := ⟨rfl, rfl, rfl, by decide +kernel, rfl, by decide +kernel, by decide +kernel⟩
theorem cal_deed_in {P : Program} {w : World} {K : PySem.W.Frag} {mg : Str → Option Value} {base : Heap} (T : TX fa K mg isQ) (U : TW K w) (hd : ∃ fd, FunD K d46.name d46.qual d46.params d46.body d46.scope (d46.dvs K) (d46.kws K) (He.fAd K d46.at_) fd) (c_look_text : Cal P w K mg base 1 ("look_text", none) ["text", "most"] (sp_look_text K)) :
    Cal P w K mg base 2 ("deed_in", none) ["row"] (sp_deed_in K) :=
  cal_of (d := d46) (N := N_deed_in) (t := t_deed_in K) hd rfl rfl sc_deed_in len_deed_in (fun _ _ _ _ _ _ us hl => match us, hl with | [_], _ => rfl) (fun cdv A outer s H E hr => (pss_cons (ps_set (i := 1) sc_deed_in.nd rfl (Or.inl rfl) (pe_bmC PySem.F.plainAttrs_str PySem.F.slot_str_find PySem.F.type_str_find mtFind (pv 0) (pa_cons (pe_str) (pa_nil)))) (pss_cons (ps_set (i := 2) sc_deed_in.nd rfl (Or.inl rfl) (pe_ifExp (pt_cmpR op_lt (pv 1) (pe_int) (nomark _)) (pv 0) (pe_slice sl_str (pv 0) (po_none) (po_some (pv 1))))) (pss_cons (ps_if (PW.pt (pw_or (pt_cmpR (op_ninW U) (pv 2) (pe_cR (T.glo 60)) (by rfl)) (pw_or1 (pt_cmpR op_ne (pe_cmpR op_eq (pe_ixW U (pe_cR (T.glo 60)) (pv 2) (fun _ _ => rfl)) (pe_int) (nomark _)) (pe_cmpR op_lt (pv 1) (pe_int) (nomark _)) (nomark _))))) (pss_one (ps_raiseC rfl tkOf (T.exc 64) (T.glo 29))) (pss_nil)) (pss_cons (ps_if (pt_cmpR op_lt (pv 1) (pe_int) (nomark _)) (pss_one (ps_ret (pe_tup (pa_cons (pv 2) (pa_nil))))) (pss_nil)) (pss_cons (ps_set (i := 3) sc_deed_in.nd rfl (Or.inl rfl) (pe_slice sl_str (pv 0) (po_some (pe_op op_add (pv 1) (pe_int))) (po_none))) (pss_cons (ps_if (pt_cmpR op_eq (pv 2) (pe_str) (nomark _)) (pss_cons (ps_if (PW.pt (pw_or (pt_not (pt_chain op_le op_le (pe_int) (pe_callB lenS (by rfl) (T.free 40) (by decide +kernel) (pa_cons (pv 3) (pa_nil))) (pe_int))) (pw_or1 (pt_not (pt_val (pe_callB (allL rfl) (by rfl) (T.free 37) (by decide +kernel) (pa_cons (pe_lcS (own := [("sign", 4)]) (g := gName 4) (tt := tYes) (te := tOp (gInS) (tVar 4) (tC (.str "0123456789"))) rfl sc_deed_in.nd (pv 3) (blkOk_by (own := [("sign", 4)]) (N := N_deed_in) (sc := defScope s_deed_in) (by decide +kernel)) (fun _ _ _ _ _ => pg_name (i := 4) sc_deed_in.nd rfl (Or.inl rfl)) (fun _ _ _ _ _ => pts_nil) (fun _ _ _ _ _ => pe_cmpR inS (pv 4) (pe_cS (T.str 63)) (by rfl))) (pa_nil)))))))) (pss_one (ps_raiseC rfl tkOf (T.exc 64) (T.glo 29))) (pss_nil)) (pss_one (ps_ret (pe_tup (pa_cons (pv 2) (pa_cons (pe_callTy intS (by rfl) (T.free 38) (by decide +kernel) (pa_cons (pv 3) (pa_nil))) (pa_nil))))))) (pss_nil)) (pss_cons (ps_expr (pe_cal c_look_text (hr.mono (by decide)) (T.glo 1) pxOf (pa_cons (pv 3) (pa_cons (pe_cI (T.int 61)) (pa_nil))))) (pss_one (ps_ret (pe_tup (pa_cons (pv 2) (pa_cons (pv 3) (pa_nil)))))))))))))) pure_deed_in
abbrev N_row_of : List Str := ["deed", "one"]
theorem sc_row_of : FnScope N_row_of ["deed"] (defScope s_row_of) := ⟨rfl, rfl, rfl, by decide +kernel, rfl, by decide +kernel, by decide +kernel⟩
theorem cal_row_of {P : Program} {w : World} {K : PySem.W.Frag} {mg : Str → Option Value} {base : Heap} (T : TX fa K mg isQ) (U : TW K w) (hd : ∃ fd, FunD K d44.name d44.qual d44.params d44.body d44.scope (d44.dvs K) (d44.kws K) (He.fAd K d44.at_) fd)  :
    Cal P w K mg base 1 ("row_of", none) ["deed"] (sp_row_of K) :=
  cal_of (d := d44) (N := N_row_of) (t := t_row_of K) hd rfl rfl sc_row_of len_row_of (fun _ _ _ _ _ _ us hl => match us, hl with | [_], _ => rfl) (fun cdv A outer s H E hr => (pss_one (ps_ret (pe_bmC PySem.F.plainAttrs_str PySem.F.slot_str_join PySem.F.type_str_join mtJoin (pe_str) (pa_cons (pe_lcT (own := [("one", 1)]) (g := gName 1) (tt := tYes) (te := tCB (gStrA) (tCons (tVar 1) (tNil))) rfl sc_row_of.nd (pv 0) (blkOk_by (own := [("one", 1)]) (N := N_row_of) (sc := defScope s_row_of) (by decide +kernel)) (fun _ _ _ _ _ => pg_name (i := 1) sc_row_of.nd rfl (Or.inl rfl)) (fun _ _ _ _ _ => pts_nil) (fun _ _ _ _ _ => pe_callTy strA (by rfl) (T.free 46) (by decide +kernel) (pa_cons (pv 1) (pa_nil)))) (pa_nil)))))) pure_row_of
abbrev N_read_diary : List Str := ["text", "found", "row", "deed"]
theorem sc_read_diary : FnScope N_read_diary ["text"] (defScope s_read_diary) := ⟨rfl, rfl, rfl, by decide +kernel, rfl, by decide +kernel, by decide +kernel⟩
theorem cal_read_diary {P : Program} {w : World} {K : PySem.W.Frag} {mg : Str → Option Value} {base : Heap} (T : TX fa K mg isQ) (U : TW K w) (hd : ∃ fd, FunD K d47.name d47.qual d47.params d47.body d47.scope (d47.dvs K) (d47.kws K) (He.fAd K d47.at_) fd) (c_deed_in : Cal P w K mg base 2 ("deed_in", none) ["row"] (sp_deed_in K)) (c_row_of : Cal P w K mg base 1 ("row_of", none) ["deed"] (sp_row_of K)) :
    Cal P w K mg base 3 ("read_diary", none) ["text"] (sp_read_diary K) :=
  cal_of (d := d47) (N := N_read_diary) (t := t_read_diary K) hd rfl rfl sc_read_diary len_read_diary (fun _ _ _ _ _ _ us hl => match us, hl with | [_], _ => rfl) (fun cdv A outer s H E hr => (pss_cons (ps_set (i := 1) sc_read_diary.nd rfl (Or.inl rfl) (pe_ifExp (pt_cmpR op_ne (pv 0) (pe_str) (nomark _)) (pe_lcLX (own := [("row", 2)]) (g := gName 2) (tt := tYes) (te := tCall (sp_deed_in K) [] E (tCons (tVar 2) (tNil))) rfl rfl tkOf rfl sc_read_diary.nd (pe_bmC PySem.F.plainAttrs_str PySem.F.slot_str_split PySem.F.type_str_split mtSplit (pv 0) (pa_cons (pe_str) (pa_nil))) (blkOk_by (own := [("row", 2)]) (N := N_read_diary) (sc := defScope s_read_diary) (by decide +kernel)) (fun _ _ _ _ _ _ => pg_name (i := 2) sc_read_diary.nd rfl (Or.inl rfl)) (fun _ _ _ _ _ _ => pts_nil) (fun _ _ _ _ _ _ px => pe_cal c_deed_in (hr.mono (by decide)) (T.glo 13) px (pa_cons (pv 2) (pa_nil)))) (pe_lst (pa_nil)))) (pss_cons (ps_if (pt_cmpR op_ne (pe_bmC PySem.F.plainAttrs_str PySem.F.slot_str_join PySem.F.type_str_join mtJoin (pe_str) (pa_cons (pe_lcL (own := [("deed", 3)]) (g := gName 3) (tt := tYes) (te := tCall (sp_row_of K) [] E0 (tCons (tVar 3) (tNil))) rfl sc_read_diary.nd (pv 1) (blkOk_by (own := [("deed", 3)]) (N := N_read_diary) (sc := defScope s_read_diary) (by decide +kernel)) (fun _ _ _ _ _ => pg_name (i := 3) sc_read_diary.nd rfl (Or.inl rfl)) (fun _ _ _ _ _ => pts_nil) (fun _ _ _ _ _ => pe_cal c_row_of (hr.mono (by decide)) (T.glo 11) pxB (pa_cons (pv 3) (pa_nil)))) (pa_nil))) (pv 0) (nomark _)) (pss_one (ps_raiseC rfl tkOf (T.exc 64) (T.glo 29))) (pss_nil)) (pss_one (ps_ret (pv 1)))))) pure_read_diary
abbrev N_look_deed : List Str := ["deed"]
theorem sc_look_deed : FnScope N_look_deed ["deed"] (defScope s_look_deed) := ⟨rfl, rfl, rfl, by decide +kernel, rfl, by decide +kernel, by decide +kernel⟩
theorem cal_look_deed {P : Program} {w : World} {K : PySem.W.Frag} {mg : Str → Option Value} {base : Heap} (T : TX fa K mg isQ) (U : TW K w) (hd : ∃ fd, FunD K d39.name d39.qual d39.params d39.body d39.scope (d39.dvs K) (d39.kws K) (He.fAd K d39.at_) fd) (c_look_text : Cal P w K mg base 1 ("look_text", none) ["text", "most"] (sp_look_text K)) :
    Cal P w K mg base 2 ("look_deed", none) ["deed"] (sp_look_deed K) :=
  cal_of (d := d39) (N := N_look_deed) (t := t_look_deed K) hd rfl rfl sc_look_deed len_look_deed (fun _ _ _ _ _ _ us hl => match us, hl with | [_], _ => rfl) (fun cdv A outer s H E hr => (pss_cons (ps_if (PW.pt (pw_or (pt_cmpR op_eq (pe_callB lenT (by rfl) (T.free 40) (by decide +kernel) (pa_cons (pv 0) (pa_nil))) (pe_int) (nomark _)) (pw_or (pt_cmpR (op_ninW U) (pe_ix ixT (pv 0) (pe_int) (fun _ _ => rfl)) (pe_cR (T.glo 60)) (by rfl)) (pw_or1 (pt_cmpR op_ne (pe_callB lenT (by rfl) (T.free 40) (by decide +kernel) (pa_cons (pv 0) (pa_nil))) (pe_ixW U (pe_cR (T.glo 60)) (pe_ix ixT (pv 0) (pe_int) (fun _ _ => rfl)) (fun _ _ => rfl)) (nomark _)))))) (pss_one (ps_raiseC rfl tkOf (T.exc 66) (T.glo 31))) (pss_nil)) (pss_one (ps_if (pt_cmpR op_eq (pe_ix ixT (pv 0) (pe_int) (fun _ _ => rfl)) (pe_str) (nomark _)) (pss_one (ps_if (pt_not (pt_chain op_le op_le (pe_int) (pe_ix ixT (pv 0) (pe_int) (fun _ _ => rfl)) (pe_cI (T.int 62)))) (pss_one (ps_raiseC rfl tkOf (T.exc 65) (T.glo 30))) (pss_nil))) (pss_one (ps_if (pt_cmpR op_eq (pe_callB lenT (by rfl) (T.free 40) (by decide +kernel) (pa_cons (pv 0) (pa_nil))) (pe_int) (nomark _)) (pss_one (ps_expr (pe_cal c_look_text (hr.mono (by decide)) (T.glo 1) pxOf (pa_cons (pe_ix ixT (pv 0) (pe_int) (fun _ _ => rfl)) (pa_cons (pe_cI (T.int 61)) (pa_nil)))))) (pss_nil))))))) pure_look_deed
abbrev N_look_deeds : List Str := ["deeds", "deed"]
theorem sc_look_deeds : FnScope N_look_deeds ["deeds"] (defScope s_look_deeds) := ⟨rfl, rfl, rfl, by decide +kernel, rfl, by decide +kernel, by decide +kernel⟩
theorem cal_look_deeds {P : Program} {w : World} {K : PySem.W.Frag} {mg : Str → Option Value} {base : Heap} (T : TX fa K mg isQ) (U : TW K w) (hd : ∃ fd, FunD K d40.name d40.qual d40.params d40.body d40.scope (d40.dvs K) (d40.kws K) (He.fAd K d40.at_) fd) (c_look_deed : Cal P w K mg base 2 ("look_deed", none) ["deed"] (sp_look_deed K)) :
    Cal P w K mg base 3 ("look_deeds", none) ["deeds"] (sp_look_deeds K) :=
  cal_of (d := d40) (N := N_look_deeds) (t := t_look_deeds K) hd rfl rfl sc_look_deeds len_look_deeds (fun _ _ _ _ _ _ us hl => match us, hl with | [_], _ => rfl) (fun cdv A outer s H E hr => (pss_one (ps_forL poOf rfl (pv 0) (pg_name (i := 1) sc_look_deeds.nd rfl (Or.inl rfl)) (pss_one (ps_expr (pe_cal c_look_deed (hr.mono (by decide)) (T.glo 6) pxOf (pa_cons (pv 1) (pa_nil)))))))) pure_look_deeds
abbrev N_diary_text : List Str := ["deeds", "deed"]
theorem sc_diary_text : FnScope N_diary_text ["deeds"] (defScope s_diary_text) := ⟨rfl, rfl, rfl, by decide +kernel, rfl, by decide +kernel, by decide +kernel⟩
theorem cal_diary_text {P : Program} {w : World} {K : PySem.W.Frag} {mg : Str → Option Value} {base : Heap} (T : TX fa K mg isQ) (U : TW K w) (hd : ∃ fd, FunD K d45.name d45.qual d45.params d45.body d45.scope (d45.dvs K) (d45.kws K) (He.fAd K d45.at_) fd) (c_look_deeds : Cal P w K mg base 3 ("look_deeds", none) ["deeds"] (sp_look_deeds K)) (c_row_of : Cal P w K mg base 1 ("row_of", none) ["deed"] (sp_row_of K)) :
    Cal P w K mg base 4 ("diary_text", none) ["deeds"] (sp_diary_text K) :=
  cal_of (d := d45) (N := N_diary_text) (t := t_diary_text K) hd rfl rfl sc_diary_text len_diary_text (fun _ _ _ _ _ _ us hl => match us, hl with | [_], _ => rfl) (fun cdv A outer s H E hr => (pss_cons (ps_expr (pe_cal c_look_deeds (hr.mono (by decide)) (T.glo 7) pxOf (pa_cons (pv 0) (pa_nil)))) (pss_one (ps_ret (pe_bmC PySem.F.plainAttrs_str PySem.F.slot_str_join PySem.F.type_str_join mtJoin (pe_str) (pa_cons (pe_lcL (own := [("deed", 1)]) (g := gName 1) (tt := tYes) (te := tCall (sp_row_of K) [] E0 (tCons (tVar 1) (tNil))) rfl sc_diary_text.nd (pv 0) (blkOk_by (own := [("deed", 1)]) (N := N_diary_text) (sc := defScope s_diary_text) (by decide +kernel)) (fun _ _ _ _ _ => pg_name (i := 1) sc_diary_text.nd rfl (Or.inl rfl)) (fun _ _ _ _ _ => pts_nil) (fun _ _ _ _ _ => pe_cal c_row_of (hr.mono (by decide)) (T.glo 11) pxB (pa_cons (pv 1) (pa_nil)))) (pa_nil))))))) pure_diary_text
abbrev N_Store___init__ : List Str := ["self"]
theorem sc_Store___init__ : FnScope N_Store___init__ ["self"] (defScope s_Store___init__) := ⟨rfl, rfl, rfl, by decide +kernel, rfl, by decide +kernel, by decide +kernel⟩
theorem cal_Store___init__ {P : Program} {w : World} {K : PySem.W.Frag} {mg : Str → Option Value} {base : Heap} (T : TX fa K mg isQ) (U : TW K w) (hd : ∃ fd, FunD K d6.name d6.qual d6.params d6.body d6.scope (d6.dvs K) (d6.kws K) (He.fAd K d6.at_) fd)  :
    Cal P w K mg base 1 ("Store", some "__init__") ["self"] (sp_Store___init__ K) :=
  cal_of (d := d6) (N := N_Store___init__) (t := t_Store___init__ K) hd rfl rfl sc_Store___init__ len_Store___init__ (fun _ _ _ _ _ _ us hl => match us, hl with | [_], _ => rfl) (fun cdv A outer s H E hr => (pss_one (ps_fldC (T.cls 67) (T.noat 69) (pv 0) (pe_lst (pa_nil)) rfl))) pure_Store___init__
abbrev N_Road___init__ : List Str := ["self", "delays", "good", "delay"]
theorem sc_Road___init__ : FnScope N_Road___init__ ["self", "delays"] (defScope s_Road___init__) := ⟨rfl, rfl, rfl, by decide +kernel, rfl, by decide +kernel, by decide +kernel⟩
theorem cal_Road___init__ {P : Program} {w : World} {K : PySem.W.Frag} {mg : Str → Option Value} {base : Heap} (T : TX fa K mg isQ) (U : TW K w) (hd : ∃ fd, FunD K d29.name d29.qual d29.params d29.body d29.scope (d29.dvs K) (d29.kws K) (He.fAd K d29.at_) fd)  :
    Cal P w K mg base 1 ("Road", some "__init__") ["self", "delays"] (sp_Road___init__ K) :=
  cal_of (d := d29) (N := N_Road___init__) (t := t_Road___init__ K) hd rfl rfl sc_Road___init__ len_Road___init__ (fun _ _ _ _ _ _ us hl => match us, hl with | [_, _], _ => rfl) (fun cdv A outer s H E hr => (pss_cons (ps_set (i := 2) sc_Road___init__.nd rfl (Or.inl rfl) (pe_chain op_le op_le (pe_int) (pe_callB lenL (by rfl) (T.free 40) (by decide +kernel) (pa_cons (pv 1) (pa_nil))) (pe_cI (T.int 57)))) (pss_cons (ps_if (PW.pt (pw_or (pt_not (pt_val (pv 2))) (pw_or1 (pt_not (pt_val (pe_callB (allL rfl) (by rfl) (T.free 37) (by decide +kernel) (pa_cons (pe_lcL (own := [("delay", 3)]) (g := gName 3) (tt := tYes) (te := tOrV (tOp (rIsN) (tVar 3) (tC .non)) (tChain (rI0 fun i j => .bl (decide (i ≤ j))) (rI0 fun i j => .bl (decide (i ≤ j))) (tC (.int 1)) (tVar 3) (tC (.int 30)))) rfl sc_Road___init__.nd (pv 1) (blkOk_by (own := [("delay", 3)]) (N := N_Road___init__) (sc := defScope s_Road___init__) (by decide +kernel)) (fun _ _ _ _ _ => pg_name (i := 3) sc_Road___init__.nd rfl (Or.inl rfl)) (fun _ _ _ _ _ => pts_nil) (fun _ _ _ _ _ => pe_or (pe_cmpR op_isN1 (pv 3) (pe_non) (nomark _)) (pe_one (pe_chain op_le op_le (pe_int) (pv 3) (pe_cI (T.int 56)))))) (pa_nil)))))))) (pss_one (ps_raiseC rfl tkOf (T.exc 65) (T.glo 30))) (pss_nil)) (pss_cons (ps_fldC (T.cls 109) (T.noat 111) (pv 0) (pe_callTy listL (by rfl) (T.free 41) (by decide +kernel) (pa_cons (pv 1) (pa_nil))) rfl) (pss_cons (ps_fldC (T.cls 109) (T.noat 112) (pv 0) (pe_int) rfl) (pss_one (ps_fldC (T.cls 109) (T.noat 113) (pv 0) (pe_lst (pa_nil)) rfl))))))) pure_Road___init__
abbrev N_Shelf___init__ : List Str := ["self", "most", "term"]
theorem sc_Shelf___init__ : FnScope N_Shelf___init__ ["self", "most", "term"] (defScope s_Shelf___init__) := ⟨rfl, rfl, rfl, by decide +kernel, rfl, by decide +kernel, by decide +kernel⟩
theorem cal_Shelf___init__ {P : Program} {w : World} {K : PySem.W.Frag} {mg : Str → Option Value} {base : Heap} (T : TX fa K mg isQ) (U : TW K w) (hd : ∃ fd, FunD K d33.name d33.qual d33.params d33.body d33.scope (d33.dvs K) (d33.kws K) (He.fAd K d33.at_) fd)  :
    Cal P w K mg base 1 ("Shelf", some "__init__") ["self", "most", "term"] (sp_Shelf___init__ K) :=
  cal_of (d := d33) (N := N_Shelf___init__) (t := t_Shelf___init__ K) hd rfl rfl sc_Shelf___init__ len_Shelf___init__ (fun _ _ _ _ _ _ us hl => match us, hl with | [_, _, _], _ => rfl) (fun cdv A outer s H E hr => (pss_cons (ps_if (PW.pt (pw_or (pt_not (pt_chain op_le op_le (pe_int) (pv 1) (pe_cI (T.int 58)))) (pw_or1 (pt_not (pt_chain op_le op_le (pe_int) (pv 2) (pe_cI (T.int 59))))))) (pss_one (ps_raiseC rfl tkOf (T.exc 65) (T.glo 30))) (pss_nil)) (pss_cons (ps_fldC (T.cls 117) (T.noat 119) (pv 0) (pv 1) rfl) (pss_cons (ps_fldC (T.cls 117) (T.noat 120) (pv 0) (pv 2) rfl) (pss_one (ps_fldC (T.cls 117) (T.noat 121) (pv 0) (pe_lst (pa_nil)) rfl)))))) pure_Shelf___init__
abbrev N_look_many : List Str := ["many"]
theorem sc_look_many : FnScope N_look_many ["many"] (defScope s_look_many) := ⟨rfl, rfl, rfl, by decide +kernel, rfl, by decide +kernel, by decide +kernel⟩
theorem cal_look_many {P : Program} {w : World} {K : PySem.W.Frag} {mg : Str → Option Value} {base : Heap} (T : TX fa K mg isQ) (U : TW K w) (hd : ∃ fd, FunD K d4.name d4.qual d4.params d4.body d4.scope (d4.dvs K) (d4.kws K) (He.fAd K d4.at_) fd)  :
    Cal P w K mg base 1 ("look_many", none) ["many"] (sp_look_many K) :=
  cal_of (d := d4) (N := N_look_many) (t := t_look_many K) hd rfl rfl sc_look_many len_look_many (fun _ _ _ _ _ _ us hl => match us, hl with | [_], _ => rfl) (fun cdv A outer s H E hr => (pss_one (ps_if (pt_not (pt_chain op_le op_le (pe_int) (pv 0) (pe_cI (T.int 50)))) (pss_one (ps_raiseC rfl tkOf (T.exc 65) (T.glo 30))) (pss_nil)))) pure_look_many
abbrev N_Asker___init__ : List Str := ["self", "store", "road", "shelf", "many", "pause", "asks", "patience"]
theorem sc_Asker___init__ : FnScope N_Asker___init__ ["self", "store", "road", "shelf", "many", "pause", "asks", "patience"] (defScope s_Asker___init__) := ⟨rfl, rfl, rfl, by decide +kernel, rfl, by decide +kernel, by decide +kernel⟩
theorem cal_Asker___init__ {P : Program} {w : World} {K : PySem.W.Frag} {mg : Str → Option Value} {base : Heap} (T : TX fa K mg isQ) (U : TW K w) (hd : ∃ fd, FunD K d11.name d11.qual d11.params d11.body d11.scope (d11.dvs K) (d11.kws K) (He.fAd K d11.at_) fd) (c_look_many : Cal P w K mg base 1 ("look_many", none) ["many"] (sp_look_many K)) :
    Cal P w K mg base 2 ("Asker", some "__init__") ["self", "store", "road", "shelf", "many", "pause", "asks", "patience"] (sp_Asker___init__ K) :=
  cal_of (d := d11) (N := N_Asker___init__) (t := t_Asker___init__ K) hd rfl rfl sc_Asker___init__ len_Asker___init__ (fun _ _ _ _ _ _ us hl => match us, hl with | [_, _, _, _, _, _, _, _], _ => rfl) (fun cdv A outer s H E hr => (pss_cons (ps_expr (pe_cal c_look_many (hr.mono (by decide)) (T.glo 4) pxOf (pa_cons (pv 4) (pa_nil)))) (pss_cons (ps_if (PW.pt (pw_or (pt_not (pt_chain op_le op_le (pe_int) (pv 5) (pe_cI (T.int 51)))) (pw_or (pt_not (pt_chain op_le op_le (pe_int) (pv 6) (pe_cI (T.int 52)))) (pw_or1 (pt_not (pt_chain op_le op_le (pe_int) (pv 7) (pe_cI (T.int 53)))))))) (pss_one (ps_raiseC rfl tkOf (T.exc 65) (T.glo 30))) (pss_nil)) (pss_cons (ps_fldC (T.cls 74) (T.noat 76) (pv 0) (pv 1) rfl) (pss_cons (ps_fldC (T.cls 74) (T.noat 77) (pv 0) (pv 2) rfl) (pss_cons (ps_fldC (T.cls 74) (T.noat 78) (pv 0) (pv 3) rfl) (pss_cons (ps_fldC (T.cls 74) (T.noat 79) (pv 0) (pv 4) rfl) (pss_cons (ps_fldC (T.cls 74) (T.noat 80) (pv 0) (pv 5) rfl) (pss_cons (ps_fldC (T.cls 74) (T.noat 81) (pv 0) (pv 6) rfl) (pss_cons (ps_fldC (T.cls 74) (T.noat 82) (pv 0) (pv 7) rfl) (pss_cons (ps_fldC (T.cls 74) (T.noat 83) (pv 0) (pe_int) rfl) (pss_cons (ps_fldC (T.cls 74) (T.noat 84) (pv 0) (pe_str) rfl) (pss_cons (ps_fldC (T.cls 74) (T.noat 85) (pv 0) (pe_int) rfl) (pss_cons (ps_fldC (T.cls 74) (T.noat 86) (pv 0) (pe_bl) rfl) (pss_cons (ps_fldC (T.cls 74) (T.noat 87) (pv 0) (pe_int) rfl) (pss_cons (ps_fldC (T.cls 74) (T.noat 88) (pv 0) (pe_newI) rfl) (pss_cons (ps_fldC (T.cls 74) (T.noat 89) (pv 0) (pe_newI) rfl) (pss_cons (ps_fldC (T.cls 74) (T.noat 90) (pv 0) (pe_non) rfl) (pss_one (ps_fldC (T.cls 74) (T.noat 91) (pv 0) (pe_lst (pa_nil)) rfl)))))))))))))))))))) pure_Asker___init__
abbrev N_folded : List Str := ["text", "word"]
theorem sc_folded : FnScope N_folded ["text"] (defScope s_folded) := ⟨rfl, rfl, rfl, by decide +kernel, rfl, by decide +kernel, by decide +kernel⟩
theorem cal_folded {P : Program} {w : World} {K : PySem.W.Frag} {mg : Str → Option Value} {base : Heap} (T : TX fa K mg isQ) (U : TW K w) (hd : ∃ fd, FunD K d2.name d2.qual d2.params d2.body d2.scope (d2.dvs K) (d2.kws K) (He.fAd K d2.at_) fd) (c_look_text : Cal P w K mg base 1 ("look_text", none) ["text", "most"] (sp_look_text K)) :
    Cal P w K mg base 2 ("folded", none) ["text"] (sp_folded K) :=
  cal_of (d := d2) (N := N_folded) (t := t_folded K) hd rfl rfl sc_folded len_folded (fun _ _ _ _ _ _ us hl => match us, hl with | [_], _ => rfl) (fun cdv A outer s H E hr => (pss_cons (ps_expr (pe_cal c_look_text (hr.mono (by decide)) (T.glo 1) pxOf (pa_cons (pv 0) (pa_cons (pe_cI (T.int 48)) (pa_nil))))) (pss_one (ps_ret (pe_bmC PySem.F.plainAttrs_str PySem.F.slot_str_join PySem.F.type_str_join mtJoin (pe_str) (pa_cons (pe_lcL (own := [("word", 1)]) (g := gName 1) (tt := tTest (tOp (rNe) (tVar 1) (tC (.str "")))) (te := tVar 1) rfl sc_folded.nd (pe_bmC PySem.F.plainAttrs_str PySem.F.slot_str_split PySem.F.type_str_split mtSplit (pe_bm0C PySem.F.plainAttrs_str PySem.F.slot_str_lower PySem.F.type_str_lower mtLower (pv 0)) (pa_cons (pe_str) (pa_nil))) (blkOk_by (own := [("word", 1)]) (N := N_folded) (sc := defScope s_folded) (by decide +kernel)) (fun _ _ _ _ _ => pg_name (i := 1) sc_folded.nd rfl (Or.inl rfl)) (fun _ _ _ _ _ => pts_one (pt_cmpR op_ne (pv 1) (pe_str) (nomark _))) (fun _ _ _ _ _ => pv 1)) (pa_nil))))))) pure_folded
abbrev N_Asker_drop_other : List Str := ["self", "wanted", "number"]
theorem sc_Asker_drop_other : FnScope N_Asker_drop_other ["self", "wanted"] (defScope s_Asker_drop_other) := ⟨rfl, rfl, rfl, by decide +kernel, rfl, by decide +kernel, by decide +kernel⟩
theorem cal_Asker_drop_other {P : Program} {w : World} {K : PySem.W.Frag} {mg : Str → Option Value} {base : Heap} (T : TX fa K mg isQ) (U : TW K w) (hd : ∃ fd, FunD K d17.name d17.qual d17.params d17.body d17.scope (d17.dvs K) (d17.kws K) (He.fAd K d17.at_) fd) (c_folded : Cal P w K mg base 2 ("folded", none) ["text"] (sp_folded K)) :
    Cal P w K mg base 3 ("Asker", some "drop_other") ["self", "wanted"] (sp_Asker_drop_other K) :=
  cal_of (d := d17) (N := N_Asker_drop_other) (t := t_Asker_drop_other K) hd rfl rfl sc_Asker_drop_other len_Asker_drop_other (fun _ _ _ _ _ _ us hl => match us, hl with | [_, _], _ => rfl) (fun cdv A outer s H E hr => (pss_one (ps_forL poOf rfl (pe_callTy (listK rfl) (by rfl) (T.free 41) (by decide +kernel) (pa_cons (pe_bm0C PySem.F.plainAttrs_dict PySem.F.slot_dict_keys PySem.F.type_dict_keys mtKeys (pe_fldC (T.cls 74) (T.noat 88) (pv 0) rfl)) (pa_nil))) (pg_name (i := 2) sc_Asker_drop_other.nd rfl (Or.inl rfl)) (pss_one (ps_if (pt_cmpR op_ne (pe_cal c_folded (hr.mono (by decide)) (T.glo 2) pxOf (pa_cons (pe_getI hr.units (pe_fldC (T.cls 74) (T.noat 88) (pv 0) rfl) (pv 2) (fun _ _ => rfl)) (pa_nil))) (pv 1) (nomark _)) (pss_cons (ps_expr (pe_bmC PySem.F.plainAttrs_dict PySem.F.slot_dict_pop PySem.F.type_dict_pop mtPop1 (pe_fldC (T.cls 74) (T.noat 88) (pv 0) rfl) (pa_cons (pv 2) (pa_nil)))) (pss_one (ps_expr (pe_bmC PySem.F.plainAttrs_list PySem.F.slot_list_append PySem.F.type_list_append mt_append (pe_fldC (T.cls 74) (T.noat 91) (pv 0) rfl) (pa_cons (pe_tup (pa_cons (pe_str) (pa_cons (pv 2) (pa_nil)))) (pa_nil)))))) (pss_nil)))))) pure_Asker_drop_other
abbrev N_Shelf_source : List Str := ["self", "query", "time", "key", "found", "one"]
theorem sc_Shelf_source : FnScope N_Shelf_source ["self", "query", "time"] (defScope s_Shelf_source) := ⟨rfl, rfl, rfl, by decide +kernel, rfl, by decide +kernel, by decide +kernel⟩
theorem cal_Shelf_source {P : Program} {w : World} {K : PySem.W.Frag} {mg : Str → Option Value} {base : Heap} (T : TX fa K mg isQ) (U : TW K w) (hd : ∃ fd, FunD K d36.name d36.qual d36.params d36.body d36.scope (d36.dvs K) (d36.kws K) (He.fAd K d36.at_) fd) (c_folded : Cal P w K mg base 2 ("folded", none) ["text"] (sp_folded K)) :
    Cal P w K mg base 3 ("Shelf", some "source") ["self", "query", "time"] (sp_Shelf_source K) :=
  cal_of (d := d36) (N := N_Shelf_source) (t := t_Shelf_source K) hd rfl rfl sc_Shelf_source len_Shelf_source (fun _ _ _ _ _ _ us hl => match us, hl with | [_, _, _], _ => rfl) (fun cdv A outer s H E hr => (pss_cons (ps_set (i := 3) sc_Shelf_source.nd rfl (Or.inl rfl) (pe_cal c_folded (hr.mono (by decide)) (T.glo 2) pxOf (pa_cons (pv 1) (pa_nil)))) (pss_cons (ps_set (i := 4) sc_Shelf_source.nd rfl (Or.inl rfl) (pe_non)) (pss_cons (ps_forL poOf rfl (pe_fldC (T.cls 117) (T.noat 121) (pv 0) rfl) (pg_name (i := 5) sc_Shelf_source.nd rfl (Or.inl rfl)) (pss_one (ps_if (PW.pt (pw_and (pt_cmpR op_lt (pe_op op_sub (pv 2) (pe_ix ixT (pv 5) (pe_int) (fun _ _ => rfl))) (pe_fldC (T.cls 117) (T.noat 120) (pv 0) rfl) (nomark _)) (pw_and1 (PW.pt (pw_or (pt_cmpR op_eq (pe_ix ixT (pv 5) (pe_int) (fun _ _ => rfl)) (pv 3) (nomark _)) (pw_or1 (PW.pt (pw_and (pt_val (pe_ix ixT (pv 5) (pe_int) (fun _ _ => rfl))) (pw_and1 (pt_cmpR inS (pe_ix ixT (pv 5) (pe_int) (fun _ _ => rfl)) (pv 3) (by rfl))))))))))) (pss_one (ps_if (PW.pt (pw_or (pt_cmpR op_isN1 (pv 4) (pe_non) (nomark _)) (pw_or1 (pt_cmpR op_gt (pe_callB lenS (by rfl) (T.free 40) (by decide +kernel) (pa_cons (pe_ix ixT (pv 5) (pe_int) (fun _ _ => rfl)) (pa_nil))) (pe_callB lenS (by rfl) (T.free 40) (by decide +kernel) (pa_cons (pe_ix ixT (pv 4) (pe_int) (fun _ _ => rfl)) (pa_nil))) (nomark _))))) (pss_one (ps_set (i := 4) sc_Shelf_source.nd rfl (Or.inl rfl) (pv 5))) (pss_nil))) (pss_nil)))) (pss_one (ps_ret (pv 4))))))) pure_Shelf_source
abbrev N_rank : List Str := ["row", "query", "mine", "wanted"]
theorem sc_rank : FnScope N_rank ["row", "query"] (defScope s_rank) := ⟨rfl, rfl, rfl, by decide +kernel, rfl, by decide +kernel, by decide +kernel⟩
theorem cal_rank {P : Program} {w : World} {K : PySem.W.Frag} {mg : Str → Option Value} {base : Heap} (T : TX fa K mg isQ) (U : TW K w) (hd : ∃ fd, FunD K d3.name d3.qual d3.params d3.body d3.scope (d3.dvs K) (d3.kws K) (He.fAd K d3.at_) fd) (c_look_text : Cal P w K mg base 1 ("look_text", none) ["text", "most"] (sp_look_text K)) (c_folded : Cal P w K mg base 2 ("folded", none) ["text"] (sp_folded K)) :
    Cal P w K mg base 3 ("rank", none) ["row", "query"] (sp_rank K) :=
  cal_of (d := d3) (N := N_rank) (t := t_rank K) hd rfl rfl sc_rank len_rank (fun _ _ _ _ _ _ us hl => match us, hl with | [_, _], _ => rfl) (fun cdv A outer s H E hr => (pss_cons (ps_expr (pe_cal c_look_text (hr.mono (by decide)) (T.glo 1) pxOf (pa_cons (pv 1) (pa_cons (pe_cI (T.int 47)) (pa_nil))))) (pss_cons (ps_set (i := 2) sc_rank.nd rfl (Or.inl rfl) (pe_cal c_folded (hr.mono (by decide)) (T.glo 2) pxOf (pa_cons (pv 0) (pa_nil)))) (pss_cons (ps_set (i := 3) sc_rank.nd rfl (Or.inl rfl) (pe_cal c_folded (hr.mono (by decide)) (T.glo 2) pxOf (pa_cons (pv 1) (pa_nil)))) (pss_cons (ps_if (pt_cmpR op_eq (pv 2) (pv 3) (nomark _)) (pss_one (ps_ret (pe_int))) (pss_nil)) (pss_cons (ps_if (pt_val (pe_bmC PySem.F.plainAttrs_str PySem.F.slot_str_startswith PySem.F.type_str_startswith mtStarts (pv 2) (pa_cons (pv 3) (pa_nil)))) (pss_one (ps_ret (pe_int))) (pss_nil)) (pss_cons (ps_if (pt_cmpR inS (pe_op catS (pe_str) (pv 3)) (pv 2) (by rfl)) (pss_one (ps_ret (pe_int))) (pss_nil)) (pss_one (ps_ret (pe_ifExp (pt_cmpR inS (pv 3) (pv 2) (by rfl)) (pe_int) (pe_non))))))))))) pure_rank
abbrev N_best : List Str := ["rows", "query", "many", "some", "row", "one", "fits", "small"]
theorem sc_best : FnScope N_best ["rows", "query", "many"] (defScope s_best) := ⟨rfl, rfl, rfl, by decide +kernel, rfl, by decide +kernel, by decide +kernel⟩
theorem cal_best {P : Program} {w : World} {K : PySem.W.Frag} {mg : Str → Option Value} {base : Heap} (T : TX fa K mg isQ) (U : TW K w) (hd : ∃ fd, FunD K d5.name d5.qual d5.params d5.body d5.scope (d5.dvs K) (d5.kws K) (He.fAd K d5.at_) fd) (c_rank : Cal P w K mg base 3 ("rank", none) ["row", "query"] (sp_rank K)) (c_folded : Cal P w K mg base 2 ("folded", none) ["text"] (sp_folded K)) :
    Cal P w K mg base 4 ("best", none) ["rows", "query", "many"] (sp_best K) :=
  cal_of (d := d5) (N := N_best) (t := t_best K) hd rfl rfl sc_best len_best (fun _ _ _ _ _ _ us hl => match us, hl with | [_, _, _], _ => rfl) (fun cdv A outer s H E hr => (pss_cons (ps_lcL (i := 3) (own := [("row", 4)]) (g := gName 4) (tt := tYes) (te := tTup (tCons (tCall (sp_rank K) [] E0 (tCons (tVar 4) (tCons (tVar 1) (tNil)))) (tCons (tCall (sp_folded K) [] E0 (tCons (tVar 4) (tNil))) (tCons (tVar 4) (tNil))))) rfl sc_best.nd rfl rfl (sw_true rfl rfl rfl (by decide +kernel)) (pv 0) (blkOk_by (own := [("row", 4)]) (N := N_best) (sc := defScope s_best) (by decide +kernel)) (fun _ _ _ _ _ => pg_name (i := 4) sc_best.nd rfl (Or.inl rfl)) (fun _ _ _ _ _ => pts_nil) (fun _ _ _ _ _ => pe_tup (pa_cons (pe_cal c_rank (hr.mono (by decide)) (T.glo 3) pxB (pa_cons (pv 4) (pa_cons (pv 1) (pa_nil)))) (pa_cons (pe_cal c_folded (hr.mono (by decide)) (T.glo 2) pxB (pa_cons (pv 4) (pa_nil))) (pa_cons (pv 4) (pa_nil)))))) (pss_one (ps_ret (pe_slice slL (pe_lcL (own := [("fits", 6), ("small", 7), ("row", 4)]) (g := fTup 3 (gCons (gName 6) (gCons (gName 7) (gCons (gName 4) (gNil))))) (tt := tYes) (te := tVar 4) rfl sc_best.nd (pe_callB (sortD hr.units) (by rfl) (T.free 45) (by decide +kernel) (pa_cons (pe_lcL (own := [("one", 5)]) (g := gName 5) (tt := tTest (tOp (rNotN) (tOp gIxT (tVar 5) (tC (.int 0))) (tC .non))) (te := tVar 5) rfl sc_best.nd (pv 3) (blkOk_by (own := [("one", 5)]) (N := N_best) (sc := defScope s_best) (by decide +kernel)) (fun _ _ _ _ _ => pg_name (i := 5) sc_best.nd rfl (Or.inl rfl)) (fun _ _ _ _ _ => pts_one (pt_cmpR op_notN1 (pe_ix ixT (pv 5) (pe_int) (fun _ _ => rfl)) (pe_non) (nomark _))) (fun _ _ _ _ _ => pv 5)) (pa_nil))) (blkOk_by (own := [("fits", 6), ("small", 7), ("row", 4)]) (N := N_best) (sc := defScope s_best) (by decide +kernel)) (fun _ _ _ _ _ => pg_tupC rfl (pgs_cons (pg_name (i := 6) sc_best.nd rfl (Or.inl rfl)) (pgs_cons (pg_name (i := 7) sc_best.nd rfl (Or.inl rfl)) (pgs_cons (pg_name (i := 4) sc_best.nd rfl (Or.inl rfl)) (pgs_nil))))) (fun _ _ _ _ _ => pts_nil) (fun _ _ _ _ _ => pv 4)) (po_none) (po_some (pv 2))))))) pure_best
abbrev N_Shelf_get : List Str := ["self", "query", "many", "time", "one", "other"]
theorem sc_Shelf_get : FnScope N_Shelf_get ["self", "query", "many", "time"] (defScope s_Shelf_get) := ⟨rfl, rfl, rfl, by decide +kernel, rfl, by decide +kernel, by decide +kernel⟩
theorem cal_Shelf_get {P : Program} {w : World} {K : PySem.W.Frag} {mg : Str → Option Value} {base : Heap} (T : TX fa K mg isQ) (U : TW K w) (hd : ∃ fd, FunD K d37.name d37.qual d37.params d37.body d37.scope (d37.dvs K) (d37.kws K) (He.fAd K d37.at_) fd) (c_Shelf_source : Cal P w K mg base 3 ("Shelf", some "source") ["self", "query", "time"] (sp_Shelf_source K)) (c_best : Cal P w K mg base 4 ("best", none) ["rows", "query", "many"] (sp_best K)) :
    Cal P w K mg base 5 ("Shelf", some "get") ["self", "query", "many", "time"] (sp_Shelf_get K) :=
  cal_of (d := d37) (N := N_Shelf_get) (t := t_Shelf_get K) hd rfl rfl sc_Shelf_get len_Shelf_get (fun _ _ _ _ _ _ us hl => match us, hl with | [_, _, _, _], _ => rfl) (fun cdv A outer s H E hr => (pss_cons (ps_set (i := 4) sc_Shelf_get.nd rfl (Or.inr rfl) (pe_calM c_Shelf_source (T.cls 117) (T.meth 124) (hr.mono (by decide)) pxOf (pv 0) (pa_cons (pv 1) (pa_cons (pv 3) (pa_nil))))) (pss_cons (ps_if (pt_cmpR op_isN1 (pv 4) (pe_non) (nomark _)) (pss_one (ps_ret (pe_non))) (pss_nil)) (pss_cons (ps_fldC (T.cls 117) (T.noat 121) (pv 0) (pe_op op_cat (pe_lcL (own := [("other", 5)]) (g := gName 5) (tt := tTest (tOp (rNe) (tOp gIxT (tVar 5) (tC (.int 0))) (tOp gIxT (tVar 4) (tC (.int 0))))) (te := tVar 5) rfl sc_Shelf_get.nd (pe_fldC (T.cls 117) (T.noat 121) (pv 0) rfl) (blkOk_by (own := [("other", 5)]) (N := N_Shelf_get) (sc := defScope s_Shelf_get) (by decide +kernel)) (fun _ _ _ _ _ => pg_name (i := 5) sc_Shelf_get.nd rfl (Or.inl rfl)) (fun _ _ _ _ _ => pts_one (pt_cmpR op_ne (pe_ix ixT (pv 5) (pe_int) (fun _ _ => rfl)) (pe_ix ixT (pv 4) (pe_int) (fun _ _ => rfl)) (nomark _))) (fun _ _ _ _ _ => pv 5)) (pe_lst (pa_cons (pv 4) (pa_nil)))) rfl) (pss_one (ps_ret (pe_cal c_best (hr.mono (by decide)) (T.glo 5) pxOf (pa_cons (pe_ix ixT (pv 4) (pe_int) (fun _ _ => rfl)) (pa_cons (pv 1) (pa_cons (pv 2) (pa_nil))))))))))) pure_Shelf_get
abbrev N_Asker_show : List Str := ["self", "some"]
theorem sc_Asker_show : FnScope N_Asker_show ["self", "some"] (defScope s_Asker_show) := ⟨rfl, rfl, rfl, by decide +kernel, rfl, by decide +kernel, by decide +kernel⟩
theorem cal_Asker_show {P : Program} {w : World} {K : PySem.W.Frag} {mg : Str → Option Value} {base : Heap} (T : TX fa K mg isQ) (U : TW K w) (hd : ∃ fd, FunD K d20.name d20.qual d20.params d20.body d20.scope (d20.dvs K) (d20.kws K) (He.fAd K d20.at_) fd) (c_folded : Cal P w K mg base 2 ("folded", none) ["text"] (sp_folded K)) (c_Asker_drop_other : Cal P w K mg base 3 ("Asker", some "drop_other") ["self", "wanted"] (sp_Asker_drop_other K)) :
    Cal P w K mg base 4 ("Asker", some "show") ["self", "some"] (sp_Asker_show K) :=
  cal_of (d := d20) (N := N_Asker_show) (t := t_Asker_show K) hd rfl rfl sc_Asker_show len_Asker_show (fun _ _ _ _ _ _ us hl => match us, hl with | [_, _], _ => rfl) (fun cdv A outer s H E hr => (pss_cons (ps_fldC (T.cls 74) (T.noat 90) (pv 0) (pe_tup (pa_cons (pe_cal c_folded (hr.mono (by decide)) (T.glo 2) pxOf (pa_cons (pe_fldC (T.cls 74) (T.noat 84) (pv 0) rfl) (pa_nil))) (pa_cons (pv 1) (pa_cons (pe_bl) (pa_nil))))) rfl) (pss_cons (ps_fldC (T.cls 74) (T.noat 86) (pv 0) (pe_bl) rfl) (pss_one (ps_expr (pe_calM c_Asker_drop_other (T.cls 74) (T.meth 97) (hr.mono (by decide)) pxOf (pv 0) (pa_cons (pe_non) (pa_nil)))))))) pure_Asker_show
abbrev N_Asker_is_fresh : List Str := ["self"]
theorem sc_Asker_is_fresh : FnScope N_Asker_is_fresh ["self"] (defScope s_Asker_is_fresh) := ⟨rfl, rfl, rfl, by decide +kernel, rfl, by decide +kernel, by decide +kernel⟩
theorem cal_Asker_is_fresh {P : Program} {w : World} {K : PySem.W.Frag} {mg : Str → Option Value} {base : Heap} (T : TX fa K mg isQ) (U : TW K w) (hd : ∃ fd, FunD K d19.name d19.qual d19.params d19.body d19.scope (d19.dvs K) (d19.kws K) (He.fAd K d19.at_) fd) (c_folded : Cal P w K mg base 2 ("folded", none) ["text"] (sp_folded K)) :
    Cal P w K mg base 3 ("Asker", some "is_fresh") ["self"] (sp_Asker_is_fresh K) :=
  cal_of (d := d19) (N := N_Asker_is_fresh) (t := t_Asker_is_fresh K) hd rfl rfl sc_Asker_is_fresh len_Asker_is_fresh (fun _ _ _ _ _ _ us hl => match us, hl with | [_], _ => rfl) (fun cdv A outer s H E hr => (pss_one (ps_ret (pe_and (pe_cmpR op_eq (pe_ix ixT (pe_fldC (T.cls 74) (T.noat 90) (pv 0) rfl) (pe_int) (fun _ _ => rfl)) (pe_cal c_folded (hr.mono (by decide)) (T.glo 2) pxOf (pa_cons (pe_fldC (T.cls 74) (T.noat 84) (pv 0) rfl) (pa_nil))) (nomark _)) (pe_one (pe_not (pe_ix ixT (pe_fldC (T.cls 74) (T.noat 90) (pv 0) rfl) (pe_int) (fun _ _ => rfl)))))))) pure_Asker_is_fresh
abbrev N_Asker_look_near : List Str := ["self", "found", "some"]
theorem sc_Asker_look_near : FnScope N_Asker_look_near ["self"] (defScope s_Asker_look_near) := ⟨rfl, rfl, rfl, by decide +kernel, rfl, by decide +kernel, by decide +kernel⟩
theorem cal_Asker_look_near {P : Program} {w : World} {K : PySem.W.Frag} {mg : Str → Option Value} {base : Heap} (T : TX fa K mg isQ) (U : TW K w) (hd : ∃ fd, FunD K d18.name d18.qual d18.params d18.body d18.scope (d18.dvs K) (d18.kws K) (He.fAd K d18.at_) fd) (c_folded : Cal P w K mg base 2 ("folded", none) ["text"] (sp_folded K)) (c_Shelf_get : Cal P w K mg base 5 ("Shelf", some "get") ["self", "query", "many", "time"] (sp_Shelf_get K)) (c_Asker_show : Cal P w K mg base 4 ("Asker", some "show") ["self", "some"] (sp_Asker_show K)) (c_Asker_is_fresh : Cal P w K mg base 3 ("Asker", some "is_fresh") ["self"] (sp_Asker_is_fresh K)) (c_best : Cal P w K mg base 4 ("best", none) ["rows", "query", "many"] (sp_best K)) :
    Cal P w K mg base 6 ("Asker", some "look_near") ["self"] (sp_Asker_look_near K) :=
  cal_of (d := d18) (N := N_Asker_look_near) (t := t_Asker_look_near K) hd rfl rfl sc_Asker_look_near len_Asker_look_near (fun _ _ _ _ _ _ us hl => match us, hl with | [_], _ => rfl) (fun cdv A outer s H E hr => (pss_cons (ps_if (pt_cmpR op_eq (pe_cal c_folded (hr.mono (by decide)) (T.glo 2) pxOf (pa_cons (pe_fldC (T.cls 74) (T.noat 84) (pv 0) rfl) (pa_nil))) (pe_str) (nomark _)) (pss_cons (ps_fldC (T.cls 74) (T.noat 86) (pv 0) (pe_bl) rfl) (pss_cons (ps_fldC (T.cls 74) (T.noat 90) (pv 0) (pe_non) rfl) (pss_one (ps_retN)))) (pss_nil)) (pss_cons (ps_set (i := 1) sc_Asker_look_near.nd rfl (Or.inl rfl) (pe_calM c_Shelf_get (T.cls 117) (T.meth 125) (hr.mono (by decide)) pxOf (pe_fldC (T.cls 74) (T.noat 78) (pv 0) rfl) (pa_cons (pe_fldC (T.cls 74) (T.noat 84) (pv 0) rfl) (pa_cons (pe_fldC (T.cls 74) (T.noat 79) (pv 0) rfl) (pa_cons (pe_fldC (T.cls 74) (T.noat 83) (pv 0) rfl) (pa_nil)))))) (pss_one (ps_if (pt_cmpR op_notN1 (pv 1) (pe_non) (nomark _)) (pss_one (ps_expr (pe_calM c_Asker_show (T.cls 74) (T.meth 100) (hr.mono (by decide)) pxOf (pv 0) (pa_cons (pv 1) (pa_nil))))) (pss_one (ps_if (PW.pt (pw_and (pt_cmpR op_notN1 (pe_fldC (T.cls 74) (T.noat 90) (pv 0) rfl) (pe_non) (nomark _)) (pw_and1 (pt_not (pt_val (pe_calM0 c_Asker_is_fresh (T.cls 74) (T.meth 99) (hr.mono (by decide)) pxOf (pv 0))))))) (pss_cons (ps_set (i := 2) sc_Asker_look_near.nd rfl (Or.inl rfl) (pe_cal c_best (hr.mono (by decide)) (T.glo 5) pxOf (pa_cons (pe_ix ixT (pe_fldC (T.cls 74) (T.noat 90) (pv 0) rfl) (pe_int) (fun _ _ => rfl)) (pa_cons (pe_fldC (T.cls 74) (T.noat 84) (pv 0) rfl) (pa_cons (pe_fldC (T.cls 74) (T.noat 79) (pv 0) rfl) (pa_nil)))))) (pss_one (ps_fldC (T.cls 74) (T.noat 90) (pv 0) (pe_ifExp (pt_tru (pv 2)) (pe_tup (pa_cons (pe_ix ixT (pe_fldC (T.cls 74) (T.noat 90) (pv 0) rfl) (pe_int) (fun _ _ => rfl)) (pa_cons (pv 2) (pa_cons (pe_bl) (pa_nil))))) (pe_non)) rfl))) (pss_nil)))))))) pure_Asker_look_near
abbrev N_Road_send : List Str := ["self", "query", "time", "delay"]
theorem sc_Road_send : FnScope N_Road_send ["self", "query", "time"] (defScope s_Road_send) := ⟨rfl, rfl, rfl, by decide +kernel, rfl, by decide +kernel, by decide +kernel⟩
theorem cal_Road_send {P : Program} {w : World} {K : PySem.W.Frag} {mg : Str → Option Value} {base : Heap} (T : TX fa K mg isQ) (U : TW K w) (hd : ∃ fd, FunD K d30.name d30.qual d30.params d30.body d30.scope (d30.dvs K) (d30.kws K) (He.fAd K d30.at_) fd)  :
    Cal P w K mg base 1 ("Road", some "send") ["self", "query", "time"] (sp_Road_send K) :=
  cal_of (d := d30) (N := N_Road_send) (t := t_Road_send K) hd rfl rfl sc_Road_send len_Road_send (fun _ _ _ _ _ _ us hl => match us, hl with | [_, _, _], _ => rfl) (fun cdv A outer s H E hr => (pss_cons (ps_set (i := 3) sc_Road_send.nd rfl (Or.inl rfl) (pe_ix ixL (pe_fldC (T.cls 109) (T.noat 111) (pv 0) rfl) (pe_op op_mod (pe_fldC (T.cls 109) (T.noat 112) (pv 0) rfl) (pe_callB lenL (by rfl) (T.free 40) (by decide +kernel) (pa_cons (pe_fldC (T.cls 109) (T.noat 111) (pv 0) rfl) (pa_nil)))) (fun _ _ => rfl))) (pss_cons (ps_fldC (T.cls 109) (T.noat 112) (pv 0) (pe_op op_add (pe_fldC (T.cls 109) (T.noat 112) (pv 0) rfl) (pe_int)) rfl) (pss_cons (ps_if (pt_cmpR op_notN1 (pv 3) (pe_non) (nomark _)) (pss_one (ps_expr (pe_bmC PySem.F.plainAttrs_list PySem.F.slot_list_append PySem.F.type_list_append mt_append (pe_fldC (T.cls 109) (T.noat 113) (pv 0) rfl) (pa_cons (pe_tup (pa_cons (pe_op op_add (pv 2) (pv 3)) (pa_cons (pe_fldC (T.cls 109) (T.noat 112) (pv 0) rfl) (pa_cons (pv 1) (pa_nil))))) (pa_nil))))) (pss_nil)) (pss_one (ps_ret (pe_fldC (T.cls 109) (T.noat 112) (pv 0) rfl))))))) pure_Road_send
abbrev N_Asker_ask_if_due : List Str := ["self", "is_time", "number"]
theorem sc_Asker_ask_if_due : FnScope N_Asker_ask_if_due ["self"] (defScope s_Asker_ask_if_due) := ⟨rfl, rfl, rfl, by decide +kernel, rfl, by decide +kernel, by decide +kernel⟩
theorem cal_Asker_ask_if_due {P : Program} {w : World} {K : PySem.W.Frag} {mg : Str → Option Value} {base : Heap} (T : TX fa K mg isQ) (U : TW K w) (hd : ∃ fd, FunD K d21.name d21.qual d21.params d21.body d21.scope (d21.dvs K) (d21.kws K) (He.fAd K d21.at_) fd) (c_Road_send : Cal P w K mg base 1 ("Road", some "send") ["self", "query", "time"] (sp_Road_send K)) (c_folded : Cal P w K mg base 2 ("folded", none) ["text"] (sp_folded K)) :
    Cal P w K mg base 3 ("Asker", some "ask_if_due") ["self"] (sp_Asker_ask_if_due K) :=
  cal_of (d := d21) (N := N_Asker_ask_if_due) (t := t_Asker_ask_if_due K) hd rfl rfl sc_Asker_ask_if_due len_Asker_ask_if_due (fun _ _ _ _ _ _ us hl => match us, hl with | [_], _ => rfl) (fun cdv A outer s H E hr => (pss_cons (ps_set (i := 1) sc_Asker_ask_if_due.nd rfl (Or.inl rfl) (pe_cmpR op_ge (pe_op op_sub (pe_fldC (T.cls 74) (T.noat 83) (pv 0) rfl) (pe_fldC (T.cls 74) (T.noat 85) (pv 0) rfl)) (pe_fldC (T.cls 74) (T.noat 80) (pv 0) rfl) (nomark _))) (pss_one (ps_if (PW.pt (pw_and (pt_val (pe_fldC (T.cls 74) (T.noat 86) (pv 0) rfl)) (pw_and (pt_val (pv 1)) (pw_and1 (pt_cmpR op_lt (pe_callB lenI (by rfl) (T.free 40) (by decide +kernel) (pa_cons (pe_fldC (T.cls 74) (T.noat 89) (pv 0) rfl) (pa_nil))) (pe_fldC (T.cls 74) (T.noat 81) (pv 0) rfl) (nomark _)))))) (pss_cons (ps_fldC (T.cls 74) (T.noat 86) (pv 0) (pe_bl) rfl) (pss_cons (ps_fldC (T.cls 74) (T.noat 87) (pv 0) (pe_op op_add (pe_fldC (T.cls 74) (T.noat 87) (pv 0) rfl) (pe_int)) rfl) (pss_cons (ps_set (i := 2) sc_Asker_ask_if_due.nd rfl (Or.inl rfl) (pe_calM c_Road_send (T.cls 109) (T.meth 114) (hr.mono (by decide)) pxOf (pe_fldC (T.cls 74) (T.noat 77) (pv 0) rfl) (pa_cons (pe_fldC (T.cls 74) (T.noat 84) (pv 0) rfl) (pa_cons (pe_fldC (T.cls 74) (T.noat 83) (pv 0) rfl) (pa_nil))))) (pss_cons (ps_putI hr.units (pe_fldC (T.cls 74) (T.noat 88) (pv 0) rfl) (pv 2) (pe_fldC (T.cls 74) (T.noat 84) (pv 0) rfl) rfl) (pss_cons (ps_putI hr.units (pe_fldC (T.cls 74) (T.noat 89) (pv 0) rfl) (pv 2) (pe_fldC (T.cls 74) (T.noat 83) (pv 0) rfl) rfl) (pss_one (ps_expr (pe_bmC PySem.F.plainAttrs_list PySem.F.slot_list_append PySem.F.type_list_append mt_append (pe_fldC (T.cls 74) (T.noat 91) (pv 0) rfl) (pa_cons (pe_tup (pa_cons (pe_str) (pa_cons (pv 2) (pa_cons (pe_cal c_folded (hr.mono (by decide)) (T.glo 2) pxOf (pa_cons (pe_fldC (T.cls 74) (T.noat 84) (pv 0) rfl) (pa_nil))) (pa_nil))))) (pa_nil)))))))))) (pss_nil))))) pure_Asker_ask_if_due
abbrev N_Asker_put : List Str := ["self", "text"]
theorem sc_Asker_put : FnScope N_Asker_put ["self", "text"] (defScope s_Asker_put) := ⟨rfl, rfl, rfl, by decide +kernel, rfl, by decide +kernel, by decide +kernel⟩
theorem cal_Asker_put {P : Program} {w : World} {K : PySem.W.Frag} {mg : Str → Option Value} {base : Heap} (T : TX fa K mg isQ) (U : TW K w) (hd : ∃ fd, FunD K d14.name d14.qual d14.params d14.body d14.scope (d14.dvs K) (d14.kws K) (He.fAd K d14.at_) fd) (c_look_text : Cal P w K mg base 1 ("look_text", none) ["text", "most"] (sp_look_text K)) (c_folded : Cal P w K mg base 2 ("folded", none) ["text"] (sp_folded K)) (c_Asker_drop_other : Cal P w K mg base 3 ("Asker", some "drop_other") ["self", "wanted"] (sp_Asker_drop_other K)) (c_Asker_look_near : Cal P w K mg base 6 ("Asker", some "look_near") ["self"] (sp_Asker_look_near K)) (c_Asker_ask_if_due : Cal P w K mg base 3 ("Asker", some "ask_if_due") ["self"] (sp_Asker_ask_if_due K)) :
    Cal P w K mg base 7 ("Asker", some "put") ["self", "text"] (sp_Asker_put K) :=
  cal_of (d := d14) (N := N_Asker_put) (t := t_Asker_put K) hd rfl rfl sc_Asker_put len_Asker_put (fun _ _ _ _ _ _ us hl => match us, hl with | [_, _], _ => rfl) (fun cdv A outer s H E hr => (pss_cons (ps_expr (pe_cal c_look_text (hr.mono (by decide)) (T.glo 1) pxOf (pa_cons (pv 1) (pa_cons (pe_cI (T.int 47)) (pa_nil))))) (pss_cons (ps_if (pt_cmpR op_ne (pe_cal c_folded (hr.mono (by decide)) (T.glo 2) pxOf (pa_cons (pv 1) (pa_nil))) (pe_cal c_folded (hr.mono (by decide)) (T.glo 2) pxOf (pa_cons (pe_fldC (T.cls 74) (T.noat 84) (pv 0) rfl) (pa_nil))) (nomark _)) (pss_cons (ps_expr (pe_calM c_Asker_drop_other (T.cls 74) (T.meth 97) (hr.mono (by decide)) pxOf (pv 0) (pa_cons (pe_cal c_folded (hr.mono (by decide)) (T.glo 2) pxOf (pa_cons (pv 1) (pa_nil))) (pa_nil)))) (pss_cons (ps_fldC (T.cls 74) (T.noat 85) (pv 0) (pe_fldC (T.cls 74) (T.noat 83) (pv 0) rfl) rfl) (pss_cons (ps_fldC (T.cls 74) (T.noat 86) (pv 0) (pe_cmpR op_ne (pe_cal c_folded (hr.mono (by decide)) (T.glo 2) pxOf (pa_cons (pv 1) (pa_nil))) (pe_str) (nomark _)) rfl) (pss_one (ps_fldC (T.cls 74) (T.noat 87) (pv 0) (pe_int) rfl))))) (pss_nil)) (pss_cons (ps_fldC (T.cls 74) (T.noat 84) (pv 0) (pv 1) rfl) (pss_cons (ps_expr (pe_calM0 c_Asker_look_near (T.cls 74) (T.meth 98) (hr.mono (by decide)) pxOf (pv 0))) (pss_one (ps_expr (pe_calM0 c_Asker_ask_if_due (T.cls 74) (T.meth 101) (hr.mono (by decide)) pxOf (pv 0))))))))) pure_Asker_put
abbrev N_Asker_key : List Str := ["self", "sign"]
theorem sc_Asker_key : FnScope N_Asker_key ["self", "sign"] (defScope s_Asker_key) := ⟨rfl, rfl, rfl, by decide +kernel, rfl, by decide +kernel, by decide +kernel⟩
theorem cal_Asker_key {P : Program} {w : World} {K : PySem.W.Frag} {mg : Str → Option Value} {base : Heap} (T : TX fa K mg isQ) (U : TW K w) (hd : ∃ fd, FunD K d15.name d15.qual d15.params d15.body d15.scope (d15.dvs K) (d15.kws K) (He.fAd K d15.at_) fd) (c_Asker_put : Cal P w K mg base 7 ("Asker", some "put") ["self", "text"] (sp_Asker_put K)) :
    Cal P w K mg base 8 ("Asker", some "key") ["self", "sign"] (sp_Asker_key K) :=
  cal_of (d := d15) (N := N_Asker_key) (t := t_Asker_key K) hd rfl rfl sc_Asker_key len_Asker_key (fun _ _ _ _ _ _ us hl => match us, hl with | [_, _], _ => rfl) (fun cdv A outer s H E hr => (pss_one (ps_expr (pe_calM c_Asker_put (T.cls 74) (T.meth 94) (hr.mono (by decide)) pxOf (pv 0) (pa_cons (pe_op catS (pe_fldC (T.cls 74) (T.noat 84) (pv 0) rfl) (pv 1)) (pa_nil)))))) pure_Asker_key
abbrev N_Asker_rub : List Str := ["self"]
theorem sc_Asker_rub : FnScope N_Asker_rub ["self"] (defScope s_Asker_rub) := ⟨rfl, rfl, rfl, by decide +kernel, rfl, by decide +kernel, by decide +kernel⟩
theorem cal_Asker_rub {P : Program} {w : World} {K : PySem.W.Frag} {mg : Str → Option Value} {base : Heap} (T : TX fa K mg isQ) (U : TW K w) (hd : ∃ fd, FunD K d16.name d16.qual d16.params d16.body d16.scope (d16.dvs K) (d16.kws K) (He.fAd K d16.at_) fd) (c_Asker_put : Cal P w K mg base 7 ("Asker", some "put") ["self", "text"] (sp_Asker_put K)) :
    Cal P w K mg base 8 ("Asker", some "rub") ["self"] (sp_Asker_rub K) :=
  cal_of (d := d16) (N := N_Asker_rub) (t := t_Asker_rub K) hd rfl rfl sc_Asker_rub len_Asker_rub (fun _ _ _ _ _ _ us hl => match us, hl with | [_], _ => rfl) (fun cdv A outer s H E hr => (pss_one (ps_expr (pe_calM c_Asker_put (T.cls 74) (T.meth 94) (hr.mono (by decide)) pxOf (pv 0) (pa_cons (pe_slice sl_str (pe_fldC (T.cls 74) (T.noat 84) (pv 0) rfl) (po_none) (po_some (pe_un un_neg (pe_int)))) (pa_nil)))))) pure_Asker_rub
abbrev N_Road_due : List Str := ["self", "time", "found", "one", "when", "number", "query"]
theorem sc_Road_due : FnScope N_Road_due ["self", "time"] (defScope s_Road_due) := ⟨rfl, rfl, rfl, by decide +kernel, rfl, by decide +kernel, by decide +kernel⟩
theorem cal_Road_due {P : Program} {w : World} {K : PySem.W.Frag} {mg : Str → Option Value} {base : Heap} (T : TX fa K mg isQ) (U : TW K w) (hd : ∃ fd, FunD K d31.name d31.qual d31.params d31.body d31.scope (d31.dvs K) (d31.kws K) (He.fAd K d31.at_) fd)  :
    Cal P w K mg base 1 ("Road", some "due") ["self", "time"] (sp_Road_due K) :=
  cal_of (d := d31) (N := N_Road_due) (t := t_Road_due K) hd rfl rfl sc_Road_due len_Road_due (fun _ _ _ _ _ _ us hl => match us, hl with | [_, _], _ => rfl) (fun cdv A outer s H E hr => (pss_cons (ps_set (i := 2) sc_Road_due.nd rfl (Or.inl rfl) (pe_callB (sortD hr.units) (by rfl) (T.free 45) (by decide +kernel) (pa_cons (pe_lcL (own := [("one", 3)]) (g := gName 3) (tt := tTest (tOp (rI0 fun i j => .bl (decide (i ≤ j))) (tOp gIxT (tVar 3) (tC (.int 0))) (tVar 1))) (te := tVar 3) rfl sc_Road_due.nd (pe_fldC (T.cls 109) (T.noat 113) (pv 0) rfl) (blkOk_by (own := [("one", 3)]) (N := N_Road_due) (sc := defScope s_Road_due) (by decide +kernel)) (fun _ _ _ _ _ => pg_name (i := 3) sc_Road_due.nd rfl (Or.inl rfl)) (fun _ _ _ _ _ => pts_one (pt_cmpR op_le (pe_ix ixT (pv 3) (pe_int) (fun _ _ => rfl)) (pv 1) (nomark _))) (fun _ _ _ _ _ => pv 3)) (pa_nil)))) (pss_cons (ps_fldC (T.cls 109) (T.noat 113) (pv 0) (pe_lcL (own := [("one", 3)]) (g := gName 3) (tt := tTest (tOp (rI0 fun i j => .bl (decide (j < i))) (tOp gIxT (tVar 3) (tC (.int 0))) (tVar 1))) (te := tVar 3) rfl sc_Road_due.nd (pe_fldC (T.cls 109) (T.noat 113) (pv 0) rfl) (blkOk_by (own := [("one", 3)]) (N := N_Road_due) (sc := defScope s_Road_due) (by decide +kernel)) (fun _ _ _ _ _ => pg_name (i := 3) sc_Road_due.nd rfl (Or.inl rfl)) (fun _ _ _ _ _ => pts_one (pt_cmpR op_gt (pe_ix ixT (pv 3) (pe_int) (fun _ _ => rfl)) (pv 1) (nomark _))) (fun _ _ _ _ _ => pv 3)) rfl) (pss_one (ps_ret (pe_lcL (own := [("when", 4), ("number", 5), ("query", 6)]) (g := fTup 3 (gCons (gName 4) (gCons (gName 5) (gCons (gName 6) (gNil))))) (tt := tYes) (te := tTup (tCons (tVar 5) (tCons (tVar 6) (tNil)))) rfl sc_Road_due.nd (pv 2) (blkOk_by (own := [("when", 4), ("number", 5), ("query", 6)]) (N := N_Road_due) (sc := defScope s_Road_due) (by decide +kernel)) (fun _ _ _ _ _ => pg_tupC rfl (pgs_cons (pg_name (i := 4) sc_Road_due.nd rfl (Or.inl rfl)) (pgs_cons (pg_name (i := 5) sc_Road_due.nd rfl (Or.inl rfl)) (pgs_cons (pg_name (i := 6) sc_Road_due.nd rfl (Or.inl rfl)) (pgs_nil))))) (fun _ _ _ _ _ => pts_nil) (fun _ _ _ _ _ => pe_tup (pa_cons (pv 5) (pa_cons (pv 6) (pa_nil)))))))))) pure_Road_due
abbrev N_Store_answer : List Str := ["self", "query", "many", "some"]
theorem sc_Store_answer : FnScope N_Store_answer ["self", "query", "many"] (defScope s_Store_answer) := ⟨rfl, rfl, rfl, by decide +kernel, rfl, by decide +kernel, by decide +kernel⟩
theorem cal_Store_answer {P : Program} {w : World} {K : PySem.W.Frag} {mg : Str → Option Value} {base : Heap} (T : TX fa K mg isQ) (U : TW K w) (hd : ∃ fd, FunD K d10.name d10.qual d10.params d10.body d10.scope (d10.dvs K) (d10.kws K) (He.fAd K d10.at_) fd) (c_look_many : Cal P w K mg base 1 ("look_many", none) ["many"] (sp_look_many K)) (c_look_text : Cal P w K mg base 1 ("look_text", none) ["text", "most"] (sp_look_text K)) (c_best : Cal P w K mg base 4 ("best", none) ["rows", "query", "many"] (sp_best K)) :
    Cal P w K mg base 5 ("Store", some "answer") ["self", "query", "many"] (sp_Store_answer K) :=
  cal_of (d := d10) (N := N_Store_answer) (t := t_Store_answer K) hd rfl rfl sc_Store_answer len_Store_answer (fun _ _ _ _ _ _ us hl => match us, hl with | [_, _, _], _ => rfl) (fun cdv A outer s H E hr => (pss_cons (ps_expr (pe_cal c_look_many (hr.mono (by decide)) (T.glo 4) pxOf (pa_cons (pv 2) (pa_nil)))) (pss_cons (ps_expr (pe_cal c_look_text (hr.mono (by decide)) (T.glo 1) pxOf (pa_cons (pv 1) (pa_cons (pe_cI (T.int 47)) (pa_nil))))) (pss_cons (ps_set (i := 3) sc_Store_answer.nd rfl (Or.inl rfl) (pe_cal c_best (hr.mono (by decide)) (T.glo 5) pxOf (pa_cons (pe_fldC (T.cls 67) (T.noat 69) (pv 0) rfl) (pa_cons (pv 1) (pa_cons (pe_callB lenL (by rfl) (T.free 40) (by decide +kernel) (pa_cons (pe_fldC (T.cls 67) (T.noat 69) (pv 0) rfl) (pa_nil))) (pa_nil)))))) (pss_one (ps_ret (pe_tup (pa_cons (pe_slice slL (pv 3) (po_none) (po_some (pv 2))) (pa_cons (pe_cmpR op_le (pe_callB lenL (by rfl) (T.free 40) (by decide +kernel) (pa_cons (pv 3) (pa_nil))) (pv 2) (nomark _)) (pa_nil)))))))))) pure_Store_answer
abbrev N_Shelf_put : List Str := ["self", "query", "rows", "is_all", "time", "key", "one"]
theorem sc_Shelf_put : FnScope N_Shelf_put ["self", "query", "rows", "is_all", "time"] (defScope s_Shelf_put) := ⟨rfl, rfl, rfl, by decide +kernel, rfl, by decide +kernel, by decide +kernel⟩
theorem cal_Shelf_put {P : Program} {w : World} {K : PySem.W.Frag} {mg : Str → Option Value} {base : Heap} (T : TX fa K mg isQ) (U : TW K w) (hd : ∃ fd, FunD K d34.name d34.qual d34.params d34.body d34.scope (d34.dvs K) (d34.kws K) (He.fAd K d34.at_) fd) (c_folded : Cal P w K mg base 2 ("folded", none) ["text"] (sp_folded K)) :
    Cal P w K mg base 3 ("Shelf", some "put") ["self", "query", "rows", "is_all", "time"] (sp_Shelf_put K) :=
  cal_of (d := d34) (N := N_Shelf_put) (t := t_Shelf_put K) hd rfl rfl sc_Shelf_put len_Shelf_put (fun _ _ _ _ _ _ us hl => match us, hl with | [_, _, _, _, _], _ => rfl) (fun cdv A outer s H E hr => (pss_cons (ps_set (i := 5) sc_Shelf_put.nd rfl (Or.inr rfl) (pe_cal c_folded (hr.mono (by decide)) (T.glo 2) pxOf (pa_cons (pv 1) (pa_nil)))) (pss_cons (ps_fldC (T.cls 117) (T.noat 121) (pv 0) (pe_op op_cat (pe_lcL (own := [("one", 6)]) (g := gName 6) (tt := tTest (tOp (rNe) (tOp gIxT (tVar 6) (tC (.int 0))) (tVar 5))) (te := tVar 6) rfl sc_Shelf_put.nd (pe_fldC (T.cls 117) (T.noat 121) (pv 0) rfl) (blkOk_by (own := [("one", 6)]) (N := N_Shelf_put) (sc := defScope s_Shelf_put) (by decide +kernel)) (fun _ _ _ _ _ => pg_name (i := 6) sc_Shelf_put.nd rfl (Or.inl rfl)) (fun _ _ _ _ _ => pts_one (pt_cmpR op_ne (pe_ix ixT (pv 6) (pe_int) (fun _ _ => rfl)) (pv 5) (nomark _))) (fun _ _ _ _ _ => pv 6)) (pe_lst (pa_cons (pe_tup (pa_cons (pv 5) (pa_cons (pe_callTy listL (by rfl) (T.free 41) (by decide +kernel) (pa_cons (pv 2) (pa_nil))) (pa_cons (pv 3) (pa_cons (pv 4) (pa_nil)))))) (pa_nil)))) rfl) (pss_one (ps_fldC (T.cls 117) (T.noat 121) (pv 0) (pe_slice slL (pe_fldC (T.cls 117) (T.noat 121) (pv 0) rfl) (po_some (pe_callB (max2 rfl) (by rfl) (T.free 42) (by decide +kernel) (pa_cons (pe_int) (pa_cons (pe_op op_sub (pe_callB lenL (by rfl) (T.free 40) (by decide +kernel) (pa_cons (pe_fldC (T.cls 117) (T.noat 121) (pv 0) rfl) (pa_nil))) (pe_fldC (T.cls 117) (T.noat 119) (pv 0) rfl)) (pa_nil))))) (po_none)) rfl))))) pure_Shelf_put
abbrev N_Asker_try_again : List Str := ["self", "number"]
theorem sc_Asker_try_again : FnScope N_Asker_try_again ["self"] (defScope s_Asker_try_again) := ⟨rfl, rfl, rfl, by decide +kernel, rfl, by decide +kernel, by decide +kernel⟩
theorem cal_Asker_try_again {P : Program} {w : World} {K : PySem.W.Frag} {mg : Str → Option Value} {base : Heap} (T : TX fa K mg isQ) (U : TW K w) (hd : ∃ fd, FunD K d23.name d23.qual d23.params d23.body d23.scope (d23.dvs K) (d23.kws K) (He.fAd K d23.at_) fd)  :
    Cal P w K mg base 1 ("Asker", some "try_again") ["self"] (sp_Asker_try_again K) :=
  cal_of (d := d23) (N := N_Asker_try_again) (t := t_Asker_try_again K) hd rfl rfl sc_Asker_try_again len_Asker_try_again (fun _ _ _ _ _ _ us hl => match us, hl with | [_], _ => rfl) (fun cdv A outer s H E hr => (pss_one (ps_forL poOf rfl (pe_callB (sortK rfl hr.units) (by rfl) (T.free 45) (by decide +kernel) (pa_cons (pe_bm0C PySem.F.plainAttrs_dict PySem.F.slot_dict_keys PySem.F.type_dict_keys mtKeys (pe_fldC (T.cls 74) (T.noat 89) (pv 0) rfl)) (pa_nil))) (pg_name (i := 1) sc_Asker_try_again.nd rfl (Or.inl rfl)) (pss_one (ps_if (pt_cmpR op_ge (pe_op op_sub (pe_fldC (T.cls 74) (T.noat 83) (pv 0) rfl) (pe_getI hr.units (pe_fldC (T.cls 74) (T.noat 89) (pv 0) rfl) (pv 1) (fun _ _ => rfl))) (pe_fldC (T.cls 74) (T.noat 82) (pv 0) rfl) (nomark _)) (pss_cons (ps_expr (pe_bmC PySem.F.plainAttrs_dict PySem.F.slot_dict_pop PySem.F.type_dict_pop mtPop1 (pe_fldC (T.cls 74) (T.noat 89) (pv 0) rfl) (pa_cons (pv 1) (pa_nil)))) (pss_one (ps_if (pt_cmpR (inI hr.units) (pv 1) (pe_fldC (T.cls 74) (T.noat 88) (pv 0) rfl) (by rfl)) (pss_cons (ps_expr (pe_bmC PySem.F.plainAttrs_dict PySem.F.slot_dict_pop PySem.F.type_dict_pop mtPop1 (pe_fldC (T.cls 74) (T.noat 88) (pv 0) rfl) (pa_cons (pv 1) (pa_nil)))) (pss_cons (ps_expr (pe_bmC PySem.F.plainAttrs_list PySem.F.slot_list_append PySem.F.type_list_append mt_append (pe_fldC (T.cls 74) (T.noat 91) (pv 0) rfl) (pa_cons (pe_tup (pa_cons (pe_str) (pa_cons (pv 1) (pa_nil)))) (pa_nil)))) (pss_one (ps_fldC (T.cls 74) (T.noat 86) (pv 0) (pe_cmpR op_lt (pe_fldC (T.cls 74) (T.noat 87) (pv 0) rfl) (pe_cI (T.int 55)) (nomark _)) rfl)))) (pss_nil)))) (pss_nil)))))) pure_Asker_try_again
abbrev N_Asker_step : List Str := ["self", "number", "query", "some", "is_all"]
theorem sc_Asker_step : FnScope N_Asker_step ["self"] (defScope s_Asker_step) := ⟨rfl, rfl, rfl, by decide +kernel, rfl, by decide +kernel, by decide +kernel⟩
theorem cal_Asker_step {P : Program} {w : World} {K : PySem.W.Frag} {mg : Str → Option Value} {base : Heap} (T : TX fa K mg isQ) (U : TW K w) (hd : ∃ fd, FunD K d22.name d22.qual d22.params d22.body d22.scope (d22.dvs K) (d22.kws K) (He.fAd K d22.at_) fd) (c_Road_due : Cal P w K mg base 1 ("Road", some "due") ["self", "time"] (sp_Road_due K)) (c_Store_answer : Cal P w K mg base 5 ("Store", some "answer") ["self", "query", "many"] (sp_Store_answer K)) (c_Shelf_put : Cal P w K mg base 3 ("Shelf", some "put") ["self", "query", "rows", "is_all", "time"] (sp_Shelf_put K)) (c_Asker_show : Cal P w K mg base 4 ("Asker", some "show") ["self", "some"] (sp_Asker_show K)) (c_Asker_look_near : Cal P w K mg base 6 ("Asker", some "look_near") ["self"] (sp_Asker_look_near K)) (c_Asker_try_again : Cal P w K mg base 1 ("Asker", some "try_again") ["self"] (sp_Asker_try_again K)) (c_Asker_ask_if_due : Cal P w K mg base 3 ("Asker", some "ask_if_due") ["self"] (sp_Asker_ask_if_due K)) :
    Cal P w K mg base 7 ("Asker", some "step") ["self"] (sp_Asker_step K) :=
  cal_of (d := d22) (N := N_Asker_step) (t := t_Asker_step K) hd rfl rfl sc_Asker_step len_Asker_step (fun _ _ _ _ _ _ us hl => match us, hl with | [_], _ => rfl) (fun cdv A outer s H E hr => (pss_cons (ps_fldC (T.cls 74) (T.noat 83) (pv 0) (pe_op op_add (pe_fldC (T.cls 74) (T.noat 83) (pv 0) rfl) (pe_int)) rfl) (pss_cons (ps_forL poOf rfl (pe_calM c_Road_due (T.cls 109) (T.meth 115) (hr.mono (by decide)) pxOf (pe_fldC (T.cls 74) (T.noat 77) (pv 0) rfl) (pa_cons (pe_fldC (T.cls 74) (T.noat 83) (pv 0) rfl) (pa_nil))) (pg_tupC rfl (pgs_cons (pg_name (i := 1) sc_Asker_step.nd rfl (Or.inl rfl)) (pgs_cons (pg_name (i := 2) sc_Asker_step.nd rfl (Or.inl rfl)) (pgs_nil)))) (pss_cons (ps_asg (pe_calM c_Store_answer (T.cls 67) (T.meth 73) (hr.mono (by decide)) pxOf (pe_fldC (T.cls 74) (T.noat 76) (pv 0) rfl) (pa_cons (pv 2) (pa_cons (pe_fldC (T.cls 74) (T.noat 79) (pv 0) rfl) (pa_nil)))) (pg_tupC rfl (pgs_cons (pg_name (i := 3) sc_Asker_step.nd rfl (Or.inl rfl)) (pgs_cons (pg_name (i := 4) sc_Asker_step.nd rfl (Or.inl rfl)) (pgs_nil))))) (pss_cons (ps_expr (pe_bmC PySem.F.plainAttrs_dict PySem.F.slot_dict_pop PySem.F.type_dict_pop mtPop2 (pe_fldC (T.cls 74) (T.noat 89) (pv 0) rfl) (pa_cons (pv 1) (pa_cons (pe_non) (pa_nil))))) (pss_cons (ps_expr (pe_calM c_Shelf_put (T.cls 117) (T.meth 122) (hr.mono (by decide)) pxOf (pe_fldC (T.cls 74) (T.noat 78) (pv 0) rfl) (pa_cons (pv 2) (pa_cons (pv 3) (pa_cons (pv 4) (pa_cons (pe_fldC (T.cls 74) (T.noat 83) (pv 0) rfl) (pa_nil))))))) (pss_one (ps_if (pt_cmpR (inI hr.units) (pv 1) (pe_fldC (T.cls 74) (T.noat 88) (pv 0) rfl) (by rfl)) (pss_cons (ps_expr (pe_bmC PySem.F.plainAttrs_dict PySem.F.slot_dict_pop PySem.F.type_dict_pop mtPop1 (pe_fldC (T.cls 74) (T.noat 88) (pv 0) rfl) (pa_cons (pv 1) (pa_nil)))) (pss_cons (ps_expr (pe_bmC PySem.F.plainAttrs_list PySem.F.slot_list_append PySem.F.type_list_append mt_append (pe_fldC (T.cls 74) (T.noat 91) (pv 0) rfl) (pa_cons (pe_tup (pa_cons (pe_str) (pa_cons (pv 1) (pa_nil)))) (pa_nil)))) (pss_one (ps_expr (pe_calM c_Asker_show (T.cls 74) (T.meth 100) (hr.mono (by decide)) pxOf (pv 0) (pa_cons (pv 3) (pa_nil))))))) (pss_cons (ps_expr (pe_bmC PySem.F.plainAttrs_list PySem.F.slot_list_append PySem.F.type_list_append mt_append (pe_fldC (T.cls 74) (T.noat 91) (pv 0) rfl) (pa_cons (pe_tup (pa_cons (pe_str) (pa_cons (pv 1) (pa_nil)))) (pa_nil)))) (pss_one (ps_expr (pe_calM0 c_Asker_look_near (T.cls 74) (T.meth 98) (hr.mono (by decide)) pxOf (pv 0))))))))))) (pss_cons (ps_expr (pe_calM0 c_Asker_try_again (T.cls 74) (T.meth 103) (hr.mono (by decide)) pxOf (pv 0))) (pss_one (ps_expr (pe_calM0 c_Asker_ask_if_due (T.cls 74) (T.meth 101) (hr.mono (by decide)) pxOf (pv 0)))))))) pure_Asker_step
abbrev N_Asker_tick : List Str := ["self", "many", "k"]
theorem sc_Asker_tick : FnScope N_Asker_tick ["self", "many"] (defScope s_Asker_tick) := ⟨rfl, rfl, rfl, by decide +kernel, rfl, by decide +kernel, by decide +kernel⟩
theorem cal_Asker_tick {P : Program} {w : World} {K : PySem.W.Frag} {mg : Str → Option Value} {base : Heap} (T : TX fa K mg isQ) (U : TW K w) (hd : ∃ fd, FunD K d24.name d24.qual d24.params d24.body d24.scope (d24.dvs K) (d24.kws K) (He.fAd K d24.at_) fd) (c_Asker_step : Cal P w K mg base 7 ("Asker", some "step") ["self"] (sp_Asker_step K)) :
    Cal P w K mg base 8 ("Asker", some "tick") ["self", "many"] (sp_Asker_tick K) :=
  cal_of (d := d24) (N := N_Asker_tick) (t := t_Asker_tick K) hd rfl rfl sc_Asker_tick len_Asker_tick (fun _ _ _ _ _ _ us hl => match us, hl with | [_, _], _ => rfl) (fun cdv A outer s H E hr => (pss_cons (ps_if (pt_not (pt_chain op_le op_le (pe_int) (pv 1) (pe_cI (T.int 54)))) (pss_one (ps_raiseC rfl tkOf (T.exc 65) (T.glo 30))) (pss_nil)) (pss_one (ps_forR1 poOf rfl rfl (T.free 44) (pa_cons (pv 1) (pa_nil)) (pg_name (i := 2) sc_Asker_tick.nd rfl (Or.inl rfl)) (pss_one (ps_expr (pe_calM0 c_Asker_step (T.cls 74) (T.meth 102) (hr.mono (by decide)) pxOf (pv 0)))))))) pure_Asker_tick
abbrev N_Shelf_clear : List Str := ["self"]
theorem sc_Shelf_clear : FnScope N_Shelf_clear ["self"] (defScope s_Shelf_clear) := ⟨rfl, rfl, rfl, by decide +kernel, rfl, by decide +kernel, by decide +kernel⟩
theorem cal_Shelf_clear {P : Program} {w : World} {K : PySem.W.Frag} {mg : Str → Option Value} {base : Heap} (T : TX fa K mg isQ) (U : TW K w) (hd : ∃ fd, FunD K d38.name d38.qual d38.params d38.body d38.scope (d38.dvs K) (d38.kws K) (He.fAd K d38.at_) fd)  :
    Cal P w K mg base 1 ("Shelf", some "clear") ["self"] (sp_Shelf_clear K) :=
  cal_of (d := d38) (N := N_Shelf_clear) (t := t_Shelf_clear K) hd rfl rfl sc_Shelf_clear len_Shelf_clear (fun _ _ _ _ _ _ us hl => match us, hl with | [_], _ => rfl) (fun cdv A outer s H E hr => (pss_one (ps_fldC (T.cls 117) (T.noat 121) (pv 0) (pe_lst (pa_nil)) rfl))) pure_Shelf_clear
abbrev N_Asker_again : List Str := ["self"]
theorem sc_Asker_again : FnScope N_Asker_again ["self"] (defScope s_Asker_again) := ⟨rfl, rfl, rfl, by decide +kernel, rfl, by decide +kernel, by decide +kernel⟩
theorem cal_Asker_again {P : Program} {w : World} {K : PySem.W.Frag} {mg : Str → Option Value} {base : Heap} (T : TX fa K mg isQ) (U : TW K w) (hd : ∃ fd, FunD K d25.name d25.qual d25.params d25.body d25.scope (d25.dvs K) (d25.kws K) (He.fAd K d25.at_) fd) (c_folded : Cal P w K mg base 2 ("folded", none) ["text"] (sp_folded K)) (c_Shelf_clear : Cal P w K mg base 1 ("Shelf", some "clear") ["self"] (sp_Shelf_clear K)) (c_Asker_ask_if_due : Cal P w K mg base 3 ("Asker", some "ask_if_due") ["self"] (sp_Asker_ask_if_due K)) :
    Cal P w K mg base 4 ("Asker", some "again") ["self"] (sp_Asker_again K) :=
  cal_of (d := d25) (N := N_Asker_again) (t := t_Asker_again K) hd rfl rfl sc_Asker_again len_Asker_again (fun _ _ _ _ _ _ us hl => match us, hl with | [_], _ => rfl) (fun cdv A outer s H E hr => (pss_cons (ps_if (PW.pt (pw_or (pt_cmpR op_eq (pe_cal c_folded (hr.mono (by decide)) (T.glo 2) pxOf (pa_cons (pe_fldC (T.cls 74) (T.noat 84) (pv 0) rfl) (pa_nil))) (pe_str) (nomark _)) (pw_or1 (pt_tru (pe_fldC (T.cls 74) (T.noat 88) (pv 0) rfl))))) (pss_one (ps_raiseC rfl tkOf (T.exc 66) (T.glo 31))) (pss_nil)) (pss_cons (ps_expr (pe_calM0 c_Shelf_clear (T.cls 117) (T.meth 126) (hr.mono (by decide)) pxOf (pe_fldC (T.cls 74) (T.noat 78) (pv 0) rfl))) (pss_cons (ps_fldC (T.cls 74) (T.noat 86) (pv 0) (pe_bl) rfl) (pss_cons (ps_fldC (T.cls 74) (T.noat 87) (pv 0) (pe_int) rfl) (pss_cons (ps_fldC (T.cls 74) (T.noat 85) (pv 0) (pe_op op_sub (pe_fldC (T.cls 74) (T.noat 83) (pv 0) rfl) (pe_fldC (T.cls 74) (T.noat 80) (pv 0) rfl)) rfl) (pss_one (ps_expr (pe_calM0 c_Asker_ask_if_due (T.cls 74) (T.meth 101) (hr.mono (by decide)) pxOf (pv 0)))))))))) pure_Asker_again
abbrev N_Store_add : List Str := ["self", "row"]
theorem sc_Store_add : FnScope N_Store_add ["self", "row"] (defScope s_Store_add) := ⟨rfl, rfl, rfl, by decide +kernel, rfl, by decide +kernel, by decide +kernel⟩
theorem cal_Store_add {P : Program} {w : World} {K : PySem.W.Frag} {mg : Str → Option Value} {base : Heap} (T : TX fa K mg isQ) (U : TW K w) (hd : ∃ fd, FunD K d7.name d7.qual d7.params d7.body d7.scope (d7.dvs K) (d7.kws K) (He.fAd K d7.at_) fd) (c_look_text : Cal P w K mg base 1 ("look_text", none) ["text", "most"] (sp_look_text K)) (c_folded : Cal P w K mg base 2 ("folded", none) ["text"] (sp_folded K)) :
    Cal P w K mg base 3 ("Store", some "add") ["self", "row"] (sp_Store_add K) :=
  cal_of (d := d7) (N := N_Store_add) (t := t_Store_add K) hd rfl rfl sc_Store_add len_Store_add (fun _ _ _ _ _ _ us hl => match us, hl with | [_, _], _ => rfl) (fun cdv A outer s H E hr => (pss_cons (ps_expr (pe_cal c_look_text (hr.mono (by decide)) (T.glo 1) pxOf (pa_cons (pv 1) (pa_cons (pe_cI (T.int 48)) (pa_nil))))) (pss_cons (ps_if (PW.pt (pw_or (pt_cmpR op_eq (pe_cal c_folded (hr.mono (by decide)) (T.glo 2) pxOf (pa_cons (pv 1) (pa_nil))) (pe_str) (nomark _)) (pw_or1 (pt_cmpR inL (pv 1) (pe_fldC (T.cls 67) (T.noat 69) (pv 0) rfl) (by rfl))))) (pss_one (ps_raiseC rfl tkOf (T.exc 64) (T.glo 29))) (pss_nil)) (pss_cons (ps_if (pt_cmpR op_eq (pe_callB lenL (by rfl) (T.free 40) (by decide +kernel) (pa_cons (pe_fldC (T.cls 67) (T.noat 69) (pv 0) rfl) (pa_nil))) (pe_cI (T.int 49)) (nomark _)) (pss_one (ps_raiseC rfl tkOf (T.exc 65) (T.glo 30))) (pss_nil)) (pss_one (ps_expr (pe_bmC PySem.F.plainAttrs_list PySem.F.slot_list_append PySem.F.type_list_append mt_append (pe_fldC (T.cls 67) (T.noat 69) (pv 0) rfl) (pa_cons (pv 1) (pa_nil))))))))) pure_Store_add
abbrev N_Store_remove : List Str := ["self", "row"]
theorem sc_Store_remove : FnScope N_Store_remove ["self", "row"] (defScope s_Store_remove) := ⟨rfl, rfl, rfl, by decide +kernel, rfl, by decide +kernel, by decide +kernel⟩
theorem cal_Store_remove {P : Program} {w : World} {K : PySem.W.Frag} {mg : Str → Option Value} {base : Heap} (T : TX fa K mg isQ) (U : TW K w) (hd : ∃ fd, FunD K d8.name d8.qual d8.params d8.body d8.scope (d8.dvs K) (d8.kws K) (He.fAd K d8.at_) fd)  :
    Cal P w K mg base 1 ("Store", some "remove") ["self", "row"] (sp_Store_remove K) :=
  cal_of (d := d8) (N := N_Store_remove) (t := t_Store_remove K) hd rfl rfl sc_Store_remove len_Store_remove (fun _ _ _ _ _ _ us hl => match us, hl with | [_, _], _ => rfl) (fun cdv A outer s H E hr => (pss_cons (ps_if (pt_cmpR ninL (pv 1) (pe_fldC (T.cls 67) (T.noat 69) (pv 0) rfl) (by rfl)) (pss_one (ps_raiseC rfl tkOf (T.exc 64) (T.glo 29))) (pss_nil)) (pss_one (ps_expr (pe_bmC PySem.F.plainAttrs_list PySem.F.slot_list_remove PySem.F.type_list_remove mtRemS (pe_fldC (T.cls 67) (T.noat 69) (pv 0) rfl) (pa_cons (pv 1) (pa_nil))))))) pure_Store_remove
abbrev N_do : List Str := ["store", "asker", "deed", "word"]
theorem sc_do : FnScope N_do ["store", "asker", "deed"] (defScope s_do) := ⟨rfl, rfl, rfl, by decide +kernel, rfl, by decide +kernel, by decide +kernel⟩
theorem cal_do {P : Program} {w : World} {K : PySem.W.Frag} {mg : Str → Option Value} {base : Heap} (T : TX fa K mg isQ) (U : TW K w) (hd : ∃ fd, FunD K d41.name d41.qual d41.params d41.body d41.scope (d41.dvs K) (d41.kws K) (He.fAd K d41.at_) fd) (c_Asker_put : Cal P w K mg base 7 ("Asker", some "put") ["self", "text"] (sp_Asker_put K)) (c_Asker_key : Cal P w K mg base 8 ("Asker", some "key") ["self", "sign"] (sp_Asker_key K)) (c_Asker_rub : Cal P w K mg base 8 ("Asker", some "rub") ["self"] (sp_Asker_rub K)) (c_Asker_tick : Cal P w K mg base 8 ("Asker", some "tick") ["self", "many"] (sp_Asker_tick K)) (c_Asker_again : Cal P w K mg base 4 ("Asker", some "again") ["self"] (sp_Asker_again K)) (c_Store_add : Cal P w K mg base 3 ("Store", some "add") ["self", "row"] (sp_Store_add K)) (c_Store_remove : Cal P w K mg base 1 ("Store", some "remove") ["self", "row"] (sp_Store_remove K)) :
    Cal P w K mg base 9 ("do", none) ["store", "asker", "deed"] (sp_do K) :=
  cal_of (d := d41) (N := N_do) (t := t_do K) hd rfl rfl sc_do len_do (fun _ _ _ _ _ _ us hl => match us, hl with | [_, _, _], _ => rfl) (fun cdv A outer s H E hr => (pss_cons (ps_set (i := 3) sc_do.nd rfl (Or.inl rfl) (pe_ix ixT (pv 2) (pe_int) (fun _ _ => rfl))) (pss_one (ps_if (pt_cmpR op_eq (pv 3) (pe_str) (nomark _)) (pss_one (ps_expr (pe_calM c_Asker_put (T.cls 74) (T.meth 94) (hr.mono (by decide)) pxOf (pv 1) (pa_cons (pe_ix ixT (pv 2) (pe_int) (fun _ _ => rfl)) (pa_nil))))) (pss_one (ps_if (pt_cmpR op_eq (pv 3) (pe_str) (nomark _)) (pss_one (ps_expr (pe_calM c_Asker_key (T.cls 74) (T.meth 95) (hr.mono (by decide)) pxOf (pv 1) (pa_cons (pe_ix ixT (pv 2) (pe_int) (fun _ _ => rfl)) (pa_nil))))) (pss_one (ps_if (pt_cmpR op_eq (pv 3) (pe_str) (nomark _)) (pss_one (ps_expr (pe_calM0 c_Asker_rub (T.cls 74) (T.meth 96) (hr.mono (by decide)) pxOf (pv 1)))) (pss_one (ps_if (pt_cmpR op_eq (pv 3) (pe_str) (nomark _)) (pss_one (ps_expr (pe_calM c_Asker_tick (T.cls 74) (T.meth 104) (hr.mono (by decide)) pxOf (pv 1) (pa_cons (pe_ix ixT (pv 2) (pe_int) (fun _ _ => rfl)) (pa_nil))))) (pss_one (ps_if (pt_cmpR op_eq (pv 3) (pe_str) (nomark _)) (pss_one (ps_expr (pe_calM0 c_Asker_again (T.cls 74) (T.meth 105) (hr.mono (by decide)) pxOf (pv 1)))) (pss_one (ps_if (pt_cmpR op_eq (pv 3) (pe_str) (nomark _)) (pss_one (ps_expr (pe_calM c_Store_add (T.cls 67) (T.meth 70) (hr.mono (by decide)) pxOf (pv 0) (pa_cons (pe_ix ixT (pv 2) (pe_int) (fun _ _ => rfl)) (pa_nil))))) (pss_one (ps_expr (pe_calM c_Store_remove (T.cls 67) (T.meth 71) (hr.mono (by decide)) pxOf (pv 0) (pa_cons (pe_ix ixT (pv 2) (pe_int) (fun _ _ => rfl)) (pa_nil))))))))))))))))))) pure_do
abbrev N_word_of : List Str := ["store", "asker", "deed", "word"]
theorem sc_word_of : FnScope N_word_of ["store", "asker", "deed"] (defScope s_word_of) := ⟨rfl, rfl, rfl, by decide +kernel, rfl, by decide +kernel, by decide +kernel⟩
theorem cal_word_of {P : Program} {w : World} {K : PySem.W.Frag} {mg : Str → Option Value} {base : Heap} (T : TX fa K mg isQ) (U : TW K w) (hd : ∃ fd, FunD K d42.name d42.qual d42.params d42.body d42.scope (d42.dvs K) (d42.kws K) (He.fAd K d42.at_) fd) (c_do : Cal P w K mg base 9 ("do", none) ["store", "asker", "deed"] (sp_do K)) :
    Cal P w K mg base 10 ("word_of", none) ["store", "asker", "deed"] (sp_word_of K) :=
  cal_of (d := d42) (N := N_word_of) (t := t_word_of K) hd rfl rfl sc_word_of len_word_of (fun _ _ _ _ _ _ us hl => match us, hl with | [_, _, _], _ => rfl) (fun cdv A outer s H E hr => (pss_cons (ps_set (i := 3) sc_word_of.nd rfl (Or.inl rfl) (pe_str)) (pss_cons (ps_words (ws := [("BadText", "text"), ("BadNumber", "number"), ("BadAsk", "ask")]) (j := 3) (tb := fun W => tDrop (fCallS (sp_do K) W (tCons (tVar 0) (tCons (tVar 1) (tCons (tVar 2) (tNil)))))) rfl rfl (by exact exm3 (T.exm 127) (T.exm 128) (T.exm 129) (T.exm 131) (T.exm 132) (T.exm 133) (T.exm 135) (T.exm 136) (T.exm 137)) (by decide) (fun W pn xe tk _ => pss_one (ps_expr (pe_calS c_do (hr.mono (by decide)) (T.glo 8) tk (pa_cons (pv 0) (pa_cons (pv 1) (pa_cons (pv 2) (pa_nil))))))) (HdsOk.cons ⟨rfl, by decide, Or.inl (T.glo 29)⟩ (fun a oe cls d pn _ _ => pss_one (ps_set (i := 3) sc_word_of.nd rfl (Or.inl rfl) pe_str)) (HdsOk.cons ⟨rfl, by decide, Or.inl (T.glo 30)⟩ (fun a oe cls d pn _ _ => pss_one (ps_set (i := 3) sc_word_of.nd rfl (Or.inl rfl) pe_str)) (HdsOk.cons ⟨rfl, by decide, Or.inl (T.glo 31)⟩ (fun a oe cls d pn _ _ => pss_one (ps_set (i := 3) sc_word_of.nd rfl (Or.inl rfl) pe_str)) (HdsOk.nil))))) (pss_one (ps_ret (pv 3)))))) pure_word_of
abbrev N_Asker_view : List Str := ["self", "word"]
theorem sc_Asker_view : FnScope N_Asker_view ["self"] (defScope s_Asker_view) := ⟨rfl, rfl, rfl, by decide +kernel, rfl, by decide +kernel, by decide +kernel⟩
theorem cal_Asker_view {P : Program} {w : World} {K : PySem.W.Frag} {mg : Str → Option Value} {base : Heap} (T : TX fa K mg isQ) (U : TW K w) (hd : ∃ fd, FunD K d26.name d26.qual d26.params d26.body d26.scope (d26.dvs K) (d26.kws K) (He.fAd K d26.at_) fd) (c_Asker_is_fresh : Cal P w K mg base 3 ("Asker", some "is_fresh") ["self"] (sp_Asker_is_fresh K)) :
    Cal P w K mg base 4 ("Asker", some "view") ["self"] (sp_Asker_view K) :=
  cal_of (d := d26) (N := N_Asker_view) (t := t_Asker_view K) hd rfl rfl sc_Asker_view len_Asker_view (fun _ _ _ _ _ _ us hl => match us, hl with | [_], _ => rfl) (fun cdv A outer s H E hr => (pss_cons (ps_if (pt_cmpR op_isN1 (pe_fldC (T.cls 74) (T.noat 90) (pv 0) rfl) (pe_non) (nomark _)) (pss_one (ps_ret (pe_tup (pa_cons (pe_str) (pa_cons (pe_str) (pa_cons (pe_lst (pa_nil)) (pa_nil))))))) (pss_nil)) (pss_cons (ps_set (i := 1) sc_Asker_view.nd rfl (Or.inl rfl) (pe_ifExp (pt_val (pe_calM0 c_Asker_is_fresh (T.cls 74) (T.meth 99) (hr.mono (by decide)) pxOf (pv 0))) (pe_str) (pe_str))) (pss_one (ps_ret (pe_tup (pa_cons (pv 1) (pa_cons (pe_ix ixT (pe_fldC (T.cls 74) (T.noat 90) (pv 0) rfl) (pe_int) (fun _ _ => rfl)) (pa_cons (pe_callTy listL (by rfl) (T.free 41) (by decide +kernel) (pa_cons (pe_ix ixT (pe_fldC (T.cls 74) (T.noat 90) (pv 0) rfl) (pe_int) (fun _ _ => rfl)) (pa_nil))) (pa_nil)))))))))) pure_Asker_view
abbrev N_Asker_log : List Str := ["self"]
theorem sc_Asker_log : FnScope N_Asker_log ["self"] (defScope s_Asker_log) := ⟨rfl, rfl, rfl, by decide +kernel, rfl, by decide +kernel, by decide +kernel⟩
theorem cal_Asker_log {P : Program} {w : World} {K : PySem.W.Frag} {mg : Str → Option Value} {base : Heap} (T : TX fa K mg isQ) (U : TW K w) (hd : ∃ fd, FunD K d28.name d28.qual d28.params d28.body d28.scope (d28.dvs K) (d28.kws K) (He.fAd K d28.at_) fd)  :
    Cal P w K mg base 1 ("Asker", some "log") ["self"] (sp_Asker_log K) :=
  cal_of (d := d28) (N := N_Asker_log) (t := t_Asker_log K) hd rfl rfl sc_Asker_log len_Asker_log (fun _ _ _ _ _ _ us hl => match us, hl with | [_], _ => rfl) (fun cdv A outer s H E hr => (pss_one (ps_ret (pe_callTy listL (by rfl) (T.free 41) (by decide +kernel) (pa_cons (pe_fldC (T.cls 74) (T.noat 91) (pv 0) rfl) (pa_nil)))))) pure_Asker_log
abbrev N_played : List Str := ["delays", "shelf", "rules", "deeds", "store", "asker", "found", "deed"]
theorem sc_played : FnScope N_played ["delays", "shelf", "rules", "deeds"] (defScope s_played) := ⟨rfl, rfl, rfl, by decide +kernel, rfl, by decide +kernel, by decide +kernel⟩
theorem cal_played {P : Program} {w : World} {K : PySem.W.Frag} {mg : Str → Option Value} {base : Heap} (T : TX fa K mg isQ) (U : TW K w) (hd : ∃ fd, FunD K d43.name d43.qual d43.params d43.body d43.scope (d43.dvs K) (d43.kws K) (He.fAd K d43.at_) fd) (c_look_deeds : Cal P w K mg base 3 ("look_deeds", none) ["deeds"] (sp_look_deeds K)) (c_Store___init__ : Cal P w K mg base 1 ("Store", some "__init__") ["self"] (sp_Store___init__ K)) (c_Road___init__ : Cal P w K mg base 1 ("Road", some "__init__") ["self", "delays"] (sp_Road___init__ K)) (c_Shelf___init__ : Cal P w K mg base 1 ("Shelf", some "__init__") ["self", "most", "term"] (sp_Shelf___init__ K)) (c_Asker___init__ : Cal P w K mg base 2 ("Asker", some "__init__") ["self", "store", "road", "shelf", "many", "pause", "asks", "patience"] (sp_Asker___init__ K)) (c_word_of : Cal P w K mg base 10 ("word_of", none) ["store", "asker", "deed"] (sp_word_of K)) (c_Asker_view : Cal P w K mg base 4 ("Asker", some "view") ["self"] (sp_Asker_view K)) (c_Asker_log : Cal P w K mg base 1 ("Asker", some "log") ["self"] (sp_Asker_log K)) :
    Cal P w K mg base 11 ("played", none) ["delays", "shelf", "rules", "deeds"] (sp_played K) :=
  cal_of (d := d43) (N := N_played) (t := t_played K) hd rfl rfl sc_played len_played (fun _ _ _ _ _ _ us hl => match us, hl with | [_, _, _, _], _ => rfl) (fun cdv A outer s H E hr => (pss_cons (ps_expr (pe_cal c_look_deeds (hr.mono (by decide)) (T.glo 7) pxOf (pa_cons (pv 3) (pa_nil)))) (pss_cons (ps_set (i := 4) sc_played.nd rfl (Or.inr rfl) (pe_calC0 c_Store___init__ (T.mkr 68) (hr.mono (by decide)) (T.glo 32) pxOf)) (pss_cons (ps_set (i := 5) sc_played.nd rfl (Or.inr rfl) (pe_calC c_Asker___init__ (T.mkr 75) (hr.mono (by decide)) (T.glo 33) pxOf (pa_cons (pv 4) (pa_cons (pe_calC c_Road___init__ (T.mkr 110) (hr.mono (by decide)) (T.glo 34) pxOf (pa_cons (pv 0) (pa_nil))) (pa_cons (pe_calC c_Shelf___init__ (T.mkr 118) (hr.mono (by decide)) (T.glo 35) pxOf (pa_cons (pe_ix ixT (pv 1) (pe_int) (fun _ _ => rfl)) (pa_cons (pe_ix ixT (pv 1) (pe_int) (fun _ _ => rfl)) (pa_nil)))) (pa_cons (pe_ix ixT (pv 2) (pe_int) (fun _ _ => rfl)) (pa_cons (pe_ix ixT (pv 2) (pe_int) (fun _ _ => rfl)) (pa_cons (pe_ix ixT (pv 2) (pe_int) (fun _ _ => rfl)) (pa_cons (pe_ix ixT (pv 2) (pe_int) (fun _ _ => rfl)) (pa_nil)))))))))) (pss_cons (ps_lcL (i := 6) (own := [("deed", 7)]) (g := gName 7) (tt := tYes) (te := tTup (tCons (tCall (sp_word_of K) [] E0 (tCons (tVar 4) (tCons (tVar 5) (tCons (tVar 7) (tNil))))) (tCons (fMeth (He.ga K "Asker") "view" (sp_Asker_view K) E0 (tVar 5) (tNil)) (tNil)))) rfl sc_played.nd rfl rfl (sw_true rfl rfl rfl (by decide +kernel)) (pv 3) (blkOk_by (own := [("deed", 7)]) (N := N_played) (sc := defScope s_played) (by decide +kernel)) (fun _ _ _ _ _ => pg_name (i := 7) sc_played.nd rfl (Or.inl rfl)) (fun _ _ _ _ _ => pts_nil) (fun _ _ _ _ _ => pe_tup (pa_cons (pe_cal c_word_of (hr.mono (by decide)) (T.glo 9) pxB (pa_cons (pv 4) (pa_cons (pv 5) (pa_cons (pv 7) (pa_nil))))) (pa_cons (pe_calM0 c_Asker_view (T.cls 74) (T.meth 106) (hr.mono (by decide)) pxB (pv 5)) (pa_nil))))) (pss_one (ps_ret (pe_tup (pa_cons (pv 6) (pa_cons (pe_calM0 c_Asker_log (T.cls 74) (T.meth 108) (hr.mono (by decide)) pxOf (pv 5)) (pa_nil))))))))))) pure_played
abbrev N__law_one : List Str := ["kind", "given"]
theorem sc__law_one : FnScope N__law_one ["kind", "given"] (defScope s__law_one) := ⟨rfl, rfl, rfl, by decide +kernel, rfl, by decide +kernel, by decide +kernel⟩
theorem cal__law_one {P : Program} {w : World} {K : PySem.W.Frag} {mg : Str → Option Value} {base : Heap} (T : TX fa K mg isQ) (U : TW K w) (hd : ∃ fd, FunD K d58.name d58.qual d58.params d58.body d58.scope (d58.dvs K) (d58.kws K) (He.fAd K d58.at_) fd) (c_read_diary : Cal P w K mg base 3 ("read_diary", none) ["text"] (sp_read_diary K)) (c_diary_text : Cal P w K mg base 4 ("diary_text", none) ["deeds"] (sp_diary_text K)) (c_played : Cal P w K mg base 11 ("played", none) ["delays", "shelf", "rules", "deeds"] (sp_played K)) :
    Cal P w K mg base 12 ("_law_one", none) ["kind", "given"] (sp__law_one K) :=
  cal_of (d := d58) (N := N__law_one) (t := t__law_one K) hd rfl rfl sc__law_one len__law_one (fun _ _ _ _ _ _ us hl => match us, hl with | [_, _], _ => rfl) (fun cdv A outer s H E hr => (pss_cons (ps_if (pt_cmpR op_lt (pv 0) (pe_int) (nomark _)) (pss_one (ps_ret (pe_ifExp (pt_cmpR op_eq (pv 0) (pe_int) (nomark _)) (pe_cal c_read_diary (hr.mono (by decide)) (T.glo 14) pxOf (pa_cons (pv 1) (pa_nil))) (pe_cal c_diary_text (hr.mono (by decide)) (T.glo 12) pxOf (pa_cons (pv 1) (pa_nil)))))) (pss_nil)) (pss_one (ps_ret (pe_ifExp (pt_cmpR op_eq (pv 0) (pe_int) (nomark _)) (pe_cal c_played (hr.mono (by decide)) (T.glo 10) pxOf (pa_cons (pe_lst (pa_cons (pe_int) (pa_nil))) (pa_cons (pe_tup (pa_cons (pe_int) (pa_cons (pe_int) (pa_nil)))) (pa_cons (pe_tup (pa_cons (pe_int) (pa_cons (pe_int) (pa_cons (pe_int) (pa_cons (pe_int) (pa_nil)))))) (pa_cons (pv 1) (pa_nil)))))) (pe_cal c_played (hr.mono (by decide)) (T.glo 10) pxOf (pa_cons (pe_lst (pa_cons (pe_int) (pa_nil))) (pa_cons (pe_tup (pa_cons (pe_int) (pa_cons (pe_int) (pa_nil)))) (pa_cons (pe_tup (pa_cons (pe_int) (pa_cons (pe_int) (pa_cons (pe_int) (pa_cons (pe_int) (pa_nil)))))) (pa_cons (pv 1) (pa_nil))))))))))) pure__law_one
abbrev N__law_refusal : List Str := ["caught", "kinds"]
theorem sc__law_refusal : FnScope N__law_refusal ["caught"] (defScope s__law_refusal) := ⟨rfl, rfl, rfl, by decide +kernel, rfl, by decide +kernel, by decide +kernel⟩
theorem cal__law_refusal {P : Program} {w : World} {K : PySem.W.Frag} {mg : Str → Option Value} {base : Heap} (T : TX fa K mg isQ) (U : TW K w) (hd : ∃ fd, FunD K d52.name d52.qual d52.params d52.body d52.scope (d52.dvs K) (d52.kws K) (He.fAd K d52.at_) fd)  :
    Cal P w K mg base 1 ("_law_refusal", none) ["caught"] (sp__law_refusal K) :=
  cal_of (d := d52) (N := N__law_refusal) (t := t__law_refusal K) hd rfl rfl sc__law_refusal len__law_refusal (fun _ _ _ _ _ _ us hl => match us, hl with | [_], _ => rfl) (fun cdv A outer s H E hr => (pss_cons (ps_if (pt_cmpR op_isN1 (pv 0) (pe_non) (nomark _)) (pss_one (ps_ret (pe_tup (pa_cons (pe_str) (pa_nil))))) (pss_nil)) (pss_cons (ps_set (i := 1) sc__law_refusal.nd rfl (Or.inl rfl) (pe_lst (pa_cons (pe_is T.is (by decide) (T.free 39) (T.glo 29) (pv 0)) (pa_cons (pe_is T.is (by decide) (T.free 39) (T.glo 30) (pv 0)) (pa_cons (pe_is T.is (by decide) (T.free 39) (T.glo 31) (pv 0)) (pa_nil)))))) (pss_cons (ps_if (PW.pt (pw_or (pt_cmpR op_ne (pe_bmC PySem.F.plainAttrs_list PySem.F.slot_list_count PySem.F.type_list_count mtCnt (pv 1) (pa_cons (pe_bl) (pa_nil))) (pe_int) (nomark _)) (pw_or1 (pt_not (pt_val (pe_isV T.is (T.free 39) (T.free 36) (pv 0))))))) (pss_one (ps_ret (pe_tup (pa_cons (pe_str) (pa_nil))))) (pss_nil)) (pss_one (ps_ret (pe_tup (pa_cons (pe_str) (pa_cons (pe_ix ixL (pe_lst (pa_cons (pe_str) (pa_cons (pe_str) (pa_cons (pe_str) (pa_nil))))) (pe_bmC PySem.F.plainAttrs_list PySem.F.slot_list_index PySem.F.type_list_index mtIdx (pv 1) (pa_cons (pe_bl) (pa_nil))) (fun _ _ => rfl)) (pa_nil)))))))))) pure__law_refusal
abbrev N__law_told : List Str := ["kind", "some", "caught", "found", "e"]
theorem sc__law_told : FnScope N__law_told ["kind", "some"] (defScope s__law_told) := ⟨rfl, rfl, rfl, by decide +kernel, rfl, by decide +kernel, by decide +kernel⟩
theorem cal__law_told {P : Program} {w : World} {K : PySem.W.Frag} {mg : Str → Option Value} {base : Heap} (T : TX fa K mg isQ) (U : TW K w) (hd : ∃ fd, FunD K d59.name d59.qual d59.params d59.body d59.scope (d59.dvs K) (d59.kws K) (He.fAd K d59.at_) fd) (c__law_one : Cal P w K mg base 12 ("_law_one", none) ["kind", "given"] (sp__law_one K)) (c__law_refusal : Cal P w K mg base 1 ("_law_refusal", none) ["caught"] (sp__law_refusal K)) :
    Cal P w K mg base 13 ("_law_told", none) ["kind", "some"] (sp__law_told K) :=
  cal_of (d := d59) (N := N__law_told) (t := t__law_told K) hd rfl rfl sc__law_told len__law_told (fun _ _ _ _ _ _ us hl => match us, hl with | [_, _], _ => rfl) (fun cdv A outer s H E hr => (pss_cons (ps_set (i := 2) sc__law_told.nd rfl (Or.inl rfl) (pe_non)) (pss_cons (ps_set (i := 3) sc__law_told.nd rfl (Or.inl rfl) (pe_non)) (pss_cons (ps_hold (cs := errV K) (i := 4) (j := 2) (tb := fun W => tAsg (fCallS (sp__law_one K) W (tCons (tVar 0) (tCons (tVar 1) (tNil)))) (gName 3)) rfl rfl rfl sc__law_told.nd rfl rfl rfl rfl ⟨rfl, by decide, Or.inl (T.glo 28)⟩ (by exact errV_ok T.is) (fun W pn xe tk _ => pss_one (ps_set (i := 3) sc__law_told.nd rfl (Or.inl rfl) (pe_calS c__law_one (hr.mono (by decide)) (T.glo 25) tk (pa_cons (pv 0) (pa_cons (pv 1) (pa_nil))))))) (pss_one (ps_ret (pe_ifExp (pt_cmpR op_isN1 (pv 2) (pe_non) (nomark _)) (pe_tup (pa_cons (pe_str) (pa_cons (pv 3) (pa_nil)))) (pe_cal c__law_refusal (hr.mono (by decide)) (T.glo 19) pxOf (pa_cons (pv 2) (pa_nil)))))))))) pure__law_told
abbrev N_law : List Str := ["script", "town", "deeds", "text", "at", "odd", "bad", "word", "some", "bend", "sign", "bent", "told", "k", "kind"]
theorem sc_law : FnScope N_law ["script"] (defScope s_law) := ⟨rfl, rfl, rfl, by decide +kernel, rfl, by decide +kernel, by decide +kernel⟩
theorem hE_law {K : PySem.W.Frag} : ∀ vs H Q E E', sp_law K vs H Q E → sp_law K vs H Q E' := fun _ _ _ _ _ h => h
theorem facts {P : Program} {w : World} {K : PySem.W.Frag} {h : Heap} {mg : Str → Option Value} {f : Addr} (X : K.In h) (G : h.Ns mainGlobals mg) (hfa : mg ("law" : Str) = some (.ref f)) (c : He.SaysX fa fn tabW [] (fun K => isQ K && wdB K) w h K) :
    ∃ fd : FuncData, (∀ (s : Shared) (v : Value), BindsTo s fd ⟨[v], []⟩ [("script", v)]) ∧ ∀ base : Heap, K.In base → base.Ns mainGlobals mg → FnOk P w K mg base CX0 14 f fd ["script"] (sp_law K) := by
  have T : TX fa K mg isQ := tx_ofW X G c
  have U : TW K w := tw_of c
  obtain ⟨fd, F⟩ := He.SaysD.def_ c.t.d 60 (d := d60) rfl
  have e := hfa.symm.trans (T.glo 27)
  cases e
  have b := FunD.bindsA (ps := ["script"]) F fun _ _ _ _ _ _ us hl => match us, hl with | [_], _ => rfl
  refine ⟨fd, fun s v => b s [v] rfl, fun base _ _ => ?_⟩
  have c__law_cell := cal__law_cell (P := P) (w := w) (K := K) (mg := mg) (base := base) T U (He.SaysD.def_ c.t.d 48 (d := d48) rfl) 
  have c__law_mix := cal__law_mix (P := P) (w := w) (K := K) (mg := mg) (base := base) T U (He.SaysD.def_ c.t.d 49 (d := d49) rfl) c__law_cell
  have c__law_draw := cal__law_draw (P := P) (w := w) (K := K) (mg := mg) (base := base) T U (He.SaysD.def_ c.t.d 50 (d := d50) rfl) c__law_mix
  have c__law_pick := cal__law_pick (P := P) (w := w) (K := K) (mg := mg) (base := base) T U (He.SaysD.def_ c.t.d 51 (d := d51) rfl) c__law_draw
  have c__law_query := cal__law_query (P := P) (w := w) (K := K) (mg := mg) (base := base) T U (He.SaysD.def_ c.t.d 54 (d := d54) rfl) c__law_draw c__law_pick
  have c__law_row := cal__law_row (P := P) (w := w) (K := K) (mg := mg) (base := base) T U (He.SaysD.def_ c.t.d 53 (d := d53) rfl) c__law_draw c__law_pick
  have c__law_deed := cal__law_deed (P := P) (w := w) (K := K) (mg := mg) (base := base) T U (He.SaysD.def_ c.t.d 55 (d := d55) rfl) c__law_draw c__law_pick c__law_query c__law_row
  have c__law_text := cal__law_text (P := P) (w := w) (K := K) (mg := mg) (base := base) T U (He.SaysD.def_ c.t.d 57 (d := d57) rfl) 
  have c_look_text := cal_look_text (P := P) (w := w) (K := K) (mg := mg) (base := base) T U (He.SaysD.def_ c.t.d 1 (d := d1) rfl) 
  have c_deed_in := cal_deed_in (P := P) (w := w) (K := K) (mg := mg) (base := base) T U (He.SaysD.def_ c.t.d 46 (d := d46) rfl) c_look_text
  have c_row_of := cal_row_of (P := P) (w := w) (K := K) (mg := mg) (base := base) T U (He.SaysD.def_ c.t.d 44 (d := d44) rfl) 
  have c_read_diary := cal_read_diary (P := P) (w := w) (K := K) (mg := mg) (base := base) T U (He.SaysD.def_ c.t.d 47 (d := d47) rfl) c_deed_in c_row_of
  have c_look_deed := cal_look_deed (P := P) (w := w) (K := K) (mg := mg) (base := base) T U (He.SaysD.def_ c.t.d 39 (d := d39) rfl) c_look_text
  have c_look_deeds := cal_look_deeds (P := P) (w := w) (K := K) (mg := mg) (base := base) T U (He.SaysD.def_ c.t.d 40 (d := d40) rfl) c_look_deed
  have c_diary_text := cal_diary_text (P := P) (w := w) (K := K) (mg := mg) (base := base) T U (He.SaysD.def_ c.t.d 45 (d := d45) rfl) c_look_deeds c_row_of
  have c_Store___init__ := cal_Store___init__ (P := P) (w := w) (K := K) (mg := mg) (base := base) T U (He.SaysD.def_ c.t.d 6 (d := d6) rfl) 
  have c_Road___init__ := cal_Road___init__ (P := P) (w := w) (K := K) (mg := mg) (base := base) T U (He.SaysD.def_ c.t.d 29 (d := d29) rfl) 
  have c_Shelf___init__ := cal_Shelf___init__ (P := P) (w := w) (K := K) (mg := mg) (base := base) T U (He.SaysD.def_ c.t.d 33 (d := d33) rfl) 
  have c_look_many := cal_look_many (P := P) (w := w) (K := K) (mg := mg) (base := base) T U (He.SaysD.def_ c.t.d 4 (d := d4) rfl) 
  have c_Asker___init__ := cal_Asker___init__ (P := P) (w := w) (K := K) (mg := mg) (base := base) T U (He.SaysD.def_ c.t.d 11 (d := d11) rfl) c_look_many
  have c_folded := cal_folded (P := P) (w := w) (K := K) (mg := mg) (base := base) T U (He.SaysD.def_ c.t.d 2 (d := d2) rfl) c_look_text
  have c_Asker_drop_other := cal_Asker_drop_other (P := P) (w := w) (K := K) (mg := mg) (base := base) T U (He.SaysD.def_ c.t.d 17 (d := d17) rfl) c_folded
  have c_Shelf_source := cal_Shelf_source (P := P) (w := w) (K := K) (mg := mg) (base := base) T U (He.SaysD.def_ c.t.d 36 (d := d36) rfl) c_folded
  have c_rank := cal_rank (P := P) (w := w) (K := K) (mg := mg) (base := base) T U (He.SaysD.def_ c.t.d 3 (d := d3) rfl) c_look_text c_folded
  have c_best := cal_best (P := P) (w := w) (K := K) (mg := mg) (base := base) T U (He.SaysD.def_ c.t.d 5 (d := d5) rfl) c_rank c_folded
  have c_Shelf_get := cal_Shelf_get (P := P) (w := w) (K := K) (mg := mg) (base := base) T U (He.SaysD.def_ c.t.d 37 (d := d37) rfl) c_Shelf_source c_best
  have c_Asker_show := cal_Asker_show (P := P) (w := w) (K := K) (mg := mg) (base := base) T U (He.SaysD.def_ c.t.d 20 (d := d20) rfl) c_folded c_Asker_drop_other
  have c_Asker_is_fresh := cal_Asker_is_fresh (P := P) (w := w) (K := K) (mg := mg) (base := base) T U (He.SaysD.def_ c.t.d 19 (d := d19) rfl) c_folded
  have c_Asker_look_near := cal_Asker_look_near (P := P) (w := w) (K := K) (mg := mg) (base := base) T U (He.SaysD.def_ c.t.d 18 (d := d18) rfl) c_folded c_Shelf_get c_Asker_show c_Asker_is_fresh c_best
  have c_Road_send := cal_Road_send (P := P) (w := w) (K := K) (mg := mg) (base := base) T U (He.SaysD.def_ c.t.d 30 (d := d30) rfl) 
  have c_Asker_ask_if_due := cal_Asker_ask_if_due (P := P) (w := w) (K := K) (mg := mg) (base := base) T U (He.SaysD.def_ c.t.d 21 (d := d21) rfl) c_Road_send c_folded
  have c_Asker_put := cal_Asker_put (P := P) (w := w) (K := K) (mg := mg) (base := base) T U (He.SaysD.def_ c.t.d 14 (d := d14) rfl) c_look_text c_folded c_Asker_drop_other c_Asker_look_near c_Asker_ask_if_due
  have c_Asker_key := cal_Asker_key (P := P) (w := w) (K := K) (mg := mg) (base := base) T U (He.SaysD.def_ c.t.d 15 (d := d15) rfl) c_Asker_put
  have c_Asker_rub := cal_Asker_rub (P := P) (w := w) (K := K) (mg := mg) (base := base) T U (He.SaysD.def_ c.t.d 16 (d := d16) rfl) c_Asker_put
  have c_Road_due := cal_Road_due (P := P) (w := w) (K := K) (mg := mg) (base := base) T U (He.SaysD.def_ c.t.d 31 (d := d31) rfl) 
  have c_Store_answer := cal_Store_answer (P := P) (w := w) (K := K) (mg := mg) (base := base) T U (He.SaysD.def_ c.t.d 10 (d := d10) rfl) c_look_many c_look_text c_best
  have c_Shelf_put := cal_Shelf_put (P := P) (w := w) (K := K) (mg := mg) (base := base) T U (He.SaysD.def_ c.t.d 34 (d := d34) rfl) c_folded
  have c_Asker_try_again := cal_Asker_try_again (P := P) (w := w) (K := K) (mg := mg) (base := base) T U (He.SaysD.def_ c.t.d 23 (d := d23) rfl) 
  have c_Asker_step := cal_Asker_step (P := P) (w := w) (K := K) (mg := mg) (base := base) T U (He.SaysD.def_ c.t.d 22 (d := d22) rfl) c_Road_due c_Store_answer c_Shelf_put c_Asker_show c_Asker_look_near c_Asker_try_again c_Asker_ask_if_due
  have c_Asker_tick := cal_Asker_tick (P := P) (w := w) (K := K) (mg := mg) (base := base) T U (He.SaysD.def_ c.t.d 24 (d := d24) rfl) c_Asker_step
  have c_Shelf_clear := cal_Shelf_clear (P := P) (w := w) (K := K) (mg := mg) (base := base) T U (He.SaysD.def_ c.t.d 38 (d := d38) rfl) 
  have c_Asker_again := cal_Asker_again (P := P) (w := w) (K := K) (mg := mg) (base := base) T U (He.SaysD.def_ c.t.d 25 (d := d25) rfl) c_folded c_Shelf_clear c_Asker_ask_if_due
  have c_Store_add := cal_Store_add (P := P) (w := w) (K := K) (mg := mg) (base := base) T U (He.SaysD.def_ c.t.d 7 (d := d7) rfl) c_look_text c_folded
  have c_Store_remove := cal_Store_remove (P := P) (w := w) (K := K) (mg := mg) (base := base) T U (He.SaysD.def_ c.t.d 8 (d := d8) rfl) 
  have c_do := cal_do (P := P) (w := w) (K := K) (mg := mg) (base := base) T U (He.SaysD.def_ c.t.d 41 (d := d41) rfl) c_Asker_put c_Asker_key c_Asker_rub c_Asker_tick c_Asker_again c_Store_add c_Store_remove
  have c_word_of := cal_word_of (P := P) (w := w) (K := K) (mg := mg) (base := base) T U (He.SaysD.def_ c.t.d 42 (d := d42) rfl) c_do
  have c_Asker_view := cal_Asker_view (P := P) (w := w) (K := K) (mg := mg) (base := base) T U (He.SaysD.def_ c.t.d 26 (d := d26) rfl) c_Asker_is_fresh
  have c_Asker_log := cal_Asker_log (P := P) (w := w) (K := K) (mg := mg) (base := base) T U (He.SaysD.def_ c.t.d 28 (d := d28) rfl) 
  have c_played := cal_played (P := P) (w := w) (K := K) (mg := mg) (base := base) T U (He.SaysD.def_ c.t.d 43 (d := d43) rfl) c_look_deeds c_Store___init__ c_Road___init__ c_Shelf___init__ c_Asker___init__ c_word_of c_Asker_view c_Asker_log
  have c__law_one := cal__law_one (P := P) (w := w) (K := K) (mg := mg) (base := base) T U (He.SaysD.def_ c.t.d 58 (d := d58) rfl) c_read_diary c_diary_text c_played
  have c__law_refusal := cal__law_refusal (P := P) (w := w) (K := K) (mg := mg) (base := base) T U (He.SaysD.def_ c.t.d 52 (d := d52) rfl) 
  have c__law_told := cal__law_told (P := P) (w := w) (K := K) (mg := mg) (base := base) T U (He.SaysD.def_ c.t.d 59 (d := d59) rfl) c__law_one c__law_refusal
  exact law_of (d := d60) (N := N_law) (t := t_law K) F sc_law len_law hE_law (fun cdv A outer s H E hr => (pss_cons (ps_set (i := 1) sc_law.nd rfl (Or.inr rfl) (pe_lst (pa_nil))) (pss_cons (ps_lcR1 (i := 2) (own := [("k", 13)]) (g := gName 13) (tt := tYes) (te := tCall (sp__law_deed K) [] E0 (tCons (tVar 0) (tCons (tVar 1) (tNil)))) rfl sc_law.nd rfl rfl (sw_true rfl rfl rfl (by decide +kernel)) rfl (T.free 44) (pa_cons (pe_cal c__law_draw (hr.mono (by decide)) (T.glo 17) pxOf (pa_cons (pv 0) (pa_cons (pv 1) (pa_cons (pe_int) (pa_nil))))) (pa_nil)) (blkOk_by (own := [("k", 13)]) (N := N_law) (sc := defScope s_law) (by decide +kernel)) (fun _ _ _ _ _ => pg_name (i := 13) sc_law.nd rfl (Or.inl rfl)) (fun _ _ _ _ _ => pts_nil) (fun _ _ _ _ _ => pe_cal c__law_deed (hr.mono (by decide)) (T.glo 22) pxB (pa_cons (pv 0) (pa_cons (pv 1) (pa_nil))))) (pss_cons (ps_set (i := 3) sc_law.nd rfl (Or.inl rfl) (pe_cal c__law_text (hr.mono (by decide)) (T.glo 24) pxOf (pa_cons (pv 2) (pa_nil)))) (pss_cons (ps_if (PW.pt (pw_or (pt_cmpR (neD hr.units) (pe_cal c__law_told (hr.mono (by decide)) (T.glo 26) pxOf (pa_cons (pe_int) (pa_cons (pv 2) (pa_nil)))) (pe_tup (pa_cons (pe_str) (pa_cons (pv 3) (pa_nil)))) (nomark _)) (pw_or1 (pt_cmpR (neD hr.units) (pe_cal c__law_told (hr.mono (by decide)) (T.glo 26) pxOf (pa_cons (pe_int) (pa_cons (pv 3) (pa_nil)))) (pe_tup (pa_cons (pe_str) (pa_cons (pv 2) (pa_nil)))) (nomark _))))) (pss_one (ps_ret (pe_bl))) (pss_nil)) (pss_cons (ps_set (i := 4) sc_law.nd rfl (Or.inl rfl) (pe_cal c__law_draw (hr.mono (by decide)) (T.glo 17) pxOf (pa_cons (pv 0) (pa_cons (pv 1) (pa_cons (pe_op op_add (pe_callB lenL (by rfl) (T.free 40) (by decide +kernel) (pa_cons (pv 2) (pa_nil))) (pe_int)) (pa_nil)))))) (pss_cons (ps_set (i := 5) sc_law.nd rfl (Or.inl rfl) (pe_lst (pa_cons (pe_tup (pa_cons (pe_tup (pa_nil)) (pa_cons (pe_str) (pa_nil)))) (pa_cons (pe_tup (pa_cons (pe_tup (pa_cons (pe_str) (pa_cons (pe_str) (pa_nil)))) (pa_cons (pe_str) (pa_nil)))) (pa_cons (pe_tup (pa_cons (pe_tup (pa_cons (pe_str) (pa_cons (pe_str) (pa_nil)))) (pa_cons (pe_str) (pa_nil)))) (pa_cons (pe_tup (pa_cons (pe_tup (pa_cons (pe_str) (pa_nil))) (pa_cons (pe_str) (pa_nil)))) (pa_cons (pe_tup (pa_cons (pe_tup (pa_cons (pe_str) (pa_cons (pe_int) (pa_nil)))) (pa_cons (pe_str) (pa_nil)))) (pa_nil)))))))) (pss_cons (ps_set (i := 5) sc_law.nd rfl (Or.inl rfl) (pe_op op_cat (pv 5) (pe_lst (pa_cons (pe_tup (pa_cons (pe_tup (pa_cons (pe_str) (pa_cons (pe_op op_sub (pe_int) (pe_int)) (pa_nil)))) (pa_cons (pe_str) (pa_nil)))) (pa_cons (pe_tup (pa_cons (pe_tup (pa_cons (pe_str) (pa_cons (pe_op repS (pe_str) (pe_int)) (pa_nil)))) (pa_cons (pe_str) (pa_nil)))) (pa_cons (pe_tup (pa_cons (pe_tup (pa_cons (pe_str) (pa_cons (pe_str) (pa_nil)))) (pa_cons (pe_str) (pa_nil)))) (pa_nil))))))) (pss_cons (ps_expr (pe_bmC PySem.F.plainAttrs_list PySem.F.slot_list_append PySem.F.type_list_append mt_append (pv 5) (pa_cons (pe_tup (pa_cons (pe_tup (pa_cons (pe_str) (pa_cons (pe_op repS (pe_str) (pe_int)) (pa_nil)))) (pa_cons (pe_str) (pa_nil)))) (pa_nil)))) (pss_cons (ps_asg (pe_cal c__law_pick (hr.mono (by decide)) (T.glo 18) pxOf (pa_cons (pv 0) (pa_cons (pv 1) (pa_cons (pv 5) (pa_nil))))) (pg_tupC rfl (pgs_cons (pg_name (i := 6) sc_law.nd rfl (Or.inl rfl)) (pgs_cons (pg_name (i := 7) sc_law.nd rfl (Or.inl rfl)) (pgs_nil))))) (pss_cons (ps_set (i := 8) sc_law.nd rfl (Or.inr rfl) (pe_op op_cat (pe_op op_cat (pe_slice slL (pv 2) (po_none) (po_some (pv 4))) (pe_lst (pa_cons (pv 6) (pa_nil)))) (pe_slice slL (pv 2) (po_some (pv 4)) (po_none)))) (pss_cons (ps_if (pt_cmpR (neD hr.units) (pe_lcT (own := [("kind", 14)]) (g := gName 14) (tt := tYes) (te := tCall (sp__law_told K) [] E0 (tCons (tVar 14) (tCons (tCB (gListL) (tCons (tVar 8) (tNil))) (tNil)))) rfl sc_law.nd (pe_tup (pa_cons (pe_int) (pa_cons (pe_int) (pa_cons (pe_int) (pa_nil))))) (blkOk_by (own := [("kind", 14)]) (N := N_law) (sc := defScope s_law) (by decide +kernel)) (fun _ _ _ _ _ => pg_name (i := 14) sc_law.nd rfl (Or.inl rfl)) (fun _ _ _ _ _ => pts_nil) (fun _ _ _ _ _ => pe_cal c__law_told (hr.mono (by decide)) (T.glo 26) pxB (pa_cons (pv 14) (pa_cons (pe_callTy listL (by rfl) (T.free 41) (by decide +kernel) (pa_cons (pv 8) (pa_nil))) (pa_nil))))) (pe_op op_rep (pe_lst (pa_cons (pe_tup (pa_cons (pe_str) (pa_cons (pv 7) (pa_nil)))) (pa_nil))) (pe_int)) (nomark _)) (pss_one (ps_ret (pe_bl))) (pss_nil)) (pss_cons (ps_if (pt_cmpR (neD hr.units) (pe_cal c__law_told (hr.mono (by decide)) (T.glo 26) pxOf (pa_cons (pe_int) (pa_cons (pe_lst (pa_nil)) (pa_nil)))) (pe_tup (pa_cons (pe_str) (pa_cons (pe_str) (pa_nil)))) (nomark _)) (pss_one (ps_ret (pe_bl))) (pss_nil)) (pss_cons (ps_forR1 poOf rfl rfl (T.free 44) (pa_cons (pe_int) (pa_nil)) (pg_name (i := 9) sc_law.nd rfl (Or.inl rfl)) (pss_cons (ps_set (i := 4) sc_law.nd rfl (Or.inl rfl) (pe_cal c__law_draw (hr.mono (by decide)) (T.glo 17) pxOf (pa_cons (pv 0) (pa_cons (pv 1) (pa_cons (pe_op op_add (pe_callB lenS (by rfl) (T.free 40) (by decide +kernel) (pa_cons (pv 3) (pa_nil))) (pe_int)) (pa_nil)))))) (pss_cons (ps_set (i := 10) sc_law.nd rfl (Or.inl rfl) (pe_cal c__law_pick (hr.mono (by decide)) (T.glo 18) pxOf (pa_cons (pv 0) (pa_cons (pv 1) (pa_cons (pe_lst (pa_cons (pe_str) (pa_cons (pe_str) (pa_cons (pe_str) (pa_cons (pe_str) (pa_cons (pe_str) (pa_cons (pe_str) (pa_cons (pe_str) (pa_cons (pe_str) (pa_cons (pe_str) (pa_cons (pe_str) (pa_cons (pe_str) (pa_nil))))))))))))) (pa_nil)))))) (pss_cons (ps_set (i := 11) sc_law.nd rfl (Or.inl rfl) (pe_op catS (pe_op catS (pe_slice sl_str (pv 3) (po_none) (po_some (pv 4))) (pv 10)) (pe_slice sl_str (pv 3) (po_some (pe_op op_add (pv 4) (pe_cal c__law_draw (hr.mono (by decide)) (T.glo 17) pxOf (pa_cons (pv 0) (pa_cons (pv 1) (pa_cons (pe_int) (pa_nil))))))) (po_none)))) (pss_cons (ps_set (i := 12) sc_law.nd rfl (Or.inl rfl) (pe_cal c__law_told (hr.mono (by decide)) (T.glo 26) pxOf (pa_cons (pe_int) (pa_cons (pv 11) (pa_nil))))) (pss_one (ps_if (pt_cmpR op_eq (pe_ix ixT (pv 12) (pe_int) (fun _ _ => rfl)) (pe_str) (nomark _)) (pss_one (ps_if (PW.pt (pw_or (pt_cmpR op_ne (pe_cal c__law_text (hr.mono (by decide)) (T.glo 24) pxOf (pa_cons (pe_ix ixT (pv 12) (pe_int) (fun _ _ => rfl)) (pa_nil))) (pv 11) (nomark _)) (pw_or1 (pt_cmpR (neD hr.units) (pe_cal c__law_told (hr.mono (by decide)) (T.glo 26) pxOf (pa_cons (pe_int) (pa_cons (pe_ix ixT (pv 12) (pe_int) (fun _ _ => rfl)) (pa_nil)))) (pe_tup (pa_cons (pe_str) (pa_cons (pv 11) (pa_nil)))) (nomark _))))) (pss_one (ps_ret (pe_bl))) (pss_nil))) (pss_one (ps_if (pt_cmpR (neD hr.units) (pv 12) (pe_tup (pa_cons (pe_str) (pa_cons (pe_str) (pa_nil)))) (nomark _)) (pss_one (ps_ret (pe_bl))) (pss_nil)))))))))) (pss_cons (ps_set (i := 5) sc_law.nd rfl (Or.inl rfl) (pe_lst (pa_cons (pe_str) (pa_cons (pe_str) (pa_cons (pe_str) (pa_cons (pe_str) (pa_cons (pe_str) (pa_cons (pe_str) (pa_cons (pe_str) (pa_cons (pe_str) (pa_cons (pe_str) (pa_cons (pe_str) (pa_nil))))))))))))) (pss_cons (ps_set (i := 5) sc_law.nd rfl (Or.inl rfl) (pe_op op_cat (pv 5) (pe_lst (pa_cons (pe_str) (pa_cons (pe_str) (pa_cons (pe_str) (pa_nil))))))) (pss_one (ps_ret (pe_cmpR (eqD hr.units) (pe_cal c__law_told (hr.mono (by decide)) (T.glo 26) pxOf (pa_cons (pe_int) (pa_cons (pe_cal c__law_pick (hr.mono (by decide)) (T.glo 18) pxOf (pa_cons (pv 0) (pa_cons (pv 1) (pa_cons (pv 5) (pa_nil))))) (pa_nil)))) (pe_tup (pa_cons (pe_str) (pa_cons (pe_str) (pa_nil)))) (nomark _)))))))))))))))))))) pure_law

abbrev R : PySem.W.OpenRow := PySem.W.OpenLaw.row PySem.Challenge.rw_typeasks_k51_whole_diary_texts
abbrev hk : PySem.W.Hook := He.hookX 5 fa fn tabW [] (fun K => isQ K && wdB K)
def ob (s : PySem.W.SharedT) : He.AlX := He.obsX 5 fa fn tabW [] (fun K => isQ K && wdB K) (HandSHeadRun.getT s)
theorem ob_eq (s : PySem.W.SharedT) : ob s = hk.obs s.abs := He.obsX_eq (HandSHeadRun.getT_eq s)
theorem runF (w : World) : HandSHeadRun.RunEq R (PySem.W.view R.prog [60]) hk ob 20000 loose (w.withFollow "special-get-raises" false) := by
  intro os
  kernel_rfl
theorem runT (w : World) : HandSHeadRun.RunEq R (PySem.W.view R.prog [60]) hk ob 20000 loose (w.withFollow "special-get-raises" true) := by
  intro os
  kernel_rfl
theorem run (w : World) : HandSHeadRun.RunEq R (PySem.W.view R.prog [60]) hk ob 20000 loose w :=
  PySem.W.byRow2 "special-get-raises" (P := fun w => HandSHeadRun.RunEq R (PySem.W.view R.prog [60]) hk ob 20000 loose w) runF runT w
end TA
open PySem PySem.W PySem.Calls PyProof.Rows
theorem PySem.Challenge.cw_typeasks_k51_whole_diary_texts_holds : PySem.Challenge.rw_typeasks_k51_whole_diary_texts.Holds := by
  w_on; o_law
  refine HandSHeadRun.head_any (r := OpenLaw.row PySem.Challenge.rw_typeasks_k51_whole_diary_texts) (q := view (OpenLaw.row PySem.Challenge.rw_typeasks_k51_whole_diary_texts).prog [60]) (H := TA.hk) (ob := TA.ob) (M := 20000) (loose := TA.loose) (d := HandSHeadRun.topDef (OpenLaw.row PySem.Challenge.rw_typeasks_k51_whole_diary_texts).prog 60) (kwd := []) TA.ob_eq
    (by kernel_rfl) (fun s => by kernel_rfl) TA.run (by kernel_rfl) (by kernel_rfl) (by kernel_rfl) (by rfl) (by first | assumption | decide +kernel) (by decide +kernel) ⟨rfl, rfl, rfl, rfl, rfl, by decide +kernel⟩ ?hw ?hc
  case hw => w_witness2
  case hc =>
    refine L2.walk_ofE (l := PySem.Challenge.rw_typeasks_k51_whole_diary_texts) (n := 63) (k := 14) (x := "script") (CX := L2.CX0) rfl (by decide) (by kernel_rfl) ⟨rfl, by decide, by decide⟩ ?F (fun _ _ _ _ z => z)
    intro w mg fa h Y G hmg0
    obtain ⟨K, KX, c⟩ := Y
    have hmg : mg ("law" : PySem.Str) = some (.ref fa) := by
      have e : (HandSHeadRun.topDef (OpenLaw.row PySem.Challenge.rw_typeasks_k51_whole_diary_texts).prog 60).name = ("law" : PySem.Str) := by kernel_rfl
      rw [← e]
      exact hmg0
    obtain ⟨fd, hb, hF⟩ := TA.facts (P := (PySem.Challenge.rw_typeasks_k51_whole_diary_texts).prog) (w := w) KX G hmg c
    exact ⟨K, fd, TA.sp_law K, KX, hb, fun H a ns hl _ hS => ⟨a, rfl, ⟨ns, hS⟩, fun _ => rfl⟩, hF⟩
