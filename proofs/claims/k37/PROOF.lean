import PyProof.Rows.All
import Wide.All
import OpenK.AllK
import Wide.FinOn
import HandS.ForMost
import HandS.Conv
import HandS.More
import HandS.SortInts
import HandS.Wide
import HandS.Walk
import HandS.Style
import HandS.Flow
import HandS.Deep
import HandS.TupAny
import KE.GoesMore
import KE.KSortedM
import HandS.Strs
import HandS.SetFor
import HandS.TupSets
import HandS.IsInst
import HandS.NoneIn
import KE.DataMinMax
import KE.KDictZip
import KE.SortData
import HandS.ExcInit
import HandS.ExcOwn
import HandS.ExcField
import HandS.ExcIs
import HandS.WordsExc
import HandS.Text
import PySem.Challenge.RW_catchup_k37_whole_letters_by_text
set_option Elab.async false
set_option linter.all false
set_option autoImplicit false
set_option maxRecDepth 100000
set_option maxHeartbeats 4000000
/-! Part 0: what stays, what changes; data as they lie; calls by name -/
namespace Cu
open PySem PySem.Spec PyProof.Rows L2

/-- what never changes -/
def Imm : HO → Prop
  | .tup _ => True
  | .frz _ _ => True
  | _ => False
theorem nl {xs : List V} : ¬ Imm (.lst xs) := fun h => h
theorem ndk {xs : List (Key × V)} : ¬ Imm (.dK xs) := fun h => h
def Mono (H H' : Hp) : Prop := ∀ b o, H b = some o → Imm o → H' b = some o
theorem Mono.refl (H : Hp) : Mono H H := fun _ _ h _ => h
theorem Mono.trans {H H1 H2 : Hp} (a : Mono H H1) (b : Mono H1 H2) : Mono H H2 := fun c o h i => b c o (a c o h i) i
theorem Mono.new {H : Hp} {p : Addr} {o : HO} (h : H p = none) : Mono H (upd H p o) := fun b u e _ => by
  rw [upd_ne (ne_of_none e h)]
  exact e
theorem Mono.put {H : Hp} {a : Addr} {o o' : HO} (h : H a = some o) (n : ¬ Imm o) : Mono H (upd H a o') := fun b u e i => by
  by_cases hb : b = a
  · subst hb
    rw [h] at e
    cases e
    exact absurd i n
  · rw [upd_ne hb]
    exact e

/-- the changing objects one owns -/
abbrev Lg := List (Addr × HO)
structure Has (H : Hp) (l : Lg) : Prop where
  nd : (l.map Prod.fst).Nodup
  at_ : ∀ p ∈ l, H p.1 = some p.2 ∧ ¬ Imm p.2
section
variable {H H' : Hp} {l l' : Lg} {a p : Addr} {o o' : HO}
theorem Has.nil : Has H [] := ⟨List.nodup_nil, fun _ h => (nomatch h)⟩
theorem Has.mem (h : Has H l) (m : (a, o) ∈ l) : H a = some o := (h.at_ _ m).1
theorem Has.head (h : Has H ((a, o) :: l)) : H a = some o := (h.at_ _ List.mem_cons_self).1
theorem Has.tail (h : Has H ((a, o) :: l)) : Has H l := ⟨(List.nodup_cons.mp h.nd).2, fun p m => h.at_ p (List.mem_cons_of_mem _ m)⟩
theorem Has.notin (h : Has H l) (f : H p = none) : p ∉ l.map Prod.fst := fun m => by
  obtain ⟨q, hq, e⟩ := List.mem_map.mp m
  have := (h.at_ q hq).1
  rw [e, f] at this
  cases this
theorem Has.ne (h : Has H l) (f : H p = none) {q : Addr × HO} (m : q ∈ l) : q.1 ≠ p := fun e => h.notin f (by rw [← e]; exact List.mem_map_of_mem m)
/-- an object that is not ours is made or written -/
theorem Has.off (h : Has H l) (n : p ∉ l.map Prod.fst) : Has (upd H p o) l := ⟨h.nd, fun q m => ⟨by
  rw [upd_ne (fun e => n (by rw [← e]; exact List.mem_map_of_mem m))]
  exact (h.at_ q m).1, (h.at_ q m).2⟩⟩
theorem Has.old (h : Has H l) (f : H p = none) : Has (upd H p o) l := h.off (h.notin f)
theorem Has.new (h : Has H l) (f : H p = none) (n : ¬ Imm o) : Has (upd H p o) ((p, o) :: l) :=
  ⟨List.nodup_cons.mpr ⟨h.notin f, h.nd⟩, fun q m => by
    rcases List.mem_cons.mp m with e | m
    · subst e
      exact ⟨upd_same, n⟩
    · exact (h.old f).at_ q m⟩
theorem Has.put (h : Has H ((a, o) :: l)) (n : ¬ Imm o') : Has (upd H a o') ((a, o') :: l) :=
  ⟨h.nd, fun q m => by
    rcases List.mem_cons.mp m with e | m
    · subst e
      exact ⟨upd_same, n⟩
    · exact (h.tail.off (List.nodup_cons.mp h.nd).1).at_ q m⟩
theorem Has.perm (h : Has H l) (e : l.Perm l') : Has H l' := ⟨(e.map Prod.fst).nodup_iff.mp h.nd, fun q m => h.at_ q (e.mem_iff.mpr m)⟩
theorem Has.sub (h : Has H l) (e : l'.Sublist l) : Has H l' := ⟨h.nd.sublist (e.map Prod.fst), fun q m => h.at_ q (e.subset m)⟩
theorem Has.mono_put (h : Has H ((a, o) :: l)) : Mono H (upd H a o') := Mono.put h.head (h.at_ _ List.mem_cons_self).2
theorem Has.right {l2 : Lg} (h : Has H (l ++ l2)) : Has H l2 := h.sub (List.sublist_append_right _ _)
theorem Has.left {l2 : Lg} (h : Has H (l ++ l2)) : Has H l := h.sub (List.sublist_append_left _ _)
theorem Has.comm {l2 : Lg} (h : Has H (l ++ l2)) : Has H (l2 ++ l) := h.perm List.perm_append_comm
/-- the first part goes behind the second -/
theorem Has.swap {l2 l3 : Lg} (h : Has H (l ++ (l2 ++ l3))) : Has H (l2 ++ (l ++ l3)) := h.perm (by
  rw [← List.append_assoc, ← List.append_assoc]
  exact List.Perm.append_right _ List.perm_append_comm)
theorem Has.swap1 {q : Addr × HO} {l3 : Lg} (h : Has H (q :: (l ++ l3))) : Has H (l ++ (q :: l3)) := h.perm List.perm_middle.symm
theorem Has.unswap1 {q : Addr × HO} {l3 : Lg} (h : Has H (l ++ (q :: l3))) : Has H (q :: (l ++ l3)) := h.perm List.perm_middle
theorem Has.swap2 {q r : Addr × HO} (h : Has H (q :: r :: l)) : Has H (r :: q :: l) := h.perm (List.Perm.swap _ _ _)
end

section
variable {K : PySem.W.Frag} {H H' : Hp} {a : Addr} {xs : List V}
/-- a list that stays -/
def FzL (K : PySem.W.Frag) (H : Hp) (a : Addr) (xs : List V) : Prop := ∀ H', Mono H H' → SqL K H' a xs
theorem FzL.mono (h : FzL K H a xs) (m : Mono H H') : FzL K H' a xs := fun H2 m2 => h H2 (m.trans m2)
theorem FzL.sq (h : FzL K H a xs) : SqL K H a xs := h H (Mono.refl H)
theorem FzL.of {o : Obj} (h : H a = some (.frz o (.lst xs))) : FzL K H a xs := fun H' m => Or.inl (Or.inr ⟨o, m _ _ h trivial⟩)
theorem FzL.only (h : Only H) (s : SqL K H a xs) : FzL K H a xs := by
  rcases s with (s | ⟨o, s⟩) | s
  · rcases h a with e | ⟨o, ys, e⟩
    · rw [e] at s
      cases s
    · rw [e] at s
      cases s
  · exact FzL.of s
  · exact fun _ _ => Or.inr s
theorem FzL.frz {o : Obj} : FzL K (upd H a (.frz o (.lst xs))) a xs := FzL.of upd_same
end

/-- a reading that is opened by its own lemma alone -/
@[irreducible] def tI (t : TE) : TE := t
theorem rd_I {t : TE} {σ : L2.St} {H : Hp} {Q : VK} (h : t σ H Q) : tI t σ H Q := by
  unfold tI
  exact h
theorem pe_I {X : Cx} {e : Expr} {t : TE} (h : PE X e t) : PE X e (tI t) := by
  unfold tI
  exact h
/-- e, a new list, from now on never changed -/
@[irreducible] def tFz (t : TE) : TE := fun σ H Q => t σ H fun v H1 => ∃ a xs, v = .ref a ∧ H1 a = some (.lst xs) ∧ ∀ o, Q (.ref a) (upd H1 a (.frz o (.lst xs)))
theorem rd_fz {t : TE} {σ : L2.St} {H : Hp} {Q : VK} (h : t σ H fun v H1 => ∃ a xs, v = .ref a ∧ H1 a = some (.lst xs) ∧ ∀ o, Q (.ref a) (upd H1 a (.frz o (.lst xs)))) : tFz t σ H Q := by
  unfold tFz
  exact h
theorem pe_fz {X : Cx} {e : Expr} {t : TE} (h : PE X e t) : PE X e (tFz t) := ⟨fun pins s σ H Q I hw => by
  unfold tFz at hw
  exact thn (h.run pins s σ H _ I hw) fun u s1 ⟨v, H1, I1, r, a, xs, ev, ha, q⟩ => by
    subst ev
    obtain ⟨od, I2⟩ := I1.lock ha trivial
    exact ⟨_, _, I2, r, q od⟩⟩

/-! ### data -/
mutual
def Rp (K : PySem.W.Frag) (H : Hp) : PyData → V → Prop
  | .none, v => v = .non
  | .bool b, v => v = .bl b
  | .int i, v => v = .int i
  | .str s, v => v = .str s
  | .list ds, v => ∃ a xs, v = .ref a ∧ FzL K H a xs ∧ RpL K H ds xs
  | .tuple ds, v => ∃ a xs, v = .ref a ∧ H a = some (.tup xs) ∧ RpL K H ds xs
  | .dict _, _ => False
def RpL (K : PySem.W.Frag) (H : Hp) : List PyData → List V → Prop
  | [], vs => vs = []
  | d :: ds, vs => ∃ v r, vs = v :: r ∧ Rp K H d v ∧ RpL K H ds r
end
section
variable {K : PySem.W.Frag} {H H' : Hp}
mutual
theorem Rp.mono (m : Mono H H') : ∀ {d : PyData} {v : V}, Rp K H d v → Rp K H' d v
  | .none, _, h => by rw [Rp] at h ⊢; exact h
  | .bool _, _, h => by rw [Rp] at h ⊢; exact h
  | .int _, _, h => by rw [Rp] at h ⊢; exact h
  | .str _, _, h => by rw [Rp] at h ⊢; exact h
  | .list ds, _, h => by
    rw [Rp] at h ⊢
    obtain ⟨a, xs, e, f, r⟩ := h
    exact ⟨a, xs, e, f.mono m, RpL.mono m r⟩
  | .tuple ds, _, h => by
    rw [Rp] at h ⊢
    obtain ⟨a, xs, e, f, r⟩ := h
    exact ⟨a, xs, e, m _ _ f trivial, RpL.mono m r⟩
  | .dict _, _, h => by rw [Rp] at h; exact h.elim
theorem RpL.mono (m : Mono H H') : ∀ {ds : List PyData} {vs : List V}, RpL K H ds vs → RpL K H' ds vs
  | [], _, h => by rw [RpL] at h ⊢; exact h
  | d :: ds, _, h => by
    rw [RpL] at h ⊢
    obtain ⟨v, r, e, h1, h2⟩ := h
    exact ⟨v, r, e, Rp.mono m h1, RpL.mono m h2⟩
end
mutual
theorem Rp.dp : ∀ {d : PyData} {v : V}, Rp K H d v → Dp K H v d
  | .none, _, h => by rw [Rp] at h; subst h; exact .non
  | .bool _, _, h => by rw [Rp] at h; subst h; exact .bl _
  | .int _, _, h => by rw [Rp] at h; subst h; exact .int _
  | .str _, _, h => by rw [Rp] at h; subst h; exact .str _
  | .list ds, _, h => by
    rw [Rp] at h
    obtain ⟨a, xs, e, f, r⟩ := h
    subst e
    exact .lst f.sq (RpL.dp r)
  | .tuple ds, _, h => by
    rw [Rp] at h
    obtain ⟨a, xs, e, f, r⟩ := h
    subst e
    exact .tup (SqT.of f) (RpL.dp r)
  | .dict _, _, h => by rw [Rp] at h; exact h.elim
theorem RpL.dp : ∀ {ds : List PyData} {vs : List V}, RpL K H ds vs → DpAll K H vs ds
  | [], _, h => by rw [RpL] at h; subst h; exact .nil
  | d :: ds, _, h => by
    rw [RpL] at h
    obtain ⟨v, r, e, h1, h2⟩ := h
    subst e
    exact .cons (Rp.dp h1) (RpL.dp h2)
end
theorem RpL.length : ∀ {ds : List PyData} {vs : List V}, RpL K H ds vs → vs.length = ds.length
  | [], _, h => by rw [RpL] at h; subst h; rfl
  | d :: ds, _, h => by
    rw [RpL] at h
    obtain ⟨v, r, e, _, h2⟩ := h
    subst e
    rw [List.length_cons, List.length_cons, h2.length]
theorem RpL.get : ∀ {ds : List PyData} {vs : List V} {i : Nat} {d : PyData}, RpL K H ds vs → ds[i]? = some d → ∃ v, vs[i]? = some v ∧ Rp K H d v
  | [], _, _, _, _, e => by simp at e
  | d :: ds, _, i, d', h, e => by
    rw [RpL] at h
    obtain ⟨v, r, e1, h1, h2⟩ := h
    subst e1
    cases i with
    | zero =>
      have e2 : d = d' := by simpa using e
      subst e2
      exact ⟨v, rfl, h1⟩
    | succ i => exact h2.get (by simpa using e)
theorem RpL.nil : RpL K H [] [] := by rw [RpL]
theorem RpL.cons {d : PyData} {ds : List PyData} {v : V} {vs : List V} (h : Rp K H d v) (r : RpL K H ds vs) : RpL K H (d :: ds) (v :: vs) := by
  rw [RpL]
  exact ⟨v, vs, rfl, h, r⟩
theorem RpL.append : ∀ {ds es : List PyData} {vs us : List V}, RpL K H ds vs → RpL K H es us → RpL K H (ds ++ es) (vs ++ us)
  | [], _, _, _, h, g => by rw [RpL] at h; subst h; exact g
  | d :: ds, _, _, _, h, g => by
    rw [RpL] at h
    obtain ⟨v, r, e1, h1, h2⟩ := h
    subst e1
    exact .cons h1 (h2.append g)
theorem RpL.snoc {ds : List PyData} {vs : List V} {d : PyData} {v : V} (h : RpL K H ds vs) (g : Rp K H d v) : RpL K H (ds ++ [d]) (vs ++ [v]) := h.append (.cons g .nil)
theorem RpL.take : ∀ {ds : List PyData} {vs : List V} (n : Nat), RpL K H ds vs → RpL K H (ds.take n) (vs.take n)
  | [], _, n, h => by rw [RpL] at h; subst h; simpa using RpL.nil
  | d :: ds, _, n, h => by
    rw [RpL] at h
    obtain ⟨v, r, e1, h1, h2⟩ := h
    subst e1
    cases n with
    | zero => exact .nil
    | succ n => exact .cons h1 (h2.take n)
theorem RpL.drop : ∀ {ds : List PyData} {vs : List V} (n : Nat), RpL K H ds vs → RpL K H (ds.drop n) (vs.drop n)
  | [], _, n, h => by rw [RpL] at h; subst h; simpa using RpL.nil
  | d :: ds, _, n, h => by
    rw [RpL] at h
    obtain ⟨v, r, e1, h1, h2⟩ := h
    subst e1
    cases n with
    | zero => exact .cons h1 h2
    | succ n => exact h2.drop n
theorem Rp.int_iff {i : Int} {v : V} : Rp K H (.int i) v ↔ v = .int i := by rw [Rp]
theorem Rp.str_iff {i : Str} {v : V} : Rp K H (.str i) v ↔ v = .str i := by rw [Rp]
theorem Rp.bool_iff {i : Bool} {v : V} : Rp K H (.bool i) v ↔ v = .bl i := by rw [Rp]
theorem Rp.none_iff {v : V} : Rp K H .none v ↔ v = .non := by rw [Rp]
theorem Rp.int {i : Int} : Rp K H (.int i) (.int i) := by rw [Rp]
theorem Rp.str {i : Str} : Rp K H (.str i) (.str i) := by rw [Rp]
theorem Rp.bool {i : Bool} : Rp K H (.bool i) (.bl i) := by rw [Rp]
theorem Rp.non : Rp K H .none .non := by rw [Rp]
theorem Rp.tup {ds : List PyData} {a : Addr} {xs : List V} (h : H a = some (.tup xs)) (r : RpL K H ds xs) : Rp K H (.tuple ds) (.ref a) := by
  rw [Rp]
  exact ⟨a, xs, rfl, h, r⟩
theorem Rp.lst {ds : List PyData} {a : Addr} {xs : List V} (h : FzL K H a xs) (r : RpL K H ds xs) : Rp K H (.list ds) (.ref a) := by
  rw [Rp]
  exact ⟨a, xs, rfl, h, r⟩
theorem Rp.tup_inv {ds : List PyData} {v : V} (h : Rp K H (.tuple ds) v) : ∃ a xs, v = .ref a ∧ H a = some (.tup xs) ∧ RpL K H ds xs := by rwa [Rp] at h
theorem Rp.lst_inv {ds : List PyData} {v : V} (h : Rp K H (.list ds) v) : ∃ a xs, v = .ref a ∧ FzL K H a xs ∧ RpL K H ds xs := by rwa [Rp] at h
theorem RpL.nil_inv {vs : List V} (h : RpL K H [] vs) : vs = [] := by rwa [RpL] at h
theorem RpL.cons_inv {d : PyData} {ds : List PyData} {vs : List V} (h : RpL K H (d :: ds) vs) : ∃ v r, vs = v :: r ∧ Rp K H d v ∧ RpL K H ds r := by rwa [RpL] at h
theorem RpL.ints : ∀ {ns : List Int} {vs : List V}, RpL K H (ns.map PyData.int) vs → vs = ns.map V.int
  | [], _, h => h.nil_inv
  | n :: ns, _, h => by
    obtain ⟨v, r, e, h1, h2⟩ := h.cons_inv
    rw [Rp.int_iff] at h1
    rw [e, h1, h2.ints]
    rfl
theorem RpL.of_ints : ∀ (ns : List Int), RpL K H (ns.map PyData.int) (ns.map V.int)
  | [] => .nil
  | n :: ns => .cons .int (RpL.of_ints ns)
theorem Dp.ints {a : Addr} {ns : List Int} (h : SqL K H a (ns.map V.int)) : Dp K H (.ref a) (.list (ns.map PyData.int)) := .lst h (RpL.dp (RpL.of_ints ns))
end

/-! ### a def of the top, a method, a class, by name -/
section
variable (P : Program) (w : World) (K : PySem.W.Frag) (mg : Str → Option Value) (base : Heap)
structure Gf (j : Nat) (x : Str) (ps : List Str) (sp : Sp) : Prop where
  ex : ∃ f fd, FnOk P w K mg base CX0 j f fd ps sp ∧ mg x = some (.ref f) ∧ PySem.W.keepIn K (.ref f) = true ∧ Binds K fd ps []
structure Mf (j : Nat) (C : Addr) (m : Str) (ps : List Str) (sp : Sp) : Prop where
  ex : ∃ f fd, FnOk P w K mg base CX0 j f fd ps sp ∧ Meth K C m f ∧ Binds K fd ps []
structure Kf (j : Nat) (x : Str) (C : Addr) (ps : List Str) (sp : Sp) : Prop where
  ex : ∃ f fd, FnOk P w K mg base CX0 j f fd ps sp ∧ Mk K C f ∧ mg x = some (.ref C) ∧ Binds K fd ps []
end
section
variable {X : Cx} {j k : Nat} {x m : Str} {C : Addr} {ps : List Str} {sp : Sp} {p pos apos : Pos} {e o : Expr} {es : List Expr} {t : TA} {to : TE}
theorem pc (g : Gf X.prog X.w X.K X.mg X.base j x ps sp) (hr : Room k X.A) (ha : PA X (e :: es) t) (hg : Gl X x := by rfl) (hj : j ≤ k := by decide) (hdb : (x == ("__debug__" : Str)) = false := by decide)
    (he : starEach (e :: es) X.env = (false, eval e X.env) :: starEach es X.env := by rfl) (hpl : (backTo pos (starEach es X.env)).any (·.1) = false := by rfl) :
    PE X (.Call (.Name x p) (e :: es) [] pos) (tCall sp [] E0 t) := by
  obtain ⟨f, fd, F, hm, hk, hb⟩ := g.ex
  exact pe_call F (hr.mono hj) hg hm hk hb .nil pass0 ha hdb he hpl
theorem pc0 (g : Gf X.prog X.w X.K X.mg X.base j x ps sp) (hr : Room k X.A) (hg : Gl X x := by rfl) (hj : j ≤ k := by decide) (hdb : (x == ("__debug__" : Str)) = false := by decide) :
    PE X (.Call (.Name x p) [] [] pos) (tCall sp [] E0 tNil) := by
  obtain ⟨f, fd, F, hm, hk, hb⟩ := g.ex
  exact pe_call0 F (hr.mono hj) hg hm hk hb .nil pass0 hdb
theorem pm {pl : Sem Bool} (ho : PE X o to) (c : Cls X.K C) (g : Mf X.prog X.w X.K X.mg X.base j C m ps sp) (hr : Room k X.A) (ha : PA X (e :: es) t) (hj : j ≤ k := by decide)
    (hst : starEach (e :: es) X.env = (false, eval e X.env) :: starEach es X.env := by rfl) (hpl : (backTo pos (starEach es X.env)).any (·.1) = false := by rfl)
    (ht : eval (.Call (.Attribute o m apos) (e :: es) [] pos) X.env = (do
      let ov ← eval o X.env
      standAt apos.atName
      let (f, first) ← holding [ov] (getMethod ov m pl)
      callWith pos f first (backTo pos (starEach (e :: es) X.env)) (backToKw pos (keywordEach [] X.env))) := by rfl) :
    PE X (.Call (.Attribute o m apos) (e :: es) [] pos) (tMeth C m sp [] E0 to t) := by
  obtain ⟨f, fd, F, hm, hb⟩ := g.ex
  exact pe_meth ho c hm F (hr.mono hj) hb .nil pass0 ha hst hpl ht
theorem pm0 {pl : Sem Bool} (ho : PE X o to) (c : Cls X.K C) (g : Mf X.prog X.w X.K X.mg X.base j C m ps sp) (hr : Room k X.A) (hj : j ≤ k := by decide)
    (ht : eval (.Call (.Attribute o m apos) [] [] pos) X.env = (do
      let ov ← eval o X.env
      standAt apos.atName
      let (f, first) ← holding [ov] (getMethod ov m pl)
      callWith pos f first (backTo pos (starEach [] X.env)) (backToKw pos (keywordEach [] X.env))) := by rfl) :
    PE X (.Call (.Attribute o m apos) [] [] pos) (tMeth C m sp [] E0 to tNil) := by
  obtain ⟨f, fd, F, hm, hb⟩ := g.ex
  exact pe_meth0 ho c hm F (hr.mono hj) hb .nil pass0 ht
theorem pk (g : Kf X.prog X.w X.K X.mg X.base j x C ps sp) (hr : Room k X.A) (ha : PA X (e :: es) t) (hg : Gl X x := by rfl) (hj : j + 1 ≤ k := by decide) (hdb : (x == ("__debug__" : Str)) = false := by decide)
    (he : starEach (e :: es) X.env = (false, eval e X.env) :: starEach es X.env := by rfl) (hpl : (backTo pos (starEach es X.env)).any (·.1) = false := by rfl) :
    PE X (.Call (.Name x p) (e :: es) [] pos) (tMake C sp [] E0 t) := by
  obtain ⟨f, fd, F, M, hm, hb⟩ := g.ex
  exact pe_make M F (hr.mono hj) hg hm hb .nil pass0 ha hdb he hpl
end

/-! ### the dice -/
/-- the dice at a, beside what else is owned -/
def Dice (K : PySem.W.Frag) (H : Hp) (a : Addr) (R : Lg) : Prop := ∃ (c : Addr) (ns : List Int) (i m r : Int), 0 ≤ i ∧ ns.length ≤ 1000 ∧ FzL K H c (ns.map V.int) ∧ Has H ((a, .lst [.ref c, .int i, .int m, .int r]) :: R)
section
variable {K : PySem.W.Frag} {H H' : Hp} {a p : Addr} {R R' : Lg} {o o' : HO}
theorem Dice.has (d : Dice K H a R) : Has H R := let ⟨_, _, _, _, _, _, _, _, h⟩ := d; h.tail
theorem Dice.new (d : Dice K H a R) (f : H p = none) (n : ¬ Imm o) : Dice K (upd H p o) a ((p, o) :: R) :=
  let ⟨c, ns, i, m, r, h1, h2, h3, h⟩ := d
  ⟨c, ns, i, m, r, h1, h2, h3.mono (Mono.new f), (h.new f n).swap2⟩
theorem Dice.old (d : Dice K H a R) (f : H p = none) : Dice K (upd H p o) a R :=
  let ⟨c, ns, i, m, r, h1, h2, h3, h⟩ := d
  ⟨c, ns, i, m, r, h1, h2, h3.mono (Mono.new f), h.old f⟩
theorem Dice.put (d : Dice K H a ((p, o) :: R)) (n : ¬ Imm o') : Dice K (upd H p o') a ((p, o') :: R) :=
  let ⟨c, ns, i, m, r, h1, h2, h3, h⟩ := d
  ⟨c, ns, i, m, r, h1, h2, h3.mono h.swap2.mono_put, (h.swap2.put n).swap2⟩
theorem Dice.at_ (d : Dice K H a ((p, o) :: R)) : H p = some o := d.has.head
theorem Dice.mput (d : Dice K H a ((p, o) :: R)) : Mono H (upd H p o') := d.has.mono_put
theorem Dice.perm (d : Dice K H a R) (e : R.Perm R') : Dice K H a R' :=
  let ⟨c, ns, i, m, r, h1, h2, h3, h⟩ := d
  ⟨c, ns, i, m, r, h1, h2, h3, h.perm (e.cons _)⟩
theorem Dice.sub (d : Dice K H a R) (e : R'.Sublist R) : Dice K H a R' :=
  let ⟨c, ns, i, m, r, h1, h2, h3, h⟩ := d
  ⟨c, ns, i, m, r, h1, h2, h3, h.sub (e.cons_cons _)⟩
theorem Dice.tail (d : Dice K H a ((p, o) :: R)) : Dice K H a R := d.sub (List.sublist_cons_self _ _)
/-- an owned list is let go, and stays from now on -/
theorem Dice.fz {xs : List V} {ob : Obj} (d : Dice K H a ((p, .lst xs) :: R)) : Dice K (upd H p (.frz ob (.lst xs))) a R :=
  let ⟨c, ns, i, m, r, h1, h2, h3, h⟩ := d
  ⟨c, ns, i, m, r, h1, h2, h3.mono h.swap2.mono_put, h.swap2.tail.off (List.nodup_cons.mp h.swap2.nd).1⟩
theorem Dice.mfz {xs : List V} {ob : Obj} (d : Dice K H a ((p, .lst xs) :: R)) : Mono H (upd H p (.frz ob (.lst xs))) := d.mput
/-- what others do with what is owned beside -/
theorem Dice.go (d : Dice K H a R) (h : ∀ S, Has H (R ++ S) → Mono H H' ∧ Has H' (R' ++ S)) : Dice K H' a R' := by
  obtain ⟨c, ns, i, m, r, h1, h2, h3, hh⟩ := d
  have q : Has H (R ++ [(a, .lst [.ref c, .int i, .int m, .int r])]) := hh.perm (List.perm_append_singleton _ _).symm
  obtain ⟨m1, q1⟩ := h _ q
  exact ⟨c, ns, i, m, r, h1, h2, h3.mono m1, q1.perm (List.perm_append_singleton _ _)⟩
end
end Cu

/-! Part 1: a def as it stands behind the top -/
namespace Cu
open PySem PySem.Spec PyProof.Rows L2
def top (i : Nat) : Stmt := PySem.Challenge.pw_catchup_k37_whole_letters_by_text.main.body.getD i (.Pass ⟨0, 0, 0, 0⟩)
/-- no built-in's name is the module's -/
structure Blt (mg : Str → Option Value) : Prop where
  len : mg "len" = none
  range : mg "range" = none
  int : mg "int" = none
  list : mg "list" = none
  tuple : mg "tuple" = none
  sorted : mg "sorted" = none
  min : mg "min" = none
  max : mg "max" = none
  sum : mg "sum" = none
  set : mg "set" = none
  str : mg "str" = none
  isinstance : mg "isinstance" = none
  enumerate : mg "enumerate" = none
  zip : mg "zip" = none
  bool : mg "bool" = none
  dict : mg "dict" = none
section
variable (K : PySem.W.Frag) (mg : Str → Option Value)
structure Fd (x : Str) (st : Stmt) : Prop where
  ex : ∃ f fd, Fun K x x st f fd ∧ mg x = some (.ref f)
structure Md (C : Addr) (m qual : Str) (st : Stmt) : Prop where
  ex : ∃ f fd, Fun K m qual st f fd ∧ Meth K C m f
structure Kd (x : Str) (C : Addr) (qual : Str) (st : Stmt) : Prop where
  ex : ∃ f fd, Fun K "__init__" qual st f fd ∧ Mk K C f ∧ mg x = some (.ref C)
end
section
variable {P : Program} {w : World} {K : PySem.W.Frag} {mg : Str → Option Value} {base : Heap} {x m qual : Str} {C : Addr} {st : Stmt} {N ps : List Str} {k : Nat} {sp : Sp}
/-- how the written arguments come to the parameters -/
abbrev Bnd (x qual : Str) (st : Stmt) (ps : List Str) : Prop := ∀ (kV doc pm : Value) (an : Option Addr) (cdv ct : Value) (us : List Value), us.length = ps.length → bindArgs (PySem.W.fnOf x qual (defArgs st) (defBody st) (defScope st) .none kV doc pm an cdv ct) ⟨us, []⟩ = pure (ps.zip us)
theorem Fd.ok (F : Fd K mg x st) (S : FnScope N ps (defScope st)) (b : Bnd x x st ps) (len : ∀ vs H Q E, sp vs H Q E → vs.length = ps.length)
    (hbody : ∀ (qual : Str) (f : Addr) (cdv : Value) (A : Around) (outer : List Env) (s : Shared) (H : Hp) (vs : List V) (Q : VK) (E : XK), Room k (A.deeper (envOfC qual (defScope st) s.heap.objs.size f cdv)) → sp vs H Q E →
      ∃ t, PSs (cxOf CX0 P w K mg base N qual (defScope st) f cdv A outer s H E).nox (defBody st) t ∧ t { nx := fun _ H' => Q .non H', rt := Q } (start N vs) H) : Gf P w K mg base (k + 1) x ps sp := by
  obtain ⟨f, fd, F, hm⟩ := F.ex
  exact ⟨f, fd, F.ok S len fun cdv A outer s H vs Q E hr h => hbody x f cdv A outer s H vs Q E hr h, hm, F.kp, F.binds b⟩
theorem Md.ok (F : Md K C m qual st) (S : FnScope N ps (defScope st)) (b : Bnd m qual st ps) (len : ∀ vs H Q E, sp vs H Q E → vs.length = ps.length)
    (hbody : ∀ (qual : Str) (f : Addr) (cdv : Value) (A : Around) (outer : List Env) (s : Shared) (H : Hp) (vs : List V) (Q : VK) (E : XK), Room k (A.deeper (envOfC qual (defScope st) s.heap.objs.size f cdv)) → sp vs H Q E →
      ∃ t, PSs (cxOf CX0 P w K mg base N qual (defScope st) f cdv A outer s H E).nox (defBody st) t ∧ t { nx := fun _ H' => Q .non H', rt := Q } (start N vs) H) : Mf P w K mg base (k + 1) C m ps sp := by
  obtain ⟨f, fd, F, hm⟩ := F.ex
  exact ⟨f, fd, F.ok S len fun cdv A outer s H vs Q E hr h => hbody qual f cdv A outer s H vs Q E hr h, hm, F.binds b⟩
theorem Kd.ok (F : Kd K mg x C qual st) (S : FnScope N ps (defScope st)) (b : Bnd "__init__" qual st ps) (len : ∀ vs H Q E, sp vs H Q E → vs.length = ps.length)
    (hbody : ∀ (qual : Str) (f : Addr) (cdv : Value) (A : Around) (outer : List Env) (s : Shared) (H : Hp) (vs : List V) (Q : VK) (E : XK), Room k (A.deeper (envOfC qual (defScope st) s.heap.objs.size f cdv)) → sp vs H Q E →
      ∃ t, PSs (cxOf CX0 P w K mg base N qual (defScope st) f cdv A outer s H E).nox (defBody st) t ∧ t { nx := fun _ H' => Q .non H', rt := Q } (start N vs) H) : Kf P w K mg base (k + 1) x C ps sp := by
  obtain ⟨f, fd, F, hm, hx⟩ := F.ex
  exact ⟨f, fd, F.ok S len fun cdv A outer s H vs Q E hr h => hbody qual f cdv A outer s H vs Q E hr h, hm, hx, F.binds b⟩
end
theorem len_of {n : Nat} {ps : List Str} {p : List V → Hp → VK → XK → Prop} (e : n = ps.length := by rfl) : ∀ vs H Q E, (vs.length = n ∧ p vs H Q E) → vs.length = ps.length := fun _ _ _ _ h => h.1.trans e
end Cu

namespace Cu
open PySem PySem.Spec PyProof.Rows L2
/-! sorted(d) of a dict with int keys, any number of them: the keys are taken out as HandS.More does it, and sorted by the order rule of HandS.SortOrd -/
theorem call_sortedDIw {X : Cx} (hcalm : X.calm = true) : CallR X (.builtin "sorted") (fun xs H Q => ∃ (a : Addr) (kvs : List (Key × V)) (ks : List Int), xs = [.ref a] ∧ Rd H a (.dK kvs) ∧ kvs.map (·.1) = ks.map Sum.inl ∧ ks.length ≤ sizeLine ∧
    ∀ (ys : List Int) (p : Addr), ys.Perm ks → ys.Pairwise (· ≤ ·) → H p = none → Q (.ref p) (upd H p (.lst (ys.map V.int)))) := by
  intro pins s σ H xs us Q I r ⟨a, kvs, ks, ex, hd, hks, h64, q⟩
  subst ex
  obtain ⟨u, eu, rx⟩ := vals1 r
  subst eu
  cases rx
  obtain ⟨z, lo, vs, rel, dd⟩ := dk_rd I.hok hd
  obtain ⟨ep, hat⟩ := dd.dictAt
  have hkeys : vs.map (·.1) = ks.map Sum.inl := rel.keys.symm.trans hks
  have hl : vs.length = ks.length := by
    have e := congrArg List.length hkeys
    rwa [List.length_map, List.length_map] at e
  refine Calls.call_function_entry PyProof.Rows.kind_sorted PyProof.Rows.plain_sorted PyProof.Rows.entry_sorted (PyProof.Rows.args_sorted1 _) ?_
  unfold Builtin.«sorted»
  refine wpAny_bind (m := checkCount "sorted" 1 1 _) (wpAny_pure ?_)
  refine wpAny_bind (PySem.W.kdu_collect (A := X.A.in1) (PySem.W.kdl_dict (knd := mixKind X.prog X.w) (kvs := vs) (ep := ep) lo) (I.ok.hd hcalm) hat (by rw [hl]; exact h64) fun h' tk acc hk hacc => ?_)
  have hal : acc.toList.length = ks.length := by rw [Array.length_toList, hacc.1, hl]
  have hS : IntsAre acc.toList ks := ints_each hal fun j v e => by
    obtain ⟨k, x, e1, e2⟩ := hacc.2 j v (by rw [← Array.getElem?_toList]; exact e)
    have e3 : (vs.map (·.1))[j]? = some k := by rw [List.getElem?_map, e1]; rfl
    rw [hkeys, List.getElem?_map] at e3
    cases e4 : ks[j]? with
    | none =>
      rw [e4] at e3
      cases e3
    | some y =>
      rw [e4] at e3
      have e5 : Sum.inl y = k := Option.some.inj e3
      subst e5
      rcases keyIs_shape (show keyIs (Sum.inl y) v = true from e2) with ⟨i, t, ek, ev⟩ | ⟨z, t, ek, ev⟩
      · cases ek
        exact ⟨y, t, rfl, ev⟩
      · cases ek
  have I1 : Inv X pins σ H { s with heap := h', toks := tk } := I.kept hk
  refine wpAny_bind (wpAny_newList ?_ (by rw [hal]; exact h64))
  have hoL : (h'.push (seqObj "list" acc.toList.toArray 0)).get? h'.objs.size = some (seqObj "list" acc.toList.toArray 0) := Heap.get?_push_size _ rfl
  show wpAny _ _ _ _ _ { s with heap := h'.push (seqObj "list" acc.toList.toArray 0), toks := tk }
  refine wpAny_bind (wpAny_holding (wpAny_call_entry PyProof.Rows.slot_list_sort ⟨_, hoL, rfl⟩ PyProof.Rows.entry_list_sort
    (SrtO.list_sort_ord (s := { s with heap := h'.push (seqObj "list" acc.toList.toArray 0), toks := tk }) SrtO.swo_int hoL (by rw [hal]; exact h64) (fun h2 => SrtO.ints_sortable hS h2) fun out h1 h2 => ⟨_, rfl, ?_⟩) (PyProof.Rows.args_list_sort _)))
  obtain ⟨k1, k2, k3⟩ := SrtO.ints_out hS h1 h2
  obtain ⟨e', he'⟩ := PyProof.Rows.sortedHeap_at (vs := acc.toList) (out := out.toArray) hoL
  have hlen : ((out.map SrtO.iv).map V.int).length ≤ sizeLine := by
    rw [List.length_map, k2.length_eq]
    exact h64
  refine wpAny_pure ⟨_, rfl, .ref h'.objs.size, upd H h'.objs.size (.lst ((out.map SrtO.iv).map V.int)), I1.laid (t' := tk) (fun b u e => ?_) (Nat.le_refl _)
    (show ObjOk X.prog X.w _ _ _ (.lst ((out.map SrtO.iv).map V.int)) from ⟨hlen, out, e', vals_of_ints k1, he'⟩), rfl, q _ _ k2 k3 (I1.hok.fresh (Nat.le_refl _))⟩
  have hb : b < h'.objs.size := Heap.lt_size e
  rw [PyProof.Rows.sortedHeap_old (Nat.ne_of_lt hb) (by rw [size_push']; exact Nat.lt_succ_of_lt hb)]
  exact Heap.get?_push_of_some _ e
end Cu

namespace Cu
open PySem PySem.Spec PyProof.Rows L2
/-- a statement of several ends: what stands behind all of them -/
@[irreducible] def tMid (t : TS) : TS := fun D σ H => ∃ N : L2.St → Hp → Prop, t { D with nx := N } σ H ∧ ∀ σ' H', N σ' H' → D.nx σ' H'
theorem rd_mid {t : TS} {D : Ends} {σ : L2.St} {H : Hp} (N : L2.St → Hp → Prop) (h : t { D with nx := N } σ H) (k : ∀ σ' H', N σ' H' → D.nx σ' H') : tMid t D σ H := by
  unfold tMid
  exact ⟨N, h, k⟩
theorem ps_mid {X : Cx} {st : Stmt} {t : TS} (h : PS X st t) : PS X st (tMid t) := ⟨fun pins s σ H D I hw => by
  unfold tMid at hw
  obtain ⟨N, h1, k⟩ := hw
  refine thn (h.run pins s σ H _ I h1) fun f s1 q => ?_
  cases f with
  | next =>
    obtain ⟨σ', H', I', q⟩ := q
    exact ⟨σ', H', I', k _ _ q⟩
  | brk => exact q
  | cont => exact q
  | ret u => exact q⟩
/-- e, and a list in it, if there is one, from now on never changed -/
@[irreducible] def tFzw (t : TE) : TE := fun σ H Q => t σ H fun v H1 => Q v H1 ∨ ∃ a xs, H1 a = some (.lst xs) ∧ ∀ o, Q v (upd H1 a (.frz o (.lst xs)))
theorem rd_fzw {t : TE} {σ : L2.St} {H : Hp} {Q : VK} (h : t σ H fun v H1 => Q v H1 ∨ ∃ a xs, H1 a = some (.lst xs) ∧ ∀ o, Q v (upd H1 a (.frz o (.lst xs)))) : tFzw t σ H Q := by
  unfold tFzw
  exact h
theorem pe_fzw {X : Cx} {e : Expr} {t : TE} (h : PE X e t) : PE X e (tFzw t) := ⟨fun pins s σ H Q I hw => by
  unfold tFzw at hw
  refine thn (h.run pins s σ H _ I hw) fun u s1 ⟨v, H1, I1, r, q⟩ => ?_
  rcases q with q | ⟨a, xs, ha, q⟩
  · exact ⟨_, _, I1, r, q⟩
  · obtain ⟨od, I2⟩ := I1.lock ha trivial
    exact ⟨_, _, I2, r, q od⟩⟩
end Cu

namespace Cu
open PySem PySem.Spec PyProof.Rows L2
/-! rules for a comprehension's element: the written part by its own name -/
section
variable {X : Cx} {tg e o l : Expr} {f : Str} {pos : Pos} {ta tl : TE}
theorem ix_listK (K : PySem.W.Frag) (h : X.K = K) : IxR X (rIxL K) := h ▸ ix_list
theorem ix_tupK (K : PySem.W.Frag) (h : X.K = K) : IxR X (rIxT K) := h ▸ ix_tup
theorem sl_listK (K : PySem.W.Frag) (h : X.K = K) : SlR X (rSlL K) := h ▸ sl_list
theorem op_eqDK (K : PySem.W.Frag) (h : X.K = K) (hu : X.A.units + 64 < cLine) : OpR X (compareOp .Eq) (rEqD K) := h ▸ op_eqD hu
theorem op_neDK (K : PySem.W.Frag) (h : X.K = K) (hu : X.A.units + 64 < cLine) : OpR X (compareOp .NotEq) (rNeD K) := h ▸ op_neD hu
theorem op_in_seqK (K : PySem.W.Frag) (h : X.K = K) : OpR X (compareOp .In) (rIn K false) := h ▸ op_in_seq
theorem op_notIn_seqK (K : PySem.W.Frag) (h : X.K = K) : OpR X (compareOp .NotIn) (rIn K true) := h ▸ op_notIn_seq
theorem call_len_seqK (K : PySem.W.Frag) (h : X.K = K) : CallR X (.builtin "len") (fun xs H Q => ∃ p ys, xs = [.ref p] ∧ (SqL K H p ys ∨ SqT K H p ys) ∧ Q (.int ys.length) H) := h ▸ call_len_seq
theorem call_list_ofK (K : PySem.W.Frag) (h : X.K = K) : CallR X (.type "list") (fun xs H Q => ∃ p ys, xs = [.ref p] ∧ (SqL K H p ys ∨ SqT K H p ys) ∧ ∀ l, H l = none → Q (.ref l) (upd H l (.lst ys))) := h ▸ call_list_of
theorem call_tuple_ofK (K : PySem.W.Frag) (h : X.K = K) : CallR X (.type "tuple") (fun xs H Q => ∃ p ys, xs = [.ref p] ∧ ((SqL K H p ys ∧ ∀ l, H l = none → Q (.ref l) (upd H l (.tup ys))) ∨ (SqT K H p ys ∧ Q (.ref p) H))) := h ▸ call_tuple_of
theorem cr_sumK (K : PySem.W.Frag) (h : X.K = K) (hc : X.calm = true) : CallR X (.builtin "sum") (rSum K) := h ▸ cr_sum hc
theorem cr_minK' (K : PySem.W.Frag) (h : X.K = K) (hc : X.calm = true) : CallR X (.builtin "min") (rMin K) := h ▸ cr_min hc
theorem cr_maxK' (K : PySem.W.Frag) (h : X.K = K) (hc : X.calm = true) : CallR X (.builtin "max") (rMax K) := h ▸ cr_max hc
theorem cr_sortedIK (K : PySem.W.Frag) (h : X.K = K) : CallR X (.builtin "sorted") (rSortedI K) := h ▸ cr_sortedI
theorem pi_listK (K : PySem.W.Frag) (h : X.K = K) (hl : PE X l tl) : PI X tg l (iList K tl) := h ▸ pi_list hl
theorem pe_fldK (K : PySem.W.Frag) (h : X.K = K) (he : PE X e ta) (hb : attributeBase e f X.env (eval e X.env) = eval e X.env) : PE X (.Attribute e f pos) (tFld K ta f) := h ▸ pe_fld he hb
end
end Cu

namespace Cu
open PySem PySem.Spec PyProof.Rows L2
abbrev s_dice : Stmt := (top 18)
theorem sc_dice : FnScope ["_law_script", "_law_mixed", "_law_cell"] ["_law_script"] (defScope s_dice) := ⟨rfl, rfl, rfl, by decide +kernel, rfl, by decide +kernel, by decide +kernel⟩

abbrev s_next : Stmt := (top 19)
theorem sc_next : FnScope ["_law_dice_here", "_law_many", "_law_found", "_law_cell"] ["_law_dice_here", "_law_many"] (defScope s_next) := ⟨rfl, rfl, rfl, by decide +kernel, rfl, by decide +kernel, by decide +kernel⟩

def spDice (K : PySem.W.Frag) : Sp := fun vs H Q _ => vs.length = 1 ∧ ∃ (c : Addr) (ns : List Int) (R : Lg), vs = [.ref c] ∧ ns.length ≤ 1000 ∧ FzL K H c (ns.map V.int) ∧ Has H R ∧
  ∀ (a : Addr) (H' : Hp), Mono H H' → Dice K H' a R → Q (.ref a) H'
def spNext (K : PySem.W.Frag) : Sp := fun vs H Q _ => vs.length = 2 ∧ ∃ (a : Addr) (m : Int) (R : Lg), vs = [.ref a, .int m] ∧ 0 < m ∧ m ≤ 1000000000000000000 ∧ Dice K H a R ∧
  ∀ (r : Int) (H' : Hp), 0 ≤ r → r < m → Mono H H' → Dice K H' a R → Q (.int r) H'
section
variable {P : Program} {w : World} {K : PySem.W.Frag} {mg : Str → Option Value} {base : Heap}
theorem ok_dice (F : Fd K mg "_law_dice" s_dice) (Bm : Blt mg) : Gf P w K mg base 1 "_law_dice" ["_law_script"] (spDice K) := by
  refine F.ok sc_dice (fun _ _ _ _ _ _ us hl => match us, hl with | [_], _ => rfl) len_of fun qual f cdv A outer s H vs Q E hr h => ?_
  obtain ⟨_, c, ns, R, rfl, hn, hf, hR, k⟩ := h
  refine ⟨_, (pss_cons (ps_set (i := 1) sc_dice.nd rfl (Or.inl rfl) pe_int)
      (pss_cons (ps_for PassesOwn.never rfl (pi_list (pv 0)) (pg_name (i := 2) sc_dice.nd rfl (Or.inl rfl))
        (pss_one (ps_set (i := 1) sc_dice.nd rfl (Or.inl rfl) (pe_op op_mod (pe_op op_add (pe_op op_add (pe_op op_mul (pv 1) pe_int) (pe_op op_mul (pe_op op_mod (pv 2) pe_int) pe_int)) pe_int) pe_int))))
      (pss_one (ps_ret (pe_lst (pa_cons (pv 0) (pa_cons pe_int (pa_cons (pe_op op_mul (pv 1) (pe_callTy call_int1 rfl Bm.int (by decide +kernel) (pa_cons (pe_cmpR op_gt (pe_callB call_len_seq rfl Bm.len (by decide +kernel) (pa_cons (pv 0) pa_nil)) pe_int (nomark _)) pa_nil))) (pa_cons pe_int pa_nil))))))))), ?_⟩
  refine ⟨_, rfl, c, rfl, ⟨_, hf.sq⟩, for_list (K := K) (a := c) (xs := ns.map V.int) (fun i σ H2 => ∃ (z : Int) (v : Option V), σ = [some (.ref c), some (.int z), v] ∧ H2 = H) ⟨0, none, rfl, rfl⟩ (fun i σ H2 _ ⟨_, _, _, e⟩ => by rw [e]; exact hf.sq) ?_ ?_⟩
  · rintro i x σ H2 hi ⟨z, v, rfl, rfl⟩
    obtain ⟨y, rfl⟩ : ∃ y, x = V.int y := by
      rw [List.getElem?_map] at hi
      cases e : ns[i]? with
      | none =>
        rw [e] at hi
        cases hi
      | some y =>
        rw [e] at hi
        exact ⟨y, (Option.some.inj hi).symm⟩
    refine ⟨_, rfl, _, _, rfl, rfl, .inr ⟨by decide, by decide⟩, _, rfl, _, _, rfl, rfl, (by show (0 : Int) < 2147483647; decide), _, _, rfl, rfl, .inr ⟨by decide, by decide⟩, _, _, rfl, rfl, _, _, rfl, rfl, _, _, rfl, rfl, (by show (0 : Int) < 2147483647; decide), ?_⟩
    exact ⟨_, _, rfl, rfl⟩
  · rintro σ H2 ⟨z, v, rfl, rfl⟩
    refine ⟨_, rfl, _, rfl, _, rfl, c, _, rfl, .inl hf.sq, _, _, rfl, rfl, .inr ⟨_, rfl, _, _, rfl, rfl, .inr (by split <;> exact ⟨by decide, by decide⟩), ?_⟩⟩
    refine ⟨(by show 4 ≤ sizeLine; decide), fun l hl => ?_⟩
    exact k l _ (Mono.new hl) ⟨c, ns, _, _, _, Int.le_refl 0, hn, hf.mono (Mono.new hl), hR.new hl nl⟩
theorem ok_next (F : Fd K mg "_law_next" s_next) (Bm : Blt mg) : Gf P w K mg base 1 "_law_next" ["_law_dice_here", "_law_many"] (spNext K) := by
  refine F.ok sc_next (fun _ _ _ _ _ _ us hl => match us, hl with | [_, _], _ => rfl) len_of fun qual f cdv A outer s H vs Q E hr h => ?_
  obtain ⟨_, a, m, R, rfl, hm, hm2, ⟨c, ns, i, mx, r, hi, hn, hf, hh⟩, k⟩ := h
  have hdiv : CDivW 0 m := wide_div hm (wide_le (j := 1000000000000000000) (a := 60) (by omega) (by omega) (by decide)) (by decide) (by decide)
  refine ⟨_, (pss_cons (ps_if (pt_cmpR op_gt (pe_ix ix_list (pv 0) pe_int (fun _ _ => rfl)) pe_int (nomark _))
        (pss_cons (ps_set (i := 2) sc_next.nd rfl (Or.inl rfl) (pe_op op_mod (pe_ix ix_list (pv 0) pe_int (fun _ _ => rfl)) (pv 1)))
        (pss_cons (ps_asg (pe_op op_fdivW (pe_ix ix_list (pv 0) pe_int (fun _ _ => rfl)) (pv 1)) (pg_sub (pv 0) pe_int set_list))
        (pss_one (ps_ret (pv 2)))))
        pss_nil)
      (pss_cons (ps_asg (pe_op op_add (pe_ix ix_list (pv 0) pe_int (fun _ _ => rfl)) pe_int) (pg_sub (pv 0) pe_int set_list))
      (pss_cons (ps_if (pt_cmpR op_le (pe_ix ix_list (pv 0) pe_int (fun _ _ => rfl)) (pe_callB call_len_seq rfl Bm.len (by decide +kernel) (pa_cons (pe_ix ix_list (pv 0) pe_int (fun _ _ => rfl)) pa_nil)) (nomark _))
        (pss_cons (ps_set (i := 3) sc_next.nd rfl (Or.inl rfl) (pe_ix ix_list (pe_ix ix_list (pv 0) pe_int (fun _ _ => rfl)) (pe_op op_sub (pe_ix ix_list (pv 0) pe_int (fun _ _ => rfl)) pe_int) (fun _ _ => rfl)))
        (pss_cons (ps_asg (pe_ifExp (pt_cmpR op_ge (pv 3) (pe_op op_pow pe_int pe_int) (nomark _)) (pe_op op_fdivW (pv 3) (pv 1)) pe_int) (pg_sub (pv 0) pe_int set_list))
        (pss_one (ps_ret (pe_op op_mod (pv 3) (pv 1))))))
        pss_nil)
      (pss_cons (ps_asg (pe_op op_mod (pe_op op_mul (pe_ix ix_list (pv 0) pe_int (fun _ _ => rfl)) pe_int) pe_int) (pg_sub (pv 0) pe_int set_list))
      (pss_one (ps_ret (pe_op op_mod (pe_op op_fdivW (pe_ix ix_list (pv 0) pe_int (fun _ _ => rfl)) pe_int) (pv 1)))))))), ?_⟩
  have h0 := hh.head
  refine ⟨_, rfl, _, _, _, _, rfl, rfl, SqL.of h0, rfl, _, _, rfl, rfl, _, rfl, ite2 (fun hr0 => ?_) fun hr0 => ?_⟩
  · refine ⟨_, rfl, _, _, _, _, rfl, rfl, SqL.of h0, rfl, _, rfl, _, _, rfl, rfl, hm, ?_⟩
    refine ⟨_, rfl, _, _, _, _, rfl, rfl, SqL.of h0, rfl, _, rfl, _, _, rfl, rfl, hdiv, _, rfl, _, _, _, _, rfl, rfl, h0, rfl, _, rfl, ?_⟩
    exact k _ _ (Int.emod_nonneg _ (by omega)) (Int.emod_lt_of_pos _ hm) hh.mono_put ⟨c, ns, i, mx, r / m, hi, hn, hf.mono hh.mono_put, hh.put nl⟩
  · refine ⟨_, rfl, _, _, _, _, rfl, rfl, SqL.of h0, rfl, _, _, rfl, rfl, _, rfl, _, _, _, _, rfl, rfl, h0, rfl, ?_⟩
    have h1 : Has (upd H a (.lst [.ref c, .int (i + 1), .int mx, .int r])) ((a, .lst [.ref c, .int (i + 1), .int mx, .int r]) :: R) := hh.put nl
    have m1 : Mono H (upd H a (.lst [.ref c, .int (i + 1), .int mx, .int r])) := hh.mono_put
    have f1 := hf.mono m1
    have e1 := h1.head
    refine ⟨_, rfl, _, _, _, _, rfl, rfl, SqL.of e1, rfl, _, rfl, _, _, _, _, rfl, rfl, SqL.of e1, rfl, c, _, rfl, .inl f1.sq, _, _, rfl, rfl, _, rfl, ite2 (fun hle => ?_) fun hle => ?_⟩
    · have hle' : i + 1 ≤ (ns.length : Int) := by
        have := of_decide_eq_true hle
        rw [List.length_map] at this
        exact this
      have hj : i.toNat < ns.length := by omega
      have hat : atI (ns.map V.int) (i + 1 - 1) = some (V.int ns[i.toNat]) := at_of (j := i.toNat) (by omega) (by rw [List.getElem?_map, List.getElem?_eq_getElem hj]; rfl)
      refine ⟨_, rfl, _, _, _, _, rfl, rfl, SqL.of e1, rfl, _, rfl, _, _, _, _, rfl, rfl, SqL.of e1, rfl, _, _, rfl, rfl, c, _, _, _, rfl, rfl, f1.sq, hat, ?_⟩
      refine ⟨_, rfl, _, _, rfl, rfl, ⟨by decide, by decide, by decide⟩, _, _, rfl, rfl, _, rfl, ite2 (fun hb => ?_) fun hb => ?_⟩
      · refine ⟨_, rfl, _, rfl, _, _, rfl, rfl, hdiv, _, rfl, _, _, _, _, rfl, rfl, e1, rfl, _, rfl, _, rfl, _, _, rfl, rfl, hm, ?_⟩
        exact k _ _ (Int.emod_nonneg _ (by omega)) (Int.emod_lt_of_pos _ hm) (m1.trans h1.mono_put) ⟨c, ns, i + 1, mx, ns[i.toNat] / m, by omega, hn, f1.mono h1.mono_put, h1.put nl⟩
      · refine ⟨_, rfl, _, _, _, _, rfl, rfl, e1, rfl, _, rfl, _, rfl, _, _, rfl, rfl, hm, ?_⟩
        exact k _ _ (Int.emod_nonneg _ (by omega)) (Int.emod_lt_of_pos _ hm) (m1.trans h1.mono_put) ⟨c, ns, i + 1, mx, 0, by omega, hn, f1.mono h1.mono_put, h1.put nl⟩
    · refine ⟨_, rfl, _, _, _, _, rfl, rfl, SqL.of e1, rfl, _, _, rfl, rfl, .inr ⟨by decide, by decide⟩, _, _, rfl, rfl, (by show (0 : Int) < 2147483647; decide), _, rfl, _, _, _, _, rfl, rfl, e1, rfl, ?_⟩
      have h2 := h1.put (o' := .lst [.ref c, .int (i + 1), .int (mx * 48271 % 2147483647), .int r]) nl
      have e2 := h2.head
      refine ⟨_, rfl, _, _, _, _, rfl, rfl, SqL.of e2, rfl, _, _, rfl, rfl, ⟨by decide, by decide⟩, _, rfl, _, _, rfl, rfl, hm, ?_⟩
      exact k _ _ (Int.emod_nonneg _ (by omega)) (Int.emod_lt_of_pos _ hm) (m1.trans h1.mono_put) ⟨c, ns, i + 1, _, r, by omega, hn, f1.mono h1.mono_put, h2⟩
end
end Cu

namespace Cu
open PySem PySem.Spec PyProof.Rows L2
abbrev s_worth : Stmt := (top 20)
theorem sc_worth : FnScope ["_law_d"] ["_law_d"] (defScope s_worth) := ⟨rfl, rfl, rfl, by decide +kernel, rfl, by decide +kernel, by decide +kernel⟩

abbrev s_changes : Stmt := (top 21)
theorem sc_changes : FnScope ["_law_d", "_law_keys", "_law_most", "_law_often", "_law_few", "_law_found", "_law_k", "_law_word"] ["_law_d", "_law_keys", "_law_most"] (defScope s_changes) := ⟨rfl, rfl, rfl, by decide +kernel, rfl, by decide +kernel, by decide +kernel⟩

theorem at_some {xs : List V} {r : Int} (h0 : 0 ≤ r) (h1 : r < (xs.length : Int)) : ∃ v, atI xs r = some v ∧ v ∈ xs := by
  have hj : r.toNat < xs.length := by omega
  exact ⟨xs[r.toNat], at_of (j := r.toNat) (by omega) (List.getElem?_eq_getElem hj), List.getElem_mem hj⟩
/-- a change as it is drawn -/
structure Ch where
  key : Nat
  set : Bool
  worth : Int
def wd (b : Bool) : Str := if b then "set" else "add"
def Ch.enc (c : Ch) : PyData := .tuple [.int c.key, .str (wd c.set), .int c.worth]
def spWorth (K : PySem.W.Frag) : Sp := fun vs H Q _ => vs.length = 1 ∧ ∃ (a : Addr) (R : Lg), vs = [.ref a] ∧ Dice K H a R ∧ ∀ (z : Int) (H' : Hp), Mono H H' → Dice K H' a R → Q (.int z) H'
def spChanges (K : PySem.W.Frag) : Sp := fun vs H Q _ => vs.length = 3 ∧ ∃ (a : Addr) (nk mo : Nat) (R : Lg), vs = [.ref a, .int nk, .int mo] ∧ 0 < nk ∧ nk ≤ 8 ∧ mo ≤ 1000 ∧ Dice K H a R ∧
  ∀ (cs : List Ch) (v : V) (H' : Hp), cs.length ≤ mo → (∀ c ∈ cs, c.key < nk) → Mono H H' → Dice K H' a R → Rp K H' (.list (cs.map Ch.enc)) v → Q v H'
section
variable {P : Program} {w : World} {K : PySem.W.Frag} {mg : Str → Option Value} {base : Heap}
theorem ok_worth (F : Fd K mg "_law_worth" s_worth) (Bm : Blt mg) (g_next : Gf P w K mg base 1 "_law_next" ["_law_dice_here", "_law_many"] (spNext K)) : Gf P w K mg base 2 "_law_worth" ["_law_d"] (spWorth K) := by
  refine F.ok sc_worth (fun _ _ _ _ _ _ us hl => match us, hl with | [_], _ => rfl) len_of fun qual f cdv A outer s H vs Q E hr h => ?_
  obtain ⟨_, a, R, rfl, d, k⟩ := h
  refine ⟨_, (pss_one (ps_ret (pe_ix ix_list (pe_lst (pa_cons (pe_op op_sub (pc g_next hr (pa_cons (pv 0) (pa_cons pe_int pa_nil))) pe_int) (pa_cons (pe_op op_sub (pc g_next hr (pa_cons (pv 0) (pa_cons pe_int pa_nil))) pe_int) (pa_cons (pc g_next hr (pa_cons (pv 0) (pa_cons (pe_op op_pow pe_int pe_int) pa_nil))) pa_nil)))) (pc g_next hr (pa_cons (pv 0) (pa_cons pe_int pa_nil))) (fun _ _ => rfl)))), ?_⟩
  refine ⟨_, rfl, rfl, a, 5, R, rfl, by decide, by decide, d, fun r1 H1 _ _ m1 d1 => ⟨_, _, rfl, rfl, ?_⟩⟩
  refine ⟨_, rfl, rfl, a, 2000, R, rfl, by decide, by decide, d1, fun r2 H2 _ _ m2 d2 => ⟨_, _, rfl, rfl, ?_⟩⟩
  refine ⟨_, rfl, _, _, rfl, rfl, ⟨by decide, by decide, by decide⟩, rfl, a, 1000000000000000000, R, rfl, by decide, by decide, d2, fun r3 H3 _ _ m3 d3 => ⟨(by show 3 ≤ sizeLine; decide), fun p hp => ?_⟩⟩
  refine ⟨_, rfl, rfl, a, 3, _, rfl, by decide, by decide, d3.new (o := .lst [.int (r1 - 1), .int (r2 - 1000), .int r3]) hp nl, fun r4 H4 h0 h1 m4 d4 => ?_⟩
  obtain ⟨v, hv, hm⟩ := at_some (xs := [.int (r1 - 1), .int (r2 - 1000), .int r3]) h0 h1
  obtain ⟨z, rfl⟩ : ∃ z, v = V.int z := by
    simp only [List.mem_cons, List.not_mem_nil, or_false] at hm
    rcases hm with e | e | e <;> exact ⟨_, e⟩
  exact ⟨_, _, _, _, rfl, rfl, SqL.of d4.at_, hv, k z H4 ((((m1.trans m2).trans m3).trans (Mono.new hp)).trans m4) d4.tail⟩
theorem ok_changes (F : Fd K mg "_law_changes" s_changes) (Bm : Blt mg) (g_next : Gf P w K mg base 1 "_law_next" ["_law_dice_here", "_law_many"] (spNext K)) (g_worth : Gf P w K mg base 2 "_law_worth" ["_law_d"] (spWorth K)) :
    Gf P w K mg base 3 "_law_changes" ["_law_d", "_law_keys", "_law_most"] (spChanges K) := by
  refine F.ok sc_changes (fun _ _ _ _ _ _ us hl => match us, hl with | [_, _, _], _ => rfl) len_of fun qual f cdv A outer s H vs Q E hr h => ?_
  obtain ⟨_, a, nk, mo, R, rfl, hk, hk8, hmo, d, k⟩ := h
  refine ⟨_, (pss_cons (ps_set (i := 3) sc_changes.nd rfl (Or.inl rfl) (pe_op op_add pe_int (pc g_next hr (pa_cons (pv 0) (pa_cons pe_int pa_nil)))))
      (pss_cons (ps_set (i := 4) sc_changes.nd rfl (Or.inl rfl) (pe_op op_add pe_int (pc g_next hr (pa_cons (pv 0) (pa_cons (pv 1) pa_nil)))))
      (pss_cons (ps_set (i := 5) sc_changes.nd rfl (Or.inl rfl) (pe_lst pa_nil))
      (pss_cons (ps_for PassesOwn.never rfl (pi_range1 rfl Bm.range (pa_cons (pc g_next hr (pa_cons (pv 0) (pa_cons (pe_op op_add (pv 2) pe_int) pa_nil))) pa_nil)) (pg_name (i := 6) sc_changes.nd rfl (Or.inl rfl))
        (pss_cons (ps_set (i := 7) sc_changes.nd rfl (Or.inl rfl) (pe_ix ix_list (pe_lst (pa_cons pe_str (pa_cons pe_str pa_nil))) (pe_callTy call_int1 rfl Bm.int (by decide +kernel) (pa_cons (pe_cmpR op_eq (pc g_next hr (pa_cons (pv 0) (pa_cons (pv 3) pa_nil))) pe_int (nomark _)) pa_nil)) (fun _ _ => rfl)))
        (pss_one (ps_expr (pe_bm PySem.F.plainAttrs_list PySem.F.slot_list_append PySem.F.type_list_append mt_append (pv 5) (pa_cons (pe_tup (pa_cons (pc g_next hr (pa_cons (pv 0) (pa_cons (pe_ix ix_list (pe_lst (pa_cons (pv 4) (pa_cons (pv 4) (pa_cons (pv 1) pa_nil)))) (pc g_next hr (pa_cons (pv 0) (pa_cons pe_int pa_nil))) (fun _ _ => rfl)) pa_nil))) (pa_cons (pv 7) (pa_cons (pc g_worth hr (pa_cons (pv 0) pa_nil)) pa_nil)))) pa_nil))))))
      (pss_one (ps_ret (pe_fz (pv 5)))))))), ?_⟩
  refine ⟨_, rfl, rfl, a, 4, R, rfl, by decide, by decide, d, fun r1 H1 p1 q1 m1 d1 => ⟨_, _, rfl, rfl, ?_⟩⟩
  refine ⟨_, rfl, _, rfl, rfl, a, nk, R, rfl, by omega, by omega, d1, fun r2 H2 p2 q2 m2 d2 => ⟨_, _, rfl, rfl, ?_⟩⟩
  refine ⟨(by show 0 ≤ sizeLine; decide), fun p hp => ?_⟩
  have d3 := d2.new (o := .lst []) hp nl
  have m3 := (m1.trans m2).trans (Mono.new (o := .lst []) hp)
  refine ⟨_, rfl, _, rfl, _, _, rfl, rfl, rfl, a, mo + 1, _, rfl, by omega, by omega, d3, fun r4 H4 p4 q4 m4 d4 => ⟨_, rfl, by omega, by omega, ?_⟩⟩
  refine for_range (lo := 0) (n := r4.toNat) (fun i σ H5 => ∃ (cs : List Ch) (xs : List V) (v6 v7 : Option V), σ = [some (.ref a), some (.int nk), some (.int mo), some (.int (1 + r1)), some (.int (1 + r2)), some (.ref p), v6, v7] ∧
    Mono H H5 ∧ Dice K H5 a ((p, .lst xs) :: R) ∧ RpL K H5 (cs.map Ch.enc) xs ∧ cs.length = i ∧ ∀ c ∈ cs, c.key < nk)
    ⟨[], [], none, none, rfl, m3.trans m4, d4, .nil, rfl, fun _ h => (nomatch h)⟩ ?_ ?_
  · rintro i σ H5 hi ⟨cs, xs, v6, v7, rfl, m5, d5, rp, hl, hc⟩
    refine ⟨(by show 2 ≤ sizeLine; decide), fun l hl2 => ?_⟩
    have d6 := d5.new (o := .lst [.str "add", .str "set"]) hl2 nl
    refine ⟨_, rfl, _, rfl, rfl, a, _, _, rfl, by omega, by omega, d6, fun r6 H6 _ _ m6 d7 => ⟨rfl, .inr ⟨_, rfl, ?_⟩⟩⟩
    have d8 := d7.tail
    have m8 := (Mono.new (o := .lst [.str "add", .str "set"]) hl2).trans m6
    refine ⟨_, _, _, .str (wd (decide (V.int r6 = V.int 0))), rfl, rfl, SqL.of d7.at_, (by cases decide (V.int r6 = V.int 0) <;> rfl), ?_⟩
    refine ⟨_, rfl, .inl ⟨rfl, _, SqL.of d8.at_⟩, _, rfl, _, rfl, _, rfl, _, rfl, ⟨(by show 3 ≤ sizeLine; decide), fun l2 hl3 => ?_⟩⟩
    have d9 := d8.new (o := .lst [.int (1 + r2), .int (1 + r2), .int nk]) hl3 nl
    refine ⟨_, rfl, rfl, a, 3, _, rfl, by decide, by decide, d9, fun r9 H9 p9 q9 m9 d10 => ?_⟩
    obtain ⟨v, hv, hm⟩ := at_some (xs := [.int (1 + r2), .int (1 + r2), .int nk]) p9 q9
    obtain ⟨z, rfl, hz0, hzk⟩ : ∃ z, v = V.int z ∧ 0 < z ∧ z ≤ nk := by
      simp only [List.mem_cons, List.not_mem_nil, or_false] at hm
      rcases hm with e | e | e
      · exact ⟨_, e, by omega, by omega⟩
      · exact ⟨_, e, by omega, by omega⟩
      · exact ⟨_, e, by omega, by omega⟩
    refine ⟨_, _, _, _, rfl, rfl, SqL.of d10.at_, hv, rfl, a, z, _, rfl, hz0, by omega, d10.tail, fun r11 H11 p11 q11 m11 d11 => ?_⟩
    refine ⟨_, rfl, _, rfl, rfl, a, _, rfl, d11, fun z12 H12 m12 d12 => ⟨(by show 3 ≤ sizeLine; decide), fun t ht => ?_⟩⟩
    have ms := (((m8.trans (Mono.new (o := .lst [.int (1 + r2), .int (1 + r2), .int nk]) hl3)).trans m9).trans m11).trans m12
    have d13 := d12.old (o := .tup [.int r11, .str (wd (decide (V.int r6 = V.int 0))), .int z12]) ht
    have mt : Mono H12 (upd H12 t (.tup [.int r11, .str (wd (decide (V.int r6 = V.int 0))), .int z12])) := Mono.new ht
    have hxs : xs.length = i := by rw [rp.length, List.length_map, hl]
    refine ⟨_, _, _, rfl, rfl, d13.at_, (by rw [hxs]; exact small1000 (by omega)), ?_⟩
    refine ⟨cs ++ [⟨r11.toNat, decide (V.int r6 = V.int 0), z12⟩], _, _, _, rfl, ((m5.trans ms).trans mt).trans d13.mput, d13.put nl, ?_, by rw [List.length_append, hl]; rfl, fun c hcm => ?_⟩
    · rw [List.map_append]
      refine ((rp.mono ((ms.trans mt).trans d13.mput)).append (.cons ?_ .nil))
      have e : ((r11.toNat : Nat) : Int) = r11 := by omega
      refine Rp.tup (d13.mput _ _ upd_same trivial) ?_
      show RpL K _ [.int ((r11.toNat : Nat) : Int), _, _] _
      rw [e]
      exact .cons .int (.cons .str (.cons .int .nil))
    · rcases List.mem_append.mp hcm with h | h
      · exact hc c h
      · rw [List.mem_singleton.mp h]
        show r11.toNat < nk
        omega
  · rintro σ H5 ⟨cs, xs, v6, v7, rfl, m5, d5, rp, hl, hc⟩
    refine rd_fz ⟨_, rfl, p, xs, rfl, d5.at_, fun o => ?_⟩
    exact k cs _ _ (by omega) hc (m5.trans d5.mfz) d5.fz (.lst FzL.frz (rp.mono d5.mfz))
end
end Cu

namespace Cu
open PySem PySem.Spec PyProof.Rows L2
/-! a story: worths and lasts behind changes, rows, letters -/
def wst (k : Nat) (w : Int) (c : Ch) : Int := if c.key = k then (if c.set then 0 else w) + c.worth else w
def wofR : List Ch → Nat → Int
  | [], _ => 0
  | c :: r, k => wst k (wofR r k) c
def lofR : List Ch → Nat → Nat
  | [], _ => 0
  | c :: r, k => if c.key = k then r.length + 1 else lofR r k
def wof (cs : List Ch) (k : Nat) : Int := wofR cs.reverse k
def lof (cs : List Ch) (k : Nat) : Nat := lofR cs.reverse k
theorem wof_nil (k : Nat) : wof [] k = 0 := rfl
theorem lof_nil (k : Nat) : lof [] k = 0 := rfl
theorem wof_snoc (cs : List Ch) (c : Ch) (k : Nat) : wof (cs ++ [c]) k = wst k (wof cs k) c := by
  unfold wof
  rw [List.reverse_append]
  rfl
theorem lof_snoc (cs : List Ch) (c : Ch) (k : Nat) : lof (cs ++ [c]) k = if c.key = k then cs.length + 1 else lof cs k := by
  unfold lof
  rw [List.reverse_append]
  show (if c.key = k then cs.reverse.length + 1 else lofR cs.reverse k) = _
  rw [List.length_reverse]
def wrow (nk : Nat) (cs : List Ch) : List Int := (List.range nk).map (wof cs)
def lrow (nk : Nat) (cs : List Ch) : List Int := (List.range nk).map fun k => (lof cs k : Int)
def ilst (ns : List Int) : PyData := .list (ns.map PyData.int)
def rowD (nk : Nat) (cs : List Ch) : PyData := .tuple [ilst (wrow nk cs), ilst (lrow nk cs)]
inductive Letter where
  | change (n : Nat) (c : Ch) (ahead : Nat)
  | part (n b : Nat) (rows : List (Int × Nat))
  | beat (n : Nat) (lasts : List Nat)
def Letter.enc : Letter → PyData
  | .change n c ahead => .tuple [.str "change", .int n, .int c.key, .str (wd c.set), .int c.worth, .int ahead]
  | .part n b rows => .tuple [.str "part", .int n, .int b, .tuple (rows.map fun r => .tuple [.int r.1, .int r.2])]
  | .beat n lasts => .tuple [.str "beat", .int n, .tuple (lasts.map fun k : Nat => .int k)]
def letsR : List Ch → List Letter
  | [] => []
  | c :: r => letsR r ++ [.change (r.length + 1) c (lofR r c.key)]
def rowsR (nk : Nat) : List Ch → List PyData
  | [] => [rowD nk []]
  | c :: r => rowsR nk r ++ [rowD nk (c :: r).reverse]
def lets (cs : List Ch) : List Letter := letsR cs.reverse
def rowsD (nk : Nat) (cs : List Ch) : List PyData := rowsR nk cs.reverse
theorem lets_nil : lets [] = [] := rfl
theorem lets_snoc (cs : List Ch) (c : Ch) : lets (cs ++ [c]) = lets cs ++ [.change (cs.length + 1) c (lof cs c.key)] := by
  unfold lets lof
  rw [List.reverse_append]
  show letsR cs.reverse ++ [Letter.change (cs.reverse.length + 1) c (lofR cs.reverse c.key)] = _
  rw [List.length_reverse]
theorem rowsD_nil (nk : Nat) : rowsD nk [] = [rowD nk []] := rfl
theorem rowsD_snoc (nk : Nat) (cs : List Ch) (c : Ch) : rowsD nk (cs ++ [c]) = rowsD nk cs ++ [rowD nk (cs ++ [c])] := by
  unfold rowsD
  rw [List.reverse_append]
  show rowsR nk cs.reverse ++ [rowD nk (c :: cs.reverse).reverse] = _
  rw [List.reverse_cons, List.reverse_reverse]
theorem snoc_ind {α : Type} {p : List α → Prop} (h0 : p []) (h1 : ∀ xs x, p xs → p (xs ++ [x])) (xs : List α) : p xs := by
  have q : ∀ ys : List α, p ys.reverse := fun ys => by
    induction ys with
    | nil => exact h0
    | cons y ys ih =>
      rw [List.reverse_cons]
      exact h1 _ _ ih
  have := q xs.reverse
  rwa [List.reverse_reverse] at this
theorem rowsD_last (nk : Nat) (cs : List Ch) : ∃ init, rowsD nk cs = init ++ [rowD nk cs] := by
  induction cs using snoc_ind with
  | h0 => exact ⟨[], rfl⟩
  | h1 cs c _ => exact ⟨_, rowsD_snoc nk cs c⟩
theorem rowsD_length (nk : Nat) (cs : List Ch) : (rowsD nk cs).length = cs.length + 1 := by
  induction cs using snoc_ind with
  | h0 => rfl
  | h1 cs c ih => rw [rowsD_snoc, List.length_append, ih, List.length_append]; rfl
theorem lets_length (cs : List Ch) : (lets cs).length = cs.length := by
  induction cs using snoc_ind with
  | h0 => rfl
  | h1 cs c ih => rw [lets_snoc, List.length_append, ih, List.length_append]; rfl
theorem rowsD_get {nk : Nat} : ∀ {cs : List Ch} {n : Nat}, n ≤ cs.length → (rowsD nk cs)[n]? = some (rowD nk (cs.take n)) := by
  intro cs
  induction cs using snoc_ind with
  | h0 =>
    intro n h
    have : n = 0 := by simpa using h
    subst this
    rfl
  | h1 cs c ih =>
    intro n h
    rw [rowsD_snoc]
    rw [List.length_append, List.length_singleton] at h
    by_cases e : n ≤ cs.length
    · rw [List.getElem?_append_left (by rw [rowsD_length]; omega), ih e, List.take_append_of_le_length e]
    · have e1 : n = cs.length + 1 := by omega
      subst e1
      rw [List.getElem?_append_right (by rw [rowsD_length]; exact Nat.le_refl _), rowsD_length, Nat.sub_self, List.take_of_length_le (by simp)]
      rfl
theorem lets_get : ∀ {cs : List Ch} {n : Nat} {c : Ch}, cs[n]? = some c → (lets cs)[n]? = some (.change (n + 1) c (lof (cs.take n) c.key)) := by
  intro cs
  induction cs using snoc_ind with
  | h0 =>
    intro n c h
    simp at h
  | h1 cs d ih =>
    intro n c h
    rw [lets_snoc]
    have hn : n < cs.length + 1 := by
      have := (List.getElem?_eq_some_iff.mp h).1
      simpa using this
    by_cases e : n < cs.length
    · rw [List.getElem?_append_left (by rw [lets_length]; exact e), List.take_append_of_le_length (Nat.le_of_lt e)]
      rw [List.getElem?_append_left e] at h
      exact ih h
    · have e1 : n = cs.length := by omega
      subst e1
      rw [List.getElem?_append_right (Nat.le_refl _), Nat.sub_self] at h
      have e2 : d = c := by simpa using h
      subst e2
      rw [List.getElem?_append_right (by rw [lets_length]; exact Nat.le_refl _), lets_length, Nat.sub_self, List.take_append_of_le_length (Nat.le_refl _), List.take_of_length_le (Nat.le_refl _)]
      rfl
theorem set_cut {α : Type} (xs : List α) (k : Nat) (v : α) (h : k < xs.length) : xs.take k ++ [v] ++ xs.drop (k + 1) = xs.set k v := by
  rw [List.set_eq_take_append_cons_drop, if_pos h, List.append_assoc]
  rfl
theorem wrow_snoc (nk : Nat) (cs : List Ch) (c : Ch) : wrow nk (cs ++ [c]) = (wrow nk cs).set c.key (wst c.key (wof cs c.key) c) := by
  apply List.ext_getElem?
  intro i
  unfold wrow
  rw [List.getElem?_map]
  by_cases hi : i < nk
  · rw [List.getElem?_range hi]
    by_cases e : c.key = i
    · rw [e, List.getElem?_set_self (by simpa using hi)]
      simp [wof_snoc]
    · rw [List.getElem?_set_ne e, List.getElem?_map, List.getElem?_range hi]
      simp [wof_snoc, wst, e]
  · have h1 : (List.range nk)[i]? = none := by simp; omega
    have h2 : ((List.range nk).map (wof cs)).length ≤ i := by simp; omega
    rw [h1, List.getElem?_eq_none (by rw [List.length_set]; exact h2)]
    rfl
theorem lrow_snoc (nk : Nat) (cs : List Ch) (c : Ch) : lrow nk (cs ++ [c]) = (lrow nk cs).set c.key ((cs.length + 1 : Nat) : Int) := by
  apply List.ext_getElem?
  intro i
  unfold lrow
  rw [List.getElem?_map]
  by_cases hi : i < nk
  · rw [List.getElem?_range hi]
    by_cases e : c.key = i
    · rw [e, List.getElem?_set_self (by simpa using hi)]
      simp [lof_snoc, e]
    · rw [List.getElem?_set_ne e, List.getElem?_map, List.getElem?_range hi]
      simp [lof_snoc, e]
  · have h1 : (List.range nk)[i]? = none := by simp; omega
    have h2 : ((List.range nk).map fun k => (lof cs k : Int)).length ≤ i := by simp; omega
    rw [h1, List.getElem?_eq_none (by rw [List.length_set]; exact h2)]
    rfl
theorem wrow_get {nk k : Nat} {cs : List Ch} (h : k < nk) : (wrow nk cs)[k]? = some (wof cs k) := by
  unfold wrow
  rw [List.getElem?_map, List.getElem?_range h]
  rfl
theorem lrow_get {nk k : Nat} {cs : List Ch} (h : k < nk) : (lrow nk cs)[k]? = some (lof cs k : Int) := by
  unfold lrow
  rw [List.getElem?_map, List.getElem?_range h]
  rfl
theorem wrow_len (nk : Nat) (cs : List Ch) : (wrow nk cs).length = nk := by simp [wrow]
theorem lrow_len (nk : Nat) (cs : List Ch) : (lrow nk cs).length = nk := by simp [lrow]
theorem wrow_nil (nk : Nat) : wrow nk [] = List.replicate nk 0 := by
  apply List.ext_getElem?
  intro i
  by_cases hi : i < nk
  · rw [wrow_get hi, List.getElem?_replicate, if_pos hi]
    rfl
  · rw [List.getElem?_eq_none (by rw [wrow_len]; omega), List.getElem?_eq_none (by simp; omega)]
theorem lrow_nil (nk : Nat) : lrow nk [] = List.replicate nk 0 := by
  apply List.ext_getElem?
  intro i
  by_cases hi : i < nk
  · rw [lrow_get hi, List.getElem?_replicate, if_pos hi]
    rfl
  · rw [List.getElem?_eq_none (by rw [lrow_len]; omega), List.getElem?_eq_none (by simp; omega)]
theorem take_snoc {α : Type} {xs : List α} {i : Nat} {x : α} (h : xs[i]? = some x) : xs.take (i + 1) = xs.take i ++ [x] := by
  rw [List.take_add_one, h]
  rfl

section
variable {K : PySem.W.Frag} {H H' : Hp}
theorem RpL.snoc_inv : ∀ {ds : List PyData} {d : PyData} {vs : List V}, RpL K H (ds ++ [d]) vs → ∃ us v, vs = us ++ [v] ∧ RpL K H ds us ∧ Rp K H d v
  | [], d, vs, h => by
    obtain ⟨v, r, e, h1, h2⟩ := RpL.cons_inv (show RpL K H [d] vs from h)
    have := h2.nil_inv
    subst this
    exact ⟨[], v, e, .nil, h1⟩
  | c :: ds, d, vs, h => by
    obtain ⟨v, r, e, h1, h2⟩ := RpL.cons_inv (show RpL K H (c :: (ds ++ [d])) vs from h)
    obtain ⟨us, u, e2, h3, h4⟩ := RpL.snoc_inv h2
    subst e2
    exact ⟨v :: us, u, e, .cons h1 h3, h4⟩
/-- a list of ints that stays -/
theorem Rp.il_inv {ns : List Int} {v : V} (h : Rp K H (ilst ns) v) : ∃ a, v = .ref a ∧ FzL K H a (ns.map V.int) := by
  obtain ⟨a, xs, e, f, r⟩ := h.lst_inv
  rw [r.ints] at f
  exact ⟨a, e, f⟩
theorem Rp.il {ns : List Int} {a : Addr} (h : FzL K H a (ns.map V.int)) : Rp K H (ilst ns) (.ref a) := .lst h (RpL.of_ints ns)
theorem Rp.ch_inv {c : Ch} {v : V} (h : Rp K H c.enc v) : ∃ a, v = .ref a ∧ H a = some (.tup [.int c.key, .str (wd c.set), .int c.worth]) := by
  obtain ⟨a, xs, e, f, r⟩ := h.tup_inv
  obtain ⟨v1, r1, e1, h1, r⟩ := r.cons_inv
  obtain ⟨v2, r2, e2, h2, r⟩ := r.cons_inv
  obtain ⟨v3, r3, e3, h3, r⟩ := r.cons_inv
  have := r.nil_inv
  subst this e3 e2 e1
  have h1 := Rp.int_iff.mp h1
  have h2 := Rp.str_iff.mp h2
  have h3 := Rp.int_iff.mp h3
  subst h1 h2 h3
  exact ⟨a, e, f⟩
theorem Rp.row_inv {nk : Nat} {cs : List Ch} {v : V} (h : Rp K H (rowD nk cs) v) : ∃ a p q, v = .ref a ∧ H a = some (.tup [.ref p, .ref q]) ∧ FzL K H p ((wrow nk cs).map V.int) ∧ FzL K H q ((lrow nk cs).map V.int) := by
  obtain ⟨a, xs, e, f, r⟩ := h.tup_inv
  obtain ⟨v1, r1, e1, h1, r⟩ := r.cons_inv
  obtain ⟨v2, r2, e2, h2, r⟩ := r.cons_inv
  have := r.nil_inv
  subst this e2 e1
  obtain ⟨p, e1, f1⟩ := h1.il_inv
  obtain ⟨q, e2, f2⟩ := h2.il_inv
  subst e1 e2
  exact ⟨a, p, q, e, f, f1, f2⟩
theorem Rp.row {nk : Nat} {cs : List Ch} {a p q : Addr} (h : H a = some (.tup [.ref p, .ref q])) (f1 : FzL K H p ((wrow nk cs).map V.int)) (f2 : FzL K H q ((lrow nk cs).map V.int)) : Rp K H (rowD nk cs) (.ref a) :=
  .tup h (.cons (.il f1) (.cons (.il f2) .nil))
end
theorem Dice.use {K : PySem.W.Frag} {H : Hp} {a : Addr} {R : Lg} (d : Dice K H a R) : ∃ R0, Has H R0 ∧ ∀ H', Mono H H' → Has H' R0 → Dice K H' a R :=
  let ⟨c, ns, i, m, r, h1, h2, h3, h⟩ := d
  ⟨_, h, fun _ m' h' => ⟨c, ns, i, m, r, h1, h2, h3.mono m', h'⟩⟩
end Cu

namespace Cu
open PySem PySem.Spec PyProof.Rows L2
/-- what is owned goes from C to C', whatever else is owned; nothing else changes -/
structure Tr (H : Hp) (C : Lg) (H' : Hp) (C' : Lg) : Prop where
  mono : Mono H H'
  has : ∀ R, Has H (C ++ R) → Has H' (C' ++ R)
abbrev Grow (H H' : Hp) : Prop := Tr H [] H' []
section
variable {K : PySem.W.Frag} {H H1 H2 : Hp} {C C1 C2 D : Lg} {a p : Addr} {o o' : HO} {R : Lg}
theorem Tr.refl (H : Hp) (C : Lg) : Tr H C H C := ⟨Mono.refl H, fun _ h => h⟩
theorem Tr.trans (t : Tr H C H1 C1) (u : Tr H1 C1 H2 C2) : Tr H C H2 C2 := ⟨t.mono.trans u.mono, fun R h => u.has R (t.has R h)⟩
theorem Tr.right (t : Tr H C H1 C1) : Tr H (C ++ D) H1 (C1 ++ D) := ⟨t.mono, fun R h => by
  rw [List.append_assoc] at h ⊢
  exact t.has _ h⟩
theorem Tr.left (t : Tr H C H1 C1) : Tr H (D ++ C) H1 (D ++ C1) := ⟨t.mono, fun R h => by
  rw [List.append_assoc] at h ⊢
  exact (t.has _ h.swap).swap⟩
theorem Tr.now (t : Tr H C H1 C1) (h : Has H C) : Has H1 C1 := by
  have := t.has [] (by rw [List.append_nil]; exact h)
  rwa [List.append_nil] at this
theorem Tr.own (t : Tr H [] H1 C1) : Has H1 C1 := t.now .nil
theorem Tr.grow (t : Tr H C H1 C1) (g : Grow H1 H2) : Tr H C H2 C1 := t.trans (by simpa using g.right (D := C1))
theorem Tr.new (t : Tr H C H1 C1) (f : H1 p = none) (n : ¬ Imm o) : Tr H C (upd H1 p o) ((p, o) :: C1) := ⟨t.mono.trans (Mono.new f), fun R h => (t.has R h).new f n⟩
theorem Tr.old (t : Tr H C H1 C1) (f : H1 p = none) : Tr H C (upd H1 p o) C1 := ⟨t.mono.trans (Mono.new f), fun R h => (t.has R h).old f⟩
theorem Tr.put (t : Tr H C H1 ((p, o) :: C1)) (h : Has H C) (n : ¬ Imm o') : Tr H C (upd H1 p o') ((p, o') :: C1) := ⟨t.mono.trans (t.now h).mono_put, fun R h => (t.has R h).put n⟩
theorem Tr.fz {xs : List V} {ob : Obj} (t : Tr H C H1 ((p, .lst xs) :: C1)) (h : Has H C) : Tr H C (upd H1 p (.frz ob (.lst xs))) C1 :=
  ⟨t.mono.trans (t.now h).mono_put, fun R h => (t.has R h).tail.off (List.nodup_cons.mp (t.has R h).nd).1⟩
theorem Tr.perm (t : Tr H C H1 C1) (e : C1.Perm C2) : Tr H C H1 C2 := ⟨t.mono, fun R h => (t.has R h).perm (e.append_right R)⟩
theorem Tr.sub (t : Tr H C H1 C1) (e : C2.Sublist C1) : Tr H C H1 C2 := ⟨t.mono, fun R h => (t.has R h).sub (e.append_right R)⟩
theorem Tr.tail (t : Tr H C H1 ((p, o) :: C1)) : Tr H C H1 C1 := t.sub (List.sublist_cons_self _ _)
theorem Tr.swap2 {q r : Addr × HO} (t : Tr H C H1 (q :: r :: C1)) : Tr H C H1 (r :: q :: C1) := t.perm (List.Perm.swap _ _ _)
/-- a new list, frozen at once -/
theorem Tr.nfz {xs : List V} {ob : Obj} (t : Tr H C H1 C1) (f : H1 p = none) : Tr H C (upd (upd H1 p (.lst xs)) p (.frz ob (.lst xs))) C1 :=
  ⟨t.mono.trans ((Mono.new f).trans (Mono.put upd_same fun h => h)), fun R h => ((t.has R h).old f).off ((t.has R h).notin f)⟩
theorem Grow.mono' (g : Grow H H1) : Mono H H1 := g.mono
theorem Grow.has' (g : Grow H H1) (h : Has H R) : Has H1 R := g.has R h
theorem Grow.refl (H : Hp) : Grow H H := Tr.refl H []
theorem Grow.new (f : H p = none) : Grow H (upd H p o) := (Tr.refl H []).old f
/-- a new tuple goes to the end of an owned list -/
theorem snoc_tup {l t : Addr} {ys us : List V} {ds : List PyData} (h : Has H ((l, .lst ys) :: C)) (ht : H t = none) (r : RpL K H ds us) :
    Tr H ((l, .lst ys) :: C) (upd (upd H t (.tup us)) l (.lst (ys ++ [.ref t]))) ((l, .lst (ys ++ [.ref t])) :: C) ∧ Rp K (upd (upd H t (.tup us)) l (.lst (ys ++ [.ref t]))) (.tuple ds) (.ref t) := by
  have s1 := (Tr.refl H ((l, .lst ys) :: C)).old (o := .tup us) ht
  have s2 := s1.put (o' := .lst (ys ++ [.ref t])) h nl
  exact ⟨s2, .tup ((s1.now h).mono_put _ _ upd_same trivial) (r.mono s2.mono)⟩
theorem Dice.grow (d : Dice K H a R) (g : Grow H H1) : Dice K H1 a R := by
  obtain ⟨R0, h0, back⟩ := d.use
  exact back _ g.mono (g.has _ h0)
theorem Dice.tr (d : Dice K H a (C ++ R)) (t : Tr H C H1 C1) : Dice K H1 a (C1 ++ R) :=
  let ⟨c, ns, i, m, r, h1, h2, h3, h⟩ := d
  ⟨c, ns, i, m, r, h1, h2, h3.mono t.mono, by
    have := t.has ((a, .lst [.ref c, .int i, .int m, .int r]) :: R) h.swap1
    exact this.unswap1⟩
theorem Dice.tr0 (d : Dice K H a C) (t : Tr H C H1 C1) : Dice K H1 a C1 := by
  have := Dice.tr (R := []) (by rw [List.append_nil]; exact d) t
  rwa [List.append_nil] at this
end
end Cu

namespace Cu
open PySem PySem.Spec PyProof.Rows L2
/-! data that may be compared -/
def Gd (n : Nat) (d : PyData) : Prop := d.canLay0 = true ∧ d.depth ≤ n
theorem Gd.mono {n m : Nat} {d : PyData} (h : Gd n d) (e : n ≤ m) : Gd m d := ⟨h.1, Nat.le_trans h.2 e⟩
theorem Gd.int {n : Nat} {i : Int} : Gd n (.int i) := ⟨by simp [PyData.canLay0], by simp [PyData.depth]⟩
theorem Gd.none {n : Nat} : Gd n .none := ⟨by simp [PyData.canLay0], by simp [PyData.depth]⟩
theorem Gd.bool {n : Nat} {b : Bool} : Gd n (.bool b) := ⟨by simp [PyData.canLay0], by simp [PyData.depth]⟩
theorem Gd.str {n : Nat} {s : Str} (h : PyData.strOk s = true) : Gd n (.str s) := ⟨by simpa [PyData.canLay0] using h, by simp [PyData.depth]⟩
theorem canAll : ∀ {ds : List PyData}, (∀ d ∈ ds, d.canLay0 = true) → PyData.canLayAll0 ds = true
  | [], _ => by simp [PyData.canLayAll0]
  | d :: ds, h => by
    simp only [PyData.canLayAll0, Bool.and_eq_true]
    exact ⟨h d List.mem_cons_self, canAll fun e he => h e (List.mem_cons_of_mem _ he)⟩
theorem depthAll_le {n : Nat} : ∀ {ds : List PyData}, (∀ d ∈ ds, d.depth ≤ n) → PyData.depthAll ds ≤ n
  | [], _ => by simp [PyData.depthAll]
  | d :: ds, h => by
    simp only [PyData.depthAll]
    exact Nat.max_le.mpr ⟨h d List.mem_cons_self, depthAll_le fun e he => h e (List.mem_cons_of_mem _ he)⟩
theorem Gd.list {n : Nat} {ds : List PyData} (h : ∀ d ∈ ds, Gd n d) : Gd (n + 1) (.list ds) := by
  refine ⟨?_, ?_⟩
  · simp only [PyData.canLay0]
    exact canAll fun d hd => (h d hd).1
  · simp only [PyData.depth]
    have := depthAll_le fun d hd => (h d hd).2
    omega
theorem Gd.tuple {n : Nat} {ds : List PyData} (h : ∀ d ∈ ds, Gd n d) : Gd (n + 1) (.tuple ds) := by
  refine ⟨?_, ?_⟩
  · simp only [PyData.canLay0]
    exact canAll fun d hd => (h d hd).1
  · simp only [PyData.depth]
    have := depthAll_le fun d hd => (h d hd).2
    omega
theorem Gd.all_nil {n : Nat} : ∀ d ∈ ([] : List PyData), Gd n d := fun _ h => (nomatch h)
theorem Gd.all_cons {n : Nat} {d : PyData} {ds : List PyData} (h : Gd n d) (r : ∀ d ∈ ds, Gd n d) : ∀ e ∈ d :: ds, Gd n e := fun e he => by
  rcases List.mem_cons.mp he with rfl | he
  · exact h
  · exact r e he
theorem Gd.shaped {n : Nat} {d : PyData} (h : Gd n d) (e : n ≤ 64 := by decide) : SeqAt.shaped d = true := by
  unfold SeqAt.shaped
  rw [Bool.and_eq_true]
  exact ⟨h.1, decide_eq_true (Nat.le_trans h.2 e)⟩
theorem Gd.refl {n : Nat} {d : PyData} (h : Gd n d) : PyData.eqv d d = true := SeqAt.eqv_refl d h.1
theorem Gd.ilst {n : Nat} (ns : List Int) : Gd (n + 1) (ilst ns) := .list fun d hd => by
  obtain ⟨i, _, rfl⟩ := List.mem_map.mp hd
  exact .int
theorem wd_ok (b : Bool) : PyData.strOk (wd b) = true := by cases b <;> decide +kernel
theorem Gd.letter (l : Letter) : Gd 4 l.enc := by
  cases l with
  | change n c ahead => exact .tuple (.all_cons (.str (by decide +kernel)) (.all_cons .int (.all_cons .int (.all_cons (.str (wd_ok _)) (.all_cons .int (.all_cons .int .all_nil))))))
  | part n b rows =>
    refine .tuple (.all_cons (.str (by decide +kernel)) (.all_cons .int (.all_cons .int (.all_cons (.tuple fun d hd => ?_) .all_nil))))
    obtain ⟨r, _, rfl⟩ := List.mem_map.mp hd
    exact .tuple (.all_cons .int (.all_cons .int .all_nil))
  | beat n lasts =>
    refine .tuple (.all_cons (.str (by decide +kernel)) (.all_cons .int (.all_cons (.tuple fun d hd => ?_) .all_nil)))
    obtain ⟨r, _, rfl⟩ := List.mem_map.mp hd
    exact .int
theorem Gd.letters (ls : List Letter) : Gd 5 (.list (ls.map Letter.enc)) := .list fun d hd => by
  obtain ⟨l, _, rfl⟩ := List.mem_map.mp hd
  exact .letter l
theorem Gd.nil {n : Nat} : Gd (n + 1) (.list []) := .list .all_nil
theorem eqv_nil (ds : List PyData) : PyData.eqv (.list ds) (.list []) = ds.isEmpty := by
  cases ds <;> simp [PyData.eqv, PyData.eqvAll]
theorem eqv_ilst : ∀ {ns ms : List Int}, PyData.eqv (ilst ns) (ilst ms) = decide (ns = ms)
  | [], [] => by simp [ilst, PyData.eqv, PyData.eqvAll]
  | [], _ :: _ => by simp [ilst, PyData.eqv, PyData.eqvAll]
  | _ :: _, [] => by simp [ilst, PyData.eqv, PyData.eqvAll]
  | n :: ns, m :: ms => by
    have ih := eqv_ilst (ns := ns) (ms := ms)
    simp only [ilst, PyData.eqv] at ih
    simp only [ilst, List.map_cons, PyData.eqv, PyData.eqvAll, ih]
    by_cases h : n = m <;> simp [h]
theorem Dp.nil {K : PySem.W.Frag} {H : Hp} {a : Addr} (h : H a = some (.lst [])) : Dp K H (.ref a) (.list []) := .lst (SqL.of h) .nil
theorem cutV_to {xs : List V} {k : Nat} (h : k ≤ xs.length) : cutV xs none (some (k : Int)) = xs.take k := by
  unfold cutV
  rw [HT.sIx_none, HT.sIx_nat, Nat.min_eq_left h, List.drop_zero, Nat.sub_zero]
theorem cutV_from {xs : List V} {k : Nat} (h : k ≤ xs.length) : cutV xs (some (k : Int)) none = xs.drop k := by
  unfold cutV
  rw [HT.sIx_none, HT.sIx_nat, Nat.min_eq_left h, List.take_of_length_le (by simp)]
end Cu

namespace Cu
open PySem PySem.Spec PyProof.Rows L2
abbrev s_story : Stmt := (top 22)
theorem sc_story : FnScope ["_law_keys", "_law_changes_here", "_law_rows", "_law_letters_here", "_law_k", "_law_key", "_law_word", "_law_worth_here", "_law_worths", "_law_lasts", "_law_more"] ["_law_keys", "_law_changes_here"] (defScope s_story) := ⟨rfl, rfl, rfl, by decide +kernel, rfl, by decide +kernel, by decide +kernel⟩

def storyD (nk : Nat) (cs : List Ch) : PyData := .tuple [.list (rowsD nk cs), .list ((lets cs).map Letter.enc)]
def spStory (K : PySem.W.Frag) : Sp := fun vs H Q _ => vs.length = 2 ∧ ∃ (nk : Nat) (cs : List Ch) (v : V), vs = [.int nk, v] ∧ nk ≤ 8 ∧ cs.length ≤ 1000 ∧ (∀ c ∈ cs, c.key < nk) ∧ Rp K H (.list (cs.map Ch.enc)) v ∧
  ∀ (u : V) (H' : Hp), Grow H H' → Rp K H' (storyD nk cs) u → Q u H'
theorem rep0 (nk : Nat) : (List.replicate ((nk : Int).toNat) [V.int 0]).flatten = (List.replicate nk (0 : Int)).map V.int := by
  rw [Int.toNat_natCast, List.map_replicate]
  induction nk with
  | zero => rfl
  | succ n ih =>
    rw [List.replicate_succ, List.replicate_succ, List.flatten_cons, ih]
    rfl
/-- [0] * keys, from now on never changed -/
theorem rd_zeros {K : PySem.W.Frag} {σ : L2.St} {H : Hp} {Q : VK} {i nk : Nat} (h1 : σ[i]? = some (some (.int nk))) (hk : nk ≤ 8)
    (q : ∀ p H', Grow H H' → FzL K H' p ((List.replicate nk (0 : Int)).map V.int) → Q (.ref p) H') :
    tFz (tOp rRep (tLst (tCons (tC (.int 0)) tNil)) (tVar i)) σ H Q := by
  refine rd_fz ⟨(by show 1 ≤ sizeLine; decide), fun p1 hp1 => ⟨_, h1, p1, (nk : Int), _, rfl, rfl, upd_same, by omega, by omega, ?_, fun p2 hp2 => ⟨_, _, rfl, upd_same, fun o => ?_⟩⟩⟩
  · show 1 * (nk : Int).toNat ≤ sizeLine
    rw [Nat.one_mul, Int.toNat_natCast]
    exact Nat.le_trans hk (by decide)
  · rw [rep0]
    exact q _ _ ((Grow.new hp1).nfz hp2) FzL.frz
/-- xs[:k] + [z] + xs[k + 1:], from now on never changed -/
theorem rd_cut {K : PySem.W.Frag} {σ : L2.St} {H : Hp} {Q : VK} {i j : Nat} {te : TE} {a : Addr} {ns : List Int} {k : Nat} {z : Int} (h1 : σ[i]? = some (some (.ref a))) (h2 : σ[j]? = some (some (.int k))) (f : FzL K H a (ns.map V.int))
    (hk : k < ns.length) (hl : ns.length ≤ 1000) (he : ∀ (H1 : Hp) (Q1 : VK), Q1 (.int z) H1 → te σ H1 Q1) (q : ∀ p H', Grow H H' → FzL K H' p ((ns.set k z).map V.int) → Q (.ref p) H') :
    tFz (tOp rCat (tOp rCat (tSl (rSlL K) (tVar i) tNoPart (tPart (tVar j))) (tLst (tCons te tNil))) (tSl (rSlL K) (tVar i) (tPart (tOp (rI0 fun i j => .int (i + j)) (tVar j) (tC (.int 1)))) tNoPart)) σ H Q := by
  have hk' : k < (ns.map V.int).length := by rw [List.length_map]; exact hk
  have hl' : (ns.map V.int).length ≤ 1000 := by rw [List.length_map]; exact hl
  have z1 : 1000 ≤ sizeLine := by decide
  refine rd_fz ⟨_, h1, _, h2, _, rfl, a, _, rfl, f.sq, fun p1 hp1 => he _ _ ⟨(by show 1 ≤ sizeLine; decide), fun p2 hp2 => ?_⟩⟩
  have n12 : p1 ≠ p2 := ne_of_none upd_same hp2
  rw [cutV_to (Nat.le_of_lt hk')] at hp2 ⊢
  refine ⟨_, _, _, _, rfl, rfl, (by rw [upd_ne n12]; exact upd_same), upd_same, ?_, fun p3 hp3 => ?_⟩
  · rw [List.length_take, Nat.min_eq_left (Nat.le_of_lt hk')]
    exact Nat.le_trans (show k + 1 ≤ 1000 by omega) z1
  have g1 := (((Grow.refl H).old (o := .lst ((ns.map V.int).take k)) hp1).old (o := .lst [.int z]) hp2).old (o := .lst ((ns.map V.int).take k ++ [.int z])) hp3
  refine ⟨_, h1, _, h2, _, _, rfl, rfl, _, rfl, a, _, rfl, (f.mono g1.mono).sq, fun p4 hp4 => ?_⟩
  have e1 : ((k : Int) + 1) = ((k + 1 : Nat) : Int) := by omega
  rw [e1, cutV_from hk']
  have n34 : p3 ≠ p4 := ne_of_none upd_same hp4
  refine ⟨_, _, _, _, rfl, rfl, (by rw [upd_ne n34]; exact upd_same), upd_same, ?_, fun p5 hp5 => ⟨_, _, rfl, upd_same, fun o => ?_⟩⟩
  · rw [List.length_append, List.length_take, List.length_drop, Nat.min_eq_left (Nat.le_of_lt hk')]
    exact Nat.le_trans (show k + 1 + _ ≤ 1000 by omega) z1
  rw [set_cut _ _ _ hk', ← List.map_set]
  exact q _ _ ((g1.old hp4).nfz hp5) FzL.frz
section
variable {P : Program} {w : World} {K : PySem.W.Frag} {mg : Str → Option Value} {base : Heap}
theorem ok_story (F : Fd K mg "_law_story" s_story) (Bm : Blt mg) : Gf P w K mg base 1 "_law_story" ["_law_keys", "_law_changes_here"] (spStory K) := by
  refine F.ok sc_story (fun _ _ _ _ _ _ us hl => match us, hl with | [_, _], _ => rfl) len_of fun qual f cdv A outer s H vs Q E hr h => ?_
  obtain ⟨_, nk, cs, v, rfl, hk, hlen, hcs, hv, k⟩ := h
  obtain ⟨a, xc, rfl, fc, rc⟩ := hv.lst_inv
  have hxc : xc.length = cs.length := by rw [rc.length, List.length_map]
  refine ⟨_, (pss_cons (ps_set (i := 2) sc_story.nd rfl (Or.inl rfl) (pe_lst (pa_cons (pe_tup (pa_cons (pe_fz (pe_op op_rep (pe_lst (pa_cons pe_int pa_nil)) (pv 0))) (pa_cons (pe_fz (pe_op op_rep (pe_lst (pa_cons pe_int pa_nil)) (pv 0))) pa_nil))) pa_nil)))
      (pss_cons (ps_set (i := 3) sc_story.nd rfl (Or.inl rfl) (pe_lst pa_nil))
      (pss_cons (ps_for PassesOwn.never rfl (pi_range1 rfl Bm.range (pa_cons (pe_callB call_len_seq rfl Bm.len (by decide +kernel) (pa_cons (pv 1) pa_nil)) pa_nil)) (pg_name (i := 4) sc_story.nd rfl (Or.inl rfl))
        (pss_cons (ps_asg (pe_ix ix_list (pv 1) (pv 4) (fun _ _ => rfl)) (pg_tup rfl (pgs_cons (pg_name (i := 5) sc_story.nd rfl (Or.inl rfl)) (pgs_cons (pg_name (i := 6) sc_story.nd rfl (Or.inl rfl)) (pgs_cons (pg_name (i := 7) sc_story.nd rfl (Or.inl rfl)) pgs_nil)))))
        (pss_cons (ps_asg (pe_ix ix_list (pv 2) (pe_un un_neg pe_int) (fun _ _ => rfl)) (pg_tup rfl (pgs_cons (pg_name (i := 8) sc_story.nd rfl (Or.inl rfl)) (pgs_cons (pg_name (i := 9) sc_story.nd rfl (Or.inl rfl)) pgs_nil))))
        (pss_cons (ps_expr (pe_bm PySem.F.plainAttrs_list PySem.F.slot_list_append PySem.F.type_list_append mt_append (pv 3) (pa_cons (pe_tup (pa_cons pe_str (pa_cons (pe_op op_add (pv 4) pe_int) (pa_cons (pv 5) (pa_cons (pv 6) (pa_cons (pv 7) (pa_cons (pe_ix ix_list (pv 9) (pv 5) (fun _ _ => rfl)) pa_nil))))))) pa_nil)))
        (pss_cons (ps_set (i := 10) sc_story.nd rfl (Or.inl rfl) (pe_op op_add (pe_op op_mul (pe_ix ix_list (pv 8) (pv 5) (fun _ _ => rfl)) (pe_callTy call_int1 rfl Bm.int (by decide +kernel) (pa_cons (pe_cmpR op_eq (pv 6) pe_str (nomark _)) pa_nil))) (pv 7)))
        (pss_one (ps_expr (pe_bm PySem.F.plainAttrs_list PySem.F.slot_list_append PySem.F.type_list_append mt_append (pv 2) (pa_cons (pe_tup (pa_cons (pe_fz (pe_op op_cat (pe_op op_cat (pe_slice sl_list (pv 8) po_none (po_some (pv 5))) (pe_lst (pa_cons (pv 10) pa_nil))) (pe_slice sl_list (pv 8) (po_some (pe_op op_add (pv 5) pe_int)) po_none))) (pa_cons (pe_fz (pe_op op_cat (pe_op op_cat (pe_slice sl_list (pv 9) po_none (po_some (pv 5))) (pe_lst (pa_cons (pe_op op_add (pv 4) pe_int) pa_nil))) (pe_slice sl_list (pv 9) (po_some (pe_op op_add (pv 5) pe_int)) po_none))) pa_nil))) pa_nil)))))))))
      (pss_one (ps_ret (pe_tup (pa_cons (pe_fz (pv 2)) (pa_cons (pe_fz (pv 3)) pa_nil)))))))), ?_⟩
  refine rd_zeros (K := K) (by rfl) hk fun p1 H1 g1 f1 => ?_
  refine rd_zeros (K := K) (by rfl) hk fun p2 H2 g2 f2 => ?_
  refine ⟨(by show 2 ≤ sizeLine; decide), fun t ht => ⟨(by show 1 ≤ sizeLine; decide), fun r hr' => ⟨(by show 0 ≤ sizeLine; decide), fun l hl => ?_⟩⟩⟩
  have t1 : Tr H [] (upd (upd (upd H2 t (.tup [.ref p1, .ref p2])) r (.lst [.ref t])) l (.lst [])) [(l, .lst []), (r, .lst [.ref t])] := (((g1.trans g2).old ht).new hr' nl).new hl nl
  have mt : Mono H2 (upd (upd (upd H2 t (.tup [.ref p1, .ref p2])) r (.lst [.ref t])) l (.lst [])) := ((Mono.new ht).trans (Mono.new hr')).trans (Mono.new hl)
  refine ⟨_, rfl, a, xc, rfl, .inl (fc.mono t1.mono).sq, _, rfl, by omega, by omega, for_range (lo := 0) (n := (xc.length : Int).toNat) (fun i σ H3 => ∃ (xs ys : List V) (v4 v5 v6 v7 v8 v9 v10 : Option V),
    σ = [some (.int nk), some (.ref a), some (.ref r), some (.ref l), v4, v5, v6, v7, v8, v9, v10] ∧ Tr H [] H3 [(l, .lst ys), (r, .lst xs)] ∧ RpL K H3 (rowsD nk (cs.take i)) xs ∧ RpL K H3 ((lets (cs.take i)).map Letter.enc) ys)
    ⟨[.ref t], [], none, none, none, none, none, none, none, rfl, t1, ?_, ?_⟩ ?_ ?_⟩
  · refine .cons (.row (p := p1) (q := p2) (((Mono.new hr').trans (Mono.new hl)) _ _ upd_same trivial) ?_ ?_) .nil
    · show FzL K _ p1 ((wrow nk []).map V.int)
      rw [wrow_nil]
      exact f1.mono (g2.mono.trans mt)
    · show FzL K _ p2 ((lrow nk []).map V.int)
      rw [lrow_nil]
      exact f2.mono mt
  · exact .nil
  · rintro i σ H3 hi ⟨xs, ys, v4, v5, v6, v7, v8, v9, v10, rfl, t3, rx, ry⟩
    have hi' : i < cs.length := by omega
    obtain ⟨c, hc⟩ : ∃ c, cs[i]? = some c := ⟨cs[i], List.getElem?_eq_getElem hi'⟩
    have hck : c.key < nk := hcs c (List.mem_of_getElem? hc)
    obtain ⟨u, hu, ru⟩ := (rc.mono t3.mono).get (i := i) (d := c.enc) (by rw [List.getElem?_map, hc]; rfl)
    obtain ⟨ac, rfl, hac⟩ := ru.ch_inv
    obtain ⟨init, hinit⟩ := rowsD_last nk (cs.take i)
    rw [hinit] at rx
    obtain ⟨us, w1, rfl, rus, rw1⟩ := rx.snoc_inv
    obtain ⟨ar, pw, pl, rfl, har, fw, fl⟩ := rw1.row_inv
    have hh := t3.own
    have hitake : (cs.take i).length = i := by rw [List.length_take]; omega
    -- key, word, worth = changes[k]
    refine ⟨_, rfl, _, rfl, a, xc, _, _, rfl, rfl, (fc.mono t3.mono).sq, at_of (by omega) hu, ac, _, rfl, SqT.of hac, rfl, _, _, rfl, _, _, rfl, _, _, rfl, rfl, ?_⟩
    -- worths, lasts = rows[-1]
    refine ⟨_, rfl, _, rfl, r, _, _, _, rfl, rfl, SqL.of hh.tail.head, atI_last _ _, ar, _, rfl, SqT.of har, rfl, _, _, rfl, _, _, rfl, rfl, ?_⟩
    -- letters.append(..)
    have gl : (lrow nk (cs.take i))[c.key]? = some (lof (cs.take i) c.key : Int) := lrow_get hck
    have gw : (wrow nk (cs.take i))[c.key]? = some (wof (cs.take i) c.key) := wrow_get hck
    refine ⟨_, rfl, .inl ⟨rfl, _, SqL.of hh.head⟩, _, rfl, _, _, rfl, rfl, _, rfl, _, rfl, _, rfl, _, rfl, _, rfl, pl, _, _, _, rfl, rfl, fl.sq, at_of (j := c.key) rfl (by rw [List.getElem?_map, gl]; rfl), ⟨(by show 6 ≤ sizeLine; decide), fun tl htl => ?_⟩⟩
    have hy : ys.length = i := by rw [ry.length, List.length_map, lets_length, hitake]
    obtain ⟨s5, rtl⟩ := snoc_tup (K := K) (ds := [.str "change", .int (0 + i + 1), .int c.key, .str (wd c.set), .int c.worth, .int (lof (cs.take i) c.key)]) hh htl (.cons .str (.cons .int (.cons .int (.cons .str (.cons .int (.cons .int .nil))))))
    have e1 : ((0 : Int) + i + 1) = ((i + 1 : Nat) : Int) := by omega
    have ed : Letter.enc (.change (i + 1) c (lof (cs.take i) c.key)) = .tuple [.str "change", .int (0 + i + 1), .int c.key, .str (wd c.set), .int c.worth, .int (lof (cs.take i) c.key)] := by
      rw [e1]
      rfl
    rw [← ed] at rtl
    refine ⟨_, _, _, rfl, rfl, by rw [upd_ne (ne_of_none hh.head htl)]; exact hh.head, (by rw [hy]; exact small1000 (by omega)), ?_⟩
    have t5 := t3.trans s5
    have m5 := s5.mono
    -- more = worths[key] * int(word == 'add') + worth
    refine ⟨_, rfl, _, rfl, pw, _, _, _, rfl, rfl, (fw.mono m5).sq, at_of (j := c.key) rfl (by rw [List.getElem?_map, gw]; rfl), _, rfl, rfl, .inr ⟨_, rfl, _, _, rfl, rfl, .inr (by split <;> exact ⟨by decide, by decide⟩), _, rfl, _, _, rfl, rfl, ?_⟩⟩
    have emore : wof (cs.take i) c.key * (if decide (V.str (wd c.set) = V.str "add") = true then 1 else 0) + c.worth = wst c.key (wof (cs.take i) c.key) c := by
      unfold wst
      rw [if_pos rfl]
      cases c.set with
      | true =>
        rw [if_neg (by decide +kernel), if_pos rfl, Int.mul_zero]
      | false =>
        rw [if_pos (by decide +kernel), if_neg (by decide), Int.mul_one]
    -- rows.append(..)
    refine ⟨_, rfl, .inl ⟨rfl, _, SqL.of t5.own.tail.head⟩, ?_⟩
    refine rd_cut (z := wof (cs.take i) c.key * (if decide (V.str (wd c.set) = V.str "add") = true then 1 else 0) + c.worth) (by rfl) (by rfl) (fw.mono m5) (by rw [wrow_len]; exact hck) (by rw [wrow_len]; omega) (fun _ _ q => ⟨_, rfl, q⟩) fun p5 H5 g5 f5 => ?_
    rw [emore] at f5
    refine rd_cut (z := 0 + i + 1) (by rfl) (by rfl) (fl.mono (m5.trans g5.mono)) (by rw [lrow_len]; exact hck) (by rw [lrow_len]; omega) (fun _ _ q => ⟨_, rfl, _, _, rfl, rfl, q⟩) fun p6 H6 g6 f6 => ⟨(by show 2 ≤ sizeLine; decide), fun t7 ht7 => ?_⟩
    rw [e1] at f6
    have t6 := ((t5.grow g5).grow g6).swap2
    obtain ⟨s8, r8⟩ := snoc_tup (K := K) (ds := [ilst (wrow nk (cs.take i ++ [c])), ilst (lrow nk (cs.take i ++ [c]))]) (us := [.ref p5, .ref p6]) t6.own ht7 (.cons (.il (by rw [wrow_snoc]; exact f5.mono g6.mono)) (.cons (.il (by rw [lrow_snoc, hitake]; exact f6)) .nil))
    have hx : (us ++ [V.ref ar]).length = i + 1 := by
      have := (rus.snoc rw1).length
      rw [← hinit, rowsD_length, hitake] at this
      exact this
    refine ⟨_, _, _, rfl, rfl, by rw [upd_ne (ne_of_none t6.own.head ht7)]; exact t6.own.head, (by rw [hx]; exact small1000 (by omega)), ?_⟩
    have m8 := s8.mono
    refine ⟨us ++ [.ref ar] ++ [.ref t7], ys ++ [.ref tl], _, _, _, _, _, _, _, rfl, (t6.trans s8).swap2, ?_, ?_⟩
    · rw [take_snoc hc, rowsD_snoc, hinit]
      exact ((rus.snoc rw1).mono (((m5.trans g5.mono).trans g6.mono).trans m8)).snoc r8
    · rw [take_snoc hc, lets_snoc, hitake, List.map_append]
      exact ((ry.mono m5).snoc rtl).mono ((g5.mono.trans g6.mono).trans m8)
  · rintro σ H3 ⟨xs, ys, v4, v5, v6, v7, v8, v9, v10, rfl, t3, rx, ry⟩
    have e : cs.take ((xc.length : Int).toNat) = cs := List.take_of_length_le (by omega)
    rw [e] at rx ry
    have t3' := t3.swap2
    refine rd_fz ⟨_, rfl, _, _, rfl, t3'.own.head, fun o1 => ?_⟩
    have t4 := t3'.fz (ob := o1) .nil
    refine rd_fz ⟨_, rfl, _, _, rfl, t4.own.head, fun o2 => ?_⟩
    have t5 := t4.fz (ob := o2) .nil
    refine ⟨(by show 2 ≤ sizeLine; decide), fun t6 ht6 => ?_⟩
    refine k _ _ (t5.old ht6) (.tup upd_same (.cons (.lst ?_ (rx.mono ?_)) (.cons (.lst ?_ (ry.mono ?_)) .nil)))
    · exact (FzL.frz (xs := xs)).mono (t4.own.mono_put.trans (Mono.new ht6))
    · exact (t3'.own.mono_put.trans t4.own.mono_put).trans (Mono.new ht6)
    · exact (FzL.frz (xs := ys)).mono (Mono.new ht6)
    · exact (t3'.own.mono_put.trans t4.own.mono_put).trans (Mono.new ht6)
end
end Cu

namespace Cu
open PySem PySem.Spec PyProof.Rows L2
def partRows (cs : List Ch) (n b m : Nat) : List (Int × Nat) := (List.range m).map fun i => (wof (cs.take n) (b + i), lof (cs.take n) (b + i))
def partL (cs : List Ch) (n b e : Nat) : Letter := .part n b (partRows cs n b (e - b))
def beatL (nk : Nat) (cs : List Ch) (n : Nat) : Letter := .beat n ((List.range nk).map fun k => lof (cs.take n) k)
/-- a letter of a board of nk keys, with the story cs, as it was at some time -/
inductive IsLet (nk : Nat) (cs : List Ch) : Letter → Prop
  | change {n : Nat} {c : Ch} : cs[n]? = some c → IsLet nk cs (.change (n + 1) c (lof (cs.take n) c.key))
  | part {n b e : Nat} : n ≤ cs.length → b < e → e ≤ nk → IsLet nk cs (partL cs n b e)
  | beat {n : Nat} : n ≤ cs.length → IsLet nk cs (beatL nk cs n)
section
variable {K : PySem.W.Frag}
theorem Rp.str_of {H : Hp} {ls : List Letter} {v : V} (h : Rp K H (.list (ls.map Letter.enc)) v) : ∃ a xs, v = .ref a ∧ FzL K H a xs ∧ RpL K H (ls.map Letter.enc) xs ∧ xs.length = ls.length := by
  obtain ⟨a, xs, e, f, r⟩ := h.lst_inv
  exact ⟨a, xs, e, f, r, by rw [r.length, List.length_map]⟩
end
end Cu

namespace Cu
open PySem PySem.Spec PyProof.Rows L2
abbrev s_part : Stmt := (top 23)
theorem sc_part : FnScope ["_law_rows", "_law_number", "_law_begin", "_law_end", "_law_worths", "_law_lasts", "_law_key"] ["_law_rows", "_law_number", "_law_begin", "_law_end"] (defScope s_part) := ⟨rfl, rfl, rfl, by decide +kernel, rfl, by decide +kernel, by decide +kernel⟩

abbrev s_beat : Stmt := (top 24)
theorem sc_beat : FnScope ["_law_rows", "_law_number"] ["_law_rows", "_law_number"] (defScope s_beat) := ⟨rfl, rfl, rfl, by decide +kernel, rfl, by decide +kernel, by decide +kernel⟩

def spPart (K : PySem.W.Frag) : Sp := fun vs H Q _ => vs.length = 4 ∧ ∃ (nk n b e : Nat) (cs : List Ch) (v : V), vs = [v, .int n, .int b, .int e] ∧ nk ≤ 8 ∧ n ≤ cs.length ∧ b < e ∧ e ≤ nk ∧ Rp K H (.list (rowsD nk cs)) v ∧
  ∀ (u : V) (H' : Hp), Grow H H' → Rp K H' (partL cs n b e).enc u → Q u H'
def spBeat (K : PySem.W.Frag) : Sp := fun vs H Q _ => vs.length = 2 ∧ ∃ (nk n : Nat) (cs : List Ch) (v : V), vs = [v, .int n] ∧ nk ≤ 8 ∧ n ≤ cs.length ∧ Rp K H (.list (rowsD nk cs)) v ∧
  ∀ (u : V) (H' : Hp), Grow H H' → Rp K H' (beatL nk cs n).enc u → Q u H'
section
variable {P : Program} {w : World} {K : PySem.W.Frag} {mg : Str → Option Value} {base : Heap}
theorem ok_part (F : Fd K mg "_law_part" s_part) (Bm : Blt mg) : Gf P w K mg base 1 "_law_part" ["_law_rows", "_law_number", "_law_begin", "_law_end"] (spPart K) := by
  refine F.ok sc_part (fun _ _ _ _ _ _ us hl => match us, hl with | [_, _, _, _], _ => rfl) len_of fun qual f cdv A outer s H vs Q E hr h => ?_
  obtain ⟨_, nk, n, b, e, cs, v, rfl, hk, hn, hbe, hek, hv, k⟩ := h
  obtain ⟨a, xr, rfl, fr, rr⟩ := hv.lst_inv
  obtain ⟨u, hu, ru⟩ := rr.get (rowsD_get (nk := nk) hn)
  obtain ⟨ar, pw, pl, rfl, har, fw, fl⟩ := ru.row_inv
  refine ⟨_, (pss_cons (ps_asg (pe_ix ix_list (pv 0) (pv 1) (fun _ _ => rfl)) (pg_tup rfl (pgs_cons (pg_name (i := 4) sc_part.nd rfl (Or.inr rfl)) (pgs_cons (pg_name (i := 5) sc_part.nd rfl (Or.inr rfl)) pgs_nil))))
      (pss_one (ps_ret (pe_tup (pa_cons pe_str (pa_cons (pv 1) (pa_cons (pv 2) (pa_cons (pe_callTy call_tuple_of rfl Bm.tuple (by decide +kernel) (pa_cons (pe_lc (own := [("_law_key", 6)]) (g := (gName 6)) (tt := tYes) rfl sc_part.nd (pi_range2 rfl Bm.range (pa_cons (pv 2) (pa_cons (pv 3) pa_nil))) (blkOk_by (N := ["_law_rows", "_law_number", "_law_begin", "_law_end", "_law_worths", "_law_lasts", "_law_key"]) (sc := defScope s_part) (by decide +kernel)) (fun _ _ _ _ _ => (pg_name (i := 6) sc_part.nd rfl (Or.inl rfl))) (fun _ _ _ _ _ => pts_nil) (fun _ _ _ _ _ => (pe_tup (pa_cons (pe_ix (ix_listK K rfl) (pv 4) (pv 6) (fun _ _ => rfl)) (pa_cons (pe_ix (ix_listK K rfl) (pv 5) (pv 6) (fun _ _ => rfl)) pa_nil))))) pa_nil)) pa_nil)))))))), ?_⟩
  refine ⟨_, rfl, _, rfl, a, xr, _, _, rfl, rfl, fr.sq, at_of (j := n) rfl hu, ar, _, rfl, SqT.of har, rfl, _, _, rfl, _, _, rfl, rfl, ?_⟩
  refine ⟨_, rfl, _, rfl, _, rfl, _, rfl, _, _, rfl, ⟨by omega, by omega, by omega, by omega⟩, fun D hD => ?_⟩
  refine lc_range (lo := b) (n := ((e : Int) - b).toNat) (fun i H2 => ∃ xs, Tr H [] H2 [(D, .lst xs)] ∧ RpL K H2 ((partRows cs n b i).map fun r => .tuple [.int r.1, .int r.2]) xs)
    ⟨[], (Tr.refl H []).new hD nl, .nil⟩ ?_ ?_
  · rintro i H2 hi ⟨xs, t2, rx⟩
    have hbi : b + i < nk := by omega
    have e1 : ((b : Int) + i) = ((b + i : Nat) : Int) := by omega
    refine ⟨rfl, ?_⟩
    refine ⟨_, rfl, _, rfl, pw, _, _, _, rfl, rfl, (fw.mono t2.mono).sq, at_of (j := b + i) e1 (by rw [List.getElem?_map, wrow_get hbi]; rfl), _, rfl, _, rfl, pl, _, _, _, rfl, rfl, (fl.mono t2.mono).sq, at_of (j := b + i) e1 (by rw [List.getElem?_map, lrow_get hbi]; rfl), ⟨(by show 2 ≤ sizeLine; decide), fun t ht => ?_⟩⟩
    obtain ⟨s3, r3⟩ := snoc_tup (K := K) (ds := [.int (wof (cs.take n) (b + i)), .int (lof (cs.take n) (b + i))]) t2.own ht (.cons .int (.cons .int .nil))
    have hx : xs.length = i := by rw [rx.length, List.length_map, partRows, List.length_map, List.length_range]
    refine ⟨xs, by rw [upd_ne (ne_of_none t2.own.head ht)]; exact t2.own.head, by rw [hx]; exact small1000 (by omega), xs ++ [.ref t], t2.trans s3, ?_⟩
    unfold partRows
    rw [List.range_succ, List.map_append, List.map_append]
    exact (rx.mono s3.mono).snoc r3
  · rintro H2 ⟨xs, t2, rx⟩
    have e2 : ((e : Int) - b).toNat = e - b := by omega
    rw [e2] at rx
    refine ⟨D, xs, rfl, .inl ⟨SqL.of t2.own.head, fun l hl => ⟨(by show 4 ≤ sizeLine; decide), fun t ht => ?_⟩⟩⟩
    have g := ((t2.old (o := .tup xs) hl).old (o := .tup [.str "part", .int n, .int b, .ref l]) ht).tail
    refine k _ _ g (.tup upd_same (.cons .str (.cons .int (.cons .int (.cons (.tup ((Mono.new ht) _ _ upd_same trivial) (rx.mono ((Mono.new hl).trans (Mono.new ht)))) .nil)))))
theorem ok_beat (F : Fd K mg "_law_beat" s_beat) (Bm : Blt mg) : Gf P w K mg base 1 "_law_beat" ["_law_rows", "_law_number"] (spBeat K) := by
  refine F.ok sc_beat (fun _ _ _ _ _ _ us hl => match us, hl with | [_, _], _ => rfl) len_of fun qual f cdv A outer s H vs Q E hr h => ?_
  obtain ⟨_, nk, n, cs, v, rfl, hk, hn, hv, k⟩ := h
  obtain ⟨a, xr, rfl, fr, rr⟩ := hv.lst_inv
  obtain ⟨u, hu, ru⟩ := rr.get (rowsD_get (nk := nk) hn)
  obtain ⟨ar, pw, pl, rfl, har, fw, fl⟩ := ru.row_inv
  refine ⟨_, (pss_one (ps_ret (pe_tup (pa_cons pe_str (pa_cons (pv 1) (pa_cons (pe_callTy call_tuple_of rfl Bm.tuple (by decide +kernel) (pa_cons (pe_ix ix_tup (pe_ix ix_list (pv 0) (pv 1) (fun _ _ => rfl)) pe_int (fun _ _ => rfl)) pa_nil)) pa_nil)))))), ?_⟩
  refine ⟨_, rfl, _, rfl, _, rfl, a, xr, _, _, rfl, rfl, fr.sq, at_of (j := n) rfl hu, ar, _, _, _, rfl, rfl, SqT.of har, rfl, pl, _, rfl, .inl ⟨fl.sq, fun l hl => ⟨(by show 3 ≤ sizeLine; decide), fun t ht => ?_⟩⟩⟩
  refine k _ _ (((Grow.refl H).old hl).old ht) (.tup upd_same (.cons .str (.cons .int (.cons (.tup ((Mono.new ht) _ _ upd_same trivial) ?_) .nil))))
  have : ((List.range nk).map fun k => lof (cs.take n) k).map (fun k : Nat => PyData.int k) = (lrow nk (cs.take n)).map PyData.int := by
    rw [lrow, List.map_map, List.map_map]
    rfl
  rw [this]
  exact RpL.of_ints _
end
end Cu

namespace Cu
open PySem PySem.Spec PyProof.Rows L2
abbrev s_letters : Stmt := (top 25)
theorem sc_letters : FnScope ["_law_d", "_law_keys", "_law_most", "_law_changes_here", "_law_rows", "_law_letters_here", "_law_found", "_law_turn", "_law_kind", "_law_number", "_law_begin", "_law_key", "_law_word", "_law_worth_here"] ["_law_d", "_law_keys", "_law_most"] (defScope s_letters) := ⟨rfl, rfl, rfl, by decide +kernel, rfl, by decide +kernel, by decide +kernel⟩

def lettersD (nk : Nat) (cs : List Ch) (ls : List Letter) : PyData := .tuple [.list (rowsD nk cs), .list ((lets cs).map Letter.enc), .list (ls.map Letter.enc)]
def spLetters (K : PySem.W.Frag) : Sp := fun vs H Q _ => vs.length = 3 ∧ ∃ (a : Addr) (nk mo : Nat) (R : Lg), vs = [.ref a, .int nk, .int mo] ∧ 0 < nk ∧ nk ≤ 8 ∧ mo ≤ 900 ∧ Dice K H a R ∧
  ∀ (cs : List Ch) (ls : List Letter) (u : V) (H' : Hp), cs.length ≤ 30 → (∀ c ∈ cs, c.key < nk) → ls.length ≤ mo → (∀ l ∈ ls, IsLet nk cs l) → (∀ c ∈ cs, -500 ≤ c.worth ∧ c.worth < 500) → Mono H H' → Dice K H' a R → Rp K H' (lettersD nk cs ls) u → Q u H'
section
variable {P : Program} {w : World} {K : PySem.W.Frag} {mg : Str → Option Value} {base : Heap}
theorem ok_letters (F : Fd K mg "_law_letters" s_letters) (Bm : Blt mg) (g_next : Gf P w K mg base 1 "_law_next" ["_law_dice_here", "_law_many"] (spNext K)) (g_changes : Gf P w K mg base 3 "_law_changes" ["_law_d", "_law_keys", "_law_most"] (spChanges K))
    (g_story : Gf P w K mg base 1 "_law_story" ["_law_keys", "_law_changes_here"] (spStory K)) (g_part : Gf P w K mg base 1 "_law_part" ["_law_rows", "_law_number", "_law_begin", "_law_end"] (spPart K)) (g_beat : Gf P w K mg base 1 "_law_beat" ["_law_rows", "_law_number"] (spBeat K)) :
    Gf P w K mg base 4 "_law_letters" ["_law_d", "_law_keys", "_law_most"] (spLetters K) := by
  refine F.ok sc_letters (fun _ _ _ _ _ _ us hl => match us, hl with | [_, _, _], _ => rfl) len_of fun qual f cdv A outer s H vs Q E hr h => ?_
  obtain ⟨_, a, nk, mo, R, rfl, hk, hk8, hmo, d, k⟩ := h
  refine ⟨_, (pss_cons (ps_setLc (i := 3) (own := [("_law_key", 11), ("_law_word", 12), ("_law_worth_here", 13)]) (g := (gTup K 3 (gCons (gName 11) (gCons (gName 12) (gCons (gName 13) gNil))))) (tt := tYes) rfl sc_letters.nd rfl rfl (sw_true rfl rfl rfl (by decide +kernel)) (pi_list (pc g_changes hr (pa_cons (pv 0) (pa_cons (pv 1) (pa_cons pe_int pa_nil))))) (blkOk_by (N := ["_law_d", "_law_keys", "_law_most", "_law_changes_here", "_law_rows", "_law_letters_here", "_law_found", "_law_turn", "_law_kind", "_law_number", "_law_begin", "_law_key", "_law_word", "_law_worth_here"]) (sc := defScope s_letters) (by decide +kernel)) (fun _ _ _ _ _ => (pg_tup rfl (pgs_cons (pg_name (i := 11) sc_letters.nd rfl (Or.inl rfl)) (pgs_cons (pg_name (i := 12) sc_letters.nd rfl (Or.inl rfl)) (pgs_cons (pg_name (i := 13) sc_letters.nd rfl (Or.inl rfl)) pgs_nil))))) (fun _ _ _ _ _ => pts_nil) (fun _ _ _ _ _ => (pe_tup (pa_cons (pv 11) (pa_cons (pv 12) (pa_cons (pe_op op_sub (pe_op op_mod (pv 13) pe_int) pe_int) pa_nil))))))
      (pss_cons (ps_asg (pc g_story hr (pa_cons (pv 1) (pa_cons (pe_fz (pv 3)) pa_nil))) (pg_tup rfl (pgs_cons (pg_name (i := 4) sc_letters.nd rfl (Or.inl rfl)) (pgs_cons (pg_name (i := 5) sc_letters.nd rfl (Or.inl rfl)) pgs_nil))))
      (pss_cons (ps_set (i := 6) sc_letters.nd rfl (Or.inl rfl) (pe_lst pa_nil))
      (pss_cons (ps_for PassesOwn.never rfl (pi_range1 rfl Bm.range (pa_cons (pc g_next hr (pa_cons (pv 0) (pa_cons (pe_op op_add (pv 2) pe_int) pa_nil))) pa_nil)) (pg_name (i := 7) sc_letters.nd rfl (Or.inl rfl))
        (pss_cons (ps_par (i := 8) (j := 9) rfl sc_letters.nd rfl rfl (by decide) rfl rfl (pa_cons (pc g_next hr (pa_cons (pv 0) (pa_cons pe_int pa_nil))) (pa_cons (pc g_next hr (pa_cons (pv 0) (pa_cons (pe_callB call_len_seq rfl Bm.len (by decide +kernel) (pa_cons (pv 4) pa_nil)) pa_nil))) pa_nil)) rfl)
        (pss_one (ps_if (pt_cmpR op_eq (pv 8) pe_int (nomark _))
          (pss_cons (ps_set (i := 10) sc_letters.nd rfl (Or.inl rfl) (pc g_next hr (pa_cons (pv 0) (pa_cons (pv 1) pa_nil))))
          (pss_one (ps_expr (pe_bm PySem.F.plainAttrs_list PySem.F.slot_list_append PySem.F.type_list_append mt_append (pv 6) (pa_cons (pc g_part hr (pa_cons (pv 4) (pa_cons (pv 9) (pa_cons (pv 10) (pa_cons (pe_op op_add (pe_op op_add (pv 10) pe_int) (pc g_next hr (pa_cons (pv 0) (pa_cons (pe_op op_sub (pv 1) (pv 10)) pa_nil)))) pa_nil))))) pa_nil)))))
          (pss_one (ps_if (pt_cmpR op_eq (pv 8) pe_int (nomark _))
            (pss_one (ps_expr (pe_bm PySem.F.plainAttrs_list PySem.F.slot_list_append PySem.F.type_list_append mt_append (pv 6) (pa_cons (pc g_beat hr (pa_cons (pv 4) (pa_cons (pv 9) pa_nil))) pa_nil))))
            (pss_one (ps_if (pt_cmpR (op_neD hr.units) (pv 5) (pe_lst pa_nil) (nomark _))
              (pss_one (ps_expr (pe_bm PySem.F.plainAttrs_list PySem.F.slot_list_append PySem.F.type_list_append mt_append (pv 6) (pa_cons (pe_ix ix_list (pv 5) (pc g_next hr (pa_cons (pv 0) (pa_cons (pe_callB call_len_seq rfl Bm.len (by decide +kernel) (pa_cons (pv 5) pa_nil)) pa_nil))) (fun _ _ => rfl)) pa_nil))))
              pss_nil))))))))
      (pss_one (ps_ret (pe_tup (pa_cons (pv 4) (pa_cons (pv 5) (pa_cons (pe_fz (pv 6)) pa_nil)))))))))), ?_⟩
  -- changes_here
  refine ⟨_, rfl, _, rfl, rfl, a, nk, 30, R, rfl, hk, hk8, by decide, d, fun cs0 v0 H0 hc0 hk0 m0 d0 r0 => ?_⟩
  obtain ⟨p0, xs0, rfl, f0, r0⟩ := r0.lst_inv
  have hx0 : xs0.length = cs0.length := by rw [r0.length, List.length_map]
  refine ⟨p0, rfl, ⟨_, f0.sq⟩, fun D hD => ?_⟩
  refine lc_list (K := K) (a := p0) (xs := xs0) (fun i H2 => ∃ xs, Mono H0 H2 ∧ Dice K H2 a ((D, .lst xs) :: R) ∧ RpL K H2 (((cs0.map fun c => { c with worth := c.worth % 1000 - 500 }).take i).map Ch.enc) xs)
    ⟨[], Mono.new hD, d0.new hD nl, .nil⟩ (fun i H2 _ ⟨_, m2, _⟩ => (f0.mono m2).sq) ?_ ?_
  · rintro i x H2 hi ⟨xs, m2, d2, rx⟩
    have hi' : i < cs0.length := by
      have := (List.getElem?_eq_some_iff.mp hi).1
      omega
    obtain ⟨c, hc⟩ : ∃ c, cs0[i]? = some c := ⟨cs0[i], List.getElem?_eq_getElem hi'⟩
    obtain ⟨u, hu, ru⟩ := (r0.mono m2).get (i := i) (d := c.enc) (by rw [List.getElem?_map, hc]; rfl)
    rw [hi] at hu
    cases hu
    obtain ⟨ac, rfl, hac⟩ := ru.ch_inv
    refine ⟨ac, _, rfl, SqT.of hac, rfl, _, _, rfl, _, _, rfl, _, _, rfl, rfl, rfl, ?_⟩
    refine ⟨_, rfl, _, rfl, _, rfl, _, _, rfl, rfl, (by show (0 : Int) < 1000; decide), _, _, rfl, rfl, ⟨(by show 3 ≤ sizeLine; decide), fun t ht => ?_⟩⟩
    have hx : xs.length = i := by rw [rx.length, List.length_map, List.length_take, List.length_map]; omega
    obtain ⟨s3, r3⟩ := snoc_tup (K := K) (ds := [.int c.key, .str (wd c.set), .int (c.worth % 1000 - 500)]) d2.has ht (.cons .int (.cons .str (.cons .int .nil)))
    refine ⟨xs, by rw [upd_ne (ne_of_none d2.at_ ht)]; exact d2.at_, by rw [hx]; exact small1000 (by omega), xs ++ [.ref t], m2.trans s3.mono, d2.tr0 s3, ?_⟩
    rw [take_snoc (x := { c with worth := c.worth % 1000 - 500 }) (by rw [List.getElem?_map, hc]; rfl), List.map_append]
    exact (rx.mono s3.mono).snoc r3
  · rintro H2 ⟨xs, m2, d2, rx⟩
    rw [List.take_of_length_le (by rw [List.length_map]; omega)] at rx
    generalize hcs : (cs0.map fun c => { c with worth := c.worth % 1000 - 500 }) = cs at rx
    have hlen : cs.length ≤ 30 := by rw [← hcs, List.length_map]; exact hc0
    have hck : ∀ c ∈ cs, c.key < nk := fun c hc => by
      rw [← hcs] at hc
      obtain ⟨c', h1, rfl⟩ := List.mem_map.mp hc
      exact hk0 c' h1
    have hcw : ∀ c ∈ cs, -500 ≤ c.worth ∧ c.worth < 500 := fun c hc => by
      rw [← hcs] at hc
      obtain ⟨c', h1, rfl⟩ := List.mem_map.mp hc
      have h1 := Int.emod_nonneg c'.worth (show (1000 : Int) ≠ 0 by decide)
      have h2 := Int.emod_lt_of_pos c'.worth (show (0 : Int) < 1000 by decide)
      exact ⟨by show -500 ≤ c'.worth % 1000 - 500; omega, by show c'.worth % 1000 - 500 < 500; omega⟩
    -- rows, letters_here = story(keys, changes_here)
    refine ⟨_, rfl, ?_⟩
    refine rd_fz ⟨_, rfl, _, _, rfl, d2.at_, fun o => ?_⟩
    refine ⟨rfl, nk, cs, _, rfl, hk8, by omega, hck, .lst FzL.frz (rx.mono d2.mfz), fun u H3 g3 r3 => ?_⟩
    have d3 := d2.fz (ob := o) |>.grow g3
    have m3 := ((m0.trans m2).trans (d2.mfz (ob := o))).trans g3.mono
    obtain ⟨as, us, rfl, has, rus⟩ := r3.tup_inv
    obtain ⟨vr, us, rfl, rvr, rus⟩ := rus.cons_inv
    obtain ⟨vl, us, rfl, rvl, rus⟩ := rus.cons_inv
    have := rus.nil_inv
    subst this
    obtain ⟨ar, xr, rfl, far, rxr⟩ := rvr.lst_inv
    have hxr : xr.length = cs.length + 1 := by rw [rxr.length, rowsD_length]
    obtain ⟨al, xl, rfl, fal, rxl, hxl⟩ := rvl.str_of
    rw [lets_length] at hxl
    refine ⟨as, _, rfl, SqT.of has, rfl, _, _, rfl, _, _, rfl, rfl, ?_⟩
    -- found = []
    refine ⟨(by show 0 ≤ sizeLine; decide), fun p hp => ?_⟩
    have d4 := d3.new (o := .lst []) hp nl
    refine ⟨_, rfl, _, rfl, _, _, rfl, rfl, rfl, a, mo + 1, _, rfl, by omega, by omega, d4, fun r4 H4 p4 q4 m4 d5 => ⟨_, rfl, by omega, by omega, ?_⟩⟩
    have m5 := (Mono.new (o := .lst []) hp).trans m4
    refine for_range (lo := 0) (n := r4.toNat) (fun i σ H5 => ∃ (ls : List Letter) (ys : List V) (v7 v8 v9 v10 : Option V), σ = [some (.ref a), some (.int nk), some (.int mo), some (.ref D), some (.ref ar), some (.ref al), some (.ref p), v7, v8, v9, v10, none, none, none] ∧
      Mono H3 H5 ∧ Dice K H5 a ((p, .lst ys) :: R) ∧ RpL K H5 (ls.map Letter.enc) ys ∧ ls.length ≤ i ∧ ∀ l ∈ ls, IsLet nk cs l)
      ⟨[], [], none, none, none, none, rfl, m5, d5, .nil, Nat.le_refl _, fun _ h => (nomatch h)⟩ ?_ ?_
    · rintro i σ H5 hi ⟨ls, ys, v7, v8, v9, v10, rfl, m6, d6, ry, hl, hls⟩
      have hy : ys.length ≤ i := by rw [ry.length, List.length_map]; exact hl
      have hy' : ys.length < sizeLine := small1000 (by omega)
      -- kind, number = ..
      refine ⟨_, rfl, rfl, a, 5, _, rfl, by decide, by decide, d6, fun r7 H7 p7 q7 m7 d7 => ?_⟩
      refine ⟨_, rfl, _, rfl, ar, _, rfl, .inl (far.mono (m6.trans m7)).sq, rfl, a, _, _, rfl, by omega, by omega, d7, fun r8 H8 p8 q8 m8 d8 => ⟨_, _, rfl, ?_⟩⟩
      obtain ⟨n8, rfl⟩ : ∃ n : Nat, r8 = n := ⟨r8.toNat, by omega⟩
      have hn8 : n8 ≤ cs.length := by omega
      have m9 := m7.trans m8
      -- a letter is appended
      have go : ∀ (l : Letter) (v : V) (H9 : Hp) (v7 v8 v9 v10 : Option V), IsLet nk cs l → Mono H8 H9 → Dice K H9 a ((p, .lst ys) :: R) → Rp K H9 l.enc v →
          ∃ (ls : List Letter) (ys' : List V) (v7' v8' v9' v10' : Option V), ([some (V.ref a), some (.int nk), some (.int mo), some (.ref D), some (.ref ar), some (.ref al), some (.ref p), v7, v8, v9, v10, none, none, none] : L2.St) = [some (.ref a), some (.int nk), some (.int mo), some (.ref D), some (.ref ar), some (.ref al), some (.ref p), v7', v8', v9', v10', none, none, none] ∧
          Mono H3 (upd H9 p (.lst (ys ++ [v]))) ∧ Dice K (upd H9 p (.lst (ys ++ [v]))) a ((p, .lst ys') :: R) ∧ RpL K (upd H9 p (.lst (ys ++ [v]))) (ls.map Letter.enc) ys' ∧ ls.length ≤ i + 1 ∧ ∀ l ∈ ls, IsLet nk cs l := by
        intro l v H9 v7 v8 v9 v10 hl1 m9' d9 r9
        refine ⟨ls ++ [l], ys ++ [v], v7, v8, v9, v10, rfl, ((m6.trans m9).trans m9').trans d9.mput, d9.put nl, ?_, by rw [List.length_append]; simpa using hl, fun l' hl' => ?_⟩
        · rw [List.map_append]
          exact ((ry.mono (m9.trans m9')).snoc r9).mono d9.mput
        · rcases List.mem_append.mp hl' with h | h
          · exact hls l' h
          · rw [List.mem_singleton.mp h]
            exact hl1
      refine ⟨_, rfl, rfl, _, rfl, ite2 (fun h0 => ?_) fun h0 => ?_⟩
      · -- begin = ..; found.append(part(..))
        refine ⟨_, rfl, _, rfl, rfl, a, nk, _, rfl, by omega, by omega, d8, fun r10 H10 p10 q10 m10 d10 => ?_⟩
        obtain ⟨n10, rfl⟩ : ∃ n : Nat, r10 = n := ⟨r10.toNat, by omega⟩
        refine ⟨_, rfl, .inl ⟨rfl, _, SqL.of d10.at_⟩, _, rfl, _, rfl, _, rfl, _, rfl, _, _, rfl, rfl, _, rfl, _, rfl, _, rfl, _, _, rfl, rfl, rfl, a, (nk : Int) - n10, _, rfl, by omega, by omega, d10, fun r11 H11 p11 q11 m11 d11 => ⟨_, _, rfl, rfl, ?_⟩⟩
        obtain ⟨n11, rfl⟩ : ∃ n : Nat, r11 = n := ⟨r11.toNat, by omega⟩
        refine ⟨rfl, nk, n8, n10, n10 + 1 + n11, cs, .ref ar, rfl, hk8, hn8, by omega, by omega, .lst (far.mono (((m6.trans m9).trans m10).trans m11)) (rxr.mono (((m6.trans m9).trans m10).trans m11)), fun u H12 g12 r12 => ?_⟩
        have d12 := d11.grow g12
        exact ⟨_, _, _, rfl, rfl, d12.at_, hy', go _ u H12 _ _ _ _ (.part hn8 (by omega) (by omega)) ((m10.trans m11).trans g12.mono) d12 r12⟩
      · refine ⟨_, rfl, rfl, _, rfl, ite2 (fun h1 => ?_) fun h1 => ?_⟩
        · refine ⟨_, rfl, .inl ⟨rfl, _, SqL.of d8.at_⟩, _, rfl, _, rfl, rfl, nk, n8, cs, .ref ar, rfl, hk8, hn8, .lst (far.mono (m6.trans m9)) (rxr.mono (m6.trans m9)), fun u H12 g12 r12 => ?_⟩
          have d12 := d8.grow g12
          exact ⟨_, _, _, rfl, rfl, d12.at_, hy', go _ u H12 _ _ _ _ (.beat hn8) g12.mono d12 r12⟩
        · refine ⟨_, rfl, (by show 0 ≤ sizeLine; decide), fun l hl0 => ?_⟩
          have d9 := d8.old (o := .lst []) hl0
          have m9' := (m6.trans m9).trans (Mono.new (o := .lst []) hl0)
          refine ⟨_, _, .lst (fal.mono m9').sq (RpL.dp (rxl.mono m9')), Dp.nil upd_same, (Gd.letters _).shaped, (Gd.nil (n := 0)).shaped, _, rfl, ite2 (fun h2 => ?_) fun h2 => ?_⟩
          · have hne : 0 < cs.length := by
              rw [eqv_nil] at h2
              rcases Nat.eq_zero_or_pos cs.length with e | e
              · rw [List.eq_nil_of_length_eq_zero e] at h2
                cases h2
              · exact e
            refine ⟨_, rfl, .inl ⟨rfl, _, SqL.of d9.at_⟩, _, rfl, _, rfl, _, rfl, al, _, rfl, .inl (fal.mono m9').sq, rfl, a, _, _, rfl, by omega, by omega, d9, fun r13 H13 p13 q13 m13 d13 => ?_⟩
            obtain ⟨n13, rfl⟩ : ∃ n : Nat, r13 = n := ⟨r13.toNat, by omega⟩
            have hn13 : n13 < cs.length := by omega
            obtain ⟨c, hc⟩ : ∃ c, cs[n13]? = some c := ⟨cs[n13], List.getElem?_eq_getElem hn13⟩
            obtain ⟨v, hv, rv⟩ := (rxl.mono (m9'.trans m13)).get (i := n13) (d := Letter.enc _) (by rw [List.getElem?_map, lets_get hc]; rfl)
            exact ⟨al, _, _, _, rfl, rfl, (fal.mono (m9'.trans m13)).sq, at_of (j := n13) rfl hv, _, _, _, rfl, rfl, d13.at_, hy', go _ v H13 _ _ _ _ (.change hc) ((Mono.new hl0).trans m13) d13 rv⟩
          · exact ⟨ls, ys, _, _, _, _, rfl, m9', d9, ry.mono (m9.trans (Mono.new hl0)), by omega, hls⟩
    · rintro σ H5 ⟨ls, ys, v7, v8, v9, v10, rfl, m6, d6, ry, hl, hls⟩
      refine ⟨_, rfl, _, rfl, ?_⟩
      refine rd_fz ⟨_, rfl, _, _, rfl, d6.at_, fun o => ?_⟩
      refine ⟨(by show 3 ≤ sizeLine; decide), fun t ht => ?_⟩
      have d7 := (d6.fz (ob := o)).old (o := .tup [.ref ar, .ref al, .ref p]) ht
      have m7 := (d6.mfz (ob := o)).trans (Mono.new (o := .tup [.ref ar, .ref al, .ref p]) ht)
      have m8 := m6.trans m7
      exact k cs ls _ _ hlen hck (by omega) hls hcw (m3.trans m8) d7 (.tup upd_same (.cons (.lst (far.mono m8) (rxr.mono m8)) (.cons (.lst (fal.mono m8) (rxl.mono m8)) (.cons (.lst (FzL.frz.mono (Mono.new ht)) (ry.mono m7)) .nil))))
end
end Cu

namespace Cu
open PySem PySem.Spec PyProof.Rows L2
/-! enumerate over a tuple -/
theorem newE (t : Addr) (ys : Array Value) :
    Meets (Builtin.«enumerate.__new__» ⟨[.type "enumerate", .ref t], []⟩) (fun _ R z => z.heap.IsTuple t ys ∧
      R (.ok (.ret (.ref (z.heap.push { cls := .type "tuple_iterator", data := .fields #[.ref t, .int 0 0] }).objs.size)))
        { z with heap := (z.heap.push { cls := .type "tuple_iterator", data := .fields #[.ref t, .int 0 0] }).push { cls := .type "enumerate", data := .fields #[.none, .bool false, .ref z.heap.objs.size, rawInt 0, .none, .none] } }) :=
  .of_wp fun P w A R z hz => by
    obtain ⟨h0, g0, d0, k0, os0⟩ := z
    obtain ⟨ht, hR⟩ := hz
    have hsub := sub_enumerate
    have q1 : ∀ {A' : Around} {E : Value → Shared → Prop} {Q : Value → Shared → Prop}, Q (.ref h0.objs.size) ⟨h0.push { cls := .type "tuple_iterator", data := .fields #[.ref t, .int 0 0] }, g0, d0, k0, os0⟩ →
        wpAny (model P w) A' (pyIter (.ref t)) Q E ⟨h0, g0, d0, k0, os0⟩ := fun q => wpAny_pyIter_tuple ht q
    wp_walk using q1
    refine wpAny_stack_any fun stk => wpAny_pure ?_
    split
    · rename_i c _ _ _ _ _
      cases (c == Value.type "enumerate") <;> (wp_walk using q1; exact ⟨_, rfl, hR⟩)
    · wp_walk using q1
      exact ⟨_, rfl, hR⟩
section
variable {P : Program} {w : World} {A : Around} {E : Value → Shared → Prop} {s : Shared}
theorem callE {t : Addr} {ys : Array Value} {Q : Value → Shared → Prop} (ht : s.heap.IsTuple t ys)
    (q : ∀ h2, IsEnum h2 (s.heap.objs.size + 1) s.heap.objs.size 0 .none → h2.IsTupleIter s.heap.objs.size t 0 → h2.objs.size = s.heap.objs.size + 2 →
      (∀ b o, s.heap.get? b = some o → h2.get? b = some o) → Q (.ref (s.heap.objs.size + 1)) { s with heap := h2 }) :
    wpAny (model P w) A (call (.type "enumerate") [.ref t]) Q E s := by
  refine callType_new F.called_enumerate (by decide) (F.typeCall_enumerate_1 _) (F.newCall_enumerate_1 _) (fun o => F.args_object_init_2 o _) F.entry_enumerate_new (newE t ys) ⟨ht, ?_⟩
  have z1 : (s.heap.push { cls := .type "tuple_iterator", data := .fields #[.ref t, .int 0 0] }).objs.size = s.heap.objs.size + 1 := Heap.size_push ..
  show _ ∧ _
  rw [z1]
  have e1 : IsEnum ((s.heap.push { cls := .type "tuple_iterator", data := .fields #[.ref t, .int 0 0] }).push
      { cls := .type "enumerate", data := .fields #[.none, .bool false, .ref s.heap.objs.size, rawInt 0, .none, .none] }) (s.heap.objs.size + 1) s.heap.objs.size 0 .none := by
    have := Heap.get?_push_size (s.heap.push { cls := .type "tuple_iterator", data := .fields #[.ref t, .int 0 0] })
      (o := { cls := .type "enumerate", data := .fields #[.none, .bool false, .ref s.heap.objs.size, rawInt 0, .none, .none] }) rfl
    rw [z1] at this
    exact this
  exact ⟨⟨_, e1, rfl⟩, q _ e1 ⟨_, Heap.get?_push_of_some _ (Heap.get?_push_size _ rfl), rfl, rfl⟩ (by rw [Heap.size_push, z1]) fun b o x => Heap.get?_push_of_some _ (Heap.get?_push_of_some _ x)⟩
end
/-- the tuple at a, its items in new pairs with their places -/
def Iet (K : PySem.W.Frag) (a : Addr) : It :=
  ⟨fun i H => ∃ (ys : List V) (y : V), SqT K H a ys ∧ ys[i]? = some y,
   fun i H v H2 => ∃ p y, v = .ref p ∧ H p = none ∧ H2 = upd H p (.tup [.int (i : Nat), y]) ∧ ∀ ys, SqT K H a ys → ys[i]? = some y,
   fun i H => ∃ ys : List V, SqT K H a ys ∧ ys.length = i⟩
theorem turnE {P : Program} {w : World} {K : PySem.W.Frag} {elts : List Expr} {kk : Nat} {tp : Pos} (a e it : Addr) :
    Turn P w K (.Tuple elts kk tp) (Iet K a) [e, it] e (fun i h => (∃ old, IsEnum h e it ((i : Nat) : Int) old) ∧ h.IsTupleIter it a i ∧ e ≠ it ∧ a ≠ e ∧ a ≠ it) where
  mem := by simp
  obj := fun i h st b hb => by
    obtain ⟨⟨old, he⟩, ⟨o, ho, hc, hd⟩, _⟩ := st
    rcases (show b = e ∨ b = it by simpa using hb) with z | z
    · rw [z]
      exact ⟨_, he, fun v q => nomatch q⟩
    · rw [z]
      exact ⟨o, ho, fun v q => by rw [hd] at q; cases q⟩
  keep := fun i h h2 st kp => by
    obtain ⟨⟨old, he⟩, hi, hne⟩ := st
    exact ⟨⟨old, kp e (by simp) _ he⟩, hi.at fun o q => kp it (by simp) o q, hne⟩
  item := by
    intro X hP hw hK hc i pins s σ H E I hf st hg
    subst hP hw hK
    obtain ⟨⟨old, he⟩, hit, hne, hae, hai⟩ := st
    obtain ⟨ys, y, hq, hy⟩ := hg
    obtain ⟨its, rv, p, hz⟩ := I.tuple hq
    obtain ⟨u, hu, ru⟩ := rv.get hy
    have hel : e < s.heap.objs.size := Heap.lt_size he
    have hil : it < s.heap.objs.size := by
      obtain ⟨_, q, _⟩ := hit
      exact Heap.lt_size q
    have hlt : i < its.toArray.size := by
      have := (List.getElem?_eq_some_iff.mp hu).1
      simpa using this
    have pT : s.heap.IsTuple a its.toArray := let ⟨o, ho, hc, n, hd⟩ := p; ⟨o, ho, hc, n, hd⟩
    refine wpAny_pyNext_enum_itemD (Draws.tuple (prog := X.prog) (w := X.w) (A := X.A.in1) (I.ok.hd hc) it a hai its.toArray) he ⟨hit, pT⟩ hlt hne (by simp [hne, Ne.symm hae]) fun x h2 tk hx ho hit2 hT hsz hk => ?_
    have hxu : x = u := by
      have q : its.toArray[i]? = some x := hx
      rw [List.getElem?_toArray, hu] at q
      exact (Option.some.inj q).symm
    subst hxu
    refine ⟨_, rfl, wpAny_letOwnedTupleGo_enum (s := { s with heap := h2, toks := tk + 1 }) ho fun h3 he3 sb => ?_⟩
    have hT3 : h3.get? s.heap.objs.size = some { cls := .type "tuple", data := .seq #[.int i tk, x] } := (sb.2 _ (Nat.ne_of_gt hel)).trans hT
    have new : ObjOk X.prog X.w (upd H s.heap.objs.size (.tup [.int (i : Nat), y])) h3 s.heap.objs.size (.tup [.int (i : Nat), y]) :=
      ⟨by show 2 ≤ sizeLine; decide, [.int i tk, x], .cons ⟨_, rfl⟩ (.cons ru .nil), ⟨_, hT3, rfl, _, rfl⟩⟩
    have I1 : Inv X pins σ (upd H s.heap.objs.size (.tup [.int (i : Nat), y])) { s with heap := h3, toks := tk + 1 } :=
      I.turnedNew (ch := [e, it]) (fun b ob hb q => (sb.2 b (fun z => hb (by simp [z]))).trans (hk b ob (fun z => hb (by simp [z])) (fun z => hb (by simp [z])) q)) hf (Nat.le_refl _) new
    refine ⟨.ref s.heap.objs.size, _, I1, rfl, ⟨_, y, rfl, I.hok.fresh (Nat.le_refl _), rfl, fun zs hzs => by rw [I.tuple_inj hzs hq]; exact hy⟩, ⟨⟨x, ?_⟩, hit2.1.at fun o q => (sb.2 it (Ne.symm hne)).trans q, hne, hae, hai⟩, fun b hb => ?_⟩
    · have e1 : ((i + 1 : Nat) : Int) = (i : Int) + 1 := by omega
      rw [e1]
      exact he3
    · have hb2 : b < s.heap.objs.size := by
        rcases (show b = e ∨ b = it by simpa using hb) with z | z
        · rw [z]
          exact hel
        · rw [z]
          exact hil
      rw [upd_ne (Nat.ne_of_lt hb2)]
      exact (hf b hb).1
  done := by
    intro X hP hw hK hc i pins s σ H E I hf st hg
    subst hP hw hK
    obtain ⟨⟨old, he⟩, hit, hne, hae, hai⟩ := st
    obtain ⟨ys, hq, hy⟩ := hg
    obtain ⟨its, rv, p, hz⟩ := I.tuple hq
    obtain ⟨f0, f1, f2, f3, f4, f5⟩ := hf it (by simp)
    have pT : s.heap.IsTuple a its.toArray := let ⟨o, ho, hc, n, hd⟩ := p; ⟨o, ho, hc, n, hd⟩
    have hn : its.toArray.size = i := by
      have := rv.length
      simp
      omega
    exact wpAny_pyNext_enum_endD (Draws.tuple (prog := X.prog) (w := X.w) (A := X.A.in1) (I.ok.hd hc) it a hai its.toArray) he ⟨by rw [hn]; exact hit, pT⟩ fun h2 eb => ⟨rfl, I.turned (t' := s.toks) (fun b o hb q => eb b o hb q) f0 f1 f3 f4 f5⟩
  self := fun A i s Q E st h => let ⟨⟨_, he⟩, _⟩ := st; wpAny_pyIter_enum he h
def iEnumT (K : PySem.W.Frag) (ta : TA) : TI := fun σ H R => ta σ H fun vs H1 => ∃ a ys, vs = [.ref a] ∧ SqT K H1 a ys ∧ R (Iet K a) H1
theorem pi_enumT {X : Cx} {e : Expr} {ta : TA} {p pos tp : Pos} {elts : List Expr} {kk : Nat} (hg : Gl X "enumerate") (hm : X.mg "enumerate" = none) (ha : PA X [e] ta) (hs : starEach [e] X.env = [(false, eval e X.env)] := by rfl) :
    PI X (.Tuple elts kk tp) (.Call (.Name "enumerate" p) [e] [] pos) (iEnumT X.K ta) := by
  refine ⟨fun pins s σ H R I h => ?_⟩
  refine Call_ (ld_blt I hg hm boot_enumerate (PyProof.Rows.callWith_type1 (thn (ha.run pos pins s σ H _ I h) fun us s1 ⟨vs, H1, I1, r1, q1⟩ => ?_) hs rfl))
  obtain ⟨a, ys, ex, hq, q⟩ := q1
  subst ex
  cases r1 with
  | cons r rr =>
    cases rr
    cases r
    obtain ⟨its, rv, p', hz⟩ := I1.tuple hq
    have pT : s1.heap.IsTuple a its.toArray := let ⟨o, ho, hc, n, hd⟩ := p'; ⟨o, ho, hc, n, hd⟩
    have hal : a < s1.heap.objs.size := let ⟨_, ho, _⟩ := p'; Heap.lt_size ho
    refine callE pT fun h2 he hit hsz hk => wpAny_pyIter_enum he ?_
    have I2 : Inv X pins σ H1 { s1 with heap := h2 } := I1.kept (t' := s1.toks) hk
    refine ⟨s1.heap.objs.size + 1, [s1.heap.objs.size + 1, s1.heap.objs.size], _, _, H1, rfl, I2, turnE a (s1.heap.objs.size + 1) s1.heap.objs.size, ⟨⟨.none, he⟩, hit, Nat.succ_ne_self _, Nat.ne_of_lt (Nat.lt_succ_of_lt hal), Nat.ne_of_lt hal⟩, fun b hb => ?_, q⟩
    have hle : s1.heap.objs.size ≤ b := by
      rcases (show b = s1.heap.objs.size + 1 ∨ b = s1.heap.objs.size by simpa using hb) with z | z
      · rw [z]
        exact Nat.le_add_right _ _
      · rw [z]
        exact Nat.le_refl _
    exact I1.fpOk hle (I1.hok.fresh hle)
theorem walk_enumT {K : PySem.W.Frag} {a : Addr} {xs : List V} : Walk (Iet K a) xs.length (fun H => SqT K H a xs) (YPair (fun i => some (.int (i : Nat))) (fun i => xs[i]?)) := by
  refine ⟨fun i _ hi q => ⟨xs, xs[i], q, by simp [hi]⟩, fun _ q => ⟨xs, q, rfl⟩, fun i H v H2 _ q y => ?_⟩
  obtain ⟨p, z, h1, h2, h3, h4⟩ := y
  exact ⟨p, .int (i : Nat), z, h1, h2, h3, rfl, h4 xs q⟩
end Cu

namespace Cu
open PySem PySem.Spec PyProof.Rows L2
/-! a hearer, key by key -/
/-- a change put aside -/
structure As where
  n : Nat
  worth : Int
  ahead : Nat
structure HK where
  worth : Int
  since : Nat
  upto : Int
  aside : List As
def HK.ini : HK := ⟨0, 0, -1, []⟩
def HK.done (h : HK) (n : Nat) (set : Bool) (w : Int) : HK := { h with worth := if set then w else h.worth + w, since := n, upto := n }
def asN (as : List As) : List Int := as.map fun a => (a.n : Int)
def srt (ns : List Int) : List Int := ns.mergeSort fun a b => decide (a ≤ b)
def findA (as : List As) (n : Int) : Option As := as.find? fun a => decide ((a.n : Int) = n)
def dropA (as : List As) (n : Int) : List As := as.filter fun a => decide ((a.n : Int) ≠ n)
def putA (as : List As) (a : As) : List As := if (as.any fun x => decide (x.n = a.n)) = true then as.map fun x => if x.n = a.n then a else x else as ++ [a]
def HK.fstep (st : HK × List Int) (n : Int) : HK × List Int :=
  match findA st.1.aside n with
  | none => st
  | some a => if n ≤ st.1.upto then ({ st.1 with aside := dropA st.1.aside n }, st.2)
    else if (a.ahead : Int) ≤ st.1.upto then (({ st.1 with aside := dropA st.1.aside n } : HK).done a.n false a.worth, st.2 ++ [n])
    else st
def HK.free (h : HK) : HK × List Int := (srt (asN h.aside)).foldl HK.fstep (h, [])
def HK.chg (h : HK) (n : Nat) (c : Ch) (ahead : Nat) : HK × List Int :=
  if (n : Int) ≤ h.upto then (h, []) else if c.set = false ∧ h.upto < (ahead : Int) then ({ h with aside := putA h.aside ⟨n, c.worth, ahead⟩ }, [])
  else (((h.done n c.set c.worth).free).1, (n : Int) :: ((h.done n c.set c.worth).free).2)
def HK.row (h : HK) (n : Nat) (w : Int) (last : Nat) : HK × List Int := if h.upto < (n : Int) then ({ h with worth := w, since := last, upto := n } : HK).free else (h, [])
def HK.beat (h : HK) (n last : Nat) : HK := if (last : Int) ≤ h.upto ∧ h.upto < (n : Int) then { h with upto := n } else h
def hearK (k : Nat) (h : HK) : Letter → HK × List Int
  | .change n c ahead => if c.key = k then h.chg n c ahead else (h, [])
  | .part n b rows => if b ≤ k then (match rows[k - b]? with | some r => h.row n r.1 r.2 | none => (h, [])) else (h, [])
  | .beat n lasts => match lasts[k]? with | some l => (h.beat n l, []) | none => (h, [])
def hear (hs : List HK) (l : Letter) : List HK := hs.mapIdx fun k h => (hearK k h l).1
def heard (hs : List HK) (l : Letter) : List Int := (hs.mapIdx fun k h => (hearK k h l).2).flatten
theorem srt_eq {ns ms : List Int} (hp : ms.Perm ns) (hs : ms.Pairwise (· ≤ ·)) : ms = srt ns := by
  refine PySem.W.ksm_same (hp.trans (List.mergeSort_perm ns _).symm) hs ?_
  have := List.pairwise_mergeSort (le := fun a b : Int => decide (a ≤ b)) (fun a b c h1 h2 => by simp at h1 h2 ⊢; omega) (fun a b => by simp; omega) ns
  exact this.imp fun h => by simpa using h
theorem hear_len (hs : List HK) (l : Letter) : (hear hs l).length = hs.length := by simp [hear]

/-! where a hearer lies -/
structure HA where
  p : Addr
  dx : Addr
  l1 : Addr
  l2 : Addr
  l3 : Addr
  l4 : Addr
  ds : List Addr
def hF (A : HA) : List (Str × V) := [("worth", .ref A.l1), ("since", .ref A.l2), ("upto", .ref A.l3), ("aside", .ref A.l4)]
def hObj (C : Addr) (A : HA) (hs : List HK) (kv : List (List (Key × V))) : Lg :=
  (A.p, .ins C A.dx (hF A)) :: (A.l1, .lst (hs.map fun h => .int h.worth)) :: (A.l2, .lst (hs.map fun h => .int h.since)) :: (A.l3, .lst (hs.map fun h => .int h.upto)) ::
    (A.l4, .lst (A.ds.map V.ref)) :: List.zipWith (fun d k => (d, HO.dK k)) A.ds kv
def asL (k : Nat) (a : As) : Letter := .change a.n ⟨k, false, a.worth⟩ a.ahead
def AsOk (K : PySem.W.Frag) (H : Hp) (k : Nat) : List As → List (Key × V) → Prop
  | [], kvs => kvs = []
  | a :: as, kvs => ∃ v r, kvs = (Sum.inl (a.n : Int), v) :: r ∧ Rp K H (asL k a).enc v ∧ AsOk K H k as r
section
variable {K : PySem.W.Frag} {H H' : Hp} {k : Nat}
theorem AsOk.mono (m : Mono H H') : ∀ {as : List As} {kvs : List (Key × V)}, AsOk K H k as kvs → AsOk K H' k as kvs
  | [], _, h => h
  | a :: as, _, ⟨v, r, e, h1, h2⟩ => ⟨v, r, e, h1.mono m, AsOk.mono m h2⟩
theorem AsOk.keys : ∀ {as : List As} {kvs : List (Key × V)}, AsOk K H k as kvs → kvs.map (·.1) = (asN as).map Sum.inl
  | [], _, h => by
    cases h
    rfl
  | a :: as, _, ⟨v, r, e, h1, h2⟩ => by
    subst e
    show Sum.inl (a.n : Int) :: r.map (·.1) = _
    rw [h2.keys]
    rfl
theorem AsOk.len {as : List As} {kvs : List (Key × V)} (h : AsOk K H k as kvs) : kvs.length = as.length := by
  have := congrArg List.length h.keys
  simpa [asN] using this
theorem AsOk.find : ∀ {as : List As} {kvs : List (Key × V)} {n : Int} {a : As}, AsOk K H k as kvs → findA as n = some a → ∃ v, valV kvs (Sum.inl n) = some v ∧ Rp K H (asL k a).enc v
  | [], _, _, _, _, e => by cases e
  | b :: as, _, n, a, ⟨v, r, e, h1, h2⟩, f => by
    subst e
    by_cases hb : (b.n : Int) = n
    · have : findA (b :: as) n = some b := by simp [findA, hb]
      rw [this] at f
      cases f
      exact ⟨v, valV_pos (by rw [hb]), h1⟩
    · have : findA (b :: as) n = findA as n := by simp [findA, hb]
      rw [this] at f
      obtain ⟨u, hu, ru⟩ := h2.find f
      exact ⟨u, by rw [valV_neg (fun q => hb (Sum.inl.inj q))]; exact hu, ru⟩
theorem AsOk.drop : ∀ {as : List As} {kvs : List (Key × V)} (n : Int), AsOk K H k as kvs → AsOk K H k (dropA as n) (dropK kvs (Sum.inl n))
  | [], _, _, h => by
    cases h
    rfl
  | b :: as, _, n, ⟨v, r, e, h1, h2⟩ => by
    subst e
    have ih := AsOk.drop n h2
    by_cases hb : (b.n : Int) = n
    · have : dropA (b :: as) n = dropA as n := by simp [dropA, hb]
      rw [this, dropK_pos (by rw [hb])]
      exact ih
    · have : dropA (b :: as) n = b :: dropA as n := by simp [dropA, hb]
      rw [this, dropK_neg (fun q => hb (Sum.inl.inj q))]
      exact ⟨v, _, rfl, h1, ih⟩
theorem AsOk.any : ∀ {as : List As} {kvs : List (Key × V)} (n : Nat), AsOk K H k as kvs → (kvs.any fun kv => decide (kv.1 = Sum.inl (n : Int))) = as.any fun x => decide (x.n = n)
  | [], _, _, h => by
    cases h
    rfl
  | b :: as, _, n, ⟨v, r, e, h1, h2⟩ => by
    subst e
    rw [List.any_cons, List.any_cons, h2.any]
    congr 1
    by_cases hb : b.n = n <;> simp [hb]
    intro q
    exact hb (by omega)
theorem AsOk.map : ∀ {as : List As} {kvs : List (Key × V)} (a : As) (v : V), AsOk K H k as kvs → Rp K H (asL k a).enc v →
    AsOk K H k (as.map fun x => if x.n = a.n then a else x) (kvs.map fun kv => if kv.1 = Sum.inl (a.n : Int) then (kv.1, v) else kv)
  | [], _, _, _, h, _ => by
    cases h
    rfl
  | b :: as, _, a, v, ⟨u, r, e, h1, h2⟩, hv => by
    subst e
    have ih := AsOk.map a v h2 hv
    by_cases hb : b.n = a.n
    · simp only [List.map_cons, hb, if_pos]
      exact ⟨v, _, rfl, hv, ih⟩
    · have hb' : ¬ ((Sum.inl (b.n : Int) : Key) = Sum.inl (a.n : Int)) := fun q => hb (by have := Sum.inl.inj q; omega)
      simp only [List.map_cons, hb, if_neg hb', if_false]
      exact ⟨u, _, rfl, h1, ih⟩
theorem AsOk.append : ∀ {as bs : List As} {kvs kws : List (Key × V)}, AsOk K H k as kvs → AsOk K H k bs kws → AsOk K H k (as ++ bs) (kvs ++ kws)
  | [], _, _, _, h, g => by
    cases h
    exact g
  | _ :: _, _, _, _, ⟨v, r, e, h1, h2⟩, g => by
    subst e
    exact ⟨v, _, rfl, h1, h2.append g⟩
theorem AsOk.put {as : List As} {kvs : List (Key × V)} {a : As} {v : V} (h : AsOk K H k as kvs) (hv : Rp K H (asL k a).enc v) : AsOk K H k (putA as a) (putK kvs (Sum.inl (a.n : Int)) v) := by
  unfold putA putK
  rw [h.any]
  split
  · exact h.map a v hv
  · exact h.append ⟨v, [], rfl, hv, rfl⟩
end

/-- the objects at c are a hearer's that stands so -/
structure HR (K : PySem.W.Frag) (C : Addr) (A : HA) (hs : List HK) (H : Hp) (c : Lg) : Prop where
  ex : ∃ kv, c = hObj C A hs kv ∧ A.ds.length = hs.length ∧ kv.length = hs.length ∧ ∀ (k : Nat) (h : HK) (kvs : List (Key × V)), hs[k]? = some h → kv[k]? = some kvs → AsOk K H k h.aside kvs
theorem Tr.mid {H : Hp} {pre post : Lg} {a : Addr} {o o' : HO} (h : Has H (pre ++ (a, o) :: post)) (n : ¬ Imm o') : Tr H (pre ++ (a, o) :: post) (upd H a o') (pre ++ (a, o') :: post) := by
  refine ⟨Mono.put (h.mem (by simp)) (h.at_ (a, o) (by simp)).2, fun R hR => ?_⟩
  rw [List.append_assoc, List.cons_append] at hR ⊢
  exact ((hR.perm List.perm_middle).put n).perm List.perm_middle.symm
section
variable {K : PySem.W.Frag} {C : Addr} {A : HA} {hs : List HK} {H H' : Hp} {c : Lg} {k : Nat} {h : HK}
theorem HR.mono (r : HR K C A hs H c) (m : Mono H H') : HR K C A hs H' c := by
  obtain ⟨kv, e, l1, l2, q⟩ := r.ex
  exact ⟨kv, e, l1, l2, fun k h kvs e1 e2 => (q k h kvs e1 e2).mono m⟩
theorem HR.at_p (r : HR K C A hs H c) (h : Has H c) : H A.p = some (.ins C A.dx (hF A)) := by
  obtain ⟨kv, rfl, _⟩ := r.ex
  exact h.mem (by simp [hObj])
theorem HR.at1 (r : HR K C A hs H c) (h : Has H c) : H A.l1 = some (.lst (hs.map fun h => .int h.worth)) := by
  obtain ⟨kv, rfl, _⟩ := r.ex
  exact h.mem (by simp [hObj])
theorem HR.at2 (r : HR K C A hs H c) (h : Has H c) : H A.l2 = some (.lst (hs.map fun h => .int h.since)) := by
  obtain ⟨kv, rfl, _⟩ := r.ex
  exact h.mem (by simp [hObj])
theorem HR.at3 (r : HR K C A hs H c) (h : Has H c) : H A.l3 = some (.lst (hs.map fun h => .int h.upto)) := by
  obtain ⟨kv, rfl, _⟩ := r.ex
  exact h.mem (by simp [hObj])
theorem HR.at4 (r : HR K C A hs H c) (h : Has H c) : H A.l4 = some (.lst (A.ds.map V.ref)) := by
  obtain ⟨kv, rfl, _⟩ := r.ex
  exact h.mem (by simp [hObj])
theorem HR.dict (r : HR K C A hs H c) (hh : Has H c) (e : hs[k]? = some h) : ∃ d kvs, A.ds[k]? = some d ∧ H d = some (.dK kvs) ∧ AsOk K H k h.aside kvs := by
  obtain ⟨kv, rfl, l1, l2, q⟩ := r.ex
  have hk := (List.getElem?_eq_some_iff.mp e).1
  obtain ⟨d, hd⟩ : ∃ d, A.ds[k]? = some d := ⟨A.ds[k], List.getElem?_eq_getElem (by omega)⟩
  obtain ⟨kvs, hkv⟩ : ∃ kvs, kv[k]? = some kvs := ⟨kv[k], List.getElem?_eq_getElem (by omega)⟩
  refine ⟨d, kvs, hd, hh.mem ?_, q k h kvs e hkv⟩
  have : (List.zipWith (fun d k => (d, HO.dK k)) A.ds kv)[k]? = some (d, HO.dK kvs) := by rw [List.getElem?_zipWith, hd, hkv]
  have := List.mem_of_getElem? this
  simp [hObj, this]
theorem map_set_same {α β : Type} {f : α → β} {xs : List α} {k : Nat} {x y : α} (e : xs[k]? = some x) (h : f y = f x) : (xs.set k y).map f = xs.map f := by
  rw [List.map_set, h]
  apply List.ext_getElem?
  intro i
  by_cases hi : k = i
  · subst hi
    rw [List.getElem?_set_self (by rw [List.length_map]; exact (List.getElem?_eq_some_iff.mp e).1), List.getElem?_map, e]
    rfl
  · rw [List.getElem?_set_ne hi]
theorem hs_set {hs : List HK} {k : Nat} {h g : HK} (e : hs[k]? = some h) (ea : g.aside = h.aside) {kv : List (List (Key × V))} (q : ∀ (k : Nat) (h : HK) (kvs : List (Key × V)), hs[k]? = some h → kv[k]? = some kvs → AsOk K H k h.aside kvs) :
    ∀ (j : Nat) (h : HK) (kvs : List (Key × V)), (hs.set k g)[j]? = some h → kv[j]? = some kvs → AsOk K H j h.aside kvs := fun j h' kvs e1 e2 => by
  by_cases hj : k = j
  · subst hj
    rw [List.getElem?_set_self (List.getElem?_eq_some_iff.mp e).1] at e1
    cases e1
    rw [ea]
    exact q k h kvs e e2
  · rw [List.getElem?_set_ne hj] at e1
    exact q j h' kvs e1 e2
/-- the three lists, written at a key -/
theorem HR.set1 (r : HR K C A hs H c) (hh : Has H c) (e : hs[k]? = some h) (z : Int) :
    ∃ c', HR K C A (hs.set k { h with worth := z }) (upd H A.l1 (.lst ((hs.map fun h => V.int h.worth).set k (.int z)))) c' ∧ Tr H c (upd H A.l1 (.lst ((hs.map fun h => V.int h.worth).set k (.int z)))) c' := by
  obtain ⟨kv, rfl, l1, l2, q⟩ := r.ex
  have t := Tr.mid (pre := [(A.p, .ins C A.dx (hF A))]) (o' := .lst ((hs.map fun h => V.int h.worth).set k (.int z))) hh nl
  refine ⟨hObj C A (hs.set k { h with worth := z }) kv, ⟨kv, rfl, by rw [List.length_set]; exact l1, by rw [List.length_set]; exact l2, hs_set (g := { h with worth := z }) e rfl fun k h kvs e1 e2 => (q k h kvs e1 e2).mono t.mono⟩, ?_⟩
  unfold hObj
  rw [List.map_set, map_set_same (f := fun h : HK => V.int h.since) (y := { h with worth := z }) e rfl, map_set_same (f := fun h : HK => V.int h.upto) (y := { h with worth := z }) e rfl]
  exact t
theorem HR.set2 (r : HR K C A hs H c) (hh : Has H c) (e : hs[k]? = some h) (z : Nat) :
    ∃ c', HR K C A (hs.set k { h with since := z }) (upd H A.l2 (.lst ((hs.map fun h => V.int h.since).set k (.int z)))) c' ∧ Tr H c (upd H A.l2 (.lst ((hs.map fun h => V.int h.since).set k (.int z)))) c' := by
  obtain ⟨kv, rfl, l1, l2, q⟩ := r.ex
  have t := Tr.mid (pre := [(A.p, .ins C A.dx (hF A)), (A.l1, .lst (hs.map fun h => .int h.worth))]) (o' := .lst ((hs.map fun h => V.int h.since).set k (.int z))) hh nl
  refine ⟨hObj C A (hs.set k { h with since := z }) kv, ⟨kv, rfl, by rw [List.length_set]; exact l1, by rw [List.length_set]; exact l2, hs_set (g := { h with since := z }) e rfl fun k h kvs e1 e2 => (q k h kvs e1 e2).mono t.mono⟩, ?_⟩
  unfold hObj
  rw [List.map_set (f := fun h : HK => V.int h.since), map_set_same (f := fun h : HK => V.int h.worth) (y := { h with since := z }) e rfl, map_set_same (f := fun h : HK => V.int h.upto) (y := { h with since := z }) e rfl]
  exact t
theorem HR.set3 (r : HR K C A hs H c) (hh : Has H c) (e : hs[k]? = some h) (z : Int) :
    ∃ c', HR K C A (hs.set k { h with upto := z }) (upd H A.l3 (.lst ((hs.map fun h => V.int h.upto).set k (.int z)))) c' ∧ Tr H c (upd H A.l3 (.lst ((hs.map fun h => V.int h.upto).set k (.int z)))) c' := by
  obtain ⟨kv, rfl, l1, l2, q⟩ := r.ex
  have t := Tr.mid (pre := [(A.p, .ins C A.dx (hF A)), (A.l1, .lst (hs.map fun h => .int h.worth)), (A.l2, .lst (hs.map fun h => .int h.since))]) (o' := .lst ((hs.map fun h => V.int h.upto).set k (.int z))) hh nl
  refine ⟨hObj C A (hs.set k { h with upto := z }) kv, ⟨kv, rfl, by rw [List.length_set]; exact l1, by rw [List.length_set]; exact l2, hs_set (g := { h with upto := z }) e rfl fun k h kvs e1 e2 => (q k h kvs e1 e2).mono t.mono⟩, ?_⟩
  unfold hObj
  rw [List.map_set (f := fun h : HK => V.int h.upto), map_set_same (f := fun h : HK => V.int h.worth) (y := { h with upto := z }) e rfl, map_set_same (f := fun h : HK => V.int h.since) (y := { h with upto := z }) e rfl]
  exact t
theorem zip_split {ds : List Addr} {kv : List (List (Key × V))} {k : Nat} {d : Addr} {x : List (Key × V)} (h1 : ds[k]? = some d) (h2 : kv[k]? = some x) :
    ∃ pre post, List.zipWith (fun d k => (d, HO.dK k)) ds kv = pre ++ (d, HO.dK x) :: post ∧ ∀ y, List.zipWith (fun d k => (d, HO.dK k)) ds (kv.set k y) = pre ++ (d, HO.dK y) :: post := by
  induction k generalizing ds kv with
  | zero =>
    cases ds with
    | nil => simp at h1
    | cons d' ds =>
      cases kv with
      | nil => simp at h2
      | cons x' kv =>
        simp at h1 h2
        subst h1 h2
        exact ⟨[], _, rfl, fun y => rfl⟩
  | succ k ih =>
    cases ds with
    | nil => simp at h1
    | cons d' ds =>
      cases kv with
      | nil => simp at h2
      | cons x' kv =>
        obtain ⟨pre, post, e1, e2⟩ := ih (ds := ds) (kv := kv) (by simpa using h1) (by simpa using h2)
        refine ⟨(d', HO.dK x') :: pre, post, ?_, fun y => ?_⟩
        · rw [List.zipWith_cons_cons, e1]
          rfl
        · rw [List.set_cons_succ, List.zipWith_cons_cons, e2]
          rfl
/-- a key's dict, written -/
theorem HR.set4 (r : HR K C A hs H c) (hh : Has H c) (e : hs[k]? = some h) {d : Addr} (ed : A.ds[k]? = some d) {as : List As} {kvs : List (Key × V)} (ok : AsOk K H k as kvs) :
    ∃ c', HR K C A (hs.set k { h with aside := as }) (upd H d (.dK kvs)) c' ∧ Tr H c (upd H d (.dK kvs)) c' := by
  obtain ⟨kv, rfl, l1, l2, q⟩ := r.ex
  have hk := (List.getElem?_eq_some_iff.mp e).1
  obtain ⟨x, hx⟩ : ∃ x, kv[k]? = some x := ⟨kv[k], List.getElem?_eq_getElem (by omega)⟩
  obtain ⟨pre, post, e1, e2⟩ := zip_split ed hx
  have t : Tr H (hObj C A hs kv) (upd H d (.dK kvs)) (hObj C A (hs.set k { h with aside := as }) (kv.set k kvs)) := by
    unfold hObj at hh ⊢
    rw [map_set_same (f := fun h : HK => V.int h.worth) (y := { h with aside := as }) e rfl, map_set_same (f := fun h : HK => V.int h.since) (y := { h with aside := as }) e rfl, map_set_same (f := fun h : HK => V.int h.upto) (y := { h with aside := as }) e rfl, e1, e2]
    rw [e1] at hh
    have := Tr.mid (pre := (A.p, .ins C A.dx (hF A)) :: (A.l1, .lst (hs.map fun h => .int h.worth)) :: (A.l2, .lst (hs.map fun h => .int h.since)) :: (A.l3, .lst (hs.map fun h => .int h.upto)) :: (A.l4, .lst (A.ds.map V.ref)) :: pre) (o' := .dK kvs) hh ndk
    exact this
  refine ⟨_, ⟨kv.set k kvs, rfl, by rw [List.length_set]; exact l1, by rw [List.length_set, List.length_set]; exact l2, fun j h' kw e3 e4 => ?_⟩, t⟩
  by_cases hj : k = j
  · subst hj
    rw [List.getElem?_set_self hk] at e3
    rw [List.getElem?_set_self (by omega)] at e4
    cases e3
    cases e4
    exact ok.mono t.mono
  · rw [List.getElem?_set_ne hj] at e3 e4
    exact (q j h' kw e3 e4).mono t.mono
end
/-- what the walk asks of the class -/
structure CHr (K : PySem.W.Frag) (C : Addr) : Prop where
  cl : Cls K C
  n1 : NoAttr K C "worth"
  n2 : NoAttr K C "since"
  n3 : NoAttr K C "upto"
  n4 : NoAttr K C "aside"
theorem hF1 (A : HA) : (hF A).lookup ("worth" : Str) = some (.ref A.l1) := by rfl
theorem hF2 (A : HA) : (hF A).lookup ("since" : Str) = some (.ref A.l2) := by rfl
theorem hF3 (A : HA) : (hF A).lookup ("upto" : Str) = some (.ref A.l3) := by rfl
theorem hF4 (A : HA) : (hF A).lookup ("aside" : Str) = some (.ref A.l4) := by rfl
theorem ixN_nat {n k : Nat} (h : k < n) : ixN n (k : Int) = some k := by
  unfold ixN
  rw [if_pos (by omega), if_pos (by omega), Int.toNat_natCast]
end Cu

namespace Cu
open PySem PySem.Spec PyProof.Rows L2
abbrev s_Hearer_init : Stmt := (inClass (top 16) 0)
theorem sc_Hearer_init : FnScope ["self", "keys", "key"] ["self", "keys"] (defScope s_Hearer_init) := ⟨rfl, rfl, rfl, by decide +kernel, rfl, by decide +kernel, by decide +kernel⟩

abbrev s_Hearer_known : Stmt := (inClass (top 16) 1)
theorem sc_Hearer_known : FnScope ["self"] ["self"] (defScope s_Hearer_known) := ⟨rfl, rfl, rfl, by decide +kernel, rfl, by decide +kernel, by decide +kernel⟩

abbrev s_Hearer_held : Stmt := (inClass (top 16) 2)
theorem sc_Hearer_held : FnScope ["self", "found", "some"] ["self"] (defScope s_Hearer_held) := ⟨rfl, rfl, rfl, by decide +kernel, rfl, by decide +kernel, by decide +kernel⟩

abbrev s_Hearer_look : Stmt := (inClass (top 16) 3)
theorem sc_Hearer_look : FnScope ["self", "key"] ["self", "key"] (defScope s_Hearer_look) := ⟨rfl, rfl, rfl, by decide +kernel, rfl, by decide +kernel, by decide +kernel⟩

abbrev s_Hearer_whole : Stmt := (inClass (top 16) 4)
theorem sc_Hearer_whole : FnScope ["self", "number"] ["self"] (defScope s_Hearer_whole) := ⟨rfl, rfl, rfl, by decide +kernel, rfl, by decide +kernel, by decide +kernel⟩

theorem iteP {c A B : Prop} [Decidable c] (hc : c) (h : A) : if c then A else B := by
  rw [if_pos hc]
  exact h
theorem iteM {c A B : Prop} [Decidable c] (hc : ¬ c) (h : B) : if c then A else B := by
  rw [if_neg hc]
  exact h
theorem Has.one {H : Hp} {a : Addr} {o : HO} (h : H a = some o) (n : ¬ Imm o) : Has H [(a, o)] := ⟨by simp, fun p hp => by
  rw [List.mem_singleton] at hp
  subst hp
  exact ⟨h, n⟩⟩
theorem nins {C dx : Addr} {fs : List (Str × V)} : ¬ Imm (.ins C dx fs) := fun h => h
/-- a list of the same value, so many as a name says -/
theorem rd_const {σ : L2.St} {H : Hp} {Q : VK} {i j nk : Nat} {te : TE} {v : V} {vs : List Nat} (h1 : σ[i]? = some (some (.int nk))) (hk : nk ≤ 8) (hw : ∀ x, wipe ((wipe σ vs).set j (some x)) vs = wipe σ vs)
    (he : ∀ (σ1 : L2.St) (H1 : Hp) (Q1 : VK), Q1 v H1 → te σ1 H1 Q1) (q : ∀ p H', Tr H [] H' [(p, .lst (List.replicate nk v))] → Q (.ref p) H') :
    tI (tLc (iRng1 (tCons (tVar i) tNil)) (gName j) tYes te vs) σ H Q := by
  refine rd_I ⟨_, h1, _, rfl, by omega, by omega, fun D hD => ?_⟩
  refine lc_range (lo := 0) (n := (nk : Int).toNat) (fun m H2 => Tr H [] H2 [(D, .lst (List.replicate m v))]) ((Tr.refl H []).new hD nl) (fun m H2 hm t => ⟨hw _, he _ _ _ ⟨_, t.own.head, ?_, ?_⟩⟩) fun H2 t => q D H2 (by rw [Int.toNat_natCast] at t; exact t)
  · rw [List.length_replicate]
    exact small1000 (by omega)
  · rw [← List.replicate_succ']
    exact t.put .nil nl
def spHinit (K : PySem.W.Frag) (C : Addr) : Sp := fun vs H Q _ => vs.length = 2 ∧ ∃ (p dx : Addr) (nk : Nat), vs = [.ref p, .int nk] ∧ 0 < nk ∧ nk ≤ 8 ∧ H p = some (.ins C dx []) ∧
  ∀ (A : HA) (c : Lg) (H' : Hp), A.p = p → HR K C A (List.replicate nk HK.ini) H' c → Tr H [(p, .ins C dx [])] H' c → Q .non H'
def spKnown (K : PySem.W.Frag) (C : Addr) : Sp := fun vs H Q _ => vs.length = 1 ∧ ∃ (A : HA) (hs : List HK) (c : Lg), vs = [.ref A.p] ∧ HR K C A hs H c ∧ Has H c ∧ ∀ (r : Addr) (H' : Hp), Tr H [] H' [(r, .lst ((hs.map fun h => h.upto).map V.int))] → Q (.ref r) H'
def heldM (hs : List HK) : List Int := srt ((hs.map fun h => asN h.aside).flatten)
def spHeld (K : PySem.W.Frag) (C : Addr) : Sp := fun vs H Q _ => vs.length = 1 ∧ ∃ (A : HA) (hs : List HK) (c : Lg), vs = [.ref A.p] ∧ HR K C A hs H c ∧ Has H c ∧ (hs.map fun h => asN h.aside).flatten.length ≤ 1000 ∧
  ∀ (r : Addr) (H' : Hp), Tr H [] H' [(r, .lst ((heldM hs).map V.int))] → Q (.ref r) H'
def lookM (h : HK) : PyData := if h.upto < 0 then .none else .tuple [.int h.worth, .int h.since, .int h.upto]
def spLook (K : PySem.W.Frag) (C : Addr) : Sp := fun vs H Q _ => vs.length = 2 ∧ ∃ (A : HA) (hs : List HK) (c : Lg) (k : Nat) (h : HK), vs = [.ref A.p, .int k] ∧ HR K C A hs H c ∧ Has H c ∧ hs[k]? = some h ∧
  ∀ (v : V) (H' : Hp), Grow H H' → Rp K H' (lookM h) v → Q v H'
def minU (hs : List HK) : Int := ((hs.map fun h => h.upto).min?).getD 0
def maxS (hs : List HK) : Int := ((hs.map fun h => (h.since : Int)).max?).getD 0
def wholeM (hs : List HK) : Option (Int × List Int) := if minU hs < maxS hs then none else if 0 ≤ minU hs then some (minU hs, hs.map fun h => h.worth) else none
def spWhole (K : PySem.W.Frag) (C : Addr) : Sp := fun vs H Q _ => vs.length = 1 ∧ ∃ (A : HA) (hs : List HK) (c : Lg), vs = [.ref A.p] ∧ HR K C A hs H c ∧ Has H c ∧ 0 < hs.length ∧
  (wholeM hs = none → Q .non H) ∧
  (∀ n ws, wholeM hs = some (n, ws) → ∀ (r t : Addr) (H' : Hp), Tr H [] H' [(r, .lst (ws.map V.int))] → H' t = some (.tup [.int n, .ref r]) → Q (.ref t) H')
end Cu

namespace Cu
open PySem PySem.Spec PyProof.Rows L2
section
variable {P : Program} {w : World} {K : PySem.W.Frag} {mg : Str → Option Value} {base : Heap} {C : Addr}
theorem ok_Hinit {tk : Tok} (F : Kd K mg "Hearer" C "Hearer.__init__" s_Hearer_init) (Bm : Blt mg) (CHearer : CHr K C) (km_MOST_KEYS : mg "MOST_KEYS" = some (.int 8 tk)) : Kf P w K mg base 1 "Hearer" C ["self", "keys"] (spHinit K C) := by
  refine F.ok sc_Hearer_init (fun _ _ _ _ _ _ us hl => match us, hl with | [_, _], _ => rfl) len_of fun qual f cdv A0 outer s H vs Q E hr h => ?_
  obtain ⟨_, p, dx, nk, rfl, hk, hk8, hp, k⟩ := h
  refine ⟨_, (pss_cons (ps_if (pt_not (pt_chain op_le op_le pe_int (pv 1) (pe_glob (v := .int 8) rfl km_MOST_KEYS ⟨_, rfl⟩)))
        (pss_one ps_never)
        pss_nil)
      (pss_cons (ps_fld (pv 0) (pe_I (pe_lc (own := [("key", 2)]) (g := (gName 2)) (tt := tYes) rfl sc_Hearer_init.nd (pi_range1 rfl Bm.range (pa_cons (pv 1) pa_nil)) (blkOk_by (N := ["self", "keys", "key"]) (sc := defScope s_Hearer_init) (by decide +kernel)) (fun _ _ _ _ _ => (pg_name (i := 2) sc_Hearer_init.nd rfl (Or.inl rfl))) (fun _ _ _ _ _ => pts_nil) (fun _ _ _ _ _ => pe_int))) rfl)
      (pss_cons (ps_fld (pv 0) (pe_I (pe_lc (own := [("key", 2)]) (g := (gName 2)) (tt := tYes) rfl sc_Hearer_init.nd (pi_range1 rfl Bm.range (pa_cons (pv 1) pa_nil)) (blkOk_by (N := ["self", "keys", "key"]) (sc := defScope s_Hearer_init) (by decide +kernel)) (fun _ _ _ _ _ => (pg_name (i := 2) sc_Hearer_init.nd rfl (Or.inl rfl))) (fun _ _ _ _ _ => pts_nil) (fun _ _ _ _ _ => pe_int))) rfl)
      (pss_cons (ps_fld (pv 0) (pe_I (pe_lc (own := [("key", 2)]) (g := (gName 2)) (tt := tYes) rfl sc_Hearer_init.nd (pi_range1 rfl Bm.range (pa_cons (pv 1) pa_nil)) (blkOk_by (N := ["self", "keys", "key"]) (sc := defScope s_Hearer_init) (by decide +kernel)) (fun _ _ _ _ _ => (pg_name (i := 2) sc_Hearer_init.nd rfl (Or.inl rfl))) (fun _ _ _ _ _ => pts_nil) (fun _ _ _ _ _ => (pe_un un_neg pe_int)))) rfl)
      (pss_one (ps_fld (pv 0) (pe_lc (own := [("key", 2)]) (g := (gName 2)) (tt := tYes) rfl sc_Hearer_init.nd (pi_range1 rfl Bm.range (pa_cons (pv 1) pa_nil)) (blkOk_by (N := ["self", "keys", "key"]) (sc := defScope s_Hearer_init) (by decide +kernel)) (fun _ _ _ _ _ => (pg_name (i := 2) sc_Hearer_init.nd rfl (Or.inl rfl))) (fun _ _ _ _ _ => pts_nil) (fun _ _ _ _ _ => pe_dnewK)) rfl)))))), ?_⟩
  have h0 := Has.one hp nins
  refine ⟨_, rfl, _, _, rfl, rfl, _, rfl, iteP (decide_eq_true (by omega)) ⟨_, _, rfl, rfl, _, rfl, iteM (by simp; omega) ?_⟩⟩
  refine rd_const (v := .int 0) (by rfl) hk8 (fun _ => rfl) (fun _ _ _ q => q) fun p1 H1 t1 => ?_
  have s1 := (show Tr H [(p, .ins C dx [])] H1 [(p1, .lst (List.replicate nk (.int 0))), (p, .ins C dx [])] from t1.right (D := [(p, .ins C dx [])])).swap2
  have e1 : ((0 : Nat) : Int) = 0 := rfl
  refine ⟨_, rfl, p, C, dx, [], rfl, (s1.now h0).head, CHearer.cl, CHearer.n1, (by show 0 < 1000; decide), ?_⟩
  have s2 := s1.put (o' := .ins C dx [("worth", .ref p1)]) h0 nins
  refine rd_const (v := .int 0) (by rfl) hk8 (fun _ => rfl) (fun _ _ _ q => q) fun p2 H2 t2 => ?_
  have s3 := (s2.trans (t2.right (D := [(p, .ins C dx [("worth", .ref p1)]), (p1, .lst (List.replicate nk (.int 0)))]))).swap2
  refine ⟨_, rfl, p, C, dx, [("worth", .ref p1)], rfl, (s3.now h0).head, CHearer.cl, CHearer.n2, (by show 1 < 1000; decide), ?_⟩
  have s4 := s3.put (o' := .ins C dx [("worth", .ref p1), ("since", .ref p2)]) h0 nins
  refine rd_const (v := .int (-1)) (by rfl) hk8 (fun _ => rfl) (fun _ _ _ q => ⟨_, rfl, q⟩) fun p3 H3 t3 => ?_
  have s5 := (s4.trans (t3.right (D := [(p, .ins C dx [("worth", .ref p1), ("since", .ref p2)]), (p2, .lst (List.replicate nk (.int 0))), (p1, .lst (List.replicate nk (.int 0)))]))).swap2
  refine ⟨_, rfl, p, C, dx, [("worth", .ref p1), ("since", .ref p2)], rfl, (s5.now h0).head, CHearer.cl, CHearer.n3, (by show 2 < 1000; decide), ?_⟩
  have s6 := s5.put (o' := .ins C dx [("worth", .ref p1), ("since", .ref p2), ("upto", .ref p3)]) h0 nins
  refine ⟨_, rfl, _, rfl, by omega, by omega, fun D hD => ?_⟩
  refine lc_range (lo := 0) (n := (nk : Int).toNat) (fun m H4 => ∃ ds : List Addr, ds.length = m ∧ Tr H [(p, .ins C dx [])] H4 ((D, .lst (ds.map V.ref)) :: (p, HO.ins C dx [("worth", V.ref p1), ("since", V.ref p2), ("upto", V.ref p3)]) :: (ds.map (fun d => (d, HO.dK [])) ++ [(p3, HO.lst (List.replicate nk (V.int (-1)))), (p2, HO.lst (List.replicate nk (V.int 0))), (p1, HO.lst (List.replicate nk (V.int 0)))])))
    ⟨[], rfl, s6.new hD nl⟩ ?_ ?_
  · rintro m H4 hm ⟨ds, hl, t⟩
    refine ⟨rfl, fun d hd => ⟨_, by rw [upd_ne (ne_of_none (t.now h0).head hd)]; exact (t.now h0).head, by rw [List.length_map, hl]; exact small1000 (by omega), ds ++ [d], by rw [List.length_append, hl]; rfl, ?_⟩⟩
    have t2 := (t.new (o := .dK []) hd ndk).swap2.put (o' := .lst (ds.map V.ref ++ [.ref d])) h0 nl
    rw [List.map_append, List.map_append]
    refine t2.perm (List.Perm.cons _ ?_)
    have : ((d, HO.dK []) :: (p, HO.ins C dx [("worth", .ref p1), ("since", .ref p2), ("upto", .ref p3)]) :: (ds.map (fun d => (d, HO.dK [])) ++ [(p3, HO.lst (List.replicate nk (V.int (-1)))), (p2, HO.lst (List.replicate nk (V.int 0))), (p1, HO.lst (List.replicate nk (V.int 0)))])).Perm
        ((p, HO.ins C dx [("worth", .ref p1), ("since", .ref p2), ("upto", .ref p3)]) :: ((d, HO.dK []) :: (ds.map (fun d => (d, HO.dK [])) ++ [(p3, HO.lst (List.replicate nk (V.int (-1)))), (p2, HO.lst (List.replicate nk (V.int 0))), (p1, HO.lst (List.replicate nk (V.int 0)))]))) := List.Perm.swap _ _ _
    refine this.trans (List.Perm.cons _ ?_)
    rw [List.append_assoc]
    exact List.perm_middle.symm
  · rintro H4 ⟨ds, hl, t⟩
    rw [Int.toNat_natCast] at hl
    refine ⟨_, rfl, p, C, dx, [("worth", .ref p1), ("since", .ref p2), ("upto", .ref p3)], rfl, (t.now h0).tail.head, CHearer.cl, CHearer.n4, (by show 3 < 1000; decide), ?_⟩
    have t2 := t.swap2.put (o' := .ins C dx [("worth", .ref p1), ("since", .ref p2), ("upto", .ref p3), ("aside", .ref D)]) h0 nins
    refine k ⟨p, dx, p1, p2, p3, D, ds⟩ _ _ rfl ⟨List.replicate nk [], rfl, by rw [List.length_replicate]; exact hl, by rw [List.length_replicate, List.length_replicate], fun j h kvs e1 e2 => ?_⟩ (t2.perm (List.Perm.cons _ ?_))
    · rw [List.getElem?_replicate] at e1 e2
      by_cases hj : j < nk
      · rw [if_pos hj] at e1 e2
        cases e1
        cases e2
        rfl
      · rw [if_neg hj] at e1
        cases e1
    · have ez : List.zipWith (fun d k => (d, HO.dK k)) ds (List.replicate nk []) = ds.map fun d => (d, HO.dK []) := by
        apply List.ext_getElem?
        intro j
        rw [List.getElem?_zipWith, List.getElem?_map, List.getElem?_replicate]
        by_cases hj : j < nk
        · rw [if_pos hj]
          cases ds[j]? <;> rfl
        · rw [if_neg hj, List.getElem?_eq_none (by omega)]
          rfl
      simp only [List.map_replicate, HK.ini]
      rw [ez]
      show ((D, HO.lst (ds.map V.ref)) :: ds.map (fun d => (d, HO.dK [])) ++ [(p3, _), (p2, _), (p1, _)]).Perm ([(p1, _), (p2, _), (p3, _)] ++ ((D, HO.lst (ds.map V.ref)) :: ds.map (fun d => (d, HO.dK []))))
      refine List.perm_append_comm.trans (List.Perm.append_right _ ?_)
      exact (List.reverse_perm _).symm
end
end Cu

namespace Cu
open PySem PySem.Spec PyProof.Rows L2
section
variable {P : Program} {w : World} {K : PySem.W.Frag} {mg : Str → Option Value} {base : Heap} {C : Addr}
theorem ok_known (F : Md K C "known" "Hearer.known" s_Hearer_known) (Bm : Blt mg) (CHearer : CHr K C) : Mf P w K mg base 1 C "known" ["self"] (spKnown K C) := by
  refine F.ok sc_Hearer_known (fun _ _ _ _ _ _ us hl => match us, hl with | [_], _ => rfl) len_of fun qual f cdv A0 outer s H vs Q E hr h => ?_
  obtain ⟨_, A, hs, c, rfl, r, hc, k⟩ := h
  refine ⟨_, (pss_one (ps_ret (pe_callTy call_list_of rfl Bm.list (by decide +kernel) (pa_cons (pe_fld (pv 0) rfl) pa_nil)))), ?_⟩
  refine ⟨_, rfl, _, C, _, _, _, rfl, r.at_p hc, CHearer.cl, CHearer.n3, hF3 A, _, _, rfl, .inl (SqL.of (r.at3 hc)), fun l hl => k l _ ?_⟩
  rw [List.map_map]
  exact (Tr.refl H []).new hl nl
end
end Cu

namespace Cu
open PySem PySem.Spec PyProof.Rows L2
section
variable {P : Program} {w : World} {K : PySem.W.Frag} {mg : Str → Option Value} {base : Heap} {C : Addr}
theorem ok_held (F : Md K C "held" "Hearer.held" s_Hearer_held) (Bm : Blt mg) (CHearer : CHr K C) : Mf P w K mg base 1 C "held" ["self"] (spHeld K C) := by
  refine F.ok sc_Hearer_held (fun _ _ _ _ _ _ us hl => match us, hl with | [_], _ => rfl) len_of fun qual f cdv A0 outer s H vs Q E hr h => ?_
  obtain ⟨_, A, hs, c, rfl, r, hc, hsz, k⟩ := h
  refine ⟨_, (pss_cons (ps_set (i := 1) sc_Hearer_held.nd rfl (Or.inl rfl) (pe_lst pa_nil))
      (pss_cons (ps_for PassesOwn.never rfl (pi_list (pe_fld (pv 0) rfl)) (pg_name (i := 2) sc_Hearer_held.nd rfl (Or.inl rfl))
        (pss_one (ps_expr (pe_bm PySem.F.plainAttrs_list PySem.F.slot_list_extend PySem.F.type_list_extend mt_extend (pv 1) (pa_cons (pe_callTy (call_listD rfl) rfl Bm.list (by decide +kernel) (pa_cons (pv 2) pa_nil)) pa_nil)))))
      (pss_one (ps_ret (pe_callB cr_sortedI rfl Bm.sorted (by decide +kernel) (pa_cons (pv 1) pa_nil)))))), ?_⟩
  refine ⟨(by show 0 ≤ sizeLine; decide), fun p hp => ?_⟩
  have t1 := (Tr.refl H []).new (o := .lst []) hp nl
  have up : ∀ {H2 : Hp} {O : Lg}, Tr H [] H2 O → Has H2 c ∧ HR K C A hs H2 c := fun t => ⟨(t.has c hc).right, r.mono t.mono⟩
  have hds : A.ds.length = hs.length := by
    obtain ⟨_, _, l1, _⟩ := r.ex
    exact l1
  refine ⟨_, rfl, _, C, _, _, _, rfl, (up t1).2.at_p (up t1).1, CHearer.cl, CHearer.n4, hF4 A, _, rfl, ⟨_, SqL.of ((up t1).2.at4 (up t1).1)⟩, for_list (K := K) (a := A.l4) (xs := A.ds.map V.ref)
    (fun i σ H2 => ∃ v : Option V, σ = [some (.ref A.p), some (.ref p), v] ∧ Tr H [] H2 [(p, .lst ((((hs.take i).map fun h => asN h.aside).flatten).map V.int))]) ⟨none, rfl, t1⟩ (fun i σ H2 _ ⟨_, _, t⟩ => SqL.of ((up t).2.at4 (up t).1)) ?_ ?_⟩
  · rintro i x σ H2 hi ⟨v, rfl, t⟩
    have hi' : i < hs.length := by
      have := (List.getElem?_eq_some_iff.mp hi).1
      rw [List.length_map] at this
      omega
    obtain ⟨h, eh⟩ : ∃ h, hs[i]? = some h := ⟨hs[i], List.getElem?_eq_getElem hi'⟩
    obtain ⟨d, kvs, ed, hd, ok⟩ := (up t).2.dict (up t).1 eh
    rw [List.getElem?_map, ed] at hi
    cases hi
    refine ⟨_, rfl, .inl ⟨rfl, _, SqL.of t.own.head⟩, _, rfl, d, kvs, rfl, .inl hd, fun l hl => ?_⟩
    have ek : (kvs.map fun kv => kV kv.1) = (asN h.aside).map V.int := by
      have := congrArg (List.map kV) ok.keys
      rw [List.map_map, List.map_map] at this
      exact this
    have hle : (((hs.take i).map fun h => asN h.aside).flatten).length + (asN h.aside).length ≤ (hs.map fun h => asN h.aside).flatten.length := by
      have e1 : (hs.map fun h => asN h.aside) = ((hs.take (i + 1)).map fun h => asN h.aside) ++ ((hs.drop (i + 1)).map fun h => asN h.aside) := by
        rw [← List.map_append, List.take_append_drop]
      rw [e1, take_snoc eh, List.map_append, List.flatten_append, List.flatten_append, List.length_append, List.length_append]
      simp
    have np : p ≠ l := ne_of_none t.own.head hl
    refine ⟨_, _, _, _, rfl, rfl, by rw [upd_ne np]; exact t.own.head, upd_same, ?_, ?_⟩
    · rw [ek, List.length_map, List.length_map]
      exact Nat.le_trans (Nat.le_trans hle hsz) (by decide)
    · refine ⟨_, rfl, ?_⟩
      have e2 : (((hs.take (i + 1)).map fun h => asN h.aside).flatten).map V.int = (((hs.take i).map fun h => asN h.aside).flatten).map V.int ++ (kvs.map fun kv => kV kv.1) := by
        rw [ek, take_snoc eh, List.map_append, List.flatten_append, List.map_append]
        simp
      rw [e2]
      exact (t.old hl).put .nil nl
  · rintro σ H2 ⟨v, rfl, t⟩
    rw [List.take_of_length_le (by rw [List.length_map]; omega)] at t
    refine ⟨_, rfl, p, _, rfl, SqL.of t.own.head, fun ns q hperm hsort hq => ?_⟩
    have e := srt_eq hperm hsort
    subst e
    exact k q _ ((t.new hq nl).swap2.tail)
end
end Cu

namespace Cu
open PySem PySem.Spec PyProof.Rows L2
section
variable {P : Program} {w : World} {K : PySem.W.Frag} {mg : Str → Option Value} {base : Heap} {C : Addr}
theorem ok_look (F : Md K C "look" "Hearer.look" s_Hearer_look) (Bm : Blt mg) (CHearer : CHr K C) : Mf P w K mg base 1 C "look" ["self", "key"] (spLook K C) := by
  refine F.ok sc_Hearer_look (fun _ _ _ _ _ _ us hl => match us, hl with | [_, _], _ => rfl) len_of fun qual f cdv A0 outer s H vs Q E hr h => ?_
  obtain ⟨_, A, hs, c, k, h, rfl, r, hc, eh, go⟩ := h
  have hp := r.at_p hc
  have hk : k < hs.length := (List.getElem?_eq_some_iff.mp eh).1
  refine ⟨_, (pss_cons (ps_if (pt_not (pt_chain op_le op_lt pe_int (pv 1) (pe_callB call_len_seq rfl Bm.len (by decide +kernel) (pa_cons (pe_fld (pv 0) rfl) pa_nil))))
        (pss_one ps_never)
        pss_nil)
      (pss_cons (ps_if (pt_cmpR op_lt (pe_ix ix_list (pe_fld (pv 0) rfl) (pv 1) (fun _ _ => rfl)) pe_int (nomark _))
        (pss_one (ps_ret pe_non))
        pss_nil)
      (pss_one (ps_ret (pe_tup (pa_cons (pe_ix ix_list (pe_fld (pv 0) rfl) (pv 1) (fun _ _ => rfl)) (pa_cons (pe_ix ix_list (pe_fld (pv 0) rfl) (pv 1) (fun _ _ => rfl)) (pa_cons (pe_ix ix_list (pe_fld (pv 0) rfl) (pv 1) (fun _ _ => rfl)) pa_nil)))))))), ?_⟩
  refine ⟨_, rfl, _, _, rfl, rfl, _, rfl, iteP (decide_eq_true (by omega)) ⟨_, rfl, _, C, _, _, _, rfl, hp, CHearer.cl, CHearer.n1, hF1 A, _, _, rfl, .inl (SqL.of (r.at1 hc)), _, _, rfl, rfl, _, rfl, iteM (by simp; omega) ?_⟩⟩
  have a1 : atI (hs.map fun h => V.int h.worth) (k : Int) = some (V.int h.worth) := at_of (j := k) rfl (by rw [List.getElem?_map, eh]; rfl)
  have a2 : atI (hs.map fun h => V.int h.since) (k : Int) = some (V.int h.since) := at_of (j := k) rfl (by rw [List.getElem?_map, eh]; rfl)
  have a3 : atI (hs.map fun h => V.int h.upto) (k : Int) = some (V.int h.upto) := at_of (j := k) rfl (by rw [List.getElem?_map, eh]; rfl)
  refine ⟨_, rfl, _, C, _, _, _, rfl, hp, CHearer.cl, CHearer.n3, hF3 A, _, rfl, _, _, _, _, rfl, rfl, SqL.of (r.at3 hc), a3, _, _, rfl, rfl, _, rfl, ite2 (fun h0 => ?_) fun h0 => ?_⟩
  · refine go _ H (Grow.refl H) ?_
    rw [lookM, if_pos (of_decide_eq_true h0)]
    exact .non
  · refine ⟨_, rfl, _, C, _, _, _, rfl, hp, CHearer.cl, CHearer.n1, hF1 A, _, rfl, _, _, _, _, rfl, rfl, SqL.of (r.at1 hc), a1, _, rfl, _, C, _, _, _, rfl, hp, CHearer.cl, CHearer.n2, hF2 A, _, rfl, _, _, _, _, rfl, rfl, SqL.of (r.at2 hc), a2,
      _, rfl, _, C, _, _, _, rfl, hp, CHearer.cl, CHearer.n3, hF3 A, _, rfl, _, _, _, _, rfl, rfl, SqL.of (r.at3 hc), a3, ⟨(by show 3 ≤ sizeLine; decide), fun t ht => go _ _ (Grow.new ht) ?_⟩⟩
    rw [lookM, if_neg (of_decide_eq_false (by simpa using h0))]
    exact .tup upd_same (.cons .int (.cons .int (.cons .int .nil)))
end
end Cu

namespace Cu
open PySem PySem.Spec PyProof.Rows L2
section
variable {P : Program} {w : World} {K : PySem.W.Frag} {mg : Str → Option Value} {base : Heap} {C : Addr}
theorem ok_whole (F : Md K C "whole" "Hearer.whole" s_Hearer_whole) (Bm : Blt mg) (CHearer : CHr K C) : Mf P w K mg base 1 C "whole" ["self"] (spWhole K C) := by
  refine F.ok sc_Hearer_whole (fun _ _ _ _ _ _ us hl => match us, hl with | [_], _ => rfl) len_of fun qual f cdv A0 outer s H vs Q E hr h => ?_
  obtain ⟨_, A, hs, c, rfl, r, hc, hne, kn, ks⟩ := h
  have hp := r.at_p hc
  have h3 := r.at3 hc
  have h2 := r.at2 hc
  rw [show (hs.map fun h => V.int h.upto) = (hs.map fun h => h.upto).map V.int by rw [List.map_map]; rfl] at h3
  rw [show (hs.map fun h => V.int h.since) = (hs.map fun h => (h.since : Int)).map V.int by rw [List.map_map]; rfl] at h2
  refine ⟨_, (pss_cons (ps_set (i := 1) sc_Hearer_whole.nd rfl (Or.inl rfl) (pe_callB (cr_min rfl) rfl Bm.min (by decide +kernel) (pa_cons (pe_fld (pv 0) rfl) pa_nil)))
      (pss_cons (ps_if (pt_cmpR op_lt (pv 1) (pe_callB (cr_max rfl) rfl Bm.max (by decide +kernel) (pa_cons (pe_fld (pv 0) rfl) pa_nil)) (nomark _))
        (pss_one (ps_ret pe_non))
        pss_nil)
      (pss_one (ps_ret (pe_ifExp (pt_cmpR op_ge (pv 1) pe_int (nomark _)) (pe_tup (pa_cons (pv 1) (pa_cons (pe_callTy call_list_of rfl Bm.list (by decide +kernel) (pa_cons (pe_fld (pv 0) rfl) pa_nil)) pa_nil))) pe_non))))), ?_⟩
  refine ⟨_, rfl, _, C, _, _, _, rfl, hp, CHearer.cl, CHearer.n3, hF3 A, A.l3, hs.map fun h => h.upto, rfl, SqL.of h3, by rw [List.length_map]; exact hne, fun m m1 m2 => ?_⟩
  have em : minU hs = m := by
    rw [minU, List.min?_eq_some_iff.mpr ⟨m1, m2⟩]
    rfl
  refine ⟨_, rfl, _, rfl, _, C, _, _, _, rfl, hp, CHearer.cl, CHearer.n2, hF2 A, A.l2, hs.map fun h => (h.since : Int), rfl, SqL.of h2, by rw [List.length_map]; exact hne, fun g g1 g2 => ?_⟩
  have eg : maxS hs = g := by
    rw [maxS, List.max?_eq_some_iff.mpr ⟨g1, g2⟩]
    rfl
  refine ⟨_, _, rfl, rfl, _, rfl, ite2 (fun h0 => ?_) fun h0 => ?_⟩
  · refine kn ?_
    rw [wholeM, if_pos (by rw [em, eg]; exact of_decide_eq_true h0)]
  · have h0' : ¬ minU hs < maxS hs := by
      rw [em, eg]
      exact of_decide_eq_false (by simpa using h0)
    refine ⟨_, rfl, _, _, rfl, rfl, _, rfl, ite2 (fun h1 => ?_) fun h1 => ?_⟩
    · refine ⟨_, rfl, _, rfl, _, C, _, _, _, rfl, hp, CHearer.cl, CHearer.n1, hF1 A, _, _, rfl, .inl (SqL.of (r.at1 hc)), fun l hl => ⟨(by show 2 ≤ sizeLine; decide), fun t ht => ?_⟩⟩
      refine ks m (hs.map fun h => h.worth) ?_ l t _ ?_ upd_same
      · rw [wholeM, if_neg h0', if_pos (by rw [em]; exact of_decide_eq_true h1), em]
      · rw [List.map_map]
        exact ((Tr.refl H []).new hl nl).old ht
    · refine kn ?_
      rw [wholeM, if_neg h0', if_neg (by rw [em]; exact of_decide_eq_false (by simpa using h1))]
end
end Cu

namespace Cu
open PySem PySem.Spec PyProof.Rows L2
/-! the mirror's steps -/
theorem findA_drop {as : List As} {n m : Int} (h : n ≠ m) : findA (dropA as m) n = findA as n := by
  induction as with
  | nil => rfl
  | cons a as ih =>
    by_cases hm : (a.n : Int) = m
    · have e1 : dropA (a :: as) m = dropA as m := by simp [dropA, hm]
      have e2 : findA (a :: as) n = findA as n := by simp [findA, show ¬ (a.n : Int) = n by omega]
      rw [e1, e2, ih]
    · have e1 : dropA (a :: as) m = a :: dropA as m := by simp [dropA, hm]
      rw [e1]
      by_cases hn : (a.n : Int) = n
      · simp [findA, hn]
      · have e2 : ∀ bs, findA (a :: bs) n = findA bs n := fun bs => by simp [findA, hn]
        rw [e2, e2, ih]
theorem findA_some {as : List As} {n : Int} (h : n ∈ asN as) : ∃ a, findA as n = some a ∧ (a.n : Int) = n := by
  induction as with
  | nil => cases h
  | cons b as ih =>
    by_cases hb : (b.n : Int) = n
    · exact ⟨b, by simp [findA, hb], hb⟩
    · have h' : n ∈ asN as := by
        rcases List.mem_cons.mp (show n ∈ (b.n : Int) :: asN as from h) with e | e
        · exact absurd e.symm hb
        · exact e
      obtain ⟨a, ha, e⟩ := ih h'
      exact ⟨a, by simpa [findA, hb] using ha, e⟩
theorem findA_n {as : List As} {n : Int} {a : As} (h : findA as n = some a) : (a.n : Int) = n := by
  have := List.find?_some h
  simpa using this
theorem fstep_find {st : HK × List Int} {n m : Int} (h : n ≠ m) : findA (HK.fstep st m).1.aside n = findA st.1.aside n := by
  unfold HK.fstep
  cases hf : findA st.1.aside m with
  | none => rfl
  | some a =>
    dsimp only
    split
    · exact findA_drop h
    · split
      · exact findA_drop h
      · rfl
theorem fold_find {n : Int} : ∀ {l : List Int} {st : HK × List Int}, n ∉ l → findA (l.foldl HK.fstep st).1.aside n = findA st.1.aside n
  | [], _, _ => rfl
  | m :: l, st, h => by
    rw [List.foldl_cons, fold_find fun q => h (List.mem_cons_of_mem _ q), fstep_find fun q => h (by rw [q]; exact List.mem_cons_self)]
theorem fold_len {l : List Int} {st : HK × List Int} : (l.foldl HK.fstep st).2.length ≤ st.2.length + l.length := by
  induction l generalizing st with
  | nil => exact Nat.le_refl _
  | cons n l ih =>
    rw [List.foldl_cons]
    refine Nat.le_trans ih ?_
    have : (HK.fstep st n).2.length ≤ st.2.length + 1 := by
      unfold HK.fstep
      cases findA st.1.aside n with
      | none => exact Nat.le_succ _
      | some a =>
        dsimp only
        split
        · exact Nat.le_succ _
        · split
          · simp
          · exact Nat.le_succ _
    rw [List.length_cons]
    omega
theorem srt_perm (ns : List Int) : (srt ns).Perm ns := List.mergeSort_perm ns _
theorem wd_set (b : Bool) : decide (V.str (wd b) = V.str "set") = b := by cases b <;> decide +kernel
theorem wd_add (b : Bool) : decide (V.str (wd b) = V.str "add") = !b := by cases b <;> decide +kernel
/-- what a key's changes put aside must be, to be sorted -/
structure Wf (h : HK) : Prop where
  nd : (asN h.aside).Nodup
  few : h.aside.length < 122
def prt (hs : List HK) (l : Letter) (m : Nat) : List HK := hs.mapIdx fun k h => if k < m then (hearK k h l).1 else h
def fnd (hs : List HK) (l : Letter) (m : Nat) : List Int := ((hs.mapIdx fun k h => (hearK k h l).2).take m).flatten
theorem prt_get {hs : List HK} {l : Letter} {m k : Nat} {h : HK} (e : hs[k]? = some h) : (prt hs l m)[k]? = some (if k < m then (hearK k h l).1 else h) := by
  rw [prt, List.getElem?_mapIdx, e]
  rfl
theorem prt_len (hs : List HK) (l : Letter) (m : Nat) : (prt hs l m).length = hs.length := by simp [prt]
theorem prt_succ {hs : List HK} {l : Letter} {m : Nat} {h : HK} (e : hs[m]? = some h) : prt hs l (m + 1) = (prt hs l m).set m (hearK m h l).1 := by
  apply List.ext_getElem?
  intro k
  cases ek : hs[k]? with
  | none =>
    have hk := List.getElem?_eq_none_iff.mp ek
    rw [List.getElem?_eq_none (by rw [prt_len]; exact hk), List.getElem?_eq_none (by rw [List.length_set, prt_len]; exact hk)]
  | some g =>
    rw [prt_get ek]
    by_cases hk : m = k
    · subst hk
      rw [e] at ek
      cases ek
      rw [List.getElem?_set_self (by rw [prt_len]; exact (List.getElem?_eq_some_iff.mp e).1), if_pos (Nat.lt_succ_self _)]
    · rw [List.getElem?_set_ne hk, prt_get ek]
      congr 1
      by_cases h1 : k < m
      · rw [if_pos h1, if_pos (by omega)]
      · rw [if_neg h1, if_neg (by omega)]
theorem fnd_succ {hs : List HK} {l : Letter} {m : Nat} {h : HK} (e : hs[m]? = some h) : fnd hs l (m + 1) = fnd hs l m ++ (hearK m h l).2 := by
  unfold fnd
  rw [take_snoc (x := (hearK m h l).2) (by rw [List.getElem?_mapIdx, e]; rfl), List.flatten_append]
  simp
theorem prt_all {hs : List HK} {l : Letter} {m : Nat} (h : hs.length ≤ m) : prt hs l m = hear hs l := by
  apply List.ext_getElem?
  intro k
  cases ek : hs[k]? with
  | none =>
    have hk := List.getElem?_eq_none_iff.mp ek
    rw [List.getElem?_eq_none (by rw [prt_len]; exact hk), List.getElem?_eq_none (by rw [hear_len]; exact hk)]
  | some g =>
    have hk := (List.getElem?_eq_some_iff.mp ek).1
    rw [prt_get ek, if_pos (by omega), hear, List.getElem?_mapIdx, ek]
    rfl
theorem fnd_all {hs : List HK} {l : Letter} {m : Nat} (h : hs.length ≤ m) : fnd hs l m = heard hs l := by
  unfold fnd heard
  rw [List.take_of_length_le (by simpa using h)]
theorem flat_nil {xs : List (List Int)} (h : ∀ x ∈ xs, x = []) : xs.flatten = [] := by
  induction xs with
  | nil => rfl
  | cons x xs ih =>
    rw [List.flatten_cons, h x List.mem_cons_self, ih fun y hy => h y (List.mem_cons_of_mem _ hy)]
    rfl
/-- a letter that does nothing with the keys ahead of b, nothing with those from e on -/
theorem prt_low {hs : List HK} {l : Letter} {b : Nat} (h : ∀ k g, k < b → hearK k g l = (g, [])) : prt hs l b = hs ∧ fnd hs l b = [] := by
  constructor
  · apply List.ext_getElem?
    intro k
    cases ek : hs[k]? with
    | none => rw [List.getElem?_eq_none (by rw [prt_len]; exact List.getElem?_eq_none_iff.mp ek)]
    | some g =>
      rw [prt_get ek]
      split
      · rename_i hk
        rw [h k g hk]
      · rfl
  · unfold fnd
    have : ∀ x ∈ (hs.mapIdx fun k h => (hearK k h l).2).take b, x = [] := fun x hx => by
      obtain ⟨k, hk⟩ := List.getElem?_of_mem hx
      have hkb : k < b := by
        have := (List.getElem?_eq_some_iff.mp hk).1
        rw [List.length_take] at this
        omega
      rw [List.getElem?_take_of_lt hkb, List.getElem?_mapIdx] at hk
      cases ek : hs[k]? with
      | none =>
        rw [ek] at hk
        cases hk
      | some g =>
        rw [ek] at hk
        have e1 : (hearK k g l).2 = x := Option.some.inj hk
        rw [← e1, h k g hkb]
    exact flat_nil this
theorem prt_high {hs : List HK} {l : Letter} {e : Nat} (h : ∀ k g, e ≤ k → hearK k g l = (g, [])) : prt hs l e = hear hs l ∧ fnd hs l e = heard hs l := by
  constructor
  · apply List.ext_getElem?
    intro k
    cases ek : hs[k]? with
    | none => rw [List.getElem?_eq_none (by rw [prt_len]; exact List.getElem?_eq_none_iff.mp ek), List.getElem?_eq_none (by rw [hear_len]; exact List.getElem?_eq_none_iff.mp ek)]
    | some g =>
      rw [prt_get ek, hear, List.getElem?_mapIdx, ek]
      split
      · rfl
      · rename_i hk
        show some g = some (hearK k g l).1
        rw [h k g (by omega)]
  · unfold heard fnd
    have : ∀ x ∈ (hs.mapIdx fun k h => (hearK k h l).2).drop e, x = [] := fun x hx => by
      obtain ⟨k, hk⟩ := List.getElem?_of_mem hx
      rw [List.getElem?_drop, List.getElem?_mapIdx] at hk
      cases ek : hs[e + k]? with
      | none =>
        rw [ek] at hk
        cases hk
      | some g =>
        rw [ek] at hk
        have e1 : (hearK (e + k) g l).2 = x := Option.some.inj hk
        rw [← e1, h (e + k) g (by omega)]
    have h0 : ((hs.mapIdx fun k h => (hearK k h l).2).drop e).flatten = [] := flat_nil this
    conv => rhs; rw [← List.take_append_drop e (hs.mapIdx fun k h => (hearK k h l).2), List.flatten_append, h0, List.append_nil]
section
variable {K : PySem.W.Frag} {H : Hp}
theorem Rp.chg_inv {n ahead : Nat} {c : Ch} {v : V} (h : Rp K H (Letter.enc (.change n c ahead)) v) : ∃ a, v = .ref a ∧ H a = some (.tup [.str "change", .int n, .int c.key, .str (wd c.set), .int c.worth, .int ahead]) := by
  obtain ⟨a, xs, e, f, r⟩ := Rp.tup_inv h
  obtain ⟨v1, r1, e1, h1, r⟩ := r.cons_inv
  obtain ⟨v2, r2, e2, h2, r⟩ := r.cons_inv
  obtain ⟨v3, r3, e3, h3, r⟩ := r.cons_inv
  obtain ⟨v4, r4, e4, h4, r⟩ := r.cons_inv
  obtain ⟨v5, r5, e5, h5, r⟩ := r.cons_inv
  obtain ⟨v6, r6, e6, h6, r⟩ := r.cons_inv
  have := r.nil_inv
  subst this e6 e5 e4 e3 e2 e1
  have h1 := Rp.str_iff.mp h1
  have h2 := Rp.int_iff.mp h2
  have h3 := Rp.int_iff.mp h3
  have h4 := Rp.str_iff.mp h4
  have h5 := Rp.int_iff.mp h5
  have h6 := Rp.int_iff.mp h6
  subst h1 h2 h3 h4 h5 h6
  exact ⟨a, e, f⟩
theorem Rp.part_inv {n b : Nat} {rows : List (Int × Nat)} {v : V} (h : Rp K H (Letter.enc (.part n b rows)) v) :
    ∃ a t xs, v = .ref a ∧ H a = some (.tup [.str "part", .int n, .int b, .ref t]) ∧ H t = some (.tup xs) ∧ xs.length = rows.length ∧ ∀ (i : Nat) r, rows[i]? = some r → ∃ q, xs[i]? = some (.ref q) ∧ H q = some (.tup [.int r.1, .int r.2]) := by
  obtain ⟨a, xs, e, f, r⟩ := Rp.tup_inv h
  obtain ⟨v1, r1, e1, h1, r⟩ := r.cons_inv
  obtain ⟨v2, r2, e2, h2, r⟩ := r.cons_inv
  obtain ⟨v3, r3, e3, h3, r⟩ := r.cons_inv
  obtain ⟨v4, r4, e4, h4, r⟩ := r.cons_inv
  have := r.nil_inv
  subst this e4 e3 e2 e1
  have h1 := Rp.str_iff.mp h1
  have h2 := Rp.int_iff.mp h2
  have h3 := Rp.int_iff.mp h3
  obtain ⟨t, ys, e4, f4, r4⟩ := h4.tup_inv
  subst h1 h2 h3 e4
  refine ⟨a, t, ys, e, f, f4, by rw [r4.length, List.length_map], fun i r hr => ?_⟩
  obtain ⟨u, hu, ru⟩ := r4.get (i := i) (d := .tuple [.int r.1, .int r.2]) (by rw [List.getElem?_map, hr]; rfl)
  obtain ⟨q, zs, e5, f5, r5⟩ := ru.tup_inv
  obtain ⟨w1, z1, e6, g1, r5⟩ := r5.cons_inv
  obtain ⟨w2, z2, e7, g2, r5⟩ := r5.cons_inv
  have := r5.nil_inv
  subst this e7 e6 e5
  have g1 := Rp.int_iff.mp g1
  have g2 := Rp.int_iff.mp g2
  subst g1 g2
  exact ⟨q, hu, f5⟩
theorem Rp.beat_inv {n : Nat} {lasts : List Nat} {v : V} (h : Rp K H (Letter.enc (.beat n lasts)) v) :
    ∃ a t, v = .ref a ∧ H a = some (.tup [.str "beat", .int n, .ref t]) ∧ H t = some (.tup (lasts.map fun k : Nat => V.int k)) := by
  obtain ⟨a, xs, e, f, r⟩ := Rp.tup_inv h
  obtain ⟨v1, r1, e1, h1, r⟩ := r.cons_inv
  obtain ⟨v2, r2, e2, h2, r⟩ := r.cons_inv
  obtain ⟨v3, r3, e3, h3, r⟩ := r.cons_inv
  have := r.nil_inv
  subst this e3 e2 e1
  have h1 := Rp.str_iff.mp h1
  have h2 := Rp.int_iff.mp h2
  obtain ⟨t, ys, e4, f4, r4⟩ := h3.tup_inv
  subst h1 h2 e4
  have ey : ys = lasts.map fun k : Nat => V.int k := by
    have : (lasts.map fun k : Nat => PyData.int k) = (lasts.map fun k : Nat => (k : Int)).map PyData.int := by
      rw [List.map_map]
      rfl
    rw [this] at r4
    have := r4.ints
    rw [this, List.map_map]
    rfl
  subst ey
  exact ⟨a, t, e, f, f4⟩
end
def spDo (K : PySem.W.Frag) (C : Addr) : Sp := fun vs H Q _ => vs.length = 2 ∧ ∃ (A : HA) (hs : List HK) (c : Lg) (v : V) (n ahead : Nat) (ch : Ch) (h : HK), vs = [.ref A.p, v] ∧ HR K C A hs H c ∧ Has H c ∧ Rp K H (Letter.enc (.change n ch ahead)) v ∧ hs[ch.key]? = some h ∧
  ∀ (c' : Lg) (H' : Hp), HR K C A (hs.set ch.key (h.done n ch.set ch.worth)) H' c' → Tr H c H' c' → Q .non H'
def spFreed (K : PySem.W.Frag) (C : Addr) : Sp := fun vs H Q _ => vs.length = 2 ∧ ∃ (A : HA) (hs : List HK) (c : Lg) (k : Nat) (h : HK), vs = [.ref A.p, .int k] ∧ HR K C A hs H c ∧ Has H c ∧ hs[k]? = some h ∧ Wf h ∧
  ∀ (r : Addr) (c' : Lg) (H' : Hp), HR K C A (hs.set k h.free.1) H' c' → Tr H c H' ((r, .lst (h.free.2.map V.int)) :: c') → Q (.ref r) H'
def spChanged (K : PySem.W.Frag) (C : Addr) : Sp := fun vs H Q _ => vs.length = 2 ∧ ∃ (A : HA) (hs : List HK) (c : Lg) (v : V) (n ahead : Nat) (ch : Ch) (h : HK), vs = [.ref A.p, v] ∧ HR K C A hs H c ∧ Has H c ∧ Rp K H (Letter.enc (.change n ch ahead)) v ∧ hs[ch.key]? = some h ∧ Wf h ∧
  ∀ (r : Addr) (c' : Lg) (H' : Hp), HR K C A (hs.set ch.key (h.chg n ch ahead).1) H' c' → Tr H c H' ((r, .lst ((h.chg n ch ahead).2.map V.int)) :: c') → Q (.ref r) H'
def spHear (K : PySem.W.Frag) (C : Addr) : Sp := fun vs H Q _ => vs.length = 2 ∧ ∃ (A : HA) (hs : List HK) (c : Lg) (v : V) (l : Letter), vs = [.ref A.p, v] ∧ HR K C A hs H c ∧ Has H c ∧ Rp K H l.enc v ∧ hs.length ≤ 8 ∧ (∀ h ∈ hs, Wf h) ∧
  (match l with | .change _ ch _ => ch.key < hs.length | .part _ b rows => b + rows.length ≤ hs.length | .beat _ lasts => lasts.length = hs.length) ∧
  ∀ (r : Addr) (c' : Lg) (H' : Hp), HR K C A (hear hs l) H' c' → Tr H c H' ((r, .lst ((heard hs l).map V.int)) :: c') → Q (.ref r) H'
def spCopied (K : PySem.W.Frag) (C : Addr) : Sp := fun vs H Q _ => vs.length = 2 ∧ ∃ (A : HA) (hs : List HK) (c : Lg) (v : V) (n b : Nat) (rows : List (Int × Nat)), vs = [.ref A.p, v] ∧ HR K C A hs H c ∧ Has H c ∧ Rp K H (Letter.enc (.part n b rows)) v ∧ hs.length ≤ 8 ∧ (∀ h ∈ hs, Wf h) ∧ b + rows.length ≤ hs.length ∧
  ∀ (r : Addr) (c' : Lg) (H' : Hp), HR K C A (hear hs (.part n b rows)) H' c' → Tr H c H' ((r, .lst ((heard hs (.part n b rows)).map V.int)) :: c') → Q (.ref r) H'
theorem HR.len {K : PySem.W.Frag} {C : Addr} {A : HA} {hs : List HK} {H : Hp} {c : Lg} (r : HR K C A hs H c) : A.ds.length = hs.length := let ⟨_, _, h, _⟩ := r.ex; h
theorem set_back {hs : List HK} {k : Nat} {h : HK} (e : hs[k]? = some h) : hs.set k h = hs := by
  apply List.ext_getElem?
  intro i
  by_cases hi : k = i
  · subst hi
    rw [List.getElem?_set_self (List.getElem?_eq_some_iff.mp e).1, e]
  · rw [List.getElem?_set_ne hi]
theorem ndec {c : Prop} [Decidable c] (h : ¬ decide c = true) : ¬ c := fun q => h (decide_eq_true q)
theorem hFno {A : HA} {m : Str} (h : (hF A).lookup m = none := by rfl) : (hF A).lookup m = none := h
theorem ixN_of {n j : Nat} {z : Int} (e : z = (j : Int)) (h : j < n) : ixN n z = some j := by
  rw [e]
  exact ixN_nat h
theorem free_len {h : HK} (w : Wf h) : h.free.2.length ≤ 121 := by
  refine Nat.le_trans fold_len ?_
  rw [(srt_perm _).length_eq, asN, List.length_map]
  have := w.few
  show 0 + _ ≤ _
  omega
theorem hearK_len {k : Nat} {h : HK} {l : Letter} (w : Wf h) : (hearK k h l).2.length ≤ 122 := by
  cases l with
  | change n c ahead =>
    simp only [hearK]
    split
    · unfold HK.chg
      split
      · exact Nat.zero_le _
      · split
        · exact Nat.zero_le _
        · have := free_len (h := h.done n c.set c.worth) ⟨w.nd, w.few⟩
          show _ + 1 ≤ 122
          omega
    · exact Nat.zero_le _
  | part n b rows =>
    simp only [hearK]
    split
    · split
      · unfold HK.row
        split
        · rename_i r _ _
          have := free_len (h := { h with worth := r.1, since := r.2, upto := n }) ⟨w.nd, w.few⟩
          omega
        · exact Nat.zero_le _
      · exact Nat.zero_le _
    · exact Nat.zero_le _
  | beat n lasts =>
    simp only [hearK]
    split <;> exact Nat.zero_le _
theorem flat_len {b : Nat} : ∀ {xs : List (List Int)}, (∀ x ∈ xs, x.length ≤ b) → xs.flatten.length ≤ b * xs.length
  | [], _ => Nat.zero_le _
  | x :: xs, h => by
    have ih := flat_len (xs := xs) fun y hy => h y (List.mem_cons_of_mem _ hy)
    have h1 := h x List.mem_cons_self
    rw [List.flatten_cons, List.length_append, List.length_cons, Nat.mul_add]
    omega
theorem fnd_len {hs : List HK} {l : Letter} {m : Nat} (w : ∀ h ∈ hs, Wf h) (h8 : hs.length ≤ 8) : (fnd hs l m).length ≤ 976 := by
  unfold fnd
  refine Nat.le_trans (flat_len (b := 122) fun x hx => ?_) ?_
  · have hx := List.mem_of_mem_take hx
    obtain ⟨k, hk⟩ := List.getElem?_of_mem hx
    rw [List.getElem?_mapIdx] at hk
    cases ek : hs[k]? with
    | none =>
      rw [ek] at hk
      cases hk
    | some g =>
      rw [ek] at hk
      have e1 : (hearK k g l).2 = x := Option.some.inj hk
      rw [← e1]
      exact hearK_len (w g (List.mem_of_getElem? ek))
  · rw [List.length_take, List.length_mapIdx]
    have : min m hs.length ≤ 8 := Nat.le_trans (Nat.min_le_right _ _) h8
    omega
theorem hear_change {hs : List HK} {n ahead : Nat} {ch : Ch} {h : HK} (e : hs[ch.key]? = some h) : hear hs (.change n ch ahead) = hs.set ch.key (h.chg n ch ahead).1 ∧ heard hs (.change n ch ahead) = (h.chg n ch ahead).2 := by
  have ek : hearK ch.key h (.change n ch ahead) = h.chg n ch ahead := by simp only [hearK, if_pos]
  obtain ⟨a1, a2⟩ := prt_low (hs := hs) (l := .change n ch ahead) (b := ch.key) fun k g hk => by
    simp only [hearK]
    rw [if_neg (by omega)]
  obtain ⟨b1, b2⟩ := prt_high (hs := hs) (l := .change n ch ahead) (e := ch.key + 1) fun k g hk => by
    simp only [hearK]
    rw [if_neg (by omega)]
  rw [prt_succ e, a1, ek] at b1
  rw [fnd_succ e, a2, ek] at b2
  exact ⟨b1.symm, b2.symm⟩
end Cu

namespace Cu
open PySem PySem.Spec PyProof.Rows L2
abbrev s_Hearer_do : Stmt := (inClass (top 16) 7)
theorem sc_Hearer_do : FnScope ["self", "letter", "word", "number", "key", "kind", "worth", "ahead"] ["self", "letter"] (defScope s_Hearer_do) := ⟨rfl, rfl, rfl, by decide +kernel, rfl, by decide +kernel, by decide +kernel⟩

abbrev s_Hearer_freed : Stmt := (inClass (top 16) 9)
theorem sc_Hearer_freed : FnScope ["self", "key", "found", "number", "letter"] ["self", "key"] (defScope s_Hearer_freed) := ⟨rfl, rfl, rfl, by decide +kernel, rfl, by decide +kernel, by decide +kernel⟩

abbrev s_Hearer_changed : Stmt := (inClass (top 16) 6)
theorem sc_Hearer_changed : FnScope ["self", "letter", "word", "number", "key", "kind", "worth", "ahead"] ["self", "letter"] (defScope s_Hearer_changed) := ⟨rfl, rfl, rfl, by decide +kernel, rfl, by decide +kernel, by decide +kernel⟩

abbrev s_Hearer_copied : Stmt := (inClass (top 16) 8)
theorem sc_Hearer_copied : FnScope ["self", "letter", "word", "number", "begin", "rows", "found", "at", "worth", "last", "key"] ["self", "letter"] (defScope s_Hearer_copied) := ⟨rfl, rfl, rfl, by decide +kernel, rfl, by decide +kernel, by decide +kernel⟩

abbrev s_Hearer_hear : Stmt := (inClass (top 16) 5)
theorem sc_Hearer_hear : FnScope ["self", "letter", "key"] ["self", "letter"] (defScope s_Hearer_hear) := ⟨rfl, rfl, rfl, by decide +kernel, rfl, by decide +kernel, by decide +kernel⟩

section
variable {P : Program} {w : World} {K : PySem.W.Frag} {mg : Str → Option Value} {base : Heap} {C : Addr}
theorem ok_do (F : Md K C "do" "Hearer.do" s_Hearer_do) (Bm : Blt mg) (CHearer : CHr K C) : Mf P w K mg base 1 C "do" ["self", "letter"] (spDo K C) := by
  refine F.ok sc_Hearer_do (fun _ _ _ _ _ _ us hl => match us, hl with | [_, _], _ => rfl) len_of fun qual f cdv A0 outer s H vs Q E hr h => ?_
  obtain ⟨_, A, hs, c, v, n, ahead, ch, h, rfl, r, hc, rv, eh, k⟩ := h
  obtain ⟨a, rfl, ha⟩ := rv.chg_inv
  have hk : ch.key < hs.length := (List.getElem?_eq_some_iff.mp eh).1
  have a1 : atI (hs.map fun h => V.int h.worth) (ch.key : Int) = some (V.int h.worth) := at_of (j := ch.key) rfl (by rw [List.getElem?_map, eh]; rfl)
  refine ⟨_, (pss_cons (ps_asg (pv 1) (pg_tup rfl (pgs_cons (pg_name (i := 2) sc_Hearer_do.nd rfl (Or.inl rfl)) (pgs_cons (pg_name (i := 3) sc_Hearer_do.nd rfl (Or.inl rfl)) (pgs_cons (pg_name (i := 4) sc_Hearer_do.nd rfl (Or.inl rfl)) (pgs_cons (pg_name (i := 5) sc_Hearer_do.nd rfl (Or.inl rfl)) (pgs_cons (pg_name (i := 6) sc_Hearer_do.nd rfl (Or.inl rfl)) (pgs_cons (pg_name (i := 7) sc_Hearer_do.nd rfl (Or.inl rfl)) pgs_nil))))))))
      (pss_cons (ps_asg (pe_ifExp (pt_cmpR op_eq (pv 5) pe_str (nomark _)) (pv 6) (pe_op op_add (pe_ix ix_list (pe_fld (pv 0) rfl) (pv 4) (fun _ _ => rfl)) (pv 6))) (pg_sub (pe_fld (pv 0) rfl) (pv 4) set_list))
      (pss_cons (ps_asg (pv 3) (pg_sub (pe_fld (pv 0) rfl) (pv 4) set_list))
      (pss_one (ps_asg (pv 3) (pg_sub (pe_fld (pv 0) rfl) (pv 4) set_list)))))), ?_⟩
  refine ⟨_, rfl, a, _, rfl, SqT.of ha, rfl, _, _, rfl, _, _, rfl, _, _, rfl, _, _, rfl, _, _, rfl, _, _, rfl, rfl, ?_⟩
  have ix1 : ∀ {α : Type} (g : HK → α), ixN (hs.map g).length (ch.key : Int) = some ch.key := fun g => ixN_nat (by rw [List.length_map]; exact hk)
  refine ⟨_, rfl, rfl, _, rfl, ite2 (fun h0 => ?_) fun h0 => ?_⟩
  · rw [wd_set] at h0
    refine ⟨_, rfl, _, rfl, _, C, _, _, _, rfl, r.at_p hc, CHearer.cl, CHearer.n1, hF1 A, _, rfl, _, _, _, _, rfl, rfl, r.at1 hc, ix1 _, ?_⟩
    obtain ⟨c1, r1, t1⟩ := r.set1 hc eh ch.worth
    have hc1 := t1.now hc
    have e1 : (hs.set ch.key { h with worth := ch.worth })[ch.key]? = some { h with worth := ch.worth } := List.getElem?_set_self hk
    refine ⟨_, rfl, _, rfl, _, C, _, _, _, rfl, r1.at_p hc1, CHearer.cl, CHearer.n2, hF2 A, _, rfl, _, _, _, _, rfl, rfl, r1.at2 hc1, ixN_nat (by rw [List.length_map, List.length_set]; exact hk), ?_⟩
    obtain ⟨c2, r2, t2⟩ := r1.set2 hc1 e1 n
    rw [List.set_set] at r2
    have hc2 := t2.now hc1
    have e2 : (hs.set ch.key { h with worth := ch.worth, since := n })[ch.key]? = some { h with worth := ch.worth, since := n } := List.getElem?_set_self hk
    refine ⟨_, rfl, _, rfl, _, C, _, _, _, rfl, r2.at_p hc2, CHearer.cl, CHearer.n3, hF3 A, _, rfl, _, _, _, _, rfl, rfl, r2.at3 hc2, ixN_nat (by rw [List.length_map, List.length_set]; exact hk), ?_⟩
    obtain ⟨c3, r3, t3⟩ := r2.set3 hc2 e2 n
    rw [List.set_set] at r3
    refine k c3 _ ?_ ((t1.trans t2).trans t3)
    have ee : h.done n ch.set ch.worth = { h with worth := ch.worth, since := n, upto := n } := by
      unfold HK.done
      rw [if_pos h0]
    rw [ee]
    exact r3
  · rw [wd_set] at h0
    refine ⟨_, rfl, _, C, _, _, _, rfl, r.at_p hc, CHearer.cl, CHearer.n1, hF1 A, _, rfl, _, _, _, _, rfl, rfl, SqL.of (r.at1 hc), a1, _, rfl, _, _, rfl, rfl, _, rfl, _, C, _, _, _, rfl, r.at_p hc, CHearer.cl, CHearer.n1, hF1 A, _, rfl, _, _, _, _, rfl, rfl, r.at1 hc, ix1 _, ?_⟩
    obtain ⟨c1, r1, t1⟩ := r.set1 hc eh (h.worth + ch.worth)
    have hc1 := t1.now hc
    have e1 : (hs.set ch.key { h with worth := h.worth + ch.worth })[ch.key]? = some { h with worth := h.worth + ch.worth } := List.getElem?_set_self hk
    refine ⟨_, rfl, _, rfl, _, C, _, _, _, rfl, r1.at_p hc1, CHearer.cl, CHearer.n2, hF2 A, _, rfl, _, _, _, _, rfl, rfl, r1.at2 hc1, ixN_nat (by rw [List.length_map, List.length_set]; exact hk), ?_⟩
    obtain ⟨c2, r2, t2⟩ := r1.set2 hc1 e1 n
    rw [List.set_set] at r2
    have hc2 := t2.now hc1
    have e2 : (hs.set ch.key { h with worth := h.worth + ch.worth, since := n })[ch.key]? = some { h with worth := h.worth + ch.worth, since := n } := List.getElem?_set_self hk
    refine ⟨_, rfl, _, rfl, _, C, _, _, _, rfl, r2.at_p hc2, CHearer.cl, CHearer.n3, hF3 A, _, rfl, _, _, _, _, rfl, rfl, r2.at3 hc2, ixN_nat (by rw [List.length_map, List.length_set]; exact hk), ?_⟩
    obtain ⟨c3, r3, t3⟩ := r2.set3 hc2 e2 n
    rw [List.set_set] at r3
    refine k c3 _ ?_ ((t1.trans t2).trans t3)
    have ee : h.done n ch.set ch.worth = { h with worth := h.worth + ch.worth, since := n, upto := n } := by
      unfold HK.done
      rw [if_neg h0]
    rw [ee]
    exact r3
end
end Cu

namespace Cu
open PySem PySem.Spec PyProof.Rows L2
section
variable {P : Program} {w : World} {K : PySem.W.Frag} {mg : Str → Option Value} {base : Heap} {C : Addr}
theorem ok_freed (F : Md K C "freed" "Hearer.freed" s_Hearer_freed) (Bm : Blt mg) (CHearer : CHr K C) (m_Hearer_do : Mf P w K mg base 1 C "do" ["self", "letter"] (spDo K C)) : Mf P w K mg base 2 C "freed" ["self", "key"] (spFreed K C) := by
  refine F.ok sc_Hearer_freed (fun _ _ _ _ _ _ us hl => match us, hl with | [_, _], _ => rfl) len_of fun qual f cdv A0 outer s H vs Q E hr h => ?_
  obtain ⟨_, A, hs, c, k, h, rfl, r, hc, eh, wf, go⟩ := h
  have hk : k < hs.length := (List.getElem?_eq_some_iff.mp eh).1
  refine ⟨_, (pss_cons (ps_set (i := 2) sc_Hearer_freed.nd rfl (Or.inl rfl) (pe_lst pa_nil))
      (pss_cons (ps_for PassesOwn.never rfl (pi_list (pe_callB (call_sortedDIw rfl) rfl Bm.sorted (by decide +kernel) (pa_cons (pe_ix ix_list (pe_fld (pv 0) rfl) (pv 1) (fun _ _ => rfl)) pa_nil))) (pg_name (i := 3) sc_Hearer_freed.nd rfl (Or.inl rfl))
        (pss_cons (ps_set (i := 4) sc_Hearer_freed.nd rfl (Or.inl rfl) (pe_dget (hu_of hr) (pe_ix ix_list (pe_fld (pv 0) rfl) (pv 1) (fun _ _ => rfl)) (pv 3) (fun _ _ => rfl)))
        (pss_one (ps_if (pt_cmpR op_le (pv 3) (pe_ix ix_list (pe_fld (pv 0) rfl) (pv 1) (fun _ _ => rfl)) (nomark _))
          (pss_one (ps_expr (pe_dpop1 (pe_ix ix_list (pe_fld (pv 0) rfl) (pv 1) (fun _ _ => rfl)) (pv 3) ⟨rfl, rfl, rfl, rfl⟩)))
          (pss_one (ps_if (pt_cmpR op_le (pe_ix ix_tup (pv 4) pe_int (fun _ _ => rfl)) (pe_ix ix_list (pe_fld (pv 0) rfl) (pv 1) (fun _ _ => rfl)) (nomark _))
            (pss_cons (ps_expr (pe_dpop1 (pe_ix ix_list (pe_fld (pv 0) rfl) (pv 1) (fun _ _ => rfl)) (pv 3) ⟨rfl, rfl, rfl, rfl⟩))
            (pss_cons (ps_expr (pm (pv 0) CHearer.cl m_Hearer_do hr (pa_cons (pv 4) pa_nil)))
            (pss_one (ps_expr (pe_bm PySem.F.plainAttrs_list PySem.F.slot_list_append PySem.F.type_list_append mt_append (pv 2) (pa_cons (pv 3) pa_nil))))))
            pss_nil))))))
      (pss_one (ps_ret (pv 2))))), ?_⟩
  refine ⟨(by show 0 ≤ sizeLine; decide), fun p hp => ?_⟩
  have t1 := (Tr.refl H c).new (o := .lst []) hp nl
  have hc1 := (t1.now hc).tail
  have r1 := r.mono t1.mono
  obtain ⟨d, kvs, ed, hd, ok⟩ := r1.dict hc1 eh
  have ad : atI (A.ds.map V.ref) (k : Int) = some (.ref d) := at_of (j := k) rfl (by rw [List.getElem?_map, ed]; rfl)
  refine ⟨_, rfl, _, C, _, _, _, rfl, r1.at_p hc1, CHearer.cl, CHearer.n4, hF4 A, _, rfl, _, _, _, _, rfl, rfl, SqL.of (r1.at4 hc1), ad, d, kvs, asN h.aside, rfl, .inl hd, ok.keys, by rw [asN, List.length_map]; exact Nat.le_trans (Nat.le_of_lt wf.few) (by decide), fun ys q hperm hsort hq => ?_⟩
  have e := srt_eq hperm hsort
  subst e
  have t2 := t1.new (o := .lst ((srt (asN h.aside)).map V.int)) hq nl
  have hnd : (srt (asN h.aside)).Nodup := (srt_perm _).nodup_iff.mpr wf.nd
  have hsz : (srt (asN h.aside)).length < 122 := by rw [(srt_perm _).length_eq, asN, List.length_map]; exact wf.few
  refine ⟨q, rfl, ⟨_, SqL.of upd_same⟩, for_list (K := K) (a := q) (xs := (srt (asN h.aside)).map V.int) (fun i σ H2 => ∃ (v3 v4 : Option V) (c' : Lg) (st : HK × List Int), σ = [some (.ref A.p), some (.int k), some (.ref p), v3, v4] ∧
      st = ((srt (asN h.aside)).take i).foldl HK.fstep (h, []) ∧ HR K C A (hs.set k st.1) H2 c' ∧ Tr H c H2 ((q, .lst ((srt (asN h.aside)).map V.int)) :: (p, .lst (st.2.map V.int)) :: c'))
    ⟨none, none, c, (h, []), rfl, rfl, by rw [set_back eh]; exact r.mono t2.mono, t2⟩ (fun i σ H2 _ ⟨_, _, _, _, _, _, _, t⟩ => SqL.of (t.now hc).head) ?_ ?_⟩
  · rintro i x σ H2 hi ⟨v3, v4, c', st, rfl, est, r2, t3⟩
    rw [List.getElem?_map] at hi
    obtain ⟨n, en, rfl⟩ : ∃ n, (srt (asN h.aside))[i]? = some n ∧ x = V.int n := by
      cases e1 : (srt (asN h.aside))[i]? with
      | none =>
        rw [e1] at hi
        cases hi
      | some n =>
        rw [e1] at hi
        exact ⟨n, rfl, (Option.some.inj hi).symm⟩
    have hil : i < 122 := by
      have := (List.getElem?_eq_some_iff.mp en).1
      omega
    have hh := t3.now hc
    have hc3 := hh.tail.tail
    have eg : (hs.set k st.1)[k]? = some st.1 := List.getElem?_set_self hk
    have hnot : n ∉ (srt (asN h.aside)).take i := fun hm => by
      obtain ⟨j, hj⟩ := List.getElem?_of_mem hm
      have hji : j < i := by
        have := (List.getElem?_eq_some_iff.mp hj).1
        rw [List.length_take] at this
        omega
      rw [List.getElem?_take_of_lt hji] at hj
      have := nd_ix hnd hj en
      omega
    have hin : n ∈ asN h.aside := (srt_perm _).mem_iff.mp (List.mem_of_getElem? en)
    obtain ⟨a, ha, ean⟩ := findA_some hin
    have ha2 : findA st.1.aside n = some a := by
      rw [est, fold_find hnot]
      exact ha
    have est' : HK.fstep st n = ((srt (asN h.aside)).take (i + 1)).foldl HK.fstep (h, []) := by
      rw [take_snoc en, List.foldl_append, ← est]
      rfl
    have hst2 : st.2.length ≤ i := by
      have := fold_len (l := (srt (asN h.aside)).take i) (st := (h, []))
      rw [← est] at this
      refine Nat.le_trans this ?_
      rw [List.length_take]
      show 0 + _ ≤ _
      omega
    obtain ⟨d2, kvs2, ed2, hd2, ok2⟩ := r2.dict hc3 eg
    rw [ed] at ed2
    cases ed2
    obtain ⟨v, hv, rv⟩ := ok2.find ha2
    obtain ⟨av, rfl, hav⟩ := Rp.chg_inv rv
    have a3 : atI ((hs.set k st.1).map fun h => V.int h.upto) (k : Int) = some (V.int st.1.upto) := at_of (j := k) rfl (by rw [List.getElem?_map, eg]; rfl)
    have dg : DGet H2 d (.int n) (some (.ref av)) := by
      rw [← hv]
      exact DGet.k (k := Sum.inl n) hd2
    -- letter = self.aside[key][number]
    refine ⟨_, rfl, _, C, _, _, _, rfl, r2.at_p hc3, CHearer.cl, CHearer.n4, hF4 A, _, rfl, _, _, _, _, rfl, rfl, SqL.of (r2.at4 hc3), ad, _, rfl, d, _, rfl, dg, ?_⟩
    refine ⟨_, rfl, _, rfl, _, C, _, _, _, rfl, r2.at_p hc3, CHearer.cl, CHearer.n3, hF3 A, _, rfl, _, _, _, _, rfl, rfl, SqL.of (r2.at3 hc3), a3, _, _, rfl, rfl, _, rfl, ite2 (fun h0 => ?_) fun h0 => ?_⟩
    · -- number <= upto: dropped
      have h0' := of_decide_eq_true h0
      refine ⟨_, rfl, _, C, _, _, _, rfl, r2.at_p hc3, CHearer.cl, CHearer.n4, hF4 A, _, rfl, _, _, _, _, rfl, rfl, SqL.of (r2.at4 hc3), ad, d, rfl, .inl ⟨_, .inl hd2⟩, _, rfl, _, Sum.inl n, _, hd2, rfl, hv, ?_⟩
      obtain ⟨c4, r4, t4⟩ := r2.set4 hc3 eg ed (ok2.drop n)
      rw [List.set_set] at r4
      refine ⟨_, _, c4, HK.fstep st n, rfl, est', ?_, ?_⟩
      · have : HK.fstep st n = ({ st.1 with aside := dropA st.1.aside n }, st.2) := by
          unfold HK.fstep
          rw [ha2]
          dsimp only
          rw [if_pos h0']
        rw [this]
        exact r4
      · have : HK.fstep st n = ({ st.1 with aside := dropA st.1.aside n }, st.2) := by
          unfold HK.fstep
          rw [ha2]
          dsimp only
          rw [if_pos h0']
        rw [this]
        exact t3.trans (t4.left (D := [(q, .lst ((srt (asN h.aside)).map V.int)), (p, .lst (st.2.map V.int))]))
    · have h0' := ndec h0
      refine ⟨_, rfl, _, _, _, _, rfl, rfl, SqT.of hav, rfl, _, rfl, _, C, _, _, _, rfl, r2.at_p hc3, CHearer.cl, CHearer.n3, hF3 A, _, rfl, _, _, _, _, rfl, rfl, SqL.of (r2.at3 hc3), a3, _, _, rfl, rfl, _, rfl, ite2 (fun h1 => ?_) fun h1 => ?_⟩
      · -- it can be done
        have h1' := of_decide_eq_true h1
        refine ⟨_, rfl, _, C, _, _, _, rfl, r2.at_p hc3, CHearer.cl, CHearer.n4, hF4 A, _, rfl, _, _, _, _, rfl, rfl, SqL.of (r2.at4 hc3), ad, d, rfl, .inl ⟨_, .inl hd2⟩, _, rfl, _, Sum.inl n, _, hd2, rfl, hv, ?_⟩
        obtain ⟨c4, r4, t4⟩ := r2.set4 hc3 eg ed (ok2.drop n)
        rw [List.set_set] at r4
        have t5 := t3.trans (t4.left (D := [(q, .lst ((srt (asN h.aside)).map V.int)), (p, .lst (st.2.map V.int))]))
        have hh5 := t5.now hc
        have hc5 := hh5.tail.tail
        have e5 : (hs.set k { st.1 with aside := dropA st.1.aside n })[(asL k a |> fun _ => k)]? = some { st.1 with aside := dropA st.1.aside n } := List.getElem?_set_self hk
        refine ⟨_, rfl, A.p, _, _, rfl, r4.at_p hc5, hFno, _, rfl, rfl, A, _, c4, .ref av, a.n, a.ahead, ⟨k, false, a.worth⟩, _, rfl, r4, hc5, rv.mono t4.mono, e5, fun c6 H6 r6 t6 => ?_⟩
        have t7 := t5.trans (t6.left (D := [(q, .lst ((srt (asN h.aside)).map V.int)), (p, .lst (st.2.map V.int))]))
        have hh7 := t7.now hc
        refine ⟨_, rfl, .inl ⟨rfl, _, SqL.of hh7.tail.head⟩, _, rfl, _, _, _, rfl, rfl, hh7.tail.head, by rw [List.length_map]; exact small1000 (by omega), ?_⟩
        have t8 := (t7.swap2.put (o' := .lst (st.2.map V.int ++ [.int n])) hc nl).swap2
        have e8 : HK.fstep st n = (({ st.1 with aside := dropA st.1.aside n } : HK).done a.n false a.worth, st.2 ++ [n]) := by
          unfold HK.fstep
          rw [ha2]
          dsimp only
          rw [if_neg h0', if_pos h1']
        have ns := hh7.swap2.mono_put (o' := .lst (st.2.map V.int ++ [.int n]))
        refine ⟨_, _, c6, HK.fstep st n, rfl, est', ?_, ?_⟩
        · rw [e8]
          have : (hs.set k { st.1 with aside := dropA st.1.aside n }).set k (({ st.1 with aside := dropA st.1.aside n } : HK).done a.n false a.worth) = hs.set k (({ st.1 with aside := dropA st.1.aside n } : HK).done a.n false a.worth) := List.set_set ..
          rw [← this]
          exact r6.mono ns
        · rw [e8, List.map_append]
          exact t8
      · have h1' := ndec h1
        have e8 : HK.fstep st n = st := by
          unfold HK.fstep
          rw [ha2]
          dsimp only
          rw [if_neg h0', if_neg h1']
        exact ⟨_, _, c', st, rfl, by rw [← est', e8], r2, t3⟩
  · rintro σ H2 ⟨v3, v4, c', st, rfl, est, r2, t3⟩
    have e1 : st = h.free := by
      rw [est, List.take_of_length_le (by rw [List.length_map]; exact Nat.le_refl _)]
      rfl
    subst e1
    exact ⟨_, rfl, go p c' H2 r2 t3.tail⟩
theorem ok_changed (F : Md K C "changed" "Hearer.changed" s_Hearer_changed) (Bm : Blt mg) (CHearer : CHr K C) (m_Hearer_do : Mf P w K mg base 1 C "do" ["self", "letter"] (spDo K C)) (m_Hearer_freed : Mf P w K mg base 2 C "freed" ["self", "key"] (spFreed K C)) :
    Mf P w K mg base 3 C "changed" ["self", "letter"] (spChanged K C) := by
  refine F.ok sc_Hearer_changed (fun _ _ _ _ _ _ us hl => match us, hl with | [_, _], _ => rfl) len_of fun qual f cdv A0 outer s H vs Q E hr h => ?_
  obtain ⟨_, A, hs, c, v, n, ahead, ch, h, rfl, r, hc, rv, eh, wf, go⟩ := h
  obtain ⟨a, rfl, ha⟩ := rv.chg_inv
  have hk : ch.key < hs.length := (List.getElem?_eq_some_iff.mp eh).1
  have a3 : atI (hs.map fun h => V.int h.upto) (ch.key : Int) = some (V.int h.upto) := at_of (j := ch.key) rfl (by rw [List.getElem?_map, eh]; rfl)
  refine ⟨_, (pss_cons (ps_asg (pv 1) (pg_tup rfl (pgs_cons (pg_name (i := 2) sc_Hearer_changed.nd rfl (Or.inl rfl)) (pgs_cons (pg_name (i := 3) sc_Hearer_changed.nd rfl (Or.inl rfl)) (pgs_cons (pg_name (i := 4) sc_Hearer_changed.nd rfl (Or.inl rfl)) (pgs_cons (pg_name (i := 5) sc_Hearer_changed.nd rfl (Or.inl rfl)) (pgs_cons (pg_name (i := 6) sc_Hearer_changed.nd rfl (Or.inl rfl)) (pgs_cons (pg_name (i := 7) sc_Hearer_changed.nd rfl (Or.inl rfl)) pgs_nil))))))))
      (pss_cons (ps_if (pt_cmpR op_le (pv 3) (pe_ix ix_list (pe_fld (pv 0) rfl) (pv 4) (fun _ _ => rfl)) (nomark _))
        (pss_one (ps_ret (pe_lst pa_nil)))
        pss_nil)
      (pss_cons (ps_if (PW.pt (pw_and (pt_cmpR op_eq (pv 5) pe_str (nomark _)) (pw_and1 (pt_cmpR op_lt (pe_ix ix_list (pe_fld (pv 0) rfl) (pv 4) (fun _ _ => rfl)) (pv 7) (nomark _)))))
        (pss_cons (ps_dput (hu_of hr) (pe_ix ix_list (pe_fld (pv 0) rfl) (pv 4) (fun _ _ => rfl)) (pv 3) (pv 1) rfl)
        (pss_one (ps_ret (pe_lst pa_nil))))
        pss_nil)
      (pss_cons (ps_expr (pm (pv 0) CHearer.cl m_Hearer_do hr (pa_cons (pv 1) pa_nil)))
      (pss_one (ps_ret (pe_op op_cat (pe_lst (pa_cons (pv 3) pa_nil)) (pm (pv 0) CHearer.cl m_Hearer_freed hr (pa_cons (pv 4) pa_nil))))))))), ?_⟩
  refine ⟨_, rfl, a, _, rfl, SqT.of ha, rfl, _, _, rfl, _, _, rfl, _, _, rfl, _, _, rfl, _, _, rfl, _, _, rfl, rfl, ?_⟩
  refine ⟨_, rfl, _, rfl, _, C, _, _, _, rfl, r.at_p hc, CHearer.cl, CHearer.n3, hF3 A, _, rfl, _, _, _, _, rfl, rfl, SqL.of (r.at3 hc), a3, _, _, rfl, rfl, _, rfl, ite2 (fun h0 => ?_) fun h0 => ?_⟩
  · -- known farther
    refine ⟨(by show 0 ≤ sizeLine; decide), fun l hl => ?_⟩
    have e : h.chg n ch ahead = (h, []) := by
      unfold HK.chg
      rw [if_pos (of_decide_eq_true h0)]
    rw [e] at go
    have t := (Tr.refl H c).new (o := .lst []) hl nl
    exact go l c _ (by rw [set_back eh]; exact r.mono t.mono) t
  have h0' := ndec h0
  have doit : (¬ (ch.set = false ∧ h.upto < (ahead : Int))) → h.chg n ch ahead = (((h.done n ch.set ch.worth).free).1, (n : Int) :: ((h.done n ch.set ch.worth).free).2) := fun q => by
    unfold HK.chg
    rw [if_neg h0', if_neg q]
  -- what is done behind the two tests
  have rest : (¬ (ch.set = false ∧ h.upto < (ahead : Int))) → ∀ (c4 : Lg) (H4 : Hp), HR K C A (hs.set ch.key (h.done n ch.set ch.worth)) H4 c4 → Tr H c H4 c4 → ∀ l, H4 l = none → ∀ (r5 : Addr) (c5 : Lg) (H5 : Hp),
      HR K C A (hs.set ch.key (h.done n ch.set ch.worth).free.1) H5 c5 → Tr (upd H4 l (.lst [.int n])) ((l, .lst [.int n]) :: c4) H5 ((r5, .lst ((h.done n ch.set ch.worth).free.2.map V.int)) :: (l, .lst [.int n]) :: c5) → ∀ q, H5 q = none →
      Q (.ref q) (upd H5 q (.lst ([.int n] ++ (h.done n ch.set ch.worth).free.2.map V.int))) := fun hq c4 H4 r4 t4 l hl r5 c5 H5 r6 t6 q hq2 => by
    have t7 := (t4.new (o := .lst [.int n]) hl nl).trans t6
    have t8 := t7.new (o := .lst ([.int n] ++ (h.done n ch.set ch.worth).free.2.map V.int)) hq2 nl
    rw [doit hq] at go
    refine go q c5 _ (r6.mono (Mono.new hq2)) ?_
    show Tr H c _ ((q, .lst ([.int n] ++ (h.done n ch.set ch.worth).free.2.map V.int)) :: c5)
    exact t8.sub (List.Sublist.cons_cons _ (List.sublist_append_right [_, _] c5))
  refine ⟨_, rfl, rfl, _, rfl, ?_⟩
  rw [wd_add]
  have wf' : Wf (h.done n ch.set ch.worth) := ⟨wf.nd, wf.few⟩
  have e4 : (hs.set ch.key (h.done n ch.set ch.worth))[ch.key]? = some (h.done n ch.set ch.worth) := List.getElem?_set_self hk
  have tail : (¬ (ch.set = false ∧ h.upto < (ahead : Int))) → ∀ (c4 : Lg) (H4 : Hp), HR K C A (hs.set ch.key (h.done n ch.set ch.worth)) H4 c4 → Tr H c H4 c4 → ∀ l, H4 l = none →
      spFreed K C [.ref A.p, .int ch.key] (upd H4 l (.lst [.int n])) (fun y H5 => rCat (.ref l) y H5 Q) E0 := fun hq c4 H4 r4 t4 l hl => by
    have t5 := (Tr.refl H4 c4).new (o := .lst [.int n]) hl nl
    have hc4 := t4.now hc
    refine ⟨rfl, A, _, c4, ch.key, _, rfl, r4.mono t5.mono, (t5.now hc4).tail, e4, wf', fun r5 c5 H5 r6 t6 => ?_⟩
    rw [List.set_set] at r6
    have t7 : Tr (upd H4 l (.lst [.int n])) ((l, .lst [.int n]) :: c4) H5 ((r5, .lst ((h.done n ch.set ch.worth).free.2.map V.int)) :: (l, .lst [.int n]) :: c5) := (t6.left (D := [(l, .lst [.int n])])).swap2
    have hh7 := t7.now (t5.now hc4)
    refine ⟨l, r5, _, _, rfl, rfl, hh7.tail.head, hh7.head, ?_, fun q hq2 => rest hq c4 H4 r4 t4 l hl r5 c5 H5 r6 t7 q hq2⟩
    have : (h.done n ch.set ch.worth).free.2.length ≤ 122 := by
      refine Nat.le_trans fold_len ?_
      rw [(srt_perm _).length_eq, asN, List.length_map]
      exact Nat.le_trans (Nat.add_le_add (Nat.le_refl _) (Nat.le_of_lt wf'.few)) (by simp)
    rw [List.length_map]
    exact Nat.le_trans (show 1 + _ ≤ 2000 by omega) (by decide)
  cases hset : ch.set with
  | true =>
    have hq : ¬ (ch.set = false ∧ h.upto < (ahead : Int)) := fun q => by
      rw [hset] at q
      cases q.1
    refine ⟨_, rfl, A.p, _, _, rfl, r.at_p hc, hFno, _, rfl, rfl, A, hs, c, .ref a, n, ahead, ch, h, rfl, r, hc, rv, eh, fun c4 H4 r4 t4 => ?_⟩
    refine ⟨_, rfl, (by show 1 ≤ sizeLine; decide), fun l hl => ?_⟩
    have hc4 := t4.now hc
    exact ⟨_, rfl, A.p, _, _, rfl, by rw [upd_ne (ne_of_none (r4.at_p hc4) hl)]; exact r4.at_p hc4, hFno, _, rfl, tail hq c4 H4 r4 t4 l hl⟩
  | false =>
    refine ⟨_, rfl, _, C, _, _, _, rfl, r.at_p hc, CHearer.cl, CHearer.n3, hF3 A, _, rfl, _, _, _, _, rfl, rfl, SqL.of (r.at3 hc), a3, _, rfl, _, _, rfl, rfl, _, rfl, ite2 (fun h1 => ?_) fun h1 => ?_⟩
    · -- put aside
      have h1' := of_decide_eq_true h1
      obtain ⟨d, kvs, ed, hd, ok⟩ := r.dict hc eh
      have ad : atI (A.ds.map V.ref) (ch.key : Int) = some (.ref d) := at_of (j := ch.key) rfl (by rw [List.getElem?_map, ed]; rfl)
      have el : asL ch.key ⟨n, ch.worth, ahead⟩ = .change n ch ahead := by
        unfold asL
        cases ch
        cases hset
        rfl
      obtain ⟨c4, r4, t4⟩ := r.set4 hc eh ed (ok.put (a := ⟨n, ch.worth, ahead⟩) (v := .ref a) (by rw [el]; exact rv))
      have hlen : kvs.length < sizeLine := by
        rw [ok.len]
        exact small1000 (by have := wf.few; omega)
      refine ⟨_, rfl, _, rfl, _, C, _, _, _, rfl, r.at_p hc, CHearer.cl, CHearer.n4, hF4 A, _, rfl, _, _, _, _, rfl, rfl, SqL.of (r.at4 hc), ad, _, rfl, d, _, rfl, DPut.k (k := Sum.inl (n : Int)) hd hlen, ?_⟩
      refine ⟨(by show 0 ≤ sizeLine; decide), fun l hl => ?_⟩
      have e : h.chg n ch ahead = ({ h with aside := putA h.aside ⟨n, ch.worth, ahead⟩ }, []) := by
        unfold HK.chg
        rw [if_neg h0', if_pos ⟨hset, h1'⟩]
      rw [e] at go
      exact go l c4 _ (r4.mono (Mono.new hl)) (t4.new hl nl)
    · have h1' := ndec h1
      have hq : ¬ (ch.set = false ∧ h.upto < (ahead : Int)) := fun q => h1' q.2
      refine ⟨_, rfl, A.p, _, _, rfl, r.at_p hc, hFno, _, rfl, rfl, A, hs, c, .ref a, n, ahead, ch, h, rfl, r, hc, rv, eh, fun c4 H4 r4 t4 => ?_⟩
      refine ⟨_, rfl, (by show 1 ≤ sizeLine; decide), fun l hl => ?_⟩
      have hc4 := t4.now hc
      exact ⟨_, rfl, A.p, _, _, rfl, by rw [upd_ne (ne_of_none (r4.at_p hc4) hl)]; exact r4.at_p hc4, hFno, _, rfl, tail hq c4 H4 r4 t4 l hl⟩
end
end Cu

namespace Cu
open PySem PySem.Spec PyProof.Rows L2
section
variable {P : Program} {w : World} {K : PySem.W.Frag} {mg : Str → Option Value} {base : Heap} {C : Addr}
theorem ok_copied (F : Md K C "copied" "Hearer.copied" s_Hearer_copied) (Bm : Blt mg) (CHearer : CHr K C) (m_Hearer_freed : Mf P w K mg base 2 C "freed" ["self", "key"] (spFreed K C)) : Mf P w K mg base 3 C "copied" ["self", "letter"] (spCopied K C) := by
  refine F.ok sc_Hearer_copied (fun _ _ _ _ _ _ us hl => match us, hl with | [_, _], _ => rfl) len_of fun qual f cdv A0 outer s H vs Q E hr h => ?_
  obtain ⟨_, A, hs, c, v, n, b, rows, rfl, r, hc, rv, h8, wf, hb, go⟩ := h
  obtain ⟨a, t, xs, rfl, ha, ht, hxs, hrow⟩ := rv.part_inv
  refine ⟨_, (pss_cons (ps_asg (pv 1) (pg_tup rfl (pgs_cons (pg_name (i := 2) sc_Hearer_copied.nd rfl (Or.inl rfl)) (pgs_cons (pg_name (i := 3) sc_Hearer_copied.nd rfl (Or.inl rfl)) (pgs_cons (pg_name (i := 4) sc_Hearer_copied.nd rfl (Or.inl rfl)) (pgs_cons (pg_name (i := 5) sc_Hearer_copied.nd rfl (Or.inl rfl)) pgs_nil))))))
      (pss_cons (ps_set (i := 6) sc_Hearer_copied.nd rfl (Or.inl rfl) (pe_lst pa_nil))
      (pss_cons (ps_for PassesOwn.never rfl (pi_enumT rfl Bm.enumerate (pa_cons (pv 5) pa_nil)) (pg_tup rfl (pgs_cons (pg_name (i := 7) sc_Hearer_copied.nd rfl (Or.inl rfl)) (pgs_cons (pg_tup rfl (pgs_cons (pg_name (i := 8) sc_Hearer_copied.nd rfl (Or.inl rfl)) (pgs_cons (pg_name (i := 9) sc_Hearer_copied.nd rfl (Or.inl rfl)) pgs_nil))) pgs_nil)))
        (pss_cons (ps_set (i := 10) sc_Hearer_copied.nd rfl (Or.inl rfl) (pe_op op_add (pv 4) (pv 7)))
        (pss_one (ps_if (pt_cmpR op_gt (pv 3) (pe_ix ix_list (pe_fld (pv 0) rfl) (pv 10) (fun _ _ => rfl)) (nomark _))
          (pss_cons (ps_asg (pv 8) (pg_sub (pe_fld (pv 0) rfl) (pv 10) set_list))
          (pss_cons (ps_asg (pv 9) (pg_sub (pe_fld (pv 0) rfl) (pv 10) set_list))
          (pss_cons (ps_asg (pv 3) (pg_sub (pe_fld (pv 0) rfl) (pv 10) set_list))
          (pss_one (ps_expr (pe_bm PySem.F.plainAttrs_list PySem.F.slot_list_extend PySem.F.type_list_extend mt_extend (pv 6) (pa_cons (pm (pv 0) CHearer.cl m_Hearer_freed hr (pa_cons (pv 10) pa_nil)) pa_nil)))))))
          pss_nil))))
      (pss_one (ps_ret (pv 6)))))), ?_⟩
  refine ⟨_, rfl, a, _, rfl, SqT.of ha, rfl, _, _, rfl, _, _, rfl, _, _, rfl, _, _, rfl, rfl, ?_⟩
  refine ⟨(by show 0 ≤ sizeLine; decide), fun p hp => ?_⟩
  have t1 := (Tr.refl H c).new (o := .lst []) hp nl
  obtain ⟨a1, a2⟩ := prt_low (hs := hs) (l := .part n b rows) (b := b) fun k g hk => by
    simp only [hearK]
    rw [if_neg (by omega)]
  obtain ⟨b1, b2⟩ := prt_high (hs := hs) (l := .part n b rows) (e := b + rows.length) fun k g hk => by
    simp only [hearK]
    rw [if_pos (by omega), List.getElem?_eq_none (by omega)]
  refine ⟨_, rfl, t, xs, rfl, SqT.of (t1.mono _ _ ht trivial), for_it (walk_enumT (xs := xs)) (fun i σ H2 => ∃ (v7 v8 v9 v10 : Option V) (c' : Lg), σ = [some (.ref A.p), some (.ref a), some (.str "part"), some (.int n), some (.int b), some (.ref t), some (.ref p), v7, v8, v9, v10] ∧
      HR K C A (prt hs (.part n b rows) (b + i)) H2 c' ∧ Tr H c H2 ((p, .lst ((fnd hs (.part n b rows) (b + i)).map V.int)) :: c'))
    ⟨none, none, none, none, c, rfl, by rw [Nat.add_zero, a1]; exact r.mono t1.mono, by rw [Nat.add_zero, a2]; exact t1⟩ (fun i σ H2 _ ⟨_, _, _, _, _, _, _, t2⟩ => SqT.of (t2.mono _ _ ht trivial)) ?_ ?_⟩
  · rintro i x σ H2 H3 hi ⟨v7, v8, v9, v10, c', rfl, r2, t2⟩ ⟨T, x1, y1, rfl, hT, rfl, e1, e2⟩
    cases e1
    have hi' : i < rows.length := by omega
    obtain ⟨rw', er⟩ : ∃ r, rows[i]? = some r := ⟨rows[i], List.getElem?_eq_getElem hi'⟩
    obtain ⟨q, eq, hq⟩ := hrow i rw' er
    have e2 : xs[i]? = some y1 := e2
    rw [eq] at e2
    cases e2
    have t3 := t2.old (o := .tup [.int (i : Nat), .ref q]) hT
    have r3 := r2.mono (Mono.new (o := .tup [.int (i : Nat), .ref q]) hT)
    have hbi : b + i < hs.length := by omega
    obtain ⟨g, eg⟩ : ∃ g, hs[b + i]? = some g := ⟨hs[b + i], List.getElem?_eq_getElem hbi⟩
    have eg2 : (prt hs (.part n b rows) (b + i))[b + i]? = some g := by
      rw [prt_get eg, if_neg (Nat.lt_irrefl _)]
    have eK : hearK (b + i) g (.part n b rows) = g.row n rw'.1 rw'.2 := by
      simp only [hearK]
      rw [if_pos (Nat.le_add_right _ _), Nat.add_sub_cancel_left, er]
    have eP : prt hs (.part n b rows) (b + (i + 1)) = (prt hs (.part n b rows) (b + i)).set (b + i) (g.row n rw'.1 rw'.2).1 := by
      rw [← Nat.add_assoc, prt_succ eg, eK]
    have eF : fnd hs (.part n b rows) (b + (i + 1)) = fnd hs (.part n b rows) (b + i) ++ (g.row n rw'.1 rw'.2).2 := by
      rw [← Nat.add_assoc, fnd_succ eg, eK]
    have ez : ((b : Int) + (i : Nat)) = ((b + i : Nat) : Int) := by omega
    have hh := t3.now hc
    have hc3 := hh.tail
    have plen := prt_len hs (.part n b rows) (b + i)
    have a3 : atI ((prt hs (.part n b rows) (b + i)).map fun h => V.int h.upto) ((b : Int) + (i : Nat)) = some (V.int g.upto) := at_of (j := b + i) ez (by rw [List.getElem?_map, eg2]; rfl)
    refine ⟨T, _, rfl, SqT.of upd_same, rfl, _, _, rfl, _, _, rfl, q, _, rfl, SqT.of (t3.mono _ _ hq trivial), rfl, _, _, rfl, _, _, rfl, rfl, rfl, ?_⟩
    refine ⟨_, rfl, _, rfl, _, _, rfl, rfl, ?_⟩
    refine ⟨_, rfl, _, rfl, _, C, _, _, _, rfl, r3.at_p hc3, CHearer.cl, CHearer.n3, hF3 A, _, rfl, _, _, _, _, rfl, rfl, SqL.of (r3.at3 hc3), a3, _, _, rfl, rfl, _, rfl, ite2 (fun h0 => ?_) fun h0 => ?_⟩
    · have h0' := of_decide_eq_true h0
      have eRow : g.row n rw'.1 rw'.2 = ({ g with worth := rw'.1, since := rw'.2, upto := n } : HK).free := by
        unfold HK.row
        rw [if_pos h0']
      have ix1 : ∀ {α : Type} (gs : List HK) (f : HK → α), gs.length = hs.length → ixN (gs.map f).length ((b : Int) + (i : Nat)) = some (b + i) := fun gs f hl => ixN_of ez (by rw [List.length_map, hl]; exact hbi)
      refine ⟨_, rfl, _, rfl, _, C, _, _, _, rfl, r3.at_p hc3, CHearer.cl, CHearer.n1, hF1 A, _, rfl, _, _, _, _, rfl, rfl, r3.at1 hc3, ix1 _ _ plen, ?_⟩
      obtain ⟨c4, r4, t4⟩ := r3.set1 hc3 eg2 rw'.1
      have hc4 := t4.now hc3
      have e4 : ((prt hs (.part n b rows) (b + i)).set (b + i) { g with worth := rw'.1 })[b + i]? = some { g with worth := rw'.1 } := List.getElem?_set_self (by omega)
      refine ⟨_, rfl, _, rfl, _, C, _, _, _, rfl, r4.at_p hc4, CHearer.cl, CHearer.n2, hF2 A, _, rfl, _, _, _, _, rfl, rfl, r4.at2 hc4, ix1 _ _ (by rw [List.length_set]; exact plen), ?_⟩
      obtain ⟨c5, r5, t5⟩ := r4.set2 hc4 e4 rw'.2
      rw [List.set_set] at r5
      have hc5 := t5.now hc4
      have e5 : ((prt hs (.part n b rows) (b + i)).set (b + i) { g with worth := rw'.1, since := rw'.2 })[b + i]? = some { g with worth := rw'.1, since := rw'.2 } := List.getElem?_set_self (by omega)
      refine ⟨_, rfl, _, rfl, _, C, _, _, _, rfl, r5.at_p hc5, CHearer.cl, CHearer.n3, hF3 A, _, rfl, _, _, _, _, rfl, rfl, r5.at3 hc5, ix1 _ _ (by rw [List.length_set]; exact plen), ?_⟩
      obtain ⟨c6, r6, t6⟩ := r5.set3 hc5 e5 n
      rw [List.set_set] at r6
      have hc6 := t6.now hc5
      have e6 : ((prt hs (.part n b rows) (b + i)).set (b + i) { g with worth := rw'.1, since := rw'.2, upto := n })[b + i]? = some { g with worth := rw'.1, since := rw'.2, upto := n } := List.getElem?_set_self (by omega)
      have t7 := t3.trans (((t4.trans t5).trans t6).left (D := [(p, .lst ((fnd hs (.part n b rows) (b + i)).map V.int))]))
      have hh7 := t7.now hc
      have wfg : Wf ({ g with worth := rw'.1, since := rw'.2, upto := n } : HK) := ⟨(wf g (List.mem_of_getElem? eg)).nd, (wf g (List.mem_of_getElem? eg)).few⟩
      refine ⟨_, rfl, .inl ⟨rfl, _, SqL.of hh7.head⟩, _, rfl, A.p, _, _, rfl, r6.at_p hc6, hFno, _, rfl, rfl, A, _, c6, b + i, _, congrArg (fun z => [V.ref A.p, V.int z]) ez, r6, hc6, e6, wfg, fun r8 c8 H8 q8 t8 => ?_⟩
      rw [List.set_set] at q8
      have t9 := (t7.trans (t8.left (D := [(p, .lst ((fnd hs (.part n b rows) (b + i)).map V.int))])))
      have hh9 := t9.now hc
      refine ⟨p, r8, _, _, rfl, rfl, hh9.head, hh9.tail.head, ?_, ?_⟩
      · have := fnd_len (l := .part n b rows) (m := b + i) wf h8
        have := free_len wfg
        rw [List.length_map, List.length_map]
        exact Nat.le_trans (show _ ≤ 2000 by omega) (by decide)
      · have t10 := t9.put (o' := .lst ((fnd hs (.part n b rows) (b + i)).map V.int ++ ({ g with worth := rw'.1, since := rw'.2, upto := n } : HK).free.2.map V.int)) hc nl
        refine ⟨_, _, _, _, c8, rfl, ?_, ?_⟩
        · rw [eP, eRow]
          exact q8.mono hh9.mono_put
        · rw [eF, eRow, List.map_append]
          exact t10.sub (List.Sublist.cons_cons _ (List.sublist_cons_self _ _))
    · have h0' := ndec h0
      have eRow : g.row n rw'.1 rw'.2 = (g, []) := by
        unfold HK.row
        rw [if_neg h0']
      refine ⟨_, _, _, _, c', rfl, ?_, ?_⟩
      · rw [eP, eRow, set_back eg2]
        exact r3
      · rw [eF, eRow, List.append_nil]
        exact t3
  · rintro σ H2 ⟨v7, v8, v9, v10, c', rfl, r2, t2⟩
    rw [hxs, b1] at r2
    rw [hxs, b2] at t2
    exact ⟨_, rfl, go p c' H2 r2 t2⟩
theorem ok_hear (F : Md K C "hear" "Hearer.hear" s_Hearer_hear) (Bm : Blt mg) (CHearer : CHr K C) (m_Hearer_changed : Mf P w K mg base 3 C "changed" ["self", "letter"] (spChanged K C)) (m_Hearer_copied : Mf P w K mg base 3 C "copied" ["self", "letter"] (spCopied K C)) :
    Mf P w K mg base 4 C "hear" ["self", "letter"] (spHear K C) := by
  refine F.ok sc_Hearer_hear (fun _ _ _ _ _ _ us hl => match us, hl with | [_, _], _ => rfl) len_of fun qual f cdv A0 outer s H vs Q E hr h => ?_
  obtain ⟨_, A, hs, c, v, l, rfl, r, hc, rv, h8, wf, hl, go⟩ := h
  refine ⟨_, (pss_cons (ps_if (pt_cmpR op_eq (pe_ix ix_tup (pv 1) pe_int (fun _ _ => rfl)) pe_str (nomark _))
        (pss_one (ps_ret (pm (pv 0) CHearer.cl m_Hearer_changed hr (pa_cons (pv 1) pa_nil))))
        pss_nil)
      (pss_cons (ps_if (pt_cmpR op_eq (pe_ix ix_tup (pv 1) pe_int (fun _ _ => rfl)) pe_str (nomark _))
        (pss_one (ps_ret (pm (pv 0) CHearer.cl m_Hearer_copied hr (pa_cons (pv 1) pa_nil))))
        pss_nil)
      (pss_cons (ps_for PassesOwn.never rfl (pi_range1 rfl Bm.range (pa_cons (pe_callB call_len_seq rfl Bm.len (by decide +kernel) (pa_cons (pe_fld (pv 0) rfl) pa_nil)) pa_nil)) (pg_name (i := 2) sc_Hearer_hear.nd rfl (Or.inl rfl))
        (pss_one (ps_if (pt_chain op_le op_lt (pe_ix ix_tup (pe_ix ix_tup (pv 1) pe_int (fun _ _ => rfl)) (pv 2) (fun _ _ => rfl)) (pe_ix ix_list (pe_fld (pv 0) rfl) (pv 2) (fun _ _ => rfl)) (pe_ix ix_tup (pv 1) pe_int (fun _ _ => rfl)))
          (pss_one (ps_asg (pe_ix ix_tup (pv 1) pe_int (fun _ _ => rfl)) (pg_sub (pe_fld (pv 0) rfl) (pv 2) set_list)))
          pss_nil)))
      (pss_one (ps_ret (pe_lst pa_nil)))))), ?_⟩
  cases l with
  | change n ch ahead =>
    obtain ⟨a, rfl, ha⟩ := rv.chg_inv
    obtain ⟨g, eg⟩ : ∃ g, hs[ch.key]? = some g := ⟨hs[ch.key], List.getElem?_eq_getElem hl⟩
    obtain ⟨e1, e2⟩ := hear_change (n := n) (ahead := ahead) eg
    rw [e1, e2] at go
    exact ⟨_, rfl, a, _, _, _, rfl, rfl, SqT.of ha, rfl, rfl, _, rfl, iteP (by decide +kernel) ⟨_, rfl, A.p, _, _, rfl, r.at_p hc, hFno, _, rfl, rfl, A, hs, c, .ref a, n, ahead, ch, g, rfl, r, hc, rv, eg, wf g (List.mem_of_getElem? eg), go⟩⟩
  | part n b rows =>
    obtain ⟨a, t, xs, rfl, ha, _⟩ := id rv.part_inv
    exact ⟨_, rfl, a, _, _, _, rfl, rfl, SqT.of ha, rfl, rfl, _, rfl, iteM (by decide +kernel) ⟨_, rfl, a, _, _, _, rfl, rfl, SqT.of ha, rfl, rfl, _, rfl, iteP (by decide +kernel) ⟨_, rfl, A.p, _, _, rfl, r.at_p hc, hFno, _, rfl, rfl, A, hs, c, .ref a, n, b, rows, rfl, r, hc, rv, h8, wf, hl, go⟩⟩⟩
  | beat n lasts =>
    obtain ⟨a, t, rfl, ha, ht⟩ := rv.beat_inv
    have hl : lasts.length = hs.length := hl
    refine ⟨_, rfl, a, _, _, _, rfl, rfl, SqT.of ha, rfl, rfl, _, rfl, iteM (by decide +kernel) ⟨_, rfl, a, _, _, _, rfl, rfl, SqT.of ha, rfl, rfl, _, rfl, iteM (by decide +kernel) ?_⟩⟩
    refine ⟨_, rfl, _, C, _, _, _, rfl, r.at_p hc, CHearer.cl, CHearer.n3, hF3 A, _, _, rfl, .inl (SqL.of (r.at3 hc)), _, rfl, by rw [List.length_map]; omega, by rw [List.length_map]; omega, ?_⟩
    refine for_range (lo := 0) (n := ((hs.map fun h => V.int h.upto).length : Int).toNat) (fun i σ H2 => ∃ (v2 : Option V) (c' : Lg), σ = [some (.ref A.p), some (.ref a), v2] ∧ HR K C A (prt hs (.beat n lasts) i) H2 c' ∧ Tr H c H2 c' ∧ fnd hs (.beat n lasts) i = [])
      ⟨none, c, rfl, ?_, Tr.refl H c, rfl⟩ ?_ ?_
    · rw [(prt_low (hs := hs) (l := .beat n lasts) (b := 0) fun k g hk => absurd hk (Nat.not_lt_zero _)).1]
      exact r
    · rintro i σ H2 hi ⟨v2, c', rfl, r2, t2, f2⟩
      rw [List.length_map] at hi
      have hi' : i < hs.length := by omega
      obtain ⟨g, eg⟩ : ∃ g, hs[i]? = some g := ⟨hs[i], List.getElem?_eq_getElem hi'⟩
      obtain ⟨la, el⟩ : ∃ la, lasts[i]? = some la := ⟨lasts[i], List.getElem?_eq_getElem (by omega)⟩
      have eg2 : (prt hs (.beat n lasts) i)[i]? = some g := by rw [prt_get eg, if_neg (Nat.lt_irrefl _)]
      have eK : hearK i g (.beat n lasts) = (g.beat n la, []) := by
        simp only [hearK]
        rw [el]
      have eP : prt hs (.beat n lasts) (i + 1) = (prt hs (.beat n lasts) i).set i (g.beat n la) := by rw [prt_succ eg, eK]
      have eF : fnd hs (.beat n lasts) (i + 1) = [] := by rw [fnd_succ eg, eK, f2]; rfl
      have ez : ((0 : Int) + i) = (i : Int) := by omega
      have hc2 := t2.now hc
      have plen := prt_len hs (.beat n lasts) i
      have a3 : atI ((prt hs (.beat n lasts) i).map fun h => V.int h.upto) ((0 : Int) + i) = some (V.int g.upto) := at_of (j := i) ez (by rw [List.getElem?_map, eg2]; rfl)
      have a4 : atI (lasts.map fun k : Nat => V.int k) ((0 : Int) + i) = some (V.int la) := at_of (j := i) ez (by rw [List.getElem?_map, el]; rfl)
      have ha2 := t2.mono _ _ ha trivial
      have same : (¬ ((la : Int) ≤ g.upto ∧ g.upto < (n : Int))) → ∃ (v2' : Option V) (c'' : Lg), ([some (V.ref A.p), some (.ref a), some (.int (0 + i))] : L2.St) = [some (.ref A.p), some (.ref a), v2'] ∧ HR K C A (prt hs (.beat n lasts) (i + 1)) H2 c'' ∧ Tr H c H2 c'' ∧ fnd hs (.beat n lasts) (i + 1) = [] := fun q => by
        have eB : g.beat n la = g := by
          unfold HK.beat
          rw [if_neg q]
        refine ⟨_, c', rfl, ?_, t2, eF⟩
        rw [eP, eB, set_back eg2]
        exact r2
      refine ⟨_, rfl, a, _, _, _, rfl, rfl, SqT.of ha2, rfl, _, rfl, t, _, _, _, rfl, rfl, SqT.of (t2.mono _ _ ht trivial), a4, _, rfl, _, C, _, _, _, rfl, r2.at_p hc2, CHearer.cl, CHearer.n3, hF3 A, _, rfl, _, _, _, _, rfl, rfl, SqL.of (r2.at3 hc2), a3, _, _, rfl, rfl, _, rfl, ite2 (fun h0 => ?_) fun h0 => ?_⟩
      · refine ⟨_, rfl, a, _, _, _, rfl, rfl, SqT.of ha2, rfl, _, _, rfl, rfl, _, rfl, ite2 (fun h1 => ?_) fun h1 => ?_⟩
        · refine ⟨_, rfl, a, _, _, _, rfl, rfl, SqT.of ha2, rfl, _, rfl, _, C, _, _, _, rfl, r2.at_p hc2, CHearer.cl, CHearer.n3, hF3 A, _, rfl, _, _, _, _, rfl, rfl, r2.at3 hc2, ixN_of ez (by rw [List.length_map, plen]; exact hi'), ?_⟩
          obtain ⟨c4, r4, t4⟩ := r2.set3 hc2 eg2 n
          have eB : g.beat n la = { g with upto := n } := by
            unfold HK.beat
            rw [if_pos ⟨of_decide_eq_true h0, of_decide_eq_true h1⟩]
          refine ⟨_, c4, rfl, ?_, t2.trans t4, eF⟩
          rw [eP, eB]
          exact r4
        · exact same fun q => ndec h1 q.2
      · exact ⟨_, rfl, iteM (by decide) (same fun q => ndec h0 q.1)⟩
    · rintro σ H2 ⟨v2, c', rfl, r2, t2, f2⟩
      refine ⟨(by show 0 ≤ sizeLine; decide), fun l hl2 => ?_⟩
      have e1 : prt hs (.beat n lasts) ((hs.map fun h => V.int h.upto).length : Int).toNat = hear hs (.beat n lasts) := prt_all (by rw [List.length_map]; omega)
      have e2 : fnd hs (.beat n lasts) ((hs.map fun h => V.int h.upto).length : Int).toNat = heard hs (.beat n lasts) := fnd_all (by rw [List.length_map]; omega)
      rw [e1] at r2
      rw [e2] at f2
      rw [f2] at go
      exact go l c' _ (r2.mono (Mono.new hl2)) (t2.new hl2 nl)
end
end Cu

namespace Cu
open PySem PySem.Spec PyProof.Rows L2
/-! what a hearer holds is right -/
theorem lof_le (cs : List Ch) (k : Nat) : lof cs k ≤ cs.length := by
  induction cs using snoc_ind with
  | h0 => exact Nat.le_refl _
  | h1 cs c ih =>
    rw [lof_snoc, List.length_append, List.length_singleton]
    split <;> omega
theorem take_le_len {cs : List Ch} {j : Nat} : (cs.take j).length ≤ j := by
  rw [List.length_take]
  exact Nat.min_le_left _ _
theorem lof_take_le (cs : List Ch) (j k : Nat) : lof (cs.take j) k ≤ j := Nat.le_trans (lof_le _ _) take_le_len
/-- a step of a story -/
theorem lof_step {cs : List Ch} {j k : Nat} : lof (cs.take (j + 1)) k = lof (cs.take j) k ∨ (lof (cs.take (j + 1)) k = j + 1 ∧ ∃ c, cs[j]? = some c ∧ c.key = k) := by
  cases e : cs[j]? with
  | none =>
    left
    have hj := List.getElem?_eq_none_iff.mp e
    rw [List.take_of_length_le hj, List.take_of_length_le (Nat.le_succ_of_le hj)]
  | some c =>
    have hj := (List.getElem?_eq_some_iff.mp e).1
    rw [take_snoc e, lof_snoc]
    by_cases hk : c.key = k
    · right
      rw [if_pos hk, List.length_take, Nat.min_eq_left (Nat.le_of_lt hj)]
      exact ⟨rfl, c, rfl, hk⟩
    · left
      rw [if_neg hk]
theorem lof_mono {cs : List Ch} {k i j : Nat} (h : i ≤ j) : lof (cs.take i) k ≤ lof (cs.take j) k := by
  induction j with
  | zero =>
    have : i = 0 := by omega
    subst this
    exact Nat.le_refl _
  | succ j ih =>
    by_cases e : i = j + 1
    · subst e
      exact Nat.le_refl _
    · have := ih (by omega)
      rcases lof_step (cs := cs) (j := j) (k := k) with q | ⟨q, _⟩
      · omega
      · have := lof_take_le cs j k
        omega
theorem lof_ge {cs : List Ch} {k m j : Nat} {c : Ch} (e : cs[m]? = some c) (hk : c.key = k) (h : m < j) : m + 1 ≤ lof (cs.take j) k := by
  have h1 : lof (cs.take (m + 1)) k = m + 1 := by
    have hm := (List.getElem?_eq_some_iff.mp e).1
    rw [take_snoc e, lof_snoc, if_pos hk, List.length_take, Nat.min_eq_left (Nat.le_of_lt hm)]
  have := lof_mono (cs := cs) (k := k) (show m + 1 ≤ j by omega)
  omega
/-- nothing happens to a key behind its last change -/
theorem wof_const {cs : List Ch} {k i j : Nat} (h : i ≤ j) (hl : lof (cs.take j) k ≤ i) : wof (cs.take j) k = wof (cs.take i) k ∧ lof (cs.take j) k = lof (cs.take i) k := by
  induction j with
  | zero =>
    have : i = 0 := by omega
    subst this
    exact ⟨rfl, rfl⟩
  | succ j ih =>
    by_cases e : i = j + 1
    · subst e
      exact ⟨rfl, rfl⟩
    · have hij : i ≤ j := by omega
      cases ec : cs[j]? with
      | none =>
        have hj := List.getElem?_eq_none_iff.mp ec
        have e1 : cs.take (j + 1) = cs.take j := by rw [List.take_of_length_le hj, List.take_of_length_le (Nat.le_succ_of_le hj)]
        rw [e1] at hl ⊢
        exact ih hij hl
      | some c =>
        have hk : ¬ c.key = k := fun q => by
          have := lof_ge (j := j + 1) ec q (Nat.lt_succ_self _)
          omega
        rw [take_snoc ec, lof_snoc, if_neg hk] at hl
        rw [take_snoc ec, wof_snoc, lof_snoc, if_neg hk, wst, if_neg hk]
        exact ih hij hl
/-- the change of a key -/
theorem wof_at {cs : List Ch} {m : Nat} {c : Ch} (e : cs[m]? = some c) : wof (cs.take (m + 1)) c.key = (if c.set then 0 else wof (cs.take m) c.key) + c.worth ∧ lof (cs.take (m + 1)) c.key = m + 1 := by
  have hm := (List.getElem?_eq_some_iff.mp e).1
  rw [take_snoc e, wof_snoc, lof_snoc, if_pos rfl, wst, if_pos rfl, List.length_take, Nat.min_eq_left (Nat.le_of_lt hm)]
  exact ⟨rfl, rfl⟩
/-- put aside is a true adding change -/
def AsIn (cs : List Ch) (k : Nat) (a : As) : Prop := ∃ m, a.n = m + 1 ∧ cs[m]? = some ⟨k, false, a.worth⟩ ∧ a.ahead = lof (cs.take m) k
theorem AsIn.lt {cs : List Ch} {k : Nat} {a : As} (h : AsIn cs k a) : a.ahead < a.n := by
  obtain ⟨m, e1, e2, e3⟩ := h
  have := lof_take_le cs m k
  omega
theorem AsIn.le {cs : List Ch} {k : Nat} {a : As} (h : AsIn cs k a) : a.n ≤ cs.length ∧ 0 < a.n := by
  obtain ⟨m, e1, e2, e3⟩ := h
  have := (List.getElem?_eq_some_iff.mp e2).1
  omega
/-- of two changes of a key the later one is behind the other one -/
theorem AsIn.after {cs : List Ch} {k : Nat} {a b : As} (ha : AsIn cs k a) (hb : AsIn cs k b) (h : a.n < b.n) : a.n ≤ b.ahead := by
  obtain ⟨m, e1, e2, e3⟩ := ha
  obtain ⟨m', f1, f2, f3⟩ := hb
  have := lof_ge (k := k) (j := m') e2 rfl (by omega)
  omega
/-- what is held is right -/
structure KR (cs : List Ch) (k : Nat) (h : HK) : Prop where
  lo : -1 ≤ h.upto
  hi : h.upto ≤ cs.length
  ok : ∀ u : Nat, h.upto = u → h.worth = wof (cs.take u) k ∧ h.since = lof (cs.take u) k
  as : ∀ a ∈ h.aside, AsIn cs k a
  nd : (asN h.aside).Nodup
structure KI (cs : List Ch) (k : Nat) (h : HK) : Prop extends KR cs k h where
  ahead : ∀ a ∈ h.aside, h.upto < (a.ahead : Int)
theorem KI.ini (cs : List Ch) (k : Nat) : KI cs k HK.ini := ⟨⟨Int.le_refl _, by show (-1 : Int) ≤ _; omega, fun u e => by
  have e : (-1 : Int) = u := e
  omega, fun _ h => (nomatch h), List.nodup_nil⟩, fun _ h => (nomatch h)⟩
theorem dropA_mem {as : List As} {n : Int} {a : As} : a ∈ dropA as n ↔ a ∈ as ∧ (a.n : Int) ≠ n := by
  unfold dropA
  rw [List.mem_filter]
  simp
theorem asN_drop (as : List As) (n : Int) : (asN (dropA as n)).Sublist (asN as) := (List.filter_sublist (p := _)).map _
theorem findA_mem {as : List As} {n : Int} {a : As} (h : findA as n = some a) : a ∈ as := List.mem_of_find?_eq_some h
theorem asN_of {as : List As} {b : As} (hb : b ∈ as) : (b.n : Int) ∈ asN as := List.mem_map.mpr ⟨b, hb, rfl⟩
theorem nd_same {as : List As} (nd : (asN as).Nodup) {a b : As} (ha : a ∈ as) (hb : b ∈ as) (e : a.n = b.n) : a = b := by
  induction as with
  | nil => cases ha
  | cons x as ih =>
    obtain ⟨h1, h2⟩ := List.nodup_cons.mp (show ((x.n : Int) :: asN as).Nodup from nd)
    rcases List.mem_cons.mp ha with ha' | ha'
    · rcases List.mem_cons.mp hb with hb' | hb'
      · rw [ha', hb']
      · refine absurd ?_ h1
        have q := asN_of hb'
        rw [← e, ha'] at q
        exact q
    · rcases List.mem_cons.mp hb with hb' | hb'
      · refine absurd ?_ h1
        have q := asN_of ha'
        rw [e, hb'] at q
        exact q
      · exact ih h2 ha' hb'
/-- a number that stands for a change of the key -/
def IsN (cs : List Ch) (k : Nat) (n : Int) : Prop := ∃ m c, n = ((m + 1 : Nat) : Int) ∧ cs[m]? = some c ∧ c.key = k
theorem fold_inv {cs : List Ch} {k : Nat} {u0 : Int} : ∀ {L : List Int} {st : HK × List Int}, KR cs k st.1 → 0 ≤ st.1.upto → L.Pairwise (· < ·) → (∀ n ∈ L, n ∈ asN st.1.aside) →
    (∀ a ∈ st.1.aside, (a.n : Int) ∉ L → st.1.upto < (a.ahead : Int) ∧ ∀ n ∈ L, (a.n : Int) < n) →
    u0 ≤ st.1.upto → (∀ n ∈ st.2, u0 < n ∧ n ≤ st.1.upto ∧ IsN cs k n) → st.2.Pairwise (· < ·) →
    KI cs k (L.foldl HK.fstep st).1 ∧ st.1.upto ≤ (L.foldl HK.fstep st).1.upto ∧ (∀ n ∈ (L.foldl HK.fstep st).2, u0 < n ∧ n ≤ (L.foldl HK.fstep st).1.upto ∧ IsN cs k n) ∧ (L.foldl HK.fstep st).2.Pairwise (· < ·)
  | [], st, r, h0, _, _, hrem, hu, hf, hp => ⟨⟨r, fun a ha => (hrem a ha (List.not_mem_nil)).1⟩, Int.le_refl _, hf, hp⟩
  | n :: L, st, r, h0, hL, hin, hrem, hu, hf, hp => by
    rw [List.foldl_cons]
    obtain ⟨hL1, hL2⟩ := List.pairwise_cons.mp hL
    obtain ⟨a, ha, ean⟩ := findA_some (hin n List.mem_cons_self)
    have hnL : n ∉ L := fun q => Int.lt_irrefl _ (hL1 n q)
    have ham := findA_mem ha
    have hain := r.as a ham
    obtain ⟨u, hu'⟩ : ∃ u : Nat, st.1.upto = u := ⟨st.1.upto.toNat, by omega⟩
    have stay : ∀ m ∈ L, m ∈ asN (dropA st.1.aside n) := fun m hm => by
      obtain ⟨b, hb, eb⟩ := List.mem_map.mp (hin m (List.mem_cons_of_mem _ hm))
      refine List.mem_map.mpr ⟨b, dropA_mem.mpr ⟨hb, fun q => ?_⟩, eb⟩
      have := hL1 m hm
      omega
    by_cases h1 : n ≤ st.1.upto
    · have e1 : HK.fstep st n = ({ st.1 with aside := dropA st.1.aside n }, st.2) := by
        unfold HK.fstep
        rw [ha]
        dsimp only
        rw [if_pos h1]
      rw [e1]
      exact fold_inv (st := ({ st.1 with aside := dropA st.1.aside n }, st.2)) ⟨r.lo, r.hi, r.ok, fun b hb => r.as b (dropA_mem.mp hb).1, r.nd.sublist (asN_drop _ _)⟩ h0 hL2 stay
        (fun b hb hbL => by
          obtain ⟨hb1, hb2⟩ := dropA_mem.mp hb
          obtain ⟨q1, q2⟩ := hrem b hb1 fun q => by
            rcases List.mem_cons.mp q with q | q
            · exact hb2 q
            · exact hbL q
          exact ⟨q1, fun m hm => q2 m (List.mem_cons_of_mem _ hm)⟩) hu hf hp
    · by_cases h2 : (a.ahead : Int) ≤ st.1.upto
      · have e1 : HK.fstep st n = (({ st.1 with aside := dropA st.1.aside n } : HK).done a.n false a.worth, st.2 ++ [n]) := by
          unfold HK.fstep
          rw [ha]
          dsimp only
          rw [if_neg h1, if_pos h2]
        rw [e1]
        obtain ⟨m, em1, em2, em3⟩ := id hain
        have hle := hain.le
        have hright : st.1.worth + a.worth = wof (cs.take a.n) k ∧ a.n = lof (cs.take a.n) k := by
          obtain ⟨w1, w2⟩ := wof_at em2
          obtain ⟨w3, _⟩ := wof_const (cs := cs) (k := k) (i := u) (j := m) (by omega) (by omega)
          rw [em1]
          refine ⟨?_, w2.symm⟩
          rw [show wof (cs.take (m + 1)) k = (if false = true then (0 : Int) else wof (cs.take m) k) + a.worth from w1, if_neg (by decide), w3, (r.ok u hu').1]
        have hdone : KR cs k (({ st.1 with aside := dropA st.1.aside n } : HK).done a.n false a.worth) := by
          refine ⟨?_, ?_, fun v hv => ?_, fun b hb => r.as b (dropA_mem.mp hb).1, r.nd.sublist (asN_drop _ _)⟩
          · show (-1 : Int) ≤ (a.n : Int)
            omega
          · show (a.n : Int) ≤ cs.length
            omega
          · have hv : (a.n : Int) = v := hv
            have : a.n = v := by omega
            subst this
            exact ⟨hright.1, hright.2⟩
        have hrem' : ∀ b ∈ (({ st.1 with aside := dropA st.1.aside n } : HK).done a.n false a.worth).aside, (b.n : Int) ∉ L → (({ st.1 with aside := dropA st.1.aside n } : HK).done a.n false a.worth).upto < (b.ahead : Int) ∧ ∀ n ∈ L, (b.n : Int) < n := by
          intro b hb hbL
          obtain ⟨hb1, hb2⟩ := dropA_mem.mp hb
          obtain ⟨q1, q2⟩ := hrem b hb1 fun q => by
            rcases List.mem_cons.mp q with q | q
            · exact hb2 q
            · exact hbL q
          have q3 := q2 n List.mem_cons_self
          have := (r.as b hb1).after hain (by omega)
          have := (r.as b hb1).lt
          omega
        have hf' : ∀ x ∈ st.2 ++ [n], u0 < x ∧ x ≤ (({ st.1 with aside := dropA st.1.aside n } : HK).done a.n false a.worth).upto ∧ IsN cs k x := by
          intro x hx
          show u0 < x ∧ x ≤ (a.n : Int) ∧ IsN cs k x
          rcases List.mem_append.mp hx with hx | hx
          · obtain ⟨p1, p2, p3⟩ := hf x hx
            exact ⟨p1, by omega, p3⟩
          · rw [List.mem_singleton] at hx
            subst hx
            exact ⟨by omega, by omega, m, _, by omega, em2, rfl⟩
        have hp' : (st.2 ++ [n]).Pairwise (· < ·) := by
          refine List.pairwise_append.mpr ⟨hp, List.pairwise_singleton _ _, fun x hx y hy => ?_⟩
          rw [List.mem_singleton] at hy
          subst hy
          have := (hf x hx).2.1
          omega
        have q := fold_inv (u0 := u0) (L := L) (st := (({ st.1 with aside := dropA st.1.aside n } : HK).done a.n false a.worth, st.2 ++ [n])) hdone (by show (0 : Int) ≤ (a.n : Int); omega) hL2 stay hrem' (by show u0 ≤ (a.n : Int); omega) hf' hp'
        exact ⟨q.1, Int.le_trans (by show st.1.upto ≤ (a.n : Int); omega) q.2.1, q.2.2⟩
      · have e1 : HK.fstep st n = st := by
          unfold HK.fstep
          rw [ha]
          dsimp only
          rw [if_neg h1, if_neg h2]
        rw [e1]
        refine fold_inv r h0 hL2 (fun m hm => hin m (List.mem_cons_of_mem _ hm)) (fun b hb hbL => ?_) hu hf hp
        by_cases hbn : (b.n : Int) = n
        · have : b = a := nd_same r.nd hb ham (by omega)
          subst this
          exact ⟨by omega, fun m hm => by rw [hbn]; exact hL1 m hm⟩
        · obtain ⟨q1, q2⟩ := hrem b hb fun q => by
            rcases List.mem_cons.mp q with q | q
            · exact hbn q
            · exact hbL q
          exact ⟨q1, fun m hm => q2 m (List.mem_cons_of_mem _ hm)⟩
theorem srt_lt {ns : List Int} (nd : ns.Nodup) : (srt ns).Pairwise (· < ·) := by
  have h1 : (srt ns).Pairwise (· ≤ ·) := by
    have := List.pairwise_mergeSort (le := fun a b : Int => decide (a ≤ b)) (fun a b c h1 h2 => by simp at h1 h2 ⊢; omega) (fun a b => by simp; omega) ns
    exact this.imp fun h => by simpa using h
  have h2 : (srt ns).Nodup := (srt_perm ns).nodup_iff.mpr nd
  exact (List.pairwise_and_iff.mpr ⟨h1, h2⟩).imp fun ⟨a, b⟩ => by omega
/-- what is told as done by a letter, for a key: between what was known and what is known, changes of the key, rising -/
structure Told (cs : List Ch) (k : Nat) (u : Int) (r : HK × List Int) : Prop where
  inv : KI cs k r.1
  up : u ≤ r.1.upto
  num : ∀ n ∈ r.2, u < n ∧ n ≤ r.1.upto ∧ IsN cs k n
  rise : r.2.Pairwise (· < ·)
theorem free_told {cs : List Ch} {k : Nat} {h : HK} {u0 : Int} (r : KR cs k h) (h0 : 0 ≤ h.upto) (hu : u0 ≤ h.upto) : Told cs k u0 h.free ∧ h.upto ≤ h.free.1.upto := by
  obtain ⟨q1, q2, q3, q4⟩ := fold_inv (u0 := u0) (L := srt (asN h.aside)) (st := (h, [])) r h0 (srt_lt r.nd) (fun n hn => (srt_perm _).mem_iff.mp hn)
    (fun a ha q => absurd ((srt_perm _).mem_iff.mpr (List.mem_map.mpr ⟨a, ha, rfl⟩)) q) hu (fun _ q => (nomatch q)) List.Pairwise.nil
  exact ⟨⟨q1, Int.le_trans hu q2, q3, q4⟩, q2⟩
theorem Told.none {cs : List Ch} {k : Nat} {h : HK} (i : KI cs k h) : Told cs k h.upto (h, []) := ⟨i, Int.le_refl _, fun _ q => (nomatch q), List.Pairwise.nil⟩
theorem putA_mem {as : List As} {a b : As} (h : b ∈ putA as a) : b = a ∨ b ∈ as := by
  unfold putA at h
  split at h
  · obtain ⟨x, hx, e⟩ := List.mem_map.mp h
    split at e
    · exact .inl e.symm
    · exact .inr (e ▸ hx)
  · rcases List.mem_append.mp h with h | h
    · exact .inr h
    · exact .inl (List.mem_singleton.mp h)
theorem putA_nd {as : List As} {a : As} (nd : (asN as).Nodup) : (asN (putA as a)).Nodup := by
  unfold putA
  split
  · have : asN (as.map fun x => if x.n = a.n then a else x) = asN as := by
      unfold asN
      rw [List.map_map]
      apply List.map_congr_left
      intro x _
      show ((if x.n = a.n then a else x).n : Int) = x.n
      split
      · rename_i h
        rw [h]
      · rfl
    rw [this]
    exact nd
  · rename_i h
    unfold asN
    rw [List.map_append]
    refine List.nodup_append.mpr ⟨nd, by simp, fun x hx y hy q => h ?_⟩
    obtain ⟨b, hb, eb⟩ := List.mem_map.mp hx
    have hy : y = (a.n : Int) := by simpa using hy
    rw [List.any_eq_true]
    exact ⟨b, hb, by simp; omega⟩
/-- THE STEP -/
theorem hearK_told {nk : Nat} {cs : List Ch} {k : Nat} {h : HK} {l : Letter} (i : KI cs k h) (hk : k < nk) (hl : IsLet nk cs l) : Told cs k h.upto (hearK k h l) := by
  cases hl with
  | @change n c e =>
    simp only [hearK]
    split
    · rename_i hck
      subst hck
      unfold HK.chg
      split
      · exact .none i
      · rename_i h1
        split
        · rename_i h2
          have hin : AsIn cs c.key ⟨n + 1, c.worth, lof (cs.take n) c.key⟩ := by
            refine ⟨n, rfl, ?_, rfl⟩
            rw [e]
            cases c
            cases h2.1
            rfl
          refine ⟨⟨⟨i.lo, i.hi, i.ok, fun a ha => ?_, putA_nd i.nd⟩, fun a ha => ?_⟩, Int.le_refl _, fun _ q => (nomatch q), List.Pairwise.nil⟩
          · rcases putA_mem ha with q | q
            · rw [q]
              exact hin
            · exact i.as a q
          · rcases putA_mem ha with q | q
            · rw [q]
              exact h2.2
            · exact i.ahead a q
        · rename_i h2
          have hn := (List.getElem?_eq_some_iff.mp e).1
          have hr : KR cs c.key (h.done (n + 1) c.set c.worth) := by
            refine ⟨?_, ?_, fun u hu => ?_, i.as, i.nd⟩
            · show (-1 : Int) ≤ ((n + 1 : Nat) : Int)
              omega
            · show ((n + 1 : Nat) : Int) ≤ cs.length
              omega
            · have hu : ((n + 1 : Nat) : Int) = u := hu
              have : n + 1 = u := by omega
              subst this
              obtain ⟨w1, w2⟩ := wof_at e
              refine ⟨?_, w2.symm⟩
              show (if c.set then c.worth else h.worth + c.worth) = _
              rw [w1]
              cases hs : c.set with
              | true => simp
              | false =>
                have hua : (lof (cs.take n) c.key : Int) ≤ h.upto := by
                  by_cases q : h.upto < (lof (cs.take n) c.key : Int)
                  · exact absurd ⟨hs, q⟩ h2
                  · omega
                obtain ⟨v, hv⟩ : ∃ v : Nat, h.upto = v := ⟨h.upto.toNat, by omega⟩
                obtain ⟨w3, _⟩ := wof_const (cs := cs) (k := c.key) (i := v) (j := n) (by omega) (by omega)
                rw [(i.ok v hv).1, w3]
                simp
          obtain ⟨q1, q2⟩ := free_told (u0 := ((n + 1 : Nat) : Int)) hr (by show (0 : Int) ≤ ((n + 1 : Nat) : Int); omega) (Int.le_refl _)
          refine ⟨q1.inv, by show h.upto ≤ (h.done (n + 1) c.set c.worth).free.1.upto; have := q1.up; omega, fun x hx => ?_, List.pairwise_cons.mpr ⟨fun x hx => (q1.num x hx).1, q1.rise⟩⟩
          rcases List.mem_cons.mp hx with hx | hx
          · subst hx
            exact ⟨by omega, q1.up, n, c, rfl, e, rfl⟩
          · obtain ⟨p1, p2, p3⟩ := q1.num x hx
            exact ⟨by omega, p2, p3⟩
    · exact .none i
  | @part n b e hn hbe hek =>
    show Told cs k h.upto (hearK k h (.part n b (partRows cs n b (e - b))))
    simp only [hearK]
    split
    · rename_i hbk
      cases er : (partRows cs n b (e - b))[k - b]? with
      | none => exact .none i
      | some r =>
        have hr : r = (wof (cs.take n) k, lof (cs.take n) k) := by
          have hlt := (List.getElem?_eq_some_iff.mp er).1
          rw [partRows, List.length_map, List.length_range] at hlt
          rw [partRows, List.getElem?_map, List.getElem?_range hlt] at er
          have := Option.some.inj er
          rw [← this]
          show (wof (cs.take n) (b + (k - b)), lof (cs.take n) (b + (k - b))) = _
          rw [show b + (k - b) = k by omega]
        subst hr
        show Told cs k h.upto (h.row n (wof (cs.take n) k) (lof (cs.take n) k))
        unfold HK.row
        split
        · rename_i h1
          have hr : KR cs k { h with worth := wof (cs.take n) k, since := lof (cs.take n) k, upto := n } := by
            refine ⟨by show (-1 : Int) ≤ (n : Int); omega, by show (n : Int) ≤ cs.length; omega, fun u hu => ?_, i.as, i.nd⟩
            have hu : (n : Int) = u := hu
            have : n = u := by omega
            subst this
            exact ⟨rfl, rfl⟩
          exact (free_told hr (by show (0 : Int) ≤ (n : Int); omega) (by show h.upto ≤ (n : Int); omega)).1
        · exact .none i
    · exact .none i
  | @beat n hn =>
    show Told cs k h.upto (hearK k h (.beat n ((List.range nk).map fun k => lof (cs.take n) k)))
    simp only [hearK]
    rw [List.getElem?_map, List.getElem?_range hk]
    show Told cs k h.upto (h.beat n (lof (cs.take n) k), [])
    unfold HK.beat
    split
    · rename_i h1
      obtain ⟨v, hv⟩ : ∃ v : Nat, h.upto = v := ⟨h.upto.toNat, by omega⟩
      obtain ⟨w3, w4⟩ := wof_const (cs := cs) (k := k) (i := v) (j := n) (by omega) (by omega)
      refine ⟨⟨⟨by show (-1 : Int) ≤ (n : Int); omega, by show (n : Int) ≤ cs.length; omega, fun u hu => ?_, i.as, i.nd⟩, fun a ha => ?_⟩, by show h.upto ≤ (n : Int); omega, fun _ q => (nomatch q), List.Pairwise.nil⟩
      · have hu : (n : Int) = u := hu
        have : n = u := by omega
        subst this
        rw [w3, w4]
        exact i.ok v hv
      · show (n : Int) < (a.ahead : Int)
        have h2 := i.ahead a ha
        rcases Nat.lt_or_ge n a.ahead with q | q
        · omega
        · exfalso
          obtain ⟨m, e1, e2, e3⟩ := i.as a ha
          -- the change ahead is one of the key's, at n at the latest
          have h3 : lof (cs.take a.ahead) k = a.ahead := by
            have : lof (cs.take m) k ≤ a.ahead := by omega
            have := wof_const (cs := cs) (k := k) (i := a.ahead) (j := m) (by have := lof_take_le cs m k; omega) this
            omega
          have h4 := lof_mono (cs := cs) (k := k) q
          omega
    · exact .none i
end Cu

namespace Cu
open PySem PySem.Spec PyProof.Rows L2
def wholeD (hs : List HK) : PyData := match wholeM hs with
  | none => .none
  | some (n, ws) => .tuple [.int n, ilst ws]
def standD (hs : List HK) : PyData := .list [.list (hs.map lookM), ilst (hs.map fun h => h.upto), ilst (heldM hs), wholeD hs]
theorem Gd.look {n : Nat} (h : HK) : Gd (n + 2) (lookM h) := by
  unfold lookM
  split
  · exact .none
  · exact .tuple (.all_cons .int (.all_cons .int (.all_cons .int .all_nil)))
theorem Gd.whole {n : Nat} (hs : List HK) : Gd (n + 3) (wholeD hs) := by
  unfold wholeD
  split
  · exact .none
  · exact .tuple (.all_cons .int (.all_cons (.ilst _) .all_nil))
theorem Gd.stand (hs : List HK) : Gd 5 (standD hs) := .list (.all_cons (.list fun d hd => by
  obtain ⟨h, _, rfl⟩ := List.mem_map.mp hd
  exact .look h) (.all_cons (.ilst _) (.all_cons (.ilst _) (.all_cons (.whole _) .all_nil))))
section
variable {K : PySem.W.Frag} {H : Hp} {C : Addr} {σ : L2.St} {Q : VK} {i : Nat} {A : HA} {hs : List HK} {c : Lg} {te : TE}
theorem rd_known (h1 : σ[i]? = some (some (.ref A.p))) (r : HR K C A hs H c) (hc : Has H c) (q : ∀ p H', Grow H H' → FzL K H' p ((hs.map fun h => h.upto).map V.int) → Q (.ref p) H') :
    tFz (tMeth C "known" (spKnown K C) [] E0 (tVar i) tNil) σ H Q :=
  rd_fz ⟨_, h1, A.p, _, _, rfl, r.at_p hc, hFno, rfl, A, hs, c, rfl, r, hc, fun _ _ t => ⟨_, _, rfl, t.own.head, fun _ => q _ _ (t.fz .nil) FzL.frz⟩⟩
theorem rd_held (h1 : σ[i]? = some (some (.ref A.p))) (r : HR K C A hs H c) (hc : Has H c) (hsz : (hs.map fun h => asN h.aside).flatten.length ≤ 1000) (q : ∀ p H', Grow H H' → FzL K H' p ((heldM hs).map V.int) → Q (.ref p) H') :
    tFz (tMeth C "held" (spHeld K C) [] E0 (tVar i) tNil) σ H Q :=
  rd_fz ⟨_, h1, A.p, _, _, rfl, r.at_p hc, hFno, rfl, A, hs, c, rfl, r, hc, hsz, fun _ _ t => ⟨_, _, rfl, t.own.head, fun _ => q _ _ (t.fz .nil) FzL.frz⟩⟩
theorem rd_whole (h1 : σ[i]? = some (some (.ref A.p))) (r : HR K C A hs H c) (hc : Has H c) (hn : 0 < hs.length) (q : ∀ v H', Grow H H' → Rp K H' (wholeD hs) v → Q v H') :
    tFzw (tMeth C "whole" (spWhole K C) [] E0 (tVar i) tNil) σ H Q := by
  refine rd_fzw ⟨_, h1, A.p, _, _, rfl, r.at_p hc, hFno, rfl, A, hs, c, rfl, r, hc, hn, fun hw => .inl (q _ _ (Grow.refl _) ?_), fun n ws hw p t H' t8 ht => .inr ⟨_, _, t8.own.head, fun o => q _ _ (t8.fz (ob := o) .nil) ?_⟩⟩
  · rw [wholeD, hw]
    exact .non
  · rw [wholeD, hw]
    exact .tup (t8.own.mono_put (o' := .frz o (.lst (ws.map V.int))) _ _ ht trivial) (.cons .int (.cons (.il FzL.frz) .nil))
theorem rd_look {k : Nat} {h : HK} {j : Nat} {z : Int} (h1 : σ[i]? = some (some (.ref A.p))) (r : HR K C A hs H c) (hc : Has H c) (h2 : σ[j]? = some (some (.int z))) (ez : z = k) (e : hs[k]? = some h) (q : ∀ v H', Grow H H' → Rp K H' (lookM h) v → Q v H') :
    tMeth C "look" (spLook K C) [] E0 (tVar i) (tCons (tVar j) tNil) σ H Q := by
  subst ez
  exact ⟨_, h1, A.p, _, _, rfl, r.at_p hc, hFno, _, h2, rfl, A, hs, c, k, h, rfl, r, hc, e, q⟩
theorem Rp.look_inv {h : HK} {v : V} (r : Rp K H (lookM h) v) (hu : 0 ≤ h.upto) : ∃ t, v = .ref t ∧ H t = some (.tup [.int h.worth, .int h.since, .int h.upto]) := by
  unfold lookM at r
  rw [if_neg (by omega)] at r
  obtain ⟨a, xs, e, f, r⟩ := r.tup_inv
  obtain ⟨v1, r1, e1, g1, r⟩ := r.cons_inv
  obtain ⟨v2, r2, e2, g2, r⟩ := r.cons_inv
  obtain ⟨v3, r3, e3, g3, r⟩ := r.cons_inv
  have := r.nil_inv
  subst this e3 e2 e1
  have g1 := Rp.int_iff.mp g1
  have g2 := Rp.int_iff.mp g2
  have g3 := Rp.int_iff.mp g3
  subst g1 g2 g3
  exact ⟨a, e, f⟩
theorem Rp.whole_inv {v : V} (r : Rp K H (wholeD hs) v) : (wholeM hs = none ∧ v = .non) ∨ ∃ n ws t p, wholeM hs = some (n, ws) ∧ v = .ref t ∧ H t = some (.tup [.int n, .ref p]) ∧ FzL K H p (ws.map V.int) := by
  unfold wholeD at r
  cases e : wholeM hs with
  | none =>
    rw [e] at r
    exact .inl ⟨rfl, Rp.none_iff.mp r⟩
  | some x =>
    obtain ⟨n, ws⟩ := x
    rw [e] at r
    obtain ⟨a, xs, e1, f, r⟩ := Rp.tup_inv r
    obtain ⟨v1, r1, e2, g1, r⟩ := r.cons_inv
    obtain ⟨v2, r2, e3, g2, r⟩ := r.cons_inv
    have := r.nil_inv
    subst this e3 e2
    have g1 := Rp.int_iff.mp g1
    obtain ⟨p, e4, f4⟩ := g2.il_inv
    subst g1 e4
    exact .inr ⟨n, ws, a, p, rfl, e1, f, f4⟩
end
end Cu

namespace Cu
open PySem PySem.Spec PyProof.Rows L2
/-! all keys of a hearer, by letters of one board -/
theorem IsN.key {cs : List Ch} {k k' : Nat} {n : Int} (h : IsN cs k n) (h' : IsN cs k' n) : k = k' := by
  obtain ⟨m, c, e1, e2, e3⟩ := h
  obtain ⟨m', c', e4, e5, e6⟩ := h'
  have : m = m' := by omega
  subst this
  rw [e2] at e5
  cases e5
  omega
theorem IsN.bd {cs : List Ch} {k : Nat} {n : Int} (h : IsN cs k n) : 0 < n ∧ n ≤ cs.length := by
  obtain ⟨m, c, e1, e2, _⟩ := h
  have := (List.getElem?_eq_some_iff.mp e2).1
  omega
theorem AsIn.isN {cs : List Ch} {k : Nat} {a : As} (h : AsIn cs k a) : IsN cs k a.n := by
  obtain ⟨m, e1, e2, _⟩ := h
  exact ⟨m, _, by omega, e2, rfl⟩
theorem rise_len : ∀ {l : List Int} {a b : Int}, l.Pairwise (· < ·) → (∀ n ∈ l, a < n ∧ n ≤ b) → (l.length : Int) ≤ if a ≤ b then b - a else 0
  | [], a, b, _, _ => by
    show (0 : Int) ≤ _
    split <;> omega
  | n :: l, a, b, h, q => by
    obtain ⟨h1, h2⟩ := List.pairwise_cons.mp h
    have q0 := q n List.mem_cons_self
    have ih := rise_len (a := n) (b := b) h2 fun m hm => ⟨h1 m hm, (q m (List.mem_cons_of_mem _ hm)).2⟩
    rw [if_pos (by omega)] at ih
    rw [if_pos (by omega), List.length_cons]
    omega
theorem nodup_len {l : List Int} {b : Nat} (nd : l.Nodup) (h : ∀ n ∈ l, 0 < n ∧ n ≤ b) : l.length ≤ b := by
  have h1 := rise_len (a := 0) (b := b) (srt_lt nd) fun n hn => h n ((srt_perm l).mem_iff.mp hn)
  rw [(srt_perm l).length_eq, if_pos (by omega)] at h1
  omega
theorem KI.few {cs : List Ch} {k : Nat} {h : HK} (i : KI cs k h) : h.aside.length ≤ cs.length := by
  have := nodup_len (b := cs.length) i.nd fun n hn => by
    obtain ⟨a, ha, e⟩ := List.mem_map.mp hn
    have := (i.as a ha).le
    omega
  rwa [asN, List.length_map] at this
theorem KI.wf {cs : List Ch} {k : Nat} {h : HK} (i : KI cs k h) (hl : cs.length < 122) : Wf h := ⟨i.nd, Nat.lt_of_le_of_lt i.few hl⟩
/-- a letter heard again -/
theorem putA_twice (as : List As) (a : As) : putA (putA as a) a = putA as a := by
  have hany : ((putA as a).any fun x => decide (x.n = a.n)) = true := by
    rw [List.any_eq_true]
    unfold putA
    split
    · rename_i h
      obtain ⟨x, hx, e⟩ := List.any_eq_true.mp h
      have e : x.n = a.n := of_decide_eq_true e
      exact ⟨a, List.mem_map.mpr ⟨x, hx, if_pos e⟩, by simp⟩
    · exact ⟨a, by simp, by simp⟩
  have e : putA (putA as a) a = (putA as a).map fun x => if x.n = a.n then a else x := by
    rw [putA, if_pos hany]
  rw [e]
  unfold putA
  split
  · rw [List.map_map]
    apply List.map_congr_left
    intro x _
    show (if (if x.n = a.n then a else x).n = a.n then a else (if x.n = a.n then a else x)) = if x.n = a.n then a else x
    by_cases h : x.n = a.n
    · rw [if_pos h, if_pos rfl]
    · rw [if_neg h, if_neg h]
  · rename_i h
    rw [List.map_append]
    have : as.map (fun x => if x.n = a.n then a else x) = as := by
      have : as.map (fun x => if x.n = a.n then a else x) = as.map id := by
        apply List.map_congr_left
        intro x hx
        rw [if_neg fun q => h (List.any_eq_true.mpr ⟨x, hx, by simpa using q⟩)]
        rfl
      rw [this, List.map_id]
    rw [this]
    simp
theorem fold_up {l : List Int} {st : HK × List Int} : st.1.upto ≤ (l.foldl HK.fstep st).1.upto := by
  induction l generalizing st with
  | nil => exact Int.le_refl _
  | cons n l ih =>
    rw [List.foldl_cons]
    refine Int.le_trans ?_ ih
    unfold HK.fstep
    cases h : findA st.1.aside n with
    | none => exact Int.le_refl _
    | some a =>
      dsimp only
      split
      · exact Int.le_refl _
      · split
        · have := findA_n h
          show st.1.upto ≤ (a.n : Int)
          omega
        · exact Int.le_refl _
theorem free_up (h : HK) : h.upto ≤ h.free.1.upto := fold_up (st := (h, []))
theorem hearK_twice (k : Nat) (h : HK) (l : Letter) : hearK k (hearK k h l).1 l = ((hearK k h l).1, []) := by
  cases l with
  | change n c ahead =>
    simp only [hearK]
    by_cases hk : c.key = k
    · simp only [if_pos hk]
      by_cases h1 : (n : Int) ≤ h.upto
      · have e : h.chg n c ahead = (h, []) := by rw [HK.chg, if_pos h1]
        rw [e]
        exact e
      · by_cases h2 : c.set = false ∧ h.upto < (ahead : Int)
        · have e : h.chg n c ahead = ({ h with aside := putA h.aside ⟨n, c.worth, ahead⟩ }, []) := by rw [HK.chg, if_neg h1, if_pos h2]
          rw [e]
          show HK.chg { h with aside := putA h.aside ⟨n, c.worth, ahead⟩ } n c ahead = _
          rw [HK.chg, if_neg h1, if_pos h2]
          simp only [putA_twice]
        · have e : h.chg n c ahead = (((h.done n c.set c.worth).free).1, (n : Int) :: ((h.done n c.set c.worth).free).2) := by rw [HK.chg, if_neg h1, if_neg h2]
          rw [e]
          have := free_up (h.done n c.set c.worth)
          have h3 : (n : Int) ≤ ((h.done n c.set c.worth).free).1.upto := this
          show HK.chg ((h.done n c.set c.worth).free).1 n c ahead = _
          rw [HK.chg, if_pos h3]
    · simp only [if_neg hk]
  | part n b rows =>
    simp only [hearK]
    by_cases hk : b ≤ k
    · simp only [if_pos hk]
      cases rows[k - b]? with
      | none => rfl
      | some r =>
        show HK.row (h.row n r.1 r.2).1 n r.1 r.2 = ((h.row n r.1 r.2).1, [])
        by_cases h1 : h.upto < (n : Int)
        · have e : h.row n r.1 r.2 = ({ h with worth := r.1, since := r.2, upto := n } : HK).free := by rw [HK.row, if_pos h1]
          rw [e]
          have h3 : (n : Int) ≤ (({ h with worth := r.1, since := r.2, upto := n } : HK).free).1.upto := free_up { h with worth := r.1, since := r.2, upto := n }
          rw [HK.row, if_neg (by omega)]
        · have e : h.row n r.1 r.2 = (h, []) := by rw [HK.row, if_neg h1]
          rw [e]
          exact e
    · simp only [if_neg hk]
  | beat n lasts =>
    simp only [hearK]
    cases lasts[k]? with
    | none => rfl
    | some x =>
      show ((h.beat n x).beat n x, ([] : List Int)) = (h.beat n x, [])
      congr 1
      unfold HK.beat
      by_cases h1 : (x : Int) ≤ h.upto ∧ h.upto < (n : Int)
      · rw [if_pos h1, if_neg fun q => absurd q.2 (Int.lt_irrefl _)]
      · rw [if_neg h1, if_neg h1]
theorem hear_get {hs : List HK} {l : Letter} {k : Nat} {h : HK} (e : hs[k]? = some h) : (hear hs l)[k]? = some (hearK k h l).1 := by
  rw [hear, List.getElem?_mapIdx, e]
  rfl
theorem hear_inv {hs : List HK} {l : Letter} {k : Nat} {h' : HK} (e : (hear hs l)[k]? = some h') : ∃ h, hs[k]? = some h ∧ h' = (hearK k h l).1 := by
  cases eh : hs[k]? with
  | none =>
    rw [hear, List.getElem?_mapIdx, eh] at e
    cases e
  | some h =>
    rw [hear_get eh] at e
    exact ⟨h, rfl, (Option.some.inj e).symm⟩
theorem heard_mem {hs : List HK} {l : Letter} {n : Int} (h : n ∈ heard hs l) : ∃ k g, hs[k]? = some g ∧ n ∈ (hearK k g l).2 := by
  obtain ⟨x, hx, hn⟩ := List.mem_flatten.mp h
  obtain ⟨k, hk⟩ := List.getElem?_of_mem hx
  rw [List.getElem?_mapIdx] at hk
  cases eh : hs[k]? with
  | none =>
    rw [eh] at hk
    cases hk
  | some g =>
    rw [eh] at hk
    have e : (hearK k g l).2 = x := Option.some.inj hk
    exact ⟨k, g, eh, by rw [e]; exact hn⟩
theorem hear_twice (hs : List HK) (l : Letter) : hear (hear hs l) l = hear hs l ∧ heard (hear hs l) l = [] := by
  constructor
  · apply List.ext_getElem?
    intro k
    cases eh : hs[k]? with
    | none => rw [List.getElem?_eq_none (by rw [hear_len, hear_len]; exact List.getElem?_eq_none_iff.mp eh), List.getElem?_eq_none (by rw [hear_len]; exact List.getElem?_eq_none_iff.mp eh)]
    | some h => rw [hear_get (hear_get eh), hear_get eh, hearK_twice]
  · refine List.eq_nil_iff_forall_not_mem.mpr fun n hn => ?_
    obtain ⟨k, g, e1, e2⟩ := heard_mem hn
    obtain ⟨h, e3, rfl⟩ := hear_inv e1
    rw [hearK_twice] at e2
    cases e2
/-- a hearer, all of whose keys are right -/
def AllI (nk : Nat) (cs : List Ch) (hs : List HK) : Prop := hs.length = nk ∧ ∀ k h, hs[k]? = some h → KI cs k h
theorem AllI.ini (nk : Nat) (cs : List Ch) : AllI nk cs (List.replicate nk HK.ini) := ⟨List.length_replicate, fun k h e => by
  rw [List.getElem?_replicate] at e
  split at e
  · cases e
    exact KI.ini cs k
  · cases e⟩
theorem AllI.told {nk : Nat} {cs : List Ch} {hs : List HK} {l : Letter} {k : Nat} {h : HK} (i : AllI nk cs hs) (hl : IsLet nk cs l) (e : hs[k]? = some h) : Told cs k h.upto (hearK k h l) :=
  hearK_told (i.2 k h e) (by have := (List.getElem?_eq_some_iff.mp e).1; have := i.1; omega) hl
theorem AllI.hear {nk : Nat} {cs : List Ch} {hs : List HK} {l : Letter} (i : AllI nk cs hs) (hl : IsLet nk cs l) : AllI nk cs (hear hs l) := ⟨by rw [hear_len]; exact i.1, fun k h e => by
  obtain ⟨g, eg, rfl⟩ := hear_inv e
  exact (i.told hl eg).inv⟩
theorem AllI.wf {nk : Nat} {cs : List Ch} {hs : List HK} (i : AllI nk cs hs) (hl : cs.length < 122) : ∀ h ∈ hs, Wf h := fun h hm => by
  obtain ⟨k, e⟩ := List.getElem?_of_mem hm
  exact (i.2 k h e).wf hl
theorem flat_le {α β : Type} {f : α → List β} {b : Nat} : ∀ {xs : List α}, (∀ x ∈ xs, (f x).length ≤ b) → ((xs.map f).flatten).length ≤ xs.length * b
  | [], _ => by simp
  | x :: xs, h => by
    have h1 := h x List.mem_cons_self
    have ih := flat_le (xs := xs) fun y hy => h y (List.mem_cons_of_mem _ hy)
    rw [List.map_cons, List.flatten_cons, List.length_append, List.length_cons, Nat.succ_mul]
    omega
theorem AllI.held {nk : Nat} {cs : List Ch} {hs : List HK} (i : AllI nk cs hs) (hl : cs.length ≤ 122) (hn : nk ≤ 8) : (hs.map fun h => asN h.aside).flatten.length ≤ 1000 := by
  have h1 := flat_le (f := fun h : HK => asN h.aside) (b := 122) (xs := hs) fun h hm => by
    obtain ⟨k, e⟩ := List.getElem?_of_mem hm
    have := (i.2 k h e).few
    rw [asN, List.length_map]
    omega
  have := i.1
  have h2 : hs.length * 122 ≤ 8 * 122 := Nat.mul_le_mul_right _ (by omega)
  omega
/-- the number's change is done -/
def Dn (cs : List Ch) (hs : List HK) (n : Int) : Prop := ∃ k h, hs[k]? = some h ∧ n ≤ h.upto ∧ IsN cs k n
section
variable {nk : Nat} {cs : List Ch} {hs : List HK} {l : Letter} {n : Int}
theorem Dn.hear (i : AllI nk cs hs) (hl : IsLet nk cs l) (h : Dn cs hs n) : Dn cs (hear hs l) n := by
  obtain ⟨k, g, e, h1, h2⟩ := h
  exact ⟨k, _, hear_get e, Int.le_trans h1 (i.told hl e).up, h2⟩
theorem heard_dn (i : AllI nk cs hs) (hl : IsLet nk cs l) (h : n ∈ heard hs l) : Dn cs (hear hs l) n ∧ ¬ Dn cs hs n := by
  obtain ⟨k, g, e1, e2⟩ := heard_mem h
  obtain ⟨q1, q2, q3⟩ := (i.told hl e1).num n e2
  refine ⟨⟨k, _, hear_get e1, q2, q3⟩, fun ⟨k', g', e3, q4, q5⟩ => ?_⟩
  have := q3.key q5
  subst this
  rw [e1] at e3
  cases e3
  omega
theorem flat_nodup : ∀ {xs : List (List Int)}, (∀ x ∈ xs, x.Nodup) → (∀ (i j : Nat) x y, xs[i]? = some x → xs[j]? = some y → i < j → ∀ n ∈ x, n ∉ y) → xs.flatten.Nodup
  | [], _, _ => by simp
  | x :: xs, h, q => by
    rw [List.flatten_cons]
    refine List.nodup_append.mpr ⟨h x List.mem_cons_self, flat_nodup (fun y hy => h y (List.mem_cons_of_mem _ hy)) fun i j y z ei ej hij => q (i + 1) (j + 1) y z (by simpa using ei) (by simpa using ej) (by omega), fun a ha b hb e => ?_⟩
    obtain ⟨y, hy, hby⟩ := List.mem_flatten.mp hb
    obtain ⟨j, hj⟩ := List.getElem?_of_mem hy
    subst e
    exact q 0 (j + 1) x y rfl (by simpa using hj) (by omega) a ha hby
theorem heard_nodup (i : AllI nk cs hs) (hl : IsLet nk cs l) : (heard hs l).Nodup := by
  have at_ : ∀ (j : Nat) (x : List Int), (hs.mapIdx fun k h => (hearK k h l).2)[j]? = some x → ∃ g, hs[j]? = some g ∧ x = (hearK j g l).2 := fun j x hx => by
    rw [List.getElem?_mapIdx] at hx
    cases eh : hs[j]? with
    | none =>
      rw [eh] at hx
      cases hx
    | some g =>
      rw [eh] at hx
      exact ⟨g, rfl, (Option.some.inj hx).symm⟩
  refine flat_nodup (fun x hx => ?_) fun a b x y ha hb hab m hm hm' => ?_
  · obtain ⟨j, hj⟩ := List.getElem?_of_mem hx
    obtain ⟨g, eg, rfl⟩ := at_ j x hj
    exact (i.told hl eg).rise.imp fun h => Int.ne_of_lt h
  · obtain ⟨g, eg, rfl⟩ := at_ a x ha
    obtain ⟨g', eg', rfl⟩ := at_ b y hb
    have := ((i.told hl eg).num m hm).2.2.key ((i.told hl eg').num m hm').2.2
    omega
theorem heard_bd (i : AllI nk cs hs) (hl : IsLet nk cs l) (h : n ∈ heard hs l) : 0 < n ∧ n ≤ cs.length := by
  obtain ⟨k, g, e1, e2⟩ := heard_mem h
  exact ((i.told hl e1).num n e2).2.2.bd
theorem heard_few (i : AllI nk cs hs) (hl : IsLet nk cs l) : (heard hs l).length ≤ cs.length := nodup_len (heard_nodup i hl) fun _ h => heard_bd i hl h
theorem held_not (i : AllI nk cs hs) (h : n ∈ heldM hs) : ¬ Dn cs hs n := by
  have h := (srt_perm _).mem_iff.mp h
  obtain ⟨x, hx, hn⟩ := List.mem_flatten.mp h
  obtain ⟨g, hg, rfl⟩ := List.mem_map.mp hx
  obtain ⟨k, ek⟩ := List.getElem?_of_mem hg
  obtain ⟨a, ha, rfl⟩ := List.mem_map.mp hn
  rintro ⟨k', g', e1, q1, q2⟩
  have hin := (i.2 k g ek).as a ha
  have := hin.isN.key q2
  subst this
  rw [ek] at e1
  cases e1
  have h1 := (i.2 k g ek).ahead a ha
  have h2 := hin.lt
  omega
theorem let_ok (hc : ∀ c ∈ cs, c.key < nk) (h : hs.length = nk) : IsLet nk cs l →
    match l with | .change _ ch _ => ch.key < hs.length | .part _ b rows => b + rows.length ≤ hs.length | .beat _ lasts => lasts.length = hs.length := by
  intro hl
  cases hl with
  | change e =>
    show _ < hs.length
    rw [h]
    exact hc _ (List.mem_of_getElem? e)
  | @part n b e hn hbe hek =>
    show b + (partRows cs n b (e - b)).length ≤ hs.length
    rw [partRows, List.length_map, List.length_range]
    omega
  | beat hn =>
    show ((List.range nk).map _).length = hs.length
    rw [List.length_map, List.length_range]
    omega
end
theorem set_srt {ns ms : List Int} (nd : ns.Nodup) (h1 : ms.Pairwise (· < ·)) (h2 : ∀ k : Int, k ∈ ms ↔ decide (k ∈ ns) = true) : ms = srt ns := by
  refine srt_eq ?_ (h1.imp fun h => Int.le_of_lt h)
  exact (List.perm_ext_iff_of_nodup (h1.imp fun h => Int.ne_of_lt h) nd).mpr fun a => by rw [h2 a, decide_eq_true_eq]
end Cu

namespace Cu
open PySem PySem.Spec PyProof.Rows L2
theorem mk_tr {H : Hp} {x dx C : Addr} (h1 : H x = none) (h2 : H dx = none) (n : dx ≠ x) : Tr H [] (upd (upd H dx (.own x)) x (.ins C dx [])) [(x, .ins C dx [])] :=
  ((Tr.refl H []).old h2).new (by rw [upd_ne n.symm]; exact h1) nins
theorem inV_ints (n : Int) (ns : List Int) : inV (.int n) (ns.map V.int) = decide (n ∈ ns) := by
  induction ns with
  | nil => rfl
  | cons m ns ih =>
    have e : inV (.int n) ((m :: ns).map V.int) = (eqV (.int m) (.int n) || inV (.int n) (ns.map V.int)) := rfl
    rw [e, ih]
    have e2 : eqV (.int m) (.int n) = decide (m = n) := by
      by_cases h : m = n <;> simp [eqV, h]
    rw [e2]
    by_cases h : m = n
    · simp [h]
    · simp [h, Ne.symm h]
theorem flat_ints (ns : List Int) : (ns.map V.int).all flatV = true := by
  rw [List.all_eq_true]
  intro x hx
  obtain ⟨n, _, rfl⟩ := List.mem_map.mp hx
  rfl
theorem int_get {ns : List Int} {i : Nat} {x : V} (h : (ns.map V.int)[i]? = some x) : ∃ n, ns[i]? = some n ∧ x = .int n := by
  rw [List.getElem?_map] at h
  cases e : ns[i]? with
  | none =>
    rw [e] at h
    cases h
  | some n =>
    rw [e] at h
    exact ⟨n, rfl, (Option.some.inj h).symm⟩
theorem Dp.ints' {K : PySem.W.Frag} {H : Hp} {a : Addr} {ns : List Int} (h : H a = some (.lst (ns.map V.int))) : Dp K H (.ref a) (ilst ns) := Dp.ints (SqL.of h)
theorem Dp.il {K : PySem.W.Frag} {H : Hp} {a : Addr} {ns : List Int} (h : SqL K H a (ns.map V.int)) : Dp K H (.ref a) (ilst ns) := Dp.ints h
def spLaw (K : PySem.W.Frag) : Sp := fun vs H Q _ => vs.length = 1 ∧ ∃ (c : Addr) (ns : List Int), vs = [.ref c] ∧ ns.length ≤ 63 ∧ FzL K H c (ns.map V.int) ∧ ∀ H', Q (.bl true) H'
end Cu

namespace Cu
open PySem PySem.Spec PyProof.Rows L2
abbrev s_stand : Stmt := (top 26)
theorem sc_stand : FnScope ["_law_hearer", "_law_keys", "_law_looks", "_law_key"] ["_law_hearer", "_law_keys"] (defScope s_stand) := ⟨rfl, rfl, rfl, by decide +kernel, rfl, by decide +kernel, by decide +kernel⟩

def spStand (K : PySem.W.Frag) (C : Addr) : Sp := fun vs H Q _ => vs.length = 2 ∧ ∃ (A : HA) (hs : List HK) (c : Lg) (nk : Nat), vs = [.ref A.p, .int nk] ∧ HR K C A hs H c ∧ Has H c ∧ hs.length = nk ∧ 0 < nk ∧ nk ≤ 8 ∧ (hs.map fun h => asN h.aside).flatten.length ≤ 1000 ∧
  ∀ (v : V) (H' : Hp), Grow H H' → Rp K H' (standD hs) v → Q v H'
section
variable {P : Program} {w : World} {K : PySem.W.Frag} {mg : Str → Option Value} {base : Heap} {C : Addr}
theorem ok_stand (F : Fd K mg "_law_stand" s_stand) (Bm : Blt mg) (CHearer : CHr K C) (m_Hearer_look : Mf P w K mg base 1 C "look" ["self", "key"] (spLook K C)) (m_Hearer_known : Mf P w K mg base 1 C "known" ["self"] (spKnown K C))
    (m_Hearer_held : Mf P w K mg base 1 C "held" ["self"] (spHeld K C)) (m_Hearer_whole : Mf P w K mg base 1 C "whole" ["self"] (spWhole K C)) : Gf P w K mg base 2 "_law_stand" ["_law_hearer", "_law_keys"] (spStand K C) := by
  refine F.ok sc_stand (fun _ _ _ _ _ _ us hl => match us, hl with | [_, _], _ => rfl) len_of fun qual f cdv A0 outer s H vs Q E hr h => ?_
  obtain ⟨_, A, hs, c, nk, rfl, r, hc, hl, hn, hn8, hsz, k⟩ := h
  refine ⟨_, (pss_cons (ps_setLc (i := 2) (own := [("_law_key", 3)]) (g := (gName 3)) (tt := tYes) rfl sc_stand.nd rfl rfl (sw_true rfl rfl rfl (by decide +kernel)) (pi_range1 rfl Bm.range (pa_cons (pv 1) pa_nil)) (blkOk_by (N := ["_law_hearer", "_law_keys", "_law_looks", "_law_key"]) (sc := defScope s_stand) (by decide +kernel)) (fun _ _ _ _ _ => (pg_name (i := 3) sc_stand.nd rfl (Or.inl rfl))) (fun _ _ _ _ _ => pts_nil) (fun _ _ _ _ _ => (pm (pv 0) CHearer.cl m_Hearer_look hr (pa_cons (pv 3) pa_nil))))
      (pss_one (ps_ret (pe_fz (pe_lst (pa_cons (pe_fz (pv 2)) (pa_cons (pe_fz (pm0 (pv 0) CHearer.cl m_Hearer_known hr)) (pa_cons (pe_fz (pm0 (pv 0) CHearer.cl m_Hearer_held hr)) (pa_cons (pe_fzw (pm0 (pv 0) CHearer.cl m_Hearer_whole hr)) pa_nil))))))))), ?_⟩
  have up : ∀ {H2 : Hp} {O : Lg}, Tr H [] H2 O → Has H2 c ∧ HR K C A hs H2 c := fun t => ⟨(t.has c hc).right, r.mono t.mono⟩
  refine ⟨_, rfl, _, rfl, by omega, by omega, fun D hD => ?_⟩
  refine lc_range (lo := 0) (n := (nk : Int).toNat) (fun i H2 => ∃ xs, Tr H [] H2 [(D, .lst xs)] ∧ RpL K H2 ((hs.take i).map lookM) xs) ⟨[], (Tr.refl H []).new hD nl, .nil⟩ ?_ ?_
  · rintro i H2 hi ⟨xs, t2, rx⟩
    have hi' : i < hs.length := by omega
    obtain ⟨h, eh⟩ : ∃ h, hs[i]? = some h := ⟨hs[i], List.getElem?_eq_getElem hi'⟩
    have ei : (((0 : Nat) : Int) + i) = (i : Int) := by omega
    have u2 := up t2
    refine ⟨rfl, ?_⟩
    refine ⟨_, rfl, A.p, _, _, rfl, u2.2.at_p u2.1, hFno, _, rfl, rfl, A, hs, c, i, h, (by rw [show ((0 : Int) + i) = i by omega]; rfl), u2.2, u2.1, eh, fun v H3 g3 rv => ?_⟩
    have t3 := t2.grow g3
    have hx : xs.length = i := by rw [rx.length, List.length_map, List.length_take]; omega
    refine ⟨xs, t3.own.head, by rw [hx]; exact small1000 (by omega), xs ++ [v], ?_, ?_⟩
    · exact t3.put .nil nl
    · rw [take_snoc eh, List.map_append]
      exact ((rx.mono g3.mono).snoc rv).mono t3.own.mono_put
  · rintro H2 ⟨xs, t2, rx⟩
    rw [List.take_of_length_le (by omega)] at rx
    refine rd_fz (rd_fz ⟨_, rfl, _, _, rfl, t2.own.head, fun o1 => ?_⟩)
    have t3 := t2.fz (ob := o1) .nil
    have f3 : FzL K _ D xs := FzL.frz (H := H2) (a := D) (o := o1)
    have m3 := t2.own.mono_put (o' := .frz o1 (.lst xs))
    have u3 := up t3
    refine rd_fz ⟨_, rfl, A.p, _, _, rfl, u3.2.at_p u3.1, hFno, rfl, A, hs, c, rfl, u3.2, u3.1, fun p4 H4 t4 => ⟨_, _, rfl, t4.own.head, fun o2 => ?_⟩⟩
    have t5 := t3.trans (t4.fz (ob := o2) .nil)
    have m5 := t4.mono.trans (t4.own.mono_put (o' := .frz o2 (.lst ((hs.map fun h => h.upto).map V.int))))
    have f5 : FzL K _ p4 ((hs.map fun h => h.upto).map V.int) := FzL.frz (H := H4) (a := p4) (o := o2)
    have u5 := up t5
    refine rd_fz ⟨_, rfl, A.p, _, _, rfl, u5.2.at_p u5.1, hFno, rfl, A, hs, c, rfl, u5.2, u5.1, hsz, fun p6 H6 t6 => ⟨_, _, rfl, t6.own.head, fun o3 => ?_⟩⟩
    have t7 := t5.trans (t6.fz (ob := o3) .nil)
    have m7 := t6.mono.trans (t6.own.mono_put (o' := .frz o3 (.lst ((heldM hs).map V.int))))
    have f7 : FzL K _ p6 ((heldM hs).map V.int) := FzL.frz (H := H6) (a := p6) (o := o3)
    have u7 := up t7
    have fin : ∀ (v : V) (H8 : Hp), Grow _ H8 → Rp K H8 (wholeD hs) v → (4 : Nat) ≤ sizeLine ∧ ∀ l, H8 l = none → ∃ a xs, V.ref l = V.ref a ∧ upd H8 l (.lst [.ref D, .ref p4, .ref p6, v]) a = some (.lst xs) ∧ ∀ o, Q (.ref a) (upd (upd H8 l (.lst [.ref D, .ref p4, .ref p6, v])) a (.frz o (.lst xs))) := fun v H8 g8 rv =>
      ⟨by decide, fun l hl => ⟨_, _, rfl, upd_same, fun o4 => by
        have g9 := (g8.nfz (xs := [.ref D, .ref p4, .ref p6, v]) (ob := o4) hl)
        have m9 := (Grow.refl H8).nfz (xs := [.ref D, .ref p4, .ref p6, v]) (ob := o4) hl |>.mono
        have m8 := g8.mono.trans m9
        refine k _ _ (t7.trans g9) (.lst FzL.frz (.cons (.lst ((f3.mono m5).mono (m7.trans m8)) (rx.mono ((m3.trans m5).trans (m7.trans m8)))) (.cons (.il ((f5.mono m7).mono m8)) (.cons (.il (f7.mono m8)) (.cons (rv.mono m9) .nil)))))⟩⟩
    refine rd_fzw ⟨_, rfl, A.p, _, _, rfl, u7.2.at_p u7.1, hFno, rfl, A, hs, c, rfl, u7.2, u7.1, by omega, fun hw => ?_, fun n ws hw p8 t8 H8 t8' ht => ?_⟩
    · refine .inl (fin _ _ (Grow.refl _) ?_)
      rw [wholeD, hw]
      exact .non
    · refine .inr ⟨_, _, t8'.own.head, fun o5 => fin _ _ (t8'.fz (ob := o5) .nil) ?_⟩
      rw [wholeD, hw]
      have m8 := t8'.own.mono_put (o' := .frz o5 (.lst (ws.map V.int)))
      exact .tup (m8 _ _ ht trivial) (.cons .int (.cons (.il FzL.frz) .nil))
end
end Cu

namespace Cu
open PySem PySem.Spec PyProof.Rows L2
open TL (tl numL)
open PySem.NumText (AllDigits digitsVal)
/-! texts: the words of a letter, what a word writes, what words are -/
abbrev nS (i : Int) : Str := Str.ofString (toString i)
/-- the figures of a word -/
def figs (w : List Nat) : List Nat := if w.head? = some 45 then w.tail else w
def digs (w : List Nat) : Bool := w.all fun c => decide (48 ≤ c) && decide (c ≤ 57)
def figOk (w : List Nat) : Bool := decide (1 ≤ (figs w).length) && decide ((figs w).length ≤ 9) && digs (figs w)
def nought (w : List Nat) : Bool := decide ((figs w).head? = some 48) && decide (w ≠ [48])
def valW (w : List Nat) : Int := if w.head? = some 45 then -((digitsVal (figs w) : Nat) : Int) else (digitsVal (figs w) : Nat)
def numL' (w : List Nat) : Option Int := if figOk w = true then (if nought w = true then none else some (valW w)) else none
def numW (x : Str) : Option Int := numL' (tl x)
theorem digs_all {w : List Nat} (h : digs w = true) : AllDigits w := fun c hc => by
  have q := List.all_eq_true.mp h c hc
  simp only [Bool.and_eq_true, decide_eq_true_eq] at q
  exact q
theorem digs_of {w : List Nat} (h : AllDigits w) : digs w = true := List.all_eq_true.mpr fun c hc => by
  have q := h c hc
  simp only [Bool.and_eq_true, decide_eq_true_eq]
  exact q
theorem numW_int {x : Str} (h : figOk (tl x) = true) : intText? x = some (valW (tl x)) ∧ x.length ≤ 640 := by
  have hx := TL.len_tl x
  unfold figOk figs at h
  simp only [Bool.and_eq_true, decide_eq_true_eq] at h
  obtain ⟨⟨h1, h2⟩, h3⟩ := h
  unfold valW figs
  cases e : tl x with
  | nil =>
    rw [e] at h1
    simp at h1
  | cons c r =>
    rw [e] at h1 h2 h3 hx
    rw [List.length_cons] at hx
    by_cases hc : c = 45
    · subst hc
      simp only [List.head?_cons, if_true, List.tail_cons] at h1 h2 h3 ⊢
      refine ⟨PySem.intText_neg e (digs_all h3) (fun z => ?_) (by omega), by omega⟩
      rw [z] at h1
      simp at h1
    · have hne : ¬ (some c = some (45 : Nat)) := fun z => hc (Option.some.inj z)
      simp only [List.head?_cons, hne, if_false] at h1 h2 h3 ⊢
      rw [List.length_cons] at h2
      refine ⟨?_, by omega⟩
      have q := PySem.intText_digits (x := x) (show AllDigits (tl x) by rw [e]; exact digs_all h3) (show tl x ≠ [] by rw [e]; simp) (by omega)
      rw [q]
      show some (((digitsVal (tl x) : Nat)) : Int) = _
      rw [e]
theorem numW_some {x : Str} {n : Int} (h : numW x = some n) : figOk (tl x) = true ∧ nought (tl x) = false ∧ n = valW (tl x) := by
  unfold numW numL' at h
  by_cases h1 : figOk (tl x) = true
  · rw [if_pos h1] at h
    by_cases h2 : nought (tl x) = true
    · rw [if_pos h2] at h
      cases h
    · rw [if_neg h2] at h
      exact ⟨h1, by simpa using h2, (Option.some.inj h).symm⟩
  · rw [if_neg h1] at h
    cases h
theorem numW_text {x : Str} {n : Int} (h : numW x = some n) : intText? x = some n ∧ x.length ≤ 640 := by
  obtain ⟨h1, _, rfl⟩ := numW_some h
  exact numW_int h1
theorem tl_neg {i : Int} (h : i < 0) : tl (nS i) = 45 :: numL (-i).toNat := by
  show (Str.ofString (toString i)).cps.toList = _
  rw [signs_ofString, Int.toString_eq_repr, Int.repr_eq_if, if_neg (by omega), String.toList_append, Nat.toList_repr, List.map_append]
  rfl
theorem tl_pos {i : Int} (h : 0 ≤ i) : tl (nS i) = numL i.toNat := by
  obtain ⟨n, rfl⟩ := Int.eq_ofNat_of_zero_le h
  exact TL.tl_num n
theorem numL_head {n : Nat} : ∀ {c : Nat}, (numL n).head? = some c → 48 ≤ c ∧ c ≤ 57 ∧ (c = 48 → n = 0) := by
  induction n using Nat.strongRecOn with
  | _ n ih =>
    intro c hc
    by_cases h : n < 10
    · rw [TL.numL_lt h] at hc
      have e : 48 + n = c := by simpa using hc
      omega
    · rw [TL.numL_step (by omega)] at hc
      have hne := TL.numL_ne (n / 10)
      cases e : numL (n / 10) with
      | nil => exact absurd e hne
      | cons d r =>
        have := ih (n / 10) (by omega) (c := d) (by rw [e]; rfl)
        rw [e] at hc
        have e2 : d = c := by simpa using hc
        subst e2
        omega
theorem numW_nS {i : Int} (h1 : -1000000000 < i) (h2 : i < 1000000000) : numW (nS i) = some i := by
  have ln : ∀ n : Nat, n < 1000000000 → (numL n).length ≤ 9 := fun n h => TL.numL_len (by decide) (by simpa using h)
  have l1 : ∀ n : Nat, 1 ≤ (numL n).length := fun n => List.length_pos_iff.mpr (TL.numL_ne n)
  by_cases h0 : 0 ≤ i
  · obtain ⟨n, rfl⟩ := Int.eq_ofNat_of_zero_le h0
    have e := tl_pos h0
    rw [Int.toNat_natCast] at e
    have hd : (numL n).head? ≠ some 45 := fun z => by
      have := numL_head z
      omega
    have ef : figs (numL n) = numL n := if_neg hd
    have hf : figOk (tl (nS n)) = true := by
      rw [e]
      unfold figOk
      rw [ef, digs_of (TL.numL_digits n), decide_eq_true (l1 n), decide_eq_true (ln n (by omega))]
      rfl
    have hn : nought (tl (nS n)) = false := by
      rw [e]
      unfold nought
      rw [ef]
      by_cases z : (numL n).head? = some 48
      · have := (numL_head z).2.2 rfl
        subst this
        decide +kernel
      · rw [decide_eq_false z]
        rfl
    unfold numW numL'
    rw [if_pos hf, hn, if_neg Bool.false_ne_true]
    unfold valW
    rw [e, if_neg hd, ef, TL.numL_val]
  · have e := tl_neg (i := i) (by omega)
    have hd : (45 :: numL (-i).toNat).head? = some 45 := rfl
    have ef : figs (45 :: numL (-i).toNat) = numL (-i).toNat := if_pos hd
    have hf : figOk (tl (nS i)) = true := by
      rw [e]
      unfold figOk
      rw [ef, digs_of (TL.numL_digits _), decide_eq_true (l1 _), decide_eq_true (ln _ (by omega))]
      rfl
    have hn : nought (tl (nS i)) = false := by
      rw [e]
      unfold nought
      rw [ef]
      by_cases z : (numL (-i).toNat).head? = some 48
      · have := (numL_head z).2.2 rfl
        omega
      · rw [decide_eq_false z]
        rfl
    unfold numW numL'
    rw [if_pos hf, hn, if_neg Bool.false_ne_true]
    unfold valW
    rw [e, if_pos hd, ef, TL.numL_val]
    congr 1
    omega
theorem nS_free (i : Int) : (32 : Nat) ∉ tl (nS i) := int_text_free' 32 ⟨by decide, by decide⟩ i
theorem nS_len {i : Int} (h1 : -1000000000 < i) (h2 : i < 1000000000) : (nS i).length ≤ 10 := by
  have ln : ∀ n : Nat, n < 1000000000 → (numL n).length ≤ 9 := fun n h => TL.numL_len (by decide) (by simpa using h)
  rw [TL.len_tl]
  by_cases h0 : 0 ≤ i
  · rw [tl_pos h0]
    have := ln i.toNat (by omega)
    omega
  · rw [tl_neg (by omega), List.length_cons]
    have := ln (-i).toNat (by omega)
    omega
/-! ### words -/
def kindOk (w : Str) : Bool := w == "change" || w == "part" || w == "beat"
/-- may the word at a place stand there -/
def rightW (ws : List Str) (i : Nat) : Bool :=
  if i = 0 then kindOk (ws.getD 0 "")
  else if ws.getD 0 "" = "change" ∧ i = 3 then (ws.getD 3 "" == "set" || ws.getD 3 "" == "add")
  else match numW (ws.getD i "") with
    | none => false
    | some n => if ws.getD 0 "" = "change" ∧ 5 < i then false else if (ws.getD 0 "" = "change" ∧ i = 4) ∨ (ws.getD 0 "" = "part" ∧ 2 < i ∧ i % 2 = 1) then true else decide (0 ≤ n)
def doneW (ws : List Str) : Bool :=
  if ws.getD 0 "" = "change" then decide (ws.length = 6) else if ws.getD 0 "" = "part" then decide (4 < ws.length) && decide (ws.length % 2 = 1) else decide (2 < ws.length)
/-- the first place where a word can't stand, or how many words there are -/
def badW (ws : List Str) : Option Nat := match (List.range ws.length).find? fun i => !rightW ws i with
  | some i => some i
  | none => if doneW ws then none else some ws.length
def numD (w : Str) : Int := (numW w).getD 0
def pairs : List Int → List (Int × Int)
  | a :: b :: r => (a, b) :: pairs r
  | _ => []
/-- the letter that words write -/
def letD (ws : List Str) : PyData :=
  if ws.getD 0 "" = "change" then .tuple [.str "change", .int (numD (ws.getD 1 "")), .int (numD (ws.getD 2 "")), .str (ws.getD 3 ""), .int (numD (ws.getD 4 "")), .int (numD (ws.getD 5 ""))]
  else if ws.getD 0 "" = "beat" then .tuple [.str "beat", .int (numD (ws.getD 1 "")), .tuple ((ws.drop 2).map fun w => .int (numD w))]
  else .tuple [.str "part", .int (numD (ws.getD 1 "")), .int (numD (ws.getD 2 "")), .tuple ((pairs ((ws.drop 3).map numD)).map fun r => .tuple [.int r.1, .int r.2])]
/-- the numbers of a part or a beat -/
def flatR : List (Int × Nat) → List Int
  | [] => []
  | r :: rs => r.1 :: (r.2 : Int) :: flatR rs
def wordsL : Letter → List Str
  | .change n c a => ["change", nS n, nS c.key, wd c.set, nS c.worth, nS a]
  | .part n b rows => "part" :: nS n :: nS b :: (flatR rows).map nS
  | .beat n ls => "beat" :: nS n :: ls.map fun k : Nat => nS k
def textL (l : Letter) : Str := Txt.join " " (wordsL l)
/-- numbers of up to nine figures -/
def Small : Letter → Prop
  | .change n c a => n < 1000000000 ∧ c.key < 1000000000 ∧ -1000000000 < c.worth ∧ c.worth < 1000000000 ∧ a < 1000000000
  | .part n b rows => n < 1000000000 ∧ b < 1000000000 ∧ 0 < rows.length ∧ rows.length ≤ 8 ∧ ∀ r ∈ rows, -1000000000 < r.1 ∧ r.1 < 1000000000 ∧ r.2 < 1000000000
  | .beat n ls => n < 1000000000 ∧ 0 < ls.length ∧ ls.length ≤ 8 ∧ ∀ k ∈ ls, k < 1000000000
theorem flatR_len (rows : List (Int × Nat)) : (flatR rows).length = 2 * rows.length := by
  induction rows with
  | nil => rfl
  | cons r rs ih => simp only [flatR, List.length_cons, ih]; omega
theorem flatR_get (rows : List (Int × Nat)) : ∀ i, (flatR rows)[2 * i]? = (rows[i]?).map Prod.fst ∧ (flatR rows)[2 * i + 1]? = (rows[i]?).map fun r => (r.2 : Int) := by
  induction rows with
  | nil => intro i; simp [flatR]
  | cons r rs ih =>
    intro i
    cases i with
    | zero => simp [flatR]
    | succ i =>
      have e1 : 2 * (i + 1) = 2 * i + 1 + 1 := by omega
      have e2 : 2 * (i + 1) + 1 = 2 * i + 1 + 1 + 1 := by omega
      rw [e1, show 2 * i + 1 + 1 + 1 = (2 * i + 1) + 1 + 1 by omega]
      simp only [flatR, List.getElem?_cons_succ]
      exact ih i
theorem pairs_flat (rows : List (Int × Nat)) : pairs (flatR rows) = rows.map fun r => (r.1, (r.2 : Int)) := by
  induction rows with
  | nil => rfl
  | cons r rs ih => simp only [flatR, pairs, ih, List.map_cons]
theorem flatR_small {rows : List (Int × Nat)} (h : ∀ r ∈ rows, -1000000000 < r.1 ∧ r.1 < 1000000000 ∧ r.2 < 1000000000) : ∀ z ∈ flatR rows, -1000000000 < z ∧ z < 1000000000 := by
  induction rows with
  | nil => intro z hz; cases hz
  | cons r rs ih =>
    intro z hz
    have hr := h r List.mem_cons_self
    rcases List.mem_cons.mp hz with e | hz
    · rw [e]; exact ⟨hr.1, hr.2.1⟩
    · rcases List.mem_cons.mp hz with e | hz
      · rw [e]; omega
      · exact ih (fun r hr => h r (List.mem_cons_of_mem _ hr)) z hz
theorem wordsL_len {l : Letter} (h : Small l) : 3 ≤ (wordsL l).length ∧ (wordsL l).length ≤ 20 := by
  cases l with
  | change n c a => exact ⟨by simp [wordsL], by simp [wordsL]⟩
  | part n b rows =>
    have := flatR_len rows
    obtain ⟨_, _, h1, h2, _⟩ := h
    simp only [wordsL, List.length_cons, List.length_map]
    omega
  | beat n ls =>
    obtain ⟨_, h1, h2, _⟩ := h
    simp only [wordsL, List.length_cons, List.length_map]
    omega
theorem wordsL_free (l : Letter) : ∀ w ∈ wordsL l, (32 : Nat) ∉ tl w := by
  have hc : (32 : Nat) ∉ tl "change" := by decide +kernel
  have hp : (32 : Nat) ∉ tl "part" := by decide +kernel
  have hb : (32 : Nat) ∉ tl "beat" := by decide +kernel
  have hw : ∀ b, (32 : Nat) ∉ tl (wd b) := fun b => by cases b <;> decide +kernel
  have hm : ∀ (zs : List Int), ∀ w ∈ zs.map nS, (32 : Nat) ∉ tl w := fun zs w hw => by
    obtain ⟨z, _, rfl⟩ := List.mem_map.mp hw
    exact nS_free z
  intro w h
  cases l with
  | change n c a =>
    simp only [wordsL, List.mem_cons, List.not_mem_nil, or_false] at h
    rcases h with rfl | rfl | rfl | rfl | rfl | rfl
    · exact hc
    · exact nS_free _
    · exact nS_free _
    · exact hw _
    · exact nS_free _
    · exact nS_free _
  | part n b rows =>
    simp only [wordsL, List.mem_cons] at h
    rcases h with rfl | rfl | rfl | h
    · exact hp
    · exact nS_free _
    · exact nS_free _
    · exact hm _ w h
  | beat n ls =>
    simp only [wordsL, List.mem_cons] at h
    rcases h with rfl | rfl | h
    · exact hb
    · exact nS_free _
    · obtain ⟨z, _, rfl⟩ := List.mem_map.mp h
      exact nS_free _
theorem split_words {ws : List Str} (hne : ws ≠ []) (h : ∀ w ∈ ws, (32 : Nat) ∉ tl w) : Txt.split (Txt.join " " ws) " " = ws :=
  TL.split_join (s := 32) (S := []) (by decide +kernel) (by decide +kernel) hne h
theorem wordsL_small {l : Letter} (h : Small l) : ∀ w ∈ wordsL l, w.length ≤ 10 := by
  have hm : ∀ (zs : List Int), (∀ z ∈ zs, -1000000000 < z ∧ z < 1000000000) → ∀ w ∈ zs.map nS, w.length ≤ 10 := fun zs hz w hw => by
    obtain ⟨z, q, rfl⟩ := List.mem_map.mp hw
    exact nS_len (hz z q).1 (hz z q).2
  intro w hw
  cases l with
  | change n c a =>
    obtain ⟨h1, h2, h3, h4, h5⟩ := h
    simp only [wordsL, List.mem_cons, List.not_mem_nil, or_false] at hw
    rcases hw with rfl | rfl | rfl | rfl | rfl | rfl
    · decide +kernel
    · exact nS_len (by omega) (by omega)
    · exact nS_len (by omega) (by omega)
    · cases c.set <;> decide +kernel
    · exact nS_len h3 h4
    · exact nS_len (by omega) (by omega)
  | part n b rows =>
    obtain ⟨h1, h2, _, _, h3⟩ := h
    simp only [wordsL, List.mem_cons] at hw
    rcases hw with rfl | rfl | rfl | hw
    · decide +kernel
    · exact nS_len (by omega) (by omega)
    · exact nS_len (by omega) (by omega)
    · exact hm _ (flatR_small h3) w hw
  | beat n ls =>
    obtain ⟨h1, _, _, h3⟩ := h
    simp only [wordsL, List.mem_cons] at hw
    rcases hw with rfl | rfl | hw
    · decide +kernel
    · exact nS_len (by omega) (by omega)
    · obtain ⟨z, q, rfl⟩ := List.mem_map.mp hw
      have := h3 z q
      exact nS_len (by omega) (by omega)
end Cu

namespace Cu
open PySem PySem.Spec PyProof.Rows L2
open TL (tl)
/-! a letter's words may stand, and write it again -/
theorem badW_some {ws : List Str} {p : Nat} (hp : p < ws.length) (h : ∀ i, i < p → rightW ws i = true) (hn : rightW ws p = false) : badW ws = some p := by
  have e : (List.range ws.length).find? (fun i => !rightW ws i) = some p := by
    rw [List.find?_range_eq_some]
    refine ⟨by rw [hn]; rfl, List.mem_range.mpr hp, fun j hj => by rw [h j hj]; rfl⟩
  unfold badW
  rw [e]
theorem find_none {ws : List Str} (h : ∀ i, i < ws.length → rightW ws i = true) : (List.range ws.length).find? (fun i => !rightW ws i) = none := by
  rw [List.find?_eq_none]
  intro i hi
  rw [h i (List.mem_range.mp hi)]
  simp
theorem badW_none {ws : List Str} (h : ∀ i, i < ws.length → rightW ws i = true) (hd : doneW ws = true) : badW ws = none := by
  unfold badW
  rw [find_none h]
  show (if doneW ws = true then none else some ws.length) = none
  rw [if_pos hd]
theorem badW_len {ws : List Str} (h : ∀ i, i < ws.length → rightW ws i = true) (hd : doneW ws = false) : badW ws = some ws.length := by
  unfold badW
  rw [find_none h]
  show (if doneW ws = true then none else some ws.length) = _
  rw [hd, if_neg Bool.false_ne_true]
theorem rightW_num {ws : List Str} {i : Nat} {z : Int} (hi : i ≠ 0) (hc : ¬(ws.getD 0 "" = "change" ∧ i = 3)) (hn : numW (ws.getD i "") = some z) :
    rightW ws i = (if ws.getD 0 "" = "change" ∧ 5 < i then false else if (ws.getD 0 "" = "change" ∧ i = 4) ∨ (ws.getD 0 "" = "part" ∧ 2 < i ∧ i % 2 = 1) then true else decide (0 ≤ z)) := by
  unfold rightW
  rw [if_neg hi, if_neg hc, hn]
theorem rightW_none {ws : List Str} {i : Nat} (hi : i ≠ 0) (hc : ¬(ws.getD 0 "" = "change" ∧ i = 3)) (hn : numW (ws.getD i "") = none) : rightW ws i = false := by
  unfold rightW
  rw [if_neg hi, if_neg hc, hn]
theorem part_ne : ¬ (("part" : Str) = "change") := by decide +kernel
theorem beat_ne : ¬ (("beat" : Str) = "change") := by decide +kernel
theorem beat_ne2 : ¬ (("beat" : Str) = "part") := by decide +kernel
theorem part_ne2 : ¬ (("part" : Str) = "beat") := by decide +kernel
theorem change_ne2 : ¬ (("change" : Str) = "beat") := by decide +kernel
theorem change_np : ¬ (("change" : Str) = "part") := by decide +kernel
theorem getD_of {ws : List Str} {i : Nat} {w : Str} (h : ws[i]? = some w) : ws.getD i "" = w := by simp [List.getD, h]
theorem words_right {l : Letter} (h : Small l) : ∀ i, i < (wordsL l).length → rightW (wordsL l) i = true := by
  cases l with
  | change n c a =>
    obtain ⟨h1, h2, h3, h4, h5⟩ := h
    have e0 : (wordsL (.change n c a)).getD 0 "" = "change" := rfl
    intro i hi
    have hi' : i < 6 := hi
    have cs : i = 0 ∨ i = 1 ∨ i = 2 ∨ i = 3 ∨ i = 4 ∨ i = 5 := by omega
    rcases cs with rfl | rfl | rfl | rfl | rfl | rfl
    · unfold rightW
      rw [if_pos rfl, e0]
      decide +kernel
    · rw [rightW_num (ws := wordsL (.change n c a)) (i := 1) (z := n) (by decide) (fun z => absurd z.2 (by decide)) (numW_nS (by omega) (by omega)), if_neg (fun z => absurd z.2 (by decide)), if_neg (by simp)]
      exact decide_eq_true (by omega)
    · rw [rightW_num (ws := wordsL (.change n c a)) (i := 2) (z := c.key) (by decide) (fun z => absurd z.2 (by decide)) (numW_nS (by omega) (by omega)), if_neg (fun z => absurd z.2 (by decide)), if_neg (by simp)]
      exact decide_eq_true (by omega)
    · unfold rightW
      rw [if_neg (by decide), if_pos ⟨e0, rfl⟩]
      show (wd c.set == "set" || wd c.set == "add") = true
      cases c.set <;> decide +kernel
    · rw [rightW_num (ws := wordsL (.change n c a)) (i := 4) (z := c.worth) (by decide) (fun z => absurd z.2 (by decide)) (numW_nS h3 h4), if_neg (fun z => absurd z.2 (by decide)), if_pos (.inl ⟨e0, rfl⟩)]
    · rw [rightW_num (ws := wordsL (.change n c a)) (i := 5) (z := a) (by decide) (fun z => absurd z.2 (by decide)) (numW_nS (by omega) (by omega)), if_neg (fun z => absurd z.2 (by decide)), if_neg (fun q => q.elim (fun q => absurd q.2 (by decide)) fun q => change_np (e0.symm.trans q.1))]
      exact decide_eq_true (by omega)
  | part n b rows =>
    obtain ⟨h1, h2, h3, h4, h5⟩ := h
    have e0 : (wordsL (.part n b rows)).getD 0 "" = "part" := rfl
    have nc : ¬ ((wordsL (.part n b rows)).getD 0 "" = "change") := part_ne
    intro i hi
    by_cases i0 : i = 0
    · subst i0
      unfold rightW
      rw [if_pos rfl, e0]
      decide +kernel
    by_cases i1 : i = 1
    · subst i1
      rw [rightW_num (ws := wordsL (.part n b rows)) (i := 1) (z := n) (by decide) (fun z => nc z.1) (numW_nS (by omega) (by omega)), if_neg (fun z => nc z.1), if_neg (by simp)]
      exact decide_eq_true (by omega)
    by_cases i2 : i = 2
    · subst i2
      rw [rightW_num (ws := wordsL (.part n b rows)) (i := 2) (z := b) (by decide) (fun z => nc z.1) (numW_nS (by omega) (by omega)), if_neg (fun z => nc z.1), if_neg (by simp)]
      exact decide_eq_true (by omega)
    obtain ⟨j, rfl⟩ : ∃ j, i = j + 3 := ⟨i - 3, by omega⟩
    have hj : j < (flatR rows).length := by
      simp only [wordsL, List.length_cons, List.length_map] at hi
      omega
    have ez : (flatR rows)[j]? = some (flatR rows)[j] := List.getElem?_eq_getElem hj
    generalize (flatR rows)[j] = z at ez
    have hz := flatR_small h5 z (List.mem_of_getElem? ez)
    have ew : (wordsL (.part n b rows)).getD (j + 3) "" = nS z := getD_of (by
      show ((flatR rows).map nS)[j]? = _
      rw [List.getElem?_map, ez]
      rfl)
    rw [rightW_num (z := z) i0 (fun q => nc q.1) (by rw [ew]; exact numW_nS hz.1 hz.2), if_neg (fun q => nc q.1)]
    by_cases ho : (j + 3) % 2 = 1
    · rw [if_pos (.inr ⟨e0, by omega, ho⟩)]
    · rw [if_neg (fun q => q.elim (fun q => nc q.1) fun q => ho q.2.2)]
      obtain ⟨m, rfl⟩ : ∃ m, j = 2 * m + 1 := ⟨j / 2, by omega⟩
      rw [(flatR_get rows m).2] at ez
      cases er : rows[m]? with
      | none => rw [er] at ez; cases ez
      | some r =>
        rw [er] at ez
        have ez' : (r.2 : Int) = z := Option.some.inj ez
        exact decide_eq_true (by omega)
  | beat n ls =>
    obtain ⟨h1, h2, h3, h4⟩ := h
    have e0 : (wordsL (.beat n ls)).getD 0 "" = "beat" := rfl
    have nc : ¬ ((wordsL (.beat n ls)).getD 0 "" = "change") := beat_ne
    have np : ¬ ((wordsL (.beat n ls)).getD 0 "" = "part") := beat_ne2
    intro i hi
    by_cases i0 : i = 0
    · subst i0
      unfold rightW
      rw [if_pos rfl, e0]
      decide +kernel
    obtain ⟨z, ez, hz⟩ : ∃ z : Nat, (wordsL (.beat n ls)).getD i "" = nS z ∧ z < 1000000000 := by
      by_cases i1 : i = 1
      · subst i1
        exact ⟨n, rfl, h1⟩
      obtain ⟨j, rfl⟩ : ∃ j, i = j + 2 := ⟨i - 2, by omega⟩
      have hj : j < ls.length := by
        simp only [wordsL, List.length_cons, List.length_map] at hi
        omega
      refine ⟨ls[j], getD_of ?_, h4 _ (List.getElem_mem hj)⟩
      show (ls.map fun k : Nat => nS k)[j]? = _
      rw [List.getElem?_map, List.getElem?_eq_getElem hj]
      rfl
    rw [rightW_num (z := z) i0 (fun q => nc q.1) (by rw [ez]; exact numW_nS (by omega) (by omega)), if_neg (fun q => nc q.1), if_neg (fun q => q.elim (fun q => nc q.1) fun q => np q.1)]
    exact decide_eq_true (by omega)
theorem words_done {l : Letter} (h : Small l) : doneW (wordsL l) = true := by
  cases l with
  | change n c a => unfold doneW; rw [if_pos (show (wordsL (.change n c a)).getD 0 "" = "change" from rfl)]; rfl
  | part n b rows =>
    obtain ⟨_, _, h3, h4, _⟩ := h
    have hl : (wordsL (.part n b rows)).length = 2 * rows.length + 3 := by
      simp only [wordsL, List.length_cons, List.length_map, flatR_len]
    unfold doneW
    rw [if_neg (show ¬ ((wordsL (.part n b rows)).getD 0 "" = "change") from part_ne), if_pos (show (wordsL (.part n b rows)).getD 0 "" = "part" from rfl), hl, decide_eq_true (by omega), decide_eq_true (by omega)]
    rfl
  | beat n ls =>
    obtain ⟨_, h2, h3, _⟩ := h
    have hl : (wordsL (.beat n ls)).length = ls.length + 2 := by
      simp only [wordsL, List.length_cons, List.length_map]
    unfold doneW
    rw [if_neg (show ¬ ((wordsL (.beat n ls)).getD 0 "" = "change") from beat_ne), if_neg (show ¬ ((wordsL (.beat n ls)).getD 0 "" = "part") from beat_ne2), hl]
    exact decide_eq_true (by omega)
theorem words_good {l : Letter} (h : Small l) : badW (wordsL l) = none := badW_none (words_right h) (words_done h)
theorem numD_nS {i : Int} (h1 : -1000000000 < i) (h2 : i < 1000000000) : numD (nS i) = i := by
  unfold numD
  rw [numW_nS h1 h2]
  rfl
theorem words_letter {l : Letter} (h : Small l) : letD (wordsL l) = l.enc := by
  cases l with
  | change n c a =>
    obtain ⟨h1, h2, h3, h4, h5⟩ := h
    unfold letD
    rw [if_pos (show (wordsL (.change n c a)).getD 0 "" = "change" from rfl)]
    show PyData.tuple [.str "change", .int (numD (nS n)), .int (numD (nS c.key)), .str (wd c.set), .int (numD (nS c.worth)), .int (numD (nS a))] = _
    rw [numD_nS (by omega) (by omega), numD_nS (by omega) (by omega), numD_nS h3 h4, numD_nS (by omega) (by omega)]
    rfl
  | part n b rows =>
    obtain ⟨h1, h2, h3, h4, h5⟩ := h
    unfold letD
    rw [if_neg (show ¬ ((wordsL (.part n b rows)).getD 0 "" = "change") from part_ne), if_neg (show ¬ ((wordsL (.part n b rows)).getD 0 "" = "beat") from part_ne2)]
    show PyData.tuple [.str "part", .int (numD (nS n)), .int (numD (nS b)), .tuple ((pairs (((flatR rows).map nS).map numD)).map fun r => .tuple [.int r.1, .int r.2])] = _
    have e : ((flatR rows).map nS).map numD = flatR rows := by
      rw [List.map_map]
      conv => rhs; rw [← List.map_id (flatR rows)]
      refine List.map_congr_left fun z hz => ?_
      have := flatR_small h5 z hz
      exact numD_nS this.1 this.2
    rw [numD_nS (by omega) (by omega), numD_nS (by omega) (by omega), e, pairs_flat, List.map_map]
    rfl
  | beat n ls =>
    obtain ⟨h1, h2, h3, h4⟩ := h
    unfold letD
    rw [if_neg (show ¬ ((wordsL (.beat n ls)).getD 0 "" = "change") from beat_ne), if_pos (show (wordsL (.beat n ls)).getD 0 "" = "beat" from rfl)]
    show PyData.tuple [.str "beat", .int (numD (nS n)), .tuple ((ls.map fun k : Nat => nS k).map fun w => .int (numD w))] = _
    have e : (ls.map fun k : Nat => nS k).map (fun w => PyData.int (numD w)) = ls.map fun k : Nat => PyData.int k := by
      rw [List.map_map]
      refine List.map_congr_left fun z hz => ?_
      have := h4 z hz
      show PyData.int (numD (nS z)) = _
      rw [numD_nS (by omega) (by omega)]
    rw [numD_nS (by omega) (by omega), e]
    rfl
/-- another word at a place: there it ends -/
theorem words_x {ws : List Str} {p : Nat} (h : ∀ i, i < ws.length → rightW ws i = true) (h0 : p ≠ 0) (hp : p < ws.length) : badW (ws.take p ++ [("x" : Str)] ++ ws.drop (p + 1)) = some p := by
  have hl : (ws.take p ++ [("x" : Str)] ++ ws.drop (p + 1)).length = ws.length := by
    rw [List.length_append, List.length_append, List.length_take, List.length_drop, List.length_singleton]
    omega
  have lt : (ws.take p).length = p := by rw [List.length_take]; omega
  have g1 : ∀ i, i < p → (ws.take p ++ [("x" : Str)] ++ ws.drop (p + 1)).getD i "" = ws.getD i "" := fun i hi => by
    have : (ws.take p ++ [("x" : Str)] ++ ws.drop (p + 1))[i]? = ws[i]? := by
      rw [List.append_assoc, List.getElem?_append_left (by omega), List.getElem?_take_of_lt hi]
    simp only [List.getD, this]
  have g2 : (ws.take p ++ [("x" : Str)] ++ ws.drop (p + 1)).getD p "" = "x" := getD_of (by
    rw [List.append_assoc, List.getElem?_append_right (by omega), lt, Nat.sub_self]
    rfl)
  refine badW_some (by omega) (fun i hi => ?_) ?_
  · have := h i (by omega)
    unfold rightW at this ⊢
    rw [g1 0 (by omega), g1 i hi]
    by_cases i3 : i = 3
    · subst i3
      rw [g1 3 hi]
      exact this
    · simp only [i3, and_false, if_false] at this ⊢
      exact this
  · have nx : numW "x" = none := by decide +kernel
    by_cases c3 : (ws.take p ++ [("x" : Str)] ++ ws.drop (p + 1)).getD 0 "" = "change" ∧ p = 3
    · unfold rightW
      rw [if_neg h0, if_pos c3, ← c3.2, g2]
      decide +kernel
    · exact rightW_none h0 c3 (by rw [g2]; exact nx)
end Cu

namespace Cu
open PySem PySem.Spec PyProof.Rows L2
/-! own exceptions: a class with an own __init__ (one field), what a def that raises promises -/
/-- CatchError.__init__ is ValueError's -/
structure CeR (K : PySem.W.Frag) (mg : Str → Option Value) (CE : Addr) : Prop where
  gm : mg "CatchError" = some (.ref CE)
  rd : PySem.W.readsIn K CE (.type "type") = true
  ga : PySem.W.specialIn K (.ref CE) "__getattribute__" = some (some (.builtin "type.__getattribute__"))
  at_ : PySem.W.findCls K (.ref CE) (.type "type") "__init__" = some (.val (.builtin "ValueError.__init__"))
section
variable {X : Cx} {e : Expr} {es : List Expr} {ta : TA} {p1 p2 pos : Pos} {CE : Addr}
theorem pe_ceinit {pl : Sem Bool} (T : CeR X.K X.mg CE) (ha : PA X (e :: es) ta) (hg : Gl X "CatchError" := by rfl)
    (hc : eval (.Call (.Attribute (.Name "CatchError" p1) "__init__" p2) (e :: es) [] pos) X.env = (do
      let ov ← eval (.Name "CatchError" p1) X.env
      standAt p2.atName
      let (f, first) ← holding [ov] (getMethod ov "__init__" pl)
      callWith pos f first (backTo pos (starEach (e :: es) X.env)) (backToKw pos (keywordEach [] X.env))) := by rfl)
    (he : starEach (e :: es) X.env = (false, eval e X.env) :: starEach es X.env := by rfl) (hpl : (backTo pos (starEach es X.env)).any (·.1) = false := by rfl) :
    PE X (.Call (.Attribute (.Name "CatchError" p1) "__init__" p2) (e :: es) [] pos) (tVeI X.K ta) := by
  refine ⟨fun pins s σ H Q I h => ?_⟩
  refine PySem.W.methodCall_KW (ld_glob I hg T.gm ?_) hc
  refine PySem.W.method_cls I.kIn T.ga (PySem.W.cls_value I.kIn T.rd T.at_ (by decide +kernel) ?_)
  show wpAny _ _ (callWith pos (Value.builtin "ValueError.__init__") [] (backTo pos (starEach (e :: es) X.env)) []) _ _ _
  refine PyProof.Rows.callWith_method1 (thn (ha.run pos pins _ σ H _ (I.tok _) h) fun us s1 ⟨vs, H1, I1, r1, a, C, ws, ev, hl, T, ea, q⟩ => ?_) he hpl
  subst ev
  cases r1 with
  | @cons _ u0 _ ur ra rw' =>
    obtain rfl : u0 = Value.ref a := ra
    have hlen : ur.length ≤ sizeLine := by
      rw [← Paired.length rw', sizeLine_eq]
      omega
    exact oinit_ok T I1 ea hlen fun s' J => ⟨.non, H1, J, rfl, q⟩
end
/-- a class over CatchError with an own __init__ and one field f -/
structure Xc (K : PySem.W.Frag) (C : Addr) (f : Str) : Prop where
  ox : OexC K C
  xf : XfC K C
  no : PySem.W.findIn K (.ref C) f = some none
/-- its text -/
structure Xd (K : PySem.W.Frag) (mg : Str → Option Value) (x : Str) (C : Addr) (qual : Str) (st : Stmt) : Prop where
  ex : ∃ f fd, Fun K "__init__" qual st f fd ∧ PySem.W.findIn K (.ref C) "__init__" = some (some (.ref f)) ∧ PySem.W.typeIn K (.ref f) = some (.type "function")
  gC : mg x = some (.ref C)
section
variable (P : Program) (w : World) (K : PySem.W.Frag) (mg : Str → Option Value) (base : Heap)
structure Xf (j : Nat) (x : Str) (C : Addr) (ps : List Str) (sp : Sp) : Prop where
  ex : ∃ f fd, FnOk P w K mg base CX0 j f fd ps sp ∧ PySem.W.findIn K (.ref C) "__init__" = some (some (.ref f)) ∧ PySem.W.typeIn K (.ref f) = some (.type "function") ∧ Binds K fd ps []
  gC : mg x = some (.ref C)
/-- a def that may raise -/
structure Gx (j : Nat) (x : Str) (ps : List Str) (sp : Sp) : Prop where
  ex : ∃ f fd, FnOk P w K mg base (L2.CX P w) j f fd ps sp ∧ mg x = some (.ref f) ∧ PySem.W.keepIn K (.ref f) = true ∧ Binds K fd ps []
end
section
variable {P : Program} {w : World} {K : PySem.W.Frag} {mg : Str → Option Value} {base : Heap} {x m qual : Str} {C : Addr} {st : Stmt} {N ps : List Str} {k : Nat} {sp : Sp}
theorem Xd.ok (F : Xd K mg x C qual st) (S : FnScope N ps (defScope st)) (b : Bnd "__init__" qual st ps) (len : ∀ vs H Q E, sp vs H Q E → vs.length = ps.length)
    (hbody : ∀ (qual : Str) (f : Addr) (cdv : Value) (A : Around) (outer : List Env) (s : Shared) (H : Hp) (vs : List V) (Q : VK) (E : XK), Room k (A.deeper (envOfC qual (defScope st) s.heap.objs.size f cdv)) → sp vs H Q E →
      ∃ t, PSs (cxOf CX0 P w K mg base N qual (defScope st) f cdv A outer s H E).nox (defBody st) t ∧ t { nx := fun _ H' => Q .non H', rt := Q } (start N vs) H) : Xf P w K mg base (k + 1) x C ps sp := by
  obtain ⟨⟨f, fd, F, hm, ht⟩, hx⟩ := F
  exact ⟨⟨f, fd, F.ok S len fun cdv A outer s H vs Q E hr h => hbody qual f cdv A outer s H vs Q E hr h, hm, ht, F.binds b⟩, hx⟩
theorem Fd.okX (F : Fd K mg x st) (S : FnScope N ps (defScope st)) (b : Bnd x x st ps) (len : ∀ vs H Q E, sp vs H Q E → vs.length = ps.length)
    (hbody : ∀ (qual : Str) (f : Addr) (cdv : Value) (A : Around) (outer : List Env) (s : Shared) (H : Hp) (vs : List V) (Q : VK) (E : XK), Room k (A.deeper (envOfC qual (defScope st) s.heap.objs.size f cdv)) → sp vs H Q E →
      ∃ t, PSs (cxOf (L2.CX P w) P w K mg base N qual (defScope st) f cdv A outer s H E) (defBody st) t ∧ t { nx := fun _ H' => Q .non H', rt := Q } (start N vs) H) : Gx P w K mg base (k + 1) x ps sp := by
  obtain ⟨f, fd, F, hm⟩ := F.ex
  exact ⟨f, fd, F.okX S len fun cdv A outer s H vs Q E hr h => hbody x f cdv A outer s H vs Q E hr h, hm, F.kp, F.binds b⟩
end
section
variable {X : Cx} {j k : Nat} {x m : Str} {C : Addr} {ps : List Str} {sp : Sp} {p pos apos : Pos} {e o : Expr} {es : List Expr} {t : TA} {to : TE}
/-- x(..), nothing raised -/
theorem pcx (g : Gx X.prog X.w X.K X.mg X.base j x ps sp) (hr : Room k X.A) (ha : PA X (e :: es) t) (hg : Gl X x := by rfl) (hj : j ≤ k := by decide) (hdb : (x == ("__debug__" : Str)) = false := by decide)
    (he : starEach (e :: es) X.env = (false, eval e X.env) :: starEach es X.env := by rfl) (hpl : (backTo pos (starEach es X.env)).any (·.1) = false := by rfl) :
    PE X (.Call (.Name x p) (e :: es) [] pos) (tCall sp [] E0 t) := by
  obtain ⟨f, fd, F, hm, hk, hb⟩ := g.ex
  exact pe_call F (hr.mono hj) hg hm hk hb .nil passL ha hdb he hpl
/-- x(..), which may raise: W takes it -/
theorem pcy {W : WX} (tk : Takes X W) (g : Gx X.prog X.w X.K X.mg X.base j x ps sp) (hr : Room k X.A) (ha : PA X (e :: es) t) (hg : Gl X x := by rfl) (hj : j ≤ k := by decide) (hdb : (x == ("__debug__" : Str)) = false := by decide)
    (he : starEach (e :: es) X.env = (false, eval e X.env) :: starEach es X.env := by rfl) (hpl : (backTo pos (starEach es X.env)).any (·.1) = false := by rfl) :
    PE X (.Call (.Name x p) (e :: es) [] pos) (tCallS sp (WE W) t) := by
  obtain ⟨f, fd, F, hm, hk, hb⟩ := g.ex
  exact pe_callS F (hr.mono hj) hg hm hk hb (passAt tk) ha hdb he hpl
/-- C(..), made to be raised -/
theorem px (T : OexC X.K C) (g : Xf X.prog X.w X.K X.mg X.base j x C ps sp) (hr : Room k X.A) (ha : PA X (e :: es) t) (hg : Gl X x := by rfl) (hj : j + 1 ≤ k := by decide) (hdb : (x == ("__debug__" : Str)) = false := by decide)
    (he : starEach (e :: es) X.env = (false, eval e X.env) :: starEach es X.env := by rfl) (hpl : (backTo pos (starEach es X.env)).any (·.1) = false := by rfl) :
    PMk X (.Call (.Name x p) (e :: es) [] pos) (tMkO C sp [] t) := by
  obtain ⟨f, fd, F, hm, ht, hb⟩ := g.ex
  exact pmk_oex T hm ht F (hr.mono hj) hb .nil pass0 hg g.gC ha hdb he hpl
end
/-- C.__init__(self, v): self.f = v -/
def spXi (C : Addr) (f : Str) : Sp := fun vs H Q _ => vs.length = 2 ∧ ∃ (a : Addr) (v : V), vs = [.ref a, v] ∧ H a = some (exo a C none) ∧ ∀ dx, H dx = none → dx ≠ a → Q .non (upd (upd H dx (exd dx [(f, v)])) a (exo a C (some dx)))
/-- what is behind making it -/
theorem xmade {C : Addr} {f : Str} {v : V} {H : Hp} {Q : XK} (h : ∀ d, H d = none → Q (.ref C) (some d) (upd H d (.xd [(f, v)]))) (a : Addr) (ha : H a = none) :
    spXi C f (.ref a :: ([v] ++ [])) (upd H a (exo a C none)) (fun u H2 => u = .non ∧ ∃ (d : Addr) (fs : List (Str × V)), H2 a = some (exo a C (some d)) ∧ H2 d = some (exd d fs) ∧ H d = none ∧ Q (.ref C) (some d) (upd (del H2 a) d (.xd fs))) (fun _ _ _ => False) := by
  refine ⟨rfl, a, v, rfl, upd_same, fun dx hdx hne => ⟨rfl, dx, [(f, v)], upd_same, ?_, ?_, ?_⟩⟩
  · rw [upd_ne hne]
    exact upd_same
  · rw [upd_ne hne] at hdx
    exact hdx
  · have hdx' : H dx = none := by rw [upd_ne hne] at hdx; exact hdx
    have e : upd (del (upd (upd (upd H a (exo a C none)) dx (exd dx [(f, v)])) a (exo a C (some dx))) a) dx (.xd [(f, v)]) = upd H dx (.xd [(f, v)]) := by
      funext b
      by_cases hb : b = dx
      · subst hb
        rw [upd_same, upd_same]
      · rw [upd_ne hb, upd_ne hb]
        by_cases hba : b = a
        · subst hba
          rw [del_same, ha]
        · rw [del_ne hba, upd_ne hba, upd_ne hb, upd_ne hba]
    rw [e]
    exact h dx hdx'
/-- such a class in an except clause of its own -/
theorem exm_of {K : PySem.W.Frag} {C : Addr} (T : Xc K C "place") (h : PySem.W.subIn K (.ref C) (.ref C) = some true) : PySem.W.exmOne K (.ref C) (.ref C) = some true :=
  PySem.W.exm_ref T.ox.exC T.xf.hdC T.ox.tyC h
end Cu

namespace Cu
open PySem PySem.Spec PyProof.Rows L2
open TL (tl)
/-- str(x), x an int or a str -/
def optN : Option Int → V
  | none => .non
  | some n => .int n
theorem tl_to1 (z : Str) : tl (cutS z none (some 1)) = (tl z).take 1 := by
  unfold cutS
  rw [HT.sIx_none, show (some (1 : Int)) = some ((1 : Nat) : Int) from rfl, HT.sIx_nat, List.drop_zero, Nat.sub_zero]
  show (z.cps.toList).take (min 1 z.length) = (z.cps.toList).take 1
  have e : z.cps.toList.length = z.length := Array.length_toList
  rcases Nat.le_total 1 z.length with h | h
  · rw [Nat.min_eq_left h]
  · rw [Nat.min_eq_right h, ← e, List.take_length, List.take_of_length_le (by omega)]
theorem tl_from1 (z : Str) : tl (cutS z (some 1) none) = (tl z).tail := by
  unfold cutS
  rw [HT.sIx_none, show (some (1 : Int)) = some ((1 : Nat) : Int) from rfl, HT.sIx_nat]
  have e : z.cps.toList.length = z.length := Array.length_toList
  show ((z.cps.toList).drop (min 1 z.length)).take (z.length - min 1 z.length) = (z.cps.toList).tail
  rw [List.take_of_length_le (by rw [List.length_drop]; omega)]
  cases h : z.cps.toList with
  | nil => rw [h] at e; rw [← e]; rfl
  | cons c r =>
    rw [h, List.length_cons] at e
    rw [Nat.min_eq_left (by omega)]
    rfl
theorem to1_minus (z : Str) : (cutS z none (some 1) = "-") ↔ (tl z).head? = some 45 := by
  have e := tl_to1 z
  constructor
  · intro h
    rw [h] at e
    have e2 : ([45] : List Nat) = (tl z).take 1 := e
    cases q : tl z with
    | nil => rw [q] at e2; cases e2
    | cons c r =>
      rw [q] at e2
      have : 45 = c := (List.cons.inj e2).1
      rw [← this]
      rfl
  · intro h
    refine TL.ext_tl ?_
    rw [e]
    cases q : tl z with
    | nil => rw [q] at h; cases h
    | cons c r =>
      rw [q] at h
      have : c = 45 := Option.some.inj h
      rw [this]
      rfl
end Cu

namespace Cu
open PySem PySem.Spec PyProof.Rows L2
open TL (tl)
theorem call_str_any {X : Cx} : CallR X (.type "str") (fun xs H Q => (∃ i, xs = [.int i] ∧ i.natAbs.log2 < 1920 ∧ Q (.str (nS i)) H) ∨ ∃ a, xs = [.str a] ∧ Q (.str a) H) := by
  intro pins s σ H xs us Q I r h
  rcases h with ⟨i, rfl, hz, q⟩ | ⟨a, rfl, q⟩
  · exact call_str_int pins s σ H _ us Q I r ⟨i, rfl, hz, q⟩
  · cases r with
    | cons r1 r2 =>
      cases r2
      obtain ⟨t, rfl⟩ := r1
      exact PySem.P.str_of_str ⟨.str a, H, I, ⟨t, rfl⟩, q⟩
abbrev s_number_of : Stmt := (top 10)
theorem sc_number_of : FnScope ["word", "figures", "sign"] ["word"] (defScope s_number_of) := ⟨rfl, rfl, rfl, by decide +kernel, rfl, by decide +kernel, by decide +kernel⟩

def spNum : Sp := fun vs H Q _ => vs.length = 1 ∧ ∃ x : Str, vs = [.str x] ∧ x.length ≤ 1000000 ∧ PyData.strOk x = true ∧ ∀ H', Grow H H' → Q (optN (numW x)) H'
section
variable {P : Program} {w : World} {K : PySem.W.Frag} {mg : Str → Option Value} {base : Heap} {tF tM : Tok}
theorem ok_number_of (F : Fd K mg "number_of" s_number_of) (Bm : Blt mg) (km_MOST_FIGURES : mg "MOST_FIGURES" = some (.int 9 tM)) (km_FIGURES : mg "FIGURES" = some (.str "0123456789" tF)) : Gf P w K mg base 1 "number_of" ["word"] spNum := by
  refine F.ok sc_number_of (fun _ _ _ _ _ _ us hl => match us, hl with | [_], _ => rfl) len_of fun qual f cdv A0 outer s H vs Q E hr h => ?_
  obtain ⟨_, x, rfl, hx, hok, k⟩ := h
  refine ⟨_, (pss_cons (ps_mid (ps_set (i := 1) sc_number_of.nd rfl (Or.inl rfl) (pe_ifExp (pt_cmpR op_eq (pe_slice sl_str (pv 0) po_none (po_some pe_int)) pe_str (nomark _)) (pe_slice sl_str (pv 0) (po_some pe_int) po_none) (pv 0))))
      (pss_cons (ps_if (PW.pt (pw_or (pt_not (pt_chain op_le op_le pe_int (pe_callB call_len_str rfl Bm.len (by decide +kernel) (pa_cons (pv 1) pa_nil)) (pe_glob (v := .int 9) rfl km_MOST_FIGURES ⟨_, rfl⟩))) (pw_or1 (pt_cmpR (op_neD hr.units) (pe_lc (own := [("sign", 2)]) (g := (gName 2)) rfl sc_number_of.nd (pi_str (pv 1)) (blkOk_by (N := ["word", "figures", "sign"]) (sc := defScope s_number_of) (by decide +kernel)) (fun _ _ _ _ _ => (pg_name (i := 2) sc_number_of.nd rfl (Or.inl rfl))) (fun _ _ _ _ _ => (pts_one (pt_cmpR op_notIn_sign (pv 2) (pe_glob (v := .str "0123456789") rfl km_FIGURES ⟨_, rfl⟩) (by rfl)))) (fun _ _ _ _ _ => (pv 2))) (pe_lst pa_nil) (nomark _)))))
        (pss_one (ps_ret pe_non))
        pss_nil)
      (pss_cons (ps_if (PW.pt (pw_and (pt_cmpR op_eq (pe_ix ix_str (pv 1) pe_int (fun _ _ => rfl)) pe_str (nomark _)) (pw_and1 (pt_cmpR op_ne (pv 0) pe_str (nomark _)))))
        (pss_one (ps_ret pe_non))
        pss_nil)
      (pss_one (ps_ret (pe_callTy call_int_str rfl Bm.int (by decide +kernel) (pa_cons (pv 0) pa_nil))))))), ?_⟩
  have hz : x.length ≤ sizeLine := Nat.le_trans hx (by decide)
  -- figures = ..
  refine rd_mid (fun σ' H' => ∃ y : Str, σ' = [some (.str x), some (.str y), none] ∧ H = H' ∧ tl y = figs (tl x)) ?_ ?_
  · refine ⟨_, rfl, _, rfl, x, rfl, hz, rfl, _, rfl, ite2 (fun h0 => ?_) fun h0 => ?_⟩
    · have e : cutS x none (some 1) = "-" := V.str.inj (of_decide_eq_true h0)
      refine ⟨_, rfl, _, rfl, x, rfl, hz, cutS x (some 1) none, rfl, rfl, ?_⟩
      rw [tl_from1]
      exact (if_pos ((to1_minus x).mp e)).symm
    · have e : ¬ cutS x none (some 1) = "-" := fun z => h0 (decide_eq_true (congrArg V.str z))
      refine ⟨_, rfl, x, rfl, rfl, ?_⟩
      exact (if_neg fun z => e ((to1_minus x).mpr z)).symm
  rintro _ _ ⟨y, rfl, rfl, ey⟩
  have ly := TL.len_tl y
  have lx := TL.len_tl x
  have hy : (tl y).length ≤ (tl x).length := by
    rw [ey]
    unfold figs
    split
    · rw [List.length_tail]; omega
    · exact Nat.le_refl _
  have hyok : ∀ c ∈ tl y, c < 0x110000 := fun c hc => by
    have hc' : c ∈ tl x := by
      rw [ey] at hc
      unfold figs at hc
      split at hc
      · exact List.mem_of_mem_tail hc
      · exact hc
    have := Array.all_eq_true_iff_forall_mem.mp hok c (by simpa [tl] using hc')
    simpa using this
  have hzy : y.length ≤ sizeLine := by omega
  -- the letters that are no figures
  have key : ∀ (H1 : Hp) (D : Addr) (p : Addr), H1 D = some (.lst (((tl y).filter fun c => !decide (c ∈ tl "0123456789")).map fun c => V.str ⟨#[c]⟩)) → H1 p = some (.lst []) →
      ∃ d e, Dp K H1 (.ref D) d ∧ Dp K H1 (.ref p) e ∧ SeqAt.shaped d = true ∧ SeqAt.shaped e = true ∧ (!PyData.eqv d e) = !digs (tl y) := by
    intro H1 D p hD hp
    have rl : ∀ cs : List Nat, RpL K H1 (cs.map fun c => PyData.str ⟨#[c]⟩) (cs.map fun c => V.str ⟨#[c]⟩) := fun cs => by
      induction cs with
      | nil => exact .nil
      | cons c cs ih => exact .cons .str ih
    refine ⟨.list (((tl y).filter fun c => !decide (c ∈ tl "0123456789")).map fun c => PyData.str ⟨#[c]⟩), .list [], .lst (SqL.of hD) (RpL.dp (rl _)), Dp.nil hp, (Gd.list (n := 0) fun d hd => ?_).shaped, (Gd.nil (n := 0)).shaped, ?_⟩
    · obtain ⟨c, hc, rfl⟩ := List.mem_map.mp hd
      have := hyok c ((List.mem_filter.mp hc).1)
      exact Gd.str (by unfold PyData.strOk; simpa using this)
    · rw [eqv_nil]
      congr 1
      have dg : tl "0123456789" = [48, 49, 50, 51, 52, 53, 54, 55, 56, 57] := by decide +kernel
      rw [List.isEmpty_map, dg]
      cases hd : digs (tl y) with
      | true =>
        have := digs_all hd
        rw [List.isEmpty_iff, List.filter_eq_nil_iff]
        intro c hc
        have h1 := this c hc
        have : c ∈ [48, 49, 50, 51, 52, 53, 54, 55, 56, 57] := by simp; omega
        simp [this]
      | false =>
        refine Bool.eq_false_iff.mpr fun z => ?_
        rw [List.isEmpty_iff, List.filter_eq_nil_iff] at z
        refine absurd (digs_of fun c hc => ?_) (Bool.eq_false_iff.mp hd)
        have h1 := z c hc
        have : c ∈ [48, 49, 50, 51, 52, 53, 54, 55, 56, 57] := by
          by_cases q : c ∈ [48, 49, 50, 51, 52, 53, 54, 55, 56, 57]
          · exact q
          · exact absurd (by rw [decide_eq_false q]; rfl) h1
        simp only [List.mem_cons, List.not_mem_nil, or_false] at this
        omega
  have dof : ∀ b, figOk (tl x) = b → (decide (1 ≤ (tl y).length) && decide ((tl y).length ≤ 9) && digs (tl y)) = b := fun b e => by
    rw [ey]
    exact e
  -- behind the tests
  have rest : ∀ (H2 : Hp), Grow H H2 → figOk (tl x) = true → (fun (σ : L2.St) (H2 : Hp) => (tSeq (tIfS (tAnd (tTest (tOp rEq (tOp rIxS (tVar 1) (tC (V.int 0))) (tC (V.str "0")))) (tTest (tOp rNe (tVar 0) (tC (V.str "0"))))) (tRet (tC V.non)) tNext)
      (tRet (tCB (fun xs H Q => ∃ a n, xs = [V.str a] ∧ intText? a = some n ∧ a.length ≤ 640 ∧ Q (V.int n) H) (tCons (tVar 0) tNil)))) { nx := fun _ H' => Q V.non H', rt := Q } σ H2) [some (.str x), some (.str y), none] H2 := by
    intro H2 g2 hf
    have hf' := dof _ hf
    simp only [Bool.and_eq_true, decide_eq_true_eq] at hf'
    obtain ⟨⟨h1, h2⟩, h3⟩ := hf'
    obtain ⟨t1, t2⟩ := numW_int hf
    cases hh : tl y with
    | nil => rw [hh] at h1; simp at h1
    | cons c0 r0 =>
      have e0 : atI y.cps.toList 0 = some c0 := by
        show atI (tl y) 0 = some c0
        rw [hh]
        show ((ixN (r0.length + 1) ((0 : Nat) : Int)).bind fun j => (c0 :: r0)[j]?) = _
        rw [ixN_nat (by omega)]
        rfl
      have fin : nought (tl x) = false → Q (.int (valW (tl x))) H2 := fun hn => by
        have q := k H2 g2
        unfold numW numL' at q
        rw [if_pos hf, hn, if_neg Bool.false_ne_true] at q
        exact q
      have fin2 : nought (tl x) = true → Q .non H2 := fun hn => by
        have q := k H2 g2
        unfold numW numL' at q
        rw [if_pos hf, if_pos hn] at q
        exact q
      have c0x : (figs (tl x)).head? = some c0 := by rw [← ey, hh]; rfl
      refine ⟨_, rfl, y, 0, c0, rfl, rfl, hzy, e0, rfl, _, rfl, ite2 (fun a0 => ?_) fun a0 => ?_⟩
      · have ec : c0 = 48 := by
          have e : (⟨#[c0]⟩ : Str) = "0" := V.str.inj (of_decide_eq_true a0)
          have e2 := congrArg tl e
          exact (List.cons.inj (show [c0] = [48] from e2)).1
        refine ⟨_, rfl, rfl, _, rfl, ite2 (fun b0 => ?_) fun b0 => ?_⟩
        · refine fin2 ?_
          unfold nought
          have hne : tl x ≠ [48] := fun z => by
            have : x = "0" := TL.ext_tl z
            subst this
            exact absurd b0 (by decide +kernel)
          rw [c0x, ec, decide_eq_true rfl, decide_eq_true hne]
          rfl
        · refine ⟨_, rfl, x, _, rfl, t1, t2, fin ?_⟩
          unfold nought
          have hne : ¬ tl x ≠ [48] := fun z => b0 (by
            rw [decide_eq_false fun q => z (by rw [V.str.inj q]; decide +kernel)]
            rfl)
          rw [decide_eq_false hne, Bool.and_false]
      · refine ⟨_, rfl, x, _, rfl, t1, t2, fin ?_⟩
        unfold nought
        have hne : ¬ ((figs (tl x)).head? = some 48) := fun z => a0 (by
          rw [c0x] at z
          have : c0 = 48 := Option.some.inj z
          subst this
          decide +kernel)
        rw [decide_eq_false hne, Bool.false_and]
  have hnone : figOk (tl x) = false → ∀ H2, Grow H H2 → Q .non H2 := fun hf H2 g2 => by
    have q := k H2 g2
    unfold numW numL' at q
    rw [hf, if_neg Bool.false_ne_true] at q
    exact q
  have el : ((y.length : Nat) : Int) = ((tl y).length : Nat) := by rw [ly]
  refine ⟨_, rfl, y, rfl, hzy, _, _, rfl, rfl, _, rfl, ite2 (fun c1 => ?_) fun c1 => ?_⟩
  · refine ⟨_, _, rfl, rfl, _, rfl, ite2 (fun c2 => ?_) fun c2 => ?_⟩
    · refine iteP rfl (hnone ?_ H (Tr.refl H _))
      rw [← dof _ rfl]
      have h9 : ¬ ((tl y).length ≤ 9) := by
        rw [Bool.not_eq_true', decide_eq_false_iff_not] at c2
        omega
      rw [decide_eq_false h9, Bool.and_false, Bool.false_and]
    · have h1 : 1 ≤ (tl y).length := by
        have := of_decide_eq_true c1
        omega
      have h9 : (tl y).length ≤ 9 := by
        rw [Bool.not_eq_true', decide_eq_false_iff_not] at c2
        omega
      have dig : figOk (tl x) = digs (tl y) := by rw [← dof _ rfl, decide_eq_true h1, decide_eq_true h9]; rfl
      refine ⟨_, rfl, y, rfl, fun D hD => ?_⟩
      have u0 : Grow H (upd H D (.lst [])) := (Tr.refl H []).old hD
      refine lc_it (walk_str (z := y)) (fun i H2 => H2 = upd H D (.lst ((((tl y).take i).filter fun c => !decide (c ∈ tl "0123456789")).map fun c => V.str ⟨#[c]⟩))) rfl (fun _ _ _ _ => trivial) ?_ ?_
      · rintro i v H2 H3 hi rfl ⟨rfl, c, ec, rfl⟩
        have ec' : (tl y)[i]? = some c := by rw [← ec]; simp [tl]
        refine ⟨rfl, _, rfl, c, "0123456789", rfl, rfl, _, rfl, ?_⟩
        rw [take_snoc ec', List.filter_append, List.map_append]
        refine ite2 (fun hc => ?_) fun hc => ?_
        · refine ⟨_, rfl, _, upd_same, ?_, ?_⟩
          · rw [List.length_map]
            exact small1000 (Nat.le_trans (List.length_filter_le _ _) (by rw [List.length_take]; omega))
          · rw [upd_upd, List.filter_cons_of_pos (p := fun c => !decide (c ∈ tl "0123456789")) hc]
            rfl
        · rw [List.filter_cons_of_neg (p := fun c => !decide (c ∈ tl "0123456789")) hc]
          simp
      · rintro _ rfl
        rw [List.take_of_length_le (by rw [show y.cps.size = y.length from rfl, ly]; exact Nat.le_refl _)]
        refine ⟨(by show 0 ≤ sizeLine; decide), fun p hp => ?_⟩
        have nD : D ≠ p := ne_of_none upd_same hp
        have g2 : Grow H (upd (upd H D (.lst ((((tl y)).filter fun c => !decide (c ∈ tl "0123456789")).map fun c => V.str ⟨#[c]⟩))) p (.lst [])) := ((Tr.refl H []).old hD).old hp
        obtain ⟨d, e, q1, q2, q3, q4, q5⟩ := key (upd (upd H D (.lst ((((tl y)).filter fun c => !decide (c ∈ tl "0123456789")).map fun c => V.str ⟨#[c]⟩))) p (.lst [])) D p (by rw [upd_ne nD]; exact upd_same) upd_same
        refine ⟨d, e, q1, q2, q3, q4, _, rfl, ?_⟩
        rw [q5]
        refine ite2 (fun hb => ?_) fun hb => ?_
        · refine hnone ?_ _ g2
          rw [dig]
          simpa using hb
        · exact rest _ g2 (by rw [dig]; simpa using hb)
  · refine ⟨_, rfl, iteP (by rfl) (hnone ?_ H (Tr.refl H _))⟩
    have h1 : ¬ 1 ≤ (tl y).length := fun z => c1 (decide_eq_true (by omega))
    rw [← dof _ rfl, decide_eq_false h1]
    rfl
end
end Cu

namespace Cu
open PySem PySem.Spec PyProof.Rows L2
open TL (tl)
theorem getD_at {ws : List Str} {i : Nat} (h : i < ws.length) : ws[i]? = some (ws.getD i "") := by simp [List.getD, List.getElem?_eq_getElem h]
theorem strs_at {ws : List Str} {i : Nat} (h : i < ws.length) : (ws.map V.str)[i]? = some (.str (ws.getD i "")) := by rw [List.getElem?_map, getD_at h]; rfl
theorem ixS {ws : List Str} {i : Nat} (h : i < ws.length) : atI (ws.map V.str) (i : Int) = some (.str (ws.getD i "")) := by
  unfold atI
  rw [ixN_nat (by rw [List.length_map]; exact h)]
  exact strs_at h
theorem beqS (u v : Str) : (u == v) = (v == u) := by
  by_cases h : u = v
  · rw [h]
  · rw [beq_eq_false_iff_ne.mpr h, beq_eq_false_iff_ne.mpr (Ne.symm h)]
theorem inV3 (w : Str) : inV (.str w) [.str "change", .str "part", .str "beat"] = kindOk w := by
  simp only [inV, eqV, kindOk, List.any_cons, List.any_nil, Bool.or_false, Bool.or_assoc]
  rw [beqS "change", beqS "part", beqS "beat"]
theorem inV2 (w : Str) : inV (.str w) [.str "set", .str "add"] = (w == "set" || w == "add") := by
  simp only [inV, eqV, List.any_cons, List.any_nil, Bool.or_false]
  rw [beqS "set", beqS "add"]
/-- words that may be read -/
def WdOk (w : Str) : Prop := w.length ≤ 1000000 ∧ PyData.strOk w = true
abbrev s_is_right : Stmt := (top 11)
theorem sc_is_right : FnScope ["words", "at", "number"] ["words", "at"] (defScope s_is_right) := ⟨rfl, rfl, rfl, by decide +kernel, rfl, by decide +kernel, by decide +kernel⟩

def spRight (K : PySem.W.Frag) : Sp := fun vs H Q _ => vs.length = 2 ∧ ∃ (a : Addr) (ws : List Str) (i : Nat), vs = [.ref a, .int i] ∧ FzL K H a (ws.map V.str) ∧ i < ws.length ∧ (∀ w ∈ ws, WdOk w) ∧ ∀ H', Grow H H' → Q (.bl (rightW ws i)) H'
section
variable {P : Program} {w : World} {K : PySem.W.Frag} {mg : Str → Option Value} {base : Heap}
theorem ok_is_right (F : Fd K mg "is_right" s_is_right) (Bm : Blt mg) (g_number_of : Gf P w K mg base 1 "number_of" ["word"] spNum) : Gf P w K mg base 2 "is_right" ["words", "at"] (spRight K) := by
  refine F.ok sc_is_right (fun _ _ _ _ _ _ us hl => match us, hl with | [_, _], _ => rfl) len_of fun qual f cdv A0 outer s H vs Q E hr h => ?_
  obtain ⟨_, a, ws, i, rfl, fa, hi, hok, k⟩ := h
  refine ⟨_, (pss_cons (ps_if (pt_cmpR op_eq (pv 1) pe_int (nomark _))
        (pss_one (ps_ret (pe_cmpR op_in_seq (pe_ix ix_list (pv 0) pe_int (fun _ _ => rfl)) (pe_tup (pa_cons pe_str (pa_cons pe_str (pa_cons pe_str pa_nil)))) (by rfl))))
        pss_nil)
      (pss_cons (ps_mid (ps_if (PW.pt (pw_and (pt_cmpR op_eq (pe_ix ix_list (pv 0) pe_int (fun _ _ => rfl)) pe_str (nomark _)) (pw_and1 (pt_cmpR op_eq (pv 1) pe_int (nomark _)))))
        (pss_one (ps_ret (pe_cmpR op_in_seq (pe_ix ix_list (pv 0) pe_int (fun _ _ => rfl)) (pe_tup (pa_cons pe_str (pa_cons pe_str pa_nil))) (by rfl))))
        pss_nil))
      (pss_cons (ps_set (i := 2) sc_is_right.nd rfl (Or.inl rfl) (pc g_number_of hr (pa_cons (pe_ix ix_list (pv 0) (pv 1) (fun _ _ => rfl)) pa_nil)))
      (pss_cons (ps_mid (ps_if (PW.pt (pw_or (pt_cmpR op_isN (pv 2) pe_non (nomark _)) (pw_or1 (PW.pt (pw_and (pt_cmpR op_eq (pe_ix ix_list (pv 0) pe_int (fun _ _ => rfl)) pe_str (nomark _)) (pw_and1 (pt_cmpR op_gt (pv 1) pe_int (nomark _))))))))
        (pss_one (ps_ret pe_bl))
        pss_nil))
      (pss_cons (ps_mid (ps_if (PW.pt (pw_or (PW.pt (pw_and (pt_cmpR op_eq (pe_ix ix_list (pv 0) pe_int (fun _ _ => rfl)) pe_str (nomark _)) (pw_and1 (pt_cmpR op_eq (pv 1) pe_int (nomark _))))) (pw_or1 (PW.pt (pw_and (pt_cmpR op_eq (pe_ix ix_list (pv 0) pe_int (fun _ _ => rfl)) pe_str (nomark _)) (pw_and (pt_cmpR op_gt (pv 1) pe_int (nomark _)) (pw_and1 (pt_cmpR op_eq (pe_op op_mod (pv 1) pe_int) pe_int (nomark _)))))))))
        (pss_one (ps_ret pe_bl))
        pss_nil))
      (pss_one (ps_ret (pe_cmpR op_ge (pv 2) pe_int (nomark _))))))))), ?_⟩
  have h0 : 0 < ws.length := by omega
  have g0 : ∀ {H'}, Grow H H' → SqL K H' a (ws.map V.str) := fun g => (fa.mono g.mono).sq
  refine ⟨_, rfl, rfl, _, rfl, ite2 (fun c0 => ?_) fun c0 => ?_⟩
  · have hi0 : i = 0 := by simpa using c0
    subst hi0
    refine ⟨_, rfl, a, _, 0, _, rfl, rfl, fa.sq, ixS h0, ⟨(by show 3 ≤ sizeLine; decide), fun t ht => ?_⟩⟩
    refine ⟨t, _, rfl, .inr (SqT.of upd_same), rfl, rfl, ?_⟩
    have q := k _ ((Tr.refl H []).old (o := .tup [.str "change", .str "part", .str "beat"]) ht)
    unfold rightW at q
    rw [if_pos rfl, ← inV3] at q
    exact q
  have hi0 : i ≠ 0 := fun z => c0 (by subst z; rfl)
  have eqS : ∀ {u v : Str}, decide (V.str u = V.str v) = true → u = v := fun h => V.str.inj (of_decide_eq_true h)
  have neS : ∀ {u v : Str}, ¬ decide (V.str u = V.str v) = true → ¬ u = v := fun h z => h (decide_eq_true (congrArg V.str z))
  have eqI : ∀ {u v : Int}, decide (V.int u = V.int v) = true → u = v := fun h => V.int.inj (of_decide_eq_true h)
  have neI : ∀ {u v : Int}, ¬ decide (V.int u = V.int v) = true → ¬ u = v := fun h z => h (decide_eq_true (congrArg V.int z))
  -- change, at 3
  refine rd_mid (fun σ' H' => σ' = [some (.ref a), some (.int i), none] ∧ H = H' ∧ ¬ (ws.getD 0 "" = "change" ∧ i = 3)) ?_ ?_
  · refine ⟨_, rfl, a, _, 0, _, rfl, rfl, fa.sq, ixS h0, rfl, _, rfl, ite2 (fun c1 => ?_) fun c1 => ?_⟩
    · refine ⟨_, rfl, rfl, _, rfl, ite2 (fun c2 => ?_) fun c2 => ?_⟩
      · have hi3 : i = 3 := by have := eqI c2; omega
        subst hi3
        refine ⟨_, rfl, a, _, 3, _, rfl, rfl, fa.sq, ixS hi, ⟨(by show 2 ≤ sizeLine; decide), fun t ht => ?_⟩⟩
        refine ⟨t, _, rfl, .inr (SqT.of upd_same), rfl, rfl, ?_⟩
        have q := k _ ((Tr.refl H []).old (o := .tup [.str "set", .str "add"]) ht)
        unfold rightW at q
        rw [if_neg hi0, if_pos ⟨eqS c1, rfl⟩, ← inV2] at q
        exact q
      · exact ⟨rfl, rfl, fun z => neI c2 (by omega)⟩
    · exact iteM (by decide) ⟨rfl, rfl, fun z => neS c1 z.1⟩
  rintro _ _ ⟨rfl, rfl, h3⟩
  -- number = ..
  refine ⟨_, rfl, _, rfl, a, _, (i : Int), _, rfl, rfl, fa.sq, ixS hi, rfl, ws.getD i "", rfl, (hok _ (List.mem_of_getElem? (getD_at hi))).1, (hok _ (List.mem_of_getElem? (getD_at hi))).2, fun H2 g2 => ?_⟩
  have f2 := g0 g2
  refine rd_mid (fun σ' H' => ∃ n : Int, σ' = [some (.ref a), some (.int i), some (.int n)] ∧ H2 = H' ∧ numW (ws.getD i "") = some n ∧ ¬ (ws.getD 0 "" = "change" ∧ 5 < i)) ?_ ?_
  · cases en : numW (ws.getD i "") with
    | none =>
      refine ⟨_, rfl, rfl, _, rfl, iteP rfl (iteP rfl ?_)⟩
      have q := k H2 g2
      rw [rightW_none hi0 h3 en] at q
      exact q
    | some n =>
      refine ⟨_, rfl, rfl, _, rfl, iteM (by simp [optN]) ?_⟩
      refine ⟨_, rfl, a, _, 0, _, rfl, rfl, f2, ixS h0, rfl, _, rfl, ite2 (fun c1 => ?_) fun c1 => ?_⟩
      · refine ⟨_, rfl, _, _, rfl, rfl, _, rfl, ite2 (fun c2 => ?_) fun c2 => ?_⟩
        · have h5 : 5 < i := by have := of_decide_eq_true c2; omega
          have q := k H2 g2
          rw [rightW_num hi0 h3 en, if_pos ⟨eqS c1, h5⟩] at q
          exact q
        · exact ⟨n, rfl, rfl, rfl, fun z => c2 (decide_eq_true (by omega))⟩
      · exact iteM (by decide) ⟨n, rfl, rfl, rfl, fun z => neS c1 z.1⟩
  rintro _ _ ⟨n, rfl, rfl, en, h5⟩
  have q0 := k H2 g2
  rw [rightW_num hi0 h3 en, if_neg h5] at q0
  refine rd_mid (fun σ' H' => σ' = [some (.ref a), some (.int i), some (.int n)] ∧ H2 = H' ∧ ¬ ((ws.getD 0 "" = "change" ∧ i = 4) ∨ (ws.getD 0 "" = "part" ∧ 2 < i ∧ i % 2 = 1))) ?_ ?_
  · have yes : ((ws.getD 0 "" = "change" ∧ i = 4) ∨ (ws.getD 0 "" = "part" ∧ 2 < i ∧ i % 2 = 1)) → Q (.bl true) H2 := fun z => by
      rw [if_pos z] at q0
      exact q0
    refine ⟨_, rfl, a, _, 0, _, rfl, rfl, f2, ixS h0, rfl, _, rfl, ite2 (fun c1 => ?_) fun c1 => ?_⟩
    · have e0 := eqS c1
      refine ⟨_, rfl, rfl, _, rfl, ite2 (fun c2 => ?_) fun c2 => ?_⟩
      · exact yes (.inl ⟨e0, by have := eqI c2; omega⟩)
      · refine ⟨_, rfl, a, _, 0, _, rfl, rfl, f2, ixS h0, rfl, _, rfl, iteM (fun z => change_np (e0.symm.trans (eqS z))) (iteM (by decide) ⟨rfl, rfl, ?_⟩)⟩
        rintro (z | z)
        · exact neI c2 (by omega)
        · exact change_np (e0.symm.trans z.1)
    · have n0 := neS c1
      refine iteM (by decide) ?_
      refine ⟨_, rfl, a, _, 0, _, rfl, rfl, f2, ixS h0, rfl, _, rfl, ite2 (fun c2 => ?_) fun c2 => ?_⟩
      · have e0 := eqS c2
        refine ⟨_, rfl, _, _, rfl, rfl, _, rfl, ite2 (fun c3 => ?_) fun c3 => ?_⟩
        · refine ⟨_, rfl, _, _, rfl, rfl, (by show (0 : Int) < 2; decide), rfl, _, rfl, ite2 (fun c4 => ?_) fun c4 => ?_⟩
          · refine yes (.inr ⟨e0, by have := of_decide_eq_true c3; omega, ?_⟩)
            have := eqI c4
            omega
          · refine ⟨rfl, rfl, ?_⟩
            rintro (z | z)
            · exact n0 z.1
            · exact neI c4 (by omega)
        · refine iteM (by decide) ⟨rfl, rfl, ?_⟩
          rintro (z | z)
          · exact n0 z.1
          · exact c3 (decide_eq_true (by omega))
      · refine iteM (by decide) ⟨rfl, rfl, ?_⟩
        rintro (z | z)
        · exact n0 z.1
        · exact neS c2 z.1
  rintro _ _ ⟨rfl, rfl, hs⟩
  rw [if_neg hs] at q0
  exact ⟨_, rfl, _, _, rfl, rfl, q0⟩
end
end Cu

namespace Cu
open PySem PySem.Spec PyProof.Rows L2
open TL (tl)
theorem pairs_get : ∀ {l : List Int} {i : Nat} {a b : Int}, l[2 * i]? = some a → l[2 * i + 1]? = some b → (pairs l)[i]? = some (a, b)
  | [], _, _, _, h, _ => by simp at h
  | [_], i, _, _, _, h => by
    rw [List.getElem?_eq_none (by simp)] at h
    cases h
  | x :: y :: r, 0, a, b, h1, h2 => by
    have e1 : x = a := by simpa using h1
    have e2 : y = b := by simpa using h2
    rw [e1, e2]
    rfl
  | x :: y :: r, i + 1, a, b, h1, h2 => by
    have e1 : 2 * (i + 1) = 2 * i + 1 + 1 := by omega
    rw [e1] at h1 h2
    simp only [List.getElem?_cons_succ] at h1 h2
    show (pairs r)[i]? = _
    exact pairs_get h1 h2
theorem pairs_len : ∀ (l : List Int), (pairs l).length = l.length / 2
  | [] => rfl
  | [_] => by simp [pairs]
  | _ :: _ :: r => by
    show (pairs r).length + 1 = (r.length + 2) / 2
    rw [pairs_len r]
    omega
theorem rg2 (lo r : Nat) (hl : lo ≤ 10) (h : r ≤ 1000) : RgC (lo : Int) ((lo + 2 * r : Nat) : Int) 2 r := by
  have e : Builtin.Range.rangeSize (lo : Int) ((lo + 2 * r : Nat) : Int) 2 = r := by
    unfold Builtin.Range.rangeSize
    simp only [show ((2 : Int) > 0) by decide, if_true]
    split <;> omega
  refine ⟨by decide, by decide, ?_, e⟩
  have f63 : ∀ z : Int, -100000 ≤ z → z ≤ 100000 → Builtin.Range.rangeFitsLong z = true := fun z h1 h2 => by
    unfold Builtin.Range.rangeFitsLong
    rw [Bool.and_eq_true]
    exact ⟨decide_eq_true (Int.le_trans (by decide) h1), decide_eq_true (Int.lt_of_le_of_lt h2 (by decide))⟩
  unfold Builtin.Range.small
  rw [e, f63 _ (by omega) (by omega), f63 _ (by omega) (by omega), f63 2 (by decide) (by decide), f63 r (by omega) (by omega), if_pos (show (2 : Int) > 0 by decide), f63 _ (by omega) (by omega), Bool.or_true]
  rfl
theorem right_num {ws : List Str} {i : Nat} (h : rightW ws i = true) (h0 : i ≠ 0) (hc : ¬(ws.getD 0 "" = "change" ∧ i = 3)) : numW (ws.getD i "") = some (numD (ws.getD i "")) := by
  cases e : numW (ws.getD i "") with
  | none =>
    rw [rightW_none h0 hc e] at h
    cases h
  | some n =>
    unfold numD
    rw [e]
    rfl
abbrev s_is_done : Stmt := (top 12)
theorem sc_is_done : FnScope ["words"] ["words"] (defScope s_is_done) := ⟨rfl, rfl, rfl, by decide +kernel, rfl, by decide +kernel, by decide +kernel⟩

def spDone (K : PySem.W.Frag) : Sp := fun vs H Q _ => vs.length = 1 ∧ ∃ (a : Addr) (ws : List Str), vs = [.ref a] ∧ FzL K H a (ws.map V.str) ∧ 0 < ws.length ∧ ∀ H', Grow H H' → Q (.bl (doneW ws)) H'
abbrev s_BadText_init : Stmt := (inClass (top 4) 0)
theorem sc_BadText_init : FnScope ["self", "place"] ["self", "place"] (defScope s_BadText_init) := ⟨rfl, rfl, rfl, by decide +kernel, rfl, by decide +kernel, by decide +kernel⟩

abbrev s_read : Stmt := (top 13)
theorem sc_read : FnScope ["text", "words", "at", "numbers", "rows", "word"] ["text"] (defScope s_read) := ⟨rfl, rfl, rfl, by decide +kernel, rfl, by decide +kernel, by decide +kernel⟩

def xdT (n : Nat) : HO := .xd [("place", .int n)]
/-- read(text): the letter, or BadText with a place -/
def spRead (K : PySem.W.Frag) (C : Addr) : Sp := fun vs H Q E => vs.length = 1 ∧ ∃ (x : Str) (ws : List Str), vs = [.str x] ∧ x.length ≤ 1000000 ∧ Txt.split x " " = ws ∧ 0 < ws.length ∧ ws.length ≤ 900 ∧ (∀ w ∈ ws, WdOk w) ∧
  (∀ n, badW ws = some n → ∀ d H', Grow H H' → H' d = some (xdT n) → E (.ref C) (some d) H') ∧
  (badW ws = none → ∀ v H', Grow H H' → Rp K H' (letD ws) v → Q v H')
section
variable {P : Program} {w : World} {K : PySem.W.Frag} {mg : Str → Option Value} {base : Heap} {C CE : Addr}
theorem ok_is_done (F : Fd K mg "is_done" s_is_done) (Bm : Blt mg) : Gf P w K mg base 1 "is_done" ["words"] (spDone K) := by
  refine F.ok sc_is_done (fun _ _ _ _ _ _ us hl => match us, hl with | [_], _ => rfl) len_of fun qual f cdv A0 outer s H vs Q E hr h => ?_
  obtain ⟨_, a, ws, rfl, fa, h0, k⟩ := h
  refine ⟨_, (pss_cons (ps_if (pt_cmpR op_eq (pe_ix ix_list (pv 0) pe_int (fun _ _ => rfl)) pe_str (nomark _))
        (pss_one (ps_ret (pe_cmpR op_eq (pe_callB call_len_seq rfl Bm.len (by decide +kernel) (pa_cons (pv 0) pa_nil)) pe_int (nomark _))))
        pss_nil)
      (pss_cons (ps_if (pt_cmpR op_eq (pe_ix ix_list (pv 0) pe_int (fun _ _ => rfl)) pe_str (nomark _))
        (pss_one (ps_ret (pe_and (pe_cmpR op_gt (pe_callB call_len_seq rfl Bm.len (by decide +kernel) (pa_cons (pv 0) pa_nil)) pe_int (nomark _)) (pe_one (pe_cmpR op_eq (pe_op op_mod (pe_callB call_len_seq rfl Bm.len (by decide +kernel) (pa_cons (pv 0) pa_nil)) pe_int) pe_int (nomark _))))))
        pss_nil)
      (pss_one (ps_ret (pe_cmpR op_gt (pe_callB call_len_seq rfl Bm.len (by decide +kernel) (pa_cons (pv 0) pa_nil)) pe_int (nomark _)))))), ?_⟩
  have q := k H (Tr.refl H _)
  have hl : (ws.map V.str).length = ws.length := List.length_map ..
  have dI : ∀ {u v : Nat}, decide (V.int (u : Int) = V.int (v : Int)) = decide (u = v) := fun {u v} => by
    refine decide_eq_decide.mpr ⟨fun z => by have := V.int.inj z; omega, fun z => by rw [z]⟩
  refine ⟨_, rfl, a, _, 0, _, rfl, rfl, fa.sq, ixS h0, rfl, _, rfl, ite2 (fun c1 => ?_) fun c1 => ?_⟩
  · have e0 : ws.getD 0 "" = "change" := V.str.inj (of_decide_eq_true c1)
    refine ⟨_, rfl, a, _, rfl, .inl fa.sq, rfl, ?_⟩
    unfold doneW at q
    rw [if_pos e0, ← dI, ← hl] at q
    exact q
  · have n0 : ¬ ws.getD 0 "" = "change" := fun z => c1 (decide_eq_true (congrArg V.str z))
    refine ⟨_, rfl, a, _, 0, _, rfl, rfl, fa.sq, ixS h0, rfl, _, rfl, ite2 (fun c2 => ?_) fun c2 => ?_⟩
    · have e0 : ws.getD 0 "" = "part" := V.str.inj (of_decide_eq_true c2)
      unfold doneW at q
      rw [if_neg n0, if_pos e0] at q
      refine ⟨_, rfl, a, _, rfl, .inl fa.sq, _, _, rfl, rfl, _, rfl, ite2 (fun c3 => ?_) fun c3 => ?_⟩
      · have h4 : 4 < ws.length := by have := of_decide_eq_true c3; rw [hl] at this; omega
        refine ⟨_, rfl, a, _, rfl, .inl fa.sq, _, _, rfl, rfl, (by show (0 : Int) < 2; decide), rfl, ?_⟩
        rw [decide_eq_true h4, Bool.true_and, ← dI] at q
        rw [hl]
        have e2 : (ws.length : Int) % 2 = ((ws.length % 2 : Nat) : Int) := by omega
        show Q (.bl (decide (V.int ((ws.length : Int) % 2) = V.int 1))) H
        rw [e2]
        exact q
      · have h4 : ¬ 4 < ws.length := fun z => c3 (decide_eq_true (by rw [hl]; omega))
        rw [decide_eq_false h4] at q
        exact q
    · have n1 : ¬ ws.getD 0 "" = "part" := fun z => c2 (decide_eq_true (congrArg V.str z))
      unfold doneW at q
      rw [if_neg n0, if_neg n1] at q
      refine ⟨_, rfl, a, _, rfl, .inl fa.sq, _, _, rfl, rfl, ?_⟩
      rw [hl]
      have e2 : decide ((2 : Int) < (ws.length : Int)) = decide (2 < ws.length) := decide_eq_decide.mpr (by omega)
      show Q (.bl (decide ((2 : Int) < (ws.length : Int)))) H
      rw [e2]
      exact q
theorem ok_BadText (F : Xd K mg "BadText" C "BadText.__init__" s_BadText_init) (CCatchError : CeR K mg CE) (XBadText : Xc K C "place") : Xf P w K mg base 1 "BadText" C ["self", "place"] (spXi C "place") := by
  refine F.ok sc_BadText_init (fun _ _ _ _ _ _ us hl => match us, hl with | [_, _], _ => rfl) len_of fun qual f cdv A0 outer s H vs Q E hr h => ?_
  obtain ⟨_, a, v, rfl, ha, k⟩ := h
  refine ⟨_, (pss_cons (ps_expr (pe_ceinit CCatchError (pa_cons (pv 0) (pa_cons pe_str pa_nil)))) (pss_one (ps_ost (pv 0) (pv 1)))), ?_⟩
  refine ⟨_, rfl, a, C, _, rfl, (by decide), XBadText.ox, ha, ?_⟩
  exact ⟨_, rfl, _, rfl, a, C, rfl, XBadText.ox, XBadText.no, .inl ⟨ha, k⟩⟩
theorem ok_read (F : Fd K mg "read" s_read) (Bm : Blt mg) (g_is_right : Gf P w K mg base 2 "is_right" ["words", "at"] (spRight K)) (g_is_done : Gf P w K mg base 1 "is_done" ["words"] (spDone K))
    (x_BadText : Xf P w K mg base 1 "BadText" C ["self", "place"] (spXi C "place")) (XBadText : Xc K C "place") : Gx P w K mg base 3 "read" ["text"] (spRead K C) := by
  refine F.okX sc_read (fun _ _ _ _ _ _ us hl => match us, hl with | [_], _ => rfl) len_of fun qual f cdv A0 outer s H vs Q E hr h => ?_
  obtain ⟨_, x, ws, rfl, hx, ews, hw0, hw9, hok, kE, kQ⟩ := h
  refine ⟨_, (pss_cons (ps_set (i := 1) sc_read.nd rfl (Or.inl rfl) (pe_fz (pe_split (pv 0) pe_str)))
      (pss_cons (ps_for (passes_of rfl) rfl (pi_range1 rfl Bm.range (pa_cons (pe_callB call_len_seq rfl Bm.len (by decide +kernel) (pa_cons (pv 1) pa_nil)) pa_nil)) (pg_name (i := 2) sc_read.nd rfl (Or.inl rfl))
        (pss_one (ps_if (pt_not (pt_val (pc g_is_right hr (pa_cons (pv 1) (pa_cons (pv 2) pa_nil)))))
          (pss_one (ps_raise rfl (takes_of rfl rfl rfl rfl) (px XBadText.ox x_BadText hr (pa_cons (pv 2) pa_nil))))
          pss_nil)))
      (pss_cons (ps_mid (ps_if (pt_not (pt_val (pc g_is_done hr (pa_cons (pv 1) pa_nil))))
        (pss_one (ps_raise rfl (takes_of rfl rfl rfl rfl) (px XBadText.ox x_BadText hr (pa_cons (pe_callB call_len_seq rfl Bm.len (by decide +kernel) (pa_cons (pv 1) pa_nil)) pa_nil))))
        pss_nil))
      (pss_cons (ps_if (pt_cmpR op_eq (pe_ix ix_list (pv 1) pe_int (fun _ _ => rfl)) pe_str (nomark _))
        (pss_one (ps_ret (pe_tup (pa_cons pe_str (pa_cons (pe_callTy call_int_str rfl Bm.int (by decide +kernel) (pa_cons (pe_ix ix_list (pv 1) pe_int (fun _ _ => rfl)) pa_nil)) (pa_cons (pe_callTy call_int_str rfl Bm.int (by decide +kernel) (pa_cons (pe_ix ix_list (pv 1) pe_int (fun _ _ => rfl)) pa_nil)) (pa_cons (pe_ix ix_list (pv 1) pe_int (fun _ _ => rfl)) (pa_cons (pe_callTy call_int_str rfl Bm.int (by decide +kernel) (pa_cons (pe_ix ix_list (pv 1) pe_int (fun _ _ => rfl)) pa_nil)) (pa_cons (pe_callTy call_int_str rfl Bm.int (by decide +kernel) (pa_cons (pe_ix ix_list (pv 1) pe_int (fun _ _ => rfl)) pa_nil)) pa_nil)))))))))
        pss_nil)
      (pss_cons (ps_set (i := 3) sc_read.nd rfl (Or.inr rfl) (pe_fz (pe_lc (own := [("word", 5)]) (g := (gName 5)) (tt := tYes) rfl sc_read.nd (pi_list (pe_slice sl_list (pv 1) (po_some pe_int) po_none)) (blkOk_by (N := ["text", "words", "at", "numbers", "rows", "word"]) (sc := defScope s_read) (by decide +kernel)) (fun _ _ _ _ _ => (pg_name (i := 5) sc_read.nd rfl (Or.inl rfl))) (fun _ _ _ _ _ => pts_nil) (fun _ _ _ _ _ => (pe_callTy call_int_str rfl Bm.int (by decide +kernel) (pa_cons (pv 5) pa_nil))))))
      (pss_cons (ps_if (pt_cmpR op_eq (pe_ix ix_list (pv 1) pe_int (fun _ _ => rfl)) pe_str (nomark _))
        (pss_one (ps_ret (pe_tup (pa_cons pe_str (pa_cons (pe_ix ix_list (pv 3) pe_int (fun _ _ => rfl)) (pa_cons (pe_callTy call_tuple_of rfl Bm.tuple (by decide +kernel) (pa_cons (pe_slice sl_list (pv 3) (po_some pe_int) po_none) pa_nil)) pa_nil))))))
        pss_nil)
      (pss_cons (ps_setLc (i := 4) (own := [("at", 2)]) (g := (gName 2)) (tt := tYes) rfl sc_read.nd rfl rfl (sw_true rfl rfl rfl (by decide +kernel)) (pi_range3 rfl Bm.range (pa_cons pe_int (pa_cons (pe_callB call_len_seq rfl Bm.len (by decide +kernel) (pa_cons (pv 3) pa_nil)) (pa_cons pe_int pa_nil)))) (blkOk_by (N := ["text", "words", "at", "numbers", "rows", "word"]) (sc := defScope s_read) (by decide +kernel)) (fun _ _ _ _ _ => (pg_name (i := 2) sc_read.nd rfl (Or.inl rfl))) (fun _ _ _ _ _ => pts_nil) (fun _ _ _ _ _ => (pe_tup (pa_cons (pe_ix (ix_listK K rfl) (pv 3) (pv 2) (fun _ _ => rfl)) (pa_cons (pe_ix (ix_listK K rfl) (pv 3) (pe_op op_add (pv 2) pe_int) (fun _ _ => rfl)) pa_nil)))))
      (pss_one (ps_ret (pe_tup (pa_cons pe_str (pa_cons (pe_ix ix_list (pv 3) pe_int (fun _ _ => rfl)) (pa_cons (pe_ix ix_list (pv 3) pe_int (fun _ _ => rfl)) (pa_cons (pe_callTy call_tuple_of rfl Bm.tuple (by decide +kernel) (pa_cons (pv 4) pa_nil)) pa_nil)))))))))))))), ?_⟩
  have hlen : (ws.map V.str).length = ws.length := List.length_map ..
  refine rd_fz ⟨_, rfl, ⟨x, rfl⟩, x, " ", rfl, rfl, (by decide +kernel), Nat.le_trans (Nat.add_le_add_right hx 2) (by decide), fun p hp => ⟨p, _, rfl, upd_same, fun o => ?_⟩⟩
  rw [ews]
  have g1 := (Grow.refl H).nfz (xs := ws.map V.str) (ob := o) hp
  have f1 : FzL K (upd (upd H p (.lst (ws.map V.str))) p (.frz o (.lst (ws.map V.str)))) p (ws.map V.str) := FzL.frz
  generalize (upd (upd H p (.lst (ws.map V.str))) p (.frz o (.lst (ws.map V.str)))) = H1 at g1 f1
  refine ⟨_, rfl, p, _, rfl, .inl f1.sq, _, rfl, by rw [hlen]; omega, by rw [hlen]; omega, ?_⟩
  rw [hlen, Int.toNat_natCast]
  refine for_range (lo := 0) (n := ws.length) (fun i σ H2 => ∃ v2 : Option V, σ = [some (.str x), some (.ref p), v2, none, none, none] ∧ Grow H H2 ∧ FzL K H2 p (ws.map V.str) ∧ ∀ j, j < i → rightW ws j = true)
    ⟨none, rfl, g1, f1, fun _ h => absurd h (Nat.not_lt_zero _)⟩ ?_ ?_
  · rintro i σ H2 hi ⟨v2, rfl, g2, f2, hj⟩
    refine ⟨_, rfl, _, rfl, rfl, p, ws, i, (by rw [show ((0 : Int) + i) = i by omega]; rfl), f2, hi, hok, fun H3 g3 => ⟨_, rfl, ite2 (fun hb => ?_) fun hb => ?_⟩⟩
    · have hr0 : rightW ws i = false := by simpa using hb
      refine ⟨_, rfl, (by show 1 ≤ 1000; decide), xmade fun d hd => ?_⟩
      refine kE i (badW_some hi hj hr0) d _ ((g2.trans g3).old hd) ?_
      rw [show ((0 : Int) + i) = i by omega]
      exact upd_same
    · have hr1 : rightW ws i = true := by simpa using hb
      refine ⟨_, rfl, g2.trans g3, f2.mono g3.mono, fun j h => ?_⟩
      rcases Nat.lt_succ_iff_lt_or_eq.mp h with h | rfl
      · exact hj j h
      · exact hr1
  rintro σ H2 ⟨v2, rfl, g2, f2, hall⟩
  -- if not is_done(words)
  refine rd_mid (fun σ' H' => σ' = [some (.str x), some (.ref p), v2, none, none, none] ∧ Grow H H' ∧ FzL K H' p (ws.map V.str) ∧ doneW ws = true) ?_ ?_
  · refine ⟨_, rfl, rfl, p, ws, rfl, f2, hw0, fun H3 g3 => ⟨_, rfl, ite2 (fun hb => ?_) fun hb => ?_⟩⟩
    · have hr0 : doneW ws = false := by simpa using hb
      refine ⟨_, rfl, p, _, rfl, .inl (f2.mono g3.mono).sq, (by show 1 ≤ 1000; decide), xmade fun d hd => ?_⟩
      rw [hlen]
      exact kE ws.length (badW_len hall hr0) d _ ((g2.trans g3).old hd) upd_same
    · exact ⟨rfl, g2.trans g3, f2.mono g3.mono, by simpa using hb⟩
  rintro _ H3 ⟨rfl, g3, f3, hd⟩
  have good := badW_none hall hd
  have kk := kQ good
  have eqS : ∀ {u v : Str}, decide (V.str u = V.str v) = true → u = v := fun h => V.str.inj (of_decide_eq_true h)
  have neS : ∀ {u v : Str}, ¬ decide (V.str u = V.str v) = true → ¬ u = v := fun h z => h (decide_eq_true (congrArg V.str z))
  have ix : ∀ {H'} (i : Nat), Grow H3 H' → i < ws.length → SqL K H' p (ws.map V.str) ∧ atI (ws.map V.str) (i : Int) = some (.str (ws.getD i "")) := fun i g hi => ⟨(f3.mono g.mono).sq, ixS hi⟩
  have nm : ∀ i, i < ws.length → i ≠ 0 → ¬(ws.getD 0 "" = "change" ∧ i = 3) → intText? (ws.getD i "") = some (numD (ws.getD i "")) ∧ (ws.getD i "").length ≤ 640 := fun i h1 h2 h3 => numW_text (right_num (hall i h1) h2 h3)
  refine ⟨_, rfl, p, _, 0, _, rfl, rfl, f3.sq, ixS hw0, rfl, _, rfl, ite2 (fun c1 => ?_) fun c1 => ?_⟩
  · -- a change
    have e0 := eqS c1
    have h6 : ws.length = 6 := by
      unfold doneW at hd
      rw [if_pos e0] at hd
      exact of_decide_eq_true hd
    have m1 := nm 1 (by omega) (by decide) (fun z => absurd z.2 (by decide))
    have m2 := nm 2 (by omega) (by decide) (fun z => absurd z.2 (by decide))
    have m4 := nm 4 (by omega) (by decide) (fun z => absurd z.2 (by decide))
    have m5 := nm 5 (by omega) (by decide) (fun z => absurd z.2 (by decide))
    refine ⟨_, rfl, p, _, 1, _, rfl, rfl, f3.sq, ixS (i := 1) (by omega), _, _, rfl, m1.1, m1.2, ?_⟩
    refine ⟨_, rfl, p, _, 2, _, rfl, rfl, f3.sq, ixS (i := 2) (by omega), _, _, rfl, m2.1, m2.2, ?_⟩
    refine ⟨_, rfl, p, _, 3, _, rfl, rfl, f3.sq, ixS (i := 3) (by omega), ?_⟩
    refine ⟨_, rfl, p, _, 4, _, rfl, rfl, f3.sq, ixS (i := 4) (by omega), _, _, rfl, m4.1, m4.2, ?_⟩
    refine ⟨_, rfl, p, _, 5, _, rfl, rfl, f3.sq, ixS (i := 5) (by omega), _, _, rfl, m5.1, m5.2, ⟨(by show 6 ≤ sizeLine; decide), fun t ht => ?_⟩⟩
    refine kk _ _ (g3.old ht) ?_
    unfold letD
    rw [if_pos e0]
    exact .tup upd_same (.cons .str (.cons .int (.cons .int (.cons .str (.cons .int (.cons .int .nil))))))
  have n0 := neS c1
  -- numbers = [int(word) for word in words[1:]]
  refine rd_fz ?_
  refine ⟨_, rfl, _, rfl, p, _, rfl, f3.sq, fun q hq => ?_⟩
  have ecut : cutV (ws.map V.str) (some (1 : Int)) none = (ws.drop 1).map V.str := by
    rw [show (some (1 : Int)) = some ((1 : Nat) : Int) from rfl, cutV_from (by rw [hlen]; omega), List.map_drop]
  rw [ecut]
  have t4 := (Tr.refl H3 []).new (o := .lst ((ws.drop 1).map V.str)) hq nl
  refine ⟨q, rfl, ⟨_, SqL.of upd_same⟩, fun D hD => ?_⟩
  have t5 := t4.new (o := .lst []) hD nl
  refine lc_list (K := K) (a := q) (xs := (ws.drop 1).map V.str) (fun i H4 => Tr H3 [] H4 [(D, .lst ((((ws.drop 1).map numD).take i).map V.int)), (q, .lst ((ws.drop 1).map V.str))]) t5 (fun i H4 _ t => SqL.of t.own.tail.head) ?_ ?_
  · rintro i y H4 hi t
    have hil : i < (ws.drop 1).length := by
      have := (List.getElem?_eq_some_iff.mp hi).1
      simpa using this
    rw [List.length_drop] at hil
    have ey : y = .str (ws.getD (i + 1) "") := by
      rw [List.getElem?_map, List.getElem?_drop, Nat.add_comm 1 i, getD_at (show i + 1 < ws.length by omega)] at hi
      exact (Option.some.inj hi).symm
    subst ey
    have mi := nm (i + 1) (by omega) (by omega) (fun z => n0 z.1)
    refine ⟨rfl, _, rfl, _, _, rfl, mi.1, mi.2, ?_⟩
    refine ⟨_, t.own.head, ?_, ?_⟩
    · rw [List.length_map]
      exact small1000 (by rw [List.length_take, List.length_map, List.length_drop]; omega)
    · have e : ((ws.drop 1).map numD)[i]? = some (numD (ws.getD (i + 1) "")) := by
        rw [List.getElem?_map, List.getElem?_drop, Nat.add_comm 1 i, getD_at (show i + 1 < ws.length by omega)]
        rfl
      rw [take_snoc e, List.map_append]
      exact t.put .nil nl
  rintro H4 t
  rw [List.take_of_length_le (by simp)] at t
  refine ⟨D, _, rfl, t.own.head, fun o2 => ?_⟩
  have g5 := g3.trans ((t.fz (ob := o2) .nil).tail)
  have f5 : FzL K (upd H4 D (.frz o2 (.lst (((ws.drop 1).map numD).map V.int)))) D (((ws.drop 1).map numD).map V.int) := FzL.frz
  have p5 : FzL K (upd H4 D (.frz o2 (.lst (((ws.drop 1).map numD).map V.int)))) p (ws.map V.str) := f3.mono ((t.fz (ob := o2) .nil).mono)
  generalize (upd H4 D (.frz o2 (.lst (((ws.drop 1).map numD).map V.int)))) = H5 at g5 f5 p5
  have hnl : ((ws.drop 1).map numD).length = ws.length - 1 := by rw [List.length_map, List.length_drop]
  generalize hns : (ws.drop 1).map numD = ns at f5 hnl
  have nat_ : ∀ {i : Nat} {z : Int}, ns[i]? = some z → atI (ns.map V.int) (i : Int) = some (.int z) := fun {i z} h => by
    have hi := (List.getElem?_eq_some_iff.mp h).1
    unfold atI
    rw [ixN_nat (by rw [List.length_map]; exact hi)]
    show (ns.map V.int)[i]? = _
    rw [List.getElem?_map, h]
    rfl
  have nsg : ∀ i, i + 1 < ws.length → ns[i]? = some (numD (ws.getD (i + 1) "")) := fun i h => by
    rw [← hns, List.getElem?_map, List.getElem?_drop, Nat.add_comm 1 i, getD_at h]
    rfl
  have nil_ : (ns.map V.int).length = ws.length - 1 := by rw [List.length_map, hnl]
  refine ⟨_, rfl, p, _, 0, _, rfl, rfl, p5.sq, ixS hw0, rfl, _, rfl, ite2 (fun c2 => ?_) fun c2 => ?_⟩
  · -- a beat
    have e0 := eqS c2
    have h3 : 2 < ws.length := by
      unfold doneW at hd
      rw [if_neg n0, if_neg (fun z => beat_ne2 (e0.symm.trans z))] at hd
      exact of_decide_eq_true hd
    refine ⟨_, rfl, D, _, 0, _, rfl, rfl, f5.sq, nat_ (nsg 0 (by omega)), ?_⟩
    refine ⟨_, rfl, _, rfl, D, _, rfl, f5.sq, fun q2 hq2 => ?_⟩
    have ecut2 : cutV (ns.map V.int) (some (1 : Int)) none = (ns.drop 1).map V.int := by
      rw [show (some (1 : Int)) = some ((1 : Nat) : Int) from rfl, cutV_from (by rw [nil_]; omega), List.map_drop]
    rw [ecut2]
    refine ⟨q2, _, rfl, .inl ⟨SqL.of upd_same, fun l hl => ⟨(by show 3 ≤ sizeLine; decide), fun t ht => ?_⟩⟩⟩
    refine kk _ _ (((g5.old hq2).old hl).old ht) ?_
    unfold letD
    rw [if_neg n0, if_pos e0]
    refine .tup upd_same (.cons .str (.cons .int (.cons (.tup ((Mono.new ht) _ _ upd_same trivial) ?_) .nil)))
    have e : (ws.drop 2).map (fun w => PyData.int (numD w)) = (ns.drop 1).map PyData.int := by
      rw [← hns, ← List.map_drop, List.drop_drop, List.map_map]
      rfl
    rw [e]
    exact RpL.of_ints _
  · -- a part
    have n2 := neS c2
    have e0 : ws.getD 0 "" = "part" := by
      have h00 := hall 0 hw0
      unfold rightW at h00
      rw [if_pos rfl] at h00
      unfold kindOk at h00
      simp only [Bool.or_eq_true, beq_iff_eq] at h00
      rcases h00 with (h | h) | h
      · exact absurd h n0
      · exact h
      · exact absurd h n2
    have h4 : 4 < ws.length ∧ ws.length % 2 = 1 := by
      unfold doneW at hd
      rw [if_neg n0, if_pos e0] at hd
      simpa using hd
    obtain ⟨r, er⟩ : ∃ r, ws.length = 2 * r + 3 := ⟨(ws.length - 3) / 2, by omega⟩
    refine ⟨_, rfl, D, _, rfl, .inl f5.sq, 2, ((2 + 2 * r : Nat) : Int), 2, r, ?_, rg2 2 r (by decide) (by omega), fun D2 hD2 => ?_⟩
    · rw [nil_, show ws.length - 1 = 2 + 2 * r by omega]
    refine lc_it (walk_rangeC (lo := 2) (c := 2) (n := r)) (fun i H6 => ∃ xs, Tr H5 [] H6 [(D2, .lst xs)] ∧ RpL K H6 (((pairs (ns.drop 2)).take i).map fun r => PyData.tuple [.int r.1, .int r.2]) xs)
      ⟨[], (Tr.refl H5 []).new hD2 nl, .nil⟩ (fun _ _ _ _ => trivial) ?_ ?_
    · rintro i v H6 H7 hi ⟨xs, t6, rx⟩ ⟨rfl, rfl⟩
      have f6 := f5.mono t6.mono
      have a1 := nsg (2 + 2 * i) (by omega)
      have a2 := nsg (2 + 2 * i + 1) (by omega)
      have ea : ((2 : Int) + (i : Nat) * 2) = ((2 + 2 * i : Nat) : Int) := by omega
      have eb : ((2 : Int) + (i : Nat) * 2) + 1 = ((2 + 2 * i + 1 : Nat) : Int) := by omega
      refine ⟨rfl, ?_⟩
      refine ⟨_, rfl, _, rfl, D, _, _, _, rfl, rfl, f6.sq, (by rw [ea]; exact nat_ a1), ?_⟩
      refine ⟨_, rfl, _, rfl, _, _, rfl, rfl, D, _, _, _, rfl, rfl, f6.sq, (by rw [eb]; exact nat_ a2), ⟨(by show 2 ≤ sizeLine; decide), fun t ht => ?_⟩⟩
      obtain ⟨s3, r3⟩ := snoc_tup (K := K) (ds := [.int (numD (ws.getD (2 + 2 * i + 1) "")), .int (numD (ws.getD (2 + 2 * i + 1 + 1) ""))]) t6.own ht (.cons .int (.cons .int .nil))
      have ep : (pairs (ns.drop 2))[i]? = some (numD (ws.getD (2 + 2 * i + 1) ""), numD (ws.getD (2 + 2 * i + 1 + 1) "")) := pairs_get (by rw [List.getElem?_drop]; exact a1) (by rw [List.getElem?_drop]; exact a2)
      have hx : xs.length ≤ 1000 := by rw [rx.length, List.length_map, List.length_take]; omega
      refine ⟨xs, by rw [upd_ne (ne_of_none t6.own.head ht)]; exact t6.own.head, small1000 hx, xs ++ [.ref t], t6.trans s3, ?_⟩
      rw [take_snoc ep, List.map_append]
      exact (rx.mono s3.mono).snoc r3
    · rintro H6 ⟨xs, t6, rx⟩
      rw [List.take_of_length_le (by rw [pairs_len, List.length_drop, hnl]; omega)] at rx
      have f6 := f5.mono t6.mono
      refine ⟨_, rfl, D, _, 0, _, rfl, rfl, f6.sq, nat_ (nsg 0 (by omega)), ?_⟩
      refine ⟨_, rfl, D, _, 1, _, rfl, rfl, f6.sq, nat_ (i := 1) (nsg 1 (by omega)), ?_⟩
      refine ⟨_, rfl, D2, _, rfl, .inl ⟨SqL.of t6.own.head, fun l hl => ⟨(by show 4 ≤ sizeLine; decide), fun t ht => ?_⟩⟩⟩
      refine kk _ _ (g5.trans ((t6.old hl).old ht).tail) ?_
      unfold letD
      rw [if_neg n0, if_neg n2]
      refine .tup upd_same (.cons .str (.cons .int (.cons .int (.cons (.tup ((Mono.new ht) _ _ upd_same trivial) ?_) .nil))))
      have e : (ws.drop 3).map numD = ns.drop 2 := by
        rw [← hns, ← List.map_drop, List.drop_drop]
      rw [e]
      exact rx.mono ((Mono.new hl).trans (Mono.new ht))
end
end Cu

namespace Cu
open PySem PySem.Spec PyProof.Rows L2
open TL (tl)
def numsL : Letter → List Int
  | .change _ _ _ => []
  | .part n b rows => n :: b :: flatR rows
  | .beat n ls => n :: ls.map fun k : Nat => (k : Int)
theorem flatR_append (a b : List (Int × Nat)) : flatR (a ++ b) = flatR a ++ flatR b := by
  induction a with
  | nil => rfl
  | cons r a ih => simp only [List.cons_append, flatR, ih]
theorem Tr.over {H H1 H2 : Hp} {C C1 O : Lg} (t : Tr H C H1 C1) (u : Tr H1 [] H2 O) : Tr H C H2 (O ++ C1) := t.trans (by simpa using u.right (D := C1))
theorem at0 {x : V} {xs : List V} : atI (x :: xs) 0 = some x := by
  show ((ixN (xs.length + 1) ((0 : Nat) : Int)).bind fun j => (x :: xs)[j]?) = _
  rw [ixN_nat (by omega)]
  rfl
theorem slog {i : Int} (h1 : -1000000000 < i) (h2 : i < 1000000000) : i.natAbs.log2 < 1920 := by
  by_cases h : i.natAbs = 0
  · rw [h]
    decide
  · have : i.natAbs.log2 < 64 := (Nat.log2_lt h).mpr (by
      have : (2 : Nat) ^ 64 = 18446744073709551616 := by decide
      omega)
    omega
theorem join_sz {ys : List Str} (h : ∀ w ∈ ys, w.length ≤ 10) (hl : ys.length ≤ 100) : (ys.map (·.length)).sum + ys.length * (Str.length " ") ≤ 16777216 := by
  have : (ys.map (·.length)).sum ≤ 10 * ys.length := by
    clear hl
    induction ys with
    | nil => simp
    | cons y ys ih =>
      have h1 := h y List.mem_cons_self
      have h2 := ih fun w hw => h w (List.mem_cons_of_mem _ hw)
      simp only [List.map_cons, List.sum_cons, List.length_cons]
      omega
  have e : Str.length " " = 1 := by decide +kernel
  rw [e]
  omega
abbrev s_numbers_of : Stmt := (top 8)
theorem sc_numbers_of : FnScope ["letter", "found", "row"] ["letter"] (defScope s_numbers_of) := ⟨rfl, rfl, rfl, by decide +kernel, rfl, by decide +kernel, by decide +kernel⟩

abbrev s_written : Stmt := (top 9)
theorem sc_written : FnScope ["letter", "part", "number"] ["letter"] (defScope s_written) := ⟨rfl, rfl, rfl, by decide +kernel, rfl, by decide +kernel, by decide +kernel⟩

def spNums (K : PySem.W.Frag) : Sp := fun vs H Q _ => vs.length = 1 ∧ ∃ (v : V) (l : Letter), vs = [v] ∧ Rp K H l.enc v ∧ Small l ∧ (∀ n c a, l ≠ .change n c a) ∧ ∀ p H', Tr H [] H' [(p, .lst ((numsL l).map V.int))] → Q (.ref p) H'
def spText (K : PySem.W.Frag) : Sp := fun vs H Q _ => vs.length = 1 ∧ ∃ (v : V) (l : Letter), vs = [v] ∧ Rp K H l.enc v ∧ Small l ∧ ∀ H', Grow H H' → Q (.str (textL l)) H'
section
variable {P : Program} {w : World} {K : PySem.W.Frag} {mg : Str → Option Value} {base : Heap}
theorem ok_numbers_of (F : Fd K mg "numbers_of" s_numbers_of) (Bm : Blt mg) : Gf P w K mg base 1 "numbers_of" ["letter"] (spNums K) := by
  refine F.ok sc_numbers_of (fun _ _ _ _ _ _ us hl => match us, hl with | [_], _ => rfl) len_of fun qual f cdv A0 outer s H vs Q E hr h => ?_
  obtain ⟨_, v, l, rfl, hv, hs, hc, k⟩ := h
  refine ⟨_, (pss_cons (ps_if (pt_cmpR op_eq (pe_ix ix_tup (pv 0) pe_int (fun _ _ => rfl)) pe_str (nomark _))
        (pss_one (ps_ret (pe_op op_cat (pe_lst (pa_cons (pe_ix ix_tup (pv 0) pe_int (fun _ _ => rfl)) pa_nil)) (pe_callTy call_list_of rfl Bm.list (by decide +kernel) (pa_cons (pe_ix ix_tup (pv 0) pe_int (fun _ _ => rfl)) pa_nil)))))
        pss_nil)
      (pss_cons (ps_set (i := 1) sc_numbers_of.nd rfl (Or.inl rfl) (pe_lst (pa_cons (pe_ix ix_tup (pv 0) pe_int (fun _ _ => rfl)) (pa_cons (pe_ix ix_tup (pv 0) pe_int (fun _ _ => rfl)) pa_nil))))
      (pss_cons (ps_for PassesOwn.never rfl (pi_tup (pe_ix ix_tup (pv 0) pe_int (fun _ _ => rfl))) (pg_name (i := 2) sc_numbers_of.nd rfl (Or.inl rfl))
        (pss_one (ps_expr (pe_bm PySem.F.plainAttrs_list PySem.F.slot_list_extend PySem.F.type_list_extend mt_extend (pv 1) (pa_cons (pe_callTy call_list_of rfl Bm.list (by decide +kernel) (pa_cons (pv 2) pa_nil)) pa_nil)))))
      (pss_one (ps_ret (pv 1)))))), ?_⟩
  cases l with
  | change n c a => exact absurd rfl (hc n c a)
  | beat n ls =>
    obtain ⟨a, t, rfl, ha, ht⟩ := hv.beat_inv
    obtain ⟨_, _, h8, _⟩ := hs
    refine ⟨_, rfl, a, _, 0, _, rfl, rfl, SqT.of ha, rfl, rfl, _, rfl, iteP (by decide +kernel) ?_⟩
    refine ⟨_, rfl, a, _, 1, _, rfl, rfl, SqT.of ha, rfl, ⟨(by show 1 ≤ sizeLine; decide), fun p hp => ?_⟩⟩
    have t1 := (Tr.refl H []).new (o := .lst [.int (n : Int)]) hp nl
    refine ⟨_, rfl, a, _, 2, _, rfl, rfl, SqT.of (t1.mono _ _ ha trivial), rfl, t, _, rfl, .inr (SqT.of (t1.mono _ _ ht trivial)), fun q hq => ?_⟩
    have t2 := t1.new (o := .lst (ls.map fun k : Nat => V.int k)) hq nl
    refine ⟨p, q, _, _, rfl, rfl, t2.own.tail.head, t2.own.head, ?_, fun r hr2 => ?_⟩
    · rw [List.length_map]
      exact Nat.le_trans (show 1 + ls.length ≤ 1000 by omega) (by decide)
    · have t3 := t2.new (o := .lst ([.int (n : Int)] ++ ls.map fun k : Nat => V.int k)) hr2 nl
      refine k r _ ?_
      have e : (numsL (.beat n ls)).map V.int = [.int (n : Int)] ++ ls.map fun k : Nat => V.int k := by
        show V.int n :: (ls.map fun k : Nat => (k : Int)).map V.int = _
        rw [List.map_map]
        rfl
      rw [e]
      exact t3.sub (List.Sublist.cons_cons _ (List.nil_sublist _))
  | part n b rows =>
    obtain ⟨a, t, xs, rfl, ha, ht, hxs, hrow⟩ := hv.part_inv
    obtain ⟨_, _, _, h8, _⟩ := hs
    refine ⟨_, rfl, a, _, 0, _, rfl, rfl, SqT.of ha, rfl, rfl, _, rfl, iteM (by decide +kernel) ?_⟩
    refine ⟨_, rfl, a, _, 1, _, rfl, rfl, SqT.of ha, rfl, _, rfl, a, _, 2, _, rfl, rfl, SqT.of ha, rfl, ⟨(by show 2 ≤ sizeLine; decide), fun p hp => ?_⟩⟩
    have t1 := (Tr.refl H []).new (o := .lst [.int (n : Int), .int (b : Int)]) hp nl
    refine ⟨_, rfl, a, _, 3, _, rfl, rfl, SqT.of (t1.mono _ _ ha trivial), rfl, t, rfl, ⟨_, SqT.of (t1.mono _ _ ht trivial)⟩, ?_⟩
    refine for_tup (K := K) (a := t) (xs := xs) (fun i σ H2 => ∃ v2 : Option V, σ = [some (.ref a), some (.ref p), v2] ∧ Tr H [] H2 [(p, .lst (((n : Int) :: (b : Int) :: flatR (rows.take i)).map V.int))])
      ⟨none, rfl, t1⟩ (fun i σ H2 _ ⟨_, _, t2⟩ => SqT.of (t2.mono _ _ ht trivial)) ?_ ?_
    · rintro i y σ H2 hi ⟨v2, rfl, t2⟩
      have hi' : i < rows.length := by
        have := (List.getElem?_eq_some_iff.mp hi).1
        omega
      obtain ⟨r, er⟩ : ∃ r, rows[i]? = some r := ⟨rows[i], List.getElem?_eq_getElem hi'⟩
      obtain ⟨q, hq, hq2⟩ := hrow i r er
      rw [hi] at hq
      cases hq
      refine ⟨_, rfl, .inl ⟨rfl, _, SqL.of t2.own.head⟩, _, rfl, q, _, rfl, .inr (SqT.of (t2.mono _ _ hq2 trivial)), fun m hm => ?_⟩
      have t3 := t2.new (o := .lst [.int r.1, .int (r.2 : Int)]) hm nl
      have hfl : (flatR (rows.take i)).length ≤ 20 := by rw [flatR_len, List.length_take]; omega
      refine ⟨p, m, _, _, rfl, rfl, t3.own.tail.head, t3.own.head, ?_, ?_⟩
      · simp only [List.length_map, List.length_cons, List.length_nil]
        exact Nat.le_trans (show _ ≤ 1000 by omega) (by decide)
      · refine ⟨_, rfl, ?_⟩
        rw [take_snoc er, flatR_append]
        have e : ((n : Int) :: (b : Int) :: (flatR (rows.take i) ++ flatR [r])).map V.int = ((n : Int) :: (b : Int) :: flatR (rows.take i)).map V.int ++ [.int r.1, .int (r.2 : Int)] := by
          simp [flatR]
        rw [e]
        exact (t3.swap2.put .nil nl).sub (List.Sublist.cons_cons _ (List.nil_sublist _))
    · rintro σ H2 ⟨v2, rfl, t2⟩
      rw [hxs, List.take_of_length_le (Nat.le_refl _)] at t2
      exact ⟨_, rfl, k p H2 t2⟩
theorem ok_written (F : Fd K mg "written" s_written) (Bm : Blt mg) (g_numbers_of : Gf P w K mg base 1 "numbers_of" ["letter"] (spNums K)) : Gf P w K mg base 2 "written" ["letter"] (spText K) := by
  refine F.ok sc_written (fun _ _ _ _ _ _ us hl => match us, hl with | [_], _ => rfl) len_of fun qual f cdv A0 outer s H vs Q E hr h => ?_
  obtain ⟨_, v, l, rfl, hv, hs, k⟩ := h
  refine ⟨_, (pss_cons (ps_if (pt_cmpR op_eq (pe_ix ix_tup (pv 0) pe_int (fun _ _ => rfl)) pe_str (nomark _))
        (pss_one (ps_ret (pe_join pe_str (pe_lc (own := [("part", 1)]) (g := (gName 1)) (tt := tYes) rfl sc_written.nd (pi_tup (pv 0)) (blkOk_by (N := ["letter", "part", "number"]) (sc := defScope s_written) (by decide +kernel)) (fun _ _ _ _ _ => (pg_name (i := 1) sc_written.nd rfl (Or.inl rfl))) (fun _ _ _ _ _ => pts_nil) (fun _ _ _ _ _ => (pe_callTy call_str_any rfl Bm.str (by decide +kernel) (pa_cons (pv 1) pa_nil)))))))
        pss_nil)
      (pss_one (ps_ret (pe_join pe_str (pe_op op_cat (pe_lst (pa_cons (pe_ix ix_tup (pv 0) pe_int (fun _ _ => rfl)) pa_nil)) (pe_lc (own := [("number", 2)]) (g := (gName 2)) (tt := tYes) rfl sc_written.nd (pi_list (pc g_numbers_of hr (pa_cons (pv 0) pa_nil))) (blkOk_by (N := ["letter", "part", "number"]) (sc := defScope s_written) (by decide +kernel)) (fun _ _ _ _ _ => (pg_name (i := 2) sc_written.nd rfl (Or.inl rfl))) (fun _ _ _ _ _ => pts_nil) (fun _ _ _ _ _ => (pe_callTy call_str_int rfl Bm.str (by decide +kernel) (pa_cons (pv 2) pa_nil))))))))), ?_⟩
  have hl := wordsL_len hs
  have hw := wordsL_small hs
  -- a part or a beat
  have oth : (∀ n c a, l ≠ .change n c a) → ∃ (a : Addr) (w0 : Str) (x0 : List V), v = .ref a ∧ H a = some (.tup (.str w0 :: x0)) ∧ ¬ w0 = "change" ∧ wordsL l = w0 :: (numsL l).map nS ∧ ∀ z ∈ numsL l, -1000000000 < z ∧ z < 1000000000 := fun hc => by
    cases l with
    | change n c a => exact absurd rfl (hc n c a)
    | part n b rows =>
      obtain ⟨a, t, xs, rfl, ha, _⟩ := hv.part_inv
      obtain ⟨h1, h2, _, _, h5⟩ := hs
      refine ⟨a, _, _, rfl, ha, part_ne, rfl, fun z hz => ?_⟩
      simp only [numsL, List.mem_cons] at hz
      rcases hz with rfl | rfl | hz
      · omega
      · omega
      · exact flatR_small h5 z hz
    | beat n ls =>
      obtain ⟨a, t, rfl, ha, _⟩ := hv.beat_inv
      obtain ⟨h1, _, _, h5⟩ := hs
      refine ⟨a, _, _, rfl, ha, beat_ne, ?_, fun z hz => ?_⟩
      · show ("beat" : Str) :: nS n :: ls.map (fun k : Nat => nS k) = ("beat" : Str) :: nS n :: ((ls.map fun k : Nat => (k : Int)).map nS)
        rw [List.map_map]
        rfl
      · simp only [numsL, List.mem_cons] at hz
        rcases hz with rfl | hz
        · omega
        · obtain ⟨k, hk, rfl⟩ := List.mem_map.mp hz
          have := h5 k hk
          omega
  by_cases hch : ∀ n c a, l ≠ .change n c a
  · obtain ⟨a, w0, x0, rfl, ha, hne, ew, hz⟩ := oth hch
    have hll : (numsL l).length ≤ 20 := by
      have := hl.2
      rw [ew, List.length_cons, List.length_map] at this
      omega
    refine ⟨_, rfl, a, _, 0, _, rfl, rfl, SqT.of ha, at0, rfl, _, rfl, iteM (fun z => hne (V.str.inj (of_decide_eq_true z))) ?_⟩
    refine ⟨⟨" ", rfl⟩, _, rfl, a, _, 0, _, rfl, rfl, SqT.of ha, at0, ⟨(by show 1 ≤ sizeLine; decide), fun p hp => ?_⟩⟩
    have t1 := (Tr.refl H []).new (o := .lst [.str w0]) hp nl
    refine ⟨_, rfl, rfl, _, l, rfl, hv.mono t1.mono, hs, hch, fun q H2 u2 => ?_⟩
    have t2 : Tr H [] H2 [(q, .lst ((numsL l).map V.int)), (p, .lst [.str w0])] := t1.over u2
    refine ⟨q, rfl, ⟨_, SqL.of t2.own.head⟩, fun D hD => ?_⟩
    refine lc_list (K := K) (a := q) (xs := (numsL l).map V.int) (fun i H3 => Tr H [] H3 [(D, .lst ((((numsL l).map nS).take i).map V.str)), (q, .lst ((numsL l).map V.int)), (p, .lst [.str w0])]) (t2.new hD nl) (fun i H3 _ t => SqL.of t.own.tail.head) ?_ ?_
    · intro i y H3 hi t
      obtain ⟨z, ez, rfl⟩ := int_get hi
      have hzz := hz z (List.mem_of_getElem? ez)
      refine ⟨rfl, _, rfl, z, rfl, slog hzz.1 hzz.2, ?_⟩
      refine ⟨_, t.own.head, ?_, ?_⟩
      · rw [List.length_map]
        exact small1000 (by rw [List.length_take, List.length_map]; omega)
      · rw [take_snoc (x := nS z) (by rw [List.getElem?_map, ez]; rfl), List.map_append]
        exact t.put .nil nl
    · intro H3 t
      rw [List.take_of_length_le (by rw [List.length_map, List.length_map]; exact Nat.le_refl _)] at t
      refine ⟨p, D, _, _, rfl, rfl, t.own.tail.tail.head, t.own.head, ?_, fun r hr2 => ?_⟩
      · rw [List.length_map, List.length_map]
        exact Nat.le_trans (show 1 + (numsL l).length ≤ 1000 by omega) (by decide)
      · have t4 := t.new (o := .lst ([.str w0] ++ ((numsL l).map nS).map V.str)) hr2 nl
        have e : [V.str w0] ++ ((numsL l).map nS).map V.str = (wordsL l).map V.str := by rw [ew]; rfl
        refine ⟨" ", r, wordsL l, rfl, rfl, .inl (SqL.of (by rw [← e]; exact t4.own.head)), join_sz hw (by omega), ?_⟩
        exact k _ t4.tail.tail.tail.tail
  cases l with
  | change n c ahead =>
    obtain ⟨a, rfl, ha⟩ := hv.chg_inv
    obtain ⟨h1, h2, h3, h4, h5⟩ := hs
    refine ⟨_, rfl, a, _, 0, _, rfl, rfl, SqT.of ha, rfl, rfl, _, rfl, iteP (by decide +kernel) ?_⟩
    refine ⟨⟨" ", rfl⟩, _, rfl, a, rfl, ⟨_, SqT.of ha⟩, fun D hD => ?_⟩
    refine lc_tup (K := K) (a := a) (xs := _) (fun i H2 => Tr H [] H2 [(D, .lst (((wordsL (.change n c ahead)).take i).map V.str))]) ((Tr.refl H []).new hD nl) (fun i H2 _ t => SqT.of (t.mono _ _ ha trivial)) ?_ ?_
    · intro i y H2 hi t
      have hw' : ∃ w : Str, (wordsL (.change n c ahead))[i]? = some w ∧ ((∃ z : Int, y = .int z ∧ -1000000000 < z ∧ z < 1000000000 ∧ w = nS z) ∨ y = .str w) := by
        match i, hi with
        | 0, hi => exact ⟨_, rfl, .inr (Option.some.inj hi).symm⟩
        | 1, hi => exact ⟨_, rfl, .inl ⟨n, (Option.some.inj hi).symm, by omega, by omega, rfl⟩⟩
        | 2, hi => exact ⟨_, rfl, .inl ⟨c.key, (Option.some.inj hi).symm, by omega, by omega, rfl⟩⟩
        | 3, hi => exact ⟨_, rfl, .inr (Option.some.inj hi).symm⟩
        | 4, hi => exact ⟨_, rfl, .inl ⟨c.worth, (Option.some.inj hi).symm, h3, h4, rfl⟩⟩
        | 5, hi => exact ⟨_, rfl, .inl ⟨ahead, (Option.some.inj hi).symm, by omega, by omega, rfl⟩⟩
        | i + 6, hi => simp at hi
      obtain ⟨w0, ew, hy⟩ := hw'
      have fin : ∃ acc, H2 D = some (.lst acc) ∧ acc.length < sizeLine ∧ Tr H [] (upd H2 D (.lst (acc ++ [V.str w0]))) [(D, .lst (((wordsL (.change n c ahead)).take (i + 1)).map V.str))] := by
        refine ⟨_, t.own.head, ?_, ?_⟩
        · rw [List.length_map]
          exact small1000 (by rw [List.length_take]; omega)
        · rw [take_snoc ew, List.map_append]
          exact t.put .nil nl
      rcases hy with ⟨z, rfl, z1, z2, rfl⟩ | rfl
      · exact ⟨rfl, _, rfl, .inl ⟨z, rfl, slog z1 z2, fin⟩⟩
      · exact ⟨rfl, _, rfl, .inr ⟨_, rfl, fin⟩⟩
    · intro H2 t
      replace t : Tr H [] H2 [(D, .lst ((wordsL (.change n c ahead)).map V.str))] := t
      refine ⟨" ", D, wordsL (.change n c ahead), rfl, rfl, .inl (SqL.of t.own.head), join_sz hw (by omega), ?_⟩
      exact k H2 t.tail
  | part n b rows => exact absurd (fun _ _ _ z => nomatch z) hch
  | beat n ls => exact absurd (fun _ _ _ z => nomatch z) hch
end
end Cu

namespace Cu
open PySem PySem.Spec PyProof.Rows L2
open TL (tl)
abbrev s_text : Stmt := (top 27)
theorem sc_text : FnScope ["_law_letter", "_law_words", "_law_worth_here", "_law_last"] ["_law_letter"] (defScope s_text) := ⟨rfl, rfl, rfl, by decide +kernel, rfl, by decide +kernel, by decide +kernel⟩

section
variable {P : Program} {w : World} {K : PySem.W.Frag} {mg : Str → Option Value} {base : Heap}
theorem ok_text (F : Fd K mg "_law_text" s_text) (Bm : Blt mg) : Gf P w K mg base 1 "_law_text" ["_law_letter"] (spText K) := by
  refine F.ok sc_text (fun _ _ _ _ _ _ us hl => match us, hl with | [_], _ => rfl) len_of fun qual f cdv A0 outer s H vs Q E hr h => ?_
  obtain ⟨_, v, l, rfl, hv, hs, k⟩ := h
  refine ⟨_, (pss_cons (ps_set (i := 1) sc_text.nd rfl (Or.inl rfl) (pe_lst (pa_cons (pe_ix ix_tup (pv 0) pe_int (fun _ _ => rfl)) (pa_cons (pe_callTy call_str_int rfl Bm.str (by decide +kernel) (pa_cons (pe_ix ix_tup (pv 0) pe_int (fun _ _ => rfl)) pa_nil)) pa_nil))))
      (pss_cons (ps_if (pt_cmpR op_eq (pe_ix ix_tup (pv 0) pe_int (fun _ _ => rfl)) pe_str (nomark _))
        (pss_one (ps_ret (pe_join pe_str (pe_op op_cat (pv 1) (pe_lc (own := [("_law_last", 3)]) (g := (gName 3)) (tt := tYes) rfl sc_text.nd (pi_tup (pe_ix ix_tup (pv 0) pe_int (fun _ _ => rfl))) (blkOk_by (N := ["_law_letter", "_law_words", "_law_worth_here", "_law_last"]) (sc := defScope s_text) (by decide +kernel)) (fun _ _ _ _ _ => (pg_name (i := 3) sc_text.nd rfl (Or.inl rfl))) (fun _ _ _ _ _ => pts_nil) (fun _ _ _ _ _ => (pe_callTy call_str_int rfl Bm.str (by decide +kernel) (pa_cons (pv 3) pa_nil))))))))
        pss_nil)
      (pss_cons (ps_expr (pe_bm PySem.F.plainAttrs_list PySem.F.slot_list_append PySem.F.type_list_append mt_append (pv 1) (pa_cons (pe_callTy call_str_any rfl Bm.str (by decide +kernel) (pa_cons (pe_ix ix_tup (pv 0) pe_int (fun _ _ => rfl)) pa_nil)) pa_nil)))
      (pss_cons (ps_if (pt_cmpR op_eq (pe_ix ix_tup (pv 0) pe_int (fun _ _ => rfl)) pe_str (nomark _))
        (pss_one (ps_ret (pe_join pe_str (pe_op op_cat (pv 1) (pe_lst (pa_cons (pe_ix ix_tup (pv 0) pe_int (fun _ _ => rfl)) (pa_cons (pe_callTy call_str_int rfl Bm.str (by decide +kernel) (pa_cons (pe_ix ix_tup (pv 0) pe_int (fun _ _ => rfl)) pa_nil)) (pa_cons (pe_callTy call_str_int rfl Bm.str (by decide +kernel) (pa_cons (pe_ix ix_tup (pv 0) pe_int (fun _ _ => rfl)) pa_nil)) pa_nil))))))))
        pss_nil)
      (pss_cons (ps_for PassesOwn.never rfl (pi_tup (pe_ix ix_tup (pv 0) pe_int (fun _ _ => rfl))) (pg_tup rfl (pgs_cons (pg_name (i := 2) sc_text.nd rfl (Or.inl rfl)) (pgs_cons (pg_name (i := 3) sc_text.nd rfl (Or.inl rfl)) pgs_nil)))
        (pss_one (ps_set (i := 1) sc_text.nd rfl (Or.inl rfl) (pe_op op_cat (pv 1) (pe_lst (pa_cons (pe_callTy call_str_int rfl Bm.str (by decide +kernel) (pa_cons (pv 2) pa_nil)) (pa_cons (pe_callTy call_str_int rfl Bm.str (by decide +kernel) (pa_cons (pv 3) pa_nil)) pa_nil)))))))
      (pss_one (ps_ret (pe_join pe_str (pv 1))))))))), ?_⟩
  have hl := wordsL_len hs
  have hw := wordsL_small hs
  cases l with
  | change n c ahead =>
    obtain ⟨a, rfl, ha⟩ := hv.chg_inv
    obtain ⟨h1, h2, h3, h4, h5⟩ := hs
    refine ⟨_, rfl, a, _, 0, _, rfl, rfl, SqT.of ha, rfl, _, rfl, a, _, 1, _, rfl, rfl, SqT.of ha, rfl, (n : Int), rfl, slog (by omega) (by omega), ⟨(by show 2 ≤ sizeLine; decide), fun p hp => ?_⟩⟩
    have t1 := (Tr.refl H []).new (o := .lst [.str "change", .str (nS n)]) hp nl
    have a1 := SqT.of (K := K) (t1.mono _ _ ha trivial)
    refine ⟨_, rfl, a, _, 0, _, rfl, rfl, a1, rfl, rfl, _, rfl, iteM (by decide +kernel) ?_⟩
    refine ⟨_, rfl, .inl ⟨rfl, _, SqL.of t1.own.head⟩, _, rfl, a, _, 2, _, rfl, rfl, a1, rfl, .inl ⟨(c.key : Int), rfl, slog (by omega) (by omega), _, _, _, rfl, rfl, t1.own.head, (by show 2 < sizeLine; decide), ?_⟩⟩
    have t2 := t1.put (o' := .lst ([.str "change", .str (nS n)] ++ [.str (nS c.key)])) .nil nl
    have a2 := SqT.of (K := K) (t2.mono _ _ ha trivial)
    refine ⟨_, rfl, a, _, 0, _, rfl, rfl, a2, rfl, rfl, _, rfl, iteP (by decide +kernel) ?_⟩
    refine ⟨⟨" ", rfl⟩, _, rfl, _, rfl, a, _, 3, _, rfl, rfl, a2, rfl, ?_⟩
    refine ⟨_, rfl, a, _, 4, _, rfl, rfl, a2, rfl, c.worth, rfl, slog h3 h4, ?_⟩
    refine ⟨_, rfl, a, _, 5, _, rfl, rfl, a2, rfl, (ahead : Int), rfl, slog (by omega) (by omega), ⟨(by show 3 ≤ sizeLine; decide), fun q hq => ?_⟩⟩
    have t3 := t2.new (o := .lst [.str (wd c.set), .str (nS c.worth), .str (nS ahead)]) hq nl
    refine ⟨p, q, _, _, rfl, rfl, t3.own.tail.head, t3.own.head, (by show 6 ≤ sizeLine; decide), fun r hr2 => ?_⟩
    have t4 := t3.new (o := .lst (([.str "change", .str (nS n)] ++ [.str (nS c.key)]) ++ [.str (wd c.set), .str (nS c.worth), .str (nS ahead)])) hr2 nl
    refine ⟨" ", r, wordsL (.change n c ahead), rfl, rfl, .inl (SqL.of t4.own.head), join_sz hw (by omega), k _ t4.tail.tail.tail⟩
  | part n b rows =>
    obtain ⟨a, t, xs, rfl, ha, ht, hxs, hrow⟩ := hv.part_inv
    obtain ⟨h1, h2, _, h8, h5⟩ := hs
    refine ⟨_, rfl, a, _, 0, _, rfl, rfl, SqT.of ha, rfl, _, rfl, a, _, 1, _, rfl, rfl, SqT.of ha, rfl, (n : Int), rfl, slog (by omega) (by omega), ⟨(by show 2 ≤ sizeLine; decide), fun p hp => ?_⟩⟩
    have t1 := (Tr.refl H []).new (o := .lst [.str "part", .str (nS n)]) hp nl
    have a1 := SqT.of (K := K) (t1.mono _ _ ha trivial)
    refine ⟨_, rfl, a, _, 0, _, rfl, rfl, a1, rfl, rfl, _, rfl, iteM (by decide +kernel) ?_⟩
    refine ⟨_, rfl, .inl ⟨rfl, _, SqL.of t1.own.head⟩, _, rfl, a, _, 2, _, rfl, rfl, a1, rfl, .inl ⟨(b : Int), rfl, slog (by omega) (by omega), _, _, _, rfl, rfl, t1.own.head, (by show 2 < sizeLine; decide), ?_⟩⟩
    have t2 := t1.put (o' := .lst ([.str "part", .str (nS n)] ++ [.str (nS b)])) .nil nl
    have a2 := SqT.of (K := K) (t2.mono _ _ ha trivial)
    refine ⟨_, rfl, a, _, 0, _, rfl, rfl, a2, rfl, rfl, _, rfl, iteM (by decide +kernel) ?_⟩
    refine ⟨_, rfl, a, _, 3, _, rfl, rfl, a2, rfl, t, rfl, ⟨_, SqT.of (t2.mono _ _ ht trivial)⟩, ?_⟩
    refine for_tup (K := K) (a := t) (xs := xs) (fun i σ H2 => ∃ (p : Addr) (v2 v3 : Option V), σ = [some (.ref a), some (.ref p), v2, v3] ∧ Tr H [] H2 [(p, .lst ((("part" : Str) :: nS n :: nS b :: (flatR (rows.take i)).map nS).map V.str))])
      ⟨p, none, none, rfl, t2⟩ (fun i σ H2 _ ⟨_, _, _, _, t2⟩ => SqT.of (t2.mono _ _ ht trivial)) ?_ ?_
    · rintro i y σ H2 hi ⟨p, v2, v3, rfl, t2⟩
      have hi' : i < rows.length := by
        have := (List.getElem?_eq_some_iff.mp hi).1
        omega
      obtain ⟨r, er⟩ : ∃ r, rows[i]? = some r := ⟨rows[i], List.getElem?_eq_getElem hi'⟩
      obtain ⟨q, hq, hq2⟩ := hrow i r er
      rw [hi] at hq
      cases hq
      have hr5 := h5 r (List.mem_of_getElem? er)
      refine ⟨q, _, rfl, SqT.of (t2.mono _ _ hq2 trivial), rfl, _, _, rfl, _, _, rfl, rfl, ?_⟩
      refine ⟨_, rfl, _, rfl, r.1, rfl, slog hr5.1 hr5.2.1, _, rfl, (r.2 : Int), rfl, slog (by omega) (by omega), ⟨(by show 2 ≤ sizeLine; decide), fun m hm => ?_⟩⟩
      have t3 := t2.new (o := .lst [.str (nS r.1), .str (nS r.2)]) hm nl
      have hfl : (flatR (rows.take i)).length ≤ 20 := by rw [flatR_len, List.length_take]; omega
      refine ⟨p, m, _, _, rfl, rfl, t3.own.tail.head, t3.own.head, ?_, fun p2 hp2 => ?_⟩
      · simp only [List.length_map, List.length_cons, List.length_nil]
        exact Nat.le_trans (show _ ≤ 1000 by omega) (by decide)
      · refine ⟨p2, _, _, rfl, ?_⟩
        rw [take_snoc er, flatR_append]
        have e : ((("part" : Str) :: nS n :: nS b :: (flatR (rows.take i) ++ flatR [r]).map nS).map V.str) = (("part" : Str) :: nS n :: nS b :: (flatR (rows.take i)).map nS).map V.str ++ [.str (nS r.1), .str (nS r.2)] := by
          simp [flatR]
        rw [e]
        exact (t3.new (o := .lst ((("part" : Str) :: nS n :: nS b :: (flatR (rows.take i)).map nS).map V.str ++ [.str (nS r.1), .str (nS r.2)])) hp2 nl).sub (List.Sublist.cons_cons _ (List.nil_sublist _))
    · rintro σ H2 ⟨p, v2, v3, rfl, t2⟩
      rw [hxs, List.take_of_length_le (Nat.le_refl _)] at t2
      refine ⟨⟨" ", rfl⟩, _, rfl, " ", p, wordsL (.part n b rows), rfl, rfl, .inl (SqL.of t2.own.head), join_sz hw (by omega), k _ t2.tail⟩
  | beat n ls =>
    obtain ⟨a, t, rfl, ha, ht⟩ := hv.beat_inv
    obtain ⟨h1, _, h8, h5⟩ := hs
    refine ⟨_, rfl, a, _, 0, _, rfl, rfl, SqT.of ha, rfl, _, rfl, a, _, 1, _, rfl, rfl, SqT.of ha, rfl, (n : Int), rfl, slog (by omega) (by omega), ⟨(by show 2 ≤ sizeLine; decide), fun p hp => ?_⟩⟩
    have t1 := (Tr.refl H []).new (o := .lst [.str "beat", .str (nS n)]) hp nl
    have a1 := SqT.of (K := K) (t1.mono _ _ ha trivial)
    refine ⟨_, rfl, a, _, 0, _, rfl, rfl, a1, rfl, rfl, _, rfl, iteP (by decide +kernel) ?_⟩
    refine ⟨⟨" ", rfl⟩, _, rfl, _, rfl, a, _, 2, _, rfl, rfl, a1, rfl, t, rfl, ⟨_, SqT.of (t1.mono _ _ ht trivial)⟩, fun D hD => ?_⟩
    refine lc_tup (K := K) (a := t) (xs := ls.map fun k : Nat => V.int k) (fun i H2 => Tr H [] H2 [(D, .lst (((ls.map fun k : Nat => nS k).take i).map V.str)), (p, .lst [.str "beat", .str (nS n)])]) (t1.new hD nl) (fun i H2 _ t2 => SqT.of (t2.mono _ _ ht trivial)) ?_ ?_
    · intro i y H2 hi t2
      have hil : i < ls.length := by
        have := (List.getElem?_eq_some_iff.mp hi).1
        simpa using this
      have ey : ls[i]? = some ls[i] := List.getElem?_eq_getElem hil
      generalize ls[i] = z at ey
      rw [List.getElem?_map, ey] at hi
      have : V.int z = y := Option.some.inj hi
      subst this
      have hz := h5 z (List.mem_of_getElem? ey)
      refine ⟨rfl, _, rfl, (z : Int), rfl, slog (by omega) (by omega), ?_⟩
      refine ⟨_, t2.own.head, ?_, ?_⟩
      · rw [List.length_map]
        exact small1000 (by rw [List.length_take, List.length_map]; omega)
      · rw [take_snoc (x := nS z) (by rw [List.getElem?_map, ey]; rfl), List.map_append]
        exact t2.put .nil nl
    · intro H2 t2
      rw [List.take_of_length_le (by rw [List.length_map, List.length_map]; exact Nat.le_refl _)] at t2
      refine ⟨p, D, _, _, rfl, rfl, t2.own.tail.head, t2.own.head, ?_, fun r hr2 => ?_⟩
      · rw [List.length_map, List.length_map]
        exact Nat.le_trans (show 2 + ls.length ≤ 1000 by omega) (by decide)
      · have t4 := t2.new (o := .lst ([.str "beat", .str (nS n)] ++ (ls.map fun k : Nat => nS k).map V.str)) hr2 nl
        refine ⟨" ", r, wordsL (.beat n ls), rfl, rfl, .inl (SqL.of t4.own.head), join_sz hw (by omega), k _ t4.tail.tail.tail⟩
end
end Cu

namespace Cu
open PySem PySem.Spec PyProof.Rows L2
open TL (tl numL joinL)
/-! letters of stories of small worths have short words -/
def ChSm (S A : Nat) (c : Ch) : Prop := c.worth.natAbs ≤ (if c.set then S else A)
theorem wofR_bd {S A : Nat} {k : Nat} : ∀ {cs : List Ch}, (∀ c ∈ cs, ChSm S A c) → (wofR cs k).natAbs ≤ S + A * cs.length
  | [], _ => by simp [wofR]
  | c :: r, h => by
    have ih := wofR_bd (cs := r) (k := k) fun c hc => h c (List.mem_cons_of_mem _ hc)
    have hc := h c List.mem_cons_self
    unfold ChSm at hc
    show (wst k (wofR r k) c).natAbs ≤ _
    have e : A * (c :: r).length = A * r.length + A := by rw [List.length_cons, Nat.mul_succ]
    rw [e]
    generalize A * r.length = M at *
    unfold wst
    split
    · by_cases hs : c.set = true
      · rw [if_pos hs] at hc ⊢
        omega
      · rw [if_neg hs] at hc ⊢
        omega
    · omega
theorem wof_bd {S A : Nat} {k n : Nat} {cs : List Ch} (h : ∀ c ∈ cs, ChSm S A c) : (wof (cs.take n) k).natAbs ≤ S + A * cs.length := by
  have q := wofR_bd (S := S) (A := A) (k := k) (cs := (cs.take n).reverse) fun c hc => h c (List.mem_of_mem_take (List.mem_reverse.mp hc))
  have l : (cs.take n).reverse.length ≤ cs.length := by rw [List.length_reverse, List.length_take]; omega
  have := Nat.mul_le_mul_left A l
  show (wofR (cs.take n).reverse k).natAbs ≤ _
  omega
theorem small_let {S A nk : Nat} {cs : List Ch} {l : Letter} (h : ∀ c ∈ cs, ChSm S A c) (hc : ∀ c ∈ cs, c.worth.natAbs < 1000000000) (hb : S + A * cs.length < 1000000000) (hk : ∀ c ∈ cs, c.key < nk) (hn0 : 0 < nk) (hn : nk ≤ 8) (hl : cs.length ≤ 1000) (il : IsLet nk cs l) : Small l := by
  have lb : ∀ n k, lof (cs.take n) k ≤ 1000 := fun n k => by
    have := lof_le (cs.take n) k
    rw [List.length_take] at this
    omega
  cases il with
  | @change n c e =>
    have hn' := (List.getElem?_eq_some_iff.mp e).1
    have hm := List.mem_of_getElem? e
    have := hk c hm
    have := hc c hm
    have := lb n c.key
    exact ⟨by omega, by omega, by omega, by omega, by omega⟩
  | @part n b e h1 h2 h3 =>
    have hlen : (partRows cs n b (e - b)).length = e - b := by simp [partRows]
    refine ⟨by omega, by omega, by rw [hlen]; omega, by rw [hlen]; omega, fun r hr => ?_⟩
    obtain ⟨i, _, rfl⟩ := List.mem_map.mp hr
    have := wof_bd (n := n) (k := b + i) h
    have := lb n (b + i)
    exact ⟨by show -1000000000 < wof (cs.take n) (b + i); omega, by show wof (cs.take n) (b + i) < 1000000000; omega, by show lof (cs.take n) (b + i) < 1000000000; omega⟩
  | @beat n h1 =>
    refine ⟨by omega, by simp; omega, by simp; omega, fun k hk => ?_⟩
    obtain ⟨i, _, rfl⟩ := List.mem_map.mp hk
    have := lb n i
    omega
/-! lengths and signs of texts -/
theorem joinL_len : ∀ (ps : List (List Nat)), (joinL [32] ps).length ≤ (ps.map List.length).sum + ps.length
  | [] => by simp [joinL]
  | [p] => by simp [joinL]
  | p :: q :: r => by
    have ih := joinL_len (q :: r)
    show (p ++ ([32] ++ joinL [32] (q :: r))).length ≤ _
    rw [List.length_append, List.length_append]
    simp only [List.map_cons, List.sum_cons, List.length_cons, List.length_nil] at ih ⊢
    omega
theorem joined_len {ws : List Str} (h : ∀ w ∈ ws, w.length ≤ 10) : (Txt.join " " ws).length ≤ 11 * ws.length := by
  have e : tl (" " : Str) = [32] := by decide +kernel
  have q := joinL_len (ws.map tl)
  rw [TL.len_tl, TL.join_eq, TL.tl_join, e]
  have : ((ws.map tl).map List.length).sum ≤ 10 * ws.length := by
    clear q
    induction ws with
    | nil => simp
    | cons y ys ih =>
      have h1 := h y List.mem_cons_self
      have h2 := ih fun w hw => h w (List.mem_cons_of_mem _ hw)
      rw [TL.len_tl] at h1
      simp only [List.map_cons, List.sum_cons, List.length_cons]
      omega
  rw [List.length_map] at q
  omega
theorem strOk_tl {x : Str} (h : ∀ c ∈ tl x, c < 1000000) : PyData.strOk x = true := by
  unfold PyData.strOk
  rw [← Array.all_toList, List.all_eq_true]
  intro c hc
  have := h c hc
  exact decide_eq_true (by omega)
theorem nS_signs (i : Int) : ∀ c ∈ tl (nS i), c < 128 := by
  intro c hc
  by_cases h : 0 ≤ i
  · rw [tl_pos h] at hc
    have := TL.numL_digits _ c hc
    omega
  · rw [tl_neg (by omega)] at hc
    rcases List.mem_cons.mp hc with rfl | hc
    · decide
    · have := TL.numL_digits _ c hc
      omega
theorem words_ok {l : Letter} (h : Small l) : ∀ w ∈ wordsL l, w.length ≤ 10 ∧ ∀ c ∈ tl w, c < 128 := by
  intro w hw
  refine ⟨wordsL_small h w hw, ?_⟩
  have kc : ∀ c ∈ tl "change", c < 128 := by decide +kernel
  have kp : ∀ c ∈ tl "part", c < 128 := by decide +kernel
  have kb : ∀ c ∈ tl "beat", c < 128 := by decide +kernel
  have kw : ∀ b, ∀ c ∈ tl (wd b), c < 128 := fun b => by cases b <;> decide +kernel
  cases l with
  | change n c a =>
    simp only [wordsL, List.mem_cons, List.not_mem_nil, or_false] at hw
    rcases hw with rfl | rfl | rfl | rfl | rfl | rfl
    · exact kc
    · exact nS_signs _
    · exact nS_signs _
    · exact kw _
    · exact nS_signs _
    · exact nS_signs _
  | part n b rows =>
    simp only [wordsL, List.mem_cons] at hw
    rcases hw with rfl | rfl | rfl | hw
    · exact kp
    · exact nS_signs _
    · exact nS_signs _
    · obtain ⟨z, _, rfl⟩ := List.mem_map.mp hw
      exact nS_signs _
  | beat n ls =>
    simp only [wordsL, List.mem_cons] at hw
    rcases hw with rfl | rfl | hw
    · exact kb
    · exact nS_signs _
    · obtain ⟨z, _, rfl⟩ := List.mem_map.mp hw
      exact nS_signs _
theorem WdOk.of {w : Str} (h : w.length ≤ 10 ∧ ∀ c ∈ tl w, c < 128) : WdOk w := ⟨by omega, strOk_tl fun c hc => by have := h.2 c hc; omega⟩
end Cu

namespace Cu
open PySem PySem.Spec PyProof.Rows L2
section
variable {X : Cx} {x n : Str} {c : Value} {i : Nat} {body suite : List Stmt} {b₀ : Stmt} {np pos pos' : Pos} {Wout : WX}
/-- try .. except x as n: the readings may name what the body's and the suite's own contexts hold -/
theorem ps_tryT {tt : WX → List (Addr × Obj) → (Value → Shared → Prop) → TS} {ts : Addr → Obj → Value → Option Addr → List (Addr × Obj) → TS}
    (hs : X.stack = X.env :: X.outer) (hf : X.env.frame = some X.env.locals) (hN : X.N.Nodup) (hi : X.N[i]? = some n) (hln : X.env.kindOf n = some .local) (hc : Names X x c) (tk : Takes X Wout)
    (hb : ∀ (W : WX) (pn : List (Addr × Obj)) (xe : Value → Shared → Prop), Takes (X.tr pn xe) W → PassesOwn (model X.prog X.w) X.A X.env xe → PSs (X.tr pn xe) body (tt W pn xe))
    (hsu : ∀ (a : Addr) (oe : Obj) (cls : Value) (d : Option Addr) (pn : List (Addr × Obj)), Zc cls d oe → (∃ vs, oe.data = .fields vs) → PSs (X.suite a ((a, oe) :: pn)) (b₀ :: suite) (ts a oe cls d pn)) :
    PS X (.Try body [.ExceptHandler (some (.Name x np)) (some n) (b₀ :: suite) pos'] [] [] pos)
      (fun D σ H => ∀ pn xe, tt (wAs X.K c i (fun a cls d D σ H => ∀ oe pn, ts a oe cls d pn D σ H) Wout D) pn xe D σ H) :=
  ps_try_as (tb := fun W D σ H => ∀ pn xe, tt W pn xe D σ H) (ts := fun a cls d D σ H => ∀ oe pn, ts a oe cls d pn D σ H) hs hf hN hi hln hc tk
    (fun W pn xe tk po => ⟨fun pins s σ H D I h => (hb W pn xe tk po).run pins s σ H D I (h pn xe)⟩)
    (fun a oe cls d pn hz hf => ⟨fun pins s σ H D I h => (hsu a oe cls d pn hz hf).run pins s σ H D I (h oe pn)⟩)
end
end Cu

namespace Cu
open PySem PySem.Spec PyProof.Rows L2
open TL (tl)
theorem rd_read {C : Addr} {K : PySem.W.Frag} {ws : List Str} (hne : 0 < ws.length) (h9 : ws.length ≤ 100) (hw : ∀ w ∈ ws, w.length ≤ 10 ∧ ∀ c ∈ tl w, c < 128) (hf : ∀ w ∈ ws, (32 : Nat) ∉ tl w) {H : Hp} {Q : VK} {E : XK}
    (he : ∀ n, badW ws = some n → ∀ d H', Grow H H' → H' d = some (xdT n) → E (.ref C) (some d) H') (hq : badW ws = none → ∀ v H', Grow H H' → Rp K H' (letD ws) v → Q v H') :
    spRead K C [.str (Txt.join " " ws)] H Q E := by
  refine ⟨rfl, _, ws, rfl, ?_, split_words (fun z => by rw [z] at hne; simp at hne) hf, hne, by omega, fun w hw' => WdOk.of (hw w hw'), he, hq⟩
  have := joined_len fun w hw' => (hw w hw').1
  omega
abbrev s_law : Stmt := (top 28)
theorem sc_law : FnScope ["_law_script", "_law_d", "_law_keys", "_law_one", "_law_two", "_law_letter", "_law_text_here", "_law_words", "_law_place", "e"] ["_law_script"] (defScope s_law) := ⟨rfl, rfl, rfl, by decide +kernel, rfl, by decide +kernel, by decide +kernel⟩

section
variable {P : Program} {w : World} {K : PySem.W.Frag} {mg : Str → Option Value} {base : Heap} {C CB : Addr}
theorem ok_law {f : Addr} {fd : FuncData} (F : Fun K "law" "law" s_law f fd) (Bm : Blt mg) (CHearer : CHr K C) (g_dice : Gf P w K mg base 1 "_law_dice" ["_law_script"] (spDice K)) (g_next : Gf P w K mg base 1 "_law_next" ["_law_dice_here", "_law_many"] (spNext K))
    (g_letters : Gf P w K mg base 4 "_law_letters" ["_law_d", "_law_keys", "_law_most"] (spLetters K)) (k_Hearer : Kf P w K mg base 1 "Hearer" C ["self", "keys"] (spHinit K C)) (m_Hearer_hear : Mf P w K mg base 4 C "hear" ["self", "letter"] (spHear K C))
    (g_stand : Gf P w K mg base 2 "_law_stand" ["_law_hearer", "_law_keys"] (spStand K C)) (g_written : Gf P w K mg base 2 "written" ["letter"] (spText K)) (g_text : Gf P w K mg base 1 "_law_text" ["_law_letter"] (spText K))
    (g_read : Gx P w K mg base 3 "read" ["text"] (spRead K CB)) (x_BadText : Xf P w K mg base 1 "BadText" CB ["self", "place"] (spXi CB "place")) (XBadText : Xc K CB "place") (sub_BadText : PySem.W.subIn K (.ref CB) (.ref CB) = some true) : FnOk P w K mg base CX0 5 f fd ["_law_script"] (spLaw K) := by
  refine F.ok sc_law len_of fun cdv A0 outer s H vs Q E hr h => ?_
  obtain ⟨_, c, ns, rfl, hns, fc, go⟩ := h
  refine ⟨_, (pss_cons (ps_set (i := 1) sc_law.nd rfl (Or.inl rfl) (pc g_dice hr (pa_cons (pv 0) pa_nil)))
      (pss_cons (ps_set (i := 2) sc_law.nd rfl (Or.inl rfl) (pe_op op_add pe_int (pc g_next hr (pa_cons (pv 1) (pa_cons pe_int pa_nil)))))
      (pss_cons (ps_par (i := 3) (j := 4) rfl sc_law.nd rfl rfl (by decide) rfl rfl (pa_cons (pk k_Hearer hr (pa_cons (pv 2) pa_nil)) (pa_cons (pk k_Hearer hr (pa_cons (pv 2) pa_nil)) pa_nil)) rfl)
      (pss_cons (ps_for PassesOwn.never rfl (pi_list (pe_ix ix_tup (pc g_letters hr (pa_cons (pv 1) (pa_cons (pv 2) (pa_cons pe_int pa_nil)))) pe_int (fun _ _ => rfl))) (pg_name (i := 5) sc_law.nd rfl (Or.inl rfl))
        (pss_cons (ps_set (i := 6) sc_law.nd rfl (Or.inl rfl) (pc g_written hr (pa_cons (pv 5) pa_nil)))
        (pss_cons (ps_if (PW.pt (pw_or (pt_cmpR op_ne (pv 6) (pc g_text hr (pa_cons (pv 5) pa_nil)) (nomark _)) (pw_or1 (pt_cmpR (op_neD hr.units) (pcx g_read hr (pa_cons (pv 6) pa_nil)) (pv 5) (nomark _)))))
          (pss_one (ps_ret pe_bl))
          pss_nil)
        (pss_cons (ps_if (pt_cmpR (op_neD hr.units) (pm (pv 3) CHearer.cl m_Hearer_hear hr (pa_cons (pv 5) pa_nil)) (pm (pv 4) CHearer.cl m_Hearer_hear hr (pa_cons (pcx g_read hr (pa_cons (pv 6) pa_nil)) pa_nil)) (nomark _))
          (pss_one (ps_ret pe_bl))
          pss_nil)
        (pss_cons (ps_if (pt_cmpR (op_neD hr.units) (pc g_stand hr (pa_cons (pv 3) (pa_cons (pv 2) pa_nil))) (pc g_stand hr (pa_cons (pv 4) (pa_cons (pv 2) pa_nil))) (nomark _))
          (pss_one (ps_ret pe_bl))
          pss_nil)
        (pss_cons (ps_set (i := 7) sc_law.nd rfl (Or.inl rfl) (pe_fz (pe_split (pv 6) pe_str)))
        (pss_cons (ps_set (i := 8) sc_law.nd rfl (Or.inl rfl) (pe_op op_add pe_int (pc g_next hr (pa_cons (pv 1) (pa_cons (pe_op op_sub (pe_callB call_len_seq rfl Bm.len (by decide +kernel) (pa_cons (pv 7) pa_nil)) pe_int) pa_nil)))))
        (pss_one (ps_tryT (i := 9) rfl rfl sc_law.nd rfl rfl ⟨rfl, by decide, .inl x_BadText.gC⟩ takes0 (fun W pn xe tk po => by exact (pss_cons (ps_expr (pcy tk g_read hr (pa_cons (pe_join pe_str (pe_op op_cat (pe_op op_cat (pe_slice sl_list (pv 7) po_none (po_some (pv 8))) (pe_lst (pa_cons pe_str pa_nil))) (pe_slice sl_list (pv 7) (po_some (pe_op op_add (pv 8) pe_int)) po_none))) pa_nil)))
          (pss_one (ps_ret pe_bl))))
          (fun a oe cls d pn hz hf => by exact (pss_one (ps_if (pt_cmpR op_ne (pe_xf XBadText.xf XBadText.no hz hf (pv 9)) (pv 8) (nomark _))
            (pss_one (ps_ret pe_bl))
            pss_nil))))))))))))
      (pss_one (ps_ret pe_bl)))))), ?_⟩
  refine ⟨_, rfl, rfl, c, ns, [], rfl, by omega, fc, .nil, fun a H1 m1 d1 => ?_⟩
  refine ⟨_, rfl, rfl, a, 8, [], rfl, by decide, by decide, d1, fun r2 H2 p2 q2 m2 d2 => ⟨_, _, rfl, rfl, ?_⟩⟩
  obtain ⟨nk, enk, hk, hk8⟩ : ∃ nk : Nat, 1 + r2 = (nk : Int) ∧ 0 < nk ∧ nk ≤ 8 := ⟨(1 + r2).toNat, by omega, by omega, by omega⟩
  show gName 2 (V.int (1 + r2)) _ _ _
  rw [enk]
  -- one, two = Hearer(keys), Hearer(keys)
  refine ⟨_, rfl, fun x1 dx1 hx1 hd1 hn1 => ?_⟩
  have t3 := mk_tr (C := C) hx1 hd1 hn1
  refine ⟨rfl, x1, dx1, nk, rfl, hk, hk8, upd_same, fun A1 c1 H3 e1 R1 u3 => ⟨rfl, ?_⟩⟩
  subst e1
  have t4 := t3.trans u3
  refine ⟨_, rfl, fun x2 dx2 hx2 hd2 hn2 => ?_⟩
  have t5 := mk_tr (C := C) hx2 hd2 hn2
  refine ⟨rfl, x2, dx2, nk, rfl, hk, hk8, upd_same, fun A2 c2 H4 e2 R2 u5 => ⟨rfl, ?_⟩⟩
  subst e2
  have t6 := t5.trans u5
  have d7 := (Dice.tr (C := []) (d2.tr0 t4) t6).perm List.perm_append_comm
  refine ⟨_, _, rfl, ?_⟩
  -- for letter in letters(d, keys, 60)[2]
  refine ⟨_, rfl, _, rfl, rfl, a, nk, 60, _, rfl, hk, hk8, by decide, d7, fun cs ls u H9 hcs hck hls hlet hw m9 d9 rp => ?_⟩
  obtain ⟨ta, txs, rfl, hta, rts⟩ := rp.tup_inv
  obtain ⟨v1, txs, rfl, _, rts⟩ := rts.cons_inv
  obtain ⟨v2, txs, rfl, _, rts⟩ := rts.cons_inv
  obtain ⟨v3, txs, rfl, rl, rts⟩ := rts.cons_inv
  have := rts.nil_inv
  subst this
  obtain ⟨al, xl, rfl, fl, rxl, hxl⟩ := rl.str_of
  refine ⟨ta, _, _, _, rfl, rfl, SqT.of hta, rfl, al, rfl, ⟨_, fl.sq⟩, ?_⟩
  refine for_list (K := K) (a := al) (xs := xl) (fun i σ H => ∃ (hs : List HK) (k1 k2 : Lg) (v5 v6 v7 v8 : Option V),
    σ = [some (.ref c), some (.ref a), some (.int nk), some (.ref A1.p), some (.ref A2.p), v5, v6, v7, v8, none] ∧ Mono H9 H ∧ HR K C A1 hs H k1 ∧ HR K C A2 hs H k2 ∧ Dice K H a (k1 ++ k2) ∧ AllI nk cs hs)
    ⟨List.replicate nk HK.ini, c1, c2, none, none, none, none, rfl, Mono.refl _, R1.mono (t6.mono.trans m9), R2.mono m9, d9, AllI.ini nk cs⟩ (fun i σ H _ ⟨_, _, _, _, _, _, _, _, m, _⟩ => (fl.mono m).sq) ?_ ?_
  · rintro i x σ H hi ⟨hs, k1, k2, v5, v6, v7, v8, rfl, m10, r1, r2, d10, ai⟩
    have hi' : i < ls.length := by
      have := (List.getElem?_eq_some_iff.mp hi).1
      omega
    obtain ⟨l, el⟩ : ∃ l, ls[i]? = some l := ⟨ls[i], List.getElem?_eq_getElem hi'⟩
    have il : IsLet nk cs l := hlet l (List.mem_of_getElem? el)
    obtain ⟨x', ex, rx⟩ := (rxl.mono m10).get (i := i) (d := l.enc) (by rw [List.getElem?_map, el]; rfl)
    rw [hi] at ex
    cases ex
    have sm : Small l := small_let (S := 500) (A := 500) (fun c hc => by
        have := hw c hc
        unfold ChSm
        split <;> omega) (fun c hc => by have := hw c hc; omega) (by omega) hck hk hk8 (by omega) il
    have h8 : hs.length ≤ 8 := by rw [ai.1]; exact hk8
    have ai' := ai.hear il
    have wl := wordsL_len sm
    have rdl : ∀ {H0 : Hp} {Q0 : VK}, (∀ v H', Grow H0 H' → Rp K H' l.enc v → Q0 v H') → spRead K CB [.str (textL l)] H0 Q0 E0 := fun hq => by
      refine rd_read (by omega) (by omega) (words_ok sm) (wordsL_free l) (fun n hb => ?_) (fun _ => ?_)
      · rw [words_good sm] at hb
        cases hb
      · rw [words_letter sm]
        exact hq
    -- text_here = written(letter)
    refine ⟨_, rfl, rfl, x, l, rfl, rx, sm, fun H11 g11 => ?_⟩
    -- text_here != text(letter) or read(text_here) != letter
    refine ⟨_, rfl, _, rfl, rfl, x, l, rfl, rx.mono g11.mono, sm, fun H12 g12 => ⟨rfl, _, rfl, iteM (by simp) ?_⟩⟩
    refine ⟨_, rfl, rdl fun v H13 g13 rv => ⟨_, rfl, _, _, rv.dp, (rx.mono ((g11.mono.trans g12.mono).trans g13.mono)).dp, (Gd.letter l).shaped, (Gd.letter l).shaped, _, rfl, ?_⟩⟩
    rw [(Gd.letter l).refl]
    refine iteM (by decide) ?_
    have g13' := (g11.trans g12).trans g13
    have d13 := d10.grow g13'
    have r1' := r1.mono g13'.mono
    -- one.hear(letter) != two.hear(read(text_here))
    refine ⟨_, rfl, A1.p, _, _, rfl, r1'.at_p d13.has.left, hFno, _, rfl, rfl, A1, hs, k1, x, l, rfl, r1', d13.has.left, rx.mono g13'.mono, h8, ai.wf (by omega), let_ok hck ai.1 il, fun f1 k1' H14 r14 t14 => ?_⟩
    have d14 := (Dice.tr d13 t14).perm List.perm_append_comm
    have r2' := r2.mono (g13'.mono.trans t14.mono)
    refine ⟨_, rfl, A2.p, _, _, rfl, r2'.at_p d14.has.left, hFno, _, rfl, rdl fun v2 H15 g15 rv2 => ?_⟩
    have d15 := d14.grow g15
    have r2'' := r2'.mono g15.mono
    refine ⟨rfl, A2, hs, k2, v2, l, rfl, r2'', d15.has.left, rv2, h8, ai.wf (by omega), let_ok hck ai.1 il, fun f2 k2' H16 r16 t16 => ?_⟩
    have d16 := Dice.tr d15 t16
    have hf1 : H16 f1 = some (.lst ((heard hs l).map V.int)) := d16.has.right.head
    refine ⟨_, _, Dp.ints' hf1, Dp.ints' d16.has.head, (Gd.ilst (n := 0) _).shaped, (Gd.ilst (n := 0) _).shaped, _, rfl, ?_⟩
    rw [(Gd.ilst (n := 0) (heard hs l)).refl]
    refine iteM (by decide) ?_
    have d17 : Dice K H16 a (k1' ++ k2') := (d16.tail.perm List.perm_append_comm).tail
    have r17 := r14.mono (g15.mono.trans t16.mono)
    have hheld := ai'.held (by omega) hk8
    -- stand(one) != stand(two)
    refine ⟨_, rfl, _, rfl, rfl, A1, hear hs l, k1', nk, rfl, r17, d17.has.left, ai'.1, hk, hk8, hheld, fun v18 H18 g18 rp18 => ?_⟩
    have d18 := d17.grow g18
    have r18 := r16.mono g18.mono
    refine ⟨_, rfl, _, rfl, rfl, A2, hear hs l, k2', nk, rfl, r18, d18.has.right, ai'.1, hk, hk8, hheld, fun v19 H19 g19 rp19 => ?_⟩
    have d19 := d18.grow g19
    refine ⟨_, _, (rp18.mono g19.mono).dp, rp19.dp, (Gd.stand _).shaped, (Gd.stand _).shaped, _, rfl, ?_⟩
    rw [(Gd.stand _).refl]
    refine iteM (by decide) ?_
    -- words = text_here.split(" ")
    have hts : (textL l).length + 2 ≤ sizeLine := by
      have := joined_len fun w hw' => (words_ok sm w hw').1
      exact Nat.le_trans (show (textL l).length + 2 ≤ 1000 by unfold textL; omega) (by decide)
    have hne : wordsL l ≠ [] := fun z => by rw [z] at wl; simp at wl
    refine rd_fz ⟨_, rfl, ⟨_, rfl⟩, textL l, " ", rfl, rfl, (by decide +kernel), hts, fun p hp => ⟨p, _, rfl, upd_same, fun o => ?_⟩⟩
    have esp : Txt.split (textL l) " " = wordsL l := split_words hne (wordsL_free l)
    rw [esp]
    have g20 := (Grow.refl H19).nfz (xs := (wordsL l).map V.str) (ob := o) hp
    have f20 : FzL K (upd (upd H19 p (.lst ((wordsL l).map V.str))) p (.frz o (.lst ((wordsL l).map V.str)))) p ((wordsL l).map V.str) := FzL.frz
    generalize (upd (upd H19 p (.lst ((wordsL l).map V.str))) p (.frz o (.lst ((wordsL l).map V.str)))) = H20 at g20 f20
    have d20 := d19.grow g20
    have hlw : ((wordsL l).map V.str).length = (wordsL l).length := List.length_map ..
    -- place = 1 + next(d, len(words) - 1)
    refine ⟨_, rfl, _, rfl, p, _, rfl, .inl f20.sq, _, _, rfl, rfl, rfl, a, (((wordsL l).length : Int) - 1), _, (by rw [hlw]; rfl), by omega, by omega, d20, fun r21 H21 p21 q21 m21 d21 => ⟨_, _, rfl, rfl, ?_⟩⟩
    obtain ⟨pl, epl, hpl1, hpl2⟩ : ∃ pl : Nat, 1 + r21 = (pl : Int) ∧ 0 < pl ∧ pl < (wordsL l).length := ⟨(1 + r21).toNat, by omega, by omega, by omega⟩
    show gName 8 (V.int (1 + r21)) _ _ _
    rw [epl]
    have f21 := f20.mono m21
    -- try
    intro pn xe
    refine ⟨⟨" ", rfl⟩, ?_⟩
    have ec1 : cutV ((wordsL l).map V.str) none (some (pl : Int)) = ((wordsL l).take pl).map V.str := by rw [cutV_to (by omega), List.map_take]
    have ec2 : cutV ((wordsL l).map V.str) (some ((pl + 1 : Nat) : Int)) none = ((wordsL l).drop (pl + 1)).map V.str := by rw [cutV_from (by omega), List.map_drop]
    refine ⟨_, rfl, _, rfl, _, rfl, p, _, rfl, f21.sq, fun q1 hq1 => ?_⟩
    rw [ec1]
    have u1 := (Tr.refl H21 []).new (o := .lst (((wordsL l).take pl).map V.str)) hq1 nl
    refine ⟨(by show 1 ≤ sizeLine; decide), fun q2 hq2 => ?_⟩
    have u2 := u1.new (o := .lst [.str "x"]) hq2 nl
    refine ⟨q1, q2, _, _, rfl, rfl, u2.own.tail.head, u2.own.head, ?_, fun q3 hq3 => ?_⟩
    · rw [List.length_map, List.length_take]
      exact Nat.le_trans (show min pl (wordsL l).length + 1 ≤ 1000 by omega) (by decide)
    have u3 := u2.new (o := .lst (((wordsL l).take pl).map V.str ++ [.str "x"])) hq3 nl
    refine ⟨_, rfl, _, rfl, _, _, rfl, rfl, _, rfl, p, _, rfl, (f21.mono u3.mono).sq, fun q4 hq4 => ?_⟩
    rw [show (pl : Int) + 1 = ((pl + 1 : Nat) : Int) by omega, ec2]
    have u4 := u3.new (o := .lst (((wordsL l).drop (pl + 1)).map V.str)) hq4 nl
    refine ⟨q3, q4, _, _, rfl, rfl, u4.own.tail.head, u4.own.head, ?_, fun q5 hq5 => ?_⟩
    · rw [List.length_append, List.length_map, List.length_take, List.length_map, List.length_drop]
      exact Nat.le_trans (show min pl (wordsL l).length + 1 + ((wordsL l).length - (pl + 1)) ≤ 1000 by omega) (by decide)
    have u5 := u4.new (o := .lst ((((wordsL l).take pl).map V.str ++ [.str "x"]) ++ ((wordsL l).drop (pl + 1)).map V.str)) hq5 nl
    have ews : (((wordsL l).take pl).map V.str ++ [.str "x"]) ++ ((wordsL l).drop (pl + 1)).map V.str = ((wordsL l).take pl ++ [("x" : Str)] ++ (wordsL l).drop (pl + 1)).map V.str := by
      rw [List.map_append, List.map_append]
      rfl
    have hlx : ((wordsL l).take pl ++ [("x" : Str)] ++ (wordsL l).drop (pl + 1)).length = (wordsL l).length := by
      rw [List.length_append, List.length_append, List.length_take, List.length_drop, List.length_singleton]
      omega
    have hwx : ∀ w ∈ (wordsL l).take pl ++ [("x" : Str)] ++ (wordsL l).drop (pl + 1), (w.length ≤ 10 ∧ ∀ c ∈ tl w, c < 128) ∧ (32 : Nat) ∉ tl w := fun w hw => by
      rcases List.mem_append.mp hw with hw | hw
      · rcases List.mem_append.mp hw with hw | hw
        · exact ⟨words_ok sm w (List.mem_of_mem_take hw), wordsL_free l w (List.mem_of_mem_take hw)⟩
        · rw [List.mem_singleton.mp hw]
          decide +kernel
      · exact ⟨words_ok sm w (List.mem_of_mem_drop hw), wordsL_free l w (List.mem_of_mem_drop hw)⟩
    have hbad : badW ((wordsL l).take pl ++ [("x" : Str)] ++ (wordsL l).drop (pl + 1)) = some pl := words_x (words_right sm) (by omega) hpl2
    refine ⟨" ", q5, _, rfl, rfl, .inl (SqL.of (by rw [← ews]; exact u5.own.head)), join_sz (fun w hw => (hwx w hw).1.1) (by omega), ?_⟩
    refine rd_read (by omega) (by omega) (fun w hw => (hwx w hw).1) (fun w hw => (hwx w hw).2) (fun n hb d H22 g22 hd => ?_) (fun hb => ?_)
    · rw [hbad] at hb
      have en : pl = n := Option.some.inj hb
      subst en
      refine ⟨true, exm_of XBadText sub_BadText, fun _ ea hea oe pn2 => ?_, fun q => nomatch q⟩
      refine ⟨_, rfl, rfl, rfl, d, _, _, rfl, hd, rfl, _, rfl, rfl, _, rfl, iteM (by simp) ?_⟩
      have g23 := (u5.tail.tail.tail.tail.tail).trans g22
      have m23 := ((g18.mono.trans g19.mono).trans g20.mono).trans (m21.trans g23.mono)
      refine ⟨hear hs l, k1', k2', _, _, _, _, rfl, ?_, r17.mono m23, r16.mono m23, d21.grow g23, ai'⟩
      exact ((((m10.trans g13'.mono).trans t14.mono).trans g15.mono).trans t16.mono).trans m23
    · rw [hbad] at hb
      cases hb
  · rintro σ H ⟨hs, k1, k2, v5, v6, v7, v8, rfl, m10, r1, r2, d10, ai⟩
    exact go _
end
end Cu

namespace Cu
open PySem PySem.Spec PyProof.Rows L2
theorem facts {l : PySem.W.OpenLaw} {w : World} {K : PySem.W.Frag} {h : Heap} {mg : Str → Option Value} {fa C_Hearer C_CatchError C_BadText f1 f2 f3 f4 f5 f6 f7 f8 f9 f10 f11 f12 f13 f14 f15 f16 f17 f18 f19 f20 f21 f22 f23 f24 f25 f26 f27 f28 : Addr} (X : K.In h) (G : h.Ns mainGlobals mg) (hfa : mg "law" = some (.ref fa))
    {od1 an1 od2 an2 od3 an3 od4 an4 od5 an5 od6 an6 od7 an7 od8 an8 od9 an9 od10 an10 od11 an11 od12 an12 od13 an13 od14 an14 od15 an15 od16 an16 od17 an17 od18 an18 od19 an19 od20 an20 od21 an21 od22 an22 od23 an23 od24 an24 od25 an25 od26 an26 od27 an27 od28 an28 : Option Addr} {sl1 sl2 sl3 sl4 sl5 sl6 sl7 sl8 sl9 sl10 sl11 sl12 sl13 sl14 sl15 sl16 sl17 sl18 sl19 sl20 sl21 sl22 sl23 sl24 sl25 sl26 sl27 sl28 : Array (Option Value)} {oc1 kV1 dc1 pm1 cd1 ct1 oc2 kV2 dc2 pm2 cd2 ct2 oc3 kV3 dc3 pm3 cd3 ct3 oc4 kV4 dc4 pm4 cd4 ct4 oc5 kV5 dc5 pm5 cd5 ct5 oc6 kV6 dc6 pm6 cd6 ct6 oc7 kV7 dc7 pm7 cd7 ct7 oc8 kV8 dc8 pm8 cd8 ct8 oc9 kV9 dc9 pm9 cd9 ct9 oc10 kV10 dc10 pm10 cd10 ct10 oc11 kV11 dc11 pm11 cd11 ct11 oc12 kV12 dc12 pm12 cd12 ct12 oc13 kV13 dc13 pm13 cd13 ct13 oc14 kV14 dc14 pm14 cd14 ct14 oc15 kV15 dc15 pm15 cd15 ct15 oc16 kV16 dc16 pm16 cd16 ct16 oc17 kV17 dc17 pm17 cd17 ct17 oc18 kV18 dc18 pm18 cd18 ct18 oc19 kV19 dc19 pm19 cd19 ct19 oc20 kV20 dc20 pm20 cd20 ct20 oc21 kV21 dc21 pm21 cd21 ct21 oc22 kV22 dc22 pm22 cd22 ct22 oc23 kV23 dc23 pm23 cd23 ct23 oc24 kV24 dc24 pm24 cd24 ct24 oc25 kV25 dc25 pm25 cd25 ct25 oc26 kV26 dc26 pm26 cd26 ct26 oc27 kV27 dc27 pm27 cd27 ct27 oc28 kV28 dc28 pm28 cd28 ct28 : Value} {tk_MOST_KEYS tk_MOST_FIGURES tk_FIGURES : Tok} {nm_BadText qn_BadText : Str} {N_BadText : Addr} {bs_BadText : List Value} {sn_BadText : List Str} {sb_BadText : List Value} {ab_BadText : Bool} {col_BadText : Option Bool} {dd_BadText : Option Addr} {m0_BadText m1_BadText m2_BadText m3_BadText m5_BadText : Option Value}
    (b_len : PySem.W.nsIn K mainGlobals "len" = some none)
    (b_range : PySem.W.nsIn K mainGlobals "range" = some none)
    (b_int : PySem.W.nsIn K mainGlobals "int" = some none)
    (b_list : PySem.W.nsIn K mainGlobals "list" = some none)
    (b_tuple : PySem.W.nsIn K mainGlobals "tuple" = some none)
    (b_sorted : PySem.W.nsIn K mainGlobals "sorted" = some none)
    (b_min : PySem.W.nsIn K mainGlobals "min" = some none)
    (b_max : PySem.W.nsIn K mainGlobals "max" = some none)
    (b_sum : PySem.W.nsIn K mainGlobals "sum" = some none)
    (b_set : PySem.W.nsIn K mainGlobals "set" = some none)
    (b_str : PySem.W.nsIn K mainGlobals "str" = some none)
    (b_isinstance : PySem.W.nsIn K mainGlobals "isinstance" = some none)
    (b_enumerate : PySem.W.nsIn K mainGlobals "enumerate" = some none)
    (b_zip : PySem.W.nsIn K mainGlobals "zip" = some none)
    (b_bool : PySem.W.nsIn K mainGlobals "bool" = some none)
    (b_dict : PySem.W.nsIn K mainGlobals "dict" = some none)
    (c_MOST_KEYS : PySem.W.nsIn K mainGlobals "MOST_KEYS" = some (some (.int 8 tk_MOST_KEYS)))
    (c_MOST_FIGURES : PySem.W.nsIn K mainGlobals "MOST_FIGURES" = some (some (.int 9 tk_MOST_FIGURES)))
    (c_FIGURES : PySem.W.nsIn K mainGlobals "FIGURES" = some (some (.str "0123456789" tk_FIGURES)))
    (ac_Hearer : PySem.W.nsIn K mainGlobals "Hearer" = some (some (.ref C_Hearer)))
    (pg_Hearer : PySem.W.plainGet K C_Hearer Str.empty = true)
    (hd_Hearer : PySem.W.hasDictIn K C_Hearer = true)
    (po_Hearer : PySem.W.plainOver K C_Hearer = true)
    (sa_Hearer : PySem.W.findIn K (.ref C_Hearer) "__setattr__" = some (some (.builtin "object.__setattr__")))
    (no0_Hearer : PySem.W.findIn K (.ref C_Hearer) "worth" = some none)
    (no1_Hearer : PySem.W.findIn K (.ref C_Hearer) "since" = some none)
    (no2_Hearer : PySem.W.findIn K (.ref C_Hearer) "upto" = some none)
    (no3_Hearer : PySem.W.findIn K (.ref C_Hearer) "aside" = some none)
    (ac_CatchError : PySem.W.nsIn K mainGlobals "CatchError" = some (some (.ref C_CatchError)))
    (rd_CatchError : PySem.W.readsIn K C_CatchError (.type "type") = true)
    (ge_CatchError : PySem.W.specialIn K (.ref C_CatchError) "__getattribute__" = some (some (.builtin "type.__getattribute__")))
    (ci_CatchError : PySem.W.findCls K (.ref C_CatchError) (.type "type") "__init__" = some (.val (.builtin "ValueError.__init__")))
    (ac_BadText : PySem.W.nsIn K mainGlobals "BadText" = some (some (.ref C_BadText)))
    (xl_BadText : K.lookup C_BadText = some (excClassObj nm_BadText qn_BadText C_BadText N_BadText bs_BadText [.ref C_CatchError, .type "ValueError", .type "Exception", .type "BaseException", .type "object"] true sn_BadText sb_BadText ab_BadText col_BadText dd_BadText m0_BadText m1_BadText m2_BadText m3_BadText m5_BadText "ValueError.__new__"))
    (sa_BadText : PySem.W.findIn K (.ref C_BadText) "__setattr__" = some (some (.builtin "object.__setattr__")))
    (eC_BadText : PySem.W.subIn K (.ref C_BadText) (.type "BaseException") = some true)
    (tC_BadText : PySem.W.typeIn K (.ref C_BadText) = some (.type "type"))
    (kC_BadText : PySem.W.keepIn K (.ref C_BadText) = true)
    (ga_BadText : PySem.W.findIn K (.ref C_BadText) "__getattribute__" = some (some (.builtin "BaseException.__getattribute__")))
    (gg_BadText : PySem.W.findIn K (.ref C_BadText) "__getattr__" = some none)
    (hC_BadText : PySem.W.hasDictIn K C_BadText = true)
    (nf_BadText : PySem.W.findIn K (.ref C_BadText) "place" = some none)
    (sub_BadText : PySem.W.subIn K (.ref C_BadText) (.ref C_BadText) = some true)
    (a1 : PySem.W.nsIn K mainGlobals "_law_dice" = some (some (.ref f1)))
    (l1 : K.lookup f1 = some ⟨oc1, od1, .func (PySem.W.fnOf "_law_dice" "_law_dice" (defArgs s_dice) (defBody s_dice) (defScope s_dice) .none kV1 dc1 pm1 an1 cd1 ct1), sl1⟩)
    (d1 : PySem.W.codeIn K cd1 "_law_dice" = true)
    (k1 : PySem.W.keepIn K (.ref f1) = true)
    (a2 : PySem.W.nsIn K mainGlobals "_law_next" = some (some (.ref f2)))
    (l2 : K.lookup f2 = some ⟨oc2, od2, .func (PySem.W.fnOf "_law_next" "_law_next" (defArgs s_next) (defBody s_next) (defScope s_next) .none kV2 dc2 pm2 an2 cd2 ct2), sl2⟩)
    (d2 : PySem.W.codeIn K cd2 "_law_next" = true)
    (k2 : PySem.W.keepIn K (.ref f2) = true)
    (a3 : PySem.W.nsIn K mainGlobals "_law_worth" = some (some (.ref f3)))
    (l3 : K.lookup f3 = some ⟨oc3, od3, .func (PySem.W.fnOf "_law_worth" "_law_worth" (defArgs s_worth) (defBody s_worth) (defScope s_worth) .none kV3 dc3 pm3 an3 cd3 ct3), sl3⟩)
    (d3 : PySem.W.codeIn K cd3 "_law_worth" = true)
    (k3 : PySem.W.keepIn K (.ref f3) = true)
    (a4 : PySem.W.nsIn K mainGlobals "_law_changes" = some (some (.ref f4)))
    (l4 : K.lookup f4 = some ⟨oc4, od4, .func (PySem.W.fnOf "_law_changes" "_law_changes" (defArgs s_changes) (defBody s_changes) (defScope s_changes) .none kV4 dc4 pm4 an4 cd4 ct4), sl4⟩)
    (d4 : PySem.W.codeIn K cd4 "_law_changes" = true)
    (k4 : PySem.W.keepIn K (.ref f4) = true)
    (a5 : PySem.W.nsIn K mainGlobals "_law_story" = some (some (.ref f5)))
    (l5 : K.lookup f5 = some ⟨oc5, od5, .func (PySem.W.fnOf "_law_story" "_law_story" (defArgs s_story) (defBody s_story) (defScope s_story) .none kV5 dc5 pm5 an5 cd5 ct5), sl5⟩)
    (d5 : PySem.W.codeIn K cd5 "_law_story" = true)
    (k5 : PySem.W.keepIn K (.ref f5) = true)
    (a6 : PySem.W.nsIn K mainGlobals "_law_part" = some (some (.ref f6)))
    (l6 : K.lookup f6 = some ⟨oc6, od6, .func (PySem.W.fnOf "_law_part" "_law_part" (defArgs s_part) (defBody s_part) (defScope s_part) .none kV6 dc6 pm6 an6 cd6 ct6), sl6⟩)
    (d6 : PySem.W.codeIn K cd6 "_law_part" = true)
    (k6 : PySem.W.keepIn K (.ref f6) = true)
    (a7 : PySem.W.nsIn K mainGlobals "_law_beat" = some (some (.ref f7)))
    (l7 : K.lookup f7 = some ⟨oc7, od7, .func (PySem.W.fnOf "_law_beat" "_law_beat" (defArgs s_beat) (defBody s_beat) (defScope s_beat) .none kV7 dc7 pm7 an7 cd7 ct7), sl7⟩)
    (d7 : PySem.W.codeIn K cd7 "_law_beat" = true)
    (k7 : PySem.W.keepIn K (.ref f7) = true)
    (a8 : PySem.W.nsIn K mainGlobals "_law_letters" = some (some (.ref f8)))
    (l8 : K.lookup f8 = some ⟨oc8, od8, .func (PySem.W.fnOf "_law_letters" "_law_letters" (defArgs s_letters) (defBody s_letters) (defScope s_letters) .none kV8 dc8 pm8 an8 cd8 ct8), sl8⟩)
    (d8 : PySem.W.codeIn K cd8 "_law_letters" = true)
    (k8 : PySem.W.keepIn K (.ref f8) = true)
    (a9 : PySem.W.findIn K (.ref C_Hearer) "__init__" = some (some (.ref f9)))
    (i9 : PySem.W.isFn K (.ref f9) = true)
    (l9 : K.lookup f9 = some ⟨oc9, od9, .func (PySem.W.fnOf "__init__" "Hearer.__init__" (defArgs s_Hearer_init) (defBody s_Hearer_init) (defScope s_Hearer_init) .none kV9 dc9 pm9 an9 cd9 ct9), sl9⟩)
    (d9 : PySem.W.codeIn K cd9 "Hearer.__init__" = true)
    (k9 : PySem.W.keepIn K (.ref f9) = true)
    (mk_Hearer : PySem.W.makesIn K C_Hearer = true)
    (kc_Hearer : PySem.W.keepIn K (.ref C_Hearer) = true)
    (a10 : PySem.W.findIn K (.ref C_Hearer) "do" = some (some (.ref f10)))
    (i10 : PySem.W.isFn K (.ref f10) = true)
    (l10 : K.lookup f10 = some ⟨oc10, od10, .func (PySem.W.fnOf "do" "Hearer.do" (defArgs s_Hearer_do) (defBody s_Hearer_do) (defScope s_Hearer_do) .none kV10 dc10 pm10 an10 cd10 ct10), sl10⟩)
    (d10 : PySem.W.codeIn K cd10 "Hearer.do" = true)
    (k10 : PySem.W.keepIn K (.ref f10) = true)
    (a11 : PySem.W.findIn K (.ref C_Hearer) "freed" = some (some (.ref f11)))
    (i11 : PySem.W.isFn K (.ref f11) = true)
    (l11 : K.lookup f11 = some ⟨oc11, od11, .func (PySem.W.fnOf "freed" "Hearer.freed" (defArgs s_Hearer_freed) (defBody s_Hearer_freed) (defScope s_Hearer_freed) .none kV11 dc11 pm11 an11 cd11 ct11), sl11⟩)
    (d11 : PySem.W.codeIn K cd11 "Hearer.freed" = true)
    (k11 : PySem.W.keepIn K (.ref f11) = true)
    (a12 : PySem.W.findIn K (.ref C_Hearer) "changed" = some (some (.ref f12)))
    (i12 : PySem.W.isFn K (.ref f12) = true)
    (l12 : K.lookup f12 = some ⟨oc12, od12, .func (PySem.W.fnOf "changed" "Hearer.changed" (defArgs s_Hearer_changed) (defBody s_Hearer_changed) (defScope s_Hearer_changed) .none kV12 dc12 pm12 an12 cd12 ct12), sl12⟩)
    (d12 : PySem.W.codeIn K cd12 "Hearer.changed" = true)
    (k12 : PySem.W.keepIn K (.ref f12) = true)
    (a13 : PySem.W.findIn K (.ref C_Hearer) "copied" = some (some (.ref f13)))
    (i13 : PySem.W.isFn K (.ref f13) = true)
    (l13 : K.lookup f13 = some ⟨oc13, od13, .func (PySem.W.fnOf "copied" "Hearer.copied" (defArgs s_Hearer_copied) (defBody s_Hearer_copied) (defScope s_Hearer_copied) .none kV13 dc13 pm13 an13 cd13 ct13), sl13⟩)
    (d13 : PySem.W.codeIn K cd13 "Hearer.copied" = true)
    (k13 : PySem.W.keepIn K (.ref f13) = true)
    (a14 : PySem.W.findIn K (.ref C_Hearer) "hear" = some (some (.ref f14)))
    (i14 : PySem.W.isFn K (.ref f14) = true)
    (l14 : K.lookup f14 = some ⟨oc14, od14, .func (PySem.W.fnOf "hear" "Hearer.hear" (defArgs s_Hearer_hear) (defBody s_Hearer_hear) (defScope s_Hearer_hear) .none kV14 dc14 pm14 an14 cd14 ct14), sl14⟩)
    (d14 : PySem.W.codeIn K cd14 "Hearer.hear" = true)
    (k14 : PySem.W.keepIn K (.ref f14) = true)
    (a15 : PySem.W.findIn K (.ref C_Hearer) "look" = some (some (.ref f15)))
    (i15 : PySem.W.isFn K (.ref f15) = true)
    (l15 : K.lookup f15 = some ⟨oc15, od15, .func (PySem.W.fnOf "look" "Hearer.look" (defArgs s_Hearer_look) (defBody s_Hearer_look) (defScope s_Hearer_look) .none kV15 dc15 pm15 an15 cd15 ct15), sl15⟩)
    (d15 : PySem.W.codeIn K cd15 "Hearer.look" = true)
    (k15 : PySem.W.keepIn K (.ref f15) = true)
    (a16 : PySem.W.findIn K (.ref C_Hearer) "known" = some (some (.ref f16)))
    (i16 : PySem.W.isFn K (.ref f16) = true)
    (l16 : K.lookup f16 = some ⟨oc16, od16, .func (PySem.W.fnOf "known" "Hearer.known" (defArgs s_Hearer_known) (defBody s_Hearer_known) (defScope s_Hearer_known) .none kV16 dc16 pm16 an16 cd16 ct16), sl16⟩)
    (d16 : PySem.W.codeIn K cd16 "Hearer.known" = true)
    (k16 : PySem.W.keepIn K (.ref f16) = true)
    (a17 : PySem.W.findIn K (.ref C_Hearer) "held" = some (some (.ref f17)))
    (i17 : PySem.W.isFn K (.ref f17) = true)
    (l17 : K.lookup f17 = some ⟨oc17, od17, .func (PySem.W.fnOf "held" "Hearer.held" (defArgs s_Hearer_held) (defBody s_Hearer_held) (defScope s_Hearer_held) .none kV17 dc17 pm17 an17 cd17 ct17), sl17⟩)
    (d17 : PySem.W.codeIn K cd17 "Hearer.held" = true)
    (k17 : PySem.W.keepIn K (.ref f17) = true)
    (a18 : PySem.W.findIn K (.ref C_Hearer) "whole" = some (some (.ref f18)))
    (i18 : PySem.W.isFn K (.ref f18) = true)
    (l18 : K.lookup f18 = some ⟨oc18, od18, .func (PySem.W.fnOf "whole" "Hearer.whole" (defArgs s_Hearer_whole) (defBody s_Hearer_whole) (defScope s_Hearer_whole) .none kV18 dc18 pm18 an18 cd18 ct18), sl18⟩)
    (d18 : PySem.W.codeIn K cd18 "Hearer.whole" = true)
    (k18 : PySem.W.keepIn K (.ref f18) = true)
    (a19 : PySem.W.nsIn K mainGlobals "_law_stand" = some (some (.ref f19)))
    (l19 : K.lookup f19 = some ⟨oc19, od19, .func (PySem.W.fnOf "_law_stand" "_law_stand" (defArgs s_stand) (defBody s_stand) (defScope s_stand) .none kV19 dc19 pm19 an19 cd19 ct19), sl19⟩)
    (d19 : PySem.W.codeIn K cd19 "_law_stand" = true)
    (k19 : PySem.W.keepIn K (.ref f19) = true)
    (a20 : PySem.W.nsIn K mainGlobals "numbers_of" = some (some (.ref f20)))
    (l20 : K.lookup f20 = some ⟨oc20, od20, .func (PySem.W.fnOf "numbers_of" "numbers_of" (defArgs s_numbers_of) (defBody s_numbers_of) (defScope s_numbers_of) .none kV20 dc20 pm20 an20 cd20 ct20), sl20⟩)
    (d20 : PySem.W.codeIn K cd20 "numbers_of" = true)
    (k20 : PySem.W.keepIn K (.ref f20) = true)
    (a21 : PySem.W.nsIn K mainGlobals "written" = some (some (.ref f21)))
    (l21 : K.lookup f21 = some ⟨oc21, od21, .func (PySem.W.fnOf "written" "written" (defArgs s_written) (defBody s_written) (defScope s_written) .none kV21 dc21 pm21 an21 cd21 ct21), sl21⟩)
    (d21 : PySem.W.codeIn K cd21 "written" = true)
    (k21 : PySem.W.keepIn K (.ref f21) = true)
    (a22 : PySem.W.nsIn K mainGlobals "_law_text" = some (some (.ref f22)))
    (l22 : K.lookup f22 = some ⟨oc22, od22, .func (PySem.W.fnOf "_law_text" "_law_text" (defArgs s_text) (defBody s_text) (defScope s_text) .none kV22 dc22 pm22 an22 cd22 ct22), sl22⟩)
    (d22 : PySem.W.codeIn K cd22 "_law_text" = true)
    (k22 : PySem.W.keepIn K (.ref f22) = true)
    (a23 : PySem.W.nsIn K mainGlobals "number_of" = some (some (.ref f23)))
    (l23 : K.lookup f23 = some ⟨oc23, od23, .func (PySem.W.fnOf "number_of" "number_of" (defArgs s_number_of) (defBody s_number_of) (defScope s_number_of) .none kV23 dc23 pm23 an23 cd23 ct23), sl23⟩)
    (d23 : PySem.W.codeIn K cd23 "number_of" = true)
    (k23 : PySem.W.keepIn K (.ref f23) = true)
    (a24 : PySem.W.nsIn K mainGlobals "is_right" = some (some (.ref f24)))
    (l24 : K.lookup f24 = some ⟨oc24, od24, .func (PySem.W.fnOf "is_right" "is_right" (defArgs s_is_right) (defBody s_is_right) (defScope s_is_right) .none kV24 dc24 pm24 an24 cd24 ct24), sl24⟩)
    (d24 : PySem.W.codeIn K cd24 "is_right" = true)
    (k24 : PySem.W.keepIn K (.ref f24) = true)
    (a25 : PySem.W.nsIn K mainGlobals "is_done" = some (some (.ref f25)))
    (l25 : K.lookup f25 = some ⟨oc25, od25, .func (PySem.W.fnOf "is_done" "is_done" (defArgs s_is_done) (defBody s_is_done) (defScope s_is_done) .none kV25 dc25 pm25 an25 cd25 ct25), sl25⟩)
    (d25 : PySem.W.codeIn K cd25 "is_done" = true)
    (k25 : PySem.W.keepIn K (.ref f25) = true)
    (a26 : PySem.W.findIn K (.ref C_BadText) "__init__" = some (some (.ref f26)))
    (i26 : PySem.W.typeIn K (.ref f26) = some (.type "function"))
    (l26 : K.lookup f26 = some ⟨oc26, od26, .func (PySem.W.fnOf "__init__" "BadText.__init__" (defArgs s_BadText_init) (defBody s_BadText_init) (defScope s_BadText_init) .none kV26 dc26 pm26 an26 cd26 ct26), sl26⟩)
    (d26 : PySem.W.codeIn K cd26 "BadText.__init__" = true)
    (k26 : PySem.W.keepIn K (.ref f26) = true)
    (a27 : PySem.W.nsIn K mainGlobals "read" = some (some (.ref f27)))
    (l27 : K.lookup f27 = some ⟨oc27, od27, .func (PySem.W.fnOf "read" "read" (defArgs s_read) (defBody s_read) (defScope s_read) .none kV27 dc27 pm27 an27 cd27 ct27), sl27⟩)
    (d27 : PySem.W.codeIn K cd27 "read" = true)
    (k27 : PySem.W.keepIn K (.ref f27) = true)
    (a28 : PySem.W.nsIn K mainGlobals "law" = some (some (.ref f28)))
    (l28 : K.lookup f28 = some ⟨oc28, od28, .func (PySem.W.fnOf "law" "law" (defArgs s_law) (defBody s_law) (defScope s_law) .none kV28 dc28 pm28 an28 cd28 ct28), sl28⟩)
    (d28 : PySem.W.codeIn K cd28 "law" = true)
    (k28 : PySem.W.keepIn K (.ref f28) = true)
    : ∃ fd : FuncData, (∀ (s : Shared) (v : Value), BindsTo s fd ⟨[v], []⟩ [("_law_script", v)]) ∧ ∀ base : Heap, K.In base → base.Ns mainGlobals mg → FnOk l.prog w K mg base CX0 5 fa fd ["_law_script"] (spLaw K) := by
  have e := hfa.symm.trans (PySem.W.mg_of X G a28)
  cases e
  have Bm : Blt mg := ⟨PySem.W.mg_none_of X G b_len, PySem.W.mg_none_of X G b_range, PySem.W.mg_none_of X G b_int, PySem.W.mg_none_of X G b_list, PySem.W.mg_none_of X G b_tuple, PySem.W.mg_none_of X G b_sorted, PySem.W.mg_none_of X G b_min, PySem.W.mg_none_of X G b_max, PySem.W.mg_none_of X G b_sum, PySem.W.mg_none_of X G b_set, PySem.W.mg_none_of X G b_str, PySem.W.mg_none_of X G b_isinstance, PySem.W.mg_none_of X G b_enumerate, PySem.W.mg_none_of X G b_zip, PySem.W.mg_none_of X G b_bool, PySem.W.mg_none_of X G b_dict⟩
  have km_MOST_KEYS := PySem.W.mg_of X G c_MOST_KEYS
  have km_MOST_FIGURES := PySem.W.mg_of X G c_MOST_FIGURES
  have km_FIGURES := PySem.W.mg_of X G c_FIGURES
  have CHearer : CHr K C_Hearer := ⟨⟨pg_Hearer, hd_Hearer, po_Hearer, sa_Hearer⟩, no0_Hearer, no1_Hearer, no2_Hearer, no3_Hearer⟩
  have CCatchError : CeR K mg C_CatchError := ⟨PySem.W.mg_of X G ac_CatchError, rd_CatchError, ge_CatchError, ci_CatchError⟩
  have XBadText : Xc K C_BadText "place" := ⟨⟨⟨nm_BadText, qn_BadText, N_BadText, bs_BadText, _, sn_BadText, sb_BadText, ab_BadText, col_BadText, dd_BadText, m0_BadText, m1_BadText, m2_BadText, m3_BadText, m5_BadText, xl_BadText, rfl⟩, sa_BadText, eC_BadText, tC_BadText, kC_BadText⟩, ⟨ga_BadText, gg_BadText, eC_BadText, hC_BadText⟩, nf_BadText⟩
  have F1 : Fd K mg "_law_dice" s_dice := ⟨_, _, fun_mk (st := s_dice) l1 d1 k1, PySem.W.mg_of X G a1⟩
  have F2 : Fd K mg "_law_next" s_next := ⟨_, _, fun_mk (st := s_next) l2 d2 k2, PySem.W.mg_of X G a2⟩
  have F3 : Fd K mg "_law_worth" s_worth := ⟨_, _, fun_mk (st := s_worth) l3 d3 k3, PySem.W.mg_of X G a3⟩
  have F4 : Fd K mg "_law_changes" s_changes := ⟨_, _, fun_mk (st := s_changes) l4 d4 k4, PySem.W.mg_of X G a4⟩
  have F5 : Fd K mg "_law_story" s_story := ⟨_, _, fun_mk (st := s_story) l5 d5 k5, PySem.W.mg_of X G a5⟩
  have F6 : Fd K mg "_law_part" s_part := ⟨_, _, fun_mk (st := s_part) l6 d6 k6, PySem.W.mg_of X G a6⟩
  have F7 : Fd K mg "_law_beat" s_beat := ⟨_, _, fun_mk (st := s_beat) l7 d7 k7, PySem.W.mg_of X G a7⟩
  have F8 : Fd K mg "_law_letters" s_letters := ⟨_, _, fun_mk (st := s_letters) l8 d8 k8, PySem.W.mg_of X G a8⟩
  have F9 : Kd K mg "Hearer" C_Hearer "Hearer.__init__" s_Hearer_init := ⟨_, _, fun_mk (st := s_Hearer_init) l9 d9 k9, ⟨mk_Hearer, a9, i9, kc_Hearer⟩, PySem.W.mg_of X G ac_Hearer⟩
  have F10 : Md K C_Hearer "do" "Hearer.do" s_Hearer_do := ⟨_, _, fun_mk (st := s_Hearer_do) l10 d10 k10, ⟨a10, i10, k10⟩⟩
  have F11 : Md K C_Hearer "freed" "Hearer.freed" s_Hearer_freed := ⟨_, _, fun_mk (st := s_Hearer_freed) l11 d11 k11, ⟨a11, i11, k11⟩⟩
  have F12 : Md K C_Hearer "changed" "Hearer.changed" s_Hearer_changed := ⟨_, _, fun_mk (st := s_Hearer_changed) l12 d12 k12, ⟨a12, i12, k12⟩⟩
  have F13 : Md K C_Hearer "copied" "Hearer.copied" s_Hearer_copied := ⟨_, _, fun_mk (st := s_Hearer_copied) l13 d13 k13, ⟨a13, i13, k13⟩⟩
  have F14 : Md K C_Hearer "hear" "Hearer.hear" s_Hearer_hear := ⟨_, _, fun_mk (st := s_Hearer_hear) l14 d14 k14, ⟨a14, i14, k14⟩⟩
  have F15 : Md K C_Hearer "look" "Hearer.look" s_Hearer_look := ⟨_, _, fun_mk (st := s_Hearer_look) l15 d15 k15, ⟨a15, i15, k15⟩⟩
  have F16 : Md K C_Hearer "known" "Hearer.known" s_Hearer_known := ⟨_, _, fun_mk (st := s_Hearer_known) l16 d16 k16, ⟨a16, i16, k16⟩⟩
  have F17 : Md K C_Hearer "held" "Hearer.held" s_Hearer_held := ⟨_, _, fun_mk (st := s_Hearer_held) l17 d17 k17, ⟨a17, i17, k17⟩⟩
  have F18 : Md K C_Hearer "whole" "Hearer.whole" s_Hearer_whole := ⟨_, _, fun_mk (st := s_Hearer_whole) l18 d18 k18, ⟨a18, i18, k18⟩⟩
  have F19 : Fd K mg "_law_stand" s_stand := ⟨_, _, fun_mk (st := s_stand) l19 d19 k19, PySem.W.mg_of X G a19⟩
  have F20 : Fd K mg "numbers_of" s_numbers_of := ⟨_, _, fun_mk (st := s_numbers_of) l20 d20 k20, PySem.W.mg_of X G a20⟩
  have F21 : Fd K mg "written" s_written := ⟨_, _, fun_mk (st := s_written) l21 d21 k21, PySem.W.mg_of X G a21⟩
  have F22 : Fd K mg "_law_text" s_text := ⟨_, _, fun_mk (st := s_text) l22 d22 k22, PySem.W.mg_of X G a22⟩
  have F23 : Fd K mg "number_of" s_number_of := ⟨_, _, fun_mk (st := s_number_of) l23 d23 k23, PySem.W.mg_of X G a23⟩
  have F24 : Fd K mg "is_right" s_is_right := ⟨_, _, fun_mk (st := s_is_right) l24 d24 k24, PySem.W.mg_of X G a24⟩
  have F25 : Fd K mg "is_done" s_is_done := ⟨_, _, fun_mk (st := s_is_done) l25 d25 k25, PySem.W.mg_of X G a25⟩
  have F26 : Xd K mg "BadText" C_BadText "BadText.__init__" s_BadText_init := ⟨⟨_, _, fun_mk (st := s_BadText_init) l26 d26 k26, a26, i26⟩, PySem.W.mg_of X G ac_BadText⟩
  have F27 : Fd K mg "read" s_read := ⟨_, _, fun_mk (st := s_read) l27 d27 k27, PySem.W.mg_of X G a27⟩
  have F28 := fun_mk (st := s_law) l28 d28 k28
  refine ⟨PySem.W.fnOf "law" "law" (defArgs s_law) (defBody s_law) (defScope s_law) .none kV28 dc28 pm28 an28 cd28 ct28, fun s v => .of_eq rfl, fun base _ _ => ?_⟩
  have g_dice := ok_dice (P := l.prog) (w := w) (base := base) F1 Bm
  have g_next := ok_next (P := l.prog) (w := w) (base := base) F2 Bm
  have g_worth := ok_worth (P := l.prog) (w := w) (base := base) F3 Bm g_next
  have g_changes := ok_changes (P := l.prog) (w := w) (base := base) F4 Bm g_next g_worth
  have g_story := ok_story (P := l.prog) (w := w) (base := base) F5 Bm
  have g_part := ok_part (P := l.prog) (w := w) (base := base) F6 Bm
  have g_beat := ok_beat (P := l.prog) (w := w) (base := base) F7 Bm
  have g_letters := ok_letters (P := l.prog) (w := w) (base := base) F8 Bm g_next g_changes g_story g_part g_beat
  have k_Hearer := ok_Hinit (P := l.prog) (w := w) (base := base) F9 Bm CHearer km_MOST_KEYS
  have m_Hearer_do := ok_do (P := l.prog) (w := w) (base := base) F10 Bm CHearer
  have m_Hearer_freed := ok_freed (P := l.prog) (w := w) (base := base) F11 Bm CHearer m_Hearer_do
  have m_Hearer_changed := ok_changed (P := l.prog) (w := w) (base := base) F12 Bm CHearer m_Hearer_do m_Hearer_freed
  have m_Hearer_copied := ok_copied (P := l.prog) (w := w) (base := base) F13 Bm CHearer m_Hearer_freed
  have m_Hearer_hear := ok_hear (P := l.prog) (w := w) (base := base) F14 Bm CHearer m_Hearer_changed m_Hearer_copied
  have m_Hearer_look := ok_look (P := l.prog) (w := w) (base := base) F15 Bm CHearer
  have m_Hearer_known := ok_known (P := l.prog) (w := w) (base := base) F16 Bm CHearer
  have m_Hearer_held := ok_held (P := l.prog) (w := w) (base := base) F17 Bm CHearer
  have m_Hearer_whole := ok_whole (P := l.prog) (w := w) (base := base) F18 Bm CHearer
  have g_stand := ok_stand (P := l.prog) (w := w) (base := base) F19 Bm CHearer m_Hearer_look m_Hearer_known m_Hearer_held m_Hearer_whole
  have g_numbers_of := ok_numbers_of (P := l.prog) (w := w) (base := base) F20 Bm
  have g_written := ok_written (P := l.prog) (w := w) (base := base) F21 Bm g_numbers_of
  have g_text := ok_text (P := l.prog) (w := w) (base := base) F22 Bm
  have g_number_of := ok_number_of (P := l.prog) (w := w) (base := base) F23 Bm km_MOST_FIGURES km_FIGURES
  have g_is_right := ok_is_right (P := l.prog) (w := w) (base := base) F24 Bm g_number_of
  have g_is_done := ok_is_done (P := l.prog) (w := w) (base := base) F25 Bm
  have x_BadText := ok_BadText (P := l.prog) (w := w) (base := base) F26 CCatchError XBadText
  have g_read := ok_read (P := l.prog) (w := w) (base := base) F27 Bm g_is_right g_is_done x_BadText XBadText
  exact ok_law (P := l.prog) (w := w) (base := base) F28 Bm CHearer g_dice g_next g_letters k_Hearer m_Hearer_hear g_stand g_written g_text g_read x_BadText XBadText sub_BadText
theorem walked {l : PySem.W.OpenLaw} {q : Program} {loose : List Str} {XP : (Str → Option Value) → Heap → Prop} {YP : World → Heap → Prop} {d : DefRec} {K : Params → PySem.W.Frag} (hn : l.most = some 63) (hdf : d.params.defaults = [])
    (hY : ∀ (w : World) (h : Heap), YP w h → (K w.params).In h)
    (F : ∀ (w : World) (mg : Str → Option Value) (fa : Addr) (h : Heap), (K w.params).In h → h.Ns mainGlobals mg → mg d.name = some (.ref fa) →
      ∃ fd : FuncData, (∀ (s : Shared) (u : Value), BindsTo s fd ⟨[u], []⟩ [("_law_script", u)]) ∧ ∀ base : Heap, (K w.params).In base → base.Ns mainGlobals mg → FnOk l.prog w (K w.params) mg base CX0 5 fa fd ["_law_script"] (spLaw (K w.params))) :
    PySem.W.WalkO q loose XP YP l.row.toRowW d [] (fun f vs => PySem.call f vs) :=
  L2.walk_of (n := 63) (k := 5) (x := "_law_script") (CX := fun _ => CX0) (sp := fun w => spLaw (K w.params)) hn (by decide) hdf ⟨rfl, by decide, by decide⟩ hY F (fun _ _ a ns hl hO hS => ⟨rfl, a, ns, rfl, hl, FzL.only hO hS, fun _ => rfl⟩) fun _ _ _ _ _ z => z
end Cu
open PySem PySem.W PyProof.Rows
set_option maxHeartbeats 0 in
theorem PySem.Challenge.cw_catchup_k37_whole_letters_by_text_holds : PySem.Challenge.rw_catchup_k37_whole_letters_by_text.Holds := by
  w_on; o_law; k_head; (case hw => w_witness2)
  k_fill
  refine Cu.walked (l := PySem.Challenge.rw_catchup_k37_whole_letters_by_text) rfl rfl (fun w h Y => PySem.W.kIn_of Y) ?F
  case F =>
    intro w mg fa h KX G hmg
    refine' Cu.facts KX G hmg ?b_len ?b_range ?b_int ?b_list ?b_tuple ?b_sorted ?b_min ?b_max ?b_sum ?b_set ?b_str ?b_isinstance ?b_enumerate ?b_zip ?b_bool ?b_dict ?c_MOST_KEYS ?c_MOST_FIGURES ?c_FIGURES ?ac_Hearer ?pg_Hearer ?hd_Hearer ?po_Hearer ?sa_Hearer ?no0_Hearer ?no1_Hearer ?no2_Hearer ?no3_Hearer ?ac_CatchError ?rd_CatchError ?ge_CatchError ?ci_CatchError ?ac_BadText ?xl_BadText ?sa_BadText ?eC_BadText ?tC_BadText ?kC_BadText ?ga_BadText ?gg_BadText ?hC_BadText ?nf_BadText ?sub_BadText ?a1 ?l1 ?d1 ?k1 ?a2 ?l2 ?d2 ?k2 ?a3 ?l3 ?d3 ?k3 ?a4 ?l4 ?d4 ?k4 ?a5 ?l5 ?d5 ?k5 ?a6 ?l6 ?d6 ?k6 ?a7 ?l7 ?d7 ?k7 ?a8 ?l8 ?d8 ?k8 ?a9 ?i9 ?l9 ?d9 ?k9 ?mk_Hearer ?kc_Hearer ?a10 ?i10 ?l10 ?d10 ?k10 ?a11 ?i11 ?l11 ?d11 ?k11 ?a12 ?i12 ?l12 ?d12 ?k12 ?a13 ?i13 ?l13 ?d13 ?k13 ?a14 ?i14 ?l14 ?d14 ?k14 ?a15 ?i15 ?l15 ?d15 ?k15 ?a16 ?i16 ?l16 ?d16 ?k16 ?a17 ?i17 ?l17 ?d17 ?k17 ?a18 ?i18 ?l18 ?d18 ?k18 ?a19 ?l19 ?d19 ?k19 ?a20 ?l20 ?d20 ?k20 ?a21 ?l21 ?d21 ?k21 ?a22 ?l22 ?d22 ?k22 ?a23 ?l23 ?d23 ?k23 ?a24 ?l24 ?d24 ?k24 ?a25 ?l25 ?d25 ?k25 ?a26 ?i26 ?l26 ?d26 ?k26 ?a27 ?l27 ?d27 ?k27 ?a28 ?l28 ?d28 ?k28
    (case b_len => k_is)
    (case b_range => k_is)
    (case b_int => k_is)
    (case b_list => k_is)
    (case b_tuple => k_is)
    (case b_sorted => k_is)
    (case b_min => k_is)
    (case b_max => k_is)
    (case b_sum => k_is)
    (case b_set => k_is)
    (case b_str => k_is)
    (case b_isinstance => k_is)
    (case b_enumerate => k_is)
    (case b_zip => k_is)
    (case b_bool => k_is)
    (case b_dict => k_is)
    (case c_MOST_KEYS => k_is)
    (case c_MOST_FIGURES => k_is)
    (case c_FIGURES => k_is)
    (case ac_Hearer => k_is)
    (case pg_Hearer => k_is)
    (case hd_Hearer => k_is)
    (case po_Hearer => k_is)
    (case sa_Hearer => k_is)
    (case no0_Hearer => k_is)
    (case no1_Hearer => k_is)
    (case no2_Hearer => k_is)
    (case no3_Hearer => k_is)
    (case ac_CatchError => k_is)
    (case rd_CatchError => k_is)
    (case ge_CatchError => k_is)
    (case ci_CatchError => k_is)
    (case ac_BadText => k_is)
    (case xl_BadText => k_is)
    (case sa_BadText => k_is)
    (case eC_BadText => k_is)
    (case tC_BadText => k_is)
    (case kC_BadText => k_is)
    (case ga_BadText => k_is)
    (case gg_BadText => k_is)
    (case hC_BadText => k_is)
    (case nf_BadText => k_is)
    (case sub_BadText => k_is)
    (case a1 => k_is)
    (case l1 => k_is)
    (case d1 => k_is)
    (case k1 => k_is)
    (case a2 => k_is)
    (case l2 => k_is)
    (case d2 => k_is)
    (case k2 => k_is)
    (case a3 => k_is)
    (case l3 => k_is)
    (case d3 => k_is)
    (case k3 => k_is)
    (case a4 => k_is)
    (case l4 => k_is)
    (case d4 => k_is)
    (case k4 => k_is)
    (case a5 => k_is)
    (case l5 => k_is)
    (case d5 => k_is)
    (case k5 => k_is)
    (case a6 => k_is)
    (case l6 => k_is)
    (case d6 => k_is)
    (case k6 => k_is)
    (case a7 => k_is)
    (case l7 => k_is)
    (case d7 => k_is)
    (case k7 => k_is)
    (case a8 => k_is)
    (case l8 => k_is)
    (case d8 => k_is)
    (case k8 => k_is)
    (case a9 => k_is)
    (case i9 => k_is)
    (case l9 => k_is)
    (case d9 => k_is)
    (case k9 => k_is)
    (case mk_Hearer => k_is)
    (case kc_Hearer => k_is)
    (case a10 => k_is)
    (case i10 => k_is)
    (case l10 => k_is)
    (case d10 => k_is)
    (case k10 => k_is)
    (case a11 => k_is)
    (case i11 => k_is)
    (case l11 => k_is)
    (case d11 => k_is)
    (case k11 => k_is)
    (case a12 => k_is)
    (case i12 => k_is)
    (case l12 => k_is)
    (case d12 => k_is)
    (case k12 => k_is)
    (case a13 => k_is)
    (case i13 => k_is)
    (case l13 => k_is)
    (case d13 => k_is)
    (case k13 => k_is)
    (case a14 => k_is)
    (case i14 => k_is)
    (case l14 => k_is)
    (case d14 => k_is)
    (case k14 => k_is)
    (case a15 => k_is)
    (case i15 => k_is)
    (case l15 => k_is)
    (case d15 => k_is)
    (case k15 => k_is)
    (case a16 => k_is)
    (case i16 => k_is)
    (case l16 => k_is)
    (case d16 => k_is)
    (case k16 => k_is)
    (case a17 => k_is)
    (case i17 => k_is)
    (case l17 => k_is)
    (case d17 => k_is)
    (case k17 => k_is)
    (case a18 => k_is)
    (case i18 => k_is)
    (case l18 => k_is)
    (case d18 => k_is)
    (case k18 => k_is)
    (case a19 => k_is)
    (case l19 => k_is)
    (case d19 => k_is)
    (case k19 => k_is)
    (case a20 => k_is)
    (case l20 => k_is)
    (case d20 => k_is)
    (case k20 => k_is)
    (case a21 => k_is)
    (case l21 => k_is)
    (case d21 => k_is)
    (case k21 => k_is)
    (case a22 => k_is)
    (case l22 => k_is)
    (case d22 => k_is)
    (case k22 => k_is)
    (case a23 => k_is)
    (case l23 => k_is)
    (case d23 => k_is)
    (case k23 => k_is)
    (case a24 => k_is)
    (case l24 => k_is)
    (case d24 => k_is)
    (case k24 => k_is)
    (case a25 => k_is)
    (case l25 => k_is)
    (case d25 => k_is)
    (case k25 => k_is)
    (case a26 => k_is)
    (case i26 => k_is)
    (case l26 => k_is)
    (case d26 => k_is)
    (case k26 => k_is)
    (case a27 => k_is)
    (case l27 => k_is)
    (case d27 => k_is)
    (case k27 => k_is)
    (case a28 => k_is)
    (case l28 => k_is)
    (case d28 => k_is)
    (case k28 => k_is)
#print axioms PySem.Challenge.cw_catchup_k37_whole_letters_by_text_holds
