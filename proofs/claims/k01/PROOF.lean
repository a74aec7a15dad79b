import PyProof.Rows.All
import Wide.All
import OpenK.AllK
import Wide.FinOn
import HandS.ForMost
import HandS.Conv
import HandS.More
import HandS.SortInts
import HandS.Wide
import HandS.Walk
import HandS.Style
import HandS.Flow
import HandS.Deep
import HandS.TupAny
import KE.GoesMore
import KE.KSortedM
import HandS.Strs
import HandS.SetFor
import HandS.TupSets
import HandS.IsInst
import HandS.NoneIn
import KE.DataMinMax
import KE.KDictZip
import KE.SortData
import HandS.ExcInit
import HandS.ExcOwn
import HandS.ExcField
import HandS.ExcIs
import HandS.WordsExc
import HandS.Text
import HandS.Lambda
import HandS.EndOwn
import KE.KNestM
import PySem.Challenge.RW_catchup_k01_what_is_none
set_option Elab.async false
set_option linter.all false
set_option autoImplicit false
set_option maxRecDepth 100000
set_option maxHeartbeats 1000000
/-! Part 0: what stays, what changes; data as they lie; calls by name -/
namespace Cu
open PySem PySem.Spec PyProof.Rows L2

/-- what never changes -/
def Imm : HO → Prop
  | .tup _ => True
  | .frz _ _ => True
  | .ext _ => True
  | _ => False
theorem nl {xs : List V} : ¬ Imm (.lst xs) := fun h => h
theorem ndk {xs : List (Key × V)} : ¬ Imm (.dK xs) := fun h => h
def Mono (H H' : Hp) : Prop := ∀ b o, H b = some o → Imm o → H' b = some o
theorem Mono.refl (H : Hp) : Mono H H := fun _ _ h _ => h
theorem Mono.trans {H H1 H2 : Hp} (a : Mono H H1) (b : Mono H1 H2) : Mono H H2 := fun c o h i => b c o (a c o h i) i
theorem Mono.new {H : Hp} {p : Addr} {o : HO} (h : H p = none) : Mono H (upd H p o) := fun b u e _ => by
  rw [upd_ne (ne_of_none e h)]
  exact e
theorem Mono.put {H : Hp} {a : Addr} {o o' : HO} (h : H a = some o) (n : ¬ Imm o) : Mono H (upd H a o') := fun b u e i => by
  by_cases hb : b = a
  · subst hb
    rw [h] at e
    cases e
    exact absurd i n
  · rw [upd_ne hb]
    exact e

/-- the changing objects one owns -/
abbrev Lg := List (Addr × HO)
structure Has (H : Hp) (l : Lg) : Prop where
  nd : (l.map Prod.fst).Nodup
  at_ : ∀ p ∈ l, H p.1 = some p.2 ∧ ¬ Imm p.2
section
variable {H H' : Hp} {l l' : Lg} {a p : Addr} {o o' : HO}
theorem Has.nil : Has H [] := ⟨List.nodup_nil, fun _ h => (nomatch h)⟩
theorem Has.mem (h : Has H l) (m : (a, o) ∈ l) : H a = some o := (h.at_ _ m).1
theorem Has.head (h : Has H ((a, o) :: l)) : H a = some o := (h.at_ _ List.mem_cons_self).1
theorem Has.tail (h : Has H ((a, o) :: l)) : Has H l := ⟨(List.nodup_cons.mp h.nd).2, fun p m => h.at_ p (List.mem_cons_of_mem _ m)⟩
theorem Has.notin (h : Has H l) (f : H p = none) : p ∉ l.map Prod.fst := fun m => by
  obtain ⟨q, hq, e⟩ := List.mem_map.mp m
  have := (h.at_ q hq).1
  rw [e, f] at this
  cases this
theorem Has.ne (h : Has H l) (f : H p = none) {q : Addr × HO} (m : q ∈ l) : q.1 ≠ p := fun e => h.notin f (by rw [← e]; exact List.mem_map_of_mem m)
/-- an object that is not ours is made or written -/
theorem Has.off (h : Has H l) (n : p ∉ l.map Prod.fst) : Has (upd H p o) l := ⟨h.nd, fun q m => ⟨by
  rw [upd_ne (fun e => n (by rw [← e]; exact List.mem_map_of_mem m))]
  exact (h.at_ q m).1, (h.at_ q m).2⟩⟩
theorem Has.old (h : Has H l) (f : H p = none) : Has (upd H p o) l := h.off (h.notin f)
theorem Has.new (h : Has H l) (f : H p = none) (n : ¬ Imm o) : Has (upd H p o) ((p, o) :: l) :=
  ⟨List.nodup_cons.mpr ⟨h.notin f, h.nd⟩, fun q m => by
    rcases List.mem_cons.mp m with e | m
    · subst e
      exact ⟨upd_same, n⟩
    · exact (h.old f).at_ q m⟩
theorem Has.put (h : Has H ((a, o) :: l)) (n : ¬ Imm o') : Has (upd H a o') ((a, o') :: l) :=
  ⟨h.nd, fun q m => by
    rcases List.mem_cons.mp m with e | m
    · subst e
      exact ⟨upd_same, n⟩
    · exact (h.tail.off (List.nodup_cons.mp h.nd).1).at_ q m⟩
theorem Has.perm (h : Has H l) (e : l.Perm l') : Has H l' := ⟨(e.map Prod.fst).nodup_iff.mp h.nd, fun q m => h.at_ q (e.mem_iff.mpr m)⟩
theorem Has.sub (h : Has H l) (e : l'.Sublist l) : Has H l' := ⟨h.nd.sublist (e.map Prod.fst), fun q m => h.at_ q (e.subset m)⟩
theorem Has.mono_put (h : Has H ((a, o) :: l)) : Mono H (upd H a o') := Mono.put h.head (h.at_ _ List.mem_cons_self).2
theorem Has.right {l2 : Lg} (h : Has H (l ++ l2)) : Has H l2 := h.sub (List.sublist_append_right _ _)
theorem Has.left {l2 : Lg} (h : Has H (l ++ l2)) : Has H l := h.sub (List.sublist_append_left _ _)
theorem Has.comm {l2 : Lg} (h : Has H (l ++ l2)) : Has H (l2 ++ l) := h.perm List.perm_append_comm
/-- the first part goes behind the second -/
theorem Has.swap {l2 l3 : Lg} (h : Has H (l ++ (l2 ++ l3))) : Has H (l2 ++ (l ++ l3)) := h.perm (by
  rw [← List.append_assoc, ← List.append_assoc]
  exact List.Perm.append_right _ List.perm_append_comm)
theorem Has.swap1 {q : Addr × HO} {l3 : Lg} (h : Has H (q :: (l ++ l3))) : Has H (l ++ (q :: l3)) := h.perm List.perm_middle.symm
theorem Has.unswap1 {q : Addr × HO} {l3 : Lg} (h : Has H (l ++ (q :: l3))) : Has H (q :: (l ++ l3)) := h.perm List.perm_middle
theorem Has.swap2 {q r : Addr × HO} (h : Has H (q :: r :: l)) : Has H (r :: q :: l) := h.perm (List.Perm.swap _ _ _)
end

section
variable {K : PySem.W.Frag} {H H' : Hp} {a : Addr} {xs : List V}
/-- a list that stays -/
def FzL (K : PySem.W.Frag) (H : Hp) (a : Addr) (xs : List V) : Prop := ∀ H', Mono H H' → SqL K H' a xs
theorem FzL.mono (h : FzL K H a xs) (m : Mono H H') : FzL K H' a xs := fun H2 m2 => h H2 (m.trans m2)
theorem FzL.sq (h : FzL K H a xs) : SqL K H a xs := h H (Mono.refl H)
theorem FzL.of {o : Obj} (h : H a = some (.frz o (.lst xs))) : FzL K H a xs := fun H' m => Or.inl (Or.inr ⟨o, m _ _ h trivial⟩)
theorem FzL.only (h : Only H) (s : SqL K H a xs) : FzL K H a xs := by
  rcases s with (s | ⟨o, s⟩) | s
  · rcases h a with e | ⟨o, ys, e⟩
    · rw [e] at s
      cases s
    · rw [e] at s
      cases s
  · exact FzL.of s
  · exact fun _ _ => Or.inr s
theorem FzL.frz {o : Obj} : FzL K (upd H a (.frz o (.lst xs))) a xs := FzL.of upd_same
end

/-- a reading that is opened by its own lemma alone -/
@[irreducible] def tI (t : TE) : TE := t
theorem rd_I {t : TE} {σ : L2.St} {H : Hp} {Q : VK} (h : t σ H Q) : tI t σ H Q := by
  unfold tI
  exact h
theorem pe_I {X : Cx} {e : Expr} {t : TE} (h : PE X e t) : PE X e (tI t) := by
  unfold tI
  exact h
/-- e, a new list, from now on never changed -/
@[irreducible] def tFz (t : TE) : TE := fun σ H Q => t σ H fun v H1 => ∃ a xs, v = .ref a ∧ H1 a = some (.lst xs) ∧ ∀ o, Q (.ref a) (upd H1 a (.frz o (.lst xs)))
theorem rd_fz {t : TE} {σ : L2.St} {H : Hp} {Q : VK} (h : t σ H fun v H1 => ∃ a xs, v = .ref a ∧ H1 a = some (.lst xs) ∧ ∀ o, Q (.ref a) (upd H1 a (.frz o (.lst xs)))) : tFz t σ H Q := by
  unfold tFz
  exact h
theorem pe_fz {X : Cx} {e : Expr} {t : TE} (h : PE X e t) : PE X e (tFz t) := ⟨fun pins s σ H Q I hw => by
  unfold tFz at hw
  exact thn (h.run pins s σ H _ I hw) fun u s1 ⟨v, H1, I1, r, a, xs, ev, ha, q⟩ => by
    subst ev
    obtain ⟨od, I2⟩ := I1.lock ha trivial
    exact ⟨_, _, I2, r, q od⟩⟩

/-! ### data -/
mutual
def Rp (K : PySem.W.Frag) (H : Hp) : PyData → V → Prop
  | .none, v => v = .non
  | .bool b, v => v = .bl b
  | .int i, v => v = .int i
  | .str s, v => v = .str s
  | .list ds, v => ∃ a xs, v = .ref a ∧ FzL K H a xs ∧ RpL K H ds xs
  | .tuple ds, v => ∃ a xs, v = .ref a ∧ H a = some (.tup xs) ∧ RpL K H ds xs
  | .dict _, _ => False
def RpL (K : PySem.W.Frag) (H : Hp) : List PyData → List V → Prop
  | [], vs => vs = []
  | d :: ds, vs => ∃ v r, vs = v :: r ∧ Rp K H d v ∧ RpL K H ds r
end
section
variable {K : PySem.W.Frag} {H H' : Hp}
mutual
theorem Rp.mono (m : Mono H H') : ∀ {d : PyData} {v : V}, Rp K H d v → Rp K H' d v
  | .none, _, h => by rw [Rp] at h ⊢; exact h
  | .bool _, _, h => by rw [Rp] at h ⊢; exact h
  | .int _, _, h => by rw [Rp] at h ⊢; exact h
  | .str _, _, h => by rw [Rp] at h ⊢; exact h
  | .list ds, _, h => by
    rw [Rp] at h ⊢
    obtain ⟨a, xs, e, f, r⟩ := h
    exact ⟨a, xs, e, f.mono m, RpL.mono m r⟩
  | .tuple ds, _, h => by
    rw [Rp] at h ⊢
    obtain ⟨a, xs, e, f, r⟩ := h
    exact ⟨a, xs, e, m _ _ f trivial, RpL.mono m r⟩
  | .dict _, _, h => by rw [Rp] at h; exact h.elim
theorem RpL.mono (m : Mono H H') : ∀ {ds : List PyData} {vs : List V}, RpL K H ds vs → RpL K H' ds vs
  | [], _, h => by rw [RpL] at h ⊢; exact h
  | d :: ds, _, h => by
    rw [RpL] at h ⊢
    obtain ⟨v, r, e, h1, h2⟩ := h
    exact ⟨v, r, e, Rp.mono m h1, RpL.mono m h2⟩
end
mutual
theorem Rp.dp : ∀ {d : PyData} {v : V}, Rp K H d v → Dp K H v d
  | .none, _, h => by rw [Rp] at h; subst h; exact .non
  | .bool _, _, h => by rw [Rp] at h; subst h; exact .bl _
  | .int _, _, h => by rw [Rp] at h; subst h; exact .int _
  | .str _, _, h => by rw [Rp] at h; subst h; exact .str _
  | .list ds, _, h => by
    rw [Rp] at h
    obtain ⟨a, xs, e, f, r⟩ := h
    subst e
    exact .lst f.sq (RpL.dp r)
  | .tuple ds, _, h => by
    rw [Rp] at h
    obtain ⟨a, xs, e, f, r⟩ := h
    subst e
    exact .tup (SqT.of f) (RpL.dp r)
  | .dict _, _, h => by rw [Rp] at h; exact h.elim
theorem RpL.dp : ∀ {ds : List PyData} {vs : List V}, RpL K H ds vs → DpAll K H vs ds
  | [], _, h => by rw [RpL] at h; subst h; exact .nil
  | d :: ds, _, h => by
    rw [RpL] at h
    obtain ⟨v, r, e, h1, h2⟩ := h
    subst e
    exact .cons (Rp.dp h1) (RpL.dp h2)
end
theorem RpL.length : ∀ {ds : List PyData} {vs : List V}, RpL K H ds vs → vs.length = ds.length
  | [], _, h => by rw [RpL] at h; subst h; rfl
  | d :: ds, _, h => by
    rw [RpL] at h
    obtain ⟨v, r, e, _, h2⟩ := h
    subst e
    rw [List.length_cons, List.length_cons, h2.length]
theorem RpL.get : ∀ {ds : List PyData} {vs : List V} {i : Nat} {d : PyData}, RpL K H ds vs → ds[i]? = some d → ∃ v, vs[i]? = some v ∧ Rp K H d v
  | [], _, _, _, _, e => by simp at e
  | d :: ds, _, i, d', h, e => by
    rw [RpL] at h
    obtain ⟨v, r, e1, h1, h2⟩ := h
    subst e1
    cases i with
    | zero =>
      have e2 : d = d' := by simpa using e
      subst e2
      exact ⟨v, rfl, h1⟩
    | succ i => exact h2.get (by simpa using e)
theorem RpL.nil : RpL K H [] [] := by rw [RpL]
theorem RpL.cons {d : PyData} {ds : List PyData} {v : V} {vs : List V} (h : Rp K H d v) (r : RpL K H ds vs) : RpL K H (d :: ds) (v :: vs) := by
  rw [RpL]
  exact ⟨v, vs, rfl, h, r⟩
theorem RpL.append : ∀ {ds es : List PyData} {vs us : List V}, RpL K H ds vs → RpL K H es us → RpL K H (ds ++ es) (vs ++ us)
  | [], _, _, _, h, g => by rw [RpL] at h; subst h; exact g
  | d :: ds, _, _, _, h, g => by
    rw [RpL] at h
    obtain ⟨v, r, e1, h1, h2⟩ := h
    subst e1
    exact .cons h1 (h2.append g)
theorem RpL.snoc {ds : List PyData} {vs : List V} {d : PyData} {v : V} (h : RpL K H ds vs) (g : Rp K H d v) : RpL K H (ds ++ [d]) (vs ++ [v]) := h.append (.cons g .nil)
theorem RpL.take : ∀ {ds : List PyData} {vs : List V} (n : Nat), RpL K H ds vs → RpL K H (ds.take n) (vs.take n)
  | [], _, n, h => by rw [RpL] at h; subst h; simpa using RpL.nil
  | d :: ds, _, n, h => by
    rw [RpL] at h
    obtain ⟨v, r, e1, h1, h2⟩ := h
    subst e1
    cases n with
    | zero => exact .nil
    | succ n => exact .cons h1 (h2.take n)
theorem RpL.drop : ∀ {ds : List PyData} {vs : List V} (n : Nat), RpL K H ds vs → RpL K H (ds.drop n) (vs.drop n)
  | [], _, n, h => by rw [RpL] at h; subst h; simpa using RpL.nil
  | d :: ds, _, n, h => by
    rw [RpL] at h
    obtain ⟨v, r, e1, h1, h2⟩ := h
    subst e1
    cases n with
    | zero => exact .cons h1 h2
    | succ n => exact h2.drop n
theorem Rp.int_iff {i : Int} {v : V} : Rp K H (.int i) v ↔ v = .int i := by rw [Rp]
theorem Rp.str_iff {i : Str} {v : V} : Rp K H (.str i) v ↔ v = .str i := by rw [Rp]
theorem Rp.bool_iff {i : Bool} {v : V} : Rp K H (.bool i) v ↔ v = .bl i := by rw [Rp]
theorem Rp.none_iff {v : V} : Rp K H .none v ↔ v = .non := by rw [Rp]
theorem Rp.int {i : Int} : Rp K H (.int i) (.int i) := by rw [Rp]
theorem Rp.str {i : Str} : Rp K H (.str i) (.str i) := by rw [Rp]
theorem Rp.bool {i : Bool} : Rp K H (.bool i) (.bl i) := by rw [Rp]
theorem Rp.non : Rp K H .none .non := by rw [Rp]
theorem Rp.tup {ds : List PyData} {a : Addr} {xs : List V} (h : H a = some (.tup xs)) (r : RpL K H ds xs) : Rp K H (.tuple ds) (.ref a) := by
  rw [Rp]
  exact ⟨a, xs, rfl, h, r⟩
theorem Rp.lst {ds : List PyData} {a : Addr} {xs : List V} (h : FzL K H a xs) (r : RpL K H ds xs) : Rp K H (.list ds) (.ref a) := by
  rw [Rp]
  exact ⟨a, xs, rfl, h, r⟩
theorem Rp.tup_inv {ds : List PyData} {v : V} (h : Rp K H (.tuple ds) v) : ∃ a xs, v = .ref a ∧ H a = some (.tup xs) ∧ RpL K H ds xs := by rwa [Rp] at h
theorem Rp.lst_inv {ds : List PyData} {v : V} (h : Rp K H (.list ds) v) : ∃ a xs, v = .ref a ∧ FzL K H a xs ∧ RpL K H ds xs := by rwa [Rp] at h
theorem RpL.nil_inv {vs : List V} (h : RpL K H [] vs) : vs = [] := by rwa [RpL] at h
theorem RpL.cons_inv {d : PyData} {ds : List PyData} {vs : List V} (h : RpL K H (d :: ds) vs) : ∃ v r, vs = v :: r ∧ Rp K H d v ∧ RpL K H ds r := by rwa [RpL] at h
theorem RpL.ints : ∀ {ns : List Int} {vs : List V}, RpL K H (ns.map PyData.int) vs → vs = ns.map V.int
  | [], _, h => h.nil_inv
  | n :: ns, _, h => by
    obtain ⟨v, r, e, h1, h2⟩ := h.cons_inv
    rw [Rp.int_iff] at h1
    rw [e, h1, h2.ints]
    rfl
theorem RpL.of_ints : ∀ (ns : List Int), RpL K H (ns.map PyData.int) (ns.map V.int)
  | [] => .nil
  | n :: ns => .cons .int (RpL.of_ints ns)
theorem Dp.ints {a : Addr} {ns : List Int} (h : SqL K H a (ns.map V.int)) : Dp K H (.ref a) (.list (ns.map PyData.int)) := .lst h (RpL.dp (RpL.of_ints ns))
end

/-! ### a def of the top, a method, a class, by name -/
section
variable (P : Program) (w : World) (K : PySem.W.Frag) (mg : Str → Option Value) (base : Heap)
structure Gf (j : Nat) (x : Str) (ps : List Str) (sp : Sp) : Prop where
  ex : ∃ f fd, FnOk P w K mg base CX0 j f fd ps sp ∧ mg x = some (.ref f) ∧ PySem.W.keepIn K (.ref f) = true ∧ Binds K fd ps []
structure Mf (j : Nat) (C : Addr) (m : Str) (ps : List Str) (sp : Sp) : Prop where
  ex : ∃ f fd, FnOk P w K mg base CX0 j f fd ps sp ∧ Meth K C m f ∧ Binds K fd ps []
structure Kf (j : Nat) (x : Str) (C : Addr) (ps : List Str) (sp : Sp) : Prop where
  ex : ∃ f fd, FnOk P w K mg base CX0 j f fd ps sp ∧ Mk K C f ∧ mg x = some (.ref C) ∧ Binds K fd ps []
end
section
variable {X : Cx} {j k : Nat} {x m : Str} {C : Addr} {ps : List Str} {sp : Sp} {p pos apos : Pos} {e o : Expr} {es : List Expr} {t : TA} {to : TE}
theorem pc (g : Gf X.prog X.w X.K X.mg X.base j x ps sp) (hr : Room k X.A) (ha : PA X (e :: es) t) (hg : Gl X x := by rfl) (hj : j ≤ k := by decide) (hdb : (x == ("__debug__" : Str)) = false := by decide)
    (he : starEach (e :: es) X.env = (false, eval e X.env) :: starEach es X.env := by rfl) (hpl : (backTo pos (starEach es X.env)).any (·.1) = false := by rfl) :
    PE X (.Call (.Name x p) (e :: es) [] pos) (tCall sp [] E0 t) := by
  obtain ⟨f, fd, F, hm, hk, hb⟩ := g.ex
  exact pe_call F (hr.mono hj) hg hm hk hb .nil pass0 ha hdb he hpl
theorem pc0 (g : Gf X.prog X.w X.K X.mg X.base j x ps sp) (hr : Room k X.A) (hg : Gl X x := by rfl) (hj : j ≤ k := by decide) (hdb : (x == ("__debug__" : Str)) = false := by decide) :
    PE X (.Call (.Name x p) [] [] pos) (tCall sp [] E0 tNil) := by
  obtain ⟨f, fd, F, hm, hk, hb⟩ := g.ex
  exact pe_call0 F (hr.mono hj) hg hm hk hb .nil pass0 hdb
theorem pm {pl : Sem Bool} (ho : PE X o to) (c : Cls X.K C) (g : Mf X.prog X.w X.K X.mg X.base j C m ps sp) (hr : Room k X.A) (ha : PA X (e :: es) t) (hj : j ≤ k := by decide)
    (hst : starEach (e :: es) X.env = (false, eval e X.env) :: starEach es X.env := by rfl) (hpl : (backTo pos (starEach es X.env)).any (·.1) = false := by rfl)
    (ht : eval (.Call (.Attribute o m apos) (e :: es) [] pos) X.env = (do
      let ov ← eval o X.env
      standAt apos.atName
      let (f, first) ← holding [ov] (getMethod ov m pl)
      callWith pos f first (backTo pos (starEach (e :: es) X.env)) (backToKw pos (keywordEach [] X.env))) := by rfl) :
    PE X (.Call (.Attribute o m apos) (e :: es) [] pos) (tMeth C m sp [] E0 to t) := by
  obtain ⟨f, fd, F, hm, hb⟩ := g.ex
  exact pe_meth ho c hm F (hr.mono hj) hb .nil pass0 ha hst hpl ht
theorem pm0 {pl : Sem Bool} (ho : PE X o to) (c : Cls X.K C) (g : Mf X.prog X.w X.K X.mg X.base j C m ps sp) (hr : Room k X.A) (hj : j ≤ k := by decide)
    (ht : eval (.Call (.Attribute o m apos) [] [] pos) X.env = (do
      let ov ← eval o X.env
      standAt apos.atName
      let (f, first) ← holding [ov] (getMethod ov m pl)
      callWith pos f first (backTo pos (starEach [] X.env)) (backToKw pos (keywordEach [] X.env))) := by rfl) :
    PE X (.Call (.Attribute o m apos) [] [] pos) (tMeth C m sp [] E0 to tNil) := by
  obtain ⟨f, fd, F, hm, hb⟩ := g.ex
  exact pe_meth0 ho c hm F (hr.mono hj) hb .nil pass0 ht
theorem pk (g : Kf X.prog X.w X.K X.mg X.base j x C ps sp) (hr : Room k X.A) (ha : PA X (e :: es) t) (hg : Gl X x := by rfl) (hj : j + 1 ≤ k := by decide) (hdb : (x == ("__debug__" : Str)) = false := by decide)
    (he : starEach (e :: es) X.env = (false, eval e X.env) :: starEach es X.env := by rfl) (hpl : (backTo pos (starEach es X.env)).any (·.1) = false := by rfl) :
    PE X (.Call (.Name x p) (e :: es) [] pos) (tMake C sp [] E0 t) := by
  obtain ⟨f, fd, F, M, hm, hb⟩ := g.ex
  exact pe_make M F (hr.mono hj) hg hm hb .nil pass0 ha hdb he hpl
end

/-! ### the dice -/
/-- the dice at a, beside what else is owned -/
def Dice (K : PySem.W.Frag) (H : Hp) (a : Addr) (R : Lg) : Prop := ∃ (c : Addr) (ns : List Int) (i m r : Int), 0 ≤ i ∧ ns.length ≤ 1000 ∧ FzL K H c (ns.map V.int) ∧ Has H ((a, .lst [.ref c, .int i, .int m, .int r]) :: R)
section
variable {K : PySem.W.Frag} {H H' : Hp} {a p : Addr} {R R' : Lg} {o o' : HO}
theorem Dice.has (d : Dice K H a R) : Has H R := let ⟨_, _, _, _, _, _, _, _, h⟩ := d; h.tail
theorem Dice.new (d : Dice K H a R) (f : H p = none) (n : ¬ Imm o) : Dice K (upd H p o) a ((p, o) :: R) :=
  let ⟨c, ns, i, m, r, h1, h2, h3, h⟩ := d
  ⟨c, ns, i, m, r, h1, h2, h3.mono (Mono.new f), (h.new f n).swap2⟩
theorem Dice.old (d : Dice K H a R) (f : H p = none) : Dice K (upd H p o) a R :=
  let ⟨c, ns, i, m, r, h1, h2, h3, h⟩ := d
  ⟨c, ns, i, m, r, h1, h2, h3.mono (Mono.new f), h.old f⟩
theorem Dice.put (d : Dice K H a ((p, o) :: R)) (n : ¬ Imm o') : Dice K (upd H p o') a ((p, o') :: R) :=
  let ⟨c, ns, i, m, r, h1, h2, h3, h⟩ := d
  ⟨c, ns, i, m, r, h1, h2, h3.mono h.swap2.mono_put, (h.swap2.put n).swap2⟩
theorem Dice.at_ (d : Dice K H a ((p, o) :: R)) : H p = some o := d.has.head
theorem Dice.mput (d : Dice K H a ((p, o) :: R)) : Mono H (upd H p o') := d.has.mono_put
theorem Dice.perm (d : Dice K H a R) (e : R.Perm R') : Dice K H a R' :=
  let ⟨c, ns, i, m, r, h1, h2, h3, h⟩ := d
  ⟨c, ns, i, m, r, h1, h2, h3, h.perm (e.cons _)⟩
theorem Dice.sub (d : Dice K H a R) (e : R'.Sublist R) : Dice K H a R' :=
  let ⟨c, ns, i, m, r, h1, h2, h3, h⟩ := d
  ⟨c, ns, i, m, r, h1, h2, h3, h.sub (e.cons_cons _)⟩
theorem Dice.tail (d : Dice K H a ((p, o) :: R)) : Dice K H a R := d.sub (List.sublist_cons_self _ _)
/-- an owned list is let go, and stays from now on -/
theorem Dice.fz {xs : List V} {ob : Obj} (d : Dice K H a ((p, .lst xs) :: R)) : Dice K (upd H p (.frz ob (.lst xs))) a R :=
  let ⟨c, ns, i, m, r, h1, h2, h3, h⟩ := d
  ⟨c, ns, i, m, r, h1, h2, h3.mono h.swap2.mono_put, h.swap2.tail.off (List.nodup_cons.mp h.swap2.nd).1⟩
theorem Dice.mfz {xs : List V} {ob : Obj} (d : Dice K H a ((p, .lst xs) :: R)) : Mono H (upd H p (.frz ob (.lst xs))) := d.mput
/-- what others do with what is owned beside -/
theorem Dice.go (d : Dice K H a R) (h : ∀ S, Has H (R ++ S) → Mono H H' ∧ Has H' (R' ++ S)) : Dice K H' a R' := by
  obtain ⟨c, ns, i, m, r, h1, h2, h3, hh⟩ := d
  have q : Has H (R ++ [(a, .lst [.ref c, .int i, .int m, .int r])]) := hh.perm (List.perm_append_singleton _ _).symm
  obtain ⟨m1, q1⟩ := h _ q
  exact ⟨c, ns, i, m, r, h1, h2, h3.mono m1, q1.perm (List.perm_append_singleton _ _)⟩
end
end Cu

/-! Part 1: a def as it stands behind the top -/
namespace Cu
open PySem PySem.Spec PyProof.Rows L2
def top (i : Nat) : Stmt := PySem.Challenge.pw_catchup_k01_what_is_none.main.body.getD i (.Pass ⟨0, 0, 0, 0⟩)
/-- no built-in's name is the module's -/
structure Blt (mg : Str → Option Value) : Prop where
  len : mg "len" = none
  range : mg "range" = none
  int : mg "int" = none
  list : mg "list" = none
  tuple : mg "tuple" = none
  sorted : mg "sorted" = none
  min : mg "min" = none
  max : mg "max" = none
  sum : mg "sum" = none
  set : mg "set" = none
  str : mg "str" = none
  isinstance : mg "isinstance" = none
  enumerate : mg "enumerate" = none
  zip : mg "zip" = none
  bool : mg "bool" = none
  dict : mg "dict" = none
section
variable (K : PySem.W.Frag) (mg : Str → Option Value)
structure Fd (x : Str) (st : Stmt) : Prop where
  ex : ∃ f fd, Fun K x x st f fd ∧ mg x = some (.ref f)
structure Md (C : Addr) (m qual : Str) (st : Stmt) : Prop where
  ex : ∃ f fd, Fun K m qual st f fd ∧ Meth K C m f
structure Kd (x : Str) (C : Addr) (qual : Str) (st : Stmt) : Prop where
  ex : ∃ f fd, Fun K "__init__" qual st f fd ∧ Mk K C f ∧ mg x = some (.ref C)
end
section
variable {P : Program} {w : World} {K : PySem.W.Frag} {mg : Str → Option Value} {base : Heap} {x m qual : Str} {C : Addr} {st : Stmt} {N ps : List Str} {k : Nat} {sp : Sp}
/-- how the written arguments come to the parameters -/
abbrev Bnd (x qual : Str) (st : Stmt) (ps : List Str) : Prop := ∀ (kV doc pm : Value) (an : Option Addr) (cdv ct : Value) (us : List Value), us.length = ps.length → bindArgs (PySem.W.fnOf x qual (defArgs st) (defBody st) (defScope st) .none kV doc pm an cdv ct) ⟨us, []⟩ = pure (ps.zip us)
theorem Fd.ok (F : Fd K mg x st) (S : FnScope N ps (defScope st)) (b : Bnd x x st ps) (len : ∀ vs H Q E, sp vs H Q E → vs.length = ps.length)
    (hbody : ∀ (qual : Str) (f : Addr) (cdv : Value) (A : Around) (outer : List Env) (s : Shared) (H : Hp) (vs : List V) (Q : VK) (E : XK), Room k (A.deeper (envOfC qual (defScope st) s.heap.objs.size f cdv)) → sp vs H Q E →
      ∃ t, PSs (cxOf CX0 P w K mg base N qual (defScope st) f cdv A outer s H E).nox (defBody st) t ∧ t { nx := fun _ H' => Q .non H', rt := Q } (start N vs) H) : Gf P w K mg base (k + 1) x ps sp := by
  obtain ⟨f, fd, F, hm⟩ := F.ex
  exact ⟨f, fd, F.ok S len fun cdv A outer s H vs Q E hr h => hbody x f cdv A outer s H vs Q E hr h, hm, F.kp, F.binds b⟩
theorem Md.ok (F : Md K C m qual st) (S : FnScope N ps (defScope st)) (b : Bnd m qual st ps) (len : ∀ vs H Q E, sp vs H Q E → vs.length = ps.length)
    (hbody : ∀ (qual : Str) (f : Addr) (cdv : Value) (A : Around) (outer : List Env) (s : Shared) (H : Hp) (vs : List V) (Q : VK) (E : XK), Room k (A.deeper (envOfC qual (defScope st) s.heap.objs.size f cdv)) → sp vs H Q E →
      ∃ t, PSs (cxOf CX0 P w K mg base N qual (defScope st) f cdv A outer s H E).nox (defBody st) t ∧ t { nx := fun _ H' => Q .non H', rt := Q } (start N vs) H) : Mf P w K mg base (k + 1) C m ps sp := by
  obtain ⟨f, fd, F, hm⟩ := F.ex
  exact ⟨f, fd, F.ok S len fun cdv A outer s H vs Q E hr h => hbody qual f cdv A outer s H vs Q E hr h, hm, F.binds b⟩
theorem Kd.ok (F : Kd K mg x C qual st) (S : FnScope N ps (defScope st)) (b : Bnd "__init__" qual st ps) (len : ∀ vs H Q E, sp vs H Q E → vs.length = ps.length)
    (hbody : ∀ (qual : Str) (f : Addr) (cdv : Value) (A : Around) (outer : List Env) (s : Shared) (H : Hp) (vs : List V) (Q : VK) (E : XK), Room k (A.deeper (envOfC qual (defScope st) s.heap.objs.size f cdv)) → sp vs H Q E →
      ∃ t, PSs (cxOf CX0 P w K mg base N qual (defScope st) f cdv A outer s H E).nox (defBody st) t ∧ t { nx := fun _ H' => Q .non H', rt := Q } (start N vs) H) : Kf P w K mg base (k + 1) x C ps sp := by
  obtain ⟨f, fd, F, hm, hx⟩ := F.ex
  exact ⟨f, fd, F.ok S len fun cdv A outer s H vs Q E hr h => hbody qual f cdv A outer s H vs Q E hr h, hm, hx, F.binds b⟩
end
theorem len_of {n : Nat} {ps : List Str} {p : List V → Hp → VK → XK → Prop} (e : n = ps.length := by rfl) : ∀ vs H Q E, (vs.length = n ∧ p vs H Q E) → vs.length = ps.length := fun _ _ _ _ h => h.1.trans e
end Cu

namespace Cu
open PySem PySem.Spec PyProof.Rows L2
/-! sorted(d) of a dict with int keys, any number of them: the keys are taken out as HandS.More does it, and sorted by the order rule of HandS.SortOrd -/
theorem call_sortedDIw {X : Cx} (hcalm : X.calm = true) : CallR X (.builtin "sorted") (fun xs H Q => ∃ (a : Addr) (kvs : List (Key × V)) (ks : List Int), xs = [.ref a] ∧ Rd H a (.dK kvs) ∧ kvs.map (·.1) = ks.map Sum.inl ∧ ks.length ≤ sizeLine ∧
    ∀ (ys : List Int) (p : Addr), ys.Perm ks → ys.Pairwise (· ≤ ·) → H p = none → Q (.ref p) (upd H p (.lst (ys.map V.int)))) := by
  intro pins s σ H xs us Q I r ⟨a, kvs, ks, ex, hd, hks, h64, q⟩
  subst ex
  obtain ⟨u, eu, rx⟩ := vals1 r
  subst eu
  cases rx
  obtain ⟨z, lo, vs, rel, dd⟩ := dk_rd I.hok hd
  obtain ⟨ep, hat⟩ := dd.dictAt
  have hkeys : vs.map (·.1) = ks.map Sum.inl := rel.keys.symm.trans hks
  have hl : vs.length = ks.length := by
    have e := congrArg List.length hkeys
    rwa [List.length_map, List.length_map] at e
  refine Calls.call_function_entry PyProof.Rows.kind_sorted PyProof.Rows.plain_sorted PyProof.Rows.entry_sorted (PyProof.Rows.args_sorted1 _) ?_
  unfold Builtin.«sorted»
  refine wpAny_bind (m := checkCount "sorted" 1 1 _) (wpAny_pure ?_)
  refine wpAny_bind (PySem.W.kdu_collect (A := X.A.in1) (PySem.W.kdl_dict (knd := mixKind X.prog X.w) (kvs := vs) (ep := ep) lo) (I.ok.hd hcalm) hat (by rw [hl]; exact h64) fun h' tk acc hk hacc => ?_)
  have hal : acc.toList.length = ks.length := by rw [Array.length_toList, hacc.1, hl]
  have hS : IntsAre acc.toList ks := ints_each hal fun j v e => by
    obtain ⟨k, x, e1, e2⟩ := hacc.2 j v (by rw [← Array.getElem?_toList]; exact e)
    have e3 : (vs.map (·.1))[j]? = some k := by rw [List.getElem?_map, e1]; rfl
    rw [hkeys, List.getElem?_map] at e3
    cases e4 : ks[j]? with
    | none =>
      rw [e4] at e3
      cases e3
    | some y =>
      rw [e4] at e3
      have e5 : Sum.inl y = k := Option.some.inj e3
      subst e5
      rcases keyIs_shape (show keyIs (Sum.inl y) v = true from e2) with ⟨i, t, ek, ev⟩ | ⟨z, t, ek, ev⟩
      · cases ek
        exact ⟨y, t, rfl, ev⟩
      · cases ek
  have I1 : Inv X pins σ H { s with heap := h', toks := tk } := I.kept hk
  refine wpAny_bind (wpAny_newList ?_ (by rw [hal]; exact h64))
  have hoL : (h'.push (seqObj "list" acc.toList.toArray 0)).get? h'.objs.size = some (seqObj "list" acc.toList.toArray 0) := Heap.get?_push_size _ rfl
  show wpAny _ _ _ _ _ { s with heap := h'.push (seqObj "list" acc.toList.toArray 0), toks := tk }
  refine wpAny_bind (wpAny_holding (wpAny_call_entry PyProof.Rows.slot_list_sort ⟨_, hoL, rfl⟩ PyProof.Rows.entry_list_sort
    (SrtO.list_sort_ord (s := { s with heap := h'.push (seqObj "list" acc.toList.toArray 0), toks := tk }) SrtO.swo_int hoL (by rw [hal]; exact h64) (fun h2 => SrtO.ints_sortable hS h2) fun out h1 h2 => ⟨_, rfl, ?_⟩) (PyProof.Rows.args_list_sort _)))
  obtain ⟨k1, k2, k3⟩ := SrtO.ints_out hS h1 h2
  obtain ⟨e', he'⟩ := PyProof.Rows.sortedHeap_at (vs := acc.toList) (out := out.toArray) hoL
  have hlen : ((out.map SrtO.iv).map V.int).length ≤ sizeLine := by
    rw [List.length_map, k2.length_eq]
    exact h64
  refine wpAny_pure ⟨_, rfl, .ref h'.objs.size, upd H h'.objs.size (.lst ((out.map SrtO.iv).map V.int)), I1.laid (t' := tk) (fun b u e => ?_) (Nat.le_refl _)
    (show ObjOk X.prog X.w _ _ _ (.lst ((out.map SrtO.iv).map V.int)) from ⟨hlen, out, e', vals_of_ints k1, he'⟩), rfl, q _ _ k2 k3 (I1.hok.fresh (Nat.le_refl _))⟩
  have hb : b < h'.objs.size := Heap.lt_size e
  rw [PyProof.Rows.sortedHeap_old (Nat.ne_of_lt hb) (by rw [size_push']; exact Nat.lt_succ_of_lt hb)]
  exact Heap.get?_push_of_some _ e
end Cu

namespace Cu
open PySem PySem.Spec PyProof.Rows L2
/-- a statement of several ends: what stands behind all of them -/
@[irreducible] def tMid (t : TS) : TS := fun D σ H => ∃ N : L2.St → Hp → Prop, t { D with nx := N } σ H ∧ ∀ σ' H', N σ' H' → D.nx σ' H'
theorem rd_mid {t : TS} {D : Ends} {σ : L2.St} {H : Hp} (N : L2.St → Hp → Prop) (h : t { D with nx := N } σ H) (k : ∀ σ' H', N σ' H' → D.nx σ' H') : tMid t D σ H := by
  unfold tMid
  exact ⟨N, h, k⟩
theorem ps_mid {X : Cx} {st : Stmt} {t : TS} (h : PS X st t) : PS X st (tMid t) := ⟨fun pins s σ H D I hw => by
  unfold tMid at hw
  obtain ⟨N, h1, k⟩ := hw
  refine thn (h.run pins s σ H _ I h1) fun f s1 q => ?_
  cases f with
  | next =>
    obtain ⟨σ', H', I', q⟩ := q
    exact ⟨σ', H', I', k _ _ q⟩
  | brk => exact q
  | cont => exact q
  | ret u => exact q⟩
/-- e, and a list in it, if there is one, from now on never changed -/
@[irreducible] def tFzw (t : TE) : TE := fun σ H Q => t σ H fun v H1 => Q v H1 ∨ ∃ a xs, H1 a = some (.lst xs) ∧ ∀ o, Q v (upd H1 a (.frz o (.lst xs)))
theorem rd_fzw {t : TE} {σ : L2.St} {H : Hp} {Q : VK} (h : t σ H fun v H1 => Q v H1 ∨ ∃ a xs, H1 a = some (.lst xs) ∧ ∀ o, Q v (upd H1 a (.frz o (.lst xs)))) : tFzw t σ H Q := by
  unfold tFzw
  exact h
theorem pe_fzw {X : Cx} {e : Expr} {t : TE} (h : PE X e t) : PE X e (tFzw t) := ⟨fun pins s σ H Q I hw => by
  unfold tFzw at hw
  refine thn (h.run pins s σ H _ I hw) fun u s1 ⟨v, H1, I1, r, q⟩ => ?_
  rcases q with q | ⟨a, xs, ha, q⟩
  · exact ⟨_, _, I1, r, q⟩
  · obtain ⟨od, I2⟩ := I1.lock ha trivial
    exact ⟨_, _, I2, r, q od⟩⟩
end Cu

namespace Cu
open PySem PySem.Spec PyProof.Rows L2
/-! rules for a comprehension's element: the written part by its own name -/
section
variable {X : Cx} {tg e o l : Expr} {f : Str} {pos : Pos} {ta tl : TE}
theorem ix_listK (K : PySem.W.Frag) (h : X.K = K) : IxR X (rIxL K) := h ▸ ix_list
theorem ix_tupK (K : PySem.W.Frag) (h : X.K = K) : IxR X (rIxT K) := h ▸ ix_tup
theorem sl_listK (K : PySem.W.Frag) (h : X.K = K) : SlR X (rSlL K) := h ▸ sl_list
theorem op_eqDK (K : PySem.W.Frag) (h : X.K = K) (hu : X.A.units + 64 < cLine) : OpR X (compareOp .Eq) (rEqD K) := h ▸ op_eqD hu
theorem op_neDK (K : PySem.W.Frag) (h : X.K = K) (hu : X.A.units + 64 < cLine) : OpR X (compareOp .NotEq) (rNeD K) := h ▸ op_neD hu
theorem op_in_seqK (K : PySem.W.Frag) (h : X.K = K) : OpR X (compareOp .In) (rIn K false) := h ▸ op_in_seq
theorem op_notIn_seqK (K : PySem.W.Frag) (h : X.K = K) : OpR X (compareOp .NotIn) (rIn K true) := h ▸ op_notIn_seq
theorem call_len_seqK (K : PySem.W.Frag) (h : X.K = K) : CallR X (.builtin "len") (fun xs H Q => ∃ p ys, xs = [.ref p] ∧ (SqL K H p ys ∨ SqT K H p ys) ∧ Q (.int ys.length) H) := h ▸ call_len_seq
theorem call_list_ofK (K : PySem.W.Frag) (h : X.K = K) : CallR X (.type "list") (fun xs H Q => ∃ p ys, xs = [.ref p] ∧ (SqL K H p ys ∨ SqT K H p ys) ∧ ∀ l, H l = none → Q (.ref l) (upd H l (.lst ys))) := h ▸ call_list_of
theorem call_tuple_ofK (K : PySem.W.Frag) (h : X.K = K) : CallR X (.type "tuple") (fun xs H Q => ∃ p ys, xs = [.ref p] ∧ ((SqL K H p ys ∧ ∀ l, H l = none → Q (.ref l) (upd H l (.tup ys))) ∨ (SqT K H p ys ∧ Q (.ref p) H))) := h ▸ call_tuple_of
theorem cr_sumK (K : PySem.W.Frag) (h : X.K = K) (hc : X.calm = true) : CallR X (.builtin "sum") (rSum K) := h ▸ cr_sum hc
theorem cr_minK' (K : PySem.W.Frag) (h : X.K = K) (hc : X.calm = true) : CallR X (.builtin "min") (rMin K) := h ▸ cr_min hc
theorem cr_maxK' (K : PySem.W.Frag) (h : X.K = K) (hc : X.calm = true) : CallR X (.builtin "max") (rMax K) := h ▸ cr_max hc
theorem cr_sortedIK (K : PySem.W.Frag) (h : X.K = K) : CallR X (.builtin "sorted") (rSortedI K) := h ▸ cr_sortedI
theorem pi_listK (K : PySem.W.Frag) (h : X.K = K) (hl : PE X l tl) : PI X tg l (iList K tl) := h ▸ pi_list hl
theorem pe_fldK (K : PySem.W.Frag) (h : X.K = K) (he : PE X e ta) (hb : attributeBase e f X.env (eval e X.env) = eval e X.env) : PE X (.Attribute e f pos) (tFld K ta f) := h ▸ pe_fld he hb
end
end Cu

namespace Cu
open PySem PySem.Spec PyProof.Rows L2
abbrev s_dice : Stmt := (top 25)
theorem sc_dice : FnScope ["_law_script", "_law_mixed", "_law_cell"] ["_law_script"] (defScope s_dice) := ⟨rfl, rfl, rfl, by decide +kernel, rfl, by decide +kernel, by decide +kernel⟩

abbrev s_next : Stmt := (top 26)
theorem sc_next : FnScope ["_law_dice_here", "_law_many", "_law_found", "_law_cell"] ["_law_dice_here", "_law_many"] (defScope s_next) := ⟨rfl, rfl, rfl, by decide +kernel, rfl, by decide +kernel, by decide +kernel⟩

def spDice (K : PySem.W.Frag) : Sp := fun vs H Q _ => vs.length = 1 ∧ ∃ (c : Addr) (ns : List Int) (R : Lg), vs = [.ref c] ∧ ns.length ≤ 1000 ∧ FzL K H c (ns.map V.int) ∧ Has H R ∧
  ∀ (a : Addr) (H' : Hp), Mono H H' → Dice K H' a R → Q (.ref a) H'
def spNext (K : PySem.W.Frag) : Sp := fun vs H Q _ => vs.length = 2 ∧ ∃ (a : Addr) (m : Int) (R : Lg), vs = [.ref a, .int m] ∧ 0 < m ∧ m ≤ 1000000000000000000 ∧ Dice K H a R ∧
  ∀ (r : Int) (H' : Hp), 0 ≤ r → r < m → Mono H H' → Dice K H' a R → Q (.int r) H'
section
variable {P : Program} {w : World} {K : PySem.W.Frag} {mg : Str → Option Value} {base : Heap}
theorem ok_dice (F : Fd K mg "_law_dice" s_dice) (Bm : Blt mg) : Gf P w K mg base 1 "_law_dice" ["_law_script"] (spDice K) := by
  refine F.ok sc_dice (fun _ _ _ _ _ _ us hl => match us, hl with | [_], _ => rfl) len_of fun qual f cdv A outer s H vs Q E hr h => ?_
  obtain ⟨_, c, ns, R, rfl, hn, hf, hR, k⟩ := h
  refine ⟨_, (pss_cons (ps_set (i := 1) sc_dice.nd rfl (Or.inl rfl) pe_int)
      (pss_cons (ps_for PassesOwn.never rfl (pi_list (pv 0)) (pg_name (i := 2) sc_dice.nd rfl (Or.inl rfl))
        (pss_one (ps_set (i := 1) sc_dice.nd rfl (Or.inl rfl) (pe_op op_mod (pe_op op_add (pe_op op_add (pe_op op_mul (pv 1) pe_int) (pe_op op_mul (pe_op op_mod (pv 2) pe_int) pe_int)) pe_int) pe_int))))
      (pss_one (ps_ret (pe_lst (pa_cons (pv 0) (pa_cons pe_int (pa_cons (pe_op op_mul (pv 1) (pe_callTy call_int1 rfl Bm.int (by decide +kernel) (pa_cons (pe_cmpR op_gt (pe_callB call_len_seq rfl Bm.len (by decide +kernel) (pa_cons (pv 0) pa_nil)) pe_int (nomark _)) pa_nil))) (pa_cons pe_int pa_nil))))))))), ?_⟩
  refine ⟨_, rfl, c, rfl, ⟨_, hf.sq⟩, for_list (K := K) (a := c) (xs := ns.map V.int) (fun i σ H2 => ∃ (z : Int) (v : Option V), σ = [some (.ref c), some (.int z), v] ∧ H2 = H) ⟨0, none, rfl, rfl⟩ (fun i σ H2 _ ⟨_, _, _, e⟩ => by rw [e]; exact hf.sq) ?_ ?_⟩
  · rintro i x σ H2 hi ⟨z, v, rfl, rfl⟩
    obtain ⟨y, rfl⟩ : ∃ y, x = V.int y := by
      rw [List.getElem?_map] at hi
      cases e : ns[i]? with
      | none =>
        rw [e] at hi
        cases hi
      | some y =>
        rw [e] at hi
        exact ⟨y, (Option.some.inj hi).symm⟩
    refine ⟨_, rfl, _, _, rfl, rfl, .inr ⟨by decide, by decide⟩, _, rfl, _, _, rfl, rfl, (by show (0 : Int) < 2147483647; decide), _, _, rfl, rfl, .inr ⟨by decide, by decide⟩, _, _, rfl, rfl, _, _, rfl, rfl, _, _, rfl, rfl, (by show (0 : Int) < 2147483647; decide), ?_⟩
    exact ⟨_, _, rfl, rfl⟩
  · rintro σ H2 ⟨z, v, rfl, rfl⟩
    refine ⟨_, rfl, _, rfl, _, rfl, c, _, rfl, .inl hf.sq, _, _, rfl, rfl, .inr ⟨_, rfl, _, _, rfl, rfl, .inr (by split <;> exact ⟨by decide, by decide⟩), ?_⟩⟩
    refine ⟨(by show 4 ≤ sizeLine; decide), fun l hl => ?_⟩
    exact k l _ (Mono.new hl) ⟨c, ns, _, _, _, Int.le_refl 0, hn, hf.mono (Mono.new hl), hR.new hl nl⟩
theorem ok_next (F : Fd K mg "_law_next" s_next) (Bm : Blt mg) : Gf P w K mg base 1 "_law_next" ["_law_dice_here", "_law_many"] (spNext K) := by
  refine F.ok sc_next (fun _ _ _ _ _ _ us hl => match us, hl with | [_, _], _ => rfl) len_of fun qual f cdv A outer s H vs Q E hr h => ?_
  obtain ⟨_, a, m, R, rfl, hm, hm2, ⟨c, ns, i, mx, r, hi, hn, hf, hh⟩, k⟩ := h
  have hdiv : CDivW 0 m := wide_div hm (wide_le (j := 1000000000000000000) (a := 60) (by omega) (by omega) (by decide)) (by decide) (by decide)
  refine ⟨_, (pss_cons (ps_if (pt_cmpR op_gt (pe_ix ix_list (pv 0) pe_int (fun _ _ => rfl)) pe_int (nomark _))
        (pss_cons (ps_set (i := 2) sc_next.nd rfl (Or.inl rfl) (pe_op op_mod (pe_ix ix_list (pv 0) pe_int (fun _ _ => rfl)) (pv 1)))
        (pss_cons (ps_asg (pe_op op_fdivW (pe_ix ix_list (pv 0) pe_int (fun _ _ => rfl)) (pv 1)) (pg_sub (pv 0) pe_int set_list))
        (pss_one (ps_ret (pv 2)))))
        pss_nil)
      (pss_cons (ps_asg (pe_op op_add (pe_ix ix_list (pv 0) pe_int (fun _ _ => rfl)) pe_int) (pg_sub (pv 0) pe_int set_list))
      (pss_cons (ps_if (pt_cmpR op_le (pe_ix ix_list (pv 0) pe_int (fun _ _ => rfl)) (pe_callB call_len_seq rfl Bm.len (by decide +kernel) (pa_cons (pe_ix ix_list (pv 0) pe_int (fun _ _ => rfl)) pa_nil)) (nomark _))
        (pss_cons (ps_set (i := 3) sc_next.nd rfl (Or.inl rfl) (pe_ix ix_list (pe_ix ix_list (pv 0) pe_int (fun _ _ => rfl)) (pe_op op_sub (pe_ix ix_list (pv 0) pe_int (fun _ _ => rfl)) pe_int) (fun _ _ => rfl)))
        (pss_cons (ps_asg (pe_ifExp (pt_cmpR op_ge (pv 3) (pe_op op_pow pe_int pe_int) (nomark _)) (pe_op op_fdivW (pv 3) (pv 1)) pe_int) (pg_sub (pv 0) pe_int set_list))
        (pss_one (ps_ret (pe_op op_mod (pv 3) (pv 1))))))
        pss_nil)
      (pss_cons (ps_asg (pe_op op_mod (pe_op op_mul (pe_ix ix_list (pv 0) pe_int (fun _ _ => rfl)) pe_int) pe_int) (pg_sub (pv 0) pe_int set_list))
      (pss_one (ps_ret (pe_op op_mod (pe_op op_fdivW (pe_ix ix_list (pv 0) pe_int (fun _ _ => rfl)) pe_int) (pv 1)))))))), ?_⟩
  have h0 := hh.head
  refine ⟨_, rfl, _, _, _, _, rfl, rfl, SqL.of h0, rfl, _, _, rfl, rfl, _, rfl, ite2 (fun hr0 => ?_) fun hr0 => ?_⟩
  · refine ⟨_, rfl, _, _, _, _, rfl, rfl, SqL.of h0, rfl, _, rfl, _, _, rfl, rfl, hm, ?_⟩
    refine ⟨_, rfl, _, _, _, _, rfl, rfl, SqL.of h0, rfl, _, rfl, _, _, rfl, rfl, hdiv, _, rfl, _, _, _, _, rfl, rfl, h0, rfl, _, rfl, ?_⟩
    exact k _ _ (Int.emod_nonneg _ (by omega)) (Int.emod_lt_of_pos _ hm) hh.mono_put ⟨c, ns, i, mx, r / m, hi, hn, hf.mono hh.mono_put, hh.put nl⟩
  · refine ⟨_, rfl, _, _, _, _, rfl, rfl, SqL.of h0, rfl, _, _, rfl, rfl, _, rfl, _, _, _, _, rfl, rfl, h0, rfl, ?_⟩
    have h1 : Has (upd H a (.lst [.ref c, .int (i + 1), .int mx, .int r])) ((a, .lst [.ref c, .int (i + 1), .int mx, .int r]) :: R) := hh.put nl
    have m1 : Mono H (upd H a (.lst [.ref c, .int (i + 1), .int mx, .int r])) := hh.mono_put
    have f1 := hf.mono m1
    have e1 := h1.head
    refine ⟨_, rfl, _, _, _, _, rfl, rfl, SqL.of e1, rfl, _, rfl, _, _, _, _, rfl, rfl, SqL.of e1, rfl, c, _, rfl, .inl f1.sq, _, _, rfl, rfl, _, rfl, ite2 (fun hle => ?_) fun hle => ?_⟩
    · have hle' : i + 1 ≤ (ns.length : Int) := by
        have := of_decide_eq_true hle
        rw [List.length_map] at this
        exact this
      have hj : i.toNat < ns.length := by omega
      have hat : atI (ns.map V.int) (i + 1 - 1) = some (V.int ns[i.toNat]) := at_of (j := i.toNat) (by omega) (by rw [List.getElem?_map, List.getElem?_eq_getElem hj]; rfl)
      refine ⟨_, rfl, _, _, _, _, rfl, rfl, SqL.of e1, rfl, _, rfl, _, _, _, _, rfl, rfl, SqL.of e1, rfl, _, _, rfl, rfl, c, _, _, _, rfl, rfl, f1.sq, hat, ?_⟩
      refine ⟨_, rfl, _, _, rfl, rfl, ⟨by decide, by decide, by decide⟩, _, _, rfl, rfl, _, rfl, ite2 (fun hb => ?_) fun hb => ?_⟩
      · refine ⟨_, rfl, _, rfl, _, _, rfl, rfl, hdiv, _, rfl, _, _, _, _, rfl, rfl, e1, rfl, _, rfl, _, rfl, _, _, rfl, rfl, hm, ?_⟩
        exact k _ _ (Int.emod_nonneg _ (by omega)) (Int.emod_lt_of_pos _ hm) (m1.trans h1.mono_put) ⟨c, ns, i + 1, mx, ns[i.toNat] / m, by omega, hn, f1.mono h1.mono_put, h1.put nl⟩
      · refine ⟨_, rfl, _, _, _, _, rfl, rfl, e1, rfl, _, rfl, _, rfl, _, _, rfl, rfl, hm, ?_⟩
        exact k _ _ (Int.emod_nonneg _ (by omega)) (Int.emod_lt_of_pos _ hm) (m1.trans h1.mono_put) ⟨c, ns, i + 1, mx, 0, by omega, hn, f1.mono h1.mono_put, h1.put nl⟩
    · refine ⟨_, rfl, _, _, _, _, rfl, rfl, SqL.of e1, rfl, _, _, rfl, rfl, .inr ⟨by decide, by decide⟩, _, _, rfl, rfl, (by show (0 : Int) < 2147483647; decide), _, rfl, _, _, _, _, rfl, rfl, e1, rfl, ?_⟩
      have h2 := h1.put (o' := .lst [.ref c, .int (i + 1), .int (mx * 48271 % 2147483647), .int r]) nl
      have e2 := h2.head
      refine ⟨_, rfl, _, _, _, _, rfl, rfl, SqL.of e2, rfl, _, _, rfl, rfl, ⟨by decide, by decide⟩, _, rfl, _, _, rfl, rfl, hm, ?_⟩
      exact k _ _ (Int.emod_nonneg _ (by omega)) (Int.emod_lt_of_pos _ hm) (m1.trans h1.mono_put) ⟨c, ns, i + 1, _, r, by omega, hn, f1.mono h1.mono_put, h2⟩
end
end Cu

namespace Cu
open PySem PySem.Spec PyProof.Rows L2
abbrev s_worth : Stmt := (top 28)
theorem sc_worth : FnScope ["_law_d"] ["_law_d"] (defScope s_worth) := ⟨rfl, rfl, rfl, by decide +kernel, rfl, by decide +kernel, by decide +kernel⟩

abbrev s_changes : Stmt := (top 30)
theorem sc_changes : FnScope ["_law_d", "_law_keys", "_law_most", "_law_often", "_law_few", "_law_found", "_law_k", "_law_word"] ["_law_d", "_law_keys", "_law_most"] (defScope s_changes) := ⟨rfl, rfl, rfl, by decide +kernel, rfl, by decide +kernel, by decide +kernel⟩

theorem at_some {xs : List V} {r : Int} (h0 : 0 ≤ r) (h1 : r < (xs.length : Int)) : ∃ v, atI xs r = some v ∧ v ∈ xs := by
  have hj : r.toNat < xs.length := by omega
  exact ⟨xs[r.toNat], at_of (j := r.toNat) (by omega) (List.getElem?_eq_getElem hj), List.getElem_mem hj⟩
/-- a change as it is drawn -/
structure Ch where
  key : Nat
  set : Bool
  worth : Int
def wd (b : Bool) : Str := if b then "set" else "add"
def Ch.enc (c : Ch) : PyData := .tuple [.int c.key, .str (wd c.set), .int c.worth]
def spWorth (K : PySem.W.Frag) : Sp := fun vs H Q _ => vs.length = 1 ∧ ∃ (a : Addr) (R : Lg), vs = [.ref a] ∧ Dice K H a R ∧ ∀ (z : Int) (H' : Hp), Mono H H' → Dice K H' a R → Q (.int z) H'
def spChanges (K : PySem.W.Frag) : Sp := fun vs H Q _ => vs.length = 3 ∧ ∃ (a : Addr) (nk mo : Nat) (R : Lg), vs = [.ref a, .int nk, .int mo] ∧ 0 < nk ∧ nk ≤ 8 ∧ mo ≤ 1000 ∧ Dice K H a R ∧
  ∀ (cs : List Ch) (v : V) (H' : Hp), cs.length ≤ mo → (∀ c ∈ cs, c.key < nk) → Mono H H' → Dice K H' a R → Rp K H' (.list (cs.map Ch.enc)) v → Q v H'
section
variable {P : Program} {w : World} {K : PySem.W.Frag} {mg : Str → Option Value} {base : Heap}
theorem ok_worth (F : Fd K mg "_law_worth" s_worth) (Bm : Blt mg) (g_next : Gf P w K mg base 1 "_law_next" ["_law_dice_here", "_law_many"] (spNext K)) : Gf P w K mg base 2 "_law_worth" ["_law_d"] (spWorth K) := by
  refine F.ok sc_worth (fun _ _ _ _ _ _ us hl => match us, hl with | [_], _ => rfl) len_of fun qual f cdv A outer s H vs Q E hr h => ?_
  obtain ⟨_, a, R, rfl, d, k⟩ := h
  refine ⟨_, (pss_one (ps_ret (pe_ix ix_list (pe_lst (pa_cons (pe_op op_sub (pc g_next hr (pa_cons (pv 0) (pa_cons pe_int pa_nil))) pe_int) (pa_cons (pe_op op_sub (pc g_next hr (pa_cons (pv 0) (pa_cons pe_int pa_nil))) pe_int) (pa_cons (pc g_next hr (pa_cons (pv 0) (pa_cons (pe_op op_pow pe_int pe_int) pa_nil))) pa_nil)))) (pc g_next hr (pa_cons (pv 0) (pa_cons pe_int pa_nil))) (fun _ _ => rfl)))), ?_⟩
  refine ⟨_, rfl, rfl, a, 5, R, rfl, by decide, by decide, d, fun r1 H1 _ _ m1 d1 => ⟨_, _, rfl, rfl, ?_⟩⟩
  refine ⟨_, rfl, rfl, a, 2000, R, rfl, by decide, by decide, d1, fun r2 H2 _ _ m2 d2 => ⟨_, _, rfl, rfl, ?_⟩⟩
  refine ⟨_, rfl, _, _, rfl, rfl, ⟨by decide, by decide, by decide⟩, rfl, a, 1000000000000000000, R, rfl, by decide, by decide, d2, fun r3 H3 _ _ m3 d3 => ⟨(by show 3 ≤ sizeLine; decide), fun p hp => ?_⟩⟩
  refine ⟨_, rfl, rfl, a, 3, _, rfl, by decide, by decide, d3.new (o := .lst [.int (r1 - 1), .int (r2 - 1000), .int r3]) hp nl, fun r4 H4 h0 h1 m4 d4 => ?_⟩
  obtain ⟨v, hv, hm⟩ := at_some (xs := [.int (r1 - 1), .int (r2 - 1000), .int r3]) h0 h1
  obtain ⟨z, rfl⟩ : ∃ z, v = V.int z := by
    simp only [List.mem_cons, List.not_mem_nil, or_false] at hm
    rcases hm with e | e | e <;> exact ⟨_, e⟩
  exact ⟨_, _, _, _, rfl, rfl, SqL.of d4.at_, hv, k z H4 ((((m1.trans m2).trans m3).trans (Mono.new hp)).trans m4) d4.tail⟩
theorem ok_changes (F : Fd K mg "_law_changes" s_changes) (Bm : Blt mg) (g_next : Gf P w K mg base 1 "_law_next" ["_law_dice_here", "_law_many"] (spNext K)) (g_worth : Gf P w K mg base 2 "_law_worth" ["_law_d"] (spWorth K)) :
    Gf P w K mg base 3 "_law_changes" ["_law_d", "_law_keys", "_law_most"] (spChanges K) := by
  refine F.ok sc_changes (fun _ _ _ _ _ _ us hl => match us, hl with | [_, _, _], _ => rfl) len_of fun qual f cdv A outer s H vs Q E hr h => ?_
  obtain ⟨_, a, nk, mo, R, rfl, hk, hk8, hmo, d, k⟩ := h
  refine ⟨_, (pss_cons (ps_set (i := 3) sc_changes.nd rfl (Or.inl rfl) (pe_op op_add pe_int (pc g_next hr (pa_cons (pv 0) (pa_cons pe_int pa_nil)))))
      (pss_cons (ps_set (i := 4) sc_changes.nd rfl (Or.inl rfl) (pe_op op_add pe_int (pc g_next hr (pa_cons (pv 0) (pa_cons (pv 1) pa_nil)))))
      (pss_cons (ps_set (i := 5) sc_changes.nd rfl (Or.inl rfl) (pe_lst pa_nil))
      (pss_cons (ps_for PassesOwn.never rfl (pi_range1 rfl Bm.range (pa_cons (pc g_next hr (pa_cons (pv 0) (pa_cons (pe_op op_add (pv 2) pe_int) pa_nil))) pa_nil)) (pg_name (i := 6) sc_changes.nd rfl (Or.inl rfl))
        (pss_cons (ps_set (i := 7) sc_changes.nd rfl (Or.inl rfl) (pe_ix ix_list (pe_lst (pa_cons pe_str (pa_cons pe_str pa_nil))) (pe_callTy call_int1 rfl Bm.int (by decide +kernel) (pa_cons (pe_cmpR op_eq (pc g_next hr (pa_cons (pv 0) (pa_cons (pv 3) pa_nil))) pe_int (nomark _)) pa_nil)) (fun _ _ => rfl)))
        (pss_one (ps_expr (pe_bm PySem.F.plainAttrs_list PySem.F.slot_list_append PySem.F.type_list_append mt_append (pv 5) (pa_cons (pe_tup (pa_cons (pc g_next hr (pa_cons (pv 0) (pa_cons (pe_ix ix_list (pe_lst (pa_cons (pv 4) (pa_cons (pv 4) (pa_cons (pv 1) pa_nil)))) (pc g_next hr (pa_cons (pv 0) (pa_cons pe_int pa_nil))) (fun _ _ => rfl)) pa_nil))) (pa_cons (pv 7) (pa_cons (pc g_worth hr (pa_cons (pv 0) pa_nil)) pa_nil)))) pa_nil))))))
      (pss_one (ps_ret (pe_fz (pv 5)))))))), ?_⟩
  refine ⟨_, rfl, rfl, a, 4, R, rfl, by decide, by decide, d, fun r1 H1 p1 q1 m1 d1 => ⟨_, _, rfl, rfl, ?_⟩⟩
  refine ⟨_, rfl, _, rfl, rfl, a, nk, R, rfl, by omega, by omega, d1, fun r2 H2 p2 q2 m2 d2 => ⟨_, _, rfl, rfl, ?_⟩⟩
  refine ⟨(by show 0 ≤ sizeLine; decide), fun p hp => ?_⟩
  have d3 := d2.new (o := .lst []) hp nl
  have m3 := (m1.trans m2).trans (Mono.new (o := .lst []) hp)
  refine ⟨_, rfl, _, rfl, _, _, rfl, rfl, rfl, a, mo + 1, _, rfl, by omega, by omega, d3, fun r4 H4 p4 q4 m4 d4 => ⟨_, rfl, by omega, by omega, ?_⟩⟩
  refine for_range (lo := 0) (n := r4.toNat) (fun i σ H5 => ∃ (cs : List Ch) (xs : List V) (v6 v7 : Option V), σ = [some (.ref a), some (.int nk), some (.int mo), some (.int (1 + r1)), some (.int (1 + r2)), some (.ref p), v6, v7] ∧
    Mono H H5 ∧ Dice K H5 a ((p, .lst xs) :: R) ∧ RpL K H5 (cs.map Ch.enc) xs ∧ cs.length = i ∧ ∀ c ∈ cs, c.key < nk)
    ⟨[], [], none, none, rfl, m3.trans m4, d4, .nil, rfl, fun _ h => (nomatch h)⟩ ?_ ?_
  · rintro i σ H5 hi ⟨cs, xs, v6, v7, rfl, m5, d5, rp, hl, hc⟩
    refine ⟨(by show 2 ≤ sizeLine; decide), fun l hl2 => ?_⟩
    have d6 := d5.new (o := .lst [.str "add", .str "set"]) hl2 nl
    refine ⟨_, rfl, _, rfl, rfl, a, _, _, rfl, by omega, by omega, d6, fun r6 H6 _ _ m6 d7 => ⟨rfl, .inr ⟨_, rfl, ?_⟩⟩⟩
    have d8 := d7.tail
    have m8 := (Mono.new (o := .lst [.str "add", .str "set"]) hl2).trans m6
    refine ⟨_, _, _, .str (wd (decide (V.int r6 = V.int 0))), rfl, rfl, SqL.of d7.at_, (by cases decide (V.int r6 = V.int 0) <;> rfl), ?_⟩
    refine ⟨_, rfl, .inl ⟨rfl, _, SqL.of d8.at_⟩, _, rfl, _, rfl, _, rfl, _, rfl, ⟨(by show 3 ≤ sizeLine; decide), fun l2 hl3 => ?_⟩⟩
    have d9 := d8.new (o := .lst [.int (1 + r2), .int (1 + r2), .int nk]) hl3 nl
    refine ⟨_, rfl, rfl, a, 3, _, rfl, by decide, by decide, d9, fun r9 H9 p9 q9 m9 d10 => ?_⟩
    obtain ⟨v, hv, hm⟩ := at_some (xs := [.int (1 + r2), .int (1 + r2), .int nk]) p9 q9
    obtain ⟨z, rfl, hz0, hzk⟩ : ∃ z, v = V.int z ∧ 0 < z ∧ z ≤ nk := by
      simp only [List.mem_cons, List.not_mem_nil, or_false] at hm
      rcases hm with e | e | e
      · exact ⟨_, e, by omega, by omega⟩
      · exact ⟨_, e, by omega, by omega⟩
      · exact ⟨_, e, by omega, by omega⟩
    refine ⟨_, _, _, _, rfl, rfl, SqL.of d10.at_, hv, rfl, a, z, _, rfl, hz0, by omega, d10.tail, fun r11 H11 p11 q11 m11 d11 => ?_⟩
    refine ⟨_, rfl, _, rfl, rfl, a, _, rfl, d11, fun z12 H12 m12 d12 => ⟨(by show 3 ≤ sizeLine; decide), fun t ht => ?_⟩⟩
    have ms := (((m8.trans (Mono.new (o := .lst [.int (1 + r2), .int (1 + r2), .int nk]) hl3)).trans m9).trans m11).trans m12
    have d13 := d12.old (o := .tup [.int r11, .str (wd (decide (V.int r6 = V.int 0))), .int z12]) ht
    have mt : Mono H12 (upd H12 t (.tup [.int r11, .str (wd (decide (V.int r6 = V.int 0))), .int z12])) := Mono.new ht
    have hxs : xs.length = i := by rw [rp.length, List.length_map, hl]
    refine ⟨_, _, _, rfl, rfl, d13.at_, (by rw [hxs]; exact small1000 (by omega)), ?_⟩
    refine ⟨cs ++ [⟨r11.toNat, decide (V.int r6 = V.int 0), z12⟩], _, _, _, rfl, ((m5.trans ms).trans mt).trans d13.mput, d13.put nl, ?_, by rw [List.length_append, hl]; rfl, fun c hcm => ?_⟩
    · rw [List.map_append]
      refine ((rp.mono ((ms.trans mt).trans d13.mput)).append (.cons ?_ .nil))
      have e : ((r11.toNat : Nat) : Int) = r11 := by omega
      refine Rp.tup (d13.mput _ _ upd_same trivial) ?_
      show RpL K _ [.int ((r11.toNat : Nat) : Int), _, _] _
      rw [e]
      exact .cons .int (.cons .str (.cons .int .nil))
    · rcases List.mem_append.mp hcm with h | h
      · exact hc c h
      · rw [List.mem_singleton.mp h]
        show r11.toNat < nk
        omega
  · rintro σ H5 ⟨cs, xs, v6, v7, rfl, m5, d5, rp, hl, hc⟩
    refine rd_fz ⟨_, rfl, p, xs, rfl, d5.at_, fun o => ?_⟩
    exact k cs _ _ (by omega) hc (m5.trans d5.mfz) d5.fz (.lst FzL.frz (rp.mono d5.mfz))
end
end Cu

namespace Cu
open PySem PySem.Spec PyProof.Rows L2
/-! a story: worths and lasts behind changes, rows, letters -/
def wst (k : Nat) (w : Int) (c : Ch) : Int := if c.key = k then (if c.set then 0 else w) + c.worth else w
def wofR : List Ch → Nat → Int
  | [], _ => 0
  | c :: r, k => wst k (wofR r k) c
def lofR : List Ch → Nat → Nat
  | [], _ => 0
  | c :: r, k => if c.key = k then r.length + 1 else lofR r k
def wof (cs : List Ch) (k : Nat) : Int := wofR cs.reverse k
def lof (cs : List Ch) (k : Nat) : Nat := lofR cs.reverse k
theorem wof_nil (k : Nat) : wof [] k = 0 := rfl
theorem lof_nil (k : Nat) : lof [] k = 0 := rfl
theorem wof_snoc (cs : List Ch) (c : Ch) (k : Nat) : wof (cs ++ [c]) k = wst k (wof cs k) c := by
  unfold wof
  rw [List.reverse_append]
  rfl
theorem lof_snoc (cs : List Ch) (c : Ch) (k : Nat) : lof (cs ++ [c]) k = if c.key = k then cs.length + 1 else lof cs k := by
  unfold lof
  rw [List.reverse_append]
  show (if c.key = k then cs.reverse.length + 1 else lofR cs.reverse k) = _
  rw [List.length_reverse]
def wrow (nk : Nat) (cs : List Ch) : List Int := (List.range nk).map (wof cs)
def lrow (nk : Nat) (cs : List Ch) : List Int := (List.range nk).map fun k => (lof cs k : Int)
def ilst (ns : List Int) : PyData := .list (ns.map PyData.int)
def rowD (nk : Nat) (cs : List Ch) : PyData := .tuple [ilst (wrow nk cs), ilst (lrow nk cs)]
inductive Letter where
  | change (n : Nat) (c : Ch) (ahead : Nat)
  | part (n b : Nat) (rows : List (Int × Nat))
  | beat (n : Nat) (lasts : List Nat)
def Letter.enc : Letter → PyData
  | .change n c ahead => .tuple [.str "change", .int n, .int c.key, .str (wd c.set), .int c.worth, .int ahead]
  | .part n b rows => .tuple [.str "part", .int n, .int b, .tuple (rows.map fun r => .tuple [.int r.1, .int r.2])]
  | .beat n lasts => .tuple [.str "beat", .int n, .tuple (lasts.map fun k : Nat => .int k)]
def letsR : List Ch → List Letter
  | [] => []
  | c :: r => letsR r ++ [.change (r.length + 1) c (lofR r c.key)]
def rowsR (nk : Nat) : List Ch → List PyData
  | [] => [rowD nk []]
  | c :: r => rowsR nk r ++ [rowD nk (c :: r).reverse]
def lets (cs : List Ch) : List Letter := letsR cs.reverse
def rowsD (nk : Nat) (cs : List Ch) : List PyData := rowsR nk cs.reverse
theorem lets_nil : lets [] = [] := rfl
theorem lets_snoc (cs : List Ch) (c : Ch) : lets (cs ++ [c]) = lets cs ++ [.change (cs.length + 1) c (lof cs c.key)] := by
  unfold lets lof
  rw [List.reverse_append]
  show letsR cs.reverse ++ [Letter.change (cs.reverse.length + 1) c (lofR cs.reverse c.key)] = _
  rw [List.length_reverse]
theorem rowsD_nil (nk : Nat) : rowsD nk [] = [rowD nk []] := rfl
theorem rowsD_snoc (nk : Nat) (cs : List Ch) (c : Ch) : rowsD nk (cs ++ [c]) = rowsD nk cs ++ [rowD nk (cs ++ [c])] := by
  unfold rowsD
  rw [List.reverse_append]
  show rowsR nk cs.reverse ++ [rowD nk (c :: cs.reverse).reverse] = _
  rw [List.reverse_cons, List.reverse_reverse]
theorem snoc_ind {α : Type} {p : List α → Prop} (h0 : p []) (h1 : ∀ xs x, p xs → p (xs ++ [x])) (xs : List α) : p xs := by
  have q : ∀ ys : List α, p ys.reverse := fun ys => by
    induction ys with
    | nil => exact h0
    | cons y ys ih =>
      rw [List.reverse_cons]
      exact h1 _ _ ih
  have := q xs.reverse
  rwa [List.reverse_reverse] at this
theorem rowsD_last (nk : Nat) (cs : List Ch) : ∃ init, rowsD nk cs = init ++ [rowD nk cs] := by
  induction cs using snoc_ind with
  | h0 => exact ⟨[], rfl⟩
  | h1 cs c _ => exact ⟨_, rowsD_snoc nk cs c⟩
theorem rowsD_length (nk : Nat) (cs : List Ch) : (rowsD nk cs).length = cs.length + 1 := by
  induction cs using snoc_ind with
  | h0 => rfl
  | h1 cs c ih => rw [rowsD_snoc, List.length_append, ih, List.length_append]; rfl
theorem lets_length (cs : List Ch) : (lets cs).length = cs.length := by
  induction cs using snoc_ind with
  | h0 => rfl
  | h1 cs c ih => rw [lets_snoc, List.length_append, ih, List.length_append]; rfl
theorem rowsD_get {nk : Nat} : ∀ {cs : List Ch} {n : Nat}, n ≤ cs.length → (rowsD nk cs)[n]? = some (rowD nk (cs.take n)) := by
  intro cs
  induction cs using snoc_ind with
  | h0 =>
    intro n h
    have : n = 0 := by simpa using h
    subst this
    rfl
  | h1 cs c ih =>
    intro n h
    rw [rowsD_snoc]
    rw [List.length_append, List.length_singleton] at h
    by_cases e : n ≤ cs.length
    · rw [List.getElem?_append_left (by rw [rowsD_length]; omega), ih e, List.take_append_of_le_length e]
    · have e1 : n = cs.length + 1 := by omega
      subst e1
      rw [List.getElem?_append_right (by rw [rowsD_length]; exact Nat.le_refl _), rowsD_length, Nat.sub_self, List.take_of_length_le (by simp)]
      rfl
theorem lets_get : ∀ {cs : List Ch} {n : Nat} {c : Ch}, cs[n]? = some c → (lets cs)[n]? = some (.change (n + 1) c (lof (cs.take n) c.key)) := by
  intro cs
  induction cs using snoc_ind with
  | h0 =>
    intro n c h
    simp at h
  | h1 cs d ih =>
    intro n c h
    rw [lets_snoc]
    have hn : n < cs.length + 1 := by
      have := (List.getElem?_eq_some_iff.mp h).1
      simpa using this
    by_cases e : n < cs.length
    · rw [List.getElem?_append_left (by rw [lets_length]; exact e), List.take_append_of_le_length (Nat.le_of_lt e)]
      rw [List.getElem?_append_left e] at h
      exact ih h
    · have e1 : n = cs.length := by omega
      subst e1
      rw [List.getElem?_append_right (Nat.le_refl _), Nat.sub_self] at h
      have e2 : d = c := by simpa using h
      subst e2
      rw [List.getElem?_append_right (by rw [lets_length]; exact Nat.le_refl _), lets_length, Nat.sub_self, List.take_append_of_le_length (Nat.le_refl _), List.take_of_length_le (Nat.le_refl _)]
      rfl
theorem set_cut {α : Type} (xs : List α) (k : Nat) (v : α) (h : k < xs.length) : xs.take k ++ [v] ++ xs.drop (k + 1) = xs.set k v := by
  rw [List.set_eq_take_append_cons_drop, if_pos h, List.append_assoc]
  rfl
theorem wrow_snoc (nk : Nat) (cs : List Ch) (c : Ch) : wrow nk (cs ++ [c]) = (wrow nk cs).set c.key (wst c.key (wof cs c.key) c) := by
  apply List.ext_getElem?
  intro i
  unfold wrow
  rw [List.getElem?_map]
  by_cases hi : i < nk
  · rw [List.getElem?_range hi]
    by_cases e : c.key = i
    · rw [e, List.getElem?_set_self (by simpa using hi)]
      simp [wof_snoc]
    · rw [List.getElem?_set_ne e, List.getElem?_map, List.getElem?_range hi]
      simp [wof_snoc, wst, e]
  · have h1 : (List.range nk)[i]? = none := by simp; omega
    have h2 : ((List.range nk).map (wof cs)).length ≤ i := by simp; omega
    rw [h1, List.getElem?_eq_none (by rw [List.length_set]; exact h2)]
    rfl
theorem lrow_snoc (nk : Nat) (cs : List Ch) (c : Ch) : lrow nk (cs ++ [c]) = (lrow nk cs).set c.key ((cs.length + 1 : Nat) : Int) := by
  apply List.ext_getElem?
  intro i
  unfold lrow
  rw [List.getElem?_map]
  by_cases hi : i < nk
  · rw [List.getElem?_range hi]
    by_cases e : c.key = i
    · rw [e, List.getElem?_set_self (by simpa using hi)]
      simp [lof_snoc, e]
    · rw [List.getElem?_set_ne e, List.getElem?_map, List.getElem?_range hi]
      simp [lof_snoc, e]
  · have h1 : (List.range nk)[i]? = none := by simp; omega
    have h2 : ((List.range nk).map fun k => (lof cs k : Int)).length ≤ i := by simp; omega
    rw [h1, List.getElem?_eq_none (by rw [List.length_set]; exact h2)]
    rfl
theorem wrow_get {nk k : Nat} {cs : List Ch} (h : k < nk) : (wrow nk cs)[k]? = some (wof cs k) := by
  unfold wrow
  rw [List.getElem?_map, List.getElem?_range h]
  rfl
theorem lrow_get {nk k : Nat} {cs : List Ch} (h : k < nk) : (lrow nk cs)[k]? = some (lof cs k : Int) := by
  unfold lrow
  rw [List.getElem?_map, List.getElem?_range h]
  rfl
theorem wrow_len (nk : Nat) (cs : List Ch) : (wrow nk cs).length = nk := by simp [wrow]
theorem lrow_len (nk : Nat) (cs : List Ch) : (lrow nk cs).length = nk := by simp [lrow]
theorem wrow_nil (nk : Nat) : wrow nk [] = List.replicate nk 0 := by
  apply List.ext_getElem?
  intro i
  by_cases hi : i < nk
  · rw [wrow_get hi, List.getElem?_replicate, if_pos hi]
    rfl
  · rw [List.getElem?_eq_none (by rw [wrow_len]; omega), List.getElem?_eq_none (by simp; omega)]
theorem lrow_nil (nk : Nat) : lrow nk [] = List.replicate nk 0 := by
  apply List.ext_getElem?
  intro i
  by_cases hi : i < nk
  · rw [lrow_get hi, List.getElem?_replicate, if_pos hi]
    rfl
  · rw [List.getElem?_eq_none (by rw [lrow_len]; omega), List.getElem?_eq_none (by simp; omega)]
theorem take_snoc {α : Type} {xs : List α} {i : Nat} {x : α} (h : xs[i]? = some x) : xs.take (i + 1) = xs.take i ++ [x] := by
  rw [List.take_add_one, h]
  rfl

section
variable {K : PySem.W.Frag} {H H' : Hp}
theorem RpL.snoc_inv : ∀ {ds : List PyData} {d : PyData} {vs : List V}, RpL K H (ds ++ [d]) vs → ∃ us v, vs = us ++ [v] ∧ RpL K H ds us ∧ Rp K H d v
  | [], d, vs, h => by
    obtain ⟨v, r, e, h1, h2⟩ := RpL.cons_inv (show RpL K H [d] vs from h)
    have := h2.nil_inv
    subst this
    exact ⟨[], v, e, .nil, h1⟩
  | c :: ds, d, vs, h => by
    obtain ⟨v, r, e, h1, h2⟩ := RpL.cons_inv (show RpL K H (c :: (ds ++ [d])) vs from h)
    obtain ⟨us, u, e2, h3, h4⟩ := RpL.snoc_inv h2
    subst e2
    exact ⟨v :: us, u, e, .cons h1 h3, h4⟩
/-- a list of ints that stays -/
theorem Rp.il_inv {ns : List Int} {v : V} (h : Rp K H (ilst ns) v) : ∃ a, v = .ref a ∧ FzL K H a (ns.map V.int) := by
  obtain ⟨a, xs, e, f, r⟩ := h.lst_inv
  rw [r.ints] at f
  exact ⟨a, e, f⟩
theorem Rp.il {ns : List Int} {a : Addr} (h : FzL K H a (ns.map V.int)) : Rp K H (ilst ns) (.ref a) := .lst h (RpL.of_ints ns)
theorem Rp.ch_inv {c : Ch} {v : V} (h : Rp K H c.enc v) : ∃ a, v = .ref a ∧ H a = some (.tup [.int c.key, .str (wd c.set), .int c.worth]) := by
  obtain ⟨a, xs, e, f, r⟩ := h.tup_inv
  obtain ⟨v1, r1, e1, h1, r⟩ := r.cons_inv
  obtain ⟨v2, r2, e2, h2, r⟩ := r.cons_inv
  obtain ⟨v3, r3, e3, h3, r⟩ := r.cons_inv
  have := r.nil_inv
  subst this e3 e2 e1
  have h1 := Rp.int_iff.mp h1
  have h2 := Rp.str_iff.mp h2
  have h3 := Rp.int_iff.mp h3
  subst h1 h2 h3
  exact ⟨a, e, f⟩
theorem Rp.row_inv {nk : Nat} {cs : List Ch} {v : V} (h : Rp K H (rowD nk cs) v) : ∃ a p q, v = .ref a ∧ H a = some (.tup [.ref p, .ref q]) ∧ FzL K H p ((wrow nk cs).map V.int) ∧ FzL K H q ((lrow nk cs).map V.int) := by
  obtain ⟨a, xs, e, f, r⟩ := h.tup_inv
  obtain ⟨v1, r1, e1, h1, r⟩ := r.cons_inv
  obtain ⟨v2, r2, e2, h2, r⟩ := r.cons_inv
  have := r.nil_inv
  subst this e2 e1
  obtain ⟨p, e1, f1⟩ := h1.il_inv
  obtain ⟨q, e2, f2⟩ := h2.il_inv
  subst e1 e2
  exact ⟨a, p, q, e, f, f1, f2⟩
theorem Rp.row {nk : Nat} {cs : List Ch} {a p q : Addr} (h : H a = some (.tup [.ref p, .ref q])) (f1 : FzL K H p ((wrow nk cs).map V.int)) (f2 : FzL K H q ((lrow nk cs).map V.int)) : Rp K H (rowD nk cs) (.ref a) :=
  .tup h (.cons (.il f1) (.cons (.il f2) .nil))
end
theorem Dice.use {K : PySem.W.Frag} {H : Hp} {a : Addr} {R : Lg} (d : Dice K H a R) : ∃ R0, Has H R0 ∧ ∀ H', Mono H H' → Has H' R0 → Dice K H' a R :=
  let ⟨c, ns, i, m, r, h1, h2, h3, h⟩ := d
  ⟨_, h, fun _ m' h' => ⟨c, ns, i, m, r, h1, h2, h3.mono m', h'⟩⟩
end Cu

namespace Cu
open PySem PySem.Spec PyProof.Rows L2
/-- what is owned goes from C to C', whatever else is owned; nothing else changes -/
structure Tr (H : Hp) (C : Lg) (H' : Hp) (C' : Lg) : Prop where
  mono : Mono H H'
  has : ∀ R, Has H (C ++ R) → Has H' (C' ++ R)
abbrev Grow (H H' : Hp) : Prop := Tr H [] H' []
section
variable {K : PySem.W.Frag} {H H1 H2 : Hp} {C C1 C2 D : Lg} {a p : Addr} {o o' : HO} {R : Lg}
theorem Tr.refl (H : Hp) (C : Lg) : Tr H C H C := ⟨Mono.refl H, fun _ h => h⟩
theorem Tr.trans (t : Tr H C H1 C1) (u : Tr H1 C1 H2 C2) : Tr H C H2 C2 := ⟨t.mono.trans u.mono, fun R h => u.has R (t.has R h)⟩
theorem Tr.right (t : Tr H C H1 C1) : Tr H (C ++ D) H1 (C1 ++ D) := ⟨t.mono, fun R h => by
  rw [List.append_assoc] at h ⊢
  exact t.has _ h⟩
theorem Tr.left (t : Tr H C H1 C1) : Tr H (D ++ C) H1 (D ++ C1) := ⟨t.mono, fun R h => by
  rw [List.append_assoc] at h ⊢
  exact (t.has _ h.swap).swap⟩
theorem Tr.now (t : Tr H C H1 C1) (h : Has H C) : Has H1 C1 := by
  have := t.has [] (by rw [List.append_nil]; exact h)
  rwa [List.append_nil] at this
theorem Tr.own (t : Tr H [] H1 C1) : Has H1 C1 := t.now .nil
theorem Tr.grow (t : Tr H C H1 C1) (g : Grow H1 H2) : Tr H C H2 C1 := t.trans (by simpa using g.right (D := C1))
theorem Tr.new (t : Tr H C H1 C1) (f : H1 p = none) (n : ¬ Imm o) : Tr H C (upd H1 p o) ((p, o) :: C1) := ⟨t.mono.trans (Mono.new f), fun R h => (t.has R h).new f n⟩
theorem Tr.old (t : Tr H C H1 C1) (f : H1 p = none) : Tr H C (upd H1 p o) C1 := ⟨t.mono.trans (Mono.new f), fun R h => (t.has R h).old f⟩
theorem Tr.put (t : Tr H C H1 ((p, o) :: C1)) (h : Has H C) (n : ¬ Imm o') : Tr H C (upd H1 p o') ((p, o') :: C1) := ⟨t.mono.trans (t.now h).mono_put, fun R h => (t.has R h).put n⟩
theorem Tr.fz {xs : List V} {ob : Obj} (t : Tr H C H1 ((p, .lst xs) :: C1)) (h : Has H C) : Tr H C (upd H1 p (.frz ob (.lst xs))) C1 :=
  ⟨t.mono.trans (t.now h).mono_put, fun R h => (t.has R h).tail.off (List.nodup_cons.mp (t.has R h).nd).1⟩
theorem Tr.perm (t : Tr H C H1 C1) (e : C1.Perm C2) : Tr H C H1 C2 := ⟨t.mono, fun R h => (t.has R h).perm (e.append_right R)⟩
theorem Tr.sub (t : Tr H C H1 C1) (e : C2.Sublist C1) : Tr H C H1 C2 := ⟨t.mono, fun R h => (t.has R h).sub (e.append_right R)⟩
theorem Tr.tail (t : Tr H C H1 ((p, o) :: C1)) : Tr H C H1 C1 := t.sub (List.sublist_cons_self _ _)
theorem Tr.swap2 {q r : Addr × HO} (t : Tr H C H1 (q :: r :: C1)) : Tr H C H1 (r :: q :: C1) := t.perm (List.Perm.swap _ _ _)
/-- a new list, frozen at once -/
theorem Tr.nfz {xs : List V} {ob : Obj} (t : Tr H C H1 C1) (f : H1 p = none) : Tr H C (upd (upd H1 p (.lst xs)) p (.frz ob (.lst xs))) C1 :=
  ⟨t.mono.trans ((Mono.new f).trans (Mono.put upd_same fun h => h)), fun R h => ((t.has R h).old f).off ((t.has R h).notin f)⟩
theorem Grow.mono' (g : Grow H H1) : Mono H H1 := g.mono
theorem Grow.has' (g : Grow H H1) (h : Has H R) : Has H1 R := g.has R h
theorem Grow.refl (H : Hp) : Grow H H := Tr.refl H []
theorem Grow.new (f : H p = none) : Grow H (upd H p o) := (Tr.refl H []).old f
/-- a new tuple goes to the end of an owned list -/
theorem snoc_tup {l t : Addr} {ys us : List V} {ds : List PyData} (h : Has H ((l, .lst ys) :: C)) (ht : H t = none) (r : RpL K H ds us) :
    Tr H ((l, .lst ys) :: C) (upd (upd H t (.tup us)) l (.lst (ys ++ [.ref t]))) ((l, .lst (ys ++ [.ref t])) :: C) ∧ Rp K (upd (upd H t (.tup us)) l (.lst (ys ++ [.ref t]))) (.tuple ds) (.ref t) := by
  have s1 := (Tr.refl H ((l, .lst ys) :: C)).old (o := .tup us) ht
  have s2 := s1.put (o' := .lst (ys ++ [.ref t])) h nl
  exact ⟨s2, .tup ((s1.now h).mono_put _ _ upd_same trivial) (r.mono s2.mono)⟩
theorem Dice.grow (d : Dice K H a R) (g : Grow H H1) : Dice K H1 a R := by
  obtain ⟨R0, h0, back⟩ := d.use
  exact back _ g.mono (g.has _ h0)
theorem Dice.tr (d : Dice K H a (C ++ R)) (t : Tr H C H1 C1) : Dice K H1 a (C1 ++ R) :=
  let ⟨c, ns, i, m, r, h1, h2, h3, h⟩ := d
  ⟨c, ns, i, m, r, h1, h2, h3.mono t.mono, by
    have := t.has ((a, .lst [.ref c, .int i, .int m, .int r]) :: R) h.swap1
    exact this.unswap1⟩
theorem Dice.tr0 (d : Dice K H a C) (t : Tr H C H1 C1) : Dice K H1 a C1 := by
  have := Dice.tr (R := []) (by rw [List.append_nil]; exact d) t
  rwa [List.append_nil] at this
end
end Cu

namespace Cu
open PySem PySem.Spec PyProof.Rows L2
/-! data that may be compared -/
def Gd (n : Nat) (d : PyData) : Prop := d.canLay0 = true ∧ d.depth ≤ n
theorem Gd.mono {n m : Nat} {d : PyData} (h : Gd n d) (e : n ≤ m) : Gd m d := ⟨h.1, Nat.le_trans h.2 e⟩
theorem Gd.int {n : Nat} {i : Int} : Gd n (.int i) := ⟨by simp [PyData.canLay0], by simp [PyData.depth]⟩
theorem Gd.none {n : Nat} : Gd n .none := ⟨by simp [PyData.canLay0], by simp [PyData.depth]⟩
theorem Gd.bool {n : Nat} {b : Bool} : Gd n (.bool b) := ⟨by simp [PyData.canLay0], by simp [PyData.depth]⟩
theorem Gd.str {n : Nat} {s : Str} (h : PyData.strOk s = true) : Gd n (.str s) := ⟨by simpa [PyData.canLay0] using h, by simp [PyData.depth]⟩
theorem canAll : ∀ {ds : List PyData}, (∀ d ∈ ds, d.canLay0 = true) → PyData.canLayAll0 ds = true
  | [], _ => by simp [PyData.canLayAll0]
  | d :: ds, h => by
    simp only [PyData.canLayAll0, Bool.and_eq_true]
    exact ⟨h d List.mem_cons_self, canAll fun e he => h e (List.mem_cons_of_mem _ he)⟩
theorem depthAll_le {n : Nat} : ∀ {ds : List PyData}, (∀ d ∈ ds, d.depth ≤ n) → PyData.depthAll ds ≤ n
  | [], _ => by simp [PyData.depthAll]
  | d :: ds, h => by
    simp only [PyData.depthAll]
    exact Nat.max_le.mpr ⟨h d List.mem_cons_self, depthAll_le fun e he => h e (List.mem_cons_of_mem _ he)⟩
theorem Gd.list {n : Nat} {ds : List PyData} (h : ∀ d ∈ ds, Gd n d) : Gd (n + 1) (.list ds) := by
  refine ⟨?_, ?_⟩
  · simp only [PyData.canLay0]
    exact canAll fun d hd => (h d hd).1
  · simp only [PyData.depth]
    have := depthAll_le fun d hd => (h d hd).2
    omega
theorem Gd.tuple {n : Nat} {ds : List PyData} (h : ∀ d ∈ ds, Gd n d) : Gd (n + 1) (.tuple ds) := by
  refine ⟨?_, ?_⟩
  · simp only [PyData.canLay0]
    exact canAll fun d hd => (h d hd).1
  · simp only [PyData.depth]
    have := depthAll_le fun d hd => (h d hd).2
    omega
theorem Gd.all_nil {n : Nat} : ∀ d ∈ ([] : List PyData), Gd n d := fun _ h => (nomatch h)
theorem Gd.all_cons {n : Nat} {d : PyData} {ds : List PyData} (h : Gd n d) (r : ∀ d ∈ ds, Gd n d) : ∀ e ∈ d :: ds, Gd n e := fun e he => by
  rcases List.mem_cons.mp he with rfl | he
  · exact h
  · exact r e he
theorem Gd.shaped {n : Nat} {d : PyData} (h : Gd n d) (e : n ≤ 64 := by decide) : SeqAt.shaped d = true := by
  unfold SeqAt.shaped
  rw [Bool.and_eq_true]
  exact ⟨h.1, decide_eq_true (Nat.le_trans h.2 e)⟩
theorem Gd.refl {n : Nat} {d : PyData} (h : Gd n d) : PyData.eqv d d = true := SeqAt.eqv_refl d h.1
theorem Gd.ilst {n : Nat} (ns : List Int) : Gd (n + 1) (ilst ns) := .list fun d hd => by
  obtain ⟨i, _, rfl⟩ := List.mem_map.mp hd
  exact .int
theorem wd_ok (b : Bool) : PyData.strOk (wd b) = true := by cases b <;> decide +kernel
theorem Gd.letter (l : Letter) : Gd 4 l.enc := by
  cases l with
  | change n c ahead => exact .tuple (.all_cons (.str (by decide +kernel)) (.all_cons .int (.all_cons .int (.all_cons (.str (wd_ok _)) (.all_cons .int (.all_cons .int .all_nil))))))
  | part n b rows =>
    refine .tuple (.all_cons (.str (by decide +kernel)) (.all_cons .int (.all_cons .int (.all_cons (.tuple fun d hd => ?_) .all_nil))))
    obtain ⟨r, _, rfl⟩ := List.mem_map.mp hd
    exact .tuple (.all_cons .int (.all_cons .int .all_nil))
  | beat n lasts =>
    refine .tuple (.all_cons (.str (by decide +kernel)) (.all_cons .int (.all_cons (.tuple fun d hd => ?_) .all_nil)))
    obtain ⟨r, _, rfl⟩ := List.mem_map.mp hd
    exact .int
theorem Gd.letters (ls : List Letter) : Gd 5 (.list (ls.map Letter.enc)) := .list fun d hd => by
  obtain ⟨l, _, rfl⟩ := List.mem_map.mp hd
  exact .letter l
theorem Gd.nil {n : Nat} : Gd (n + 1) (.list []) := .list .all_nil
theorem eqv_nil (ds : List PyData) : PyData.eqv (.list ds) (.list []) = ds.isEmpty := by
  cases ds <;> simp [PyData.eqv, PyData.eqvAll]
theorem eqv_ilst : ∀ {ns ms : List Int}, PyData.eqv (ilst ns) (ilst ms) = decide (ns = ms)
  | [], [] => by simp [ilst, PyData.eqv, PyData.eqvAll]
  | [], _ :: _ => by simp [ilst, PyData.eqv, PyData.eqvAll]
  | _ :: _, [] => by simp [ilst, PyData.eqv, PyData.eqvAll]
  | n :: ns, m :: ms => by
    have ih := eqv_ilst (ns := ns) (ms := ms)
    simp only [ilst, PyData.eqv] at ih
    simp only [ilst, List.map_cons, PyData.eqv, PyData.eqvAll, ih]
    by_cases h : n = m <;> simp [h]
theorem Dp.nil {K : PySem.W.Frag} {H : Hp} {a : Addr} (h : H a = some (.lst [])) : Dp K H (.ref a) (.list []) := .lst (SqL.of h) .nil
theorem cutV_to {xs : List V} {k : Nat} (h : k ≤ xs.length) : cutV xs none (some (k : Int)) = xs.take k := by
  unfold cutV
  rw [HT.sIx_none, HT.sIx_nat, Nat.min_eq_left h, List.drop_zero, Nat.sub_zero]
theorem cutV_from {xs : List V} {k : Nat} (h : k ≤ xs.length) : cutV xs (some (k : Int)) none = xs.drop k := by
  unfold cutV
  rw [HT.sIx_none, HT.sIx_nat, Nat.min_eq_left h, List.take_of_length_le (by simp)]
end Cu

namespace Cu
open PySem PySem.Spec PyProof.Rows L2
abbrev s_story : Stmt := (top 31)
theorem sc_story : FnScope ["_law_keys", "_law_changes_here", "_law_rows", "_law_letters", "_law_k", "_law_key", "_law_word", "_law_worth_here", "_law_worths", "_law_lasts", "_law_more"] ["_law_keys", "_law_changes_here"] (defScope s_story) := ⟨rfl, rfl, rfl, by decide +kernel, rfl, by decide +kernel, by decide +kernel⟩

def storyD (nk : Nat) (cs : List Ch) : PyData := .tuple [.list (rowsD nk cs), .list ((lets cs).map Letter.enc)]
def spStory (K : PySem.W.Frag) : Sp := fun vs H Q _ => vs.length = 2 ∧ ∃ (nk : Nat) (cs : List Ch) (v : V), vs = [.int nk, v] ∧ nk ≤ 8 ∧ cs.length ≤ 1000 ∧ (∀ c ∈ cs, c.key < nk) ∧ Rp K H (.list (cs.map Ch.enc)) v ∧
  ∀ (u : V) (H' : Hp), Grow H H' → Rp K H' (storyD nk cs) u → Q u H'
theorem rep0 (nk : Nat) : (List.replicate ((nk : Int).toNat) [V.int 0]).flatten = (List.replicate nk (0 : Int)).map V.int := by
  rw [Int.toNat_natCast, List.map_replicate]
  induction nk with
  | zero => rfl
  | succ n ih =>
    rw [List.replicate_succ, List.replicate_succ, List.flatten_cons, ih]
    rfl
/-- [0] * keys, from now on never changed -/
theorem rd_zeros {K : PySem.W.Frag} {σ : L2.St} {H : Hp} {Q : VK} {i nk : Nat} (h1 : σ[i]? = some (some (.int nk))) (hk : nk ≤ 8)
    (q : ∀ p H', Grow H H' → FzL K H' p ((List.replicate nk (0 : Int)).map V.int) → Q (.ref p) H') :
    tFz (tOp rRep (tLst (tCons (tC (.int 0)) tNil)) (tVar i)) σ H Q := by
  refine rd_fz ⟨(by show 1 ≤ sizeLine; decide), fun p1 hp1 => ⟨_, h1, p1, (nk : Int), _, rfl, rfl, upd_same, by omega, by omega, ?_, fun p2 hp2 => ⟨_, _, rfl, upd_same, fun o => ?_⟩⟩⟩
  · show 1 * (nk : Int).toNat ≤ sizeLine
    rw [Nat.one_mul, Int.toNat_natCast]
    exact Nat.le_trans hk (by decide)
  · rw [rep0]
    exact q _ _ ((Grow.new hp1).nfz hp2) FzL.frz
/-- xs[:k] + [z] + xs[k + 1:], from now on never changed -/
theorem rd_cut {K : PySem.W.Frag} {σ : L2.St} {H : Hp} {Q : VK} {i j : Nat} {te : TE} {a : Addr} {ns : List Int} {k : Nat} {z : Int} (h1 : σ[i]? = some (some (.ref a))) (h2 : σ[j]? = some (some (.int k))) (f : FzL K H a (ns.map V.int))
    (hk : k < ns.length) (hl : ns.length ≤ 1000) (he : ∀ (H1 : Hp) (Q1 : VK), Q1 (.int z) H1 → te σ H1 Q1) (q : ∀ p H', Grow H H' → FzL K H' p ((ns.set k z).map V.int) → Q (.ref p) H') :
    tFz (tOp rCat (tOp rCat (tSl (rSlL K) (tVar i) tNoPart (tPart (tVar j))) (tLst (tCons te tNil))) (tSl (rSlL K) (tVar i) (tPart (tOp (rI0 fun i j => .int (i + j)) (tVar j) (tC (.int 1)))) tNoPart)) σ H Q := by
  have hk' : k < (ns.map V.int).length := by rw [List.length_map]; exact hk
  have hl' : (ns.map V.int).length ≤ 1000 := by rw [List.length_map]; exact hl
  have z1 : 1000 ≤ sizeLine := by decide
  refine rd_fz ⟨_, h1, _, h2, _, rfl, a, _, rfl, f.sq, fun p1 hp1 => he _ _ ⟨(by show 1 ≤ sizeLine; decide), fun p2 hp2 => ?_⟩⟩
  have n12 : p1 ≠ p2 := ne_of_none upd_same hp2
  rw [cutV_to (Nat.le_of_lt hk')] at hp2 ⊢
  refine ⟨_, _, _, _, rfl, rfl, (by rw [upd_ne n12]; exact upd_same), upd_same, ?_, fun p3 hp3 => ?_⟩
  · rw [List.length_take, Nat.min_eq_left (Nat.le_of_lt hk')]
    exact Nat.le_trans (show k + 1 ≤ 1000 by omega) z1
  have g1 := (((Grow.refl H).old (o := .lst ((ns.map V.int).take k)) hp1).old (o := .lst [.int z]) hp2).old (o := .lst ((ns.map V.int).take k ++ [.int z])) hp3
  refine ⟨_, h1, _, h2, _, _, rfl, rfl, _, rfl, a, _, rfl, (f.mono g1.mono).sq, fun p4 hp4 => ?_⟩
  have e1 : ((k : Int) + 1) = ((k + 1 : Nat) : Int) := by omega
  rw [e1, cutV_from hk']
  have n34 : p3 ≠ p4 := ne_of_none upd_same hp4
  refine ⟨_, _, _, _, rfl, rfl, (by rw [upd_ne n34]; exact upd_same), upd_same, ?_, fun p5 hp5 => ⟨_, _, rfl, upd_same, fun o => ?_⟩⟩
  · rw [List.length_append, List.length_take, List.length_drop, Nat.min_eq_left (Nat.le_of_lt hk')]
    exact Nat.le_trans (show k + 1 + _ ≤ 1000 by omega) z1
  rw [set_cut _ _ _ hk', ← List.map_set]
  exact q _ _ ((g1.old hp4).nfz hp5) FzL.frz
section
variable {P : Program} {w : World} {K : PySem.W.Frag} {mg : Str → Option Value} {base : Heap}
theorem ok_story (F : Fd K mg "_law_story" s_story) (Bm : Blt mg) : Gf P w K mg base 1 "_law_story" ["_law_keys", "_law_changes_here"] (spStory K) := by
  refine F.ok sc_story (fun _ _ _ _ _ _ us hl => match us, hl with | [_, _], _ => rfl) len_of fun qual f cdv A outer s H vs Q E hr h => ?_
  obtain ⟨_, nk, cs, v, rfl, hk, hlen, hcs, hv, k⟩ := h
  obtain ⟨a, xc, rfl, fc, rc⟩ := hv.lst_inv
  have hxc : xc.length = cs.length := by rw [rc.length, List.length_map]
  refine ⟨_, (pss_cons (ps_set (i := 2) sc_story.nd rfl (Or.inl rfl) (pe_lst (pa_cons (pe_tup (pa_cons (pe_fz (pe_op op_rep (pe_lst (pa_cons pe_int pa_nil)) (pv 0))) (pa_cons (pe_fz (pe_op op_rep (pe_lst (pa_cons pe_int pa_nil)) (pv 0))) pa_nil))) pa_nil)))
      (pss_cons (ps_set (i := 3) sc_story.nd rfl (Or.inl rfl) (pe_lst pa_nil))
      (pss_cons (ps_for PassesOwn.never rfl (pi_range1 rfl Bm.range (pa_cons (pe_callB call_len_seq rfl Bm.len (by decide +kernel) (pa_cons (pv 1) pa_nil)) pa_nil)) (pg_name (i := 4) sc_story.nd rfl (Or.inl rfl))
        (pss_cons (ps_asg (pe_ix ix_list (pv 1) (pv 4) (fun _ _ => rfl)) (pg_tup rfl (pgs_cons (pg_name (i := 5) sc_story.nd rfl (Or.inl rfl)) (pgs_cons (pg_name (i := 6) sc_story.nd rfl (Or.inl rfl)) (pgs_cons (pg_name (i := 7) sc_story.nd rfl (Or.inl rfl)) pgs_nil)))))
        (pss_cons (ps_asg (pe_ix ix_list (pv 2) (pe_un un_neg pe_int) (fun _ _ => rfl)) (pg_tup rfl (pgs_cons (pg_name (i := 8) sc_story.nd rfl (Or.inl rfl)) (pgs_cons (pg_name (i := 9) sc_story.nd rfl (Or.inl rfl)) pgs_nil))))
        (pss_cons (ps_expr (pe_bm PySem.F.plainAttrs_list PySem.F.slot_list_append PySem.F.type_list_append mt_append (pv 3) (pa_cons (pe_tup (pa_cons pe_str (pa_cons (pe_op op_add (pv 4) pe_int) (pa_cons (pv 5) (pa_cons (pv 6) (pa_cons (pv 7) (pa_cons (pe_ix ix_list (pv 9) (pv 5) (fun _ _ => rfl)) pa_nil))))))) pa_nil)))
        (pss_cons (ps_set (i := 10) sc_story.nd rfl (Or.inl rfl) (pe_op op_add (pe_op op_mul (pe_ix ix_list (pv 8) (pv 5) (fun _ _ => rfl)) (pe_callTy call_int1 rfl Bm.int (by decide +kernel) (pa_cons (pe_cmpR op_eq (pv 6) pe_str (nomark _)) pa_nil))) (pv 7)))
        (pss_one (ps_expr (pe_bm PySem.F.plainAttrs_list PySem.F.slot_list_append PySem.F.type_list_append mt_append (pv 2) (pa_cons (pe_tup (pa_cons (pe_fz (pe_op op_cat (pe_op op_cat (pe_slice sl_list (pv 8) po_none (po_some (pv 5))) (pe_lst (pa_cons (pv 10) pa_nil))) (pe_slice sl_list (pv 8) (po_some (pe_op op_add (pv 5) pe_int)) po_none))) (pa_cons (pe_fz (pe_op op_cat (pe_op op_cat (pe_slice sl_list (pv 9) po_none (po_some (pv 5))) (pe_lst (pa_cons (pe_op op_add (pv 4) pe_int) pa_nil))) (pe_slice sl_list (pv 9) (po_some (pe_op op_add (pv 5) pe_int)) po_none))) pa_nil))) pa_nil)))))))))
      (pss_one (ps_ret (pe_tup (pa_cons (pe_fz (pv 2)) (pa_cons (pe_fz (pv 3)) pa_nil)))))))), ?_⟩
  refine rd_zeros (K := K) (by rfl) hk fun p1 H1 g1 f1 => ?_
  refine rd_zeros (K := K) (by rfl) hk fun p2 H2 g2 f2 => ?_
  refine ⟨(by show 2 ≤ sizeLine; decide), fun t ht => ⟨(by show 1 ≤ sizeLine; decide), fun r hr' => ⟨(by show 0 ≤ sizeLine; decide), fun l hl => ?_⟩⟩⟩
  have t1 : Tr H [] (upd (upd (upd H2 t (.tup [.ref p1, .ref p2])) r (.lst [.ref t])) l (.lst [])) [(l, .lst []), (r, .lst [.ref t])] := (((g1.trans g2).old ht).new hr' nl).new hl nl
  have mt : Mono H2 (upd (upd (upd H2 t (.tup [.ref p1, .ref p2])) r (.lst [.ref t])) l (.lst [])) := ((Mono.new ht).trans (Mono.new hr')).trans (Mono.new hl)
  refine ⟨_, rfl, a, xc, rfl, .inl (fc.mono t1.mono).sq, _, rfl, by omega, by omega, for_range (lo := 0) (n := (xc.length : Int).toNat) (fun i σ H3 => ∃ (xs ys : List V) (v4 v5 v6 v7 v8 v9 v10 : Option V),
    σ = [some (.int nk), some (.ref a), some (.ref r), some (.ref l), v4, v5, v6, v7, v8, v9, v10] ∧ Tr H [] H3 [(l, .lst ys), (r, .lst xs)] ∧ RpL K H3 (rowsD nk (cs.take i)) xs ∧ RpL K H3 ((lets (cs.take i)).map Letter.enc) ys)
    ⟨[.ref t], [], none, none, none, none, none, none, none, rfl, t1, ?_, ?_⟩ ?_ ?_⟩
  · refine .cons (.row (p := p1) (q := p2) (((Mono.new hr').trans (Mono.new hl)) _ _ upd_same trivial) ?_ ?_) .nil
    · show FzL K _ p1 ((wrow nk []).map V.int)
      rw [wrow_nil]
      exact f1.mono (g2.mono.trans mt)
    · show FzL K _ p2 ((lrow nk []).map V.int)
      rw [lrow_nil]
      exact f2.mono mt
  · exact .nil
  · rintro i σ H3 hi ⟨xs, ys, v4, v5, v6, v7, v8, v9, v10, rfl, t3, rx, ry⟩
    have hi' : i < cs.length := by omega
    obtain ⟨c, hc⟩ : ∃ c, cs[i]? = some c := ⟨cs[i], List.getElem?_eq_getElem hi'⟩
    have hck : c.key < nk := hcs c (List.mem_of_getElem? hc)
    obtain ⟨u, hu, ru⟩ := (rc.mono t3.mono).get (i := i) (d := c.enc) (by rw [List.getElem?_map, hc]; rfl)
    obtain ⟨ac, rfl, hac⟩ := ru.ch_inv
    obtain ⟨init, hinit⟩ := rowsD_last nk (cs.take i)
    rw [hinit] at rx
    obtain ⟨us, w1, rfl, rus, rw1⟩ := rx.snoc_inv
    obtain ⟨ar, pw, pl, rfl, har, fw, fl⟩ := rw1.row_inv
    have hh := t3.own
    have hitake : (cs.take i).length = i := by rw [List.length_take]; omega
    -- key, word, worth = changes[k]
    refine ⟨_, rfl, _, rfl, a, xc, _, _, rfl, rfl, (fc.mono t3.mono).sq, at_of (by omega) hu, ac, _, rfl, SqT.of hac, rfl, _, _, rfl, _, _, rfl, _, _, rfl, rfl, ?_⟩
    -- worths, lasts = rows[-1]
    refine ⟨_, rfl, _, rfl, r, _, _, _, rfl, rfl, SqL.of hh.tail.head, atI_last _ _, ar, _, rfl, SqT.of har, rfl, _, _, rfl, _, _, rfl, rfl, ?_⟩
    -- letters.append(..)
    have gl : (lrow nk (cs.take i))[c.key]? = some (lof (cs.take i) c.key : Int) := lrow_get hck
    have gw : (wrow nk (cs.take i))[c.key]? = some (wof (cs.take i) c.key) := wrow_get hck
    refine ⟨_, rfl, .inl ⟨rfl, _, SqL.of hh.head⟩, _, rfl, _, _, rfl, rfl, _, rfl, _, rfl, _, rfl, _, rfl, _, rfl, pl, _, _, _, rfl, rfl, fl.sq, at_of (j := c.key) rfl (by rw [List.getElem?_map, gl]; rfl), ⟨(by show 6 ≤ sizeLine; decide), fun tl htl => ?_⟩⟩
    have hy : ys.length = i := by rw [ry.length, List.length_map, lets_length, hitake]
    obtain ⟨s5, rtl⟩ := snoc_tup (K := K) (ds := [.str "change", .int (0 + i + 1), .int c.key, .str (wd c.set), .int c.worth, .int (lof (cs.take i) c.key)]) hh htl (.cons .str (.cons .int (.cons .int (.cons .str (.cons .int (.cons .int .nil))))))
    have e1 : ((0 : Int) + i + 1) = ((i + 1 : Nat) : Int) := by omega
    have ed : Letter.enc (.change (i + 1) c (lof (cs.take i) c.key)) = .tuple [.str "change", .int (0 + i + 1), .int c.key, .str (wd c.set), .int c.worth, .int (lof (cs.take i) c.key)] := by
      rw [e1]
      rfl
    rw [← ed] at rtl
    refine ⟨_, _, _, rfl, rfl, by rw [upd_ne (ne_of_none hh.head htl)]; exact hh.head, (by rw [hy]; exact small1000 (by omega)), ?_⟩
    have t5 := t3.trans s5
    have m5 := s5.mono
    -- more = worths[key] * int(word == 'add') + worth
    refine ⟨_, rfl, _, rfl, pw, _, _, _, rfl, rfl, (fw.mono m5).sq, at_of (j := c.key) rfl (by rw [List.getElem?_map, gw]; rfl), _, rfl, rfl, .inr ⟨_, rfl, _, _, rfl, rfl, .inr (by split <;> exact ⟨by decide, by decide⟩), _, rfl, _, _, rfl, rfl, ?_⟩⟩
    have emore : wof (cs.take i) c.key * (if decide (V.str (wd c.set) = V.str "add") = true then 1 else 0) + c.worth = wst c.key (wof (cs.take i) c.key) c := by
      unfold wst
      rw [if_pos rfl]
      cases c.set with
      | true =>
        rw [if_neg (by decide +kernel), if_pos rfl, Int.mul_zero]
      | false =>
        rw [if_pos (by decide +kernel), if_neg (by decide), Int.mul_one]
    -- rows.append(..)
    refine ⟨_, rfl, .inl ⟨rfl, _, SqL.of t5.own.tail.head⟩, ?_⟩
    refine rd_cut (z := wof (cs.take i) c.key * (if decide (V.str (wd c.set) = V.str "add") = true then 1 else 0) + c.worth) (by rfl) (by rfl) (fw.mono m5) (by rw [wrow_len]; exact hck) (by rw [wrow_len]; omega) (fun _ _ q => ⟨_, rfl, q⟩) fun p5 H5 g5 f5 => ?_
    rw [emore] at f5
    refine rd_cut (z := 0 + i + 1) (by rfl) (by rfl) (fl.mono (m5.trans g5.mono)) (by rw [lrow_len]; exact hck) (by rw [lrow_len]; omega) (fun _ _ q => ⟨_, rfl, _, _, rfl, rfl, q⟩) fun p6 H6 g6 f6 => ⟨(by show 2 ≤ sizeLine; decide), fun t7 ht7 => ?_⟩
    rw [e1] at f6
    have t6 := ((t5.grow g5).grow g6).swap2
    obtain ⟨s8, r8⟩ := snoc_tup (K := K) (ds := [ilst (wrow nk (cs.take i ++ [c])), ilst (lrow nk (cs.take i ++ [c]))]) (us := [.ref p5, .ref p6]) t6.own ht7 (.cons (.il (by rw [wrow_snoc]; exact f5.mono g6.mono)) (.cons (.il (by rw [lrow_snoc, hitake]; exact f6)) .nil))
    have hx : (us ++ [V.ref ar]).length = i + 1 := by
      have := (rus.snoc rw1).length
      rw [← hinit, rowsD_length, hitake] at this
      exact this
    refine ⟨_, _, _, rfl, rfl, by rw [upd_ne (ne_of_none t6.own.head ht7)]; exact t6.own.head, (by rw [hx]; exact small1000 (by omega)), ?_⟩
    have m8 := s8.mono
    refine ⟨us ++ [.ref ar] ++ [.ref t7], ys ++ [.ref tl], _, _, _, _, _, _, _, rfl, (t6.trans s8).swap2, ?_, ?_⟩
    · rw [take_snoc hc, rowsD_snoc, hinit]
      exact ((rus.snoc rw1).mono (((m5.trans g5.mono).trans g6.mono).trans m8)).snoc r8
    · rw [take_snoc hc, lets_snoc, hitake, List.map_append]
      exact ((ry.mono m5).snoc rtl).mono ((g5.mono.trans g6.mono).trans m8)
  · rintro σ H3 ⟨xs, ys, v4, v5, v6, v7, v8, v9, v10, rfl, t3, rx, ry⟩
    have e : cs.take ((xc.length : Int).toNat) = cs := List.take_of_length_le (by omega)
    rw [e] at rx ry
    have t3' := t3.swap2
    refine rd_fz ⟨_, rfl, _, _, rfl, t3'.own.head, fun o1 => ?_⟩
    have t4 := t3'.fz (ob := o1) .nil
    refine rd_fz ⟨_, rfl, _, _, rfl, t4.own.head, fun o2 => ?_⟩
    have t5 := t4.fz (ob := o2) .nil
    refine ⟨(by show 2 ≤ sizeLine; decide), fun t6 ht6 => ?_⟩
    refine k _ _ (t5.old ht6) (.tup upd_same (.cons (.lst ?_ (rx.mono ?_)) (.cons (.lst ?_ (ry.mono ?_)) .nil)))
    · exact (FzL.frz (xs := xs)).mono (t4.own.mono_put.trans (Mono.new ht6))
    · exact (t3'.own.mono_put.trans t4.own.mono_put).trans (Mono.new ht6)
    · exact (FzL.frz (xs := ys)).mono (Mono.new ht6)
    · exact (t3'.own.mono_put.trans t4.own.mono_put).trans (Mono.new ht6)
end
end Cu

namespace Cu
open PySem PySem.Spec PyProof.Rows L2
def partRows (cs : List Ch) (n b m : Nat) : List (Int × Nat) := (List.range m).map fun i => (wof (cs.take n) (b + i), lof (cs.take n) (b + i))
def partL (cs : List Ch) (n b e : Nat) : Letter := .part n b (partRows cs n b (e - b))
def beatL (nk : Nat) (cs : List Ch) (n : Nat) : Letter := .beat n ((List.range nk).map fun k => lof (cs.take n) k)
/-- a letter of a board of nk keys, with the story cs, as it was at some time -/
inductive IsLet (nk : Nat) (cs : List Ch) : Letter → Prop
  | change {n : Nat} {c : Ch} : cs[n]? = some c → IsLet nk cs (.change (n + 1) c (lof (cs.take n) c.key))
  | part {n b e : Nat} : n ≤ cs.length → b < e → e ≤ nk → IsLet nk cs (partL cs n b e)
  | beat {n : Nat} : n ≤ cs.length → IsLet nk cs (beatL nk cs n)
section
variable {K : PySem.W.Frag}
theorem Rp.str_of {H : Hp} {ls : List Letter} {v : V} (h : Rp K H (.list (ls.map Letter.enc)) v) : ∃ a xs, v = .ref a ∧ FzL K H a xs ∧ RpL K H (ls.map Letter.enc) xs ∧ xs.length = ls.length := by
  obtain ⟨a, xs, e, f, r⟩ := h.lst_inv
  exact ⟨a, xs, e, f, r, by rw [r.length, List.length_map]⟩
end
end Cu

namespace Cu
open PySem PySem.Spec PyProof.Rows L2
/-- list + list, lists that stay among them -/
def rCatZ (K : PySem.W.Frag) : R2 := fun x y H Q => ∃ l b xs zs, x = .ref l ∧ y = .ref b ∧ SqL K H l xs ∧ SqL K H b zs ∧ xs.length + zs.length ≤ sizeLine ∧ ∀ p, H p = none → Q (.ref p) (upd H p (.lst (xs ++ zs)))
theorem op_catZ {X : Cx} : OpR X (binaryOp .Add) (rCatZ X.K) := by
  intro pins s σ H x y v u Q I rx ry h
  obtain ⟨l, b, xs, zs, rfl, rfl, hl, hb, hz, q⟩ := h
  cases rx
  cases ry
  obtain ⟨i1, r1, p1, z1⟩ := I.list hl
  obtain ⟨i2, r2, p2, z2⟩ := I.list hb
  obtain ⟨⟨lc, ld, lq, ls⟩, ho1, e1, n1, e2⟩ := p1.isList
  obtain ⟨⟨bc, bd, bq, bs⟩, ho2, e3, n2, e4⟩ := p2.isList
  simp only at e1 e2 e3 e4
  subst e1 e2 e3 e4
  have hsz : i1.toArray.size + i2.toArray.size ≤ sizeLine := by
    rw [List.size_toArray, List.size_toArray, ← r1.length, ← r2.length]
    exact hz
  refine concat_meets ⟨_, ho1, rfl⟩ ⟨_, ho2, rfl⟩ noFill_list_add seq_list_add F.slot_list_add F.entry_list_add (F.args_list_add_2 _ _) (list_addW l b i1.toArray i2.toArray n1 n2 ld bd ls bs hsz) ⟨ho1, ho2, ?_⟩
  rw [show i1.toArray ++ i2.toArray = (i1 ++ i2).toArray by simp]
  exact ⟨.ref _, _, I.lnew (t' := s.toks) (r1.append r2) (by rw [List.length_append]; exact hz), rfl, q _ I.fresh⟩
end Cu

namespace Cu
open PySem PySem.Spec PyProof.Rows L2
/-- a op1 b op2 c op3 d, as a test -/
def tChain3 (r1 r2 r3 : R2) (ta tb tc td : TE) : TE := fun σ H Q => ta σ H fun x H1 => tb σ H1 fun y H2 => r1 x y H2 fun z H3 => ∃ k, z = .bl k ∧
  (if k = true then tc σ H3 fun u H4 => r2 y u H4 fun z H5 => ∃ k, z = .bl k ∧ (if k = true then td σ H5 fun v H6 => r3 u v H6 Q else Q (.bl false) H5) else Q (.bl false) H3)
section
variable {X : Cx} {a b c d : Expr} {ta tb tc td : TE} {pos : Pos}
theorem pt_chain3 {p1 p2 p3 : CmpOp} {r1 r2 r3 : R2} (o1 : OpR X (compareOp p1) r1) (o2 : OpR X (compareOp p2) r2) (o3 : OpR X (compareOp p3) r3) (ha : PE X a ta) (hb : PE X b tb) (hc : PE X c tc) (hd : PE X d td)
    (hm : lastMarks [p1, p2, p3] [b, c, d] = false := by with_unfolding_all rfl) : PT X (.Compare a [p1, p2, p3] [b, c, d] pos) (tTest (tChain3 r1 r2 r3 ta tb tc td)) := ⟨fun pins s σ H Q I h => by
  refine isTrue_chain (thn (ha.run pins s σ H _ I h) fun v1 s1 ⟨x1, H1, I1, q1, w1⟩ => test_link (thn (hb.run pins s1 σ H1 _ I1 w1) fun v2 s2 ⟨x2, H2, I2, q2, w2⟩ => thn (o1 pins s2 σ H2 x1 x2 v1 v2 _ I2 q1 q2 w2) fun v3 s3 ⟨x3, H3, I3, q3, k, ek, w3⟩ => ?_)) hm
  subst ek
  cases q3
  refine wpAny_truthy_bool ?_
  cases k with
  | false =>
    obtain ⟨_, e, w⟩ := w3
    cases e
    exact ite_ff ⟨H3, I3, w⟩
  | true =>
    refine ite_tt (test_link (thn (hc.run pins s3 σ H3 _ I3 w3) fun v4 s4 ⟨x4, H4, I4, q4, w4⟩ => thn (o2 pins s4 σ H4 x2 x4 v2 v4 _ I4 q2 q4 w4) fun v5 s5 ⟨x5, H5, I5, q5, k5, e5, w5⟩ => ?_))
    subst e5
    cases q5
    refine wpAny_truthy_bool ?_
    cases k5 with
    | false =>
      obtain ⟨_, e, w⟩ := w5
      cases e
      exact ite_ff ⟨H5, I5, w⟩
    | true =>
      refine ite_tt (test_last (thn (hd.run pins s5 σ H5 _ I5 w5) fun v6 s6 ⟨x6, H6, I6, q6, w6⟩ => thn (o3 pins s6 σ H6 x4 x6 v4 v6 _ I6 q4 q6 w6) fun v7 s7 ⟨x7, H7, I7, q7, k7, e7, w7⟩ => ?_))
      subst e7
      cases q7
      exact wpAny_truthy_bool ⟨H7, I7, w7⟩⟩
end
end Cu

namespace Cu
open PySem PySem.Spec PyProof.Rows L2
/-! a hearer, key by key -/
/-- a change put aside -/
structure As where
  n : Nat
  worth : Int
  ahead : Nat
structure HK where
  worth : Int
  since : Nat
  upto : Int
  aside : List As
def HK.ini : HK := ⟨0, 0, -1, []⟩
def HK.done (h : HK) (n : Nat) (set : Bool) (w : Int) : HK := { h with worth := if set then w else h.worth + w, since := n, upto := n }
def asN (as : List As) : List Int := as.map fun a => (a.n : Int)
def srt (ns : List Int) : List Int := ns.mergeSort fun a b => decide (a ≤ b)
def findA (as : List As) (n : Int) : Option As := as.find? fun a => decide ((a.n : Int) = n)
def dropA (as : List As) (n : Int) : List As := as.filter fun a => decide ((a.n : Int) ≠ n)
def putA (as : List As) (a : As) : List As := if (as.any fun x => decide (x.n = a.n)) = true then as.map fun x => if x.n = a.n then a else x else as ++ [a]
def HK.fstep (st : HK × List Int) (n : Int) : HK × List Int :=
  match findA st.1.aside n with
  | none => st
  | some a => if n ≤ st.1.upto then ({ st.1 with aside := dropA st.1.aside n }, st.2)
    else if (a.ahead : Int) ≤ st.1.upto then (({ st.1 with aside := dropA st.1.aside n } : HK).done a.n false a.worth, st.2 ++ [n])
    else st
def HK.free (h : HK) : HK × List Int := (srt (asN h.aside)).foldl HK.fstep (h, [])
def HK.chg (h : HK) (n : Nat) (c : Ch) (ahead : Nat) : HK × List Int :=
  if (n : Int) ≤ h.upto then (h, []) else if c.set = false ∧ h.upto < (ahead : Int) then ({ h with aside := putA h.aside ⟨n, c.worth, ahead⟩ }, [])
  else (((h.done n c.set c.worth).free).1, (n : Int) :: ((h.done n c.set c.worth).free).2)
def HK.row (h : HK) (n : Nat) (w : Int) (last : Nat) : HK × List Int := if h.upto < (n : Int) then ({ h with worth := w, since := last, upto := n } : HK).free else (h, [])
def HK.beat (h : HK) (n last : Nat) : HK := if (last : Int) ≤ h.upto ∧ h.upto < (n : Int) then { h with upto := n } else h
def hearK (k : Nat) (h : HK) : Letter → HK × List Int
  | .change n c ahead => if c.key = k then h.chg n c ahead else (h, [])
  | .part n b rows => if b ≤ k then (match rows[k - b]? with | some r => h.row n r.1 r.2 | none => (h, [])) else (h, [])
  | .beat n lasts => match lasts[k]? with | some l => (h.beat n l, []) | none => (h, [])
def hear (hs : List HK) (l : Letter) : List HK := hs.mapIdx fun k h => (hearK k h l).1
def heard (hs : List HK) (l : Letter) : List Int := (hs.mapIdx fun k h => (hearK k h l).2).flatten
theorem srt_eq {ns ms : List Int} (hp : ms.Perm ns) (hs : ms.Pairwise (· ≤ ·)) : ms = srt ns := by
  refine PySem.W.ksm_same (hp.trans (List.mergeSort_perm ns _).symm) hs ?_
  have := List.pairwise_mergeSort (le := fun a b : Int => decide (a ≤ b)) (fun a b c h1 h2 => by simp at h1 h2 ⊢; omega) (fun a b => by simp; omega) ns
  exact this.imp fun h => by simpa using h
theorem hear_len (hs : List HK) (l : Letter) : (hear hs l).length = hs.length := by simp [hear]

/-! where a hearer lies -/
structure HA where
  p : Addr
  dx : Addr
  l1 : Addr
  l2 : Addr
  l3 : Addr
  l4 : Addr
  ds : List Addr
def hF (A : HA) : List (Str × V) := [("worth", .ref A.l1), ("since", .ref A.l2), ("upto", .ref A.l3), ("aside", .ref A.l4)]
def hObj (C : Addr) (A : HA) (hs : List HK) (kv : List (List (Key × V))) : Lg :=
  (A.p, .ins C A.dx (hF A)) :: (A.l1, .lst (hs.map fun h => .int h.worth)) :: (A.l2, .lst (hs.map fun h => .int h.since)) :: (A.l3, .lst (hs.map fun h => .int h.upto)) ::
    (A.l4, .lst (A.ds.map V.ref)) :: List.zipWith (fun d k => (d, HO.dK k)) A.ds kv
def asL (k : Nat) (a : As) : Letter := .change a.n ⟨k, false, a.worth⟩ a.ahead
def AsOk (K : PySem.W.Frag) (H : Hp) (k : Nat) : List As → List (Key × V) → Prop
  | [], kvs => kvs = []
  | a :: as, kvs => ∃ v r, kvs = (Sum.inl (a.n : Int), v) :: r ∧ Rp K H (asL k a).enc v ∧ AsOk K H k as r
section
variable {K : PySem.W.Frag} {H H' : Hp} {k : Nat}
theorem AsOk.mono (m : Mono H H') : ∀ {as : List As} {kvs : List (Key × V)}, AsOk K H k as kvs → AsOk K H' k as kvs
  | [], _, h => h
  | a :: as, _, ⟨v, r, e, h1, h2⟩ => ⟨v, r, e, h1.mono m, AsOk.mono m h2⟩
theorem AsOk.keys : ∀ {as : List As} {kvs : List (Key × V)}, AsOk K H k as kvs → kvs.map (·.1) = (asN as).map Sum.inl
  | [], _, h => by
    cases h
    rfl
  | a :: as, _, ⟨v, r, e, h1, h2⟩ => by
    subst e
    show Sum.inl (a.n : Int) :: r.map (·.1) = _
    rw [h2.keys]
    rfl
theorem AsOk.len {as : List As} {kvs : List (Key × V)} (h : AsOk K H k as kvs) : kvs.length = as.length := by
  have := congrArg List.length h.keys
  simpa [asN] using this
theorem AsOk.find : ∀ {as : List As} {kvs : List (Key × V)} {n : Int} {a : As}, AsOk K H k as kvs → findA as n = some a → ∃ v, valV kvs (Sum.inl n) = some v ∧ Rp K H (asL k a).enc v
  | [], _, _, _, _, e => by cases e
  | b :: as, _, n, a, ⟨v, r, e, h1, h2⟩, f => by
    subst e
    by_cases hb : (b.n : Int) = n
    · have : findA (b :: as) n = some b := by simp [findA, hb]
      rw [this] at f
      cases f
      exact ⟨v, valV_pos (by rw [hb]), h1⟩
    · have : findA (b :: as) n = findA as n := by simp [findA, hb]
      rw [this] at f
      obtain ⟨u, hu, ru⟩ := h2.find f
      exact ⟨u, by rw [valV_neg (fun q => hb (Sum.inl.inj q))]; exact hu, ru⟩
theorem AsOk.drop : ∀ {as : List As} {kvs : List (Key × V)} (n : Int), AsOk K H k as kvs → AsOk K H k (dropA as n) (dropK kvs (Sum.inl n))
  | [], _, _, h => by
    cases h
    rfl
  | b :: as, _, n, ⟨v, r, e, h1, h2⟩ => by
    subst e
    have ih := AsOk.drop n h2
    by_cases hb : (b.n : Int) = n
    · have : dropA (b :: as) n = dropA as n := by simp [dropA, hb]
      rw [this, dropK_pos (by rw [hb])]
      exact ih
    · have : dropA (b :: as) n = b :: dropA as n := by simp [dropA, hb]
      rw [this, dropK_neg (fun q => hb (Sum.inl.inj q))]
      exact ⟨v, _, rfl, h1, ih⟩
theorem AsOk.any : ∀ {as : List As} {kvs : List (Key × V)} (n : Nat), AsOk K H k as kvs → (kvs.any fun kv => decide (kv.1 = Sum.inl (n : Int))) = as.any fun x => decide (x.n = n)
  | [], _, _, h => by
    cases h
    rfl
  | b :: as, _, n, ⟨v, r, e, h1, h2⟩ => by
    subst e
    rw [List.any_cons, List.any_cons, h2.any]
    congr 1
    by_cases hb : b.n = n <;> simp [hb]
    intro q
    exact hb (by omega)
theorem AsOk.map : ∀ {as : List As} {kvs : List (Key × V)} (a : As) (v : V), AsOk K H k as kvs → Rp K H (asL k a).enc v →
    AsOk K H k (as.map fun x => if x.n = a.n then a else x) (kvs.map fun kv => if kv.1 = Sum.inl (a.n : Int) then (kv.1, v) else kv)
  | [], _, _, _, h, _ => by
    cases h
    rfl
  | b :: as, _, a, v, ⟨u, r, e, h1, h2⟩, hv => by
    subst e
    have ih := AsOk.map a v h2 hv
    by_cases hb : b.n = a.n
    · simp only [List.map_cons, hb, if_pos]
      exact ⟨v, _, rfl, hv, ih⟩
    · have hb' : ¬ ((Sum.inl (b.n : Int) : Key) = Sum.inl (a.n : Int)) := fun q => hb (by have := Sum.inl.inj q; omega)
      simp only [List.map_cons, hb, if_neg hb', if_false]
      exact ⟨u, _, rfl, h1, ih⟩
theorem AsOk.append : ∀ {as bs : List As} {kvs kws : List (Key × V)}, AsOk K H k as kvs → AsOk K H k bs kws → AsOk K H k (as ++ bs) (kvs ++ kws)
  | [], _, _, _, h, g => by
    cases h
    exact g
  | _ :: _, _, _, _, ⟨v, r, e, h1, h2⟩, g => by
    subst e
    exact ⟨v, _, rfl, h1, h2.append g⟩
theorem AsOk.put {as : List As} {kvs : List (Key × V)} {a : As} {v : V} (h : AsOk K H k as kvs) (hv : Rp K H (asL k a).enc v) : AsOk K H k (putA as a) (putK kvs (Sum.inl (a.n : Int)) v) := by
  unfold putA putK
  rw [h.any]
  split
  · exact h.map a v hv
  · exact h.append ⟨v, [], rfl, hv, rfl⟩
end

/-- the objects at c are a hearer's that stands so -/
structure HR (K : PySem.W.Frag) (C : Addr) (A : HA) (hs : List HK) (H : Hp) (c : Lg) : Prop where
  ex : ∃ kv, c = hObj C A hs kv ∧ A.ds.length = hs.length ∧ kv.length = hs.length ∧ ∀ (k : Nat) (h : HK) (kvs : List (Key × V)), hs[k]? = some h → kv[k]? = some kvs → AsOk K H k h.aside kvs
theorem Tr.mid {H : Hp} {pre post : Lg} {a : Addr} {o o' : HO} (h : Has H (pre ++ (a, o) :: post)) (n : ¬ Imm o') : Tr H (pre ++ (a, o) :: post) (upd H a o') (pre ++ (a, o') :: post) := by
  refine ⟨Mono.put (h.mem (by simp)) (h.at_ (a, o) (by simp)).2, fun R hR => ?_⟩
  rw [List.append_assoc, List.cons_append] at hR ⊢
  exact ((hR.perm List.perm_middle).put n).perm List.perm_middle.symm
section
variable {K : PySem.W.Frag} {C : Addr} {A : HA} {hs : List HK} {H H' : Hp} {c : Lg} {k : Nat} {h : HK}
theorem HR.mono (r : HR K C A hs H c) (m : Mono H H') : HR K C A hs H' c := by
  obtain ⟨kv, e, l1, l2, q⟩ := r.ex
  exact ⟨kv, e, l1, l2, fun k h kvs e1 e2 => (q k h kvs e1 e2).mono m⟩
theorem HR.at_p (r : HR K C A hs H c) (h : Has H c) : H A.p = some (.ins C A.dx (hF A)) := by
  obtain ⟨kv, rfl, _⟩ := r.ex
  exact h.mem (by simp [hObj])
theorem HR.at1 (r : HR K C A hs H c) (h : Has H c) : H A.l1 = some (.lst (hs.map fun h => .int h.worth)) := by
  obtain ⟨kv, rfl, _⟩ := r.ex
  exact h.mem (by simp [hObj])
theorem HR.at2 (r : HR K C A hs H c) (h : Has H c) : H A.l2 = some (.lst (hs.map fun h => .int h.since)) := by
  obtain ⟨kv, rfl, _⟩ := r.ex
  exact h.mem (by simp [hObj])
theorem HR.at3 (r : HR K C A hs H c) (h : Has H c) : H A.l3 = some (.lst (hs.map fun h => .int h.upto)) := by
  obtain ⟨kv, rfl, _⟩ := r.ex
  exact h.mem (by simp [hObj])
theorem HR.at4 (r : HR K C A hs H c) (h : Has H c) : H A.l4 = some (.lst (A.ds.map V.ref)) := by
  obtain ⟨kv, rfl, _⟩ := r.ex
  exact h.mem (by simp [hObj])
theorem HR.dict (r : HR K C A hs H c) (hh : Has H c) (e : hs[k]? = some h) : ∃ d kvs, A.ds[k]? = some d ∧ H d = some (.dK kvs) ∧ AsOk K H k h.aside kvs := by
  obtain ⟨kv, rfl, l1, l2, q⟩ := r.ex
  have hk := (List.getElem?_eq_some_iff.mp e).1
  obtain ⟨d, hd⟩ : ∃ d, A.ds[k]? = some d := ⟨A.ds[k], List.getElem?_eq_getElem (by omega)⟩
  obtain ⟨kvs, hkv⟩ : ∃ kvs, kv[k]? = some kvs := ⟨kv[k], List.getElem?_eq_getElem (by omega)⟩
  refine ⟨d, kvs, hd, hh.mem ?_, q k h kvs e hkv⟩
  have : (List.zipWith (fun d k => (d, HO.dK k)) A.ds kv)[k]? = some (d, HO.dK kvs) := by rw [List.getElem?_zipWith, hd, hkv]
  have := List.mem_of_getElem? this
  simp [hObj, this]
theorem map_set_same {α β : Type} {f : α → β} {xs : List α} {k : Nat} {x y : α} (e : xs[k]? = some x) (h : f y = f x) : (xs.set k y).map f = xs.map f := by
  rw [List.map_set, h]
  apply List.ext_getElem?
  intro i
  by_cases hi : k = i
  · subst hi
    rw [List.getElem?_set_self (by rw [List.length_map]; exact (List.getElem?_eq_some_iff.mp e).1), List.getElem?_map, e]
    rfl
  · rw [List.getElem?_set_ne hi]
theorem hs_set {hs : List HK} {k : Nat} {h g : HK} (e : hs[k]? = some h) (ea : g.aside = h.aside) {kv : List (List (Key × V))} (q : ∀ (k : Nat) (h : HK) (kvs : List (Key × V)), hs[k]? = some h → kv[k]? = some kvs → AsOk K H k h.aside kvs) :
    ∀ (j : Nat) (h : HK) (kvs : List (Key × V)), (hs.set k g)[j]? = some h → kv[j]? = some kvs → AsOk K H j h.aside kvs := fun j h' kvs e1 e2 => by
  by_cases hj : k = j
  · subst hj
    rw [List.getElem?_set_self (List.getElem?_eq_some_iff.mp e).1] at e1
    cases e1
    rw [ea]
    exact q k h kvs e e2
  · rw [List.getElem?_set_ne hj] at e1
    exact q j h' kvs e1 e2
/-- the three lists, written at a key -/
theorem HR.set1 (r : HR K C A hs H c) (hh : Has H c) (e : hs[k]? = some h) (z : Int) :
    ∃ c', HR K C A (hs.set k { h with worth := z }) (upd H A.l1 (.lst ((hs.map fun h => V.int h.worth).set k (.int z)))) c' ∧ Tr H c (upd H A.l1 (.lst ((hs.map fun h => V.int h.worth).set k (.int z)))) c' := by
  obtain ⟨kv, rfl, l1, l2, q⟩ := r.ex
  have t := Tr.mid (pre := [(A.p, .ins C A.dx (hF A))]) (o' := .lst ((hs.map fun h => V.int h.worth).set k (.int z))) hh nl
  refine ⟨hObj C A (hs.set k { h with worth := z }) kv, ⟨kv, rfl, by rw [List.length_set]; exact l1, by rw [List.length_set]; exact l2, hs_set (g := { h with worth := z }) e rfl fun k h kvs e1 e2 => (q k h kvs e1 e2).mono t.mono⟩, ?_⟩
  unfold hObj
  rw [List.map_set, map_set_same (f := fun h : HK => V.int h.since) (y := { h with worth := z }) e rfl, map_set_same (f := fun h : HK => V.int h.upto) (y := { h with worth := z }) e rfl]
  exact t
theorem HR.set2 (r : HR K C A hs H c) (hh : Has H c) (e : hs[k]? = some h) (z : Nat) :
    ∃ c', HR K C A (hs.set k { h with since := z }) (upd H A.l2 (.lst ((hs.map fun h => V.int h.since).set k (.int z)))) c' ∧ Tr H c (upd H A.l2 (.lst ((hs.map fun h => V.int h.since).set k (.int z)))) c' := by
  obtain ⟨kv, rfl, l1, l2, q⟩ := r.ex
  have t := Tr.mid (pre := [(A.p, .ins C A.dx (hF A)), (A.l1, .lst (hs.map fun h => .int h.worth))]) (o' := .lst ((hs.map fun h => V.int h.since).set k (.int z))) hh nl
  refine ⟨hObj C A (hs.set k { h with since := z }) kv, ⟨kv, rfl, by rw [List.length_set]; exact l1, by rw [List.length_set]; exact l2, hs_set (g := { h with since := z }) e rfl fun k h kvs e1 e2 => (q k h kvs e1 e2).mono t.mono⟩, ?_⟩
  unfold hObj
  rw [List.map_set (f := fun h : HK => V.int h.since), map_set_same (f := fun h : HK => V.int h.worth) (y := { h with since := z }) e rfl, map_set_same (f := fun h : HK => V.int h.upto) (y := { h with since := z }) e rfl]
  exact t
theorem HR.set3 (r : HR K C A hs H c) (hh : Has H c) (e : hs[k]? = some h) (z : Int) :
    ∃ c', HR K C A (hs.set k { h with upto := z }) (upd H A.l3 (.lst ((hs.map fun h => V.int h.upto).set k (.int z)))) c' ∧ Tr H c (upd H A.l3 (.lst ((hs.map fun h => V.int h.upto).set k (.int z)))) c' := by
  obtain ⟨kv, rfl, l1, l2, q⟩ := r.ex
  have t := Tr.mid (pre := [(A.p, .ins C A.dx (hF A)), (A.l1, .lst (hs.map fun h => .int h.worth)), (A.l2, .lst (hs.map fun h => .int h.since))]) (o' := .lst ((hs.map fun h => V.int h.upto).set k (.int z))) hh nl
  refine ⟨hObj C A (hs.set k { h with upto := z }) kv, ⟨kv, rfl, by rw [List.length_set]; exact l1, by rw [List.length_set]; exact l2, hs_set (g := { h with upto := z }) e rfl fun k h kvs e1 e2 => (q k h kvs e1 e2).mono t.mono⟩, ?_⟩
  unfold hObj
  rw [List.map_set (f := fun h : HK => V.int h.upto), map_set_same (f := fun h : HK => V.int h.worth) (y := { h with upto := z }) e rfl, map_set_same (f := fun h : HK => V.int h.since) (y := { h with upto := z }) e rfl]
  exact t
theorem zip_split {ds : List Addr} {kv : List (List (Key × V))} {k : Nat} {d : Addr} {x : List (Key × V)} (h1 : ds[k]? = some d) (h2 : kv[k]? = some x) :
    ∃ pre post, List.zipWith (fun d k => (d, HO.dK k)) ds kv = pre ++ (d, HO.dK x) :: post ∧ ∀ y, List.zipWith (fun d k => (d, HO.dK k)) ds (kv.set k y) = pre ++ (d, HO.dK y) :: post := by
  induction k generalizing ds kv with
  | zero =>
    cases ds with
    | nil => simp at h1
    | cons d' ds =>
      cases kv with
      | nil => simp at h2
      | cons x' kv =>
        simp at h1 h2
        subst h1 h2
        exact ⟨[], _, rfl, fun y => rfl⟩
  | succ k ih =>
    cases ds with
    | nil => simp at h1
    | cons d' ds =>
      cases kv with
      | nil => simp at h2
      | cons x' kv =>
        obtain ⟨pre, post, e1, e2⟩ := ih (ds := ds) (kv := kv) (by simpa using h1) (by simpa using h2)
        refine ⟨(d', HO.dK x') :: pre, post, ?_, fun y => ?_⟩
        · rw [List.zipWith_cons_cons, e1]
          rfl
        · rw [List.set_cons_succ, List.zipWith_cons_cons, e2]
          rfl
/-- a key's dict, written -/
theorem HR.set4 (r : HR K C A hs H c) (hh : Has H c) (e : hs[k]? = some h) {d : Addr} (ed : A.ds[k]? = some d) {as : List As} {kvs : List (Key × V)} (ok : AsOk K H k as kvs) :
    ∃ c', HR K C A (hs.set k { h with aside := as }) (upd H d (.dK kvs)) c' ∧ Tr H c (upd H d (.dK kvs)) c' := by
  obtain ⟨kv, rfl, l1, l2, q⟩ := r.ex
  have hk := (List.getElem?_eq_some_iff.mp e).1
  obtain ⟨x, hx⟩ : ∃ x, kv[k]? = some x := ⟨kv[k], List.getElem?_eq_getElem (by omega)⟩
  obtain ⟨pre, post, e1, e2⟩ := zip_split ed hx
  have t : Tr H (hObj C A hs kv) (upd H d (.dK kvs)) (hObj C A (hs.set k { h with aside := as }) (kv.set k kvs)) := by
    unfold hObj at hh ⊢
    rw [map_set_same (f := fun h : HK => V.int h.worth) (y := { h with aside := as }) e rfl, map_set_same (f := fun h : HK => V.int h.since) (y := { h with aside := as }) e rfl, map_set_same (f := fun h : HK => V.int h.upto) (y := { h with aside := as }) e rfl, e1, e2]
    rw [e1] at hh
    have := Tr.mid (pre := (A.p, .ins C A.dx (hF A)) :: (A.l1, .lst (hs.map fun h => .int h.worth)) :: (A.l2, .lst (hs.map fun h => .int h.since)) :: (A.l3, .lst (hs.map fun h => .int h.upto)) :: (A.l4, .lst (A.ds.map V.ref)) :: pre) (o' := .dK kvs) hh ndk
    exact this
  refine ⟨_, ⟨kv.set k kvs, rfl, by rw [List.length_set]; exact l1, by rw [List.length_set, List.length_set]; exact l2, fun j h' kw e3 e4 => ?_⟩, t⟩
  by_cases hj : k = j
  · subst hj
    rw [List.getElem?_set_self hk] at e3
    rw [List.getElem?_set_self (by omega)] at e4
    cases e3
    cases e4
    exact ok.mono t.mono
  · rw [List.getElem?_set_ne hj] at e3 e4
    exact (q j h' kw e3 e4).mono t.mono
end
/-- what the walk asks of the class -/
structure CHr (K : PySem.W.Frag) (C : Addr) : Prop where
  cl : Cls K C
  n1 : NoAttr K C "worth"
  n2 : NoAttr K C "since"
  n3 : NoAttr K C "upto"
  n4 : NoAttr K C "aside"
theorem hF1 (A : HA) : (hF A).lookup ("worth" : Str) = some (.ref A.l1) := by rfl
theorem hF2 (A : HA) : (hF A).lookup ("since" : Str) = some (.ref A.l2) := by rfl
theorem hF3 (A : HA) : (hF A).lookup ("upto" : Str) = some (.ref A.l3) := by rfl
theorem hF4 (A : HA) : (hF A).lookup ("aside" : Str) = some (.ref A.l4) := by rfl
theorem ixN_nat {n k : Nat} (h : k < n) : ixN n (k : Int) = some k := by
  unfold ixN
  rw [if_pos (by omega), if_pos (by omega), Int.toNat_natCast]
end Cu

namespace Cu
open PySem PySem.Spec PyProof.Rows L2
abbrev s_Hearer_init : Stmt := (inClass (top 23) 0)
theorem sc_Hearer_init : FnScope ["self", "keys", "key"] ["self", "keys"] (defScope s_Hearer_init) := ⟨rfl, rfl, rfl, by decide +kernel, rfl, by decide +kernel, by decide +kernel⟩

abbrev s_Hearer_known : Stmt := (inClass (top 23) 1)
theorem sc_Hearer_known : FnScope ["self"] ["self"] (defScope s_Hearer_known) := ⟨rfl, rfl, rfl, by decide +kernel, rfl, by decide +kernel, by decide +kernel⟩

abbrev s_Hearer_held : Stmt := (inClass (top 23) 2)
theorem sc_Hearer_held : FnScope ["self"] ["self"] (defScope s_Hearer_held) := ⟨rfl, rfl, rfl, by decide +kernel, rfl, by decide +kernel, by decide +kernel⟩

abbrev s_Hearer_look : Stmt := (inClass (top 23) 3)
theorem sc_Hearer_look : FnScope ["self", "key"] ["self", "key"] (defScope s_Hearer_look) := ⟨rfl, rfl, rfl, by decide +kernel, rfl, by decide +kernel, by decide +kernel⟩

abbrev s_Hearer_whole : Stmt := (inClass (top 23) 4)
theorem sc_Hearer_whole : FnScope ["self"] ["self"] (defScope s_Hearer_whole) := ⟨rfl, rfl, rfl, by decide +kernel, rfl, by decide +kernel, by decide +kernel⟩

theorem iteP {c A B : Prop} [Decidable c] (hc : c) (h : A) : if c then A else B := by
  rw [if_pos hc]
  exact h
theorem iteM {c A B : Prop} [Decidable c] (hc : ¬ c) (h : B) : if c then A else B := by
  rw [if_neg hc]
  exact h
theorem Has.one {H : Hp} {a : Addr} {o : HO} (h : H a = some o) (n : ¬ Imm o) : Has H [(a, o)] := ⟨by simp, fun p hp => by
  rw [List.mem_singleton] at hp
  subst hp
  exact ⟨h, n⟩⟩
theorem nins {C dx : Addr} {fs : List (Str × V)} : ¬ Imm (.ins C dx fs) := fun h => h
/-- a list of the same value, so many as a name says -/
theorem rd_const {σ : L2.St} {H : Hp} {Q : VK} {i j nk : Nat} {te : TE} {v : V} {vs : List Nat} (h1 : σ[i]? = some (some (.int nk))) (hk : nk ≤ 8) (hw : ∀ x, wipe ((wipe σ vs).set j (some x)) vs = wipe σ vs)
    (he : ∀ (σ1 : L2.St) (H1 : Hp) (Q1 : VK), Q1 v H1 → te σ1 H1 Q1) (q : ∀ p H', Tr H [] H' [(p, .lst (List.replicate nk v))] → Q (.ref p) H') :
    tI (tLc (iRng1 (tCons (tVar i) tNil)) (gName j) tYes te vs) σ H Q := by
  refine rd_I ⟨_, h1, _, rfl, by omega, by omega, fun D hD => ?_⟩
  refine lc_range (lo := 0) (n := (nk : Int).toNat) (fun m H2 => Tr H [] H2 [(D, .lst (List.replicate m v))]) ((Tr.refl H []).new hD nl) (fun m H2 hm t => ⟨hw _, he _ _ _ ⟨_, t.own.head, ?_, ?_⟩⟩) fun H2 t => q D H2 (by rw [Int.toNat_natCast] at t; exact t)
  · rw [List.length_replicate]
    exact small1000 (by omega)
  · rw [← List.replicate_succ']
    exact t.put .nil nl
def spHinit (K : PySem.W.Frag) (C : Addr) : Sp := fun vs H Q _ => vs.length = 2 ∧ ∃ (p dx : Addr) (nk : Nat), vs = [.ref p, .int nk] ∧ 0 < nk ∧ nk ≤ 8 ∧ H p = some (.ins C dx []) ∧
  ∀ (A : HA) (c : Lg) (H' : Hp), A.p = p → HR K C A (List.replicate nk HK.ini) H' c → Tr H [(p, .ins C dx [])] H' c → Q .non H'
def spKnown (K : PySem.W.Frag) (C : Addr) : Sp := fun vs H Q _ => vs.length = 1 ∧ ∃ (A : HA) (hs : List HK) (c : Lg), vs = [.ref A.p] ∧ HR K C A hs H c ∧ Has H c ∧ ∀ (r : Addr) (H' : Hp), Tr H [] H' [(r, .lst ((hs.map fun h => h.upto).map V.int))] → Q (.ref r) H'
def heldM (hs : List HK) : List Int := srt ((hs.map fun h => asN h.aside).flatten)
def spHeld (K : PySem.W.Frag) (C : Addr) : Sp := fun vs H Q _ => vs.length = 1 ∧ ∃ (A : HA) (hs : List HK) (c : Lg), vs = [.ref A.p] ∧ HR K C A hs H c ∧ Has H c ∧ (hs.map fun h => asN h.aside).flatten.length ≤ 1000 ∧
  ∀ (r : Addr) (H' : Hp), Tr H [] H' [(r, .lst ((heldM hs).map V.int))] → Q (.ref r) H'
def lookM (h : HK) : PyData := if h.upto < 0 then .none else .tuple [.int h.worth, .int h.since, .int h.upto]
def spLook (K : PySem.W.Frag) (C : Addr) : Sp := fun vs H Q _ => vs.length = 2 ∧ ∃ (A : HA) (hs : List HK) (c : Lg) (k : Nat) (h : HK), vs = [.ref A.p, .int k] ∧ HR K C A hs H c ∧ Has H c ∧ hs[k]? = some h ∧
  ∀ (v : V) (H' : Hp), Grow H H' → Rp K H' (lookM h) v → Q v H'
def minU (hs : List HK) : Int := ((hs.map fun h => h.upto).min?).getD 0
def maxS (hs : List HK) : Int := ((hs.map fun h => (h.since : Int)).max?).getD 0
def wholeM (hs : List HK) : Option (Int × List Int) := if minU hs < maxS hs then none else if 0 ≤ minU hs then some (minU hs, hs.map fun h => h.worth) else none
def spWhole (K : PySem.W.Frag) (C : Addr) : Sp := fun vs H Q _ => vs.length = 1 ∧ ∃ (A : HA) (hs : List HK) (c : Lg), vs = [.ref A.p] ∧ HR K C A hs H c ∧ Has H c ∧ 0 < hs.length ∧
  (wholeM hs = none → Q .non H) ∧
  (∀ n ws, wholeM hs = some (n, ws) → ∀ (r t : Addr) (H' : Hp), Tr H [] H' [(r, .lst (ws.map V.int))] → H' t = some (.tup [.int n, .ref r]) → Q (.ref t) H')
end Cu

namespace Cu
open PySem PySem.Spec PyProof.Rows L2
/-! the mirror's steps -/
theorem findA_drop {as : List As} {n m : Int} (h : n ≠ m) : findA (dropA as m) n = findA as n := by
  induction as with
  | nil => rfl
  | cons a as ih =>
    by_cases hm : (a.n : Int) = m
    · have e1 : dropA (a :: as) m = dropA as m := by simp [dropA, hm]
      have e2 : findA (a :: as) n = findA as n := by simp [findA, show ¬ (a.n : Int) = n by omega]
      rw [e1, e2, ih]
    · have e1 : dropA (a :: as) m = a :: dropA as m := by simp [dropA, hm]
      rw [e1]
      by_cases hn : (a.n : Int) = n
      · simp [findA, hn]
      · have e2 : ∀ bs, findA (a :: bs) n = findA bs n := fun bs => by simp [findA, hn]
        rw [e2, e2, ih]
theorem findA_some {as : List As} {n : Int} (h : n ∈ asN as) : ∃ a, findA as n = some a ∧ (a.n : Int) = n := by
  induction as with
  | nil => cases h
  | cons b as ih =>
    by_cases hb : (b.n : Int) = n
    · exact ⟨b, by simp [findA, hb], hb⟩
    · have h' : n ∈ asN as := by
        rcases List.mem_cons.mp (show n ∈ (b.n : Int) :: asN as from h) with e | e
        · exact absurd e.symm hb
        · exact e
      obtain ⟨a, ha, e⟩ := ih h'
      exact ⟨a, by simpa [findA, hb] using ha, e⟩
theorem findA_n {as : List As} {n : Int} {a : As} (h : findA as n = some a) : (a.n : Int) = n := by
  have := List.find?_some h
  simpa using this
theorem fstep_find {st : HK × List Int} {n m : Int} (h : n ≠ m) : findA (HK.fstep st m).1.aside n = findA st.1.aside n := by
  unfold HK.fstep
  cases hf : findA st.1.aside m with
  | none => rfl
  | some a =>
    dsimp only
    split
    · exact findA_drop h
    · split
      · exact findA_drop h
      · rfl
theorem fold_find {n : Int} : ∀ {l : List Int} {st : HK × List Int}, n ∉ l → findA (l.foldl HK.fstep st).1.aside n = findA st.1.aside n
  | [], _, _ => rfl
  | m :: l, st, h => by
    rw [List.foldl_cons, fold_find fun q => h (List.mem_cons_of_mem _ q), fstep_find fun q => h (by rw [q]; exact List.mem_cons_self)]
theorem fold_len {l : List Int} {st : HK × List Int} : (l.foldl HK.fstep st).2.length ≤ st.2.length + l.length := by
  induction l generalizing st with
  | nil => exact Nat.le_refl _
  | cons n l ih =>
    rw [List.foldl_cons]
    refine Nat.le_trans ih ?_
    have : (HK.fstep st n).2.length ≤ st.2.length + 1 := by
      unfold HK.fstep
      cases findA st.1.aside n with
      | none => exact Nat.le_succ _
      | some a =>
        dsimp only
        split
        · exact Nat.le_succ _
        · split
          · simp
          · exact Nat.le_succ _
    rw [List.length_cons]
    omega
theorem srt_perm (ns : List Int) : (srt ns).Perm ns := List.mergeSort_perm ns _
theorem wd_set (b : Bool) : decide (V.str (wd b) = V.str "set") = b := by cases b <;> decide +kernel
theorem wd_add (b : Bool) : decide (V.str (wd b) = V.str "add") = !b := by cases b <;> decide +kernel
/-- what a key's changes put aside must be, to be sorted -/
structure Wf (h : HK) : Prop where
  nd : (asN h.aside).Nodup
  few : h.aside.length < 122
def prt (hs : List HK) (l : Letter) (m : Nat) : List HK := hs.mapIdx fun k h => if k < m then (hearK k h l).1 else h
def fnd (hs : List HK) (l : Letter) (m : Nat) : List Int := ((hs.mapIdx fun k h => (hearK k h l).2).take m).flatten
theorem prt_get {hs : List HK} {l : Letter} {m k : Nat} {h : HK} (e : hs[k]? = some h) : (prt hs l m)[k]? = some (if k < m then (hearK k h l).1 else h) := by
  rw [prt, List.getElem?_mapIdx, e]
  rfl
theorem prt_len (hs : List HK) (l : Letter) (m : Nat) : (prt hs l m).length = hs.length := by simp [prt]
theorem prt_succ {hs : List HK} {l : Letter} {m : Nat} {h : HK} (e : hs[m]? = some h) : prt hs l (m + 1) = (prt hs l m).set m (hearK m h l).1 := by
  apply List.ext_getElem?
  intro k
  cases ek : hs[k]? with
  | none =>
    have hk := List.getElem?_eq_none_iff.mp ek
    rw [List.getElem?_eq_none (by rw [prt_len]; exact hk), List.getElem?_eq_none (by rw [List.length_set, prt_len]; exact hk)]
  | some g =>
    rw [prt_get ek]
    by_cases hk : m = k
    · subst hk
      rw [e] at ek
      cases ek
      rw [List.getElem?_set_self (by rw [prt_len]; exact (List.getElem?_eq_some_iff.mp e).1), if_pos (Nat.lt_succ_self _)]
    · rw [List.getElem?_set_ne hk, prt_get ek]
      congr 1
      by_cases h1 : k < m
      · rw [if_pos h1, if_pos (by omega)]
      · rw [if_neg h1, if_neg (by omega)]
theorem fnd_succ {hs : List HK} {l : Letter} {m : Nat} {h : HK} (e : hs[m]? = some h) : fnd hs l (m + 1) = fnd hs l m ++ (hearK m h l).2 := by
  unfold fnd
  rw [take_snoc (x := (hearK m h l).2) (by rw [List.getElem?_mapIdx, e]; rfl), List.flatten_append]
  simp
theorem prt_all {hs : List HK} {l : Letter} {m : Nat} (h : hs.length ≤ m) : prt hs l m = hear hs l := by
  apply List.ext_getElem?
  intro k
  cases ek : hs[k]? with
  | none =>
    have hk := List.getElem?_eq_none_iff.mp ek
    rw [List.getElem?_eq_none (by rw [prt_len]; exact hk), List.getElem?_eq_none (by rw [hear_len]; exact hk)]
  | some g =>
    have hk := (List.getElem?_eq_some_iff.mp ek).1
    rw [prt_get ek, if_pos (by omega), hear, List.getElem?_mapIdx, ek]
    rfl
theorem fnd_all {hs : List HK} {l : Letter} {m : Nat} (h : hs.length ≤ m) : fnd hs l m = heard hs l := by
  unfold fnd heard
  rw [List.take_of_length_le (by simpa using h)]
theorem flat_nil {xs : List (List Int)} (h : ∀ x ∈ xs, x = []) : xs.flatten = [] := by
  induction xs with
  | nil => rfl
  | cons x xs ih =>
    rw [List.flatten_cons, h x List.mem_cons_self, ih fun y hy => h y (List.mem_cons_of_mem _ hy)]
    rfl
/-- a letter that does nothing with the keys ahead of b, nothing with those from e on -/
theorem prt_low {hs : List HK} {l : Letter} {b : Nat} (h : ∀ k g, k < b → hearK k g l = (g, [])) : prt hs l b = hs ∧ fnd hs l b = [] := by
  constructor
  · apply List.ext_getElem?
    intro k
    cases ek : hs[k]? with
    | none => rw [List.getElem?_eq_none (by rw [prt_len]; exact List.getElem?_eq_none_iff.mp ek)]
    | some g =>
      rw [prt_get ek]
      split
      · rename_i hk
        rw [h k g hk]
      · rfl
  · unfold fnd
    have : ∀ x ∈ (hs.mapIdx fun k h => (hearK k h l).2).take b, x = [] := fun x hx => by
      obtain ⟨k, hk⟩ := List.getElem?_of_mem hx
      have hkb : k < b := by
        have := (List.getElem?_eq_some_iff.mp hk).1
        rw [List.length_take] at this
        omega
      rw [List.getElem?_take_of_lt hkb, List.getElem?_mapIdx] at hk
      cases ek : hs[k]? with
      | none =>
        rw [ek] at hk
        cases hk
      | some g =>
        rw [ek] at hk
        have e1 : (hearK k g l).2 = x := Option.some.inj hk
        rw [← e1, h k g hkb]
    exact flat_nil this
theorem prt_high {hs : List HK} {l : Letter} {e : Nat} (h : ∀ k g, e ≤ k → hearK k g l = (g, [])) : prt hs l e = hear hs l ∧ fnd hs l e = heard hs l := by
  constructor
  · apply List.ext_getElem?
    intro k
    cases ek : hs[k]? with
    | none => rw [List.getElem?_eq_none (by rw [prt_len]; exact List.getElem?_eq_none_iff.mp ek), List.getElem?_eq_none (by rw [hear_len]; exact List.getElem?_eq_none_iff.mp ek)]
    | some g =>
      rw [prt_get ek, hear, List.getElem?_mapIdx, ek]
      split
      · rfl
      · rename_i hk
        show some g = some (hearK k g l).1
        rw [h k g (by omega)]
  · unfold heard fnd
    have : ∀ x ∈ (hs.mapIdx fun k h => (hearK k h l).2).drop e, x = [] := fun x hx => by
      obtain ⟨k, hk⟩ := List.getElem?_of_mem hx
      rw [List.getElem?_drop, List.getElem?_mapIdx] at hk
      cases ek : hs[e + k]? with
      | none =>
        rw [ek] at hk
        cases hk
      | some g =>
        rw [ek] at hk
        have e1 : (hearK (e + k) g l).2 = x := Option.some.inj hk
        rw [← e1, h (e + k) g (by omega)]
    have h0 : ((hs.mapIdx fun k h => (hearK k h l).2).drop e).flatten = [] := flat_nil this
    conv => rhs; rw [← List.take_append_drop e (hs.mapIdx fun k h => (hearK k h l).2), List.flatten_append, h0, List.append_nil]
section
variable {K : PySem.W.Frag} {H : Hp}
theorem Rp.chg_inv {n ahead : Nat} {c : Ch} {v : V} (h : Rp K H (Letter.enc (.change n c ahead)) v) : ∃ a, v = .ref a ∧ H a = some (.tup [.str "change", .int n, .int c.key, .str (wd c.set), .int c.worth, .int ahead]) := by
  obtain ⟨a, xs, e, f, r⟩ := Rp.tup_inv h
  obtain ⟨v1, r1, e1, h1, r⟩ := r.cons_inv
  obtain ⟨v2, r2, e2, h2, r⟩ := r.cons_inv
  obtain ⟨v3, r3, e3, h3, r⟩ := r.cons_inv
  obtain ⟨v4, r4, e4, h4, r⟩ := r.cons_inv
  obtain ⟨v5, r5, e5, h5, r⟩ := r.cons_inv
  obtain ⟨v6, r6, e6, h6, r⟩ := r.cons_inv
  have := r.nil_inv
  subst this e6 e5 e4 e3 e2 e1
  have h1 := Rp.str_iff.mp h1
  have h2 := Rp.int_iff.mp h2
  have h3 := Rp.int_iff.mp h3
  have h4 := Rp.str_iff.mp h4
  have h5 := Rp.int_iff.mp h5
  have h6 := Rp.int_iff.mp h6
  subst h1 h2 h3 h4 h5 h6
  exact ⟨a, e, f⟩
theorem Rp.part_inv {n b : Nat} {rows : List (Int × Nat)} {v : V} (h : Rp K H (Letter.enc (.part n b rows)) v) :
    ∃ a t xs, v = .ref a ∧ H a = some (.tup [.str "part", .int n, .int b, .ref t]) ∧ H t = some (.tup xs) ∧ xs.length = rows.length ∧ ∀ (i : Nat) r, rows[i]? = some r → ∃ q, xs[i]? = some (.ref q) ∧ H q = some (.tup [.int r.1, .int r.2]) := by
  obtain ⟨a, xs, e, f, r⟩ := Rp.tup_inv h
  obtain ⟨v1, r1, e1, h1, r⟩ := r.cons_inv
  obtain ⟨v2, r2, e2, h2, r⟩ := r.cons_inv
  obtain ⟨v3, r3, e3, h3, r⟩ := r.cons_inv
  obtain ⟨v4, r4, e4, h4, r⟩ := r.cons_inv
  have := r.nil_inv
  subst this e4 e3 e2 e1
  have h1 := Rp.str_iff.mp h1
  have h2 := Rp.int_iff.mp h2
  have h3 := Rp.int_iff.mp h3
  obtain ⟨t, ys, e4, f4, r4⟩ := h4.tup_inv
  subst h1 h2 h3 e4
  refine ⟨a, t, ys, e, f, f4, by rw [r4.length, List.length_map], fun i r hr => ?_⟩
  obtain ⟨u, hu, ru⟩ := r4.get (i := i) (d := .tuple [.int r.1, .int r.2]) (by rw [List.getElem?_map, hr]; rfl)
  obtain ⟨q, zs, e5, f5, r5⟩ := ru.tup_inv
  obtain ⟨w1, z1, e6, g1, r5⟩ := r5.cons_inv
  obtain ⟨w2, z2, e7, g2, r5⟩ := r5.cons_inv
  have := r5.nil_inv
  subst this e7 e6 e5
  have g1 := Rp.int_iff.mp g1
  have g2 := Rp.int_iff.mp g2
  subst g1 g2
  exact ⟨q, hu, f5⟩
theorem Rp.beat_inv {n : Nat} {lasts : List Nat} {v : V} (h : Rp K H (Letter.enc (.beat n lasts)) v) :
    ∃ a t, v = .ref a ∧ H a = some (.tup [.str "beat", .int n, .ref t]) ∧ H t = some (.tup (lasts.map fun k : Nat => V.int k)) := by
  obtain ⟨a, xs, e, f, r⟩ := Rp.tup_inv h
  obtain ⟨v1, r1, e1, h1, r⟩ := r.cons_inv
  obtain ⟨v2, r2, e2, h2, r⟩ := r.cons_inv
  obtain ⟨v3, r3, e3, h3, r⟩ := r.cons_inv
  have := r.nil_inv
  subst this e3 e2 e1
  have h1 := Rp.str_iff.mp h1
  have h2 := Rp.int_iff.mp h2
  obtain ⟨t, ys, e4, f4, r4⟩ := h3.tup_inv
  subst h1 h2 e4
  have ey : ys = lasts.map fun k : Nat => V.int k := by
    have : (lasts.map fun k : Nat => PyData.int k) = (lasts.map fun k : Nat => (k : Int)).map PyData.int := by
      rw [List.map_map]
      rfl
    rw [this] at r4
    have := r4.ints
    rw [this, List.map_map]
    rfl
  subst ey
  exact ⟨a, t, e, f, f4⟩
end
def spDo (K : PySem.W.Frag) (C : Addr) : Sp := fun vs H Q _ => vs.length = 2 ∧ ∃ (A : HA) (hs : List HK) (c : Lg) (v : V) (n ahead : Nat) (ch : Ch) (h : HK), vs = [.ref A.p, v] ∧ HR K C A hs H c ∧ Has H c ∧ Rp K H (Letter.enc (.change n ch ahead)) v ∧ hs[ch.key]? = some h ∧
  ∀ (c' : Lg) (H' : Hp), HR K C A (hs.set ch.key (h.done n ch.set ch.worth)) H' c' → Tr H c H' c' → Q .non H'
def spFreed (K : PySem.W.Frag) (C : Addr) : Sp := fun vs H Q _ => vs.length = 2 ∧ ∃ (A : HA) (hs : List HK) (c : Lg) (k : Nat) (h : HK), vs = [.ref A.p, .int k] ∧ HR K C A hs H c ∧ Has H c ∧ hs[k]? = some h ∧ Wf h ∧
  ∀ (r : Addr) (c' : Lg) (H' : Hp), HR K C A (hs.set k h.free.1) H' c' → Tr H c H' ((r, .lst (h.free.2.map V.int)) :: c') → Q (.ref r) H'
def spChanged (K : PySem.W.Frag) (C : Addr) : Sp := fun vs H Q _ => vs.length = 2 ∧ ∃ (A : HA) (hs : List HK) (c : Lg) (v : V) (n ahead : Nat) (ch : Ch) (h : HK), vs = [.ref A.p, v] ∧ HR K C A hs H c ∧ Has H c ∧ Rp K H (Letter.enc (.change n ch ahead)) v ∧ hs[ch.key]? = some h ∧ Wf h ∧
  ∀ (r : Addr) (c' : Lg) (H' : Hp), HR K C A (hs.set ch.key (h.chg n ch ahead).1) H' c' → Tr H c H' ((r, .lst ((h.chg n ch ahead).2.map V.int)) :: c') → Q (.ref r) H'
def spHear (K : PySem.W.Frag) (C : Addr) : Sp := fun vs H Q _ => vs.length = 2 ∧ ∃ (A : HA) (hs : List HK) (c : Lg) (v : V) (l : Letter), vs = [.ref A.p, v] ∧ HR K C A hs H c ∧ Has H c ∧ Rp K H l.enc v ∧ hs.length ≤ 8 ∧ (∀ h ∈ hs, Wf h) ∧
  (match l with | .change _ ch _ => ch.key < hs.length | .part _ b rows => b + rows.length ≤ hs.length | .beat _ lasts => lasts.length = hs.length) ∧
  ∀ (r : Addr) (c' : Lg) (H' : Hp), HR K C A (hear hs l) H' c' → Tr H c H' ((r, .lst ((heard hs l).map V.int)) :: c') → Q (.ref r) H'
def spCopied (K : PySem.W.Frag) (C : Addr) : Sp := fun vs H Q _ => vs.length = 2 ∧ ∃ (A : HA) (hs : List HK) (c : Lg) (v : V) (n b : Nat) (rows : List (Int × Nat)), vs = [.ref A.p, v] ∧ HR K C A hs H c ∧ Has H c ∧ Rp K H (Letter.enc (.part n b rows)) v ∧ hs.length ≤ 8 ∧ (∀ h ∈ hs, Wf h) ∧ b + rows.length ≤ hs.length ∧
  ∀ (r : Addr) (c' : Lg) (H' : Hp), HR K C A (hear hs (.part n b rows)) H' c' → Tr H c H' ((r, .lst ((heard hs (.part n b rows)).map V.int)) :: c') → Q (.ref r) H'
theorem HR.len {K : PySem.W.Frag} {C : Addr} {A : HA} {hs : List HK} {H : Hp} {c : Lg} (r : HR K C A hs H c) : A.ds.length = hs.length := let ⟨_, _, h, _⟩ := r.ex; h
theorem set_back {hs : List HK} {k : Nat} {h : HK} (e : hs[k]? = some h) : hs.set k h = hs := by
  apply List.ext_getElem?
  intro i
  by_cases hi : k = i
  · subst hi
    rw [List.getElem?_set_self (List.getElem?_eq_some_iff.mp e).1, e]
  · rw [List.getElem?_set_ne hi]
theorem ndec {c : Prop} [Decidable c] (h : ¬ decide c = true) : ¬ c := fun q => h (decide_eq_true q)
theorem hFno {A : HA} {m : Str} (h : (hF A).lookup m = none := by rfl) : (hF A).lookup m = none := h
theorem ixN_of {n j : Nat} {z : Int} (e : z = (j : Int)) (h : j < n) : ixN n z = some j := by
  rw [e]
  exact ixN_nat h
theorem free_len {h : HK} (w : Wf h) : h.free.2.length ≤ 121 := by
  refine Nat.le_trans fold_len ?_
  rw [(srt_perm _).length_eq, asN, List.length_map]
  have := w.few
  show 0 + _ ≤ _
  omega
theorem hearK_len {k : Nat} {h : HK} {l : Letter} (w : Wf h) : (hearK k h l).2.length ≤ 122 := by
  cases l with
  | change n c ahead =>
    simp only [hearK]
    split
    · unfold HK.chg
      split
      · exact Nat.zero_le _
      · split
        · exact Nat.zero_le _
        · have := free_len (h := h.done n c.set c.worth) ⟨w.nd, w.few⟩
          show _ + 1 ≤ 122
          omega
    · exact Nat.zero_le _
  | part n b rows =>
    simp only [hearK]
    split
    · split
      · unfold HK.row
        split
        · rename_i r _ _
          have := free_len (h := { h with worth := r.1, since := r.2, upto := n }) ⟨w.nd, w.few⟩
          omega
        · exact Nat.zero_le _
      · exact Nat.zero_le _
    · exact Nat.zero_le _
  | beat n lasts =>
    simp only [hearK]
    split <;> exact Nat.zero_le _
theorem flat_len {b : Nat} : ∀ {xs : List (List Int)}, (∀ x ∈ xs, x.length ≤ b) → xs.flatten.length ≤ b * xs.length
  | [], _ => Nat.zero_le _
  | x :: xs, h => by
    have ih := flat_len (xs := xs) fun y hy => h y (List.mem_cons_of_mem _ hy)
    have h1 := h x List.mem_cons_self
    rw [List.flatten_cons, List.length_append, List.length_cons, Nat.mul_add]
    omega
theorem fnd_len {hs : List HK} {l : Letter} {m : Nat} (w : ∀ h ∈ hs, Wf h) (h8 : hs.length ≤ 8) : (fnd hs l m).length ≤ 976 := by
  unfold fnd
  refine Nat.le_trans (flat_len (b := 122) fun x hx => ?_) ?_
  · have hx := List.mem_of_mem_take hx
    obtain ⟨k, hk⟩ := List.getElem?_of_mem hx
    rw [List.getElem?_mapIdx] at hk
    cases ek : hs[k]? with
    | none =>
      rw [ek] at hk
      cases hk
    | some g =>
      rw [ek] at hk
      have e1 : (hearK k g l).2 = x := Option.some.inj hk
      rw [← e1]
      exact hearK_len (w g (List.mem_of_getElem? ek))
  · rw [List.length_take, List.length_mapIdx]
    have : min m hs.length ≤ 8 := Nat.le_trans (Nat.min_le_right _ _) h8
    omega
theorem hear_change {hs : List HK} {n ahead : Nat} {ch : Ch} {h : HK} (e : hs[ch.key]? = some h) : hear hs (.change n ch ahead) = hs.set ch.key (h.chg n ch ahead).1 ∧ heard hs (.change n ch ahead) = (h.chg n ch ahead).2 := by
  have ek : hearK ch.key h (.change n ch ahead) = h.chg n ch ahead := by simp only [hearK, if_pos]
  obtain ⟨a1, a2⟩ := prt_low (hs := hs) (l := .change n ch ahead) (b := ch.key) fun k g hk => by
    simp only [hearK]
    rw [if_neg (by omega)]
  obtain ⟨b1, b2⟩ := prt_high (hs := hs) (l := .change n ch ahead) (e := ch.key + 1) fun k g hk => by
    simp only [hearK]
    rw [if_neg (by omega)]
  rw [prt_succ e, a1, ek] at b1
  rw [fnd_succ e, a2, ek] at b2
  exact ⟨b1.symm, b2.symm⟩
end Cu

namespace Cu
open PySem PySem.Spec PyProof.Rows L2
/-! what a hearer holds is right -/
theorem lof_le (cs : List Ch) (k : Nat) : lof cs k ≤ cs.length := by
  induction cs using snoc_ind with
  | h0 => exact Nat.le_refl _
  | h1 cs c ih =>
    rw [lof_snoc, List.length_append, List.length_singleton]
    split <;> omega
theorem take_le_len {cs : List Ch} {j : Nat} : (cs.take j).length ≤ j := by
  rw [List.length_take]
  exact Nat.min_le_left _ _
theorem lof_take_le (cs : List Ch) (j k : Nat) : lof (cs.take j) k ≤ j := Nat.le_trans (lof_le _ _) take_le_len
/-- a step of a story -/
theorem lof_step {cs : List Ch} {j k : Nat} : lof (cs.take (j + 1)) k = lof (cs.take j) k ∨ (lof (cs.take (j + 1)) k = j + 1 ∧ ∃ c, cs[j]? = some c ∧ c.key = k) := by
  cases e : cs[j]? with
  | none =>
    left
    have hj := List.getElem?_eq_none_iff.mp e
    rw [List.take_of_length_le hj, List.take_of_length_le (Nat.le_succ_of_le hj)]
  | some c =>
    have hj := (List.getElem?_eq_some_iff.mp e).1
    rw [take_snoc e, lof_snoc]
    by_cases hk : c.key = k
    · right
      rw [if_pos hk, List.length_take, Nat.min_eq_left (Nat.le_of_lt hj)]
      exact ⟨rfl, c, rfl, hk⟩
    · left
      rw [if_neg hk]
theorem lof_mono {cs : List Ch} {k i j : Nat} (h : i ≤ j) : lof (cs.take i) k ≤ lof (cs.take j) k := by
  induction j with
  | zero =>
    have : i = 0 := by omega
    subst this
    exact Nat.le_refl _
  | succ j ih =>
    by_cases e : i = j + 1
    · subst e
      exact Nat.le_refl _
    · have := ih (by omega)
      rcases lof_step (cs := cs) (j := j) (k := k) with q | ⟨q, _⟩
      · omega
      · have := lof_take_le cs j k
        omega
theorem lof_ge {cs : List Ch} {k m j : Nat} {c : Ch} (e : cs[m]? = some c) (hk : c.key = k) (h : m < j) : m + 1 ≤ lof (cs.take j) k := by
  have h1 : lof (cs.take (m + 1)) k = m + 1 := by
    have hm := (List.getElem?_eq_some_iff.mp e).1
    rw [take_snoc e, lof_snoc, if_pos hk, List.length_take, Nat.min_eq_left (Nat.le_of_lt hm)]
  have := lof_mono (cs := cs) (k := k) (show m + 1 ≤ j by omega)
  omega
/-- nothing happens to a key behind its last change -/
theorem wof_const {cs : List Ch} {k i j : Nat} (h : i ≤ j) (hl : lof (cs.take j) k ≤ i) : wof (cs.take j) k = wof (cs.take i) k ∧ lof (cs.take j) k = lof (cs.take i) k := by
  induction j with
  | zero =>
    have : i = 0 := by omega
    subst this
    exact ⟨rfl, rfl⟩
  | succ j ih =>
    by_cases e : i = j + 1
    · subst e
      exact ⟨rfl, rfl⟩
    · have hij : i ≤ j := by omega
      cases ec : cs[j]? with
      | none =>
        have hj := List.getElem?_eq_none_iff.mp ec
        have e1 : cs.take (j + 1) = cs.take j := by rw [List.take_of_length_le hj, List.take_of_length_le (Nat.le_succ_of_le hj)]
        rw [e1] at hl ⊢
        exact ih hij hl
      | some c =>
        have hk : ¬ c.key = k := fun q => by
          have := lof_ge (j := j + 1) ec q (Nat.lt_succ_self _)
          omega
        rw [take_snoc ec, lof_snoc, if_neg hk] at hl
        rw [take_snoc ec, wof_snoc, lof_snoc, if_neg hk, wst, if_neg hk]
        exact ih hij hl
/-- the change of a key -/
theorem wof_at {cs : List Ch} {m : Nat} {c : Ch} (e : cs[m]? = some c) : wof (cs.take (m + 1)) c.key = (if c.set then 0 else wof (cs.take m) c.key) + c.worth ∧ lof (cs.take (m + 1)) c.key = m + 1 := by
  have hm := (List.getElem?_eq_some_iff.mp e).1
  rw [take_snoc e, wof_snoc, lof_snoc, if_pos rfl, wst, if_pos rfl, List.length_take, Nat.min_eq_left (Nat.le_of_lt hm)]
  exact ⟨rfl, rfl⟩
/-- put aside is a true adding change -/
def AsIn (cs : List Ch) (k : Nat) (a : As) : Prop := ∃ m, a.n = m + 1 ∧ cs[m]? = some ⟨k, false, a.worth⟩ ∧ a.ahead = lof (cs.take m) k
theorem AsIn.lt {cs : List Ch} {k : Nat} {a : As} (h : AsIn cs k a) : a.ahead < a.n := by
  obtain ⟨m, e1, e2, e3⟩ := h
  have := lof_take_le cs m k
  omega
theorem AsIn.le {cs : List Ch} {k : Nat} {a : As} (h : AsIn cs k a) : a.n ≤ cs.length ∧ 0 < a.n := by
  obtain ⟨m, e1, e2, e3⟩ := h
  have := (List.getElem?_eq_some_iff.mp e2).1
  omega
/-- of two changes of a key the later one is behind the other one -/
theorem AsIn.after {cs : List Ch} {k : Nat} {a b : As} (ha : AsIn cs k a) (hb : AsIn cs k b) (h : a.n < b.n) : a.n ≤ b.ahead := by
  obtain ⟨m, e1, e2, e3⟩ := ha
  obtain ⟨m', f1, f2, f3⟩ := hb
  have := lof_ge (k := k) (j := m') e2 rfl (by omega)
  omega
/-- what is held is right -/
structure KR (cs : List Ch) (k : Nat) (h : HK) : Prop where
  lo : -1 ≤ h.upto
  hi : h.upto ≤ cs.length
  ok : ∀ u : Nat, h.upto = u → h.worth = wof (cs.take u) k ∧ h.since = lof (cs.take u) k
  as : ∀ a ∈ h.aside, AsIn cs k a
  nd : (asN h.aside).Nodup
structure KI (cs : List Ch) (k : Nat) (h : HK) : Prop extends KR cs k h where
  ahead : ∀ a ∈ h.aside, h.upto < (a.ahead : Int)
theorem KI.ini (cs : List Ch) (k : Nat) : KI cs k HK.ini := ⟨⟨Int.le_refl _, by show (-1 : Int) ≤ _; omega, fun u e => by
  have e : (-1 : Int) = u := e
  omega, fun _ h => (nomatch h), List.nodup_nil⟩, fun _ h => (nomatch h)⟩
theorem dropA_mem {as : List As} {n : Int} {a : As} : a ∈ dropA as n ↔ a ∈ as ∧ (a.n : Int) ≠ n := by
  unfold dropA
  rw [List.mem_filter]
  simp
theorem asN_drop (as : List As) (n : Int) : (asN (dropA as n)).Sublist (asN as) := (List.filter_sublist (p := _)).map _
theorem findA_mem {as : List As} {n : Int} {a : As} (h : findA as n = some a) : a ∈ as := List.mem_of_find?_eq_some h
theorem asN_of {as : List As} {b : As} (hb : b ∈ as) : (b.n : Int) ∈ asN as := List.mem_map.mpr ⟨b, hb, rfl⟩
theorem nd_same {as : List As} (nd : (asN as).Nodup) {a b : As} (ha : a ∈ as) (hb : b ∈ as) (e : a.n = b.n) : a = b := by
  induction as with
  | nil => cases ha
  | cons x as ih =>
    obtain ⟨h1, h2⟩ := List.nodup_cons.mp (show ((x.n : Int) :: asN as).Nodup from nd)
    rcases List.mem_cons.mp ha with ha' | ha'
    · rcases List.mem_cons.mp hb with hb' | hb'
      · rw [ha', hb']
      · refine absurd ?_ h1
        have q := asN_of hb'
        rw [← e, ha'] at q
        exact q
    · rcases List.mem_cons.mp hb with hb' | hb'
      · refine absurd ?_ h1
        have q := asN_of ha'
        rw [e, hb'] at q
        exact q
      · exact ih h2 ha' hb'
/-- a number that stands for a change of the key -/
def IsN (cs : List Ch) (k : Nat) (n : Int) : Prop := ∃ m c, n = ((m + 1 : Nat) : Int) ∧ cs[m]? = some c ∧ c.key = k
theorem fold_inv {cs : List Ch} {k : Nat} {u0 : Int} : ∀ {L : List Int} {st : HK × List Int}, KR cs k st.1 → 0 ≤ st.1.upto → L.Pairwise (· < ·) → (∀ n ∈ L, n ∈ asN st.1.aside) →
    (∀ a ∈ st.1.aside, (a.n : Int) ∉ L → st.1.upto < (a.ahead : Int) ∧ ∀ n ∈ L, (a.n : Int) < n) →
    u0 ≤ st.1.upto → (∀ n ∈ st.2, u0 < n ∧ n ≤ st.1.upto ∧ IsN cs k n) → st.2.Pairwise (· < ·) →
    KI cs k (L.foldl HK.fstep st).1 ∧ st.1.upto ≤ (L.foldl HK.fstep st).1.upto ∧ (∀ n ∈ (L.foldl HK.fstep st).2, u0 < n ∧ n ≤ (L.foldl HK.fstep st).1.upto ∧ IsN cs k n) ∧ (L.foldl HK.fstep st).2.Pairwise (· < ·)
  | [], st, r, h0, _, _, hrem, hu, hf, hp => ⟨⟨r, fun a ha => (hrem a ha (List.not_mem_nil)).1⟩, Int.le_refl _, hf, hp⟩
  | n :: L, st, r, h0, hL, hin, hrem, hu, hf, hp => by
    rw [List.foldl_cons]
    obtain ⟨hL1, hL2⟩ := List.pairwise_cons.mp hL
    obtain ⟨a, ha, ean⟩ := findA_some (hin n List.mem_cons_self)
    have hnL : n ∉ L := fun q => Int.lt_irrefl _ (hL1 n q)
    have ham := findA_mem ha
    have hain := r.as a ham
    obtain ⟨u, hu'⟩ : ∃ u : Nat, st.1.upto = u := ⟨st.1.upto.toNat, by omega⟩
    have stay : ∀ m ∈ L, m ∈ asN (dropA st.1.aside n) := fun m hm => by
      obtain ⟨b, hb, eb⟩ := List.mem_map.mp (hin m (List.mem_cons_of_mem _ hm))
      refine List.mem_map.mpr ⟨b, dropA_mem.mpr ⟨hb, fun q => ?_⟩, eb⟩
      have := hL1 m hm
      omega
    by_cases h1 : n ≤ st.1.upto
    · have e1 : HK.fstep st n = ({ st.1 with aside := dropA st.1.aside n }, st.2) := by
        unfold HK.fstep
        rw [ha]
        dsimp only
        rw [if_pos h1]
      rw [e1]
      exact fold_inv (st := ({ st.1 with aside := dropA st.1.aside n }, st.2)) ⟨r.lo, r.hi, r.ok, fun b hb => r.as b (dropA_mem.mp hb).1, r.nd.sublist (asN_drop _ _)⟩ h0 hL2 stay
        (fun b hb hbL => by
          obtain ⟨hb1, hb2⟩ := dropA_mem.mp hb
          obtain ⟨q1, q2⟩ := hrem b hb1 fun q => by
            rcases List.mem_cons.mp q with q | q
            · exact hb2 q
            · exact hbL q
          exact ⟨q1, fun m hm => q2 m (List.mem_cons_of_mem _ hm)⟩) hu hf hp
    · by_cases h2 : (a.ahead : Int) ≤ st.1.upto
      · have e1 : HK.fstep st n = (({ st.1 with aside := dropA st.1.aside n } : HK).done a.n false a.worth, st.2 ++ [n]) := by
          unfold HK.fstep
          rw [ha]
          dsimp only
          rw [if_neg h1, if_pos h2]
        rw [e1]
        obtain ⟨m, em1, em2, em3⟩ := id hain
        have hle := hain.le
        have hright : st.1.worth + a.worth = wof (cs.take a.n) k ∧ a.n = lof (cs.take a.n) k := by
          obtain ⟨w1, w2⟩ := wof_at em2
          obtain ⟨w3, _⟩ := wof_const (cs := cs) (k := k) (i := u) (j := m) (by omega) (by omega)
          rw [em1]
          refine ⟨?_, w2.symm⟩
          rw [show wof (cs.take (m + 1)) k = (if false = true then (0 : Int) else wof (cs.take m) k) + a.worth from w1, if_neg (by decide), w3, (r.ok u hu').1]
        have hdone : KR cs k (({ st.1 with aside := dropA st.1.aside n } : HK).done a.n false a.worth) := by
          refine ⟨?_, ?_, fun v hv => ?_, fun b hb => r.as b (dropA_mem.mp hb).1, r.nd.sublist (asN_drop _ _)⟩
          · show (-1 : Int) ≤ (a.n : Int)
            omega
          · show (a.n : Int) ≤ cs.length
            omega
          · have hv : (a.n : Int) = v := hv
            have : a.n = v := by omega
            subst this
            exact ⟨hright.1, hright.2⟩
        have hrem' : ∀ b ∈ (({ st.1 with aside := dropA st.1.aside n } : HK).done a.n false a.worth).aside, (b.n : Int) ∉ L → (({ st.1 with aside := dropA st.1.aside n } : HK).done a.n false a.worth).upto < (b.ahead : Int) ∧ ∀ n ∈ L, (b.n : Int) < n := by
          intro b hb hbL
          obtain ⟨hb1, hb2⟩ := dropA_mem.mp hb
          obtain ⟨q1, q2⟩ := hrem b hb1 fun q => by
            rcases List.mem_cons.mp q with q | q
            · exact hb2 q
            · exact hbL q
          have q3 := q2 n List.mem_cons_self
          have := (r.as b hb1).after hain (by omega)
          have := (r.as b hb1).lt
          omega
        have hf' : ∀ x ∈ st.2 ++ [n], u0 < x ∧ x ≤ (({ st.1 with aside := dropA st.1.aside n } : HK).done a.n false a.worth).upto ∧ IsN cs k x := by
          intro x hx
          show u0 < x ∧ x ≤ (a.n : Int) ∧ IsN cs k x
          rcases List.mem_append.mp hx with hx | hx
          · obtain ⟨p1, p2, p3⟩ := hf x hx
            exact ⟨p1, by omega, p3⟩
          · rw [List.mem_singleton] at hx
            subst hx
            exact ⟨by omega, by omega, m, _, by omega, em2, rfl⟩
        have hp' : (st.2 ++ [n]).Pairwise (· < ·) := by
          refine List.pairwise_append.mpr ⟨hp, List.pairwise_singleton _ _, fun x hx y hy => ?_⟩
          rw [List.mem_singleton] at hy
          subst hy
          have := (hf x hx).2.1
          omega
        have q := fold_inv (u0 := u0) (L := L) (st := (({ st.1 with aside := dropA st.1.aside n } : HK).done a.n false a.worth, st.2 ++ [n])) hdone (by show (0 : Int) ≤ (a.n : Int); omega) hL2 stay hrem' (by show u0 ≤ (a.n : Int); omega) hf' hp'
        exact ⟨q.1, Int.le_trans (by show st.1.upto ≤ (a.n : Int); omega) q.2.1, q.2.2⟩
      · have e1 : HK.fstep st n = st := by
          unfold HK.fstep
          rw [ha]
          dsimp only
          rw [if_neg h1, if_neg h2]
        rw [e1]
        refine fold_inv r h0 hL2 (fun m hm => hin m (List.mem_cons_of_mem _ hm)) (fun b hb hbL => ?_) hu hf hp
        by_cases hbn : (b.n : Int) = n
        · have : b = a := nd_same r.nd hb ham (by omega)
          subst this
          exact ⟨by omega, fun m hm => by rw [hbn]; exact hL1 m hm⟩
        · obtain ⟨q1, q2⟩ := hrem b hb fun q => by
            rcases List.mem_cons.mp q with q | q
            · exact hbn q
            · exact hbL q
          exact ⟨q1, fun m hm => q2 m (List.mem_cons_of_mem _ hm)⟩
theorem srt_lt {ns : List Int} (nd : ns.Nodup) : (srt ns).Pairwise (· < ·) := by
  have h1 : (srt ns).Pairwise (· ≤ ·) := by
    have := List.pairwise_mergeSort (le := fun a b : Int => decide (a ≤ b)) (fun a b c h1 h2 => by simp at h1 h2 ⊢; omega) (fun a b => by simp; omega) ns
    exact this.imp fun h => by simpa using h
  have h2 : (srt ns).Nodup := (srt_perm ns).nodup_iff.mpr nd
  exact (List.pairwise_and_iff.mpr ⟨h1, h2⟩).imp fun ⟨a, b⟩ => by omega
/-- what is told as done by a letter, for a key: between what was known and what is known, changes of the key, rising -/
structure Told (cs : List Ch) (k : Nat) (u : Int) (r : HK × List Int) : Prop where
  inv : KI cs k r.1
  up : u ≤ r.1.upto
  num : ∀ n ∈ r.2, u < n ∧ n ≤ r.1.upto ∧ IsN cs k n
  rise : r.2.Pairwise (· < ·)
theorem free_told {cs : List Ch} {k : Nat} {h : HK} {u0 : Int} (r : KR cs k h) (h0 : 0 ≤ h.upto) (hu : u0 ≤ h.upto) : Told cs k u0 h.free ∧ h.upto ≤ h.free.1.upto := by
  obtain ⟨q1, q2, q3, q4⟩ := fold_inv (u0 := u0) (L := srt (asN h.aside)) (st := (h, [])) r h0 (srt_lt r.nd) (fun n hn => (srt_perm _).mem_iff.mp hn)
    (fun a ha q => absurd ((srt_perm _).mem_iff.mpr (List.mem_map.mpr ⟨a, ha, rfl⟩)) q) hu (fun _ q => (nomatch q)) List.Pairwise.nil
  exact ⟨⟨q1, Int.le_trans hu q2, q3, q4⟩, q2⟩
theorem Told.none {cs : List Ch} {k : Nat} {h : HK} (i : KI cs k h) : Told cs k h.upto (h, []) := ⟨i, Int.le_refl _, fun _ q => (nomatch q), List.Pairwise.nil⟩
theorem putA_mem {as : List As} {a b : As} (h : b ∈ putA as a) : b = a ∨ b ∈ as := by
  unfold putA at h
  split at h
  · obtain ⟨x, hx, e⟩ := List.mem_map.mp h
    split at e
    · exact .inl e.symm
    · exact .inr (e ▸ hx)
  · rcases List.mem_append.mp h with h | h
    · exact .inr h
    · exact .inl (List.mem_singleton.mp h)
theorem putA_nd {as : List As} {a : As} (nd : (asN as).Nodup) : (asN (putA as a)).Nodup := by
  unfold putA
  split
  · have : asN (as.map fun x => if x.n = a.n then a else x) = asN as := by
      unfold asN
      rw [List.map_map]
      apply List.map_congr_left
      intro x _
      show ((if x.n = a.n then a else x).n : Int) = x.n
      split
      · rename_i h
        rw [h]
      · rfl
    rw [this]
    exact nd
  · rename_i h
    unfold asN
    rw [List.map_append]
    refine List.nodup_append.mpr ⟨nd, by simp, fun x hx y hy q => h ?_⟩
    obtain ⟨b, hb, eb⟩ := List.mem_map.mp hx
    have hy : y = (a.n : Int) := by simpa using hy
    rw [List.any_eq_true]
    exact ⟨b, hb, by simp; omega⟩
/-- THE STEP -/
theorem hearK_told {nk : Nat} {cs : List Ch} {k : Nat} {h : HK} {l : Letter} (i : KI cs k h) (hk : k < nk) (hl : IsLet nk cs l) : Told cs k h.upto (hearK k h l) := by
  cases hl with
  | @change n c e =>
    simp only [hearK]
    split
    · rename_i hck
      subst hck
      unfold HK.chg
      split
      · exact .none i
      · rename_i h1
        split
        · rename_i h2
          have hin : AsIn cs c.key ⟨n + 1, c.worth, lof (cs.take n) c.key⟩ := by
            refine ⟨n, rfl, ?_, rfl⟩
            rw [e]
            cases c
            cases h2.1
            rfl
          refine ⟨⟨⟨i.lo, i.hi, i.ok, fun a ha => ?_, putA_nd i.nd⟩, fun a ha => ?_⟩, Int.le_refl _, fun _ q => (nomatch q), List.Pairwise.nil⟩
          · rcases putA_mem ha with q | q
            · rw [q]
              exact hin
            · exact i.as a q
          · rcases putA_mem ha with q | q
            · rw [q]
              exact h2.2
            · exact i.ahead a q
        · rename_i h2
          have hn := (List.getElem?_eq_some_iff.mp e).1
          have hr : KR cs c.key (h.done (n + 1) c.set c.worth) := by
            refine ⟨?_, ?_, fun u hu => ?_, i.as, i.nd⟩
            · show (-1 : Int) ≤ ((n + 1 : Nat) : Int)
              omega
            · show ((n + 1 : Nat) : Int) ≤ cs.length
              omega
            · have hu : ((n + 1 : Nat) : Int) = u := hu
              have : n + 1 = u := by omega
              subst this
              obtain ⟨w1, w2⟩ := wof_at e
              refine ⟨?_, w2.symm⟩
              show (if c.set then c.worth else h.worth + c.worth) = _
              rw [w1]
              cases hs : c.set with
              | true => simp
              | false =>
                have hua : (lof (cs.take n) c.key : Int) ≤ h.upto := by
                  by_cases q : h.upto < (lof (cs.take n) c.key : Int)
                  · exact absurd ⟨hs, q⟩ h2
                  · omega
                obtain ⟨v, hv⟩ : ∃ v : Nat, h.upto = v := ⟨h.upto.toNat, by omega⟩
                obtain ⟨w3, _⟩ := wof_const (cs := cs) (k := c.key) (i := v) (j := n) (by omega) (by omega)
                rw [(i.ok v hv).1, w3]
                simp
          obtain ⟨q1, q2⟩ := free_told (u0 := ((n + 1 : Nat) : Int)) hr (by show (0 : Int) ≤ ((n + 1 : Nat) : Int); omega) (Int.le_refl _)
          refine ⟨q1.inv, by show h.upto ≤ (h.done (n + 1) c.set c.worth).free.1.upto; have := q1.up; omega, fun x hx => ?_, List.pairwise_cons.mpr ⟨fun x hx => (q1.num x hx).1, q1.rise⟩⟩
          rcases List.mem_cons.mp hx with hx | hx
          · subst hx
            exact ⟨by omega, q1.up, n, c, rfl, e, rfl⟩
          · obtain ⟨p1, p2, p3⟩ := q1.num x hx
            exact ⟨by omega, p2, p3⟩
    · exact .none i
  | @part n b e hn hbe hek =>
    show Told cs k h.upto (hearK k h (.part n b (partRows cs n b (e - b))))
    simp only [hearK]
    split
    · rename_i hbk
      cases er : (partRows cs n b (e - b))[k - b]? with
      | none => exact .none i
      | some r =>
        have hr : r = (wof (cs.take n) k, lof (cs.take n) k) := by
          have hlt := (List.getElem?_eq_some_iff.mp er).1
          rw [partRows, List.length_map, List.length_range] at hlt
          rw [partRows, List.getElem?_map, List.getElem?_range hlt] at er
          have := Option.some.inj er
          rw [← this]
          show (wof (cs.take n) (b + (k - b)), lof (cs.take n) (b + (k - b))) = _
          rw [show b + (k - b) = k by omega]
        subst hr
        show Told cs k h.upto (h.row n (wof (cs.take n) k) (lof (cs.take n) k))
        unfold HK.row
        split
        · rename_i h1
          have hr : KR cs k { h with worth := wof (cs.take n) k, since := lof (cs.take n) k, upto := n } := by
            refine ⟨by show (-1 : Int) ≤ (n : Int); omega, by show (n : Int) ≤ cs.length; omega, fun u hu => ?_, i.as, i.nd⟩
            have hu : (n : Int) = u := hu
            have : n = u := by omega
            subst this
            exact ⟨rfl, rfl⟩
          exact (free_told hr (by show (0 : Int) ≤ (n : Int); omega) (by show h.upto ≤ (n : Int); omega)).1
        · exact .none i
    · exact .none i
  | @beat n hn =>
    show Told cs k h.upto (hearK k h (.beat n ((List.range nk).map fun k => lof (cs.take n) k)))
    simp only [hearK]
    rw [List.getElem?_map, List.getElem?_range hk]
    show Told cs k h.upto (h.beat n (lof (cs.take n) k), [])
    unfold HK.beat
    split
    · rename_i h1
      obtain ⟨v, hv⟩ : ∃ v : Nat, h.upto = v := ⟨h.upto.toNat, by omega⟩
      obtain ⟨w3, w4⟩ := wof_const (cs := cs) (k := k) (i := v) (j := n) (by omega) (by omega)
      refine ⟨⟨⟨by show (-1 : Int) ≤ (n : Int); omega, by show (n : Int) ≤ cs.length; omega, fun u hu => ?_, i.as, i.nd⟩, fun a ha => ?_⟩, by show h.upto ≤ (n : Int); omega, fun _ q => (nomatch q), List.Pairwise.nil⟩
      · have hu : (n : Int) = u := hu
        have : n = u := by omega
        subst this
        rw [w3, w4]
        exact i.ok v hv
      · show (n : Int) < (a.ahead : Int)
        have h2 := i.ahead a ha
        rcases Nat.lt_or_ge n a.ahead with q | q
        · omega
        · exfalso
          obtain ⟨m, e1, e2, e3⟩ := i.as a ha
          -- the change ahead is one of the key's, at n at the latest
          have h3 : lof (cs.take a.ahead) k = a.ahead := by
            have : lof (cs.take m) k ≤ a.ahead := by omega
            have := wof_const (cs := cs) (k := k) (i := a.ahead) (j := m) (by have := lof_take_le cs m k; omega) this
            omega
          have h4 := lof_mono (cs := cs) (k := k) q
          omega
    · exact .none i
end Cu

namespace Cu
open PySem PySem.Spec PyProof.Rows L2
def wholeD (hs : List HK) : PyData := match wholeM hs with
  | none => .none
  | some (n, ws) => .tuple [.int n, ilst ws]
def standD (hs : List HK) : PyData := .list [.list (hs.map lookM), ilst (hs.map fun h => h.upto), ilst (heldM hs), wholeD hs]
theorem Gd.look {n : Nat} (h : HK) : Gd (n + 2) (lookM h) := by
  unfold lookM
  split
  · exact .none
  · exact .tuple (.all_cons .int (.all_cons .int (.all_cons .int .all_nil)))
theorem Gd.whole {n : Nat} (hs : List HK) : Gd (n + 3) (wholeD hs) := by
  unfold wholeD
  split
  · exact .none
  · exact .tuple (.all_cons .int (.all_cons (.ilst _) .all_nil))
theorem Gd.stand (hs : List HK) : Gd 5 (standD hs) := .list (.all_cons (.list fun d hd => by
  obtain ⟨h, _, rfl⟩ := List.mem_map.mp hd
  exact .look h) (.all_cons (.ilst _) (.all_cons (.ilst _) (.all_cons (.whole _) .all_nil))))
section
variable {K : PySem.W.Frag} {H : Hp} {C : Addr} {σ : L2.St} {Q : VK} {i : Nat} {A : HA} {hs : List HK} {c : Lg} {te : TE}
theorem rd_known (h1 : σ[i]? = some (some (.ref A.p))) (r : HR K C A hs H c) (hc : Has H c) (q : ∀ p H', Grow H H' → FzL K H' p ((hs.map fun h => h.upto).map V.int) → Q (.ref p) H') :
    tFz (tMeth C "known" (spKnown K C) [] E0 (tVar i) tNil) σ H Q :=
  rd_fz ⟨_, h1, A.p, _, _, rfl, r.at_p hc, hFno, rfl, A, hs, c, rfl, r, hc, fun _ _ t => ⟨_, _, rfl, t.own.head, fun _ => q _ _ (t.fz .nil) FzL.frz⟩⟩
theorem rd_held (h1 : σ[i]? = some (some (.ref A.p))) (r : HR K C A hs H c) (hc : Has H c) (hsz : (hs.map fun h => asN h.aside).flatten.length ≤ 1000) (q : ∀ p H', Grow H H' → FzL K H' p ((heldM hs).map V.int) → Q (.ref p) H') :
    tFz (tMeth C "held" (spHeld K C) [] E0 (tVar i) tNil) σ H Q :=
  rd_fz ⟨_, h1, A.p, _, _, rfl, r.at_p hc, hFno, rfl, A, hs, c, rfl, r, hc, hsz, fun _ _ t => ⟨_, _, rfl, t.own.head, fun _ => q _ _ (t.fz .nil) FzL.frz⟩⟩
theorem rd_whole (h1 : σ[i]? = some (some (.ref A.p))) (r : HR K C A hs H c) (hc : Has H c) (hn : 0 < hs.length) (q : ∀ v H', Grow H H' → Rp K H' (wholeD hs) v → Q v H') :
    tFzw (tMeth C "whole" (spWhole K C) [] E0 (tVar i) tNil) σ H Q := by
  refine rd_fzw ⟨_, h1, A.p, _, _, rfl, r.at_p hc, hFno, rfl, A, hs, c, rfl, r, hc, hn, fun hw => .inl (q _ _ (Grow.refl _) ?_), fun n ws hw p t H' t8 ht => .inr ⟨_, _, t8.own.head, fun o => q _ _ (t8.fz (ob := o) .nil) ?_⟩⟩
  · rw [wholeD, hw]
    exact .non
  · rw [wholeD, hw]
    exact .tup (t8.own.mono_put (o' := .frz o (.lst (ws.map V.int))) _ _ ht trivial) (.cons .int (.cons (.il FzL.frz) .nil))
theorem rd_look {k : Nat} {h : HK} {j : Nat} {z : Int} (h1 : σ[i]? = some (some (.ref A.p))) (r : HR K C A hs H c) (hc : Has H c) (h2 : σ[j]? = some (some (.int z))) (ez : z = k) (e : hs[k]? = some h) (q : ∀ v H', Grow H H' → Rp K H' (lookM h) v → Q v H') :
    tMeth C "look" (spLook K C) [] E0 (tVar i) (tCons (tVar j) tNil) σ H Q := by
  subst ez
  exact ⟨_, h1, A.p, _, _, rfl, r.at_p hc, hFno, _, h2, rfl, A, hs, c, k, h, rfl, r, hc, e, q⟩
theorem Rp.look_inv {h : HK} {v : V} (r : Rp K H (lookM h) v) (hu : 0 ≤ h.upto) : ∃ t, v = .ref t ∧ H t = some (.tup [.int h.worth, .int h.since, .int h.upto]) := by
  unfold lookM at r
  rw [if_neg (by omega)] at r
  obtain ⟨a, xs, e, f, r⟩ := r.tup_inv
  obtain ⟨v1, r1, e1, g1, r⟩ := r.cons_inv
  obtain ⟨v2, r2, e2, g2, r⟩ := r.cons_inv
  obtain ⟨v3, r3, e3, g3, r⟩ := r.cons_inv
  have := r.nil_inv
  subst this e3 e2 e1
  have g1 := Rp.int_iff.mp g1
  have g2 := Rp.int_iff.mp g2
  have g3 := Rp.int_iff.mp g3
  subst g1 g2 g3
  exact ⟨a, e, f⟩
theorem Rp.whole_inv {v : V} (r : Rp K H (wholeD hs) v) : (wholeM hs = none ∧ v = .non) ∨ ∃ n ws t p, wholeM hs = some (n, ws) ∧ v = .ref t ∧ H t = some (.tup [.int n, .ref p]) ∧ FzL K H p (ws.map V.int) := by
  unfold wholeD at r
  cases e : wholeM hs with
  | none =>
    rw [e] at r
    exact .inl ⟨rfl, Rp.none_iff.mp r⟩
  | some x =>
    obtain ⟨n, ws⟩ := x
    rw [e] at r
    obtain ⟨a, xs, e1, f, r⟩ := Rp.tup_inv r
    obtain ⟨v1, r1, e2, g1, r⟩ := r.cons_inv
    obtain ⟨v2, r2, e3, g2, r⟩ := r.cons_inv
    have := r.nil_inv
    subst this e3 e2
    have g1 := Rp.int_iff.mp g1
    obtain ⟨p, e4, f4⟩ := g2.il_inv
    subst g1 e4
    exact .inr ⟨n, ws, a, p, rfl, e1, f, f4⟩
end
end Cu

namespace Cu
open PySem PySem.Spec PyProof.Rows L2
/-! all keys of a hearer, by letters of one board -/
theorem IsN.key {cs : List Ch} {k k' : Nat} {n : Int} (h : IsN cs k n) (h' : IsN cs k' n) : k = k' := by
  obtain ⟨m, c, e1, e2, e3⟩ := h
  obtain ⟨m', c', e4, e5, e6⟩ := h'
  have : m = m' := by omega
  subst this
  rw [e2] at e5
  cases e5
  omega
theorem IsN.bd {cs : List Ch} {k : Nat} {n : Int} (h : IsN cs k n) : 0 < n ∧ n ≤ cs.length := by
  obtain ⟨m, c, e1, e2, _⟩ := h
  have := (List.getElem?_eq_some_iff.mp e2).1
  omega
theorem AsIn.isN {cs : List Ch} {k : Nat} {a : As} (h : AsIn cs k a) : IsN cs k a.n := by
  obtain ⟨m, e1, e2, _⟩ := h
  exact ⟨m, _, by omega, e2, rfl⟩
theorem rise_len : ∀ {l : List Int} {a b : Int}, l.Pairwise (· < ·) → (∀ n ∈ l, a < n ∧ n ≤ b) → (l.length : Int) ≤ if a ≤ b then b - a else 0
  | [], a, b, _, _ => by
    show (0 : Int) ≤ _
    split <;> omega
  | n :: l, a, b, h, q => by
    obtain ⟨h1, h2⟩ := List.pairwise_cons.mp h
    have q0 := q n List.mem_cons_self
    have ih := rise_len (a := n) (b := b) h2 fun m hm => ⟨h1 m hm, (q m (List.mem_cons_of_mem _ hm)).2⟩
    rw [if_pos (by omega)] at ih
    rw [if_pos (by omega), List.length_cons]
    omega
theorem nodup_len {l : List Int} {b : Nat} (nd : l.Nodup) (h : ∀ n ∈ l, 0 < n ∧ n ≤ b) : l.length ≤ b := by
  have h1 := rise_len (a := 0) (b := b) (srt_lt nd) fun n hn => h n ((srt_perm l).mem_iff.mp hn)
  rw [(srt_perm l).length_eq, if_pos (by omega)] at h1
  omega
theorem KI.few {cs : List Ch} {k : Nat} {h : HK} (i : KI cs k h) : h.aside.length ≤ cs.length := by
  have := nodup_len (b := cs.length) i.nd fun n hn => by
    obtain ⟨a, ha, e⟩ := List.mem_map.mp hn
    have := (i.as a ha).le
    omega
  rwa [asN, List.length_map] at this
theorem KI.wf {cs : List Ch} {k : Nat} {h : HK} (i : KI cs k h) (hl : cs.length < 122) : Wf h := ⟨i.nd, Nat.lt_of_le_of_lt i.few hl⟩
/-- a letter heard again -/
theorem putA_twice (as : List As) (a : As) : putA (putA as a) a = putA as a := by
  have hany : ((putA as a).any fun x => decide (x.n = a.n)) = true := by
    rw [List.any_eq_true]
    unfold putA
    split
    · rename_i h
      obtain ⟨x, hx, e⟩ := List.any_eq_true.mp h
      have e : x.n = a.n := of_decide_eq_true e
      exact ⟨a, List.mem_map.mpr ⟨x, hx, if_pos e⟩, by simp⟩
    · exact ⟨a, by simp, by simp⟩
  have e : putA (putA as a) a = (putA as a).map fun x => if x.n = a.n then a else x := by
    rw [putA, if_pos hany]
  rw [e]
  unfold putA
  split
  · rw [List.map_map]
    apply List.map_congr_left
    intro x _
    show (if (if x.n = a.n then a else x).n = a.n then a else (if x.n = a.n then a else x)) = if x.n = a.n then a else x
    by_cases h : x.n = a.n
    · rw [if_pos h, if_pos rfl]
    · rw [if_neg h, if_neg h]
  · rename_i h
    rw [List.map_append]
    have : as.map (fun x => if x.n = a.n then a else x) = as := by
      have : as.map (fun x => if x.n = a.n then a else x) = as.map id := by
        apply List.map_congr_left
        intro x hx
        rw [if_neg fun q => h (List.any_eq_true.mpr ⟨x, hx, by simpa using q⟩)]
        rfl
      rw [this, List.map_id]
    rw [this]
    simp
theorem fold_up {l : List Int} {st : HK × List Int} : st.1.upto ≤ (l.foldl HK.fstep st).1.upto := by
  induction l generalizing st with
  | nil => exact Int.le_refl _
  | cons n l ih =>
    rw [List.foldl_cons]
    refine Int.le_trans ?_ ih
    unfold HK.fstep
    cases h : findA st.1.aside n with
    | none => exact Int.le_refl _
    | some a =>
      dsimp only
      split
      · exact Int.le_refl _
      · split
        · have := findA_n h
          show st.1.upto ≤ (a.n : Int)
          omega
        · exact Int.le_refl _
theorem free_up (h : HK) : h.upto ≤ h.free.1.upto := fold_up (st := (h, []))
theorem hearK_twice (k : Nat) (h : HK) (l : Letter) : hearK k (hearK k h l).1 l = ((hearK k h l).1, []) := by
  cases l with
  | change n c ahead =>
    simp only [hearK]
    by_cases hk : c.key = k
    · simp only [if_pos hk]
      by_cases h1 : (n : Int) ≤ h.upto
      · have e : h.chg n c ahead = (h, []) := by rw [HK.chg, if_pos h1]
        rw [e]
        exact e
      · by_cases h2 : c.set = false ∧ h.upto < (ahead : Int)
        · have e : h.chg n c ahead = ({ h with aside := putA h.aside ⟨n, c.worth, ahead⟩ }, []) := by rw [HK.chg, if_neg h1, if_pos h2]
          rw [e]
          show HK.chg { h with aside := putA h.aside ⟨n, c.worth, ahead⟩ } n c ahead = _
          rw [HK.chg, if_neg h1, if_pos h2]
          simp only [putA_twice]
        · have e : h.chg n c ahead = (((h.done n c.set c.worth).free).1, (n : Int) :: ((h.done n c.set c.worth).free).2) := by rw [HK.chg, if_neg h1, if_neg h2]
          rw [e]
          have := free_up (h.done n c.set c.worth)
          have h3 : (n : Int) ≤ ((h.done n c.set c.worth).free).1.upto := this
          show HK.chg ((h.done n c.set c.worth).free).1 n c ahead = _
          rw [HK.chg, if_pos h3]
    · simp only [if_neg hk]
  | part n b rows =>
    simp only [hearK]
    by_cases hk : b ≤ k
    · simp only [if_pos hk]
      cases rows[k - b]? with
      | none => rfl
      | some r =>
        show HK.row (h.row n r.1 r.2).1 n r.1 r.2 = ((h.row n r.1 r.2).1, [])
        by_cases h1 : h.upto < (n : Int)
        · have e : h.row n r.1 r.2 = ({ h with worth := r.1, since := r.2, upto := n } : HK).free := by rw [HK.row, if_pos h1]
          rw [e]
          have h3 : (n : Int) ≤ (({ h with worth := r.1, since := r.2, upto := n } : HK).free).1.upto := free_up { h with worth := r.1, since := r.2, upto := n }
          rw [HK.row, if_neg (by omega)]
        · have e : h.row n r.1 r.2 = (h, []) := by rw [HK.row, if_neg h1]
          rw [e]
          exact e
    · simp only [if_neg hk]
  | beat n lasts =>
    simp only [hearK]
    cases lasts[k]? with
    | none => rfl
    | some x =>
      show ((h.beat n x).beat n x, ([] : List Int)) = (h.beat n x, [])
      congr 1
      unfold HK.beat
      by_cases h1 : (x : Int) ≤ h.upto ∧ h.upto < (n : Int)
      · rw [if_pos h1, if_neg fun q => absurd q.2 (Int.lt_irrefl _)]
      · rw [if_neg h1, if_neg h1]
theorem hear_get {hs : List HK} {l : Letter} {k : Nat} {h : HK} (e : hs[k]? = some h) : (hear hs l)[k]? = some (hearK k h l).1 := by
  rw [hear, List.getElem?_mapIdx, e]
  rfl
theorem hear_inv {hs : List HK} {l : Letter} {k : Nat} {h' : HK} (e : (hear hs l)[k]? = some h') : ∃ h, hs[k]? = some h ∧ h' = (hearK k h l).1 := by
  cases eh : hs[k]? with
  | none =>
    rw [hear, List.getElem?_mapIdx, eh] at e
    cases e
  | some h =>
    rw [hear_get eh] at e
    exact ⟨h, rfl, (Option.some.inj e).symm⟩
theorem heard_mem {hs : List HK} {l : Letter} {n : Int} (h : n ∈ heard hs l) : ∃ k g, hs[k]? = some g ∧ n ∈ (hearK k g l).2 := by
  obtain ⟨x, hx, hn⟩ := List.mem_flatten.mp h
  obtain ⟨k, hk⟩ := List.getElem?_of_mem hx
  rw [List.getElem?_mapIdx] at hk
  cases eh : hs[k]? with
  | none =>
    rw [eh] at hk
    cases hk
  | some g =>
    rw [eh] at hk
    have e : (hearK k g l).2 = x := Option.some.inj hk
    exact ⟨k, g, eh, by rw [e]; exact hn⟩
theorem hear_twice (hs : List HK) (l : Letter) : hear (hear hs l) l = hear hs l ∧ heard (hear hs l) l = [] := by
  constructor
  · apply List.ext_getElem?
    intro k
    cases eh : hs[k]? with
    | none => rw [List.getElem?_eq_none (by rw [hear_len, hear_len]; exact List.getElem?_eq_none_iff.mp eh), List.getElem?_eq_none (by rw [hear_len]; exact List.getElem?_eq_none_iff.mp eh)]
    | some h => rw [hear_get (hear_get eh), hear_get eh, hearK_twice]
  · refine List.eq_nil_iff_forall_not_mem.mpr fun n hn => ?_
    obtain ⟨k, g, e1, e2⟩ := heard_mem hn
    obtain ⟨h, e3, rfl⟩ := hear_inv e1
    rw [hearK_twice] at e2
    cases e2
/-- a hearer, all of whose keys are right -/
def AllI (nk : Nat) (cs : List Ch) (hs : List HK) : Prop := hs.length = nk ∧ ∀ k h, hs[k]? = some h → KI cs k h
theorem AllI.ini (nk : Nat) (cs : List Ch) : AllI nk cs (List.replicate nk HK.ini) := ⟨List.length_replicate, fun k h e => by
  rw [List.getElem?_replicate] at e
  split at e
  · cases e
    exact KI.ini cs k
  · cases e⟩
theorem AllI.told {nk : Nat} {cs : List Ch} {hs : List HK} {l : Letter} {k : Nat} {h : HK} (i : AllI nk cs hs) (hl : IsLet nk cs l) (e : hs[k]? = some h) : Told cs k h.upto (hearK k h l) :=
  hearK_told (i.2 k h e) (by have := (List.getElem?_eq_some_iff.mp e).1; have := i.1; omega) hl
theorem AllI.hear {nk : Nat} {cs : List Ch} {hs : List HK} {l : Letter} (i : AllI nk cs hs) (hl : IsLet nk cs l) : AllI nk cs (hear hs l) := ⟨by rw [hear_len]; exact i.1, fun k h e => by
  obtain ⟨g, eg, rfl⟩ := hear_inv e
  exact (i.told hl eg).inv⟩
theorem AllI.wf {nk : Nat} {cs : List Ch} {hs : List HK} (i : AllI nk cs hs) (hl : cs.length < 122) : ∀ h ∈ hs, Wf h := fun h hm => by
  obtain ⟨k, e⟩ := List.getElem?_of_mem hm
  exact (i.2 k h e).wf hl
theorem flat_le {α β : Type} {f : α → List β} {b : Nat} : ∀ {xs : List α}, (∀ x ∈ xs, (f x).length ≤ b) → ((xs.map f).flatten).length ≤ xs.length * b
  | [], _ => by simp
  | x :: xs, h => by
    have h1 := h x List.mem_cons_self
    have ih := flat_le (xs := xs) fun y hy => h y (List.mem_cons_of_mem _ hy)
    rw [List.map_cons, List.flatten_cons, List.length_append, List.length_cons, Nat.succ_mul]
    omega
theorem AllI.held {nk : Nat} {cs : List Ch} {hs : List HK} (i : AllI nk cs hs) (hl : cs.length ≤ 122) (hn : nk ≤ 8) : (hs.map fun h => asN h.aside).flatten.length ≤ 1000 := by
  have h1 := flat_le (f := fun h : HK => asN h.aside) (b := 122) (xs := hs) fun h hm => by
    obtain ⟨k, e⟩ := List.getElem?_of_mem hm
    have := (i.2 k h e).few
    rw [asN, List.length_map]
    omega
  have := i.1
  have h2 : hs.length * 122 ≤ 8 * 122 := Nat.mul_le_mul_right _ (by omega)
  omega
/-- the number's change is done -/
def Dn (cs : List Ch) (hs : List HK) (n : Int) : Prop := ∃ k h, hs[k]? = some h ∧ n ≤ h.upto ∧ IsN cs k n
section
variable {nk : Nat} {cs : List Ch} {hs : List HK} {l : Letter} {n : Int}
theorem Dn.hear (i : AllI nk cs hs) (hl : IsLet nk cs l) (h : Dn cs hs n) : Dn cs (hear hs l) n := by
  obtain ⟨k, g, e, h1, h2⟩ := h
  exact ⟨k, _, hear_get e, Int.le_trans h1 (i.told hl e).up, h2⟩
theorem heard_dn (i : AllI nk cs hs) (hl : IsLet nk cs l) (h : n ∈ heard hs l) : Dn cs (hear hs l) n ∧ ¬ Dn cs hs n := by
  obtain ⟨k, g, e1, e2⟩ := heard_mem h
  obtain ⟨q1, q2, q3⟩ := (i.told hl e1).num n e2
  refine ⟨⟨k, _, hear_get e1, q2, q3⟩, fun ⟨k', g', e3, q4, q5⟩ => ?_⟩
  have := q3.key q5
  subst this
  rw [e1] at e3
  cases e3
  omega
theorem flat_nodup : ∀ {xs : List (List Int)}, (∀ x ∈ xs, x.Nodup) → (∀ (i j : Nat) x y, xs[i]? = some x → xs[j]? = some y → i < j → ∀ n ∈ x, n ∉ y) → xs.flatten.Nodup
  | [], _, _ => by simp
  | x :: xs, h, q => by
    rw [List.flatten_cons]
    refine List.nodup_append.mpr ⟨h x List.mem_cons_self, flat_nodup (fun y hy => h y (List.mem_cons_of_mem _ hy)) fun i j y z ei ej hij => q (i + 1) (j + 1) y z (by simpa using ei) (by simpa using ej) (by omega), fun a ha b hb e => ?_⟩
    obtain ⟨y, hy, hby⟩ := List.mem_flatten.mp hb
    obtain ⟨j, hj⟩ := List.getElem?_of_mem hy
    subst e
    exact q 0 (j + 1) x y rfl (by simpa using hj) (by omega) a ha hby
theorem heard_nodup (i : AllI nk cs hs) (hl : IsLet nk cs l) : (heard hs l).Nodup := by
  have at_ : ∀ (j : Nat) (x : List Int), (hs.mapIdx fun k h => (hearK k h l).2)[j]? = some x → ∃ g, hs[j]? = some g ∧ x = (hearK j g l).2 := fun j x hx => by
    rw [List.getElem?_mapIdx] at hx
    cases eh : hs[j]? with
    | none =>
      rw [eh] at hx
      cases hx
    | some g =>
      rw [eh] at hx
      exact ⟨g, rfl, (Option.some.inj hx).symm⟩
  refine flat_nodup (fun x hx => ?_) fun a b x y ha hb hab m hm hm' => ?_
  · obtain ⟨j, hj⟩ := List.getElem?_of_mem hx
    obtain ⟨g, eg, rfl⟩ := at_ j x hj
    exact (i.told hl eg).rise.imp fun h => Int.ne_of_lt h
  · obtain ⟨g, eg, rfl⟩ := at_ a x ha
    obtain ⟨g', eg', rfl⟩ := at_ b y hb
    have := ((i.told hl eg).num m hm).2.2.key ((i.told hl eg').num m hm').2.2
    omega
theorem heard_bd (i : AllI nk cs hs) (hl : IsLet nk cs l) (h : n ∈ heard hs l) : 0 < n ∧ n ≤ cs.length := by
  obtain ⟨k, g, e1, e2⟩ := heard_mem h
  exact ((i.told hl e1).num n e2).2.2.bd
theorem heard_few (i : AllI nk cs hs) (hl : IsLet nk cs l) : (heard hs l).length ≤ cs.length := nodup_len (heard_nodup i hl) fun _ h => heard_bd i hl h
theorem held_not (i : AllI nk cs hs) (h : n ∈ heldM hs) : ¬ Dn cs hs n := by
  have h := (srt_perm _).mem_iff.mp h
  obtain ⟨x, hx, hn⟩ := List.mem_flatten.mp h
  obtain ⟨g, hg, rfl⟩ := List.mem_map.mp hx
  obtain ⟨k, ek⟩ := List.getElem?_of_mem hg
  obtain ⟨a, ha, rfl⟩ := List.mem_map.mp hn
  rintro ⟨k', g', e1, q1, q2⟩
  have hin := (i.2 k g ek).as a ha
  have := hin.isN.key q2
  subst this
  rw [ek] at e1
  cases e1
  have h1 := (i.2 k g ek).ahead a ha
  have h2 := hin.lt
  omega
theorem let_ok (hc : ∀ c ∈ cs, c.key < nk) (h : hs.length = nk) : IsLet nk cs l →
    match l with | .change _ ch _ => ch.key < hs.length | .part _ b rows => b + rows.length ≤ hs.length | .beat _ lasts => lasts.length = hs.length := by
  intro hl
  cases hl with
  | change e =>
    show _ < hs.length
    rw [h]
    exact hc _ (List.mem_of_getElem? e)
  | @part n b e hn hbe hek =>
    show b + (partRows cs n b (e - b)).length ≤ hs.length
    rw [partRows, List.length_map, List.length_range]
    omega
  | beat hn =>
    show ((List.range nk).map _).length = hs.length
    rw [List.length_map, List.length_range]
    omega
end
theorem set_srt {ns ms : List Int} (nd : ns.Nodup) (h1 : ms.Pairwise (· < ·)) (h2 : ∀ k : Int, k ∈ ms ↔ decide (k ∈ ns) = true) : ms = srt ns := by
  refine srt_eq ?_ (h1.imp fun h => Int.le_of_lt h)
  exact (List.perm_ext_iff_of_nodup (h1.imp fun h => Int.ne_of_lt h) nd).mpr fun a => by rw [h2 a, decide_eq_true_eq]
end Cu

namespace Cu
open PySem PySem.Spec PyProof.Rows L2
theorem mk_tr {H : Hp} {x dx C : Addr} (h1 : H x = none) (h2 : H dx = none) (n : dx ≠ x) : Tr H [] (upd (upd H dx (.own x)) x (.ins C dx [])) [(x, .ins C dx [])] :=
  ((Tr.refl H []).old h2).new (by rw [upd_ne n.symm]; exact h1) nins
theorem inV_ints (n : Int) (ns : List Int) : inV (.int n) (ns.map V.int) = decide (n ∈ ns) := by
  induction ns with
  | nil => rfl
  | cons m ns ih =>
    have e : inV (.int n) ((m :: ns).map V.int) = (eqV (.int m) (.int n) || inV (.int n) (ns.map V.int)) := rfl
    rw [e, ih]
    have e2 : eqV (.int m) (.int n) = decide (m = n) := by
      by_cases h : m = n <;> simp [eqV, h]
    rw [e2]
    by_cases h : m = n
    · simp [h]
    · simp [h, Ne.symm h]
theorem flat_ints (ns : List Int) : (ns.map V.int).all flatV = true := by
  rw [List.all_eq_true]
  intro x hx
  obtain ⟨n, _, rfl⟩ := List.mem_map.mp hx
  rfl
theorem int_get {ns : List Int} {i : Nat} {x : V} (h : (ns.map V.int)[i]? = some x) : ∃ n, ns[i]? = some n ∧ x = .int n := by
  rw [List.getElem?_map] at h
  cases e : ns[i]? with
  | none =>
    rw [e] at h
    cases h
  | some n =>
    rw [e] at h
    exact ⟨n, rfl, (Option.some.inj h).symm⟩
theorem Dp.ints' {K : PySem.W.Frag} {H : Hp} {a : Addr} {ns : List Int} (h : H a = some (.lst (ns.map V.int))) : Dp K H (.ref a) (ilst ns) := Dp.ints (SqL.of h)
theorem Dp.il {K : PySem.W.Frag} {H : Hp} {a : Addr} {ns : List Int} (h : SqL K H a (ns.map V.int)) : Dp K H (.ref a) (ilst ns) := Dp.ints h
def spLaw (K : PySem.W.Frag) : Sp := fun vs H Q _ => vs.length = 1 ∧ ∃ (c : Addr) (ns : List Int), vs = [.ref c] ∧ ns.length ≤ 63 ∧ FzL K H c (ns.map V.int) ∧ ∀ H', Q (.bl true) H'
end Cu

namespace Cu
open PySem PySem.Spec PyProof.Rows L2
/-! two hearers of a key, of which the one has heard more -/
def Closed (as : List As) (U : Int) : Prop := ∀ a ∈ as, (a.ahead : Int) ≤ U → (a.n : Int) ≤ U
theorem fstep_cases (st : HK × List Int) (n : Int) : HK.fstep st n = st ∨ (∃ a, findA st.1.aside n = some a ∧ n ≤ st.1.upto ∧ HK.fstep st n = ({ st.1 with aside := dropA st.1.aside n }, st.2)) ∨
    (∃ a, findA st.1.aside n = some a ∧ st.1.upto < n ∧ (a.ahead : Int) ≤ st.1.upto ∧ HK.fstep st n = (({ st.1 with aside := dropA st.1.aside n } : HK).done a.n false a.worth, st.2 ++ [n])) := by
  unfold HK.fstep
  cases h : findA st.1.aside n with
  | none => exact .inl rfl
  | some a =>
    dsimp only
    by_cases h1 : n ≤ st.1.upto
    · exact .inr (.inl ⟨a, rfl, h1, by rw [if_pos h1]⟩)
    · by_cases h2 : (a.ahead : Int) ≤ st.1.upto
      · exact .inr (.inr ⟨a, rfl, by omega, h2, by rw [if_neg h1, if_pos h2]⟩)
      · exact .inl (by rw [if_neg h1, if_neg h2])
theorem fold_le {U : Int} : ∀ {L : List Int} {st : HK × List Int}, st.1.upto ≤ U → Closed st.1.aside U → (L.foldl HK.fstep st).1.upto ≤ U
  | [], st, h, _ => h
  | n :: L, st, h, c => by
    rw [List.foldl_cons]
    rcases fstep_cases st n with e | ⟨a, ha, h1, e⟩ | ⟨a, ha, h1, h2, e⟩
    · rw [e]
      exact fold_le h c
    · rw [e]
      exact fold_le (st := ({ st.1 with aside := dropA st.1.aside n }, st.2)) h fun b hb => c b (dropA_mem.mp hb).1
    · rw [e]
      exact fold_le (st := (({ st.1 with aside := dropA st.1.aside n } : HK).done a.n false a.worth, st.2 ++ [n])) (c a (findA_mem ha) (Int.le_trans h2 h)) fun b hb => c b (dropA_mem.mp hb).1
theorem fold_keep : ∀ {L : List Int} {st : HK × List Int} {b : As}, b ∈ st.1.aside → b ∈ (L.foldl HK.fstep st).1.aside ∨ (b.n : Int) ≤ (L.foldl HK.fstep st).1.upto
  | [], _, _, h => .inl h
  | n :: L, st, b, h => by
    rw [List.foldl_cons]
    rcases fstep_cases st n with e | ⟨a, ha, h1, e⟩ | ⟨a, ha, h1, h2, e⟩
    · rw [e]
      exact fold_keep h
    · rw [e]
      by_cases hb : (b.n : Int) = n
      · exact .inr (Int.le_trans (by show (b.n : Int) ≤ st.1.upto; omega) fold_up)
      · exact fold_keep (st := ({ st.1 with aside := dropA st.1.aside n }, st.2)) (dropA_mem.mpr ⟨h, hb⟩)
    · rw [e]
      by_cases hb : (b.n : Int) = n
      · have := findA_n ha
        exact .inr (Int.le_trans (by show (b.n : Int) ≤ (a.n : Int); omega) fold_up)
      · exact fold_keep (st := (({ st.1 with aside := dropA st.1.aside n } : HK).done a.n false a.worth, st.2 ++ [n])) (dropA_mem.mpr ⟨h, hb⟩)
theorem fold_sub : ∀ {L : List Int} {st : HK × List Int} {b : As}, b ∈ (L.foldl HK.fstep st).1.aside → b ∈ st.1.aside
  | [], _, _, h => h
  | n :: L, st, b, h => by
    rw [List.foldl_cons] at h
    have h := fold_sub h
    rcases fstep_cases st n with e | ⟨a, ha, h1, e⟩ | ⟨a, ha, h1, h2, e⟩
    · rwa [e] at h
    · rw [e] at h
      exact (dropA_mem.mp h).1
    · rw [e] at h
      exact (dropA_mem.mp h).1
theorem putA_new (as : List As) (a : As) : a ∈ putA as a := by
  unfold putA
  split
  · rename_i h
    obtain ⟨x, hx, e⟩ := List.any_eq_true.mp h
    exact List.mem_map.mpr ⟨x, hx, if_pos (of_decide_eq_true e)⟩
  · simp
theorem putA_old {as : List As} {a b : As} (h : b ∈ as) : b ∈ putA as a ∨ b.n = a.n := by
  by_cases e : b.n = a.n
  · exact .inr e
  · left
    unfold putA
    split
    · exact List.mem_map.mpr ⟨b, h, if_neg e⟩
    · exact List.mem_append_left _ h
theorem AsIn.same {cs : List Ch} {k : Nat} {a b : As} (ha : AsIn cs k a) (hb : AsIn cs k b) (e : a.n = b.n) : a = b := by
  obtain ⟨m, e1, e2, e3⟩ := ha
  obtain ⟨m', e4, e5, e6⟩ := hb
  have : m = m' := by omega
  subst this
  rw [e2] at e5
  cases a
  cases b
  simp only at e e3 e6 e5
  cases e5
  simp_all
structure Rel (h1 h2 : HK) : Prop where
  up : h2.upto ≤ h1.upto
  as : ∀ a ∈ h2.aside, a ∈ h1.aside ∨ (a.n : Int) ≤ h1.upto
theorem Rel.refl (h : HK) : Rel h h := ⟨Int.le_refl _, fun _ h => .inl h⟩
section
variable {nk : Nat} {cs : List Ch} {k : Nat} {h h1 h2 : HK} {l : Letter}
theorem hearK_keep (i : KI cs k h) (hl : IsLet nk cs l) {b : As} (hb : b ∈ h.aside) : b ∈ (hearK k h l).1.aside ∨ (b.n : Int) ≤ (hearK k h l).1.upto := by
  cases hl with
  | @change n c e =>
    simp only [hearK]
    split
    · rename_i hck
      subst hck
      unfold HK.chg
      split
      · exact .inl hb
      · split
        · rename_i h1 h2
          rcases putA_old (a := ⟨n + 1, c.worth, lof (cs.take n) c.key⟩) hb with q | q
          · exact .inl q
          · have hin : AsIn cs c.key ⟨n + 1, c.worth, lof (cs.take n) c.key⟩ := by
              refine ⟨n, rfl, ?_, rfl⟩
              rw [e]
              cases c
              cases h2.1
              rfl
            rw [(i.as b hb).same hin q]
            exact .inl (putA_new _ _)
        · exact fold_keep (st := (h.done (n + 1) c.set c.worth, [])) hb
    · exact .inl hb
  | @part n b e hn hbe hek =>
    unfold partL
    simp only [hearK]
    split
    · split
      · unfold HK.row
        split
        · rename_i r _ _
          exact fold_keep (st := ({ h with worth := r.1, since := r.2, upto := n }, [])) hb
        · exact .inl hb
      · exact .inl hb
    · exact .inl hb
  | @beat n hn =>
    unfold beatL
    simp only [hearK]
    split
    · unfold HK.beat
      split
      · exact .inl hb
      · exact .inl hb
    · exact .inl hb
theorem Rel.lost (i : KI cs k h1) (hk : k < nk) (hl : IsLet nk cs l) (r : Rel h1 h2) : Rel (hearK k h1 l).1 h2 := by
  have up := (hearK_told i hk hl).up
  refine ⟨Int.le_trans r.up up, fun a ha => ?_⟩
  rcases r.as a ha with q | q
  · exact hearK_keep i hl q
  · exact .inr (Int.le_trans q up)
theorem Rel.closed (i : KI cs k h1) (hk : k < nk) (hl : IsLet nk cs l) (r : Rel h1 h2) : Closed h2.aside (hearK k h1 l).1.upto := fun a ha hah => by
  have t := hearK_told i hk hl
  rcases (r.lost i hk hl).as a ha with q | q
  · have := t.inv.ahead a q
    omega
  · exact q
theorem Rel.both (i1 : KI cs k h1) (i2 : KI cs k h2) (hk : k < nk) (hl : IsLet nk cs l) (r : Rel h1 h2) : Rel (hearK k h1 l).1 (hearK k h2 l).1 := by
  have rl := r.lost i1 hk hl
  have rc := r.closed i1 hk hl
  have t1 := hearK_told i1 hk hl
  cases hl with
  | @change n c e =>
    by_cases hck : c.key = k
    · by_cases q1 : ((n + 1 : Nat) : Int) ≤ h2.upto
      · have e2 : (hearK k h2 (.change (n + 1) c (lof (cs.take n) c.key))).1 = h2 := by
          simp only [hearK, if_pos hck, HK.chg, if_pos q1]
        rw [e2]
        exact rl
      · by_cases q2 : c.set = false ∧ h2.upto < (lof (cs.take n) c.key : Int)
        · have e2 : (hearK k h2 (.change (n + 1) c (lof (cs.take n) c.key))).1 = { h2 with aside := putA h2.aside ⟨n + 1, c.worth, lof (cs.take n) c.key⟩ } := by
            simp only [hearK, if_pos hck, HK.chg, if_neg q1, if_pos q2]
          rw [e2]
          refine ⟨rl.up, fun a ha => ?_⟩
          rcases putA_mem ha with q | q
          · subst q
            simp only [hearK, if_pos hck, HK.chg]
            split
            · exact .inr (by assumption)
            · split
              · exact .inl (putA_new _ _)
              · exact .inr (free_up (h1.done (n + 1) c.set c.worth))
          · exact rl.as a q
        · have e2 : (hearK k h2 (.change (n + 1) c (lof (cs.take n) c.key))).1 = ((h2.done (n + 1) c.set c.worth).free).1 := by
            simp only [hearK, if_pos hck, HK.chg, if_neg q1, if_neg q2]
          have hbase : ((n + 1 : Nat) : Int) ≤ (hearK k h1 (.change (n + 1) c (lof (cs.take n) c.key))).1.upto := by
            simp only [hearK, if_pos hck, HK.chg]
            split
            · assumption
            · split
              · rename_i q3 q4
                refine absurd ⟨q4.1, ?_⟩ q2
                have := r.up
                omega
              · exact free_up (h1.done (n + 1) c.set c.worth)
          rw [e2]
          exact ⟨fold_le (st := (h2.done (n + 1) c.set c.worth, [])) hbase rc, fun a ha => rl.as a (fold_sub (st := (h2.done (n + 1) c.set c.worth, [])) ha)⟩
    · have e2 : (hearK k h2 (.change (n + 1) c (lof (cs.take n) c.key))).1 = h2 := by
        simp only [hearK, if_neg hck]
      rw [e2]
      exact rl
  | @part n b e hn hbe hek =>
    unfold partL at rl rc t1 ⊢
    by_cases hbk : b ≤ k
    · cases er : (partRows cs n b (e - b))[k - b]? with
      | none =>
        have e2 : (hearK k h2 (.part n b (partRows cs n b (e - b)))).1 = h2 := by simp only [hearK, if_pos hbk, er]
        rw [e2]
        exact rl
      | some x =>
        by_cases q1 : h2.upto < (n : Int)
        · have e2 : (hearK k h2 (.part n b (partRows cs n b (e - b)))).1 = (({ h2 with worth := x.1, since := x.2, upto := n } : HK).free).1 := by simp only [hearK, if_pos hbk, er, HK.row, if_pos q1]
          have hbase : (n : Int) ≤ (hearK k h1 (.part n b (partRows cs n b (e - b)))).1.upto := by
            simp only [hearK, if_pos hbk, er, HK.row]
            split
            · exact free_up { h1 with worth := x.1, since := x.2, upto := n }
            · show (n : Int) ≤ h1.upto
              omega
          rw [e2]
          exact ⟨fold_le (st := ({ h2 with worth := x.1, since := x.2, upto := n }, [])) hbase rc, fun a ha => rl.as a (fold_sub (st := ({ h2 with worth := x.1, since := x.2, upto := n }, [])) ha)⟩
        · have e2 : (hearK k h2 (.part n b (partRows cs n b (e - b)))).1 = h2 := by simp only [hearK, if_pos hbk, er, HK.row, if_neg q1]
          rw [e2]
          exact rl
    · have e2 : (hearK k h2 (.part n b (partRows cs n b (e - b)))).1 = h2 := by simp only [hearK, if_neg hbk]
      rw [e2]
      exact rl
  | @beat n hn =>
    unfold beatL at rl rc t1 ⊢
    cases er : ((List.range nk).map fun k => lof (cs.take n) k)[k]? with
    | none =>
      have e2 : (hearK k h2 (.beat n ((List.range nk).map fun k => lof (cs.take n) k))).1 = h2 := by simp only [hearK, er]
      rw [e2]
      exact rl
    | some x =>
      have e2 : ∀ h : HK, (hearK k h (.beat n ((List.range nk).map fun k => lof (cs.take n) k))).1 = h.beat n x := fun h => by simp only [hearK, er]
      rw [e2, e2] at *
      by_cases q1 : (x : Int) ≤ h2.upto ∧ h2.upto < (n : Int)
      · have e3 : h2.beat n x = { h2 with upto := n } := by rw [HK.beat, if_pos q1]
        rw [e3]
        refine ⟨?_, rl.as⟩
        show (n : Int) ≤ (h1.beat n x).upto
        unfold HK.beat
        have := r.up
        split
        · exact Int.le_refl _
        · rename_i q2
          by_cases q3 : h1.upto < (n : Int)
          · exact absurd ⟨by omega, q3⟩ q2
          · show (n : Int) ≤ h1.upto
            omega
      · have e3 : h2.beat n x = h2 := by rw [HK.beat, if_neg q1]
        rw [e3]
        exact rl
/-- what is known up to the same number is the same -/
theorem look_same (i1 : KI cs k h1) (i2 : KI cs k h2) (e : h2.upto = h1.upto) : lookM h1 = lookM h2 := by
  unfold lookM
  rw [e]
  split
  · rfl
  · obtain ⟨u, hu⟩ : ∃ u : Nat, h1.upto = u := ⟨h1.upto.toNat, by omega⟩
    rw [(i1.ok u hu).1, (i1.ok u hu).2, (i2.ok u (e.trans hu)).1, (i2.ok u (e.trans hu)).2]
end
theorem min_le {hs : List HK} {m : Int} {k : Nat} {h : HK} (e : minU hs = m) (hk : hs[k]? = some h) : m ≤ h.upto := by
  unfold minU at e
  cases q : (hs.map fun h => h.upto).min? with
  | none =>
    rw [List.min?_eq_none_iff, List.map_eq_nil_iff] at q
    rw [q] at hk
    cases hk
  | some x =>
    rw [q] at e
    have e : x = m := e
    subst e
    exact (List.min?_eq_some_iff.mp q).2 _ (List.mem_map.mpr ⟨h, List.mem_of_getElem? hk, rfl⟩)
theorem le_max {hs : List HK} {k : Nat} {h : HK} (hk : hs[k]? = some h) : (h.since : Int) ≤ maxS hs := by
  unfold maxS
  cases q : (hs.map fun h => (h.since : Int)).max? with
  | none =>
    rw [List.max?_eq_none_iff, List.map_eq_nil_iff] at q
    rw [q] at hk
    cases hk
  | some x => exact (List.max?_eq_some_iff.mp q).2 _ (List.mem_map.mpr ⟨h, List.mem_of_getElem? hk, rfl⟩)
/-- whole is the board, at its number -/
theorem whole_row {nk : Nat} {cs : List Ch} {hs : List HK} {n : Int} {ws : List Int} (i : AllI nk cs hs) (hne : 0 < nk) (h : wholeM hs = some (n, ws)) : ∃ m : Nat, n = m ∧ m ≤ cs.length ∧ ws = wrow nk (cs.take m) := by
  unfold wholeM at h
  split at h
  · cases h
  · rename_i h1
    split at h
    · rename_i h2
      cases h
      obtain ⟨m, em⟩ : ∃ m : Nat, minU hs = m := ⟨(minU hs).toNat, by omega⟩
      have hm : m ≤ cs.length := by
        obtain ⟨g, eg⟩ : ∃ g, hs[0]? = some g := ⟨hs[0]'(by rw [i.1]; exact hne), List.getElem?_eq_getElem _⟩
        have := min_le em eg
        have := (i.2 0 g eg).hi
        omega
      refine ⟨m, em, hm, ?_⟩
      apply List.ext_getElem?
      intro k
      rw [List.getElem?_map]
      cases ek : hs[k]? with
      | none =>
        have := List.getElem?_eq_none_iff.mp ek
        rw [List.getElem?_eq_none (by rw [wrow_len]; have := i.1; omega)]
        rfl
      | some g =>
        have hk : k < nk := by
          have := (List.getElem?_eq_some_iff.mp ek).1
          have := i.1
          omega
        rw [wrow_get hk]
        have q1 := min_le em ek
        have q2 := le_max ek
        have ki := i.2 k g ek
        obtain ⟨u, hu⟩ : ∃ u : Nat, g.upto = u := ⟨g.upto.toNat, by omega⟩
        obtain ⟨w1, w2⟩ := ki.ok u hu
        have w3 := (wof_const (cs := cs) (k := k) (i := m) (j := u) (by omega) (by omega)).1
        show some g.worth = some (wof (cs.take m) k)
        rw [w1, w3]
    · cases h
end Cu

namespace Cu
open PySem PySem.Spec PyProof.Rows L2
/-! what has been heard of is known, or put aside -/
theorem fold_told : ∀ {L : List Int} {st : HK × List Int} {n : Int}, n ∈ (L.foldl HK.fstep st).2 → n ∈ st.2 ∨ n ∈ asN st.1.aside
  | [], _, _, h => .inl h
  | m :: L, st, n, h => by
    rw [List.foldl_cons] at h
    have h := fold_told h
    rcases fstep_cases st m with e | ⟨a, ha, h1, e⟩ | ⟨a, ha, h1, h2, e⟩
    · rwa [e] at h
    · rw [e] at h
      rcases h with h | h
      · exact .inl h
      · exact .inr ((asN_drop _ _).subset h)
    · rw [e] at h
      rcases h with h | h
      · rcases List.mem_append.mp h with h | h
        · exact .inl h
        · rw [List.mem_singleton] at h
          have := findA_n ha
          exact .inr (by rw [h, ← this]; exact asN_of (findA_mem ha))
      · exact .inr ((asN_drop _ _).subset h)
/-- a letter of changes behind n0 alone -/
def Fresh (n0 : Nat) : Letter → Prop
  | .change n _ _ => n0 < n
  | .part n _ _ => n0 ≤ n
  | .beat _ _ => True
def Lo (n0 : Nat) (h : HK) : Prop := ∀ a ∈ h.aside, n0 < a.n
theorem hearK_lo {n0 k : Nat} {h : HK} {l : Letter} (lo : Lo n0 h) (fr : Fresh n0 l) : Lo n0 (hearK k h l).1 ∧ ∀ n ∈ (hearK k h l).2, (n0 : Int) < n := by
  have fre : ∀ g : HK, g.aside = h.aside → Lo n0 g.free.1 ∧ ∀ n ∈ g.free.2, (n0 : Int) < n := fun g eg => by
    refine ⟨fun a ha => lo a (by rw [← eg]; exact fold_sub (st := (g, [])) ha), fun n hn => ?_⟩
    rcases fold_told (st := (g, [])) hn with q | q
    · cases q
    · obtain ⟨a, ha, e⟩ := List.mem_map.mp q
      have := lo a (by rw [← eg]; exact ha)
      omega
  have no : Lo n0 h ∧ ∀ n ∈ ([] : List Int), (n0 : Int) < n := ⟨lo, fun _ q => (nomatch q)⟩
  cases l with
  | change n c ahead =>
    simp only [hearK]
    split
    · unfold HK.chg
      split
      · exact no
      · split
        · refine ⟨fun a ha => ?_, fun _ q => (nomatch q)⟩
          rcases putA_mem ha with q | q
          · rw [q]
            exact fr
          · exact lo a q
        · obtain ⟨q1, q2⟩ := fre (h.done n c.set c.worth) rfl
          refine ⟨q1, fun m hm => ?_⟩
          rcases List.mem_cons.mp hm with q | q
          · have : n0 < n := fr
            omega
          · exact q2 m q
    · exact no
  | part n b rows =>
    simp only [hearK]
    split
    · split
      · unfold HK.row
        split
        · rename_i r _ _
          exact fre { h with worth := r.1, since := r.2, upto := n } rfl
        · exact no
      · exact no
    · exact no
  | beat n lasts =>
    simp only [hearK]
    split
    · unfold HK.beat
      split
      · exact no
      · exact no
    · exact no
def Got (k : Nat) (l : Letter) (h : HK) : Prop := match l with
  | .change n c _ => c.key = k → (n : Int) ≤ h.upto ∨ (c.set = false ∧ (n : Int) ∈ asN h.aside)
  | .part n b rows => b ≤ k → k < b + rows.length → (n : Int) ≤ h.upto
  | .beat _ _ => True
theorem got_self (k : Nat) (h : HK) (l : Letter) : Got k l (hearK k h l).1 := by
  cases l with
  | change n c ahead =>
    intro hk
    simp only [hearK, if_pos hk]
    unfold HK.chg
    split
    · exact .inl (by assumption)
    · split
      · rename_i q
        exact .inr ⟨q.1, asN_of (putA_new h.aside ⟨n, c.worth, ahead⟩)⟩
      · exact .inl (free_up (h.done n c.set c.worth))
  | part n b rows =>
    intro h1 h2
    simp only [hearK, if_pos h1]
    obtain ⟨r, er⟩ : ∃ r, rows[k - b]? = some r := ⟨rows[k - b], List.getElem?_eq_getElem (by omega)⟩
    rw [er]
    show (n : Int) ≤ (h.row n r.1 r.2).1.upto
    unfold HK.row
    split
    · exact free_up { h with worth := r.1, since := r.2, upto := n }
    · show (n : Int) ≤ h.upto
      omega
  | beat n lasts => trivial
theorem got_keep {nk : Nat} {cs : List Ch} {k : Nat} {h : HK} {l l' : Letter} (i : KI cs k h) (hk : k < nk) (hl : IsLet nk cs l') (g : Got k l h) : Got k l (hearK k h l').1 := by
  have up := (hearK_told i hk hl).up
  cases l with
  | change n c ahead =>
    intro q
    rcases g q with g | ⟨gs, g⟩
    · exact .inl (Int.le_trans g up)
    · obtain ⟨a, ha, e⟩ := List.mem_map.mp g
      rcases hearK_keep i hl ha with z | z
      · exact .inr ⟨gs, by rw [← e]; exact asN_of z⟩
      · exact .inl (by rw [← e]; exact z)
  | part n b rows => exact fun q1 q2 => Int.le_trans (g q1 q2) up
  | beat n lasts => trivial
theorem lof_is (cs : List Ch) (k : Nat) : lof cs k = 0 ∨ ∃ j c, cs[j]? = some c ∧ c.key = k ∧ lof cs k = j + 1 := by
  induction cs using snoc_ind with
  | h0 => exact .inl rfl
  | h1 cs c ih =>
    rw [lof_snoc]
    by_cases h : c.key = k
    · rw [if_pos h]
      exact .inr ⟨cs.length, c, by simp, h, rfl⟩
    · rw [if_neg h]
      rcases ih with q | ⟨j, d, q1, q2, q3⟩
      · exact .inl q
      · exact .inr ⟨j, d, by rw [List.getElem?_append_left (List.getElem?_eq_some_iff.mp q1).1]; exact q1, q2, q3⟩
theorem take_get {cs : List Ch} {m j : Nat} {c : Ch} (h : (cs.take m)[j]? = some c) : cs[j]? = some c ∧ j < m := by
  have hj : j < m := by
    have := (List.getElem?_eq_some_iff.mp h).1
    rw [List.length_take] at this
    omega
  rw [List.getElem?_take_of_lt hj] at h
  exact ⟨h, hj⟩
/-- all changes behind n0 have been heard of, and n0 is known: nothing is put aside, all is known -/
theorem got_end {cs : List Ch} {k n0 : Nat} {h : HK} (i : KI cs k h) (h0 : (n0 : Int) ≤ h.upto) (g : ∀ m c, cs[m]? = some c → c.key = k → n0 < m + 1 → ((m + 1 : Nat) : Int) ≤ h.upto ∨ ((m + 1 : Nat) : Int) ∈ asN h.aside) :
    h.aside = [] ∧ (lof cs k : Int) ≤ h.upto := by
  have ind : ∀ N, ∀ a ∈ h.aside, a.n ≤ N → False := fun N => by
    induction N with
    | zero =>
      intro a ha hn
      have := (i.as a ha).le
      omega
    | succ N ih =>
      intro a ha hn
      have q1 := i.ahead a ha
      obtain ⟨m, e1, e2, e3⟩ := i.as a ha
      rcases lof_is (cs.take m) k with q | ⟨j, c, e4, e5, e6⟩
      · omega
      · obtain ⟨e7, e8⟩ := take_get e4
        rcases g j c e7 e5 (by omega) with z | z
        · omega
        · obtain ⟨b, hb, eb⟩ := List.mem_map.mp z
          exact ih b hb (by omega)
  have e : h.aside = [] := by
    cases ha : h.aside with
    | nil => rfl
    | cons a as => exact (ind a.n a (by rw [ha]; exact List.mem_cons_self) (Nat.le_refl _)).elim
  refine ⟨e, ?_⟩
  rcases lof_is cs k with q | ⟨j, c, e4, e5, e6⟩
  · omega
  · by_cases hj : n0 < j + 1
    · rcases g j c e4 e5 hj with z | z
      · omega
      · rw [e] at z
        cases z
    · omega
theorem full_look {cs : List Ch} {k : Nat} {h : HK} (i : KI cs k h) (hl : (lof cs k : Int) ≤ h.upto) : h.worth = wof cs k ∧ h.since = lof cs k := by
  obtain ⟨u, hu⟩ : ∃ u : Nat, h.upto = u := ⟨h.upto.toNat, by omega⟩
  have hi := i.hi
  obtain ⟨w1, w2⟩ := i.ok u hu
  have := wof_const (cs := cs) (k := k) (i := u) (j := cs.length) (by omega) (by rw [List.take_length]; omega)
  rw [List.take_length] at this
  exact ⟨w1.trans this.1.symm, w2.trans this.2.symm⟩
/-- behind a beat all keys are known up to it -/
theorem beat_whole {nk : Nat} {cs : List Ch} {hs : List HK} (i : AllI nk cs hs) (hne : 0 < nk) (hl : ∀ (k : Nat) (h : HK), hs[k]? = some h → (lof cs k : Int) ≤ h.upto) :
    wholeM (hear hs (beatL nk cs cs.length)) = some ((cs.length : Int), wrow nk cs) ∧ ∀ (k : Nat) (h : HK), (hear hs (beatL nk cs cs.length))[k]? = some h → h.upto = cs.length := by
  have il : IsLet nk cs (beatL nk cs cs.length) := .beat (Nat.le_refl _)
  have i' := i.hear il
  have hup : ∀ (k : Nat) (h : HK), (hear hs (beatL nk cs cs.length))[k]? = some h → h.upto = cs.length := fun k h e => by
    obtain ⟨g, eg, rfl⟩ := hear_inv e
    have hk : k < nk := by
      have := (List.getElem?_eq_some_iff.mp eg).1
      have := i.1
      omega
    have hi := (i.2 k g eg).hi
    have := hl k g eg
    unfold beatL
    simp only [hearK]
    rw [List.getElem?_map, List.getElem?_range hk]
    show (g.beat cs.length (lof (cs.take cs.length) k)).upto = _
    rw [List.take_length]
    unfold HK.beat
    split
    · rfl
    · rename_i q
      by_cases z : g.upto < (cs.length : Int)
      · exact absurd ⟨this, z⟩ q
      · show g.upto = _
        omega
  refine ⟨?_, hup⟩
  have hlen := i'.1
  obtain ⟨g0, e0⟩ : ∃ g, (hear hs (beatL nk cs cs.length))[0]? = some g := ⟨(hear hs (beatL nk cs cs.length))[0]'(by omega), List.getElem?_eq_getElem _⟩
  have em : minU (hear hs (beatL nk cs cs.length)) = cs.length := by
    unfold minU
    rw [List.min?_eq_some_iff.mpr ⟨List.mem_map.mpr ⟨g0, List.mem_of_getElem? e0, hup 0 g0 e0⟩, fun b hb => ?_⟩]
    · rfl
    · obtain ⟨g, hg, rfl⟩ := List.mem_map.mp hb
      obtain ⟨k, ek⟩ := List.getElem?_of_mem hg
      rw [hup k g ek]
      exact Int.le_refl _
  have es : maxS (hear hs (beatL nk cs cs.length)) ≤ cs.length := by
    unfold maxS
    cases q : ((hear hs (beatL nk cs cs.length)).map fun h => (h.since : Int)).max? with
    | none => show (0 : Int) ≤ _; omega
    | some x =>
      obtain ⟨g, hg, e⟩ := List.mem_map.mp (List.max?_eq_some_iff.mp q).1
      obtain ⟨k, ek⟩ := List.getElem?_of_mem hg
      have := ((i'.2 k g ek).ok cs.length (hup k g ek)).2
      have := lof_take_le cs cs.length k
      show x ≤ _
      omega
  unfold wholeM
  rw [em, if_neg (by omega), if_pos (by omega)]
  congr 2
  apply List.ext_getElem?
  intro k
  rw [List.getElem?_map]
  cases ek : (hear hs (beatL nk cs cs.length))[k]? with
  | none =>
    have := List.getElem?_eq_none_iff.mp ek
    rw [List.getElem?_eq_none (by rw [wrow_len]; omega)]
    rfl
  | some g =>
    have hk : k < nk := by
      have := (List.getElem?_eq_some_iff.mp ek).1
      omega
    rw [wrow_get hk]
    show some g.worth = some (wof cs k)
    rw [((i'.2 k g ek).ok cs.length (hup k g ek)).1, List.take_length]
/-! a story that goes on -/
theorem IsLet.on {nk : Nat} {cs ds : List Ch} {l : Letter} (h : IsLet nk cs l) : IsLet nk (cs ++ ds) l := by
  have tk : ∀ {n : Nat}, n ≤ cs.length → (cs ++ ds).take n = cs.take n := fun hn => List.take_append_of_le_length hn
  cases h with
  | @change n c e =>
    have hn := (List.getElem?_eq_some_iff.mp e).1
    rw [← tk (Nat.le_of_lt hn)]
    exact .change (by rw [List.getElem?_append_left hn]; exact e)
  | @part n b e hn hbe hek =>
    have : partL cs n b e = partL (cs ++ ds) n b e := by
      unfold partL partRows
      rw [tk hn]
    rw [this]
    exact .part (by rw [List.length_append]; omega) hbe hek
  | @beat n hn =>
    have : beatL nk cs n = beatL nk (cs ++ ds) n := by
      unfold beatL
      rw [tk hn]
    rw [this]
    exact .beat (by rw [List.length_append]; omega)
theorem partL_on {cs ds : List Ch} {n b e : Nat} (hn : n ≤ cs.length) : partL (cs ++ ds) n b e = partL cs n b e := by
  unfold partL partRows
  rw [List.take_append_of_le_length hn]
theorem few_from {cs : List Ch} {k n0 : Nat} {h : HK} (i : KI cs k h) (lo : Lo n0 h) (hn : n0 ≤ cs.length) : h.aside.length + n0 ≤ cs.length := by
  have h1 := rise_len (a := n0) (b := cs.length) (srt_lt i.nd) fun n hn => by
    obtain ⟨a, ha, e⟩ := List.mem_map.mp ((srt_perm _).mem_iff.mp hn)
    have := lo a ha
    have := (i.as a ha).le
    omega
  rw [(srt_perm _).length_eq, asN, List.length_map, if_pos (by omega)] at h1
  omega
theorem nodup_from {l : List Int} {a b : Nat} (nd : l.Nodup) (h : ∀ n ∈ l, (a : Int) < n ∧ n ≤ b) (hab : a ≤ b) : l.length + a ≤ b := by
  have h1 := rise_len (a := a) (b := b) (srt_lt nd) fun n hn => h n ((srt_perm l).mem_iff.mp hn)
  rw [(srt_perm l).length_eq, if_pos (by omega)] at h1
  omega
end Cu

namespace Cu
open PySem PySem.Spec PyProof.Rows L2
/-! a board: where it lies -/
structure BA where
  p : Addr
  dx : Addr
  l1 : Addr
  l2 : Addr
  l3 : Addr
def bF (B : BA) (keep many : Int) : List (Str × V) := [("now", .ref B.l1), ("keep", .int keep), ("rows", .ref B.l2), ("many", .int many), ("last", .ref B.l3)]
/-- the letters that a board keeps -/
def tailL (keep : Nat) (cs : List Ch) : List Letter := (lets cs).drop (cs.length - keep)
structure BR (K : PySem.W.Frag) (C : Addr) (B : BA) (nk keep : Nat) (cs : List Ch) (H : Hp) (c : Lg) : Prop where
  ex : ∃ xs, c = [(B.p, HO.ins C B.dx (bF B keep cs.length)), (B.l1, HO.lst ((wrow nk cs).map V.int)), (B.l2, HO.lst xs), (B.l3, HO.lst ((lrow nk cs).map V.int))] ∧ RpL K H ((tailL keep cs).map Letter.enc) xs
section
variable {K : PySem.W.Frag} {C : Addr} {B : BA} {nk keep : Nat} {cs : List Ch} {H H' : Hp} {c : Lg}
theorem BR.mono (r : BR K C B nk keep cs H c) (m : Mono H H') : BR K C B nk keep cs H' c :=
  let ⟨xs, e, q⟩ := r.ex
  ⟨xs, e, q.mono m⟩
theorem BR.at_p (r : BR K C B nk keep cs H c) (h : Has H c) : H B.p = some (.ins C B.dx (bF B keep cs.length)) := by
  obtain ⟨xs, rfl, _⟩ := r.ex
  exact h.head
theorem BR.at1 (r : BR K C B nk keep cs H c) (h : Has H c) : H B.l1 = some (.lst ((wrow nk cs).map V.int)) := by
  obtain ⟨xs, rfl, _⟩ := r.ex
  exact h.tail.head
theorem BR.at3 (r : BR K C B nk keep cs H c) (h : Has H c) : H B.l3 = some (.lst ((lrow nk cs).map V.int)) := by
  obtain ⟨xs, rfl, _⟩ := r.ex
  exact h.tail.tail.tail.head
theorem BR.at2 (r : BR K C B nk keep cs H c) (h : Has H c) : ∃ xs, H B.l2 = some (.lst xs) ∧ RpL K H ((tailL keep cs).map Letter.enc) xs := by
  obtain ⟨xs, rfl, q⟩ := r.ex
  exact ⟨xs, h.tail.tail.head, q⟩
end
/-- what a class of boards is -/
structure CBo (K : PySem.W.Frag) (C : Addr) : Prop where
  cl : Cls K C
  n1 : NoAttr K C "now"
  n2 : NoAttr K C "keep"
  n3 : NoAttr K C "rows"
  n4 : NoAttr K C "many"
  n5 : NoAttr K C "last"
theorem bF1 (B : BA) (a b : Int) : (bF B a b).lookup ("now" : Str) = some (.ref B.l1) := by rfl
theorem bF2 (B : BA) (a b : Int) : (bF B a b).lookup ("keep" : Str) = some (.int a) := by rfl
theorem bF3 (B : BA) (a b : Int) : (bF B a b).lookup ("rows" : Str) = some (.ref B.l2) := by rfl
theorem bF4 (B : BA) (a b : Int) : (bF B a b).lookup ("many" : Str) = some (.int b) := by rfl
theorem bF5 (B : BA) (a b : Int) : (bF B a b).lookup ("last" : Str) = some (.ref B.l3) := by rfl
theorem tailL_len (keep : Nat) (cs : List Ch) : (tailL keep cs).length = min cs.length keep := by
  unfold tailL
  rw [List.length_drop, lets_length]
  omega
theorem tailL_snoc (keep : Nat) (cs : List Ch) (ch : Ch) : tailL keep (cs ++ [ch]) = if cs.length + 1 ≤ keep then tailL keep cs ++ [Letter.change (cs.length + 1) ch (lof cs ch.key)] else (tailL keep cs ++ [Letter.change (cs.length + 1) ch (lof cs ch.key)]).drop 1 := by
  unfold tailL
  rw [lets_snoc, List.length_append]
  show List.drop (cs.length + 1 - keep) _ = _
  split
  · rw [show cs.length + 1 - keep = 0 by omega, show cs.length - keep = 0 by omega]
    rfl
  · rw [List.drop_append, List.drop_append, List.drop_drop, List.length_drop, lets_length]
    rw [show cs.length - keep + 1 = cs.length + 1 - keep by omega, show cs.length + 1 - keep - cs.length = 1 - (cs.length - (cs.length - keep)) by omega]
theorem wdS (b : Bool) : decide (V.str (wd b) = V.str "set") = b := by cases b <;> decide +kernel
/-! promises -/
def spBinit (K : PySem.W.Frag) (C : Addr) : Sp := fun vs H Q _ => vs.length = 3 ∧ ∃ (p dx : Addr) (nk keep : Nat), vs = [.ref p, .int nk, .int keep] ∧ 0 < nk ∧ nk ≤ 8 ∧ keep ≤ 20 ∧ H p = some (.ins C dx []) ∧
  ∀ (B : BA) (c : Lg) (H' : Hp), B.p = p → BR K C B nk keep [] H' c → Tr H [(p, .ins C dx [])] H' c → Q .non H'
def spBnumber (K : PySem.W.Frag) (C : Addr) : Sp := fun vs H Q _ => vs.length = 1 ∧ ∃ (B : BA) (nk keep : Nat) (cs : List Ch) (c : Lg), vs = [.ref B.p] ∧ BR K C B nk keep cs H c ∧ Has H c ∧ Q (.int cs.length) H
def spBworths (K : PySem.W.Frag) (C : Addr) : Sp := fun vs H Q _ => vs.length = 1 ∧ ∃ (B : BA) (nk keep : Nat) (cs : List Ch) (c : Lg), vs = [.ref B.p] ∧ BR K C B nk keep cs H c ∧ Has H c ∧ ∀ (r : Addr) (H' : Hp), Tr H [] H' [(r, .lst ((wrow nk cs).map V.int))] → Q (.ref r) H'
def spBlasts (K : PySem.W.Frag) (C : Addr) : Sp := fun vs H Q _ => vs.length = 1 ∧ ∃ (B : BA) (nk keep : Nat) (cs : List Ch) (c : Lg), vs = [.ref B.p] ∧ BR K C B nk keep cs H c ∧ Has H c ∧ ∀ (r : Addr) (H' : Hp), Tr H [] H' [(r, .lst ((lrow nk cs).map V.int))] → Q (.ref r) H'
def spBtail (K : PySem.W.Frag) (C : Addr) : Sp := fun vs H Q _ => vs.length = 1 ∧ ∃ (B : BA) (nk keep : Nat) (cs : List Ch) (c : Lg), vs = [.ref B.p] ∧ BR K C B nk keep cs H c ∧ Has H c ∧
  ∀ (r : Addr) (xs : List V) (H' : Hp), Tr H [] H' [(r, .lst xs)] → RpL K H' ((tailL keep cs).map Letter.enc) xs → Q (.ref r) H'
def spBchange (K : PySem.W.Frag) (C : Addr) : Sp := fun vs H Q _ => vs.length = 4 ∧ ∃ (B : BA) (nk keep : Nat) (cs : List Ch) (c : Lg) (ch : Ch), vs = [.ref B.p, .int ch.key, .str (wd ch.set), .int ch.worth] ∧ BR K C B nk keep cs H c ∧ Has H c ∧ ch.key < nk ∧ nk ≤ 8 ∧ keep ≤ 20 ∧
  ∀ (v : V) (c' : Lg) (H' : Hp), BR K C B nk keep (cs ++ [ch]) H' c' → Tr H c H' c' → Rp K H' (Letter.change (cs.length + 1) ch (lof cs ch.key)).enc v → Q v H'
def spBpart (K : PySem.W.Frag) (C : Addr) : Sp := fun vs H Q _ => vs.length = 3 ∧ ∃ (B : BA) (nk keep : Nat) (cs : List Ch) (c : Lg) (b e : Nat), vs = [.ref B.p, .int b, .int e] ∧ BR K C B nk keep cs H c ∧ Has H c ∧ b < e ∧ e ≤ nk ∧ nk ≤ 8 ∧
  ∀ (v : V) (H' : Hp), Grow H H' → Rp K H' (partL cs cs.length b e).enc v → Q v H'
def spBbeat (K : PySem.W.Frag) (C : Addr) : Sp := fun vs H Q _ => vs.length = 1 ∧ ∃ (B : BA) (nk keep : Nat) (cs : List Ch) (c : Lg), vs = [.ref B.p] ∧ BR K C B nk keep cs H c ∧ Has H c ∧
  ∀ (v : V) (H' : Hp), Grow H H' → Rp K H' (beatL nk cs cs.length).enc v → Q v H'
abbrev s_Board_init : Stmt := (inClass (top 13) 0)
theorem sc_Board_init : FnScope ["self", "keys", "keep", "key"] ["self", "keys", "keep"] (defScope s_Board_init) := ⟨rfl, rfl, rfl, by decide +kernel, rfl, by decide +kernel, by decide +kernel⟩

abbrev s_Board_number : Stmt := (inClass (top 13) 2)
theorem sc_Board_number : FnScope ["self"] ["self"] (defScope s_Board_number) := ⟨rfl, rfl, rfl, by decide +kernel, rfl, by decide +kernel, by decide +kernel⟩

abbrev s_Board_worths : Stmt := (inClass (top 13) 3)
theorem sc_Board_worths : FnScope ["self"] ["self"] (defScope s_Board_worths) := ⟨rfl, rfl, rfl, by decide +kernel, rfl, by decide +kernel, by decide +kernel⟩

abbrev s_Board_lasts : Stmt := (inClass (top 13) 4)
theorem sc_Board_lasts : FnScope ["self"] ["self"] (defScope s_Board_lasts) := ⟨rfl, rfl, rfl, by decide +kernel, rfl, by decide +kernel, by decide +kernel⟩

abbrev s_Board_tail : Stmt := (inClass (top 13) 5)
theorem sc_Board_tail : FnScope ["self"] ["self"] (defScope s_Board_tail) := ⟨rfl, rfl, rfl, by decide +kernel, rfl, by decide +kernel, by decide +kernel⟩

abbrev s_Board_change : Stmt := (inClass (top 13) 6)
theorem sc_Board_change : FnScope ["self", "key", "word", "worth", "letter"] ["self", "key", "word", "worth"] (defScope s_Board_change) := ⟨rfl, rfl, rfl, by decide +kernel, rfl, by decide +kernel, by decide +kernel⟩

abbrev s_Board_part : Stmt := (inClass (top 13) 7)
theorem sc_Board_part : FnScope ["self", "begin", "end", "rows", "key"] ["self", "begin", "end"] (defScope s_Board_part) := ⟨rfl, rfl, rfl, by decide +kernel, rfl, by decide +kernel, by decide +kernel⟩

abbrev s_Board_beat : Stmt := (inClass (top 13) 8)
theorem sc_Board_beat : FnScope ["self"] ["self"] (defScope s_Board_beat) := ⟨rfl, rfl, rfl, by decide +kernel, rfl, by decide +kernel, by decide +kernel⟩

end Cu

namespace Cu
open PySem PySem.Spec PyProof.Rows L2
section
variable {P : Program} {w : World} {K : PySem.W.Frag} {mg : Str → Option Value} {base : Heap} {C : Addr}
theorem ok_Bnumber (F : Md K C "number" "Board.number" s_Board_number) (Bm : Blt mg) (CBoard : CBo K C) : Mf P w K mg base 1 C "number" ["self"] (spBnumber K C) := by
  refine F.ok sc_Board_number (fun _ _ _ _ _ _ us hl => match us, hl with | [_], _ => rfl) len_of fun qual f cdv A0 outer s H vs Q E hr h => ?_
  obtain ⟨_, B, nk, keep, cs, c, rfl, r, hc, go⟩ := h
  refine ⟨_, (pss_one (ps_ret (pe_fld (pv 0) rfl))), ?_⟩
  exact ⟨_, rfl, _, C, _, _, _, rfl, r.at_p hc, CBoard.cl, CBoard.n4, bF4 B _ _, go⟩
end
end Cu

namespace Cu
open PySem PySem.Spec PyProof.Rows L2
section
variable {P : Program} {w : World} {K : PySem.W.Frag} {mg : Str → Option Value} {base : Heap} {C : Addr}
theorem ok_Bworths (F : Md K C "worths" "Board.worths" s_Board_worths) (Bm : Blt mg) (CBoard : CBo K C) : Mf P w K mg base 1 C "worths" ["self"] (spBworths K C) := by
  refine F.ok sc_Board_worths (fun _ _ _ _ _ _ us hl => match us, hl with | [_], _ => rfl) len_of fun qual f cdv A0 outer s H vs Q E hr h => ?_
  obtain ⟨_, B, nk, keep, cs, c, rfl, r, hc, go⟩ := h
  refine ⟨_, (pss_one (ps_ret (pe_callTy call_list_of rfl Bm.list (by decide +kernel) (pa_cons (pe_fld (pv 0) rfl) pa_nil)))), ?_⟩
  exact ⟨_, rfl, _, C, _, _, _, rfl, r.at_p hc, CBoard.cl, CBoard.n1, bF1 B _ _, _, _, rfl, .inl (SqL.of (r.at1 hc)), fun l hl => go l _ ((Tr.refl H []).new hl nl)⟩
end
end Cu

namespace Cu
open PySem PySem.Spec PyProof.Rows L2
theorem bFno {B : BA} {a b : Int} {m : Str} (h : ((bF B a b).lookup m) = none := by rfl) : (bF B a b).lookup m = none := h
section
variable {K : PySem.W.Frag} {H : Hp} {C : Addr} {σ : L2.St} {Q : VK} {i : Nat} {B : BA} {nk keep : Nat} {cs : List Ch} {c : Lg}
theorem rd_bnumber (h1 : σ[i]? = some (some (.ref B.p))) (r : BR K C B nk keep cs H c) (hc : Has H c) (q : Q (.int cs.length) H) :
    tMeth C "number" (spBnumber K C) [] E0 (tVar i) tNil σ H Q := ⟨_, h1, B.p, _, _, rfl, r.at_p hc, bFno, rfl, B, nk, keep, cs, c, rfl, r, hc, q⟩
theorem rd_bworths (h1 : σ[i]? = some (some (.ref B.p))) (r : BR K C B nk keep cs H c) (hc : Has H c) (q : ∀ p H', Grow H H' → FzL K H' p ((wrow nk cs).map V.int) → Q (.ref p) H') :
    tFz (tMeth C "worths" (spBworths K C) [] E0 (tVar i) tNil) σ H Q :=
  rd_fz ⟨_, h1, B.p, _, _, rfl, r.at_p hc, bFno, rfl, B, nk, keep, cs, c, rfl, r, hc, fun _ _ t => ⟨_, _, rfl, t.own.head, fun _ => q _ _ (t.fz .nil) FzL.frz⟩⟩
theorem rd_blasts (h1 : σ[i]? = some (some (.ref B.p))) (r : BR K C B nk keep cs H c) (hc : Has H c) (q : ∀ p H', Grow H H' → FzL K H' p ((lrow nk cs).map V.int) → Q (.ref p) H') :
    tFz (tMeth C "lasts" (spBlasts K C) [] E0 (tVar i) tNil) σ H Q :=
  rd_fz ⟨_, h1, B.p, _, _, rfl, r.at_p hc, bFno, rfl, B, nk, keep, cs, c, rfl, r, hc, fun _ _ t => ⟨_, _, rfl, t.own.head, fun _ => q _ _ (t.fz .nil) FzL.frz⟩⟩
theorem rd_bbeat (h1 : σ[i]? = some (some (.ref B.p))) (r : BR K C B nk keep cs H c) (hc : Has H c) (q : ∀ v H', Grow H H' → Rp K H' (beatL nk cs cs.length).enc v → Q v H') :
    tMeth C "beat" (spBbeat K C) [] E0 (tVar i) tNil σ H Q := ⟨_, h1, B.p, _, _, rfl, r.at_p hc, bFno, rfl, B, nk, keep, cs, c, rfl, r, hc, q⟩
theorem rd_btail (h1 : σ[i]? = some (some (.ref B.p))) (r : BR K C B nk keep cs H c) (hc : Has H c) (q : ∀ p xs H', Grow H H' → FzL K H' p xs → RpL K H' ((tailL keep cs).map Letter.enc) xs → Q (.ref p) H') :
    tFz (tMeth C "tail" (spBtail K C) [] E0 (tVar i) tNil) σ H Q :=
  rd_fz ⟨_, h1, B.p, _, _, rfl, r.at_p hc, bFno, rfl, B, nk, keep, cs, c, rfl, r, hc, fun _ xs _ t rx => ⟨_, _, rfl, t.own.head, fun _ => q _ xs _ (t.fz .nil) FzL.frz (rx.mono t.own.mono_put)⟩⟩
end
end Cu

namespace Cu
open PySem PySem.Spec PyProof.Rows L2
abbrev s_Board_size : Stmt := (inClass (top 13) 1)
theorem sc_Board_size : FnScope ["self"] ["self"] (defScope s_Board_size) := ⟨rfl, rfl, rfl, by decide +kernel, rfl, by decide +kernel, by decide +kernel⟩

def spBsize (K : PySem.W.Frag) (C : Addr) : Sp := fun vs H Q _ => vs.length = 1 ∧ ∃ (B : BA) (nk keep : Nat) (cs : List Ch) (c : Lg), vs = [.ref B.p] ∧ BR K C B nk keep cs H c ∧ Has H c ∧ Q (.int nk) H
theorem rd_bsize {K : PySem.W.Frag} {H : Hp} {C : Addr} {σ : L2.St} {Q : VK} {i : Nat} {B : BA} {nk keep : Nat} {cs : List Ch} {c : Lg} (h1 : σ[i]? = some (some (.ref B.p))) (r : BR K C B nk keep cs H c) (hc : Has H c) (q : Q (.int nk) H) :
    tMeth C "size" (spBsize K C) [] E0 (tVar i) tNil σ H Q := ⟨_, h1, B.p, _, _, rfl, r.at_p hc, bFno, rfl, B, nk, keep, cs, c, rfl, r, hc, q⟩
section
variable {P : Program} {w : World} {K : PySem.W.Frag} {mg : Str → Option Value} {base : Heap} {C : Addr}
theorem ok_Bsize (F : Md K C "size" "Board.size" s_Board_size) (Bm : Blt mg) (CBoard : CBo K C) : Mf P w K mg base 1 C "size" ["self"] (spBsize K C) := by
  refine F.ok sc_Board_size (fun _ _ _ _ _ _ us hl => match us, hl with | [_], _ => rfl) len_of fun qual f cdv A0 outer s H vs Q E hr h => ?_
  obtain ⟨_, B, nk, keep, cs, c, rfl, r, hc, go⟩ := h
  refine ⟨_, (pss_one (ps_ret (pe_callB call_len_seq rfl Bm.len (by decide +kernel) (pa_cons (pe_fld (pv 0) rfl) pa_nil)))), ?_⟩
  have e : (((wrow nk cs).map V.int).length : Int) = (nk : Int) := by rw [List.length_map, wrow_len]
  refine ⟨_, rfl, _, C, _, _, _, rfl, r.at_p hc, CBoard.cl, CBoard.n1, bF1 B _ _, _, _, rfl, .inl (SqL.of (r.at1 hc)), ?_⟩
  rw [e]
  exact go
end
end Cu

namespace Cu
open PySem PySem.Spec PyProof.Rows L2
/-! min(t, u) of two tuples of ints -/
theorem tup_keeps {h h' : Heap} {p : Addr} {its : Array Value} (t : IsTup h p its) (k : ∀ b o, h.get? b = some o → h'.get? b = some o) : IsTup h' p its := by
  obtain ⟨o, ho, q⟩ := t
  exact ⟨o, k _ _ ho, q⟩
theorem min_pair {prog : Program} {w : World} {A : Around} {E : Value → Shared → Prop} {s : Shared} {p q : Addr} {i1 i2 : Array Value} {ns ms : List Int} {Q : Value → Shared → Prop} (hh : A.handled = none) (hp : IsTup s.heap p i1) (hq : IsTup s.heap q i2) (n1 : IntsAre i1.toList ns) (n2 : IntsAre i2.toList ms) (hu : A.units + 1 < cLine)
    (h : ∀ h' tk, (∀ c o, s.heap.get? c = some o → h'.get? c = some o) → Q (if HT.lexLt ms ns = true then .ref q else .ref p) { s with heap := h', toks := tk }) : wpAny (model prog w) A (call (.builtin "min") [.ref p, .ref q]) Q E s := by
  have nm : (toString "min" ++ toString ".loop" : String) = "min.loop" := by decide
  refine call_function_tree F.kind_min F.plain_min F.entry_min (F.args_min2 _ _) ?_; show wpAny _ A.in1 (Builtin.Builtins.bindParams "min" ["key", "default"] 0 ⟨[], []⟩ >>= _) _ _ s
  refine wpAny_bind (wpAny_of_eq (show Builtin.Builtins.bindParams "min" ["key", "default"] 0 ⟨[], []⟩ = pure [none, none] from rfl) ?_); show wpAny _ A.in1 (newTuple [.ref p, .ref q] >>= _) _ _ s
  refine wpAny_bind (wpAny_newObj_type (wpAny_bind (PySem.W.iter_tupleW (A := A.in1) (vs := #[.ref p, .ref q]) hh ⟨_, Heap.get?_push_size _ rfl, rfl, 0, rfl⟩ fun s2 e W st hfp hw hk => wpAny_bind (wpAny_newObj_type ?_))))
  have fr : s2.heap.objs.size ∉ [(s.heap.push { cls := .type "tuple", data := .seq #[.ref p, .ref q] }).objs.size, s.heap.objs.size] := fun hm => Nat.lt_irrefl _ (hfp _ hm)
  have k1 : ∀ b o, s.heap.get? b = some o → (s.heap.push { cls := .type "tuple", data := .seq #[.ref p, .ref q] }).get? b = some o := fun b o e => Heap.get?_push_of_some _ e
  have cmp : CmpIn prog w A.in1 .Lt (s.heap.push { cls := .type "tuple", data := .seq #[.ref p, .ref q] }) (fun i v => #[Value.ref p, .ref q][i]? = some v) (fun i j => HT.lexLt (if i = 0 then ns else ms) (if j = 0 then ns else ms)) := fun i j vi vj s' Q' E' hk' hi hj hq' => by
    have two : ∀ {i : Nat} {v : Value}, #[Value.ref p, .ref q][i]? = some v → ∃ r its, v = .ref r ∧ IsTup s'.heap r its ∧ IntsAre its.toList (if i = 0 then ns else ms) := fun {i v} hv => by
      match i, hv with
      | 0, hv => exact ⟨p, i1, by simpa using hv.symm, tup_keeps (tup_keeps hp k1) hk', n1⟩
      | 1, hv => exact ⟨q, i2, by simpa using hv.symm, tup_keeps (tup_keeps hq k1) hk', n2⟩
      | k + 2, hv => simp at hv
    obtain ⟨r, its, rfl, t1, t2⟩ := two hi
    obtain ⟨r', its', rfl, t3, t4⟩ := two hj
    exact HT.lt_tupInts t1 t3 t2 t4 (by show A.units + 1 < cLine; exact hu) hq'
  rw [nm]; refine wpAny_pure ⟨plainId_quiet F.plain_min_loop _, codeAny_min_loop_firstH W (s.heap.push { cls := .type "tuple", data := .seq #[.ref p, .ref q] }) hw _ cmp s2.heap.objs.size fr (fresh_in hk) _ (by show 0 < 2; decide) (fun b o e => Heap.get?_push_of_some _ (hk b o e)) (W.frame 0 s2 _ s2.toks st (Nat.le_refl _) fun b _ o e => Heap.get?_push_of_some _ e) (Heap.get?_push_size _ rfl) fun v s' hP hm => ?_⟩
  obtain ⟨h', tk, rfl, hk'⟩ := PySem.W.moved_old e rfl (Moved.drop_new (tk := s2.toks) hm (Nat.le_refl _))
  have hv : v = if HT.lexLt ms ns = true then Value.ref q else Value.ref p := by
    cases hc : HT.lexLt ms ns <;> simp [argBest, hc] at hP <;> simp [hP]
  rw [hv]
  exact h h' tk fun c o e => hk' c o (k1 c o e)
def rMin2T (K : PySem.W.Frag) : List V → Hp → VK → Prop := fun vs H Q => ∃ (p q : Addr) (i j i' j' : Int), vs = [.ref p, .ref q] ∧ SqT K H p [.int i, .int j] ∧ SqT K H q [.int i', .int j'] ∧ Q (if i' < i ∨ (i' = i ∧ j' < j) then .ref q else .ref p) H
theorem lex2 (i j i' j' : Int) : HT.lexLt [i', j'] [i, j] = decide (i' < i ∨ (i' = i ∧ j' < j)) := by
  rw [HT.lexLt_cons, HT.lexLt_cons, HT.lexLt_nil_nil]
  by_cases h1 : i' = i
  · by_cases h2 : j' = j
    · subst h1 h2
      simp
    · rw [if_pos h1, if_neg h2]
      subst h1
      simp
  · rw [if_neg h1]
    simp [h1]
theorem call_min2T {X : Cx} (hc : X.calm = true) (hu : X.A.units + 64 < cLine) : CallR X (.builtin "min") (rMin2T X.K) := by
  intro pins s σ H vs us Q I r h
  obtain ⟨p, q, i, j, i', j', rfl, hp, hq, go⟩ := h
  obtain ⟨u, w', rfl, r1, r2⟩ := vals2 r
  cases r1
  cases r2
  obtain ⟨t1, v1, p1, _⟩ := I.tuple hp
  obtain ⟨t2, v2, p2, _⟩ := I.tuple hq
  refine min_pair (I.ok.hd hc) p1 p2 (intsAre_of (ns := [i, j]) v1) (intsAre_of (ns := [i', j']) v2) (by omega) fun h' tk k => ⟨_, H, I.kept k, ?_, go⟩
  rw [lex2]
  by_cases z : i' < i ∨ (i' = i ∧ j' < j)
  · rw [if_pos z, if_pos (decide_eq_true z)]
    rfl
  · rw [if_neg z, if_neg (by rw [decide_eq_false z]; decide)]
    rfl
end Cu

namespace Cu
open PySem PySem.Spec PyProof.Rows L2
/-! what brings a key up; the least weights -/
def Letter.keyOf : Letter → Nat
  | .change _ c _ => c.key
  | _ => 0
def Letter.numOf : Letter → Nat
  | .change n _ _ => n
  | .part n _ _ => n
  | .beat n _ => n
def Letter.isSet : Letter → Bool
  | .change _ c _ => c.set
  | _ => false
def Letter.ahd : Letter → Nat
  | .change _ _ a => a
  | _ => 0
def Letter.wt : Letter → Nat
  | .part _ _ rows => 2 + rows.length
  | _ => 1
def wtL (ls : List Letter) : Nat := (ls.map Letter.wt).sum
theorem wtL_app (a b : List Letter) : wtL (a ++ b) = wtL a + wtL b := by simp [wtL]
def someL (keep : Nat) (cs : List Ch) (u : Int) (k : Nat) : List Letter := (tailL keep cs).filter fun l => decide (l.keyOf = k) && decide (u < (l.numOf : Int))
def setsL (ls : List Letter) : List Nat := (List.range ls.length).filter fun i => (ls[i]?.map Letter.isSet) == some true
def firstOk (sm : List Letter) (u : Int) : Bool := match sm with
  | [] => false
  | l :: _ => decide ((l.ahd : Int) ≤ u)
def wantS (sm : List Letter) (u : Int) : Option (List Letter) := match (setsL sm).getLast? with
  | some i => some (sm.drop i)
  | none => if firstOk sm u = true then some sm else none
theorem wantS_set {sm : List Letter} {u : Int} {ini : List Nat} {i : Nat} (e : setsL sm = ini ++ [i]) : wantS sm u = some (sm.drop i) := by
  unfold wantS
  rw [e]
  simp
theorem wantS_no {sm : List Letter} {u : Int} (e : setsL sm = []) : wantS sm u = if firstOk sm u = true then some sm else none := by
  unfold wantS
  rw [e]
  rfl
def wantL (keep : Nat) (cs : List Ch) (u : Int) (k : Nat) : Option (List Letter) := if (lof cs k : Int) ≤ u then some [] else wantS (someL keep cs u k) u
def costL (keep : Nat) (cs : List Ch) (ns : List Int) (k : Nat) : Option Nat := (wantL keep cs (ns.getD k 0) k).map List.length
def mn (p q : Int × Int) : Int × Int := if q.1 < p.1 ∨ (q.1 = p.1 ∧ q.2 < p.2) then q else p
def up1 (b : Option (Int × Int)) (q : Int × Int) : Int × Int := match b with
  | none => q
  | some p => mn p q
def moreK (F : List Int) (key b : Nat) : Int × Int := (F.getD b 0 + 2 + key + 1 - b, b)
def bestU (F : List Int) (key : Nat) (c : Option Nat) : Nat → Option (Int × Int)
  | 0 => c.map fun n => (F.getD key 0 + n, (0 : Int) - key - 1)
  | b + 1 => some (up1 (bestU F key c b) (moreK F key b))
def bestK (F : List Int) (key : Nat) (c : Option Nat) : Int × Int := up1 (bestU F key c key) (moreK F key key)
theorem bestU_all (F : List Int) (key : Nat) (c : Option Nat) : bestU F key c (key + 1) = some (bestK F key c) := rfl
def lev (cost : Nat → Option Nat) : Nat → List Int × List Int
  | 0 => ([0], [0])
  | k + 1 => ((lev cost k).1 ++ [(bestK (lev cost k).1 k (cost k)).1], (lev cost k).2 ++ [(bestK (lev cost k).1 k (cost k)).2])
theorem lev_len (cost : Nat → Option Nat) (n : Nat) : (lev cost n).1.length = n + 1 ∧ (lev cost n).2.length = n + 1 := by
  induction n with
  | zero => exact ⟨rfl, rfl⟩
  | succ n ih =>
    refine ⟨?_, ?_⟩
    · show ((lev cost n).1 ++ [_]).length = _
      rw [List.length_append, ih.1]
      rfl
    · show ((lev cost n).2 ++ [_]).length = _
      rw [List.length_append, ih.2]
      rfl
/-- the least weight for the keys ahead of e -/
def lwt (cost : Nat → Option Nat) (e : Nat) : Int := (lev cost e).1.getD e 0
def lbg (cost : Nat → Option Nat) (e : Nat) : Int := (lev cost e).2.getD e 0
theorem getD_last {xs : List Int} {x : Int} {n : Nat} (h : xs.length = n) : (xs ++ [x]).getD n 0 = x := by
  subst h
  simp
theorem getD_left {xs ys : List Int} {n : Nat} (h : n < xs.length) : (xs ++ ys).getD n 0 = xs.getD n 0 := by
  simp [List.getD_eq_getElem?_getD, List.getElem?_append_left h]
theorem lev_get (cost : Nat → Option Nat) {e n : Nat} (h : e ≤ n) : (lev cost n).1.getD e 0 = lwt cost e ∧ (lev cost n).2.getD e 0 = lbg cost e := by
  induction n with
  | zero =>
    have : e = 0 := by omega
    subst this
    exact ⟨rfl, rfl⟩
  | succ n ih =>
    by_cases q : e = n + 1
    · subst q
      exact ⟨rfl, rfl⟩
    · have hl := lev_len cost n
      obtain ⟨i1, i2⟩ := ih (by omega)
      refine ⟨?_, ?_⟩
      · show ((lev cost n).1 ++ [_]).getD e 0 = _
        rw [getD_left (by omega), i1]
      · show ((lev cost n).2 ++ [_]).getD e 0 = _
        rw [getD_left (by omega), i2]
theorem lwt_succ (cost : Nat → Option Nat) (k : Nat) : lwt cost (k + 1) = (bestK (lev cost k).1 k (cost k)).1 ∧ lbg cost (k + 1) = (bestK (lev cost k).1 k (cost k)).2 :=
  ⟨getD_last (lev_len cost k).1, getD_last (lev_len cost k).2⟩
theorem mn_le (p q : Int × Int) : (mn p q).1 ≤ p.1 ∧ (mn p q).1 ≤ q.1 ∧ (mn p q = p ∨ mn p q = q) := by
  unfold mn
  split
  · rename_i h
    exact ⟨by omega, Int.le_refl _, .inr rfl⟩
  · rename_i h
    exact ⟨Int.le_refl _, by omega, .inl rfl⟩
/-- what may be the best -/
def Cand (cost : Nat → Option Nat) (k b : Nat) (p : Int × Int) : Prop := (∃ n, cost k = some n ∧ p = (lwt cost k + n, (0 : Int) - k - 1)) ∨ ∃ j, j < b ∧ p = (lwt cost j + 2 + k + 1 - j, (j : Int))
theorem bestU_ok (cost : Nat → Option Nat) (k : Nat) : ∀ b, b ≤ k + 1 → match bestU (lev cost k).1 k (cost k) b with
    | none => b = 0 ∧ cost k = none
    | some p => Cand cost k b p ∧ (∀ n, cost k = some n → p.1 ≤ lwt cost k + n) ∧ ∀ j, j < b → p.1 ≤ lwt cost j + 2 + k + 1 - j := fun b => by
  induction b with
  | zero =>
    intro _
    cases hc : cost k with
    | none => exact ⟨rfl, rfl⟩
    | some n =>
      show Cand cost k 0 ((lev cost k).1.getD k 0 + n, (0 : Int) - k - 1) ∧ _
      rw [(lev_get cost (Nat.le_refl k)).1]
      refine ⟨.inl ⟨n, hc, rfl⟩, fun m hm => ?_, fun j h => absurd h (Nat.not_lt_zero j)⟩
      cases hm
      exact Int.le_refl _
  | succ b ih =>
    intro hb
    have ih := ih (by omega)
    have em : moreK (lev cost k).1 k b = (lwt cost b + 2 + k + 1 - b, (b : Int)) := by
      unfold moreK
      rw [(lev_get cost (show b ≤ k by omega)).1]
    have lift : ∀ {p}, Cand cost k b p → Cand cost k (b + 1) p := fun h => by
      rcases h with h | ⟨j, h1, h2⟩
      · exact .inl h
      · exact .inr ⟨j, by omega, h2⟩
    cases hu : bestU (lev cost k).1 k (cost k) b with
    | none =>
      rw [hu] at ih
      have e : bestU (lev cost k).1 k (cost k) (b + 1) = some (moreK (lev cost k).1 k b) := by
        show some (up1 (bestU (lev cost k).1 k (cost k) b) _) = _
        rw [hu]
        rfl
      rw [e, em]
      refine ⟨.inr ⟨b, Nat.lt_succ_self b, rfl⟩, fun n hn => ?_, fun j hj => ?_⟩
      · rw [ih.2] at hn
        cases hn
      · have : j = b := by omega
        subst this
        exact Int.le_refl _
    | some p =>
      rw [hu] at ih
      have e : bestU (lev cost k).1 k (cost k) (b + 1) = some (mn p (moreK (lev cost k).1 k b)) := by
        show some (up1 (bestU (lev cost k).1 k (cost k) b) _) = _
        rw [hu]
        rfl
      rw [e]
      obtain ⟨m1, m2, m3⟩ := mn_le p (moreK (lev cost k).1 k b)
      rw [em] at m1 m2 m3 ⊢
      obtain ⟨c1, c2, c3⟩ := ih
      refine ⟨?_, fun n hn => Int.le_trans m1 (c2 n hn), fun j hj => ?_⟩
      · rcases m3 with m3 | m3
        · rw [m3]
          exact lift c1
        · rw [m3]
          exact .inr ⟨b, Nat.lt_succ_self b, rfl⟩
      · by_cases q : j = b
        · subst q
          exact m2
        · exact Int.le_trans m1 (c3 j (by omega))
theorem lev_ok (cost : Nat → Option Nat) (k : Nat) : Cand cost k (k + 1) (lwt cost (k + 1), lbg cost (k + 1)) ∧ (∀ n, cost k = some n → lwt cost (k + 1) ≤ lwt cost k + n) ∧ ∀ j, j ≤ k → lwt cost (k + 1) ≤ lwt cost j + 2 + k + 1 - j := by
  have h := bestU_ok cost k (k + 1) (Nat.le_refl _)
  rw [bestU_all] at h
  obtain ⟨h1, h2, h3⟩ := h
  rw [(lwt_succ cost k).1, (lwt_succ cost k).2]
  exact ⟨h1, h2, fun j hj => h3 j (by omega)⟩
theorem lwt_zero (cost : Nat → Option Nat) : lwt cost 0 = 0 := rfl
theorem lwt_nonneg (cost : Nat → Option Nat) : ∀ e, 0 ≤ lwt cost e := fun e => by
  have : ∀ n e, e ≤ n → 0 ≤ lwt cost e := fun n => by
    induction n with
    | zero =>
      intro e he
      have : e = 0 := by omega
      subst this
      exact Int.le_refl _
    | succ n ih =>
      intro e he
      cases e with
      | zero => exact Int.le_refl _
      | succ k =>
        rcases (lev_ok cost k).1 with ⟨m, _, h⟩ | ⟨j, hj, h⟩
        · have h1 : lwt cost (k + 1) = lwt cost k + m := congrArg Prod.fst h
          have := ih k (by omega)
          omega
        · have h1 : lwt cost (k + 1) = lwt cost j + 2 + k + 1 - j := congrArg Prod.fst h
          have := ih j (by omega)
          omega
  exact this e e (Nat.le_refl _)
/-- letters that bring up the keys ahead of e -/
inductive Brings (keep : Nat) (cs : List Ch) (ns : List Int) : Nat → List Letter → Prop
  | nil : Brings keep cs ns 0 []
  | want {e : Nat} {ls w : List Letter} : Brings keep cs ns e ls → wantL keep cs (ns.getD e 0) e = some w → Brings keep cs ns (e + 1) (ls ++ w)
  | part {b e : Nat} {ls : List Letter} : Brings keep cs ns b ls → b < e → Brings keep cs ns e (ls ++ [partL cs cs.length b e])
theorem filter_sub_mem {α : Type} {p : α → Bool} {xs : List α} {x : α} (h : x ∈ xs.filter p) : x ∈ xs := (List.mem_filter.mp h).1
theorem lets_mem {cs : List Ch} {l : Letter} (h : l ∈ lets cs) : ∃ m c, cs[m]? = some c ∧ l = .change (m + 1) c (lof (cs.take m) c.key) := by
  obtain ⟨m, hm⟩ := List.getElem?_of_mem h
  have hl := (List.getElem?_eq_some_iff.mp hm).1
  rw [lets_length] at hl
  refine ⟨m, cs[m], List.getElem?_eq_getElem hl, ?_⟩
  rw [lets_get (List.getElem?_eq_getElem hl)] at hm
  exact (Option.some.inj hm).symm
theorem tailL_mem {keep : Nat} {cs : List Ch} {l : Letter} (h : l ∈ tailL keep cs) : ∃ m c, cs[m]? = some c ∧ l = .change (m + 1) c (lof (cs.take m) c.key) := lets_mem (List.mem_of_mem_drop h)
theorem wantS_mem {sm : List Letter} {u : Int} {w : List Letter} (h : wantS sm u = some w) : ∀ l ∈ w, l ∈ sm := by
  rcases List.eq_nil_or_concat (setsL sm) with es | ⟨ini, i, es⟩
  · rw [wantS_no es] at h
    split at h
    · cases h
      exact fun _ q => q
    · cases h
  · rw [List.concat_eq_append] at es
    rw [wantS_set es] at h
    cases h
    exact fun l hl => List.mem_of_mem_drop hl
theorem wantL_mem {keep : Nat} {cs : List Ch} {u : Int} {k : Nat} {w : List Letter} (h : wantL keep cs u k = some w) : ∀ l ∈ w, l ∈ someL keep cs u k := by
  unfold wantL at h
  split at h
  · cases h
    exact fun _ q => (nomatch q)
  · exact wantS_mem h
theorem wantS_len {sm : List Letter} {u : Int} {w : List Letter} (h : wantS sm u = some w) : w.length ≤ sm.length := by
  rcases List.eq_nil_or_concat (setsL sm) with es | ⟨ini, i, es⟩
  · rw [wantS_no es] at h
    split at h
    · cases h
      exact Nat.le_refl _
    · cases h
  · rw [List.concat_eq_append] at es
    rw [wantS_set es] at h
    cases h
    rw [List.length_drop]
    omega
theorem wtL_chg : ∀ {w : List Letter}, (∀ l ∈ w, l.wt = 1) → wtL w = w.length
  | [], _ => rfl
  | l :: w, h => by
    have ih := wtL_chg (w := w) fun x hx => h x (List.mem_cons_of_mem _ hx)
    have h1 := h l List.mem_cons_self
    show (l.wt :: w.map Letter.wt).sum = _
    rw [List.sum_cons, h1, show (w.map Letter.wt).sum = w.length from ih, List.length_cons]
    omega
theorem wantL_wt {keep : Nat} {cs : List Ch} {u : Int} {k : Nat} {w : List Letter} (h : wantL keep cs u k = some w) : wtL w = w.length := wtL_chg fun l hl => by
  obtain ⟨m, c, _, rfl⟩ := tailL_mem (filter_sub_mem (wantL_mem h l hl))
  rfl
theorem partL_wt (cs : List Ch) (n b e : Nat) : (partL cs n b e).wt = 2 + (e - b) := by
  show 2 + (partRows cs n b (e - b)).length = _
  rw [partRows, List.length_map, List.length_range]
theorem Brings.least {keep : Nat} {cs : List Ch} {ns : List Int} {e : Nat} {ls : List Letter} (h : Brings keep cs ns e ls) : lwt (costL keep cs ns) e ≤ wtL ls := by
  induction h with
  | nil => exact Int.le_refl _
  | @want e ls w _ hw ih =>
    rw [wtL_app, wantL_wt hw]
    have := (lev_ok (costL keep cs ns) e).2.1 w.length (by rw [costL, hw]; rfl)
    omega
  | @part b e ls _ hbe ih =>
    rw [wtL_app]
    have h1 : wtL [partL cs cs.length b e] = 2 + (e - b) := by
      show (partL cs cs.length b e).wt + 0 = _
      rw [partL_wt]
      rfl
    rw [h1]
    obtain ⟨k, rfl⟩ : ∃ k, e = k + 1 := ⟨e - 1, by omega⟩
    have := (lev_ok (costL keep cs ns) k).2.2 b (by omega)
    omega
/-- numbers that may be known of a board -/
structure Kn (nk : Nat) (cs : List Ch) (ns : List Int) : Prop where
  len : ns.length = nk
  bd : ∀ n ∈ ns, -1 ≤ n ∧ n ≤ cs.length
end Cu

namespace Cu
open PySem PySem.Spec PyProof.Rows L2
abbrev s_wanted : Stmt := (top 17)
theorem sc_wanted : FnScope ["board", "known", "key", "some", "sets", "letter", "at"] ["board", "known", "key"] (defScope s_wanted) := ⟨rfl, rfl, rfl, by decide +kernel, rfl, by decide +kernel, by decide +kernel⟩

/-- a list that stays as long as nothing that is owned is written -/
def StL (K : PySem.W.Frag) (H : Hp) (a : Addr) (xs : List V) : Prop := ∀ (H' : Hp) (O : Lg), Tr H [] H' O → SqL K H' a xs
section
variable {K : PySem.W.Frag} {H H' : Hp} {a : Addr} {xs : List V} {O c : Lg}
theorem StL.tr (s : StL K H a xs) (t : Tr H [] H' O) : StL K H' a xs := fun H2 O2 t2 => s H2 (O2 ++ O) (t.trans (by simpa using t2.right (D := O)))
theorem StL.sq (s : StL K H a xs) : SqL K H a xs := s H [] (Tr.refl H [])
theorem StL.fz (f : FzL K H a xs) : StL K H a xs := fun _ _ t => (f.mono t.mono).sq
theorem StL.has (h : Has H c) (m : (a, HO.lst xs) ∈ c) : StL K H a xs := fun _ _ t => SqL.of ((t.has c h).right.mem m)
end
theorem getD_at {ns : List Int} {k : Nat} (h : k < ns.length) : atI (ns.map V.int) (k : Int) = some (V.int (ns.getD k 0)) :=
  at_of (j := k) rfl (by rw [List.getElem?_map, List.getElem?_eq_getElem h, List.getD_eq_getElem?_getD, List.getElem?_eq_getElem h]; rfl)
def spWanted (K : PySem.W.Frag) (CB : Addr) : Sp := fun vs H Q _ => vs.length = 3 ∧ ∃ (B : BA) (nk keep : Nat) (cs : List Ch) (c : Lg) (kn : Addr) (ns : List Int) (k : Nat), vs = [.ref B.p, .ref kn, .int k] ∧ BR K CB B nk keep cs H c ∧ Has H c ∧ StL K H kn (ns.map V.int) ∧ ns.length = nk ∧ k < nk ∧ keep ≤ 20 ∧
  (wantL keep cs (ns.getD k 0) k = none → ∀ H', Grow H H' → Q .non H') ∧
  (∀ w, wantL keep cs (ns.getD k 0) k = some w → ∀ (r : Addr) (xs : List V) (H' : Hp), Tr H [] H' [(r, .lst xs)] → RpL K H' (w.map Letter.enc) xs → Q (.ref r) H')
theorem someL_len (keep : Nat) (cs : List Ch) (u : Int) (k : Nat) : (someL keep cs u k).length ≤ keep := by
  have h1 : (someL keep cs u k).length ≤ (tailL keep cs).length := List.length_filter_le _ _
  rw [tailL_len] at h1
  omega
section
variable {P : Program} {w : World} {K : PySem.W.Frag} {mg : Str → Option Value} {base : Heap} {CB : Addr}
theorem ok_wanted (F : Fd K mg "wanted" s_wanted) (Bm : Blt mg) (CBoard : CBo K CB) (m_Board_lasts : Mf P w K mg base 1 CB "lasts" ["self"] (spBlasts K CB)) (m_Board_tail : Mf P w K mg base 1 CB "tail" ["self"] (spBtail K CB)) :
    Gf P w K mg base 2 "wanted" ["board", "known", "key"] (spWanted K CB) := by
  refine F.ok sc_wanted (fun _ _ _ _ _ _ us hl => match us, hl with | [_, _, _], _ => rfl) len_of fun qual f cdv A0 outer s H vs Q E hr h => ?_
  obtain ⟨_, B, nk, keep, cs, c, kn, ns, k, rfl, r, hc, st, hlen, hk, hkp, gN, gS⟩ := h
  refine ⟨_, (pss_cons (ps_if (pt_cmpR op_le (pe_ix ix_list (pe_fz (pm0 (pv 0) CBoard.cl m_Board_lasts hr)) (pv 2) (fun _ _ => rfl)) (pe_ix ix_list (pv 1) (pv 2) (fun _ _ => rfl)) (nomark _))
        (pss_one (ps_ret (pe_lst pa_nil)))
        pss_nil)
      (pss_cons (ps_set (i := 3) sc_wanted.nd rfl (Or.inr rfl) (pe_lc (own := [("letter", 5)]) (g := (gName 5)) rfl sc_wanted.nd (pi_list (pe_fz (pm0 (pv 0) CBoard.cl m_Board_tail hr))) (blkOk_by (N := ["board", "known", "key", "some", "sets", "letter", "at"]) (sc := defScope s_wanted) (by decide +kernel)) (fun _ _ _ _ _ => (pg_name (i := 5) sc_wanted.nd rfl (Or.inl rfl))) (fun _ _ _ _ _ => (pts_one (PW.pt (pw_and (pt_cmpR op_eq (pe_ix (ix_tupK K rfl) (pv 5) pe_int (fun _ _ => rfl)) (pv 2) (nomark _)) (pw_and1 (pt_cmpR op_gt (pe_ix (ix_tupK K rfl) (pv 5) pe_int (fun _ _ => rfl)) (pe_ix (ix_listK K rfl) (pv 1) (pv 2) (fun _ _ => rfl)) (nomark _))))))) (fun _ _ _ _ _ => (pv 5))))
      (pss_cons (ps_setLc (i := 4) (own := [("at", 6)]) (g := (gName 6)) rfl sc_wanted.nd rfl rfl (sw_true rfl rfl rfl (by decide +kernel)) (pi_range1 rfl Bm.range (pa_cons (pe_callB call_len_seq rfl Bm.len (by decide +kernel) (pa_cons (pv 3) pa_nil)) pa_nil)) (blkOk_by (N := ["board", "known", "key", "some", "sets", "letter", "at"]) (sc := defScope s_wanted) (by decide +kernel)) (fun _ _ _ _ _ => (pg_name (i := 6) sc_wanted.nd rfl (Or.inl rfl))) (fun _ _ _ _ _ => (pts_one (pt_cmpR op_eq (pe_ix (ix_tupK K rfl) (pe_ix (ix_listK K rfl) (pv 3) (pv 6) (fun _ _ => rfl)) pe_int (fun _ _ => rfl)) pe_str (nomark _)))) (fun _ _ _ _ _ => (pv 6)))
      (pss_cons (ps_if (pt_cmpR (op_neD hr.units) (pv 4) (pe_lst pa_nil) (nomark _))
        (pss_one (ps_ret (pe_slice sl_list (pv 3) (po_some (pe_ix ix_list (pv 4) (pe_un un_neg pe_int) (fun _ _ => rfl))) po_none)))
        pss_nil)
      (pss_one (ps_ret (pe_ifExp (PW.pt (pw_and (pt_cmpR (op_neD hr.units) (pv 3) (pe_lst pa_nil) (nomark _)) (pw_and1 (pt_cmpR op_le (pe_ix ix_tup (pe_ix ix_list (pv 3) pe_int (fun _ _ => rfl)) pe_int (fun _ _ => rfl)) (pe_ix ix_list (pv 1) (pv 2) (fun _ _ => rfl)) (nomark _))))) (pv 3) pe_non))))))), ?_⟩
  have hat := getD_at (ns := ns) (k := k) (by omega)
  generalize eu : ns.getD k 0 = u at hat gN gS
  have z0 : 0 ≤ sizeLine := by decide
  have up : ∀ {H2 : Hp} {O : Lg}, Tr H [] H2 O → Has H2 c ∧ BR K CB B nk keep cs H2 c ∧ SqL K H2 kn (ns.map V.int) := fun t => ⟨(t.has c hc).right, r.mono t.mono, (st.tr t).sq⟩
  refine rd_blasts (by rfl) r hc fun p1 H1 g1 f1 => ?_
  refine ⟨_, rfl, p1, _, _, _, rfl, rfl, f1.sq, at_of (j := k) rfl (by rw [List.getElem?_map, lrow_get hk]; rfl), _, rfl, _, rfl, kn, _, _, _, rfl, rfl, (up g1).2.2, hat, _, _, rfl, rfl, _, rfl, ite2 (fun h0 => ?_) fun h0 => ?_⟩
  · refine ⟨z0, fun l hl => gS [] ?_ l [] _ (Tr.new g1 hl nl) .nil⟩
    unfold wantL
    rw [if_pos (of_decide_eq_true h0)]
  have h0' := ndec h0
  refine rd_btail (by rfl) (up g1).2.1 (up g1).1 fun p2 xs2 H2 g2 f2 rx2 => ?_
  have g12 := g1.trans g2
  have hx2 : xs2.length = (tailL keep cs).length := by rw [rx2.length, List.length_map]
  refine ⟨p2, rfl, ⟨_, f2.sq⟩, fun D hD => ?_⟩
  refine lc_list (K := K) (a := p2) (xs := xs2) (fun i H3 => ∃ ys, Tr H [] H3 [(D, .lst ys)] ∧ Mono H2 H3 ∧ RpL K H3 ((((tailL keep cs).take i).filter fun l => decide (l.keyOf = k) && decide (u < (l.numOf : Int))).map Letter.enc) ys)
    ⟨[], g12.new hD nl, Mono.new hD, .nil⟩ (fun i H3 _ ⟨_, _, m, _⟩ => (f2.mono m).sq) ?_ ?_
  · rintro i x H3 hi ⟨ys, t3, m3, ry⟩
    have hi' : i < (tailL keep cs).length := by
      have := (List.getElem?_eq_some_iff.mp hi).1
      omega
    obtain ⟨l, el⟩ : ∃ l, (tailL keep cs)[i]? = some l := ⟨(tailL keep cs)[i], List.getElem?_eq_getElem hi'⟩
    obtain ⟨x', ex, rx⟩ := (rx2.mono m3).get (i := i) (d := l.enc) (by rw [List.getElem?_map, el]; rfl)
    rw [hi] at ex
    cases ex
    obtain ⟨m, ch, _, rfl⟩ := tailL_mem (List.mem_of_getElem? el)
    obtain ⟨a, rfl, ha⟩ := rx.chg_inv
    have hy : ys.length ≤ 20 := by
      rw [ry.length, List.length_map]
      refine Nat.le_trans (List.length_filter_le _ _) ?_
      have := tailL_len keep cs
      rw [List.length_take]
      omega
    have no : (decide ((Letter.change (m + 1) ch (lof (cs.take m) ch.key)).keyOf = k) && decide (u < ((Letter.change (m + 1) ch (lof (cs.take m) ch.key)).numOf : Int))) = false → ∃ ys, Tr H [] H3 [(D, .lst ys)] ∧ Mono H2 H3 ∧ RpL K H3 ((((tailL keep cs).take (i + 1)).filter fun l => decide (l.keyOf = k) && decide (u < (l.numOf : Int))).map Letter.enc) ys := fun q => by
      refine ⟨ys, t3, m3, ?_⟩
      rw [take_snoc el, List.filter_append, List.filter_cons_of_neg (by rw [q]; decide), List.filter_nil, List.append_nil]
      exact ry
    have hu3 := (up t3).2.2
    refine ⟨rfl, _, rfl, a, _, _, _, rfl, rfl, SqT.of ha, rfl, _, rfl, rfl, _, rfl, ite2 (fun h1 => ?_) fun h1 => ?_⟩
    · have h1' : ch.key = k := by
        have := of_decide_eq_true h1
        injection this with q
        omega
      refine ⟨_, rfl, a, _, _, _, rfl, rfl, SqT.of ha, rfl, _, rfl, _, rfl, kn, _, _, _, rfl, rfl, hu3, hat, _, _, rfl, rfl, _, rfl, ite2 (fun h2 => ?_) fun h2 => ?_⟩
      · have h2' := of_decide_eq_true h2
        refine ⟨_, rfl, ys, t3.own.head, small1000 (by omega), ys ++ [.ref a], t3.put .nil nl, m3.trans t3.own.mono_put, ?_⟩
        have q : (decide ((Letter.change (m + 1) ch (lof (cs.take m) ch.key)).keyOf = k) && decide (u < ((Letter.change (m + 1) ch (lof (cs.take m) ch.key)).numOf : Int))) = true := by
          rw [Bool.and_eq_true]
          exact ⟨decide_eq_true h1', decide_eq_true h2'⟩
        have e1 : List.filter (fun l => decide (l.keyOf = k) && decide (u < (l.numOf : Int))) [Letter.change (m + 1) ch (lof (cs.take m) ch.key)] = [Letter.change (m + 1) ch (lof (cs.take m) ch.key)] := List.filter_cons_of_pos (l := []) q
        rw [take_snoc el, List.filter_append, e1, List.map_append]
        exact (ry.snoc rx).mono t3.own.mono_put
      · refine no ?_
        rw [Bool.and_eq_false_iff]
        exact .inr (decide_eq_false (ndec h2))
    · refine iteM (by decide) (no ?_)
      rw [Bool.and_eq_false_iff]
      exact .inl (decide_eq_false fun q => h1 (decide_eq_true (by show V.int (ch.key : Int) = V.int (k : Int); rw [show ch.key = k from q])))
  rintro H3 ⟨ys, t3, m3, ry⟩
  rw [List.take_of_length_le (by omega)] at ry
  change RpL K H3 ((someL keep cs u k).map Letter.enc) ys at ry
  have hsl := someL_len keep cs u k
  have hall : ∀ l ∈ someL keep cs u k, ∃ m c, cs[m]? = some c ∧ l = .change (m + 1) c (lof (cs.take m) c.key) := fun l hl => tailL_mem (filter_sub_mem hl)
  have hw : wantL keep cs u k = wantS (someL keep cs u k) u := by
    unfold wantL
    rw [if_neg h0']
  generalize someL keep cs u k = sm at *
  have hy : ys.length = sm.length := by rw [ry.length, List.length_map]
  -- sets
  refine ⟨_, rfl, D, ys, rfl, .inl (SqL.of t3.own.head), _, rfl, by omega, by omega, fun D2 hD2 => ?_⟩
  refine lc_range (lo := 0) (n := (ys.length : Int).toNat) (fun i H4 => Tr H [] H4 [(D2, .lst ((((List.range i).filter fun i => (sm[i]?.map Letter.isSet) == some true).map fun (i : Nat) => (i : Int)).map V.int)), (D, .lst ys)] ∧ Mono H3 H4)
    ⟨t3.new hD2 nl, Mono.new hD2⟩ ?_ ?_
  · rintro i H4 hi ⟨t4, m4⟩
    have hi' : i < sm.length := by omega
    obtain ⟨l, el⟩ : ∃ l, sm[i]? = some l := ⟨sm[i], List.getElem?_eq_getElem hi'⟩
    obtain ⟨y, ey, rl⟩ := (ry.mono m4).get (i := i) (d := l.enc) (by rw [List.getElem?_map, el]; rfl)
    obtain ⟨m, ch, _, rfl⟩ := hall l (List.mem_of_getElem? el)
    obtain ⟨a, rfl, ha⟩ := rl.chg_inv
    have ez : ((0 : Int) + i) = (i : Int) := by omega
    refine ⟨rfl, _, rfl, _, rfl, D, _, _, _, rfl, rfl, SqL.of t4.own.tail.head, at_of (j := i) ez ey, a, _, _, _, rfl, rfl, SqT.of ha, rfl, rfl, _, rfl, ?_⟩
    rw [wdS]
    have es : ((sm[i]?.map Letter.isSet) == some true) = ch.set := by
      rw [el]
      show (some ch.set == some true) = ch.set
      cases ch.set <;> rfl
    refine ite2 (fun h1 => ?_) fun h1 => ?_
    · refine ⟨_, rfl, _, t4.own.head, ?_, ?_, m4.trans t4.own.mono_put⟩
      · rw [List.length_map, List.length_map]
        refine Nat.lt_of_le_of_lt (List.length_filter_le _ _) ?_
        rw [List.length_range]
        exact small1000 (by omega)
      · have := t4.put (o' := .lst (((((List.range i).filter fun i => (sm[i]?.map Letter.isSet) == some true).map fun (i : Nat) => (i : Int)).map V.int) ++ [V.int ((0 : Int) + i)])) .nil nl
        rw [List.range_succ, List.filter_append, List.filter_cons_of_pos (by rw [es]; exact h1), List.filter_nil, List.map_append, List.map_append]
        rw [ez] at this ⊢
        exact this
    · refine ⟨?_, m4⟩
      rw [List.range_succ, List.filter_append, List.filter_cons_of_neg (by rw [es]; exact h1), List.filter_nil, List.append_nil]
      exact t4
  rintro H4 ⟨t4, m4⟩
  have e4 : ((List.range (ys.length : Int).toNat).filter fun i => (sm[i]?.map Letter.isSet) == some true) = setsL sm := by
    rw [Int.toNat_natCast, hy]
    rfl
  rw [e4] at t4
  have ry4 := ry.mono m4
  refine ⟨_, rfl, z0, fun e0 he0 => ?_⟩
  have t5 := t4.old (o := .lst []) he0
  have me := Mono.new (o := .lst []) he0
  refine ⟨ilst ((setsL sm).map fun (i : Nat) => (i : Int)), .list [], Dp.ints' t5.own.head, Dp.nil upd_same, (Gd.ilst (n := 0) _).shaped, (Gd.nil (n := 0)).shaped, _, rfl, ?_⟩
  rw [ilst, eqv_nil]
  have ry5 := ry4.mono me
  generalize hH5 : upd H4 e0 (.lst []) = H5 at t5 ry5
  rcases List.eq_nil_or_concat (setsL sm) with es | ⟨ini, i, es⟩
  · rw [wantS_no es] at hw
    rw [es]
    refine iteM (by decide) ?_
    -- some if some != [] and ..
    refine ⟨_, rfl, z0, fun e1 he1 => ?_⟩
    have t6 := t5.old (o := .lst []) he1
    have ry6 := ry5.mono (Mono.new (o := .lst []) he1)
    refine ⟨.list (sm.map Letter.enc), .list [], .lst (SqL.of t6.own.tail.head) ry6.dp, Dp.nil upd_same, (Gd.letters sm).shaped, (Gd.nil (n := 0)).shaped, _, rfl, ?_⟩
    rw [eqv_nil]
    cases sm with
    | nil =>
      have hw : wantL keep cs u k = none := hw
      refine iteM (by decide) ?_
      exact iteM (by decide) (gN hw _ (t6.sub (List.nil_sublist _)))
    | cons l ls =>
      refine iteP (by rfl) ?_
      obtain ⟨y, ey, rl⟩ := ry6.get (i := 0) (d := l.enc) rfl
      obtain ⟨m, ch, _, rfl⟩ := hall l List.mem_cons_self
      obtain ⟨a, rfl, ha⟩ := rl.chg_inv
      refine ⟨_, rfl, D, _, _, _, rfl, rfl, SqL.of t6.own.tail.head, at_of (j := 0) rfl ey, a, _, _, _, rfl, rfl, SqT.of ha, rfl, _, rfl, _, rfl, kn, _, _, _, rfl, rfl, (up t6).2.2, hat, _, _, rfl, rfl, _, rfl, ite2 (fun h1 => ?_) fun h1 => ?_⟩
      · have h1' := of_decide_eq_true h1
        rw [if_pos (show firstOk (Letter.change (m + 1) ch (lof (cs.take m) ch.key) :: ls) u = true from decide_eq_true h1')] at hw
        exact ⟨_, rfl, gS _ hw D ys _ t6.tail ry6⟩
      · have h1' := ndec h1
        rw [if_neg (show ¬ firstOk (Letter.change (m + 1) ch (lof (cs.take m) ch.key) :: ls) u = true from fun q => h1' (of_decide_eq_true q))] at hw
        exact gN hw _ (t6.sub (List.nil_sublist _))
  · have es : setsL sm = ini ++ [i] := by rw [es, List.concat_eq_append]
    rw [wantS_set es] at hw
    rw [es] at t5 ⊢
    have hil : i < sm.length := by
      have : i ∈ setsL sm := by rw [es]; simp
      have := (List.mem_filter.mp this).1
      exact List.mem_range.mp this
    refine iteP (by simp) ?_
    refine ⟨_, rfl, _, rfl, _, rfl, D2, _, _, _, rfl, rfl, SqL.of t5.own.head, (by rw [List.map_append, List.map_append]; exact atI_last _ _), _, rfl, D, ys, rfl, SqL.of t5.own.tail.head, fun p6 hp6 => ?_⟩
    rw [cutV_from (by omega)]
    refine gS _ hw p6 _ _ ((t5.new hp6 nl).sub (List.Sublist.cons_cons _ (List.nil_sublist _))) ?_
    rw [List.map_drop]
    exact (ry5.drop i).mono (Mono.new hp6)
end
end Cu

namespace Cu
open PySem PySem.Spec PyProof.Rows L2
abbrev s_counts : Stmt := (top 29)
theorem sc_counts : FnScope ["_law_d", "_law_keys"] ["_law_d"] (defScope s_counts) := ⟨rfl, rfl, rfl, by decide +kernel, rfl, by decide +kernel, by decide +kernel⟩

def spCounts (K : PySem.W.Frag) : Sp := fun vs H Q _ => vs.length = 1 ∧ ∃ (a : Addr) (R : Lg), vs = [.ref a] ∧ Dice K H a R ∧
  ∀ (nk keep : Nat) (t : Addr) (H' : Hp), 0 < nk → nk ≤ 8 → keep ≤ 20 → Mono H H' → Dice K H' a R → H' t = some (.tup [.int nk, .int keep]) → Q (.ref t) H'
section
variable {P : Program} {w : World} {K : PySem.W.Frag} {mg : Str → Option Value} {base : Heap}
theorem ok_counts (F : Fd K mg "_law_counts" s_counts) (Bm : Blt mg) (g_next : Gf P w K mg base 1 "_law_next" ["_law_dice_here", "_law_many"] (spNext K)) : Gf P w K mg base 2 "_law_counts" ["_law_d"] (spCounts K) := by
  refine F.ok sc_counts (fun _ _ _ _ _ _ us hl => match us, hl with | [_], _ => rfl) len_of fun qual f cdv A outer s H vs Q E hr h => ?_
  obtain ⟨_, a, R, rfl, d, go⟩ := h
  refine ⟨_, (pss_cons (ps_set (i := 1) sc_counts.nd rfl (Or.inl rfl) (pe_ix ix_list (pe_lst (pa_cons (pe_op op_add pe_int (pc g_next hr (pa_cons (pv 0) (pa_cons pe_int pa_nil)))) (pa_cons (pe_op op_add pe_int (pc g_next hr (pa_cons (pv 0) (pa_cons pe_int pa_nil)))) pa_nil))) (pc g_next hr (pa_cons (pv 0) (pa_cons pe_int pa_nil))) (fun _ _ => rfl)))
      (pss_one (ps_ret (pe_tup (pa_cons (pv 1) (pa_cons (pe_ix ix_list (pe_lst (pa_cons (pc g_next hr (pa_cons (pv 0) (pa_cons pe_int pa_nil))) (pa_cons (pc g_next hr (pa_cons (pv 0) (pa_cons pe_int pa_nil))) pa_nil))) (pc g_next hr (pa_cons (pv 0) (pa_cons pe_int pa_nil))) (fun _ _ => rfl)) pa_nil)))))), ?_⟩
  refine ⟨_, rfl, rfl, a, 3, R, rfl, by decide, by decide, d, fun r1 H1 p1 q1 m1 d1 => ⟨_, _, rfl, rfl, ?_⟩⟩
  refine ⟨_, rfl, rfl, a, 8, R, rfl, by decide, by decide, d1, fun r2 H2 p2 q2 m2 d2 => ⟨_, _, rfl, rfl, ?_⟩⟩
  refine ⟨(by show 2 ≤ sizeLine; decide), fun l hl => ?_⟩
  refine ⟨_, rfl, rfl, a, 2, _, rfl, by decide, by decide, d2.new (o := .lst [.int (1 + r1), .int (1 + r2)]) hl nl, fun r3 H3 p3 q3 m3 d3 => ?_⟩
  obtain ⟨v, hv, hm⟩ := at_some (xs := [.int (1 + r1), .int (1 + r2)]) p3 q3
  obtain ⟨nk, rfl, hk, hk8⟩ : ∃ nk : Nat, v = V.int nk ∧ 0 < nk ∧ nk ≤ 8 := by
    simp only [List.mem_cons, List.not_mem_nil, or_false] at hm
    rcases hm with e | e
    · exact ⟨(1 + r1).toNat, by rw [e]; congr 1; omega, by omega, by omega⟩
    · exact ⟨(1 + r2).toNat, by rw [e]; congr 1; omega, by omega, by omega⟩
  refine ⟨l, _, _, _, rfl, rfl, SqL.of d3.at_, hv, ?_⟩
  have d4 := d3.tail
  refine ⟨_, rfl, _, rfl, rfl, a, 7, R, rfl, by decide, by decide, d4, fun r5 H5 p5 q5 m5 d5 => ?_⟩
  refine ⟨_, rfl, rfl, a, 21, R, rfl, by decide, by decide, d5, fun r6 H6 p6 q6 m6 d6 => ⟨(by show 2 ≤ sizeLine; decide), fun l2 hl2 => ?_⟩⟩
  refine ⟨_, rfl, rfl, a, 2, _, rfl, by decide, by decide, d6.new (o := .lst [.int r5, .int r6]) hl2 nl, fun r7 H7 p7 q7 m7 d7 => ?_⟩
  obtain ⟨v, hv, hm⟩ := at_some (xs := [.int r5, .int r6]) p7 q7
  obtain ⟨keep, rfl, hkp⟩ : ∃ keep : Nat, v = V.int keep ∧ keep ≤ 20 := by
    simp only [List.mem_cons, List.not_mem_nil, or_false] at hm
    rcases hm with e | e
    · exact ⟨r5.toNat, by rw [e]; congr 1; omega, by omega⟩
    · exact ⟨r6.toNat, by rw [e]; congr 1; omega, by omega⟩
  refine ⟨l2, _, _, _, rfl, rfl, SqL.of d7.at_, hv, ⟨(by show 2 ≤ sizeLine; decide), fun t ht => ?_⟩⟩
  exact go nk keep t _ hk hk8 hkp (((((((m1.trans m2).trans (Mono.new hl)).trans m3).trans m5).trans m6).trans (Mono.new hl2)).trans (m7.trans (Mono.new ht))) (d7.tail.old ht) upd_same
end
end Cu

namespace Cu
open PySem PySem.Spec PyProof.Rows L2
abbrev s_known : Stmt := (top 35)
theorem sc_known : FnScope ["_law_d", "_law_keys", "_law_number", "_law_found", "_law_key", "_law_near"] ["_law_d", "_law_keys", "_law_number"] (defScope s_known) := ⟨rfl, rfl, rfl, by decide +kernel, rfl, by decide +kernel, by decide +kernel⟩

def spLknown (K : PySem.W.Frag) : Sp := fun vs H Q _ => vs.length = 3 ∧ ∃ (a : Addr) (nk : Nat) (cs : List Ch) (R : Lg), vs = [.ref a, .int nk, .int cs.length] ∧ nk ≤ 8 ∧ cs.length ≤ 1000 ∧ Dice K H a R ∧
  ∀ (p : Addr) (ns : List Int) (H' : Hp), Kn nk cs ns → Mono H H' → Dice K H' a R → FzL K H' p (ns.map V.int) → Q (.ref p) H'
section
variable {P : Program} {w : World} {K : PySem.W.Frag} {mg : Str → Option Value} {base : Heap}
theorem ok_lknown (F : Fd K mg "_law_known" s_known) (Bm : Blt mg) (g_next : Gf P w K mg base 1 "_law_next" ["_law_dice_here", "_law_many"] (spNext K)) : Gf P w K mg base 2 "_law_known" ["_law_d", "_law_keys", "_law_number"] (spLknown K) := by
  refine F.ok sc_known (fun _ _ _ _ _ _ us hl => match us, hl with | [_, _, _], _ => rfl) len_of fun qual f cdv A outer s H vs Q E hr h => ?_
  obtain ⟨_, a, nk, cs, R, rfl, hk8, hcl, d, go⟩ := h
  refine ⟨_, (pss_cons (ps_set (i := 3) sc_known.nd rfl (Or.inl rfl) (pe_lst pa_nil))
      (pss_cons (ps_for PassesOwn.never rfl (pi_range1 rfl Bm.range (pa_cons (pv 1) pa_nil)) (pg_name (i := 4) sc_known.nd rfl (Or.inl rfl))
        (pss_cons (ps_set (i := 5) sc_known.nd rfl (Or.inl rfl) (pe_callB (call_max2 rfl) rfl Bm.max (by decide +kernel) (pa_cons (pe_un un_neg pe_int) (pa_cons (pe_op op_sub (pv 2) (pc g_next hr (pa_cons (pv 0) (pa_cons pe_int pa_nil)))) pa_nil))))
        (pss_one (ps_expr (pe_bm PySem.F.plainAttrs_list PySem.F.slot_list_append PySem.F.type_list_append mt_append (pv 3) (pa_cons (pe_ix ix_list (pe_lst (pa_cons (pv 5) (pa_cons (pv 2) (pa_cons (pe_op op_sub (pc g_next hr (pa_cons (pv 0) (pa_cons (pe_op op_add (pv 2) pe_int) pa_nil))) pe_int) (pa_cons (pe_un un_neg pe_int) pa_nil))))) (pc g_next hr (pa_cons (pv 0) (pa_cons pe_int pa_nil))) (fun _ _ => rfl)) pa_nil))))))
      (pss_one (ps_ret (pe_fz (pv 3)))))), ?_⟩
  refine ⟨(by show 0 ≤ sizeLine; decide), fun p hp => ?_⟩
  have d1 := d.new (o := .lst []) hp nl
  refine ⟨_, rfl, _, rfl, by omega, by omega, for_range (lo := 0) (n := (nk : Int).toNat) (fun i σ H2 => ∃ (ns : List Int) (v4 v5 : Option V), σ = [some (.ref a), some (.int nk), some (.int cs.length), some (.ref p), v4, v5] ∧ Mono H H2 ∧ Dice K H2 a ((p, .lst (ns.map V.int)) :: R) ∧ ns.length = i ∧ ∀ n ∈ ns, -1 ≤ n ∧ n ≤ cs.length)
    ⟨[], none, none, rfl, Mono.new hp, d1, rfl, fun _ h => (nomatch h)⟩ ?_ ?_⟩
  · rintro i σ H2 hi ⟨ns, v4, v5, rfl, m2, d2, hl_, hb⟩
    refine ⟨_, rfl, _, rfl, _, rfl, rfl, a, 6, _, rfl, by decide, by decide, d2, fun r3 H3 p3 q3 m3 d3 => ⟨_, _, rfl, rfl, _, _, rfl, ?_⟩⟩
    obtain ⟨near, en, hn⟩ : ∃ near : Int, (if (cs.length : Int) - r3 > -1 then (cs.length : Int) - r3 else -1) = near ∧ -1 ≤ near ∧ near ≤ cs.length := by
      refine ⟨_, rfl, ?_⟩
      split <;> omega
    show gName 5 (V.int (if (cs.length : Int) - r3 > -1 then (cs.length : Int) - r3 else -1)) _ _ _
    rw [en]
    refine ⟨_, rfl, .inl ⟨rfl, _, SqL.of d3.at_⟩, _, rfl, _, rfl, _, rfl, _, rfl, _, _, rfl, rfl, rfl, a, (cs.length : Int) + 2, _, rfl, by omega, by omega, d3, fun r4 H4 p4 q4 m4 d4 => ⟨_, _, rfl, rfl, _, rfl, (by show 4 ≤ sizeLine; decide), fun l hl => ?_⟩⟩
    have d5 := d4.new (o := .lst [.int near, .int cs.length, .int (r4 - 1), .int (-1)]) hl nl
    refine ⟨_, rfl, rfl, a, 4, _, rfl, by decide, by decide, d5, fun r6 H6 p6 q6 m6 d6 => ?_⟩
    obtain ⟨v, hv, hm⟩ := at_some (xs := [.int near, .int cs.length, .int (r4 - 1), .int (-1)]) p6 q6
    obtain ⟨z, rfl, hz1, hz2⟩ : ∃ z : Int, v = V.int z ∧ -1 ≤ z ∧ z ≤ cs.length := by
      simp only [List.mem_cons, List.not_mem_nil, or_false] at hm
      rcases hm with e | e | e | e
      · exact ⟨_, e, hn⟩
      · exact ⟨_, e, by omega, by omega⟩
      · exact ⟨_, e, by omega, by omega⟩
      · exact ⟨_, e, by omega, by omega⟩
    have d7 := d6.tail
    refine ⟨l, _, _, _, rfl, rfl, SqL.of d6.at_, hv, _, _, _, rfl, rfl, d7.at_, by rw [List.length_map, hl_]; exact small1000 (by omega), ?_⟩
    have m8 := ((m3.trans m4).trans (Mono.new hl)).trans m6
    refine ⟨ns ++ [z], _, _, rfl, (m2.trans m8).trans d7.mput, ?_, by rw [List.length_append, hl_]; rfl, fun n hn => ?_⟩
    · rw [List.map_append]
      exact d7.put nl
    · rcases List.mem_append.mp hn with h | h
      · exact hb n h
      · rw [List.mem_singleton.mp h]
        exact ⟨hz1, hz2⟩
  · rintro σ H2 ⟨ns, v4, v5, rfl, m2, d2, hl, hb⟩
    refine rd_fz ⟨_, rfl, p, _, rfl, d2.at_, fun o => ?_⟩
    exact go p ns _ ⟨by rw [hl]; omega, hb⟩ (m2.trans d2.mfz) d2.fz FzL.frz
end
end Cu

namespace Cu
open PySem PySem.Spec PyProof.Rows L2
/-! alike, by types too: the same data -/
theorem ps_dead {X : Cx} {st : Stmt} : PS X st (fun _ _ _ => False) := ⟨fun _ _ _ _ _ _ h => h.elim⟩
def rIxA (K : PySem.W.Frag) : R2 := fun x y H Q => rIxL K x y H Q ∨ rIxT K x y H Q
theorem ix_any {X : Cx} : IxR X (rIxA X.K) := by
  intro value slice pins s σ H x y v u Q I rx ry h hs
  rcases h with h | h
  · exact ix_list value slice pins s σ H x y v u Q I rx ry h hs
  · exact ix_tup value slice pins s σ H x y v u Q I rx ry h hs
theorem sqL_ty {K : PySem.W.Frag} {H : Hp} {a : Addr} {xs : List V} (h : SqL K H a xs) : TyX K H (.ref a) (.type "list") := by
  rcases h with (h | ⟨o, h⟩) | ⟨o, its, n, h1, h2, _⟩
  · exact .base (.lst h)
  · exact .base (.frz h)
  · exact .kList h1 h2
theorem sqT_ty {K : PySem.W.Frag} {H : Hp} {a : Addr} {xs : List V} (h : SqT K H a xs) : TyX K H (.ref a) (.type "tuple") := by
  rcases h with (h | ⟨o, h⟩) | ⟨o, its, n, h1, h2, _⟩
  · exact .base (.tup h)
  · exact .fTuple h
  · exact .kTuple h1 h2
theorem dpAll_get {K : PySem.W.Frag} {H : Hp} : ∀ {xs : List V} {ds : List PyData}, DpAll K H xs ds → ∀ {k : Nat}, k < xs.length → ∃ x d, xs[k]? = some x ∧ ds[k]? = some d ∧ Dp K H x d
  | _, _, .nil, _, h => absurd h (Nat.not_lt_zero _)
  | _, _, .cons h hs, 0, _ => ⟨_, _, rfl, rfl, h⟩
  | _, _, .cons h hs, k + 1, hk => dpAll_get hs (Nat.lt_of_succ_lt_succ hk)
theorem dpAll_len {K : PySem.W.Frag} {H : Hp} : ∀ {xs : List V} {ds : List PyData}, DpAll K H xs ds → xs.length = ds.length
  | _, _, .nil => rfl
  | _, _, .cons _ hs => congrArg (· + 1) (dpAll_len hs)
theorem depth_mem : ∀ {ds : List PyData} {d : PyData}, d ∈ ds → d.depth ≤ PyData.depthAll ds
  | e :: ds, d, h => by
    rw [PyData.depthAll]
    rcases List.mem_cons.mp h with h | h
    · rw [h]
      exact Nat.le_max_left _ _
    · exact Nat.le_trans (depth_mem h) (Nat.le_max_right _ _)
mutual
def wid : PyData → Nat
  | .list xs | .tuple xs => max xs.length (widAll xs)
  | _ => 0
def widAll : List PyData → Nat
  | [] => 0
  | x :: xs => max (wid x) (widAll xs)
end
theorem wid_mem : ∀ {ds : List PyData} {d : PyData}, d ∈ ds → wid d ≤ widAll ds
  | e :: ds, d, h => by
    rw [widAll]
    rcases List.mem_cons.mp h with h | h
    · rw [h]
      exact Nat.le_max_left _ _
    · exact Nat.le_trans (wid_mem h) (Nat.le_max_right _ _)
theorem canMem : ∀ {ds : List PyData} {d : PyData}, PyData.canLayAll0 ds = true → d ∈ ds → d.canLay0 = true
  | e :: ds, d, hc, h => by
    have hc : e.canLay0 = true ∧ PyData.canLayAll0 ds = true := by simpa [PyData.canLayAll0] using hc
    rcases List.mem_cons.mp h with h | h
    · rw [h]
      exact hc.1
    · exact canMem hc.2 h
abbrev s_like : Stmt := (top 27)
theorem sc_like : FnScope ["_law_found", "_law_due", "_law_k", "_law_key"] ["_law_found", "_law_due"] (defScope s_like) := ⟨rfl, rfl, rfl, by decide +kernel, rfl, by decide +kernel, by decide +kernel⟩

def spLike (K : PySem.W.Frag) (n : Nat) : Sp := fun vs H Q _ => vs.length = 2 ∧ ∃ (d : PyData) (x y : V), vs = [x, y] ∧ Dp K H x d ∧ Dp K H y d ∧ d.canLay0 = true ∧ d.depth < n ∧ wid d ≤ 1000 ∧ Q (.bl true) H
section
variable {P : Program} {w : World} {K : PySem.W.Frag} {mg : Str → Option Value} {base : Heap}
theorem like_zero (F : Fd K mg "_law_like" s_like) : Gf P w K mg base 0 "_law_like" ["_law_found", "_law_due"] (spLike K 0) := by
  obtain ⟨f, fd, F, hm⟩ := F.ex
  have no : ∀ {vs H Q E}, spLike K 0 vs H Q E → False := fun ⟨_, _, _, _, _, _, _, _, h, _⟩ => Nat.not_lt_zero _ h
  exact ⟨f, fd, ⟨fun _ _ _ _ h => (no h).elim, fun _ _ _ _ _ _ _ _ _ _ _ _ _ h => (no h).elim⟩, hm, F.kp, F.binds fun _ _ _ _ _ _ us hl => match us, hl with | [_, _], _ => rfl⟩
theorem like_step (F : Fd K mg "_law_like" s_like) (Bm : Blt mg) {n : Nat} (g_like : Gf P w K mg base n "_law_like" ["_law_found", "_law_due"] (spLike K n)) : Gf P w K mg base (n + 1) "_law_like" ["_law_found", "_law_due"] (spLike K (n + 1)) := by
  refine F.ok sc_like (fun _ _ _ _ _ _ us hl => match us, hl with | [_, _], _ => rfl) len_of fun qual f cdv A outer s H vs Q E hr h => ?_
  obtain ⟨_, d, x, y, rfl, dx, dy, hl, hd, hw, go⟩ := h
  refine ⟨_, (pss_cons (ps_if (pt_val (pe_callB call_isi rfl Bm.isinstance (by decide +kernel) (pa_cons (pv 1) (pa_cons (pe_bltn (v := .ty "bool") (u := .type "bool") rfl Bm.bool (by decide +kernel) rfl) pa_nil))))
        (pss_one (ps_ret (pe_and (pe_callB call_isi rfl Bm.isinstance (by decide +kernel) (pa_cons (pv 0) (pa_cons (pe_bltn (v := .ty "bool") (u := .type "bool") rfl Bm.bool (by decide +kernel) rfl) pa_nil))) (pe_one (pe_cmpR (op_eqD hr.units) (pv 0) (pv 1) (nomark _))))))
        pss_nil)
      (pss_cons (ps_if (pt_val (pe_callB call_isi rfl Bm.isinstance (by decide +kernel) (pa_cons (pv 1) (pa_cons (pe_bltn (v := .ty "str") (u := .type "str") rfl Bm.str (by decide +kernel) rfl) pa_nil))))
        (pss_one (ps_ret (pe_and (pe_callB call_isi rfl Bm.isinstance (by decide +kernel) (pa_cons (pv 0) (pa_cons (pe_bltn (v := .ty "str") (u := .type "str") rfl Bm.str (by decide +kernel) rfl) pa_nil))) (pe_one (pe_cmpR (op_eqD hr.units) (pv 0) (pv 1) (nomark _))))))
        pss_nil)
      (pss_cons (ps_if (pt_val (pe_callB call_isi rfl Bm.isinstance (by decide +kernel) (pa_cons (pv 1) (pa_cons (pe_bltn (v := .ty "int") (u := .type "int") rfl Bm.int (by decide +kernel) rfl) pa_nil))))
        (pss_one (ps_ret (pe_and (pe_callB call_isi rfl Bm.isinstance (by decide +kernel) (pa_cons (pv 0) (pa_cons (pe_bltn (v := .ty "int") (u := .type "int") rfl Bm.int (by decide +kernel) rfl) pa_nil))) (pe_and (pe_not (pe_callB call_isi rfl Bm.isinstance (by decide +kernel) (pa_cons (pv 0) (pa_cons (pe_bltn (v := .ty "bool") (u := .type "bool") rfl Bm.bool (by decide +kernel) rfl) pa_nil)))) (pe_one (pe_cmpR (op_eqD hr.units) (pv 0) (pv 1) (nomark _)))))))
        pss_nil)
      (pss_cons (ps_if (pt_cmpR op_isN (pv 1) pe_non (nomark _))
        (pss_one (ps_ret (pe_cmpR op_isN (pv 0) pe_non (nomark _))))
        pss_nil)
      (pss_cons (ps_if (pt_val (pe_callB call_isi rfl Bm.isinstance (by decide +kernel) (pa_cons (pv 1) (pa_cons (pe_bltn (v := .ty "dict") (u := .type "dict") rfl Bm.dict (by decide +kernel) rfl) pa_nil))))
        (pss_cons ps_dead
        (pss_one ps_dead))
        pss_nil)
      (pss_cons (ps_if (PW.pt (pw_or (pt_cmpR op_ne (pe_callB call_isi rfl Bm.isinstance (by decide +kernel) (pa_cons (pv 1) (pa_cons (pe_bltn (v := .ty "tuple") (u := .type "tuple") rfl Bm.tuple (by decide +kernel) rfl) pa_nil))) (pe_callB call_isi rfl Bm.isinstance (by decide +kernel) (pa_cons (pv 0) (pa_cons (pe_bltn (v := .ty "tuple") (u := .type "tuple") rfl Bm.tuple (by decide +kernel) rfl) pa_nil))) (nomark _)) (pw_or1 (pt_cmpR op_ne (pe_callB call_isi rfl Bm.isinstance (by decide +kernel) (pa_cons (pv 1) (pa_cons (pe_bltn (v := .ty "list") (u := .type "list") rfl Bm.list (by decide +kernel) rfl) pa_nil))) (pe_callB call_isi rfl Bm.isinstance (by decide +kernel) (pa_cons (pv 0) (pa_cons (pe_bltn (v := .ty "list") (u := .type "list") rfl Bm.list (by decide +kernel) rfl) pa_nil))) (nomark _)))))
        (pss_one (ps_ret pe_bl))
        pss_nil)
      (pss_cons (ps_if (pt_cmpR op_ne (pe_callB call_len_seq rfl Bm.len (by decide +kernel) (pa_cons (pv 0) pa_nil)) (pe_callB call_len_seq rfl Bm.len (by decide +kernel) (pa_cons (pv 1) pa_nil)) (nomark _))
        (pss_one (ps_ret pe_bl))
        pss_nil)
      (pss_cons (ps_for PassesOwn.never rfl (pi_range1 rfl Bm.range (pa_cons (pe_callB call_len_seq rfl Bm.len (by decide +kernel) (pa_cons (pv 1) pa_nil)) pa_nil)) (pg_name (i := 2) sc_like.nd rfl (Or.inl rfl))
        (pss_one (ps_if (pt_not (pt_val (pc g_like hr (pa_cons (pe_ix ix_any (pv 0) (pv 2) (fun _ _ => rfl)) (pa_cons (pe_ix ix_any (pv 1) (pv 2) (fun _ _ => rfl)) pa_nil)) (hj := Nat.le_refl _))))
          (pss_one (ps_ret pe_bl))
          pss_nil)))
      (pss_one (ps_ret pe_bl)))))))))), ?_⟩
  cases d with
  | none =>
    cases dx
    cases dy
    have t : TyX K H .non (.type "NoneType") := .base .non
    refine ⟨_, rfl, _, _, _, _, false, rfl, ClsV.ty _, t, kit_ty (by decide +kernel), _, rfl, iteM (by decide) ?_⟩
    refine ⟨_, rfl, _, _, _, _, false, rfl, ClsV.ty _, t, kit_ty (by decide +kernel), _, rfl, iteM (by decide) ?_⟩
    refine ⟨_, rfl, _, _, _, _, false, rfl, ClsV.ty _, t, kit_ty (by decide +kernel), _, rfl, iteM (by decide) ?_⟩
    refine ⟨_, rfl, rfl, _, rfl, iteP (by decide) ?_⟩
    exact ⟨_, rfl, rfl, go⟩
  | bool b =>
    cases dx
    cases dy
    have t : TyX K H (.bl b) (.type "bool") := .base (.bl b)
    refine ⟨_, rfl, _, _, _, _, true, rfl, ClsV.ty _, t, kit_ty (by decide +kernel), _, rfl, iteP (by decide) ?_⟩
    refine ⟨_, rfl, _, _, _, _, true, rfl, ClsV.ty _, t, kit_ty (by decide +kernel), ?_⟩
    refine ⟨_, rfl, iteP rfl ?_⟩
    refine ⟨_, rfl, _, rfl, _, _, Dp.bl b, Dp.bl b, (Gd.bool (n := 0)).shaped, (Gd.bool (n := 0)).shaped, ?_⟩
    rw [(Gd.bool (n := 0) (b := b)).refl]
    exact go
  | int i =>
    cases dx
    cases dy
    have t : TyX K H (.int i) (.type "int") := .base (.int i)
    refine ⟨_, rfl, _, _, _, _, false, rfl, ClsV.ty _, t, kit_ty (by decide +kernel), _, rfl, iteM (by decide) ?_⟩
    refine ⟨_, rfl, _, _, _, _, false, rfl, ClsV.ty _, t, kit_ty (by decide +kernel), _, rfl, iteM (by decide) ?_⟩
    refine ⟨_, rfl, _, _, _, _, true, rfl, ClsV.ty _, t, kit_ty (by decide +kernel), _, rfl, iteP (by decide) ?_⟩
    refine ⟨_, rfl, _, _, _, _, true, rfl, ClsV.ty _, t, kit_ty (by decide +kernel), _, rfl, iteP rfl ?_⟩
    refine ⟨_, rfl, _, _, _, _, false, rfl, ClsV.ty _, t, kit_ty (by decide +kernel), _, rfl, _, rfl, iteP rfl ?_⟩
    refine ⟨_, rfl, _, rfl, _, _, Dp.int i, Dp.int i, (Gd.int (n := 0)).shaped, (Gd.int (n := 0)).shaped, ?_⟩
    rw [(Gd.int (n := 0) (i := i)).refl]
    exact go
  | str z =>
    cases dx
    cases dy
    have t : TyX K H (.str z) (.type "str") := .base (.str z)
    refine ⟨_, rfl, _, _, _, _, false, rfl, ClsV.ty _, t, kit_ty (by decide +kernel), _, rfl, iteM (by decide) ?_⟩
    refine ⟨_, rfl, _, _, _, _, true, rfl, ClsV.ty _, t, kit_ty (by decide +kernel), _, rfl, iteP (by decide) ?_⟩
    refine ⟨_, rfl, _, _, _, _, true, rfl, ClsV.ty _, t, kit_ty (by decide +kernel), _, rfl, iteP rfl ?_⟩
    have hz : Gd 0 (.str z) := ⟨hl, by simp [PyData.depth]⟩
    refine ⟨_, rfl, _, rfl, _, _, Dp.str z, Dp.str z, hz.shaped, hz.shaped, ?_⟩
    rw [hz.refl]
    exact go
  | list ds =>
    cases dx with
    | @lst ax xs _ sx ex =>
    cases dy with
    | @lst ay ys _ sy ey =>
    have tx := sqL_ty sx
    have ty := sqL_ty sy
    have lx := dpAll_len ex
    have ly := dpAll_len ey
    have hwl : ds.length ≤ 1000 := Nat.le_trans (Nat.le_max_left _ _) hw
    refine ⟨_, rfl, _, _, _, _, false, rfl, ClsV.ty _, ty, kit_ty (by decide +kernel), _, rfl, iteM (by decide) ?_⟩
    refine ⟨_, rfl, _, _, _, _, false, rfl, ClsV.ty _, ty, kit_ty (by decide +kernel), _, rfl, iteM (by decide) ?_⟩
    refine ⟨_, rfl, _, _, _, _, false, rfl, ClsV.ty _, ty, kit_ty (by decide +kernel), _, rfl, iteM (by decide) ?_⟩
    refine ⟨_, rfl, rfl, _, rfl, iteM (by simp) ?_⟩
    refine ⟨_, rfl, _, _, _, _, false, rfl, ClsV.ty _, ty, kit_ty (by decide +kernel), _, rfl, iteM (by decide) ?_⟩
    refine ⟨_, rfl, _, _, _, _, false, rfl, ClsV.ty _, ty, kit_ty (by decide +kernel), _, rfl, _, _, _, _, false, rfl, ClsV.ty _, tx, kit_ty (by decide +kernel), rfl, _, rfl, iteM (by decide) ?_⟩
    refine ⟨_, rfl, _, _, _, _, true, rfl, ClsV.ty _, ty, kit_ty (by decide +kernel), _, rfl, _, _, _, _, true, rfl, ClsV.ty _, tx, kit_ty (by decide +kernel), rfl, _, rfl, iteM (by decide) ?_⟩
    refine ⟨_, rfl, ax, xs, rfl, .inl sx, _, rfl, ay, ys, rfl, .inl sy, rfl, _, rfl, iteM (by rw [lx, ly]; simp) ?_⟩
    refine ⟨_, rfl, ay, ys, rfl, .inl sy, _, rfl, by omega, by omega, for_range (lo := 0) (n := (ys.length : Int).toNat) (fun k σ H2 => ∃ v2, σ = [some (.ref ax), some (.ref ay), v2, none] ∧ H2 = H) ⟨none, rfl, rfl⟩ ?_ ?_⟩
    · rintro k σ _ hk ⟨v2, rfl, rfl⟩
      have hk' : k < ys.length := by omega
      have ez : ((0 : Int) + k) = (k : Int) := by omega
      obtain ⟨v, e, e1, e2, e3⟩ := dpAll_get ex (k := k) (by omega)
      obtain ⟨v', e', e4, e5, e6⟩ := dpAll_get ey hk'
      rw [e2] at e5
      cases e5
      have hm := List.mem_of_getElem? e2
      refine ⟨_, rfl, _, rfl, .inl ⟨ax, xs, _, v, rfl, rfl, sx, at_of (j := k) ez e1, ?_⟩⟩
      refine ⟨_, rfl, _, rfl, .inl ⟨ay, ys, _, v', rfl, rfl, sy, at_of (j := k) ez e4, ?_⟩⟩
      refine ⟨rfl, e, v, v', rfl, e3, e6, canMem (by simpa [PyData.canLay0] using hl) hm, ?_, Nat.le_trans (wid_mem hm) (Nat.le_trans (Nat.le_max_right _ _) hw), _, rfl, iteM (by decide) ⟨_, rfl, rfl⟩⟩
      have := depth_mem hm
      have hd : PyData.depthAll ds + 1 < n + 1 := hd
      omega
    · rintro σ _ ⟨v2, rfl, rfl⟩
      exact go
  | tuple ds =>
    cases dx with
    | @tup ax xs _ sx ex =>
    cases dy with
    | @tup ay ys _ sy ey =>
    have tx := sqT_ty sx
    have ty := sqT_ty sy
    have lx := dpAll_len ex
    have ly := dpAll_len ey
    have hwl : ds.length ≤ 1000 := Nat.le_trans (Nat.le_max_left _ _) hw
    refine ⟨_, rfl, _, _, _, _, false, rfl, ClsV.ty _, ty, kit_ty (by decide +kernel), _, rfl, iteM (by decide) ?_⟩
    refine ⟨_, rfl, _, _, _, _, false, rfl, ClsV.ty _, ty, kit_ty (by decide +kernel), _, rfl, iteM (by decide) ?_⟩
    refine ⟨_, rfl, _, _, _, _, false, rfl, ClsV.ty _, ty, kit_ty (by decide +kernel), _, rfl, iteM (by decide) ?_⟩
    refine ⟨_, rfl, rfl, _, rfl, iteM (by simp) ?_⟩
    refine ⟨_, rfl, _, _, _, _, false, rfl, ClsV.ty _, ty, kit_ty (by decide +kernel), _, rfl, iteM (by decide) ?_⟩
    refine ⟨_, rfl, _, _, _, _, true, rfl, ClsV.ty _, ty, kit_ty (by decide +kernel), _, rfl, _, _, _, _, true, rfl, ClsV.ty _, tx, kit_ty (by decide +kernel), rfl, _, rfl, iteM (by decide) ?_⟩
    refine ⟨_, rfl, _, _, _, _, false, rfl, ClsV.ty _, ty, kit_ty (by decide +kernel), _, rfl, _, _, _, _, false, rfl, ClsV.ty _, tx, kit_ty (by decide +kernel), rfl, _, rfl, iteM (by decide) ?_⟩
    refine ⟨_, rfl, ax, xs, rfl, .inr sx, _, rfl, ay, ys, rfl, .inr sy, rfl, _, rfl, iteM (by rw [lx, ly]; simp) ?_⟩
    refine ⟨_, rfl, ay, ys, rfl, .inr sy, _, rfl, by omega, by omega, for_range (lo := 0) (n := (ys.length : Int).toNat) (fun k σ H2 => ∃ v2, σ = [some (.ref ax), some (.ref ay), v2, none] ∧ H2 = H) ⟨none, rfl, rfl⟩ ?_ ?_⟩
    · rintro k σ _ hk ⟨v2, rfl, rfl⟩
      have hk' : k < ys.length := by omega
      have ez : ((0 : Int) + k) = (k : Int) := by omega
      obtain ⟨v, e, e1, e2, e3⟩ := dpAll_get ex (k := k) (by omega)
      obtain ⟨v', e', e4, e5, e6⟩ := dpAll_get ey hk'
      rw [e2] at e5
      cases e5
      have hm := List.mem_of_getElem? e2
      refine ⟨_, rfl, _, rfl, .inr ⟨ax, xs, _, v, rfl, rfl, sx, at_of (j := k) ez e1, ?_⟩⟩
      refine ⟨_, rfl, _, rfl, .inr ⟨ay, ys, _, v', rfl, rfl, sy, at_of (j := k) ez e4, ?_⟩⟩
      refine ⟨rfl, e, v, v', rfl, e3, e6, canMem (by simpa [PyData.canLay0] using hl) hm, ?_, Nat.le_trans (wid_mem hm) (Nat.le_trans (Nat.le_max_right _ _) hw), _, rfl, iteM (by decide) ⟨_, rfl, rfl⟩⟩
      have := depth_mem hm
      have hd : PyData.depthAll ds + 1 < n + 1 := hd
      omega
    · rintro σ _ ⟨v2, rfl, rfl⟩
      exact go
  | dict kvs => cases dx
theorem ok_like (F : Fd K mg "_law_like" s_like) (Bm : Blt mg) : Gf P w K mg base 4 "_law_like" ["_law_found", "_law_due"] (spLike K 4) := by
  exact like_step F Bm (like_step F Bm (like_step F Bm (like_step F Bm (like_zero F))))
end
end Cu

namespace Cu
open PySem PySem.Spec PyProof.Rows L2
/-! how wide, how deep letters are -/
theorem cutV_to' {xs : List V} {k : Nat} : cutV xs none (some (k : Int)) = xs.take k := by
  unfold cutV
  rw [HT.sIx_none, HT.sIx_nat, List.drop_zero, Nat.sub_zero]
  by_cases h : k ≤ xs.length
  · rw [Nat.min_eq_left h]
  · rw [Nat.min_eq_right (by omega), List.take_of_length_le (Nat.le_refl _), List.take_of_length_le (by omega)]
theorem widAll_le {n : Nat} : ∀ {ds : List PyData}, (∀ d ∈ ds, wid d ≤ n) → widAll ds ≤ n
  | [], _ => by simp [widAll]
  | d :: ds, h => by
    rw [widAll]
    exact Nat.max_le.mpr ⟨h d List.mem_cons_self, widAll_le fun e he => h e (List.mem_cons_of_mem _ he)⟩
theorem wid_list {ds : List PyData} (h : ds.length ≤ 1000) (g : ∀ d ∈ ds, wid d ≤ 1000) : wid (.list ds) ≤ 1000 := by
  rw [wid]
  exact Nat.max_le.mpr ⟨h, widAll_le g⟩
theorem wid_tup {ds : List PyData} (h : ds.length ≤ 1000) (g : ∀ d ∈ ds, wid d ≤ 1000) : wid (.tuple ds) ≤ 1000 := by
  rw [wid]
  exact Nat.max_le.mpr ⟨h, widAll_le g⟩
theorem wid_ilst {ns : List Int} (h : ns.length ≤ 1000) : wid (ilst ns) ≤ 1000 := wid_list (by rw [List.length_map]; exact h) fun d hd => by
  obtain ⟨i, _, rfl⟩ := List.mem_map.mp hd
  simp [wid]
theorem Gd.chg1 {n ah : Nat} {c : Ch} : Gd 1 (Letter.enc (.change n c ah)) := .tuple (.all_cons (.str (by decide +kernel)) (.all_cons .int (.all_cons .int (.all_cons (.str (wd_ok _)) (.all_cons .int (.all_cons .int .all_nil))))))
theorem Gd.letter3 (l : Letter) : Gd 3 l.enc := by
  cases l with
  | change n c ahead => exact Gd.chg1.mono (by decide)
  | part n b rows =>
    refine .tuple (.all_cons (.str (by decide +kernel)) (.all_cons .int (.all_cons .int (.all_cons (.tuple fun d hd => ?_) .all_nil))))
    obtain ⟨r, _, rfl⟩ := List.mem_map.mp hd
    exact .tuple (.all_cons .int (.all_cons .int .all_nil))
  | beat n lasts =>
    refine .tuple (.all_cons (.str (by decide +kernel)) (.all_cons .int (.all_cons (.tuple fun d hd => ?_) .all_nil)))
    obtain ⟨r, _, rfl⟩ := List.mem_map.mp hd
    exact .int
theorem wid_part {n b : Nat} {rows : List (Int × Nat)} (h : rows.length ≤ 1000) : wid (Letter.enc (.part n b rows)) ≤ 1000 := wid_tup (by show 4 ≤ 1000; decide) fun d hd => by
  simp only [List.mem_cons, List.not_mem_nil, or_false] at hd
  rcases hd with rfl | rfl | rfl | rfl
  · simp [wid]
  · simp [wid]
  · simp [wid]
  · refine wid_tup (by rw [List.length_map]; exact h) fun d hd => ?_
    obtain ⟨r, _, rfl⟩ := List.mem_map.mp hd
    simp [wid, widAll]
theorem wid_beat {n : Nat} {lasts : List Nat} (h : lasts.length ≤ 1000) : wid (Letter.enc (.beat n lasts)) ≤ 1000 := wid_tup (by show 3 ≤ 1000; decide) fun d hd => by
  simp only [List.mem_cons, List.not_mem_nil, or_false] at hd
  rcases hd with rfl | rfl | rfl
  · simp [wid]
  · simp [wid]
  · refine wid_tup (by rw [List.length_map]; exact h) fun d hd => ?_
    obtain ⟨r, _, rfl⟩ := List.mem_map.mp hd
    simp [wid]
theorem wid_chg {n ah : Nat} {c : Ch} : wid (Letter.enc (.change n c ah)) ≤ 1000 := by simp [Letter.enc, wid, widAll]
end Cu

namespace Cu
open PySem PySem.Spec PyProof.Rows L2
/-! own exceptions: a class with an own __init__ (one field), what a def that raises promises -/
/-- CatchError.__init__ is ValueError's -/
structure CeR (K : PySem.W.Frag) (mg : Str → Option Value) (CE : Addr) : Prop where
  gm : mg "CatchError" = some (.ref CE)
  rd : PySem.W.readsIn K CE (.type "type") = true
  ga : PySem.W.specialIn K (.ref CE) "__getattribute__" = some (some (.builtin "type.__getattribute__"))
  at_ : PySem.W.findCls K (.ref CE) (.type "type") "__init__" = some (.val (.builtin "ValueError.__init__"))
section
variable {X : Cx} {e : Expr} {es : List Expr} {ta : TA} {p1 p2 pos : Pos} {CE : Addr}
theorem pe_ceinit {pl : Sem Bool} (T : CeR X.K X.mg CE) (ha : PA X (e :: es) ta) (hg : Gl X "CatchError" := by rfl)
    (hc : eval (.Call (.Attribute (.Name "CatchError" p1) "__init__" p2) (e :: es) [] pos) X.env = (do
      let ov ← eval (.Name "CatchError" p1) X.env
      standAt p2.atName
      let (f, first) ← holding [ov] (getMethod ov "__init__" pl)
      callWith pos f first (backTo pos (starEach (e :: es) X.env)) (backToKw pos (keywordEach [] X.env))) := by rfl)
    (he : starEach (e :: es) X.env = (false, eval e X.env) :: starEach es X.env := by rfl) (hpl : (backTo pos (starEach es X.env)).any (·.1) = false := by rfl) :
    PE X (.Call (.Attribute (.Name "CatchError" p1) "__init__" p2) (e :: es) [] pos) (tVeI X.K ta) := by
  refine ⟨fun pins s σ H Q I h => ?_⟩
  refine PySem.W.methodCall_KW (ld_glob I hg T.gm ?_) hc
  refine PySem.W.method_cls I.kIn T.ga (PySem.W.cls_value I.kIn T.rd T.at_ (by decide +kernel) ?_)
  show wpAny _ _ (callWith pos (Value.builtin "ValueError.__init__") [] (backTo pos (starEach (e :: es) X.env)) []) _ _ _
  refine PyProof.Rows.callWith_method1 (thn (ha.run pos pins _ σ H _ (I.tok _) h) fun us s1 ⟨vs, H1, I1, r1, a, C, ws, ev, hl, T, ea, q⟩ => ?_) he hpl
  subst ev
  cases r1 with
  | @cons _ u0 _ ur ra rw' =>
    obtain rfl : u0 = Value.ref a := ra
    have hlen : ur.length ≤ sizeLine := by
      rw [← Paired.length rw', sizeLine_eq]
      omega
    exact oinit_ok T I1 ea hlen fun s' J => ⟨.non, H1, J, rfl, q⟩
end
/-- a class over CatchError with an own __init__ and one field f -/
structure Xc (K : PySem.W.Frag) (C : Addr) (f : Str) : Prop where
  ox : OexC K C
  xf : XfC K C
  no : PySem.W.findIn K (.ref C) f = some none
/-- its text -/
structure Xd (K : PySem.W.Frag) (mg : Str → Option Value) (x : Str) (C : Addr) (qual : Str) (st : Stmt) : Prop where
  ex : ∃ f fd, Fun K "__init__" qual st f fd ∧ PySem.W.findIn K (.ref C) "__init__" = some (some (.ref f)) ∧ PySem.W.typeIn K (.ref f) = some (.type "function")
  gC : mg x = some (.ref C)
section
variable (P : Program) (w : World) (K : PySem.W.Frag) (mg : Str → Option Value) (base : Heap)
structure Xf (j : Nat) (x : Str) (C : Addr) (ps : List Str) (sp : Sp) : Prop where
  ex : ∃ f fd, FnOk P w K mg base CX0 j f fd ps sp ∧ PySem.W.findIn K (.ref C) "__init__" = some (some (.ref f)) ∧ PySem.W.typeIn K (.ref f) = some (.type "function") ∧ Binds K fd ps []
  gC : mg x = some (.ref C)
/-- a def that may raise -/
structure Gx (j : Nat) (x : Str) (ps : List Str) (sp : Sp) : Prop where
  ex : ∃ f fd, FnOk P w K mg base (L2.CX P w) j f fd ps sp ∧ mg x = some (.ref f) ∧ PySem.W.keepIn K (.ref f) = true ∧ Binds K fd ps []
end
section
variable {P : Program} {w : World} {K : PySem.W.Frag} {mg : Str → Option Value} {base : Heap} {x m qual : Str} {C : Addr} {st : Stmt} {N ps : List Str} {k : Nat} {sp : Sp}
theorem Xd.ok (F : Xd K mg x C qual st) (S : FnScope N ps (defScope st)) (b : Bnd "__init__" qual st ps) (len : ∀ vs H Q E, sp vs H Q E → vs.length = ps.length)
    (hbody : ∀ (qual : Str) (f : Addr) (cdv : Value) (A : Around) (outer : List Env) (s : Shared) (H : Hp) (vs : List V) (Q : VK) (E : XK), Room k (A.deeper (envOfC qual (defScope st) s.heap.objs.size f cdv)) → sp vs H Q E →
      ∃ t, PSs (cxOf CX0 P w K mg base N qual (defScope st) f cdv A outer s H E).nox (defBody st) t ∧ t { nx := fun _ H' => Q .non H', rt := Q } (start N vs) H) : Xf P w K mg base (k + 1) x C ps sp := by
  obtain ⟨⟨f, fd, F, hm, ht⟩, hx⟩ := F
  exact ⟨⟨f, fd, F.ok S len fun cdv A outer s H vs Q E hr h => hbody qual f cdv A outer s H vs Q E hr h, hm, ht, F.binds b⟩, hx⟩
theorem Fd.okX (F : Fd K mg x st) (S : FnScope N ps (defScope st)) (b : Bnd x x st ps) (len : ∀ vs H Q E, sp vs H Q E → vs.length = ps.length)
    (hbody : ∀ (qual : Str) (f : Addr) (cdv : Value) (A : Around) (outer : List Env) (s : Shared) (H : Hp) (vs : List V) (Q : VK) (E : XK), Room k (A.deeper (envOfC qual (defScope st) s.heap.objs.size f cdv)) → sp vs H Q E →
      ∃ t, PSs (cxOf (L2.CX P w) P w K mg base N qual (defScope st) f cdv A outer s H E) (defBody st) t ∧ t { nx := fun _ H' => Q .non H', rt := Q } (start N vs) H) : Gx P w K mg base (k + 1) x ps sp := by
  obtain ⟨f, fd, F, hm⟩ := F.ex
  exact ⟨f, fd, F.okX S len fun cdv A outer s H vs Q E hr h => hbody x f cdv A outer s H vs Q E hr h, hm, F.kp, F.binds b⟩
end
section
variable {X : Cx} {j k : Nat} {x m : Str} {C : Addr} {ps : List Str} {sp : Sp} {p pos apos : Pos} {e o : Expr} {es : List Expr} {t : TA} {to : TE}
/-- x(..), nothing raised -/
theorem pcx (g : Gx X.prog X.w X.K X.mg X.base j x ps sp) (hr : Room k X.A) (ha : PA X (e :: es) t) (hg : Gl X x := by rfl) (hj : j ≤ k := by decide) (hdb : (x == ("__debug__" : Str)) = false := by decide)
    (he : starEach (e :: es) X.env = (false, eval e X.env) :: starEach es X.env := by rfl) (hpl : (backTo pos (starEach es X.env)).any (·.1) = false := by rfl) :
    PE X (.Call (.Name x p) (e :: es) [] pos) (tCall sp [] E0 t) := by
  obtain ⟨f, fd, F, hm, hk, hb⟩ := g.ex
  exact pe_call F (hr.mono hj) hg hm hk hb .nil passL ha hdb he hpl
/-- x(..), which may raise: W takes it -/
theorem pcy {W : WX} (tk : Takes X W) (g : Gx X.prog X.w X.K X.mg X.base j x ps sp) (hr : Room k X.A) (ha : PA X (e :: es) t) (hg : Gl X x := by rfl) (hj : j ≤ k := by decide) (hdb : (x == ("__debug__" : Str)) = false := by decide)
    (he : starEach (e :: es) X.env = (false, eval e X.env) :: starEach es X.env := by rfl) (hpl : (backTo pos (starEach es X.env)).any (·.1) = false := by rfl) :
    PE X (.Call (.Name x p) (e :: es) [] pos) (tCallS sp (WE W) t) := by
  obtain ⟨f, fd, F, hm, hk, hb⟩ := g.ex
  exact pe_callS F (hr.mono hj) hg hm hk hb (passAt tk) ha hdb he hpl
/-- C(..), made to be raised -/
theorem px (T : OexC X.K C) (g : Xf X.prog X.w X.K X.mg X.base j x C ps sp) (hr : Room k X.A) (ha : PA X (e :: es) t) (hg : Gl X x := by rfl) (hj : j + 1 ≤ k := by decide) (hdb : (x == ("__debug__" : Str)) = false := by decide)
    (he : starEach (e :: es) X.env = (false, eval e X.env) :: starEach es X.env := by rfl) (hpl : (backTo pos (starEach es X.env)).any (·.1) = false := by rfl) :
    PMk X (.Call (.Name x p) (e :: es) [] pos) (tMkO C sp [] t) := by
  obtain ⟨f, fd, F, hm, ht, hb⟩ := g.ex
  exact pmk_oex T hm ht F (hr.mono hj) hb .nil pass0 hg g.gC ha hdb he hpl
end
/-- C.__init__(self, v): self.f = v -/
def spXi (C : Addr) (f : Str) : Sp := fun vs H Q _ => vs.length = 2 ∧ ∃ (a : Addr) (v : V), vs = [.ref a, v] ∧ H a = some (exo a C none) ∧ ∀ dx, H dx = none → dx ≠ a → Q .non (upd (upd H dx (exd dx [(f, v)])) a (exo a C (some dx)))
/-- what is behind making it -/
theorem xmade {C : Addr} {f : Str} {v : V} {H : Hp} {Q : XK} (h : ∀ d, H d = none → Q (.ref C) (some d) (upd H d (.xd [(f, v)]))) (a : Addr) (ha : H a = none) :
    spXi C f (.ref a :: ([v] ++ [])) (upd H a (exo a C none)) (fun u H2 => u = .non ∧ ∃ (d : Addr) (fs : List (Str × V)), H2 a = some (exo a C (some d)) ∧ H2 d = some (exd d fs) ∧ H d = none ∧ Q (.ref C) (some d) (upd (del H2 a) d (.xd fs))) (fun _ _ _ => False) := by
  refine ⟨rfl, a, v, rfl, upd_same, fun dx hdx hne => ⟨rfl, dx, [(f, v)], upd_same, ?_, ?_, ?_⟩⟩
  · rw [upd_ne hne]
    exact upd_same
  · rw [upd_ne hne] at hdx
    exact hdx
  · have hdx' : H dx = none := by rw [upd_ne hne] at hdx; exact hdx
    have e : upd (del (upd (upd (upd H a (exo a C none)) dx (exd dx [(f, v)])) a (exo a C (some dx))) a) dx (.xd [(f, v)]) = upd H dx (.xd [(f, v)]) := by
      funext b
      by_cases hb : b = dx
      · subst hb
        rw [upd_same, upd_same]
      · rw [upd_ne hb, upd_ne hb]
        by_cases hba : b = a
        · subst hba
          rw [del_same, ha]
        · rw [del_ne hba, upd_ne hba, upd_ne hb, upd_ne hba]
    rw [e]
    exact h dx hdx'
/-- such a class in an except clause of its own -/
theorem exm_of {K : PySem.W.Frag} {C : Addr} (T : Xc K C "place") (h : PySem.W.subIn K (.ref C) (.ref C) = some true) : PySem.W.exmOne K (.ref C) (.ref C) = some true :=
  PySem.W.exm_ref T.ox.exC T.xf.hdC T.ox.tyC h
end Cu

namespace Cu
open PySem PySem.Spec PyProof.Rows L2
section
variable {X : Cx} {x n : Str} {c : Value} {i : Nat} {body suite : List Stmt} {b₀ : Stmt} {np pos pos' : Pos} {Wout : WX}
/-- try .. except x as n: the readings may name what the body's and the suite's own contexts hold -/
theorem ps_tryT {tt : WX → List (Addr × Obj) → (Value → Shared → Prop) → TS} {ts : Addr → Obj → Value → Option Addr → List (Addr × Obj) → TS}
    (hs : X.stack = X.env :: X.outer) (hf : X.env.frame = some X.env.locals) (hN : X.N.Nodup) (hi : X.N[i]? = some n) (hln : X.env.kindOf n = some .local) (hc : Names X x c) (tk : Takes X Wout)
    (hb : ∀ (W : WX) (pn : List (Addr × Obj)) (xe : Value → Shared → Prop), Takes (X.tr pn xe) W → PassesOwn (model X.prog X.w) X.A X.env xe → PSs (X.tr pn xe) body (tt W pn xe))
    (hsu : ∀ (a : Addr) (oe : Obj) (cls : Value) (d : Option Addr) (pn : List (Addr × Obj)), Zc cls d oe → (∃ vs, oe.data = .fields vs) → PSs (X.suite a ((a, oe) :: pn)) (b₀ :: suite) (ts a oe cls d pn)) :
    PS X (.Try body [.ExceptHandler (some (.Name x np)) (some n) (b₀ :: suite) pos'] [] [] pos)
      (fun D σ H => ∀ pn xe, tt (wAs X.K c i (fun a cls d D σ H => ∀ oe pn, ts a oe cls d pn D σ H) Wout D) pn xe D σ H) :=
  ps_try_as (tb := fun W D σ H => ∀ pn xe, tt W pn xe D σ H) (ts := fun a cls d D σ H => ∀ oe pn, ts a oe cls d pn D σ H) hs hf hN hi hln hc tk
    (fun W pn xe tk po => ⟨fun pins s σ H D I h => (hb W pn xe tk po).run pins s σ H D I (h pn xe)⟩)
    (fun a oe cls d pn hz hf => ⟨fun pins s σ H D I h => (hsu a oe cls d pn hz hf).run pins s σ H D I (h oe pn)⟩)
end
end Cu

namespace Cu
open PySem PySem.Spec PyProof.Rows L2
abbrev s_BadKnown_init : Stmt := (inClass (top 7) 0)
theorem sc_BadKnown_init : FnScope ["self", "key"] ["self", "key"] (defScope s_BadKnown_init) := ⟨rfl, rfl, rfl, by decide +kernel, rfl, by decide +kernel, by decide +kernel⟩

def xdK (n : Nat) : HO := .xd [("key", .int n)]
section
variable {P : Program} {w : World} {K : PySem.W.Frag} {mg : Str → Option Value} {base : Heap} {C CE : Addr}
theorem ok_BadKnown (F : Xd K mg "BadKnown" C "BadKnown.__init__" s_BadKnown_init) (CCatchError : CeR K mg CE) (XBadKnown : Xc K C "key") : Xf P w K mg base 1 "BadKnown" C ["self", "key"] (spXi C "key") := by
  refine F.ok sc_BadKnown_init (fun _ _ _ _ _ _ us hl => match us, hl with | [_, _], _ => rfl) len_of fun qual f cdv A0 outer s H vs Q E hr h => ?_
  obtain ⟨_, a, v, rfl, ha, k⟩ := h
  refine ⟨_, (pss_cons (ps_expr (pe_ceinit CCatchError (pa_cons (pv 0) (pa_cons pe_str pa_nil)))) (pss_one (ps_ost (pv 0) (pv 1)))), ?_⟩
  refine ⟨_, rfl, a, C, _, rfl, (by decide), XBadKnown.ox, ha, ?_⟩
  exact ⟨_, rfl, _, rfl, a, C, rfl, XBadKnown.ox, XBadKnown.no, .inl ⟨ha, k⟩⟩
end
end Cu

namespace Cu
open PySem PySem.Spec PyProof.Rows L2
abbrev s_need_known : Stmt := (top 16)
theorem sc_need_known : FnScope ["board", "known", "key"] ["board", "known"] (defScope s_need_known) := ⟨rfl, rfl, rfl, by decide +kernel, rfl, by decide +kernel, by decide +kernel⟩

def badK1 (n : Nat) (ns : List Int) (k : Nat) : Bool := decide (ns.length ≤ k) || !(decide (-1 ≤ ns.getD k 0) && decide (ns.getD k 0 ≤ (n : Int)))
/-- the first key whose number nobody can know, or how many keys there are -/
def badN (nk n : Nat) (ns : List Int) : Option Nat := match (List.range nk).find? (badK1 n ns) with
  | some k => some k
  | none => if nk < ns.length then some nk else none
theorem badN_at {nk n k : Nat} {ns : List Int} (hk : k < nk) (h : ∀ j, j < k → badK1 n ns j = false) (hb : badK1 n ns k = true) : badN nk n ns = some k := by
  have e : (List.range nk).find? (badK1 n ns) = some k := by
    rw [List.find?_range_eq_some]
    exact ⟨hb, List.mem_range.mpr hk, fun j hj => by rw [h j hj]; rfl⟩
  unfold badN
  rw [e]
theorem badN_end {nk n : Nat} {ns : List Int} (h : ∀ j, j < nk → badK1 n ns j = false) : badN nk n ns = if nk < ns.length then some nk else none := by
  have e : (List.range nk).find? (badK1 n ns) = none := by
    rw [List.find?_eq_none]
    intro i hi
    rw [h i (List.mem_range.mp hi)]
    simp
  unfold badN
  rw [e]
theorem getD_mem {ns : List Int} {k : Nat} (h : k < ns.length) : ns.getD k 0 ∈ ns := by
  rw [List.getD_eq_getElem?_getD, List.getElem?_eq_getElem h]
  exact List.getElem_mem h
theorem kn_of {nk : Nat} {cs : List Ch} {ns : List Int} (h : ∀ j, j < nk → badK1 cs.length ns j = false) (hl : ¬ nk < ns.length) : Kn nk cs ns := by
  have hlen : ns.length = nk := by
    rcases Nat.lt_or_ge ns.length nk with q | q
    · have := h ns.length q
      unfold badK1 at this
      rw [decide_eq_true (Nat.le_refl _), Bool.true_or] at this
      cases this
    · omega
  refine ⟨hlen, fun z hz => ?_⟩
  obtain ⟨j, hj⟩ := List.getElem?_of_mem hz
  have hj' := (List.getElem?_eq_some_iff.mp hj).1
  have e : ns.getD j 0 = z := by rw [List.getD_eq_getElem?_getD, hj]; rfl
  have := h j (by omega)
  unfold badK1 at this
  rw [e, Bool.or_eq_false_iff, Bool.not_eq_false', Bool.and_eq_true] at this
  exact ⟨of_decide_eq_true this.2.1, of_decide_eq_true this.2.2⟩
def spNeedX (K : PySem.W.Frag) (CB CK : Addr) : Sp := fun vs H Q E => vs.length = 2 ∧ ∃ (B : BA) (nk keep : Nat) (cs : List Ch) (c : Lg) (kn : Addr) (ns : List Int), vs = [.ref B.p, .ref kn] ∧ BR K CB B nk keep cs H c ∧ Has H c ∧ SqL K H kn (ns.map V.int) ∧ nk ≤ 8 ∧
  (∀ k, badN nk cs.length ns = some k → ∀ d H', Grow H H' → H' d = some (xdK k) → E (.ref CK) (some d) H') ∧ (badN nk cs.length ns = none → Kn nk cs ns → Q .non H)
section
variable {P : Program} {w : World} {K : PySem.W.Frag} {mg : Str → Option Value} {base : Heap} {CB CK : Addr}
theorem ok_need_knownX (F : Fd K mg "need_known" s_need_known) (Bm : Blt mg) (CBoard : CBo K CB) (m_Board_size : Mf P w K mg base 1 CB "size" ["self"] (spBsize K CB)) (m_Board_number : Mf P w K mg base 1 CB "number" ["self"] (spBnumber K CB))
    (x_BadKnown : Xf P w K mg base 1 "BadKnown" CK ["self", "key"] (spXi CK "key")) (XBadKnown : Xc K CK "key") : Gx P w K mg base 3 "need_known" ["board", "known"] (spNeedX K CB CK) := by
  refine F.okX sc_need_known (fun _ _ _ _ _ _ us hl => match us, hl with | [_, _], _ => rfl) len_of fun qual f cdv A0 outer s H vs Q E hr h => ?_
  obtain ⟨_, B, nk, keep, cs, c, kn, ns, rfl, r, hc, hs, h8, kE, go⟩ := h
  refine ⟨_, (pss_cons (ps_for (passes_of rfl) rfl (pi_range1 rfl Bm.range (pa_cons (pm0 (pv 0) CBoard.cl m_Board_size hr) pa_nil)) (pg_name (i := 2) sc_need_known.nd rfl (Or.inl rfl))
        (pss_one (ps_if (PW.pt (pw_or (pt_cmpR op_ge (pv 2) (pe_callB call_len_seq rfl Bm.len (by decide +kernel) (pa_cons (pv 1) pa_nil)) (nomark _)) (pw_or1 (pt_not (pt_chain op_le op_le (pe_un un_neg pe_int) (pe_ix ix_list (pv 1) (pv 2) (fun _ _ => rfl)) (pm0 (pv 0) CBoard.cl m_Board_number hr))))))
          (pss_one (ps_raise rfl (takes_of rfl rfl rfl rfl) (px XBadKnown.ox x_BadKnown hr (pa_cons (pv 2) pa_nil))))
          pss_nil)))
      (pss_one (ps_if (pt_cmpR op_gt (pe_callB call_len_seq rfl Bm.len (by decide +kernel) (pa_cons (pv 1) pa_nil)) (pm0 (pv 0) CBoard.cl m_Board_size hr) (nomark _))
        (pss_one (ps_raise rfl (takes_of rfl rfl rfl rfl) (px XBadKnown.ox x_BadKnown hr (pa_cons (pm0 (pv 0) CBoard.cl m_Board_size hr) pa_nil))))
        pss_nil))), ?_⟩
  have hln : (ns.map V.int).length = ns.length := List.length_map ..
  refine rd_bsize (by rfl) r hc ⟨_, rfl, by omega, by omega, for_range (lo := 0) (n := (nk : Int).toNat) (fun i σ H' => ∃ v, σ = [some (.ref B.p), some (.ref kn), v] ∧ H' = H ∧ ∀ j, j < i → badK1 cs.length ns j = false) ⟨none, rfl, rfl, fun _ h => absurd h (Nat.not_lt_zero _)⟩ ?_ ?_⟩
  · rintro i σ H' hi ⟨v, rfl, rfl, hj⟩
    have hi' : i < nk := by omega
    have ez : ((0 : Int) + i) = (i : Int) := by omega
    rw [ez]
    have raise_ : badK1 cs.length ns i = true → ∀ d, H' d = none → E (.ref CK) (some d) (upd H' d (.xd [("key", .int (i : Int))])) := fun hb d hd => kE i (badN_at hi' hj hb) d _ ((Grow.refl _).old hd) upd_same
    have next_ : badK1 cs.length ns i = false → ∀ j, j < i + 1 → badK1 cs.length ns j = false := fun hb j h => by
      rcases Nat.lt_succ_iff_lt_or_eq.mp h with h | rfl
      · exact hj j h
      · exact hb
    refine ⟨_, rfl, _, rfl, kn, _, rfl, .inl hs, _, _, rfl, rfl, _, rfl, ite2 (fun c1 => ?_) fun c1 => ?_⟩
    · have h1 : ns.length ≤ i := by
        have := of_decide_eq_true c1
        rw [hln] at this
        omega
      refine iteP rfl ⟨_, rfl, (by show 1 ≤ 1000; decide), xmade fun d hd => raise_ ?_ d hd⟩
      unfold badK1
      rw [decide_eq_true h1, Bool.true_or]
    have h1 : i < ns.length := by
      rcases Nat.lt_or_ge i ns.length with q | q
      · exact q
      · exact absurd (decide_eq_true (show (((ns.map V.int).length : Nat) : Int) ≤ (i : Int) by rw [hln]; omega)) c1
    have hat := getD_at h1
    refine ⟨_, rfl, _, rfl, _, rfl, kn, _, _, _, rfl, rfl, hs, hat, _, _, rfl, rfl, _, rfl, ite2 (fun c2 => ?_) fun c2 => ?_⟩
    · have h2 : -1 ≤ ns.getD i 0 := of_decide_eq_true c2
      refine rd_bnumber (by rfl) r hc ⟨_, _, rfl, rfl, _, rfl, ite2 (fun c3 => ?_) fun c3 => ?_⟩
      · refine ⟨_, rfl, (by show 1 ≤ 1000; decide), xmade fun d hd => raise_ ?_ d hd⟩
        have h3 : ¬ ns.getD i 0 ≤ (cs.length : Int) := by simpa using c3
        unfold badK1
        rw [decide_eq_false h3, Bool.and_false]
        simp
      · refine ⟨_, rfl, rfl, next_ ?_⟩
        have h3 : ns.getD i 0 ≤ (cs.length : Int) := by simpa using c3
        unfold badK1
        rw [decide_eq_false (show ¬ ns.length ≤ i by omega), decide_eq_true h2, decide_eq_true h3]
        rfl
    · refine ⟨_, rfl, iteP rfl ⟨_, rfl, (by show 1 ≤ 1000; decide), xmade fun d hd => raise_ ?_ d hd⟩⟩
      have h2 : ¬ -1 ≤ ns.getD i 0 := fun z => c2 (decide_eq_true z)
      unfold badK1
      rw [decide_eq_false h2, Bool.false_and]
      simp
  · rintro σ H' ⟨v, rfl, rfl, hj⟩
    rw [Int.toNat_natCast] at hj
    have en := badN_end hj
    refine ⟨_, rfl, kn, _, rfl, .inl hs, ?_⟩
    refine rd_bsize (by rfl) r hc ⟨_, _, rfl, rfl, _, rfl, ite2 (fun c1 => ?_) fun c1 => ?_⟩
    · have h1 : nk < ns.length := by
        have := of_decide_eq_true c1
        rw [hln] at this
        omega
      rw [if_pos h1] at en
      refine rd_bsize (by rfl) r hc ⟨(by show 1 ≤ 1000; decide), xmade fun d hd => kE nk en d _ ((Grow.refl _).old hd) upd_same⟩
    · have h1 : ¬ nk < ns.length := fun z => c1 (decide_eq_true (show (nk : Int) < (((ns.map V.int).length : Nat) : Int) by rw [hln]; omega))
      rw [if_neg h1] at en
      exact go en (kn_of hj h1)
end
end Cu

namespace Cu
open PySem PySem.Spec PyProof.Rows L2
/-- an own class over CatchError without an own __init__ -/
structure Xo (K : PySem.W.Frag) (mg : Str → Option Value) (x : Str) (C : Addr) : Prop where
  gC : mg x = some (.ref C)
  ex : PySem.W.excIn K C [.type "ValueError", .type "Exception", .type "BaseException", .type "object"] "ValueError.__new__" = true
  kC : PySem.W.keepIn K (.ref C) = true
  su : PySem.W.subIn K (.ref C) (.type "BaseException") = some true
  ty : PySem.W.typeIn K (.ref C) = some (.type "type")
theorem pxo {X : Cx} {x m : Str} {C : Addr} {j : Nat} {p p2 pos : Pos} (T : Xo X.K X.mg x C) (hg : Gl X x := by rfl) (hdb : (x == ("__debug__" : Str)) = false := by decide) : PMk X (.Call (.Name x p) [.Constant (.str m) j p2] [] pos) (fun _ H Q => Q (.ref C) none H) :=
  pmk_own PySem.F.excBase_ValueError T.ex T.gC T.kC (raises_own T.su T.ty) hg hdb
end Cu

namespace Cu
open PySem PySem.Spec PyProof.Rows L2
open PySem.W (findIn subIn hasDictIn specialIn takesIn mroIn InstAt looks_findIn looks_find looks_subIn any_some clsIn check_slot class_get KitX findObj)
section
variable {prog : Program} {w : World} {A : Around} {E : Value → Shared → Prop} {s : Shared} {K : PySem.W.Frag} {x D : Addr} {ox : Obj} {od : Option Obj}
/-- a data attribute of the class is found whatever the dict holds -/
theorem find_data {C : Addr} {name : Str} {a g : Value} (hc : (clsIn K C).isSome = true) (ha : findIn K (.ref C) name = some (some a)) (hg : specialIn K a "__get__" = some (some g)) (ht : takesIn K a = some true) : findObj K C od name = some (.bind g a) := by
  obtain ⟨cd, hc⟩ := Option.isSome_iff_exists.mp hc
  unfold findObj
  rw [hc, Option.bind_some, ha, Option.bind_some]
  simp [hg, ht]
/-- e.__class__, e an exception of an own class, with or without a dict -/
theorem exc_class (T : ExcC K D) {Q : Option Value → Shared → Prop} (X : K.In s.heap) (I : InstAt s.heap x ox D od) (h : Q (some (.ref D)) { s with toks := s.toks + 1 }) : wpAny (model prog w) A (getAttr? (.ref x) "__class__") Q E s := by
  have hf : findObj K D od "__class__" = some (.bind (.builtin "getset_descriptor.__get__") (.builtin "object.__class__")) := find_data (by obtain ⟨cd, hc, _⟩ := any_some T.hd; rw [hc]; rfl) T.ha T.hn T.ht
  obtain ⟨hp, g, d, t, os⟩ := s
  have L0 := I.type (M := model prog w)
  have L1 := looks_findIn (M := model prog w) X T.hg
  have L2 := looks_findIn (M := model prog w) X T.hk
  have L3 := looks_find (M := model prog w) X I hf
  have sub : PySem.W.Looks (model prog w) hp (isInstance (.ref x) (.type "BaseException")) true := L0.andThen (looks_subIn X T.hs)
  have n1 : (false && onTheHeap (Value.builtin "BaseException.__getattribute__")) = false := rfl
  have n2 : (Value.builtin "BaseException.__getattribute__" == Value.builtin "object.__getattribute__") = false := by decide +kernel
  have n3 : (onTheHeap (Value.ref D) && Value.builtin "BaseException.__getattribute__" == Value.builtin "object.__getattribute__") = false := by rw [n2]; rfl
  unfold getAttr? getAttrBy? getAttrBy
  refine wpAny_bind (wpAny_mkText (wpAny_bind (wpAny_attempt (wpAny_holding (wpAny_bind (L0.at (wpAny_bind (L1.at ?_))))))))
  show wpAny _ _ (if (onTheHeap (Value.ref D) && Value.builtin "BaseException.__getattribute__" == Value.builtin "object.__getattribute__") = true then _ else _) _ _ _
  rw [n3, if_neg Bool.false_ne_true]
  unfold getAttrByItsOwn hookBefore
  refine wpAny_bind ?_
  rw [if_pos (show onTheHeap (Value.ref D) = true from rfl)]
  refine L2.at ?_
  refine wpAny_bind (wpAny_attempt (wpAny_holding ?_))
  unfold callGetattribute
  rw [n1, if_neg Bool.false_ne_true]
  unfold boundAndCalled
  rw [PySem.F.excAttr_ValueError.ga.bind (.ref x)]
  refine wpAny_bind (wpAny_pure ?_)
  show wpAny _ _ (call (.builtin "BaseException.__getattribute__") [.ref x, .str "__class__" t]) _ _ _
  refine wpAny_call (codeAny_call_builtin PySem.F.excAttr_ValueError.ga.plain PySem.F.entry_bexc_ga ?_)
  refine @check_slot (model prog w) _ _ ⟨hp, g, d, t + 1, os⟩ "BaseException.__getattribute__" "BaseException" "__getattribute__" (.ref x) [.str "__class__" t] [] _ (by decide +kernel) (by decide +kernel) sub (PySem.F.args_bexc_ga (.ref x) (.str "__class__" t)) ?_
  unfold Builtin.«object.__getattribute__»
  refine wpAny_bind (wpAny_of_eq (a := ((Value.ref x : Value), [Value.str "__class__" t])) (by first | rfl | (simp only [slotArgs]; rfl)) ?_)
  refine wpAny_bind (wpAny_pure (wpAny_bind (L0.at (wpAny_bind (L3.at ?_)))))
  show wpAny _ _ (holding [Value.builtin "object.__class__"] (call (.builtin "getset_descriptor.__get__") [.builtin "object.__class__", .ref x, .ref D]) >>= ret) _ _ _
  refine wpAny_bind (wpAny_holding (wpAny_call (class_get (s := ⟨hp, g, d, t + 1, os⟩) X I T.hm ?_)))
  refine wpAny_pure ?_
  show wpAny _ _ (handedOut (.ref D)) _ _ _
  rw [PySem.W.handedOut_of (v := .ref D) rfl]
  first
    | exact wpAny_pure (wpAny_pure h)
    | exact wpAny_pure h
    | exact wpAny_pure (wpAny_bind (wpAny_pure (wpAny_pure h)))
theorem kitx_exc (T : ExcC K D) : KitX K (.ref x) (.ref D) (fun h => ∃ od, InstAt h x ox D od) where
  ty := fun _ _ _ ⟨_, I⟩ => I.type
  it := fun _ _ X _ => by
    obtain ⟨cdD, hcD, _⟩ := any_some T.hd
    unfold PySem.W.clsIn at hcD
    split at hcD
    · rename_i c' d' cd' sl' ho
      intro A' Q' E' s' k q
      unfold isType loadHead
      exact wpAny_bind (wpAny_loadPart (k _ _ (X _ _ ho)) (wpAny_pure q))
    · cases hcD
  ne := fun h tp dd its n sl X htp => by
    obtain ⟨cdD, hcD, _⟩ := any_some T.hd
    refine Bool.eq_false_iff.mpr fun q => ?_
    have e : D = tp := Value.ref.inj (beq_iff_eq.mp q)
    subst e
    unfold PySem.W.clsIn at hcD
    split at hcD
    · rename_i c' d' cd' sl' ho
      have z := (X _ _ ho).symm.trans htp
      cases z
    · cases hcD
  ca := fun X ⟨_, I⟩ k => exc_class T X I k
end
/-- isinstance(e, c), e the exception that the suite holds (its class D, its dict d) -/
def rIsX (K : PySem.W.Frag) (D a : Addr) (d : Option Addr) : List V → Hp → VK → Prop := fun xs H Q => ∃ (c : V) (cv : Value) (b : Bool), xs = [.ref a, c] ∧ (∀ u, RelV c u → u = cv) ∧ PySem.W.kitOne K (.ref D) cv = some b ∧ (∀ dd, d = some dd → ∃ fs, H dd = some (.xd fs)) ∧ Q (.bl b) H
theorem call_isX {X : Cx} {a : Addr} {oe : Obj} {cls : Value} {d : Option Addr} {pn : List (Addr × Obj)} (hz : Zc cls d oe) (hf : ∃ vs, oe.data = .fields vs) :
    CallR (X.suite a ((a, oe) :: pn)) (.builtin "isinstance") (fun xs H Q => ∃ D, cls = .ref D ∧ ExcC X.K D ∧ rIsX X.K D a d xs H Q) := by
  intro pins s σ H xs us Q I r h
  obtain ⟨D, ec, C, c, cv, b, rfl, hcv, e, hd, q⟩ := h
  subst ec
  cases r with
  | cons rx rr =>
    cases rr with
    | cons rt rr =>
      cases rr
      cases rx
      have ec := hcv _ rt
      subst ec
      obtain ⟨hget, _⟩ := I.pin (a, oe) (List.mem_append.mpr (.inl List.mem_cons_self))
      obtain ⟨vs, hv⟩ := hf
      have J : ∃ od, InstAt s.heap a oe D od := by
        obtain ⟨oc, od, oda, osl⟩ := oe
        obtain ⟨h1, h2⟩ := hz
        dsimp only at h1 h2 hv
        subst h1 h2 hv
        cases od with
        | none => exact ⟨none, hget, rfl, rfl, trivial⟩
        | some dd =>
          obtain ⟨fs, hfs⟩ := hd dd rfl
          have hx : ObjOk X.prog X.w H s.heap dd (.xd fs) := I.hok dd _ hfs
          obtain ⟨mA, hns, _⟩ := hx
          obtain ⟨o, ho, _⟩ := lookIn_ns hns
          exact ⟨some o, hget, rfl, rfl, ho⟩
      exact PySem.W.kia_one (kitx_exc (ox := oe) C) I.kIn J e (fun z => nomatch z) fun tk => ⟨.bl b, H, I.kept (t' := tk) fun _ _ z => z, rfl, q⟩
end Cu

namespace Cu
open PySem PySem.Spec PyProof.Rows L2
open LamX (TabS Tabs ExtN CodeO TabB)
/-! a lambda's code table, owned -/
/-- what is known of the table's entries -/
def TabI (H : Hp) (q : Str) (ps : Array Value) : Prop := PySem.TriplesOk ps.toList ∧ ∀ (pos : Pos) (cv : Value), codeAmong pos ps.toList = some cv → ∃ c, cv = .ref c ∧ H c = some (CodeO c q)
theorem codeO_imm (c : Addr) (q : Str) : Imm (CodeO c q) := by
  unfold CodeO
  exact trivial
theorem TabI.mono {H H' : Hp} {q : Str} {ps : Array Value} (t : TabI H q ps) (m : Mono H H') : TabI H' q ps :=
  ⟨t.1, fun pos cv h => let ⟨c, e1, e2⟩ := t.2 pos cv h; ⟨c, e1, m _ _ e2 (codeO_imm c q)⟩⟩
theorem TabI.nil (H : Hp) (q : Str) : TabI H q #[] := ⟨trivial, fun pos cv h => by simp [codeAmong] at h⟩
theorem ntbl {ps : Array Value} : ¬ Imm (.tbl ps) := fun h => h
theorem ExtN.mono {H H' : Hp} (e : ExtN H H') : Mono H H' := fun b o h i => e b o h fun ps z => by
  rw [z] at i
  exact i
/-- the table, and behind the making of a lambda -/
theorem tabs_of {H : Hp} {P : Addr} {q : Str} {ps : Array Value} (h : H P = some (.tbl ps)) (t : TabI H q ps) : Tabs [(P, q)] H := fun p hp => by
  rw [List.mem_singleton.mp hp]
  exact ⟨ps, h, t.1, t.2⟩
theorem has_lam {H H1 : Hp} {P : Addr} {q : Str} {ps : Array Value} {l : Lg} (h : Has H ((P, .tbl ps) :: l)) (nt : ∀ p ∈ l, ∀ qs, p.2 ≠ .tbl qs) (e : ExtN H H1) (t : Tabs [(P, q)] H1) : ∃ ps', H1 P = some (.tbl ps') ∧ Has H1 ((P, .tbl ps') :: l) ∧ TabI H1 q ps' := by
  obtain ⟨ps', h1, h2, h3⟩ := t (P, q) List.mem_cons_self
  refine ⟨ps', h1, ⟨h.nd, fun p hp => ?_⟩, h2, h3⟩
  rcases List.mem_cons.mp hp with rfl | hp
  · exact ⟨h1, ntbl⟩
  · have := h.at_ p (List.mem_cons_of_mem _ hp)
    exact ⟨e _ _ this.1 (nt p hp), this.2⟩
theorem Dice.lam {K : PySem.W.Frag} {H H1 : Hp} {a P : Addr} {q : Str} {ps : Array Value} {R : Lg} (d : Dice K H a ((P, .tbl ps) :: R)) (nt : ∀ p ∈ R, ∀ qs, p.2 ≠ .tbl qs) (e : ExtN H H1) (t : Tabs [(P, q)] H1) : ∃ ps', Dice K H1 a ((P, .tbl ps') :: R) ∧ TabI H1 q ps' := by
  obtain ⟨c, ns, i, m, r, h1, h2, h3, h⟩ := d
  obtain ⟨ps', _, hb, hc⟩ := has_lam h.swap2 (fun p hp qs => by
    rcases List.mem_cons.mp hp with rfl | hp
    · exact fun z => nomatch z
    · exact nt p hp qs) e t
  exact ⟨ps', ⟨c, ns, i, m, r, h1, h2, h3.mono (ExtN.mono e), hb.swap2⟩, hc⟩
/-- a def whose code object is known -/
theorem Fun.okC {P : Program} {w : World} {K : PySem.W.Frag} {mg : Str → Option Value} {base : Heap} {x qual : Str} {st : Stmt} {f c : Addr} {fd : FuncData} {N ps : List Str} {k : Nat} {sp : Sp} (F : Fun K x qual st f fd) (hc : fd.code = .ref c) (S : FnScope N ps (defScope st)) (len : ∀ vs H Q E, sp vs H Q E → vs.length = ps.length)
    (hbody : ∀ (A : Around) (outer : List Env) (s : Shared) (H : Hp) (vs : List V) (Q : VK) (E : XK), Room k (A.deeper (envOfC qual (defScope st) s.heap.objs.size f (.ref c))) → sp vs H Q E →
      ∃ t, PSs (cxOf CX0 P w K mg base N qual (defScope st) f (.ref c) A outer s H E).nox (defBody st) t ∧ t { nx := fun _ H' => Q .non H', rt := Q } (start N vs) H) : FnOk P w K mg base CX0 (k + 1) f fd ps sp := by
  obtain ⟨oc, od, kV, doc, pm, an, cdv, ct, osl, rfl, lk, hcd⟩ := F.ex
  have e : cdv = .ref c := hc
  subst e
  refine fn_of lk hcd S len fun A outer s H vs Q E hr hsp => ?_
  obtain ⟨t, h, q⟩ := hbody A outer s H vs Q E hr hsp
  exact ⟨t, h.nox, q⟩
/-- a law that makes lambdas: the script's list, the table of its code -/
def spLawT (K : PySem.W.Frag) (P : Addr) : Sp := fun vs H Q _ => vs.length = 1 ∧ ∃ (a : Addr) (ns : List Int), vs = [.ref a] ∧ ns.length ≤ 63 ∧ SqL K H a (ns.map V.int) ∧ H P = some (.tbl #[]) ∧ ∀ H', Q (.bl true) H'
/-- the list is frozen already, or is from now on -/
theorem sq_fz {K : PySem.W.Frag} {H : Hp} {a : Addr} {xs : List V} (h : SqL K H a xs) : FzL K H a xs ∨ H a = some (.lst xs) := by
  rcases h with (h | ⟨o, h⟩) | h
  · exact .inr h
  · exact .inl (FzL.of h)
  · exact .inl fun H' _ => .inr h
end Cu

namespace Cu
open PySem PySem.Spec PyProof.Rows L2
open LamX (CodeO TabB ExtN inv_table LamS)
/-! a lambda as a value: its object stands, its code's table is owned -/
/-- at f: a lambda's object; dV: its default values' tuple, or none -/
def LamO (f : Addr) (q : Str) (params : Arguments) (body : Expr) (scope : Scope) (clos : List (Str × Addr)) (dV : Value) (c' : Addr) : HO := .ext fun h => ∃ doc pm ctv : Value, h.get? f = some (PySem.W.kdv_obj "<lambda>" q params (.expr body) scope clos dV doc pm c' ctv)
theorem lamO_imm {f : Addr} {q : Str} {params : Arguments} {body : Expr} {scope : Scope} {clos : List (Str × Addr)} {dV : Value} {c' : Addr} : Imm (LamO f q params body scope clos dV c') := by
  unfold LamO
  exact trivial
theorem lamO_ok {P : Program} {w : World} {H : Hp} {h : Heap} {f : Addr} {q : Str} {params : Arguments} {body : Expr} {scope : Scope} {clos : List (Str × Addr)} {dV : Value} {c' : Addr} {doc pm ctv : Value}
    (e : h.get? f = some (PySem.W.kdv_obj "<lambda>" q params (.expr body) scope clos dV doc pm c' ctv)) : ObjOk P w H h f (LamO f q params body scope clos dV c') :=
  ⟨⟨doc, pm, ctv, e⟩, ⟨_, e⟩, fun h1 h2 z k => by
    obtain ⟨doc, pm, ctv, q⟩ := z
    exact ⟨doc, pm, ctv, k _ q⟩⟩
theorem lamO_at {P : Program} {w : World} {H : Hp} {h : Heap} {f : Addr} {q : Str} {params : Arguments} {body : Expr} {scope : Scope} {clos : List (Str × Addr)} {dV : Value} {c' : Addr} (hok : HOk P w H h) (e : H f = some (LamO f q params body scope clos dV c')) :
    ∃ doc pm ctv : Value, h.get? f = some (PySem.W.kdv_obj "<lambda>" q params (.expr body) scope clos dV doc pm c' ctv) := by
  have x : ObjOk P w H h f (.ext fun h => ∃ doc pm ctv : Value, h.get? f = some (PySem.W.kdv_obj "<lambda>" q params (.expr body) scope clos dV doc pm c' ctv)) := hok f _ e
  exact x.1
section
variable {X : Cx} {pins : List (Addr × Obj)} {σ : L2.St} {H : Hp} {s : Shared}
theorem lamv_make {c Pt : Addr} {ps : Array Value} {params : Arguments} {body : Expr} {scope : Scope} {pos : Pos} {dV : Value} {E : Value → Shared → Prop} {Q : Value → Shared → Prop} (I : Inv X pins σ H s) (TB : TabB X.base X.mg c Pt) (hcode : X.env.code = .ref c)
    (hP : H Pt = some (.tbl ps)) (ti : TabI H (X.env.qual ++ "<lambda>") ps) (hfree : ∀ y ∈ scope.names, y.2 = .free → ∃ c, X.env.cells.lookup y.1 = some c)
    (h : ∀ (f c' : Addr) (H1 : Hp) (ps' : Array Value) (s' : Shared), ExtN H H1 → H1 Pt = some (.tbl ps') → TabI H1 (X.env.qual ++ "<lambda>") ps' → H1 f = none → H1 c' = some (CodeO c' (X.env.qual ++ "<lambda>")) →
      Inv X pins σ (upd H1 f (LamO f (X.env.qual ++ "<lambda>") params body scope (cloFrom X.env.cells scope.names []) dV c')) s' → Q (.ref f) s') :
    wpAny (model X.prog X.w) X.A (makeTail "<lambda>" (X.env.qual ++ "<lambda>") params (.expr body) scope X.env dV .none none pos pos.line) Q E s := by
  obtain ⟨ht, ha⟩ := ti
  have bP : s.heap.BuiltinsAt X.mg Pt := TB.bm.keeps I.bk
  have hP' : s.heap.get? Pt = some { cls := .none, data := .fields ps } := I.hok Pt _ hP
  cases hc : codeAmong pos ps.toList with
  | none =>
    refine PySem.W.kdv_makeTail (mg := X.mg) (c := c) (P := Pt) (ps := ps) (closure_ok hfree) I.ok.glob (I.mod.glob.keeps I.bk) hcode (TB.code.keeps I.bk) hP' ht hc TB.gP bP fun c' ctv doc h' tk hx hge hlt hrec htb => ?_
    obtain ⟨c2, oc, vs, t, e2, hoc, hd, hv⟩ := hrec
    cases e2
    have nC : H c' = none := I.hok.fresh hge
    have I1 := inv_table (t' := tk) (more := #[rawInt pos.line, rawInt pos.col, .ref c']) (h' := h') (q := X.env.qual ++ "<lambda>") I hP hx htb hge ⟨oc, vs, t, hoc, hd, hv⟩
    have hE : ExtN H (upd (upd H Pt (.tbl (ps ++ #[rawInt pos.line, rawInt pos.col, .ref c']))) c' (CodeO c' (X.env.qual ++ "<lambda>"))) := fun b o e n => by
      rw [upd_ne (ne_of_none e nC), upd_ne (fun z => n ps (Option.some.inj (e.symm.trans (by rw [z]; exact hP))))]
      exact e
    have eL : (ps ++ #[rawInt pos.line, rawInt pos.col, .ref c']).toList = ps.toList ++ [rawInt pos.line, rawInt pos.col, .ref c'] := by simp
    have I2 := I1.laid (t' := tk) (a := h'.objs.size) (o := LamO h'.objs.size (X.env.qual ++ "<lambda>") params body scope (cloFrom X.env.cells scope.names []) dV c')
      (h' := h'.push (PySem.W.kdv_obj "<lambda>" (X.env.qual ++ "<lambda>") params (.expr body) scope (cloFrom X.env.cells scope.names []) dV doc ((X.mg "__name__").getD .none) c' ctv)) (fun b o e => Heap.get?_push_of_some _ e) (Nat.le_refl _) (lamO_ok (Heap.get?_push_size _ rfl))
    refine h h'.objs.size c' _ (ps ++ #[rawInt pos.line, rawInt pos.col, .ref c']) _ hE (by rw [upd_ne (ne_of_none hP nC), upd_same]) ⟨by rw [eL]; exact PySem.TriplesOk_snoc _ _ _ _ ht, fun p' cv hcv => ?_⟩ (I1.hok.fresh (Nat.le_refl _)) upd_same I2
    rw [eL] at hcv
    rcases LamX.among_app _ ht hcv with z | z
    · obtain ⟨c0, e1, e2⟩ := ha p' cv z
      exact ⟨c0, e1, hE _ _ e2 LamX.codeO_ne⟩
    · exact ⟨c', z, upd_same⟩
  | some cv =>
    obtain ⟨c', e, hco⟩ := ha pos cv hc
    subst e
    refine PySem.W.kdv_makeTailHit (mg := X.mg) (c := c) (P := Pt) (ps := ps) (closure_ok hfree) I.ok.glob (I.mod.glob.keeps I.bk) hcode (TB.code.keeps I.bk) hP' ht hc bP fun ctv doc h' tk hx hsz => ?_
    have I1 : Inv X pins σ H { s with heap := h', toks := tk } := I.kept hx
    have I2 := I1.laid (t' := tk) (a := h'.objs.size) (o := LamO h'.objs.size (X.env.qual ++ "<lambda>") params body scope (cloFrom X.env.cells scope.names []) dV c')
      (h' := h'.push (PySem.W.kdv_obj "<lambda>" (X.env.qual ++ "<lambda>") params (.expr body) scope (cloFrom X.env.cells scope.names []) dV doc ((X.mg "__name__").getD .none) c' ctv)) (fun b o e => Heap.get?_push_of_some _ e) (Nat.le_refl _) (lamO_ok (Heap.get?_push_size _ rfl))
    exact h h'.objs.size c' H ps _ (ExtN.refl H) hP ⟨ht, ha⟩ (I1.hok.fresh (Nat.le_refl _)) hco I2
/-- lambda: body -/
def tLamV (Pt : Addr) (q : Str) (params : Arguments) (body : Expr) (scope : Scope) (clos : List (Str × Addr)) : TE := fun _ H Q => ∃ ps, H Pt = some (.tbl ps) ∧ TabI H q ps ∧ ∀ (f c' : Addr) (H1 : Hp) (ps' : Array Value), ExtN H H1 → H1 Pt = some (.tbl ps') → TabI H1 q ps' → H1 f = none →
  H1 c' = some (CodeO c' q) → Q (.ref f) (upd H1 f (LamO f q params body scope clos .none c'))
theorem pe_lamv {c Pt : Addr} {params : Arguments} {body : Expr} {scope : Scope} {pos : Pos} (TB : TabB X.base X.mg c Pt) (hcode : X.env.code = .ref c) (hdef : defaultsOf params X.env = ([], [])) (hfr : ∀ y ∈ scope.names, y.2 = .free → X.env.scope.names.lookup y.1 = some .cell ∨ X.env.scope.names.lookup y.1 = some .free) :
    PE X (.Lambda params body scope pos) (tLamV Pt (X.env.qual ++ "<lambda>") params body scope (cloFrom X.env.cells scope.names [])) := by
  refine ⟨fun pins s σ H Q I ⟨ps, hP, ti, h⟩ => ?_⟩
  refine PySem.W.kla_eval hdef ?_
  rw [makeFunction_eq]
  simp only [List.zip_nil_right, List.filterMap_nil, List.isEmpty_nil, if_true, pure_bind]
  refine lamv_make I TB hcode hP ti (fun y hy e => ?_) fun f c' H1 ps' s' eN hP1 t1 hf hc I' => ⟨.ref f, _, I', rfl, h f c' H1 ps' eN hP1 t1 hf hc⟩
  rcases hfr y hy e with k | k
  · exact I.ok.has _ (.inl k)
  · exact I.ok.has _ (.inr k)
/-- at T: the tuple of one default value, 0 -/
def TupO (T : Addr) : HO := .ext fun h => ∃ t : Tok, h.get? T = some (PySem.W.kdv_tup [.int 0 t])
theorem tupO_imm {T : Addr} : Imm (TupO T) := by
  unfold TupO
  exact trivial
theorem tupO_at {P : Program} {w : World} {H : Hp} {h : Heap} {T : Addr} (hok : HOk P w H h) (e : H T = some (TupO T)) : ∃ t : Tok, h.get? T = some (PySem.W.kdv_tup [.int 0 t]) := by
  have x : ObjOk P w H h T (.ext fun h => ∃ t : Tok, h.get? T = some (PySem.W.kdv_tup [.int 0 t])) := hok T _ e
  exact x.1
/-- lambda a=0: body -/
def tLamD (Pt : Addr) (q : Str) (params : Arguments) (body : Expr) (scope : Scope) (clos : List (Str × Addr)) : TE := fun _ H Q => ∃ ps, H Pt = some (.tbl ps) ∧ TabI H q ps ∧ ∀ (T : Addr), H T = none → ∀ (f c' : Addr) (H1 : Hp) (ps' : Array Value), ExtN (upd H T (TupO T)) H1 →
  H1 Pt = some (.tbl ps') → TabI H1 q ps' → H1 f = none → H1 c' = some (CodeO c' q) → Q (.ref f) (upd H1 f (LamO f q params body scope clos (.ref T) c'))
theorem pe_lamd {c Pt : Addr} {params : Arguments} {body : Expr} {scope : Scope} {pos p0 : Pos} {j : Nat} (TB : TabB X.base X.mg c Pt) (hcode : X.env.code = .ref c) (hd : params.defaults = [.Constant (.int 0) j p0]) (hk : params.kw_defaults = [])
    (hfr : ∀ y ∈ scope.names, y.2 = .free → X.env.scope.names.lookup y.1 = some .cell ∨ X.env.scope.names.lookup y.1 = some .free) :
    PE X (.Lambda params body scope pos) (tLamD Pt (X.env.qual ++ "<lambda>") params body scope (cloFrom X.env.cells scope.names [])) := by
  refine ⟨fun pins s σ H Q I ⟨ps, hP, ti, h⟩ => ?_⟩
  refine PySem.W.kdv_lam (by rw [hd]; rfl) hk ?_
  rw [hd]
  refine PySem.W.kdv_all1 ?_
  refine thn ((pe_int (X := X) (i := 0) (j := j) (pos := p0)).run pins s σ H (fun v H1 => v = .int 0 ∧ H1 = H) I ⟨rfl, rfl⟩) fun u s1 ⟨v, H1, I1, r1, ev, eH⟩ => ?_
  subst ev
  subst eH
  obtain ⟨t0, rfl⟩ := r1
  refine PySem.W.kdv_all0 ?_
  rw [makeFunction_eq]
  simp only [List.zip_nil_right, List.filterMap_nil, List.isEmpty_nil, if_true, pure_bind, List.isEmpty_cons, Bool.false_eq_true, if_false]
  refine wpAny_bind (wpAny_newTextTuple ?_)
  have nT : H1 s1.heap.objs.size = none := I1.hok.fresh (Nat.le_refl _)
  have I2 : Inv X pins σ (upd H1 s1.heap.objs.size (TupO s1.heap.objs.size)) { s1 with heap := s1.heap.push { cls := .type "tuple", data := .seq ([Value.int 0 t0] : List Value).toArray } } :=
    I1.laid (t' := s1.toks) (fun b o e => Heap.get?_push_of_some _ e) (Nat.le_refl _) (by
      refine ⟨⟨t0, Heap.get?_push_size _ rfl⟩, ⟨_, Heap.get?_push_size _ rfl⟩, fun h1 h2 z k => ?_⟩
      obtain ⟨t, q⟩ := z
      exact ⟨t, k _ q⟩)
  have hP2 : upd H1 s1.heap.objs.size (TupO s1.heap.objs.size) Pt = some (.tbl ps) := by rw [upd_ne (ne_of_none hP nT)]; exact hP
  refine lamv_make I2 TB hcode hP2 (ti.mono (Mono.new nT)) (fun y hy e => ?_) fun f c' H2 ps' s' eN hP1 t1 hf hc I' => ⟨.ref f, _, I', rfl, h _ nT f c' H2 ps' eN hP1 t1 hf hc⟩
  rcases hfr y hy e with k | k
  · exact I2.ok.has _ (.inl k)
  · exact I2.ok.has _ (.inr k)
end
end Cu

namespace Cu
open PySem PySem.Spec PyProof.Rows L2
open LamX (CodeO lamEnv lamCx)
/-! a lambda that stands is called -/
/-- captured names, globals, and own names that the maker has not -/
structure LamN (N : List Str) (sc scope : Scope) : Prop where
  kind : scope.kind = .function
  co : scope.isCoroutine = false
  gen : scope.isGenerator = false
  noc : ∀ y ∈ scope.names, y.2 ≠ .cell
  own : ∀ y ∈ scope.names, y.2 = .local → y.1 ∉ N
  free : ∀ y ∈ scope.names, y.2 = .free → sc.names.lookup y.1 = some .cell ∨ sc.names.lookup y.1 = some .free
def lamNB (N : List Str) (sc scope : Scope) : Bool :=
  decide (scope.kind = .function) && !scope.isCoroutine && !scope.isGenerator && scope.names.all fun y => !decide (y.2 = .cell) && (!decide (y.2 = .local) || !decide (y.1 ∈ N)) && (!decide (y.2 = .free) || decide (sc.names.lookup y.1 = some .cell) || decide (sc.names.lookup y.1 = some .free))
theorem lamN_by {N : List Str} {sc scope : Scope} (h : lamNB N sc scope = true) : LamN N sc scope := by
  unfold lamNB at h
  simp only [Bool.and_eq_true, Bool.or_eq_true, Bool.not_eq_true', decide_eq_true_eq, decide_eq_false_iff_not, List.all_eq_true] at h
  obtain ⟨⟨⟨h1, h2⟩, h3⟩, h4⟩ := h
  refine ⟨h1, h2, h3, fun y hy => (h4 y hy).1.1, fun y hy e => ?_, fun y hy e => ?_⟩
  · rcases (h4 y hy).1.2 with z | z
    · exact absurd e z
    · exact z
  · rcases (h4 y hy).2 with (z | z) | z
    · exact absurd e z
    · exact .inl z
    · exact .inr z
section
variable {X : Cx} {pins : List (Addr × Obj)} {σ : L2.St} {H HZ : Hp} {s s1 : Shared}
theorem LamN.has {scope : Scope} (L : LamN X.N X.env.scope scope) (ok : X.Ok) : ∀ y ∈ scope.names, y.2 = .free → ∃ c, X.env.cells.lookup y.1 = some c := fun y hy e => by
  rcases L.free y hy e with k | k
  · exact ok.has _ (.inl k)
  · exact ok.has _ (.inr k)
theorem lamn_start {A : Around} {outer : List Env} {E : XK} {scope : Scope} {f c' : Addr} {h₁ : Heap} {tk : Nat} {m : Str → Option Value} (I : Inv X pins σ H s) (L : LamN X.N X.env.scope scope) (e0 : Env0 X.prog X.w X.K X.mg X.base A outer s1 HZ) (hd : A.handled = none)
    (un : Un (frs X.stack) [] H HZ s.heap s1.heap) (hns : h₁.Ns s1.heap.objs.size m) (kp : ∀ b o, s1.heap.get? b = some o → h₁.get? b = some o) :
    Inv (lamCx X A outer s1 HZ E scope f c') [] σ HZ { s1 with heap := h₁, toks := tk } := by
  have hfree := L.has I.ok
  have cm : ∀ {y c}, (cloFrom X.env.cells scope.names []).lookup y = some c → X.env.cells.lookup y = some c := fun {y c} e => by
    rcases cloFrom_mem (PySem.mem_of_lookup e) with hm | ⟨h1, h2⟩
    · cases hm
    · obtain ⟨c1, hc⟩ := hfree _ h1 rfl
      have hc : X.env.cells.lookup y = some c1 := hc
      have e2 : c = c1 := by
        rw [h2, hc] <;> rfl
      rw [e2]
      exact hc
  have look : ∀ {y}, scope.names.lookup y = some .free → ∃ c, (cloFrom X.env.cells scope.names []).lookup y = some c := fun {y} hl => by
    have hy : (y, NameKind.free) ∈ scope.names := PySem.mem_of_lookup hl
    exact mem_lookup (cloFrom_has (cells := X.env.cells) (acc := []) hy)
  have cellK : ∀ {c : Addr} {v : Option Value}, H c = none → s.heap.IsCell c v → h₁.IsCell c v := fun {c v} n ⟨o, ho, hd⟩ => by
    obtain ⟨sl, q⟩ := un.any ho n (by simp)
    exact ⟨_, kp _ _ q, hd⟩
  have noA : ∀ b : Addr, b ∉ (lamCx X A outer s1 HZ E scope f c').ex := fun b z => absurd (show b ∈ ([] : List Addr) from z) (by simp)
  refine ⟨⟨e0.mod, L.kind, rfl, rfl, Nat.le_refl _, fun y z c e1 e2 => I.ok.inj y z c (cm e1) (cm e2), fun y hy => ?_, fun y c z _ => ?_, fun _ => hd, Around.frames_deeper e0.frames, .inr ⟨rfl, rfl⟩, fun b z => absurd z (noA b), e0.bs, e0.bsz, fun b _ _ => noA b,
      fun b z => absurd z (noA b), e0.funs, e0.frf⟩,
    rfl, e0.bare, Un.kept kp, ⟨_, hns, fun i y v e1 e2 e3 => ?_⟩, fun y c e => ?_, e0.hok.fresh (Nat.le_refl _), fun y c e => ?_, fun q hq => absurd (show q ∈ ([] : List (Addr × Obj)) ++ [] from hq) (by simp), e0.hok.kept kp, I.len⟩
  · have hy : scope.names.lookup y = some .cell ∨ scope.names.lookup y = some .free := hy
    rcases hy with hy | hy
    · exact absurd rfl (L.noc _ (PySem.mem_of_lookup hy))
    · exact look hy
  · have z : false = true := z
    cases z
  · have e3 : Vis scope y := e3
    have hyN : y ∈ X.N := List.mem_of_getElem? e1
    rcases e3 with k | k | k
    · exact absurd hyN (L.own _ (PySem.mem_of_lookup k) rfl)
    · exact absurd rfl (L.noc _ (PySem.mem_of_lookup k))
    · obtain ⟨m, hn, hl⟩ := I.loc
      have hvis : Vis X.env.scope y := (L.free _ (PySem.mem_of_lookup k) rfl).elim (fun k => .inr (.inl k)) (fun k => .inr (.inr k))
      obtain ⟨w', r, q⟩ := hl i y v e1 e2 hvis
      obtain ⟨c2, h2⟩ := look k
      refine ⟨w', r, .inr ⟨.inr k, c2, h2, ?_⟩⟩
      have c1 := cm h2
      rcases q with ⟨k', _⟩ | ⟨_, c3, e', z⟩
      · have k' : X.env.scope.names.lookup y = some .local := k'
        rcases L.free _ (PySem.mem_of_lookup k) rfl with k2 | k2 <;> rw [show X.env.scope.names.lookup y = _ from k2] at k' <;> cases k'
      · rw [c1] at e'
        cases e'
        exact cellK (I.freeC y _ c1) z
  · obtain ⟨w', z⟩ := I.cell y c (cm e)
    exact ⟨w', cellK (I.freeC y c (cm e)) z⟩
  · obtain ⟨v, o, ho, hd⟩ := I.cell y c (cm e)
    exact un.free c o ho (I.freeC y c (cm e)) (by simp)
/-- how no argument comes to the lambda's parameters -/
def NoArgs (P : Program) (w : World) (HZ : Hp) (q : Str) (params : Arguments) (body : Expr) (scope : Scope) (clos : List (Str × Addr)) (dV : Value) (c' : Addr) : Prop :=
  ∀ (s : Shared) (doc pm ctv : Value), HOk P w HZ s.heap → ∃ binds : List (Str × Value), BindsTo s (PySem.W.kdv_fn "<lambda>" q params (.expr body) scope clos dV doc pm (.ref c') ctv) ⟨[], []⟩ binds ∧ ∀ y ∈ binds, scope.names.lookup y.1 = some .local
/-- x(), x a lambda of the maker X, in a def that was called while X stood -/
theorem pe_actV {CXg : CXT} {Eg : XK} {Ng : List Str} {qg : Str} {sg : Scope} {g f c' : Addr} {cdg dV : Value} {params : Arguments} {body : Expr} {scope : Scope} {k i : Nat} {a : Str} {pn : List (Addr × Obj)} {xe : Value → Shared → Prop} {W : WX} {E : XK} {tb : TE} {p1 p2 : Pos}
    (I : Inv X pins σ H s) (L : LamN X.N X.env.scope scope) (tk : Takes ((cxOf CXg X.prog X.w X.K X.mg X.base Ng qg sg g cdg X.A X.stack s H Eg).tr pn xe) W) (hW : ∀ cls d σ' H', E cls d H' → W cls d σ' H') (hr : Room (k + 1) (X.A.deeper (envOfC qg sg s.heap.objs.size g cdg)))
    (hbody : ∀ (A : Around) (outer : List Env) (s : Shared) (H : Hp), Room k (A.deeper (lamEnv X scope s.heap.objs.size f c')) → PE (lamCx X A outer s H E scope f c') body tb)
    (hN : Ng[i]? = some a) (hv : Vis sg a) (hd : (a == ("__debug__" : Str)) = false := by decide) (hcd : (a == ("__classdict__" : Str)) = false := by decide) :
    PE ((cxOf CXg X.prog X.w X.K X.mg X.base Ng qg sg g cdg X.A X.stack s H Eg).tr pn xe) (.Call (.Name a p1) [] [] p2)
      (fun σZ HZ Q => σZ[i]? = some (some (.ref f)) ∧ HZ c' = some (CodeO c' (X.env.qual ++ "<lambda>")) ∧ HZ f = some (LamO f (X.env.qual ++ "<lambda>") params body scope (cloFrom X.env.cells scope.names []) dV c') ∧
        NoArgs X.prog X.w HZ (X.env.qual ++ "<lambda>") params body scope (cloFrom X.env.cells scope.names []) dV c' ∧ tb σ HZ Q) := by
  refine ⟨fun pinsZ sZ σZ HZ Q IZ h => ?_⟩
  obtain ⟨hs, hc, hf, hna, ht⟩ := h
  refine wpAny_Call_Name_kw (thn ((pe_var (pos := p1) (i := i) hN hv hd hcd).run pinsZ sZ σZ HZ (fun v H1 => v = .ref f ∧ H1 = HZ) IZ ⟨.ref f, hs, rfl, rfl⟩) fun u s1 ⟨v, H1, I1, r1, q1⟩ => ?_)
  obtain ⟨ev, eH⟩ := q1
  subst ev
  rw [eH] at I1
  obtain rfl : u = Value.ref f := r1
  obtain ⟨doc, pm, ctv, of1⟩ := lamO_at I1.hok hf
  obtain ⟨binds, hbt, hbl⟩ := hna s1 doc pm ctv I1.hok
  refine PySem.W.callWith_F0 ⟨_, _, _, _, of1⟩ ?_
  have un : Un (frs X.stack) [] H HZ s.heap s1.heap := I1.base
  obtain ⟨⟨oc, vs, t, hoc, hdc, hvc⟩, _, _⟩ := I1.hok c' _ hc
  have rc : codeAny (model X.prog X.w) (X.A.deeper (envOfC qg sg s.heap.objs.size g cdg)) (.call (.ref f) ⟨[], []⟩) (CR (L2.CX X.prog X.w) (envOfC qg sg s.heap.objs.size g cdg :: X.stack) X.prog X.w HZ s1 Q E) s1 := by
    refine PySem.W.kla_callFunE hr.depth of1 rfl L.co L.gen rfl ⟨c', oc, vs, t, rfl, hoc, hdc, hvc⟩ ?_
    refine hbt _ _ _ _ (wpAny_newFunctionEnv (fun y hy => L.noc y hy) hbl (fun h₁ hns hsb => ⟨I1.nolimit.fresh _ hsb, ?_⟩) L.kind)
    show codeAny _ _ (.expr body (lamEnv X scope s1.heap.objs.size f c')) _ _
    have kp : ∀ b o, s1.heap.get? b = some o → h₁.get? b = some o := fun b o e => hsb.extBut b o (Nat.ne_of_lt (Heap.lt_size e)) (Heap.get?_push_of_some _ e)
    have J : Inv (lamCx X (X.A.deeper (envOfC qg sg s.heap.objs.size g cdg)) (envOfC qg sg s.heap.objs.size g cdg :: X.stack) s1 HZ E scope f c') [] σ HZ { s1 with heap := h₁, toks := s1.toks + binds.length } :=
      lamn_start I L I1.env0 hr.hd un hns kp
    refine PySem.W.kla_codeExpr (wpAny_mono ((hbody _ _ s1 HZ (hr.deeper _)).run [] _ _ HZ Q J ht) (fun v s' hq => ?_) fun e s' hq => hq)
    obtain ⟨w', H', J', rv, q⟩ := hq
    exact ⟨w', H', J'.os, J'.bare, J'.base, J'.hok, rv, q⟩
  have hx : Passes (L2.CX X.prog X.w) ((cxOf CXg X.prog X.w X.K X.mg X.base Ng qg sg g cdg X.A X.stack s H Eg).tr pn xe) E := passes_call tk hW
  refine wpAny_call (codeAny_mono rc fun r s' hq => ?_)
  cases r with
  | error e => exact hx pinsZ σZ HZ s1 e s' I1 hq
  | ok fl =>
    cases fl with
    | ret u => exact I1.after hq
    | next => exact False.elim hq
    | brk => exact False.elim hq
    | cont => exact False.elim hq
end
end Cu

namespace Cu
open PySem PySem.Spec PyProof.Rows L2
/-! a comprehension whose test may use what is known of the maker's own frame -/
/-- the maker stands as it was when the block began -/
def Stood (X : Cx) (σ : L2.St) (s : Shared) (H : Hp) (fp : List Addr) : Prop := ∃ pins, Inv X pins σ H s ∧ ∀ b ∈ fp, FpOk X pins H b
/-- .. and so it stands at any time in the block -/
theorem Stood.now {X : Cx} {σ σ' : L2.St} {s s' : Shared} {H H' : Hp} {fp : List Addr} {scope : Scope} {ce : Env} {pins' : List (Addr × Obj)} (st : Stood X σ s H fp) (I : Inv (X.blk s H scope ce fp) pins' σ' H' s') : ∃ pins, Inv X pins σ H' s' := by
  obtain ⟨pins, I0, hf⟩ := st
  exact ⟨pins, I0.call' (ch := fp) I.os I.base I.hok I.bare fun b hb => ⟨(hf b hb).2.2.2.1, (hf b hb).2.1, (hf b hb).2.2.2.2.1, (hf b hb).2.2.2.2.2⟩⟩
/-- between two turns of the block -/
def Btw (B : Cx) (σ0 : L2.St) (fp : List Addr) (tn : Nat → Heap → Prop) (W : Nat → Nat → Hp → Prop) (m : Nat) (s : Shared) : Prop :=
  ∃ i H, Inv B [] σ0 H s ∧ tn i s.heap ∧ (∀ b ∈ fp, H b = none) ∧ W i m H
/-- the footprint is the block's own outside -/
theorem blk_fp {X : Cx} {s0 s : Shared} {H0 H : Hp} {scope : Scope} {ce : Env} {fp : List Addr} {σ : L2.St} (I : Inv (X.blk s0 H0 scope ce fp) [] σ H s) (hn : ∀ b ∈ fp, H b = none) : ∀ b ∈ fp, FpOk (X.blk s0 H0 scope ce fp) [] H b :=
  fun b hb => ⟨hn b hb, (I.ok.exf b hb).1, I.ok.exfs b hb, .inl hb, (I.ok.exf b hb).2, fun _ hp => nomatch hp⟩
/-- the loop of the block: turn after turn the block's own text stands, and the footprint is as the iterator left it -/
theorem lcin_loop {X : Cx} {s0 : Shared} {H0 : Hp} {scope : Scope} {ce : Env} {elt tg iter : Expr} {ifs : List Expr} {sc : Scope} {pos : Pos} {g : TG} {tt : TT} {te : TE} {J : It} {it D : Addr} {fp : List Addr} {tn : Nat → Heap → Prop} {σ : L2.St} {vs : List Nat} {Q : VK} {W : Nat → Nat → Hp → Prop} {R : Result → Shared → Prop} (hc : X.calm = true)
    (T : Turn X.prog X.w X.K tg J fp it tn) (hg : PG (X.blk s0 H0 scope ce fp) tg g) (ht : PTs (X.blk s0 H0 scope ce fp) ifs tt) (he : PE (X.blk s0 H0 scope ce fp) elt te)
    (turn : ∀ i m H, W i m H → (J.stop i H ∧ Q (.ref D) H) ∨ (J.go i H ∧ ∃ Nx : Hp → Prop, (∀ H', Nx H' → ∃ m', m' < m ∧ W (i + 1) m' H') ∧ ∀ x H', J.yld i H x H' → g x (wipe σ vs) H' fun σ2 H2 => wipe σ2 vs = wipe σ vs ∧ tt σ2 H2 fun b H3 =>
      if b = true then te σ2 H3 fun y H4 => ∃ acc, H4 D = some (.lst acc) ∧ acc.length < sizeLine ∧ Nx (upd H4 D (.lst (acc ++ [y]))) else Nx H3))
    (done : ∀ H s, Inv (X.blk s0 H0 scope ce fp) [] (wipe σ vs) H s → Q (.ref D) H → R (.ok .next) s)
    (m : Nat) (s : Shared) (h : Btw (X.blk s0 H0 scope ce fp) (wipe σ vs) fp tn W m s) :
    codeAny (model X.prog X.w) X.A (.compLoop (.ListComp elt [⟨tg, iter, ifs, 0⟩] sc pos) 0 (.ref it) (.ref D) ce) R s := by
  -- a turn ends as it began
  have over : ∀ {i n : Nat} {Nx : Hp → Prop} {sy s' : Shared} {σ2 : L2.St} {H' : Hp}, (∀ H', Nx H' → ∃ m', m' < n ∧ W (i + 1) m' H') → tn (i + 1) sy.heap → wipe σ2 vs = wipe σ vs →
      Inv (X.blk s0 H0 scope ce fp) ([] ++ pinsAt fp sy.heap) σ2 H' s' → Nx H' → ∃ m, m < n ∧ Btw (X.blk s0 H0 scope ce fp) (wipe σ vs) fp tn W m s' := by
    intro i n Nx sy s' σ2 H' hm hy hw I nx
    obtain ⟨m', lt, w'⟩ := hm H' nx
    have pinned : ∀ b ∈ fp, ∀ o, sy.heap.get? b = some o → s'.heap.get? b = some o ∧ H' b = none := fun b hb o e => by
      have z := I.pin (b, o) (List.mem_append_right _ (List.mem_append_right _ (mem_pinsAt hb e)))
      exact ⟨z.1, z.2.1⟩
    have ln : (wipe σ vs).length = σ2.length := by rw [← hw, wipe_length]
    refine ⟨m', lt, i + 1, H', Inv.weak (Inv.unpinned (pins := []) I) ln (fun j v e => ?_), T.keep _ _ _ hy fun b hb o e => (pinned b hb o e).1, fun b hb => ?_, w'⟩
    · rw [← hw] at e; exact (wipe_some e).1
    · obtain ⟨o, e, _⟩ := T.obj _ _ hy b hb
      exact (pinned b hb o e).2
  refine compLoop_any (Btw (X.blk s0 H0 scope ce fp) (wipe σ vs) fp tn W) (fun n s5 ⟨i, H5, I5, t5, n5, w5⟩ => ?_) m h
  obtain ⟨stop, qq⟩ | ⟨goes, Nx, hm, step⟩ := turn i n H5 w5
  · refine thnF (T.done (X.blk s0 H0 scope ce fp) rfl rfl rfl hc i [] s5 _ H5 (fun _ _ => False) I5 (blk_fp I5 n5) t5 stop) ?_
    rintro _ s6 ⟨rfl, I6⟩
    exact done H5 s6 I6 qq
  · refine thnF (T.item (X.blk s0 H0 scope ce fp) rfl rfl rfl hc i [] s5 _ H5 (fun _ _ => False) I5 (blk_fp I5 n5) t5 goes) ?_
    rintro _ s6 ⟨u, rfl, h6⟩
    refine thnF h6 ?_
    rintro _ s7 ⟨x, H7, I7, r7, y7, t7, n7⟩
    refine thnF (hg.run _ s7 _ H7 x u _ (I7.pinned (blk_fp I7 n7) (T.obj _ _ t7)) r7 (step x H7 y7)) ?_
    rintro _ s8 ⟨σ8, H8, I8, hw, q8⟩
    refine thnF (ht.run _ s8 σ8 H8 _ I8 q8) ?_
    rintro (_ | _) s9 ⟨H9, I9, q9⟩
    · exact over hm t7 hw I9 q9
    · refine thnF (he.run _ s9 σ8 H9 _ I9 q9) ?_
      rintro y s10 ⟨yv, H10, I10, r10, acc, hD, hz, nx⟩
      exact app_ok (X := X.blk s0 H0 scope ce fp) I10 hD hz r10 fun s11 I11 => over hm t7 hw I11 nx
/-- a reading of the tests that is told the maker's slots -/
theorem pe_lcin {X : Cx} {elt tg iter : Expr} {ifs : List Expr} {scope : Scope} {own : List (Str × Nat)} {pos : Pos} {wi : TI} {g : TG} {tt : L2.St → TT} {te : TE} (hc : X.calm = true) (hN : X.N.Nodup) (hi : PI X tg iter wi) (ok : BlkOk X.N X.env.scope scope own)
    (hg : ∀ (s : Shared) (H : Hp) (C : Addr) (cl : List (Str × Addr)) (fp : List Addr), PG (X.blk s H scope (compEnvC scope cl C X.env) fp) tg g)
    (ht : ∀ (σ : L2.St) (s : Shared) (H : Hp) (C : Addr) (cl : List (Str × Addr)) (fp : List Addr), Stood X σ s H fp → PTs (X.blk s H scope (compEnvC scope cl C X.env) fp) ifs (tt σ))
    (he : ∀ (s : Shared) (H : Hp) (C : Addr) (cl : List (Str × Addr)) (fp : List Addr), PE (X.blk s H scope (compEnvC scope cl C X.env) fp) elt te) (hs : ∀ x, foldedSetIterable iter X.env x = pure x := by intro _; rfl) :
    PE X (.ListComp elt [⟨tg, iter, ifs, 0⟩] scope pos) (fun σ H Q => tLc wi g (tt σ) te (own.map (·.2)) σ H Q) := by
  refine ⟨fun pins s σ H Q I h => ?_⟩
  have cells : ∀ y ∈ scope.names, y.2 = .free → ∃ c, X.env.cells.lookup y.1 = some c := fun y hy e => (ok.free y hy e).elim (fun k => I.ok.has _ (.inl k)) fun k => I.ok.has _ (.inr k)
  rw [eval_ListComp]
  refine wpAny_comprehension_free (use := none) rfl hs (closure_ok cells) ok.kind (fun y hy e => by rw [ok.uniq y hy, e]) (thn (hi.run pins s σ H _ I h) fun xv s1 hx => thn hx fun itv s2 h2 => ?_)
  obtain ⟨it, fp, tn, J, H2, e, I2, T, st2, f2, q⟩ := h2
  subst e
  refine wpAny_newObj_type (newEnv_comp ?_) (by show 0 ≤ sizeLine; decide)
  -- the new list stands at D
  obtain ⟨D, hD⟩ : ∃ D, s2.heap.objs.size = D := ⟨_, rfl⟩
  have nD : H2 D = none := I2.hok.fresh (Nat.le_of_eq hD)
  obtain ⟨W, ⟨m0, w0⟩, turn⟩ := q D nD
  have I3 : Inv X pins σ (upd H2 D (.lst [])) { s2 with heap := s2.heap.push { cls := .type "list", data := .seq ([] : List Value).toArray } } :=
    I2.laid (t' := s2.toks) (fun b o e => Heap.get?_push_of_some _ e) (Nat.le_of_eq hD) ⟨Nat.zero_le _, [], 0, .nil, by rw [← hD]; exact Heap.get?_push_size _ rfl⟩
  have fok : ∀ b ∈ fp, FpOk X pins (upd H2 D (.lst [])) b ∧ b < (s2.heap.push { cls := .type "list", data := .seq ([] : List Value).toArray }).objs.size := fun b hb => by
    obtain ⟨o, eo, _⟩ := T.obj _ _ st2 b hb
    have hlt := Heap.lt_size eo
    refine ⟨⟨by rw [upd_ne (by rw [← hD]; exact Nat.ne_of_lt hlt)]; exact (f2 b hb).1, (f2 b hb).2⟩, by rw [Heap.size_push]; exact Nat.lt_succ_of_lt hlt⟩
  have st3 := T.keep _ _ (s2.heap.push { cls := .type "list", data := .seq ([] : List Value).toArray }) st2 fun b _ o e => Heap.get?_push_of_some _ e
  generalize hs3 : ({ s2 with heap := s2.heap.push { cls := .type "list", data := .seq ([] : List Value).toArray } } : Shared) = s3 at I3 ⊢
  have h3 : s2.heap.push { cls := .type "list", data := .seq ([] : List Value).toArray } = s3.heap := by rw [← hs3]
  rw [h3] at fok st3
  have nfp : ∀ b ∈ fp, upd H2 D (.lst []) b = none := fun b hb => (fok b hb).1.1
  generalize upd H2 D (.lst []) = H3 at *
  have stood : Stood X σ s3 H3 fp := ⟨pins, I3, fun b hb => (fok b hb).1⟩
  have I4 := block_start I3 ok hN fok
  have hcl := hg s3 H3 s3.heap.objs.size (cellsFrom (s3.heap.objs.size + 1) scope.names (cloFrom X.env.cells scope.names [])) fp
  have htl := ht σ s3 H3 s3.heap.objs.size (cellsFrom (s3.heap.objs.size + 1) scope.names (cloFrom X.env.cells scope.names [])) fp stood
  have hel := he s3 H3 s3.heap.objs.size (cellsFrom (s3.heap.objs.size + 1) scope.names (cloFrom X.env.cells scope.names [])) fp
  have st5 := T.keep _ _ (pushCells (s3.heap.push { cls := .type "dict", data := .dict #[] }) scope.names) st3 fun b _ o e => pushCells_keeps _ _ _ _ (Heap.get?_push_of_some _ e)
  rw [hD]
  show codeAny _ _ (.compStart (.ListComp elt [⟨tg, iter, ifs, 0⟩] scope pos) 0 (.ref it) (.ref D) (compEnvC scope (cellsFrom (s3.heap.objs.size + 1) scope.names (cloFrom X.env.cells scope.names [])) s3.heap.objs.size X.env)) (compPost (model X.prog X.w) X.A X.xe none (EP X pins σ Q) (.ref D) s3.heap.objs.size) { s3 with heap := pushCells (s3.heap.push { cls := .type "dict", data := .dict #[] }) scope.names }
  obtain ⟨ce, hce⟩ : ∃ ce, compEnvC scope (cellsFrom (s3.heap.objs.size + 1) scope.names (cloFrom X.env.cells scope.names [])) s3.heap.objs.size X.env = ce := ⟨_, rfl⟩
  have cel : ce.locals = s3.heap.objs.size := by rw [← hce]; rfl
  rw [hce] at I4 hcl htl hel
  rw [hce]
  have go := lcin_loop (elt := elt) (ifs := ifs) (tg := tg) (iter := iter) (sc := scope) (pos := pos) (σ := σ) (vs := own.map (·.2)) (Q := Q) (R := compPost (model X.prog X.w) X.A X.xe none (EP X pins σ Q) (.ref D) s3.heap.objs.size) hc T hcl htl hel turn
    (fun H5 s5 I5 qq => by
      have I7 : Inv X pins σ H5 s5 := I3.call' (ch := fp) I5.os I5.base I5.hok I5.bare fun b hb => ⟨(fok b hb).1.2.2.2.1, (fok b hb).1.2.1, (fok b hb).1.2.2.2.2.1, (fok b hb).1.2.2.2.2.2⟩
      have nC : H5 s3.heap.objs.size = none := by have z := I5.free; rw [← cel]; exact z
      obtain ⟨k, hk, _⟩ := I5.loc
      have hk : s5.heap.Ns ce.locals k := hk
      rw [cel] at hk
      have f := I3.fpOk (Nat.le_refl _) nC
      exact ⟨k, hk, fun h'' sb => ⟨.ref D, H5, I7.turned (t' := s5.toks) (fun b o hb e => (sb.2 b hb).trans e) f.1 f.2.1 f.2.2.2.1 f.2.2.2.2.1 f.2.2.2.2.2, rfl, qq⟩⟩)
    m0 _ ⟨0, H3, I4, st5, nfp, w0⟩
  exact codeAny_compStart_list go (T.self X.A 0 _ _ _ st5 go)
end Cu

namespace Cu
open PySem PySem.Spec PyProof.Rows L2
/-- the script's list, frozen from now on if it was not; the table stays -/
theorem rd_scr {K : PySem.W.Frag} {H : Hp} {a Pt : Addr} {i : Nat} {σ : L2.St} {xs : List V} {ps : Array Value} {Q : VK} (hv : σ[i]? = some (some (.ref a))) (hS : SqL K H a xs) (hP : H Pt = some (.tbl ps))
    (k : ∀ H0, FzL K H0 a xs → H0 Pt = some (.tbl ps) → Q (.ref a) H0) : tFzw (tVar i) σ H Q := by
  refine rd_fzw ⟨_, hv, ?_⟩
  rcases sq_fz hS with hF | hL
  · exact .inl (k H hF hP)
  · refine .inr ⟨a, xs, hL, fun o => k _ FzL.frz ?_⟩
    have : Pt ≠ a := fun z => by
      rw [z, hL] at hP
      cases hP
    rw [upd_ne this]
    exact hP
end Cu

namespace Cu
open PySem PySem.Spec PyProof.Rows L2
/-- the work is called, whatever it may let out -/
theorem takesLen {X : Cx} {W : WX} (tk : Takes X W) : Takes X (fun cls d σ H => σ.length = X.N.length → W cls d σ H) := fun u s' ⟨a, B, sI, pins, σ, H, cls, d, e, I, nb, up, sky, na, os, ag, w⟩ =>
  tk u s' ⟨a, B, sI, pins, σ, H, cls, d, e, I, nb, up, sky, na, os, ag, w I.len⟩
theorem pe_act1 {X : Cx} {a : Str} {W : WX} {n : Nat} {t : XK → TE} {p1 p2 : Pos} (act : ∀ (E : XK) (q1 q2 : Pos), (∀ cls d σ' H', E cls d H' → σ'.length = n → W cls d σ' H') → PE X (.Call (.Name a q1) [] [] q2) (t E)) :
    PE X (.Call (.Name a p1) [] [] p2) (fun σ H Q => ∃ E : XK, (∀ cls d σ' H', E cls d H' → σ'.length = n → W cls d σ' H') ∧ t E σ H Q) :=
  ⟨fun pins s σ H Q I ⟨E, hW, h⟩ => (act E p1 p2 hW).run pins s σ H Q I h⟩
end Cu

namespace Cu
open PySem PySem.Spec PyProof.Rows L2
open LamX (GivesTo CodeO)
/-! _law_told: what is told; the word of a refusal -/
theorem flat_count {ys : List V} {its : List Value} (y : V) (r : Vals ys its) : ys.all flatV = true → its.countP (eqU y) = ys.countP fun z => eqV z y := by
  induction r with
  | nil => intro _; rfl
  | @cons x u xs us rx rs ih =>
    intro h
    rw [List.all_cons, Bool.and_eq_true] at h
    rw [List.countP_cons, List.countP_cons, ih h.2, eqU_of rx h.1]
def rCntF (K : PySem.W.Frag) : V → List V → Hp → VK → Prop := fun x xs H Q => ∃ (p : Addr) (ys : List V) (y : V), x = .ref p ∧ xs = [y] ∧ SqL K H p ys ∧ flatV y = true ∧ ys.all flatV = true ∧ Q (.int ((ys.countP fun z => eqV z y : Nat) : Int)) H
theorem mt_lcountF {X : Cx} : MtR X "list.count" (rCntF X.K) := by
  intro pins s σ H x xs v us Q I rx rxs h
  obtain ⟨p, ys, y, rfl, rfl, hs, fy, fys, q⟩ := h
  cases rx
  obtain ⟨u, rfl, ru⟩ := rxs.one
  obtain ⟨its, rv, ⟨⟨cls, dd, data, sl⟩, n, ho, hc, hdn, hd⟩, hlen⟩ := I.list hs
  simp only at hc hd
  subst hc hd
  refine call_meets PySem.F.slot_list_count ⟨_, ho, rfl⟩ PySem.F.entry_list_count (PySem.F.args_list_count_2 _ _)
    (SeqAt.list_countAt p its.toArray n dd sl u (eqU y)) ⟨ho, fun u' hu' => mem_eqAt ru fy rv fys u' (by simpa using hu'), ?_⟩
  have ec : its.toArray.toList.countP (eqU y) = ys.countP fun z => eqV z y := by
    rw [List.toList_toArray]
    exact flat_count y rv fys
  refine ⟨.int ((ys.countP fun z => eqV z y : Nat) : Int), H, I.tok _, ⟨s.toks, ?_⟩, q⟩
  show Value.int ((its.toArray.toList.countP (eqU y) : Nat) : Int) s.toks = Value.int ((ys.countP fun z => eqV z y : Nat) : Int) s.toks
  rw [ec]
/-- the classes of what is refused, by name -/
structure Kx (mg : Str → Option Value) where
  cCatchError : Addr
  cBadBoard : Addr
  cNoKey : Addr
  cBadChange : Addr
  cBadPart : Addr
  cBadKnown : Addr
  cBadPrices : Addr
  cBadText : Addr
  gCatchError : mg "CatchError" = some (.ref cCatchError)
  gBadBoard : mg "BadBoard" = some (.ref cBadBoard)
  gNoKey : mg "NoKey" = some (.ref cNoKey)
  gBadChange : mg "BadChange" = some (.ref cBadChange)
  gBadPart : mg "BadPart" = some (.ref cBadPart)
  gBadKnown : mg "BadKnown" = some (.ref cBadKnown)
  gBadPrices : mg "BadPrices" = some (.ref cBadPrices)
  gBadText : mg "BadText" = some (.ref cBadText)
/-- D is the class number i -/
structure XOf (K : PySem.W.Frag) {mg : Str → Option Value} (Gs : Kx mg) (D : Addr) (i : Nat) : Prop where
  ec : ExcC K D
  em : PySem.W.exmOne K (.ref D) (.ref Gs.cCatchError) = some true
  i0 : PySem.W.kitOne K (.ref D) (.ref Gs.cBadBoard) = some (decide (i = 0))
  i1 : PySem.W.kitOne K (.ref D) (.ref Gs.cNoKey) = some (decide (i = 1))
  i2 : PySem.W.kitOne K (.ref D) (.ref Gs.cBadChange) = some (decide (i = 2))
  i3 : PySem.W.kitOne K (.ref D) (.ref Gs.cBadPart) = some (decide (i = 3))
  i4 : PySem.W.kitOne K (.ref D) (.ref Gs.cBadKnown) = some (decide (i = 4))
  i5 : PySem.W.kitOne K (.ref D) (.ref Gs.cBadPrices) = some (decide (i = 5))
  i6 : PySem.W.kitOne K (.ref D) (.ref Gs.cBadText) = some (decide (i = 6))
  iv : PySem.W.kitOne K (.ref D) (.type "ValueError") = some true
  d4 : i = 4 → D = Gs.cBadKnown
  d6 : i = 6 → D = Gs.cBadText
def kindW : Nat → Str
  | 0 => "board"
  | 1 => "key"
  | 2 => "change"
  | 3 => "part"
  | 4 => "known"
  | 5 => "prices"
  | _ => "text"
/-- what is told of a refusal: its word, the number that two of them hold -/
def toldD (i : Nat) (n : Int) : PyData := .tuple (.str (kindW i) :: if i = 4 ∨ i = 6 then [.int n] else [])
/-- what the refusal holds -/
def HoldsX (H : Hp) (d : Option Addr) (i : Nat) (n : Int) : Prop :=
  (∀ dd, d = some dd → ∃ fs, H dd = some (.xd fs)) ∧ (i = 4 → ∃ dd, d = some dd ∧ H dd = some (.xd [("key", .int n)])) ∧ (i = 6 → ∃ dd, d = some dd ∧ H dd = some (.xd [("place", .int n)]))
/-- what _law_told makes of the work's reading -/
def TTx (K : PySem.W.Frag) {mg : Str → Option Value} (Gs : Kx mg) : (XK → Hp → VK → Prop) → Hp → VK → Prop := fun tl H Q =>
  tl (fun cls d H' => ∃ (i : Nat) (D : Addr) (n : Int), i < 7 ∧ cls = .ref D ∧ XOf K Gs D i ∧ HoldsX H' d i n ∧ ∀ v H2, Grow H' H2 → Rp K H2 (toldD i n) v → Q v H2) H Q
abbrev s_told : Stmt := (top 37)
theorem sc_told : FnScope ["_law_work", "e", "_law_kinds", "_law_words", "_law_word"] ["_law_work"] (defScope s_told) := ⟨rfl, rfl, rfl, by decide +kernel, rfl, by decide +kernel, by decide +kernel⟩

theorem told_gives {X : Cx} {g : Addr} {cdg : Value} {q : Str} (Bm : Blt X.mg) (nValueError : X.mg "ValueError" = none) (Gs : Kx X.mg) (XBadKnown : Xc X.K Gs.cBadKnown "key") (XBadText : Xc X.K Gs.cBadText "place") :
    GivesTo X ["_law_work", "e", "_law_kinds", "_law_words", "_law_word"] "_law_told" (defScope s_told) g cdg (defBody s_told) "_law_work" q (TTx X.K Gs) := by
  intro f c' s H Q tl act hc h
  refine ⟨_, (pss_one (ps_tryT (i := 1) rfl rfl sc_told.nd rfl rfl ⟨rfl, by decide, .inl Gs.gCatchError⟩ takes0 (fun W pn xe tk po => by exact (pss_one (ps_ret (pe_act1 (n := 5) (fun E q1 q2 hW => act _ pn xe E q1 q2 (takesLen tk) hW)))))
        (fun a oe cls d pn hz hf => by exact (pss_cons (ps_set (i := 2) sc_told.nd rfl (Or.inl rfl) (pe_lst (pa_cons (pe_callB (call_isX hz hf) rfl Bm.isinstance (by decide +kernel) (pa_cons (pv 1) (pa_cons (pe_glob (v := .ref Gs.cBadBoard) rfl Gs.gBadBoard rfl) pa_nil))) (pa_cons (pe_callB (call_isX hz hf) rfl Bm.isinstance (by decide +kernel) (pa_cons (pv 1) (pa_cons (pe_glob (v := .ref Gs.cNoKey) rfl Gs.gNoKey rfl) pa_nil))) (pa_cons (pe_callB (call_isX hz hf) rfl Bm.isinstance (by decide +kernel) (pa_cons (pv 1) (pa_cons (pe_glob (v := .ref Gs.cBadChange) rfl Gs.gBadChange rfl) pa_nil))) (pa_cons (pe_callB (call_isX hz hf) rfl Bm.isinstance (by decide +kernel) (pa_cons (pv 1) (pa_cons (pe_glob (v := .ref Gs.cBadPart) rfl Gs.gBadPart rfl) pa_nil))) pa_nil))))))
        (pss_cons (ps_set (i := 2) sc_told.nd rfl (Or.inl rfl) (pe_op op_cat (pv 2) (pe_lst (pa_cons (pe_callB (call_isX hz hf) rfl Bm.isinstance (by decide +kernel) (pa_cons (pv 1) (pa_cons (pe_glob (v := .ref Gs.cBadKnown) rfl Gs.gBadKnown rfl) pa_nil))) (pa_cons (pe_callB (call_isX hz hf) rfl Bm.isinstance (by decide +kernel) (pa_cons (pv 1) (pa_cons (pe_glob (v := .ref Gs.cBadPrices) rfl Gs.gBadPrices rfl) pa_nil))) (pa_cons (pe_callB (call_isX hz hf) rfl Bm.isinstance (by decide +kernel) (pa_cons (pv 1) (pa_cons (pe_glob (v := .ref Gs.cBadText) rfl Gs.gBadText rfl) pa_nil))) pa_nil))))))
        (pss_cons (ps_set (i := 3) sc_told.nd rfl (Or.inl rfl) (pe_lst (pa_cons pe_str (pa_cons pe_str (pa_cons pe_str (pa_cons pe_str (pa_cons pe_str (pa_cons pe_str (pa_cons pe_str pa_nil)))))))))
        (pss_cons (ps_if (PW.pt (pw_or (pt_cmpR op_ne (pe_bm PySem.F.plainAttrs_list PySem.F.slot_list_count PySem.F.type_list_count mt_lcountF (pv 2) (pa_cons pe_bl pa_nil)) pe_int (nomark _)) (pw_or1 (pt_not (pt_val (pe_callB (call_isX hz hf) rfl Bm.isinstance (by decide +kernel) (pa_cons (pv 1) (pa_cons (pe_bltn (v := .ty "ValueError") (u := .type "ValueError") rfl nValueError (by decide +kernel) rfl) pa_nil))))))))
          (pss_one (ps_ret (pe_tup (pa_cons pe_str pa_nil))))
          pss_nil)
        (pss_cons (ps_set (i := 4) sc_told.nd rfl (Or.inl rfl) (pe_ix ix_list (pv 3) (pe_bm PySem.F.plainAttrs_list PySem.F.slot_list_index PySem.F.type_list_index mt_index (pv 2) (pa_cons pe_bl pa_nil)) (fun _ _ => rfl)))
        (pss_cons (ps_if (pt_cmpR op_eq (pv 4) pe_str (nomark _))
          (pss_one (ps_ret (pe_tup (pa_cons (pv 4) (pa_cons (pe_xf XBadKnown.xf XBadKnown.no hz hf (pv 1)) pa_nil)))))
          pss_nil)
        (pss_one (ps_ret (pe_ifExp (pt_cmpR op_eq (pv 4) pe_str (nomark _)) (pe_tup (pa_cons (pv 4) (pa_cons (pe_xf XBadText.xf XBadText.no hz hf (pv 1)) pa_nil))) (pe_tup (pa_cons (pv 4) pa_nil)))))))))))))), ?_⟩
  intro pn xe
  refine ⟨_, ?_, rfl, hc, h⟩
  rintro cls d σ' H' ⟨i, D, n, hi, rfl, xo, ⟨hx, h4, h6⟩, k⟩ hlen
  refine ⟨true, xo.em, fun _ ea hea oe pn2 => ?_, fun z => nomatch z⟩
  obtain ⟨w0, w1, w2, w3, w4, rfl⟩ : ∃ w0 w1 w2 w3 w4, σ' = [w0, w1, w2, w3, w4] := by
    match σ', hlen with
    | [a, b, c, d, e], _ => exact ⟨a, b, c, d, e, rfl⟩
  have rf : ∀ c : Addr, ∀ u, RelV (.ref c) u → u = Value.ref c := fun c u r => r
  have hv : ∀ {H2 : Hp}, (∀ dd, d = some dd → H2 dd = H' dd) → ∀ dd, d = some dd → ∃ fs, H2 dd = some (.xd fs) := fun e dd hd => by
    rw [e dd hd]
    exact hx dd hd
  have keep : ∀ {H2 : Hp} {p : Addr} {o : HO}, (∀ dd, d = some dd → H2 dd = H' dd) → H2 p = none → ∀ dd, d = some dd → upd H2 p o dd = H' dd := fun {H2 p o} e hp dd hd => by
    have : dd ≠ p := fun z => by
      obtain ⟨fs, hfs⟩ := hx dd hd
      rw [← z, e dd hd, hfs] at hp
      cases hp
    rw [upd_ne this]
    exact e dd hd
  have e0 : ∀ dd, d = some dd → H' dd = H' dd := fun _ _ => rfl
  refine ⟨_, rfl, D, rfl, xo.ec, _, _, _, rfl, rf _, xo.i0, hx, ?_⟩
  refine ⟨_, rfl, D, rfl, xo.ec, _, _, _, rfl, rf _, xo.i1, hx, ?_⟩
  refine ⟨_, rfl, D, rfl, xo.ec, _, _, _, rfl, rf _, xo.i2, hx, ?_⟩
  refine ⟨_, rfl, D, rfl, xo.ec, _, _, _, rfl, rf _, xo.i3, hx, ⟨(by show 4 ≤ sizeLine; decide), fun p hp => ?_⟩⟩
  have e1 := keep (o := .lst [.bl (decide (i = 0)), .bl (decide (i = 1)), .bl (decide (i = 2)), .bl (decide (i = 3))]) e0 hp
  have t1 := (Tr.refl H' []).new (o := .lst [.bl (decide (i = 0)), .bl (decide (i = 1)), .bl (decide (i = 2)), .bl (decide (i = 3))]) hp nl
  refine ⟨_, rfl, _, rfl, D, rfl, xo.ec, _, _, _, rfl, rf _, xo.i4, hv e1, ?_⟩
  refine ⟨_, rfl, D, rfl, xo.ec, _, _, _, rfl, rf _, xo.i5, hv e1, ?_⟩
  refine ⟨_, rfl, D, rfl, xo.ec, _, _, _, rfl, rf _, xo.i6, hv e1, ⟨(by show 3 ≤ sizeLine; decide), fun q2 hq2 => ?_⟩⟩
  have e2 := keep (o := .lst [.bl (decide (i = 4)), .bl (decide (i = 5)), .bl (decide (i = 6))]) e1 hq2
  have t2 := t1.new (o := .lst [.bl (decide (i = 4)), .bl (decide (i = 5)), .bl (decide (i = 6))]) hq2 nl
  refine ⟨p, q2, _, _, rfl, rfl, t2.own.tail.head, t2.own.head, (by show 4 + 3 ≤ sizeLine; decide), fun r hr2 => ?_⟩
  have e3 := keep (o := .lst ([.bl (decide (i = 0)), .bl (decide (i = 1)), .bl (decide (i = 2)), .bl (decide (i = 3))] ++ [.bl (decide (i = 4)), .bl (decide (i = 5)), .bl (decide (i = 6))])) e2 hr2
  have t3 := t2.new (o := .lst ([.bl (decide (i = 0)), .bl (decide (i = 1)), .bl (decide (i = 2)), .bl (decide (i = 3))] ++ [.bl (decide (i = 4)), .bl (decide (i = 5)), .bl (decide (i = 6))])) hr2 nl
  -- the words
  refine ⟨(by show 7 ≤ sizeLine; decide), fun ws hws => ?_⟩
  have e4 := keep (o := .lst [.str "board", .str "key", .str "change", .str "part", .str "known", .str "prices", .str "text"]) e3 hws
  have t4 := t3.new (o := .lst [.str "board", .str "key", .str "change", .str "part", .str "known", .str "prices", .str "text"]) hws nl
  have hr4 := SqL.of (K := X.K) t4.own.tail.head
  have cnt : (([.bl (decide (i = 0)), .bl (decide (i = 1)), .bl (decide (i = 2)), .bl (decide (i = 3))] ++ [.bl (decide (i = 4)), .bl (decide (i = 5)), .bl (decide (i = 6))] : List V).countP fun z => eqV z (.bl true)) = 1 := by
    rcases (by omega : i = 0 ∨ i = 1 ∨ i = 2 ∨ i = 3 ∨ i = 4 ∨ i = 5 ∨ i = 6) with rfl | rfl | rfl | rfl | rfl | rfl | rfl <;> decide
  refine ⟨_, rfl, .inl ⟨rfl, _, hr4⟩, r, _, _, rfl, rfl, hr4, rfl, rfl, ?_⟩
  rw [cnt]
  refine ⟨rfl, _, rfl, iteM (by decide) ?_⟩
  refine ⟨_, rfl, D, rfl, xo.ec, _, _, _, rfl, (fun u z => z), xo.iv, hv e4, ?_⟩
  refine ⟨_, rfl, iteM (by decide) ?_⟩
  have dm : ∀ i, i < 7 → ∀ m, m < i → ((([.bl (decide (i = 0)), .bl (decide (i = 1)), .bl (decide (i = 2)), .bl (decide (i = 3))] ++ [.bl (decide (i = 4)), .bl (decide (i = 5)), .bl (decide (i = 6))] : List V)[m]?).map fun z => eqV z (.bl true)) = some false := by decide
  have dj : ([.bl (decide (i = 0)), .bl (decide (i = 1)), .bl (decide (i = 2)), .bl (decide (i = 3))] ++ [.bl (decide (i = 4)), .bl (decide (i = 5)), .bl (decide (i = 6))] : List V)[i]? = some (.bl true) := by
    rcases (by omega : i = 0 ∨ i = 1 ∨ i = 2 ∨ i = 3 ∨ i = 4 ∨ i = 5 ∨ i = 6) with rfl | rfl | rfl | rfl | rfl | rfl | rfl <;> rfl
  have dw : atI ([.str "board", .str "key", .str "change", .str "part", .str "known", .str "prices", .str "text"] : List V) (i : Int) = some (.str (kindW i)) := by
    rcases (by omega : i = 0 ∨ i = 1 ∨ i = 2 ∨ i = 3 ∨ i = 4 ∨ i = 5 ∨ i = 6) with rfl | rfl | rfl | rfl | rfl | rfl | rfl <;> rfl
  have k4 : ∀ i, i < 7 → kindW i = "known" → i = 4 := by decide +kernel
  have k6 : ∀ i, i < 7 → kindW i = "text" → i = 6 := by decide +kernel
  refine ⟨_, rfl, _, rfl, .inl ⟨rfl, _, hr4⟩, r, _, _, i, _, rfl, rfl, hr4, rfl, rfl, dj, rfl, fun m z' hm hz => ?_, ?_⟩
  · have := dm i hi m hm
    rw [hz] at this
    exact Option.some.inj this
  refine ⟨ws, _, _, _, rfl, rfl, SqL.of t4.own.head, dw, ?_⟩
  have gr : ∀ {t : Addr} {o : HO}, upd (upd (upd (upd H' p (.lst [.bl (decide (i = 0)), .bl (decide (i = 1)), .bl (decide (i = 2)), .bl (decide (i = 3))])) q2 (.lst [.bl (decide (i = 4)), .bl (decide (i = 5)), .bl (decide (i = 6))])) r (.lst ([.bl (decide (i = 0)), .bl (decide (i = 1)), .bl (decide (i = 2)), .bl (decide (i = 3))] ++ [.bl (decide (i = 4)), .bl (decide (i = 5)), .bl (decide (i = 6))]))) ws (.lst [.str "board", .str "key", .str "change", .str "part", .str "known", .str "prices", .str "text"]) t = none →
      Grow H' (upd (upd (upd (upd (upd H' p (.lst [.bl (decide (i = 0)), .bl (decide (i = 1)), .bl (decide (i = 2)), .bl (decide (i = 3))])) q2 (.lst [.bl (decide (i = 4)), .bl (decide (i = 5)), .bl (decide (i = 6))])) r (.lst ([.bl (decide (i = 0)), .bl (decide (i = 1)), .bl (decide (i = 2)), .bl (decide (i = 3))] ++ [.bl (decide (i = 4)), .bl (decide (i = 5)), .bl (decide (i = 6))]))) ws (.lst [.str "board", .str "key", .str "change", .str "part", .str "known", .str "prices", .str "text"])) t o) :=
    fun ht => (t4.old ht).sub (List.nil_sublist _)
  refine ⟨_, rfl, rfl, _, rfl, ite2 (fun c4 => ?_) fun c4 => ?_⟩
  · have i4 := k4 i hi (V.str.inj (of_decide_eq_true c4))
    subst i4
    obtain ⟨dd, rfl, hdd⟩ := h4 rfl
    have eD := xo.d4 rfl
    subst eD
    refine ⟨_, rfl, _, rfl, rfl, rfl, dd, _, _, rfl, (e4 dd rfl).trans hdd, rfl, ⟨(by show 2 ≤ sizeLine; decide), fun t ht => ?_⟩⟩
    exact k _ _ (gr ht) (.tup upd_same (.cons .str (.cons .int .nil)))
  refine ⟨_, rfl, rfl, _, rfl, ite2 (fun c6 => ?_) fun c6 => ?_⟩
  · have i6 := k6 i hi (V.str.inj (of_decide_eq_true c6))
    subst i6
    obtain ⟨dd, rfl, hdd⟩ := h6 rfl
    have eD := xo.d6 rfl
    subst eD
    refine ⟨_, rfl, _, rfl, rfl, rfl, dd, _, _, rfl, (e4 dd rfl).trans hdd, rfl, ⟨(by show 2 ≤ sizeLine; decide), fun t ht => ?_⟩⟩
    exact k _ _ (gr ht) (.tup upd_same (.cons .str (.cons .int .nil)))
  · have n4 : ¬ i = 4 := fun z => c4 (by subst z; decide +kernel)
    have n6 : ¬ i = 6 := fun z => c6 (by subst z; decide +kernel)
    refine ⟨_, rfl, ⟨(by show 1 ≤ sizeLine; decide), fun t ht => ?_⟩⟩
    refine k _ _ (gr ht) ?_
    unfold toldD
    rw [if_neg (fun z => z.elim n4 n6)]
    exact .tup upd_same (.cons .str .nil)
theorem told_cx {P : Program} {w : World} {K : PySem.W.Frag} {mg : Str → Option Value} {base : Heap} {N : List Str} {qual : Str} {scope : Scope} {f : Addr} {cd : Value} {A : Around} {outer : List Env} {s : Shared} {H : Hp} {E : XK} {g : Addr} {cdg : Value} {q : Str}
    (Bm : Blt mg) (nValueError : mg "ValueError" = none) (Gs : Kx mg) (XBadKnown : Xc K Gs.cBadKnown "key") (XBadText : Xc K Gs.cBadText "place") :
    GivesTo (cxOf CX0 P w K mg base N qual scope f cd A outer s H E).nox ["_law_work", "e", "_law_kinds", "_law_words", "_law_word"] "_law_told" (defScope s_told) g cdg (defBody s_told) "_law_work" q (TTx K Gs) :=
  told_gives (X := (cxOf CX0 P w K mg base N qual scope f cd A outer s H E).nox) Bm nValueError Gs XBadKnown XBadText
/-- _law_told(lambda: ..) -/
theorem pl {X : Cx} {c Pt : Addr} {k : Nat} {TT : (XK → Hp → VK → Prop) → Hp → VK → Prop} {params : Arguments} {body : Expr} {scope : Scope} {t : XK → TE} {p lpos pos : Pos} (F : Fd X.K X.mg "_law_told" s_told)
    (hG : ∀ (g : Addr) (cdg : Value), GivesTo X ["_law_work", "e", "_law_kinds", "_law_words", "_law_word"] "_law_told" (defScope s_told) g cdg (defBody s_told) "_law_work" (X.env.qual ++ "<lambda>") TT)
    (TB : LamX.TabB X.base X.mg c Pt) (hcode : X.env.code = .ref c) (hr : Room (k + 2) X.A) (L : LamX.LamS X.env.scope scope) (hdef : defaultsOf params X.env = ([], []))
    (hbind : ∀ (q : Str) (cl : List (Str × Addr)) (pm cv ctv : Value), bindArgs (PySem.W.kla_fn "<lambda>" q params body scope cl pm cv ctv) ⟨[], []⟩ = pure [])
    (hbody : ∀ (A : Around) (outer : List Env) (s : Shared) (H : Hp) (E : XK) (f c' : Addr), Room k (A.deeper (LamX.lamEnv X scope s.heap.objs.size f c')) → PE (LamX.lamCx X A outer s H E scope f c') body (t E)) (hg : Gl X "_law_told" := by rfl) :
    PE X (.Call (.Name "_law_told" p) [.Lambda params body scope lpos] [] pos) (LamX.tLam [(Pt, X.env.qual ++ "<lambda>")] TT t) := by
  obtain ⟨f, fd, F, hm⟩ := F.ex
  have hb := F.binds (ps := ["_law_work"]) fun _ _ _ _ _ _ us hl => match us, hl with | [_], _ => rfl
  obtain ⟨oc, od, kV, doc, pm, an, cdv, ct, osl, rfl, lk, hcd⟩ := F.ex
  exact LamX.pe_lamcall (Ng := ["_law_work", "e", "_law_kinds", "_law_words", "_law_word"]) (a := "_law_work") (c := c) (P := Pt) hg hm F.kp lk hcd hb sc_told rfl (.inl rfl) (hG f cdv) TB hcode List.mem_cons_self (fun p hp _ => by rw [List.mem_singleton.mp hp]) hr L hdef hbind hbody
end Cu

namespace Cu
open PySem PySem.Spec PyProof.Rows L2
/-! what is refused: classes and methods that raise -/
theorem pss_dead {X : Cx} {sts : List Stmt} : PSs X sts (fun _ _ _ => False) := ⟨fun _ _ _ _ _ _ h => h.elim⟩
section
variable (P : Program) (w : World) (K : PySem.W.Frag) (mg : Str → Option Value) (base : Heap)
/-- a class whose making may raise; a method that may -/
structure Kfx (j : Nat) (x : Str) (C : Addr) (ps : List Str) (sp : Sp) : Prop where
  ex : ∃ f fd, FnOk P w K mg base (L2.CX P w) j f fd ps sp ∧ Mk K C f ∧ mg x = some (.ref C) ∧ Binds K fd ps []
structure Mfx (j : Nat) (C : Addr) (m : Str) (ps : List Str) (sp : Sp) : Prop where
  ex : ∃ f fd, FnOk P w K mg base (L2.CX P w) j f fd ps sp ∧ Meth K C m f ∧ Binds K fd ps []
end
section
variable {P : Program} {w : World} {K : PySem.W.Frag} {mg : Str → Option Value} {base : Heap} {x m qual : Str} {C : Addr} {st : Stmt} {N ps : List Str} {k : Nat} {sp : Sp}
theorem Md.okX (F : Md K C m qual st) (S : FnScope N ps (defScope st)) (b : Bnd m qual st ps) (len : ∀ vs H Q E, sp vs H Q E → vs.length = ps.length)
    (go : ∀ (q : Str) (g : Addr) (cd : Value) (A : Around) (outer : List Env) (s : Shared) (H : Hp) (vs : List V) (Q : VK) (E : XK), Room k (A.deeper (envOfC q (defScope st) s.heap.objs.size g cd)) → sp vs H Q E →
      ∃ t, PSs (cxOf (L2.CX P w) P w K mg base N q (defScope st) g cd A outer s H E) (defBody st) t ∧ t { nx := fun _ H' => Q .non H', rt := Q } (start N vs) H) : Mfx P w K mg base (k + 1) C m ps sp :=
  let ⟨g, fd, F, hm⟩ := F.ex
  ⟨g, fd, F.okX S len fun cd A outer s H vs Q E hr h => go qual g cd A outer s H vs Q E hr h, hm, F.binds b⟩
theorem Kd.okX (F : Kd K mg x C qual st) (S : FnScope N ps (defScope st)) (b : Bnd "__init__" qual st ps) (len : ∀ vs H Q E, sp vs H Q E → vs.length = ps.length)
    (go : ∀ (q : Str) (g : Addr) (cd : Value) (A : Around) (outer : List Env) (s : Shared) (H : Hp) (vs : List V) (Q : VK) (E : XK), Room k (A.deeper (envOfC q (defScope st) s.heap.objs.size g cd)) → sp vs H Q E →
      ∃ t, PSs (cxOf (L2.CX P w) P w K mg base N q (defScope st) g cd A outer s H E) (defBody st) t ∧ t { nx := fun _ H' => Q .non H', rt := Q } (start N vs) H) : Kfx P w K mg base (k + 1) x C ps sp :=
  let ⟨g, fd, F, hm, hx⟩ := F.ex
  ⟨g, fd, F.okX S len fun cd A outer s H vs Q E hr h => go qual g cd A outer s H vs Q E hr h, hm, hx, F.binds b⟩
end
section
variable {X : Cx} {j k : Nat} {x m : Str} {C : Addr} {ps : List Str} {sp : Sp} {p pos apos : Pos} {e o : Expr} {es : List Expr} {t : TA} {to : TE} {E : XK}
/-- C(..), which may raise -/
theorem pky (tk : Takes X fun cls d _ H => E cls d H) (g : Kfx X.prog X.w X.K X.mg X.base j x C ps sp) (hr : Room k X.A) (ha : PA X (e :: es) t) (hg : Gl X x := by rfl) (hj : j + 1 ≤ k := by decide) (hdb : (x == ("__debug__" : Str)) = false := by decide)
    (he : starEach (e :: es) X.env = (false, eval e X.env) :: starEach es X.env := by rfl) (hpl : (backTo pos (starEach es X.env)).any (·.1) = false := by rfl) :
    PE X (.Call (.Name x p) (e :: es) [] pos) (tMake C sp [] E t) := by
  obtain ⟨f, fd, F, M, hm, hb⟩ := g.ex
  exact pe_make M F (hr.mono hj) hg hm hb .nil (passes_call tk fun _ _ _ _ z => z) ha hdb he hpl
/-- o.m(..), which may raise -/
theorem pmy {pl : Sem Bool} (tk : Takes X fun cls d _ H => E cls d H) (ho : PE X o to) (c : Cls X.K C) (g : Mfx X.prog X.w X.K X.mg X.base j C m ps sp) (hr : Room k X.A) (ha : PA X (e :: es) t) (hj : j ≤ k := by decide)
    (hst : starEach (e :: es) X.env = (false, eval e X.env) :: starEach es X.env := by rfl) (hpl : (backTo pos (starEach es X.env)).any (·.1) = false := by rfl)
    (ht : eval (.Call (.Attribute o m apos) (e :: es) [] pos) X.env = (do
      let v ← eval o X.env
      standAt apos.atName
      let (g, first) ← holding [v] (getMethod v m pl)
      callWith pos g first (backTo pos (starEach (e :: es) X.env)) (backToKw pos (keywordEach [] X.env))) := by rfl) :
    PE X (.Call (.Attribute o m apos) (e :: es) [] pos) (tMeth C m sp [] E to t) := by
  obtain ⟨f, fd, F, hm, hb⟩ := g.ex
  exact pe_meth ho c hm F (hr.mono hj) hb .nil (passes_call tk fun _ _ _ _ z => z) ha hst hpl ht
end
end Cu

namespace Cu
open PySem PySem.Spec PyProof.Rows L2
/-- Board(..), refused -/
def spBinitX (CE : Addr) : Sp := fun vs H _ E => vs.length = 3 ∧ ∃ (p : Addr) (z1 z2 : Int), vs = [.ref p, .int z1, .int z2] ∧ ¬ (1 ≤ z1 ∧ z1 ≤ 8 ∧ 0 ≤ z2 ∧ z2 ≤ 20) ∧ E (.ref CE) none H
section
variable {P : Program} {w : World} {K : PySem.W.Frag} {mg : Str → Option Value} {base : Heap} {C CE : Addr}
theorem ok_BinitX {tk tk2 : Tok} (F : Kd K mg "Board" C "Board.__init__" s_Board_init) (Bm : Blt mg) (km_MOST_KEYS : mg "MOST_KEYS" = some (.int 8 tk)) (km_MOST_TAIL : mg "MOST_TAIL" = some (.int 20 tk2)) (XBadBoard : Xo K mg "BadBoard" CE) : Kfx P w K mg base 1 "Board" C ["self", "keys", "keep"] (spBinitX CE) := by
  refine F.okX sc_Board_init (fun _ _ _ _ _ _ us hl => match us, hl with | [_, _, _], _ => rfl) len_of fun qual f cdv A0 outer s H vs Q E hr h => ?_
  obtain ⟨_, p, z1, z2, rfl, hz, go⟩ := h
  refine ⟨_, (pss_cons (ps_if (PW.pt (pw_or (pt_not (pt_chain op_le op_le pe_int (pv 1) (pe_glob (v := .int 8) rfl km_MOST_KEYS ⟨_, rfl⟩))) (pw_or1 (pt_not (pt_chain op_le op_le pe_int (pv 2) (pe_glob (v := .int 20) rfl km_MOST_TAIL ⟨_, rfl⟩))))))
    (pss_one (ps_raise rfl (takes_of rfl rfl rfl rfl) (pxo XBadBoard))) pss_nil) pss_dead), ?_⟩
  refine ⟨_, rfl, _, _, rfl, rfl, _, rfl, ite2 (fun h1 => ⟨_, _, rfl, rfl, _, rfl, ite2 (fun h2 => go) fun h2 => ?_⟩) fun h1 => ⟨_, rfl, ite2 (fun _ => go) fun z => ?_⟩⟩
  · have h1 := of_decide_eq_true h1
    have h2 : z1 ≤ 8 := by simpa using h2
    refine ⟨_, rfl, _, _, rfl, rfl, _, rfl, ite2 (fun h3 => ⟨_, _, rfl, rfl, _, rfl, ite2 (fun h4 => go) fun h4 => ?_⟩) fun h3 => ⟨_, rfl, ite2 (fun _ => go) fun z => ?_⟩⟩
    · have h3 := of_decide_eq_true h3
      have h4 : z2 ≤ 20 := by simpa using h4
      exact absurd ⟨h1, h2, h3, h4⟩ hz
    · exact absurd (by simpa using h3) z
  · exact absurd (by simpa using h1) z
end
end Cu

namespace Cu
open PySem PySem.Spec PyProof.Rows L2
/-- Hearer(..), refused; look, refused -/
def spHinitX (CE : Addr) : Sp := fun vs H _ E => vs.length = 2 ∧ ∃ (p : Addr) (z : Int), vs = [.ref p, .int z] ∧ ¬ (1 ≤ z ∧ z ≤ 8) ∧ E (.ref CE) none H
def spLookX (K : PySem.W.Frag) (C CE : Addr) : Sp := fun vs H _ E => vs.length = 2 ∧ ∃ (A : HA) (hs : List HK) (c : Lg) (z : Int), vs = [.ref A.p, .int z] ∧ HR K C A hs H c ∧ Has H c ∧ ¬ (0 ≤ z ∧ z < hs.length) ∧ E (.ref CE) none H
section
variable {P : Program} {w : World} {K : PySem.W.Frag} {mg : Str → Option Value} {base : Heap} {C CE : Addr}
theorem ok_HinitX {tk : Tok} (F : Kd K mg "Hearer" C "Hearer.__init__" s_Hearer_init) (Bm : Blt mg) (km_MOST_KEYS : mg "MOST_KEYS" = some (.int 8 tk)) (XBadBoard : Xo K mg "BadBoard" CE) : Kfx P w K mg base 1 "Hearer" C ["self", "keys"] (spHinitX CE) := by
  refine F.okX sc_Hearer_init (fun _ _ _ _ _ _ us hl => match us, hl with | [_, _], _ => rfl) len_of fun qual f cdv A0 outer s H vs Q E hr h => ?_
  obtain ⟨_, p, z1, rfl, hz, go⟩ := h
  refine ⟨_, (pss_cons (ps_if (pt_not (pt_chain op_le op_le pe_int (pv 1) (pe_glob (v := .int 8) rfl km_MOST_KEYS ⟨_, rfl⟩))) (pss_one (ps_raise rfl (takes_of rfl rfl rfl rfl) (pxo XBadBoard))) pss_nil) pss_dead), ?_⟩
  refine ⟨_, rfl, _, _, rfl, rfl, _, rfl, ite2 (fun h1 => ⟨_, _, rfl, rfl, _, rfl, ite2 (fun h2 => go) fun h2 => ?_⟩) fun h1 => ⟨_, rfl, ite2 (fun _ => go) fun z => ?_⟩⟩
  · exact absurd ⟨of_decide_eq_true h1, by simpa using h2⟩ hz
  · exact absurd (by simpa using h1) z
theorem ok_lookX (F : Md K C "look" "Hearer.look" s_Hearer_look) (Bm : Blt mg) (CHearer : CHr K C) (XNoKey : Xo K mg "NoKey" CE) : Mfx P w K mg base 1 C "look" ["self", "key"] (spLookX K C CE) := by
  refine F.okX sc_Hearer_look (fun _ _ _ _ _ _ us hl => match us, hl with | [_, _], _ => rfl) len_of fun qual f cdv A0 outer s H vs Q E hr h => ?_
  obtain ⟨_, A, hs, c, z, rfl, r, hc, hz, go⟩ := h
  refine ⟨_, (pss_cons (ps_if (pt_not (pt_chain op_le op_lt pe_int (pv 1) (pe_callB call_len_seq rfl Bm.len (by decide +kernel) (pa_cons (pe_fld (pv 0) rfl) pa_nil)))) (pss_one (ps_raise rfl (takes_of rfl rfl rfl rfl) (pxo XNoKey))) pss_nil) pss_dead), ?_⟩
  refine ⟨_, rfl, _, _, rfl, rfl, _, rfl, ite2 (fun h1 => ⟨_, rfl, _, C, _, _, _, rfl, r.at_p hc, CHearer.cl, CHearer.n1, hF1 A, _, _, rfl, .inl (SqL.of (r.at1 hc)), _, _, rfl, rfl, _, rfl, ite2 (fun h2 => go) fun h2 => ?_⟩) fun h1 => ⟨_, rfl, ite2 (fun _ => go) fun z => ?_⟩⟩
  · have h2 : z < (((hs.map fun h => V.int h.worth).length : Nat) : Int) := by simpa using h2
    rw [List.length_map] at h2
    exact absurd ⟨of_decide_eq_true h1, h2⟩ hz
  · exact absurd (by simpa using h1) z
end
end Cu

namespace Cu
open PySem PySem.Spec PyProof.Rows L2
/-- change, refused; part, refused -/
def spBchgX (K : PySem.W.Frag) (C CN CC : Addr) : Sp := fun vs H _ E => vs.length = 4 ∧ ∃ (B : BA) (nk keep : Nat) (cs : List Ch) (c : Lg) (z : Int) (word : Str) (v : V), vs = [.ref B.p, .int z, .str word, v] ∧ BR K C B nk keep cs H c ∧ Has H c ∧
  ((¬ (0 ≤ z ∧ z < nk) ∧ E (.ref CN) none H) ∨ ((0 ≤ z ∧ z < nk) ∧ word ≠ "set" ∧ word ≠ "add" ∧ ∀ H', Grow H H' → E (.ref CC) none H'))
def spBpartX (K : PySem.W.Frag) (C CP : Addr) : Sp := fun vs H _ E => vs.length = 3 ∧ ∃ (B : BA) (nk keep : Nat) (cs : List Ch) (c : Lg) (b e : Int), vs = [.ref B.p, .int b, .int e] ∧ BR K C B nk keep cs H c ∧ Has H c ∧ ¬ (0 ≤ b ∧ b < e ∧ e ≤ nk) ∧ E (.ref CP) none H
section
variable {P : Program} {w : World} {K : PySem.W.Frag} {mg : Str → Option Value} {base : Heap} {C CN CC CP : Addr}
theorem ok_BchangeX (F : Md K C "change" "Board.change" s_Board_change) (Bm : Blt mg) (CBoard : CBo K C) (XNoKey : Xo K mg "NoKey" CN) (XBadChange : Xo K mg "BadChange" CC) : Mfx P w K mg base 1 C "change" ["self", "key", "word", "worth"] (spBchgX K C CN CC) := by
  refine F.okX sc_Board_change (fun _ _ _ _ _ _ us hl => match us, hl with | [_, _, _, _], _ => rfl) len_of fun qual f cdv A0 outer s H vs Q E hr h => ?_
  obtain ⟨_, B, nk, keep, cs, c, z, word, v, rfl, r, hc, go⟩ := h
  refine ⟨_, (pss_cons (ps_if (pt_not (pt_chain op_le op_lt pe_int (pv 1) (pe_callB call_len_seq rfl Bm.len (by decide +kernel) (pa_cons (pe_fld (pv 0) rfl) pa_nil))))
      (pss_one (ps_raise rfl (takes_of rfl rfl rfl rfl) (pxo XNoKey))) pss_nil)
    (pss_cons (ps_if (pt_cmpR op_notIn_seq (pv 2) (pe_tup (pa_cons pe_str (pa_cons pe_str pa_nil))) (by rfl))
      (pss_one (ps_raise rfl (takes_of rfl rfl rfl rfl) (pxo XBadChange))) pss_nil) pss_dead)), ?_⟩
  have hl : (((wrow nk cs).map V.int).length : Int) = nk := by rw [List.length_map, wrow_len]
  refine ⟨_, rfl, _, _, rfl, rfl, _, rfl, ite2 (fun h1 => ⟨_, rfl, _, C, _, _, _, rfl, r.at_p hc, CBoard.cl, CBoard.n1, bF1 B _ _, _, _, rfl, .inl (SqL.of (r.at1 hc)), _, _, rfl, rfl, _, rfl, ?_⟩) fun h1 => ⟨_, rfl, ?_⟩⟩
  · rw [hl]
    have h1 := of_decide_eq_true h1
    rcases go with ⟨hz, go⟩ | ⟨hz, w1, w2, go⟩
    · refine iteP ?_ go
      simp only [Bool.not_eq_true', decide_eq_false_iff_not]
      exact fun q => hz ⟨h1, q⟩
    · refine iteM (by simpa using hz.2) ?_
      refine ⟨_, rfl, ⟨(by show 2 ≤ sizeLine; decide), fun t1 ht1 => ⟨t1, _, rfl, .inr (SqT.of upd_same), rfl, rfl, _, rfl, iteP ?_ (go _ (Grow.new ht1))⟩⟩⟩
      have e : inV (V.str word) [V.str "set", V.str "add"] = false := by
        show (eqV (.str "set") (.str word) || (eqV (.str "add") (.str word) || false)) = false
        simp [eqV, Ne.symm w1, Ne.symm w2]
      rw [e]
      rfl
  · rcases go with ⟨hz, go⟩ | ⟨hz, _⟩
    · exact iteP (by simpa using h1) go
    · exact absurd (decide_eq_true hz.1) h1
theorem ok_BpartX (F : Md K C "part" "Board.part" s_Board_part) (Bm : Blt mg) (CBoard : CBo K C) (XBadPart : Xo K mg "BadPart" CP) : Mfx P w K mg base 1 C "part" ["self", "begin", "end"] (spBpartX K C CP) := by
  refine F.okX sc_Board_part (fun _ _ _ _ _ _ us hl => match us, hl with | [_, _, _], _ => rfl) len_of fun qual f cdv A0 outer s H vs Q E hr h => ?_
  obtain ⟨_, B, nk, keep, cs, c, b, e, rfl, r, hc, hz, go⟩ := h
  refine ⟨_, (pss_cons (ps_if (pt_not (pt_chain3 op_le op_lt op_le pe_int (pv 1) (pv 2) (pe_callB call_len_seq rfl Bm.len (by decide +kernel) (pa_cons (pe_fld (pv 0) rfl) pa_nil))))
      (pss_one (ps_raise rfl (takes_of rfl rfl rfl rfl) (pxo XBadPart))) pss_nil) pss_dead), ?_⟩
  have hl : (((wrow nk cs).map V.int).length : Int) = nk := by rw [List.length_map, wrow_len]
  refine ⟨_, rfl, _, _, rfl, rfl, _, rfl, ite2 (fun h1 => ⟨_, rfl, _, _, rfl, rfl, _, rfl, ite2 (fun h2 => ⟨_, rfl, _, C, _, _, _, rfl, r.at_p hc, CBoard.cl, CBoard.n1, bF1 B _ _, _, _, rfl, .inl (SqL.of (r.at1 hc)), _, _, rfl, rfl, _, rfl, ?_⟩) fun h2 => ⟨_, rfl, iteP (by simpa using h2) go⟩⟩) fun h1 => ⟨_, rfl, iteP (by simpa using h1) go⟩⟩
  rw [hl]
  refine iteP ?_ go
  simp only [Bool.not_eq_true', decide_eq_false_iff_not]
  exact fun q => hz ⟨of_decide_eq_true h1, of_decide_eq_true h2, q⟩
end
end Cu

namespace Cu
open PySem PySem.Spec PyProof.Rows L2
abbrev s_answer : Stmt := (top 19)
theorem sc_answer : FnScope ["board", "known", "begins", "found", "end", "begin"] ["board", "known"] (defScope s_answer) := ⟨rfl, rfl, rfl, by decide +kernel, rfl, by decide +kernel, by decide +kernel⟩

abbrev s_prices : Stmt := (top 20)
theorem sc_prices : FnScope ["board", "known", "found", "key"] ["board", "known"] (defScope s_prices) := ⟨rfl, rfl, rfl, by decide +kernel, rfl, by decide +kernel, by decide +kernel⟩

abbrev s_shows : Stmt := (top 21)
theorem sc_shows : FnScope ["board", "known", "told", "key", "some", "end"] ["board", "known", "told"] (defScope s_shows) := ⟨rfl, rfl, rfl, by decide +kernel, rfl, by decide +kernel, by decide +kernel⟩

/-- answer, prices, refused: the first number that nobody can know -/
def spAnsX (K : PySem.W.Frag) (CB CK : Addr) : Sp := fun vs H _ E => vs.length = 2 ∧ ∃ (B : BA) (nk keep : Nat) (cs : List Ch) (c : Lg) (kn : Addr) (ns : List Int) (k : Nat), vs = [.ref B.p, .ref kn] ∧ BR K CB B nk keep cs H c ∧ Has H c ∧ SqL K H kn (ns.map V.int) ∧ nk ≤ 8 ∧ badN nk cs.length ns = some k ∧
  ∀ d H', Grow H H' → H' d = some (xdK k) → E (.ref CK) (some d) H'
/-- shows, refused -/
def spShowsX (K : PySem.W.Frag) (CB CK CP : Addr) : Sp := fun vs H _ E => vs.length = 3 ∧ ∃ (B : BA) (nk keep : Nat) (cs : List Ch) (c : Lg) (kn pt : Addr) (ns ps : List Int), vs = [.ref B.p, .ref kn, .ref pt] ∧ BR K CB B nk keep cs H c ∧ Has H c ∧ SqL K H kn (ns.map V.int) ∧ SqL K H pt (ps.map V.int) ∧ nk ≤ 8 ∧ ps.length ≠ nk ∧
  (∀ k, badN nk cs.length ns = some k → ∀ d H', Grow H H' → H' d = some (xdK k) → E (.ref CK) (some d) H') ∧ (badN nk cs.length ns = none → E (.ref CP) none H)
section
variable {P : Program} {w : World} {K : PySem.W.Frag} {mg : Str → Option Value} {base : Heap} {CB CK CP : Addr}
theorem ok_answerX (F : Fd K mg "answer" s_answer) (g_need_known : Gx P w K mg base 3 "need_known" ["board", "known"] (spNeedX K CB CK)) : Gx P w K mg base 4 "answer" ["board", "known"] (spAnsX K CB CK) := by
  refine F.okX sc_answer (fun _ _ _ _ _ _ us hl => match us, hl with | [_, _], _ => rfl) len_of fun qual f cdv A0 outer s H vs Q E hr h => ?_
  obtain ⟨_, B, nk, keep, cs, c, kn, ns, k, rfl, r, hc, st, h8, hk, go⟩ := h
  refine ⟨_, (pss_cons (ps_expr (pcy (takes_of rfl rfl rfl rfl) g_need_known hr (pa_cons (pv 0) (pa_cons (pv 1) pa_nil)))) pss_dead), ?_⟩
  refine ⟨_, rfl, _, rfl, rfl, B, nk, keep, cs, c, kn, ns, rfl, r, hc, st, h8, fun k' hk' => ?_, fun hn => ?_⟩
  · rw [hk] at hk'
    cases hk'
    exact go
  · rw [hk] at hn
    cases hn
theorem ok_pricesX (F : Fd K mg "prices" s_prices) (g_need_known : Gx P w K mg base 3 "need_known" ["board", "known"] (spNeedX K CB CK)) : Gx P w K mg base 4 "prices" ["board", "known"] (spAnsX K CB CK) := by
  refine F.okX sc_prices (fun _ _ _ _ _ _ us hl => match us, hl with | [_, _], _ => rfl) len_of fun qual f cdv A0 outer s H vs Q E hr h => ?_
  obtain ⟨_, B, nk, keep, cs, c, kn, ns, k, rfl, r, hc, st, h8, hk, go⟩ := h
  refine ⟨_, (pss_cons (ps_expr (pcy (takes_of rfl rfl rfl rfl) g_need_known hr (pa_cons (pv 0) (pa_cons (pv 1) pa_nil)))) pss_dead), ?_⟩
  refine ⟨_, rfl, _, rfl, rfl, B, nk, keep, cs, c, kn, ns, rfl, r, hc, st, h8, fun k' hk' => ?_, fun hn => ?_⟩
  · rw [hk] at hk'
    cases hk'
    exact go
  · rw [hk] at hn
    cases hn
theorem ok_showsX (F : Fd K mg "shows" s_shows) (Bm : Blt mg) (CBoard : CBo K CB) (g_need_known : Gx P w K mg base 3 "need_known" ["board", "known"] (spNeedX K CB CK)) (m_Board_size : Mf P w K mg base 1 CB "size" ["self"] (spBsize K CB)) (XBadPrices : Xo K mg "BadPrices" CP) :
    Gx P w K mg base 4 "shows" ["board", "known", "told"] (spShowsX K CB CK CP) := by
  refine F.okX sc_shows (fun _ _ _ _ _ _ us hl => match us, hl with | [_, _, _], _ => rfl) len_of fun qual f cdv A0 outer s H vs Q E hr h => ?_
  obtain ⟨_, B, nk, keep, cs, c, kn, pt, ns, ps, rfl, r, hc, st, sp, h8, hps, kE, go⟩ := h
  refine ⟨_, (pss_cons (ps_expr (pcy (takes_of rfl rfl rfl rfl) g_need_known hr (pa_cons (pv 0) (pa_cons (pv 1) pa_nil))))
    (pss_cons (ps_if (pt_cmpR op_ne (pe_callB call_len_seq rfl Bm.len (by decide +kernel) (pa_cons (pv 2) pa_nil)) (pm0 (pv 0) CBoard.cl m_Board_size hr) (nomark _)) (pss_one (ps_raise rfl (takes_of rfl rfl rfl rfl) (pxo XBadPrices))) pss_nil) pss_dead)), ?_⟩
  refine ⟨_, rfl, _, rfl, rfl, B, nk, keep, cs, c, kn, ns, rfl, r, hc, st, h8, kE, fun hn _ => ?_⟩
  refine ⟨_, rfl, pt, _, rfl, .inl sp, ?_⟩
  refine rd_bsize (by rfl) r hc ⟨rfl, _, rfl, iteP ?_ (go hn)⟩
  have : ¬ (((ps.map V.int).length : Nat) : Int) = (nk : Int) := by rw [List.length_map]; omega
  simpa using this
end
end Cu

namespace Cu
open PySem PySem.Spec PyProof.Rows L2
open LamX (GivesTo CodeO)
/-- a lambda that stands, by its reading t, beside which def calls it -/
def LambT (X : Cx) (k : Nat) (f c' : Addr) (t : XK → TE) (H : Hp) : Prop :=
  ∃ (params : Arguments) (body : Expr) (scope : Scope) (dV : Value), H f = some (LamO f (X.env.qual ++ "<lambda>") params body scope (cloFrom X.env.cells scope.names []) dV c') ∧ H c' = some (CodeO c' (X.env.qual ++ "<lambda>")) ∧
    NoArgs X.prog X.w H (X.env.qual ++ "<lambda>") params body scope (cloFrom X.env.cells scope.names []) dV c' ∧ LamN X.N X.env.scope scope ∧
    ∀ (E : XK) (A : Around) (outer : List Env) (s : Shared) (H : Hp), Room k (A.deeper (LamX.lamEnv X scope s.heap.objs.size f c')) → PE (LamX.lamCx X A outer s H E scope f c') body (t E)
section
variable {X : Cx}
/-- _law_told(x), x a lambda of X that stands, in a block of X -/
theorem pe_ltold {σ0 : L2.St} {s0 : Shared} {H0 : Hp} {scope : Scope} {ce : Env} {fp : List Addr} {k i : Nat} {a : Str} {TT : (XK → Hp → VK → Prop) → Hp → VK → Prop} {p p1 pos : Pos} (st : Stood X σ0 s0 H0 fp) (F : Fd X.K X.mg "_law_told" s_told)
    (hG : ∀ (g : Addr) (cdg : Value), GivesTo X ["_law_work", "e", "_law_kinds", "_law_words", "_law_word"] "_law_told" (defScope s_told) g cdg (defBody s_told) "_law_work" (X.env.qual ++ "<lambda>") TT)
    (hr : Room (k + 2) X.A) (ha : (X.blk s0 H0 scope ce fp).N[i]? = some a) (hv : Vis (X.blk s0 H0 scope ce fp).env.scope a) (hg : Gl (X.blk s0 H0 scope ce fp) "_law_told") (hd : (a == ("__debug__" : Str)) = false := by decide) (hcd : (a == ("__classdict__" : Str)) = false := by decide)
    (he : starEach [.Name a p1] (X.blk s0 H0 scope ce fp).env = (false, eval (.Name a p1) (X.blk s0 H0 scope ce fp).env) :: starEach [] (X.blk s0 H0 scope ce fp).env := by rfl) :
    PE (X.blk s0 H0 scope ce fp) (.Call (.Name "_law_told" p) [.Name a p1] [] pos) (fun σ H Q => ∃ (f c' : Addr) (t : XK → TE), σ[i]? = some (some (.ref f)) ∧ LambT X k f c' t H ∧ TT (fun E H' Q' => H' = H ∧ t E σ0 H' Q') H Q) := by
  obtain ⟨g, fd, F', hm⟩ := F.ex
  have hb := F'.binds (ps := ["_law_work"]) fun _ _ _ _ _ _ us hl => match us, hl with | [_], _ => rfl
  obtain ⟨oc, od, kV, doc, pm, an, cdv, ct, osl, rfl, lk, hcg⟩ := F'.ex
  refine ⟨fun pins s σ H Q I h => ?_⟩
  obtain ⟨f, c', t, hs, ⟨params, body, lsc, dV, hf, hc, hna, L, hbody⟩, ht⟩ := h
  refine wpAny_Call_Name_kw (ld_glob I hg hm ?_ (by decide))
  refine PySem.W.callWith_K (h₀ := X.base) I.ok.mod.kin F'.kp ?_ (by rfl) (by rfl)
  rw [he]
  refine Calls.spliced_cons (thn ((pe_var (pos := p1) (i := i) ha hv hd hcd).run pins _ σ H (fun v H1 => v = .ref f ∧ H1 = H) (I.tok _) ⟨.ref f, hs, rfl, rfl⟩) fun u s' hq => ?_)
  obtain ⟨v, H1, I1, r1, ev, eH⟩ := hq
  subst ev eH
  obtain rfl : u = Value.ref f := r1
  refine Calls.spliced_nil ⟨I1.kIn, ?_⟩
  obtain ⟨pns, I2⟩ := st.now I1
  have rc : codeAny (model X.prog X.w) X.A (.call (.ref g) ⟨[.ref f], []⟩) (CR C8.CX0 X.stack X.prog X.w H1 s' Q C8.E0) s' := by
    refine LamX.run_ofS (N := ["_law_work", "e", "_law_kinds", "_law_words", "_law_word"]) (ps := ["_law_work"]) (us := [.ref f]) (vs := [.ref f]) lk hcg sc_told hr I2.env0 (hb s' [.ref f] I2.kIn rfl) (.cons rfl .nil) rfl fun hr' => ?_
    obtain ⟨t', ht', hq'⟩ := hG g cdv f c' s' H1 Q (fun E H' Q' => H' = H1 ∧ t E σ0 H' Q') (fun W pn xe E q1 q2 tk hW => ⟨fun pinsZ sZ σZ HZ QZ IZ hZ => by
      obtain ⟨z1, z2, rfl, z3⟩ := hZ
      exact (pe_actV (i := 0) I2 L tk hW hr' (fun A outer s H hr2 => hbody E A outer s H hr2) rfl (.inl rfl)).run pinsZ sZ σZ HZ QZ IZ ⟨z1, z2, hf, hna, z3⟩⟩) hc ht
    exact ⟨t', ht'.nox, hq'⟩
  refine wpAny_call (codeAny_mono rc fun r s2 hq => ?_)
  cases r with
  | error e => exact (show False from hq).elim
  | ok fl =>
    cases fl with
    | ret u => exact I1.after hq
    | next => exact False.elim hq
    | brk => exact False.elim hq
    | cont => exact False.elim hq
end
/-- how no argument comes to a lambda without parameters, or with one that has a default -/
theorem noArgsT0 {P : Program} {w : World} {HZ : Hp} {q : Str} {params : Arguments} {body : Expr} {scope : Scope} {clos : List (Str × Addr)} {c' : Addr}
    (h : ∀ (doc pm ctv : Value), bindArgs (PySem.W.kdv_fn "<lambda>" q params (.expr body) scope clos .none doc pm (.ref c') ctv) ⟨[], []⟩ = pure []) : NoArgs P w HZ q params body scope clos .none c' :=
  fun _ doc pm ctv _ => ⟨[], BindsTo.of_eq (h doc pm ctv), fun _ hy => nomatch hy⟩
theorem noArgsT1 {P : Program} {w : World} {HZ : Hp} {q a : Str} {params : Arguments} {body : Expr} {scope : Scope} {clos : List (Str × Addr)} {T c' : Addr} (hT : HZ T = some (TupO T)) (hl : scope.names.lookup a = some .local)
    (h : ∀ (doc pm ctv : Value), ∃ k : Option (Array Value) → Sem (List (Str × Value)), bindArgs (PySem.W.kdv_fn "<lambda>" q params (.expr body) scope clos (.ref T) doc pm (.ref c') ctv) ⟨[], []⟩ = seqItems? (.ref T) >>= k ∧ ∀ v, k (some #[v]) = pure [(a, v)]) : NoArgs P w HZ q params body scope clos (.ref T) c' := by
  intro s doc pm ctv hok
  obtain ⟨t, e⟩ := tupO_at hok hT
  obtain ⟨k, h1, h2⟩ := h doc pm ctv
  refine ⟨[(a, .int 0 t)], BindsTo.of_defaults (items := #[.int 0 t]) rfl e rfl h1 (h2 _), fun y hy => ?_⟩
  rw [List.mem_singleton.mp hy]
  exact hl
end Cu

namespace Cu
open PySem PySem.Spec PyProof.Rows L2
open LamX (CodeO TabB ExtN inv_table LamS)
/-! a lambda made where other tables are owned too -/
/-- all but what is at P stays -/
def ExtP (P : Addr) (H H1 : Hp) : Prop := ∀ b o, H b = some o → b ≠ P → H1 b = some o
theorem ExtP.refl (P : Addr) (H : Hp) : ExtP P H H := fun _ _ e _ => e
theorem ExtP.trans {P : Addr} {H H1 H2 : Hp} (a : ExtP P H H1) (b : ExtP P H1 H2) : ExtP P H H2 := fun c o e n => b c o (a c o e n) n
theorem ExtP.of_new {P p : Addr} {H : Hp} {o : HO} (h : H p = none) : ExtP P H (upd H p o) := fun b u e _ => by
  rw [upd_ne (ne_of_none e h)]
  exact e
theorem ExtP.mono {P : Addr} {H H1 : Hp} {ps : Array Value} (a : ExtP P H H1) (hP : H P = some (.tbl ps)) : Mono H H1 := fun b o e i => a b o e fun z => by
  rw [z, hP] at e
  rw [← Option.some.inj e] at i
  exact i
theorem Dice.lamP {K : PySem.W.Frag} {H H1 : Hp} {a P : Addr} {ps ps' : Array Value} {R : Lg} (d : Dice K H a ((P, .tbl ps) :: R)) (e : ExtP P H H1) (t : H1 P = some (.tbl ps')) : Dice K H1 a ((P, .tbl ps') :: R) := by
  have m := e.mono d.at_
  obtain ⟨c, ns, i, mx, r, h1, h2, h3, h⟩ := d
  refine ⟨c, ns, i, mx, r, h1, h2, h3.mono m, ⟨h.nd, fun p hp => ?_⟩⟩
  have off : ∀ q ∈ ((a, HO.lst [.ref c, .int i, .int mx, .int r]) :: R), q.1 ≠ P := fun q hq z => by
    have n := (List.nodup_cons.mp (h.swap2).nd).1
    have w := List.mem_map_of_mem (f := Prod.fst) hq
    rw [z] at w
    exact n w
  rcases List.mem_cons.mp hp with rfl | hp
  · exact ⟨e _ _ (h.at_ _ List.mem_cons_self).1 (off _ List.mem_cons_self), (h.at_ _ List.mem_cons_self).2⟩
  · rcases List.mem_cons.mp hp with rfl | hp
    · exact ⟨t, ntbl⟩
    · have q := h.at_ p (List.mem_cons_of_mem _ (List.mem_cons_of_mem _ hp))
      exact ⟨e _ _ q.1 (off p (List.mem_cons_of_mem _ hp)), q.2⟩
section
variable {X : Cx} {pins : List (Addr × Obj)} {σ : L2.St} {H : Hp} {s : Shared}
theorem lamw_make {c Pt : Addr} {ps : Array Value} {params : Arguments} {body : Expr} {scope : Scope} {pos : Pos} {dV : Value} {E : Value → Shared → Prop} {Q : Value → Shared → Prop} (I : Inv X pins σ H s) (TB : TabB X.base X.mg c Pt) (hcode : X.env.code = .ref c)
    (hP : H Pt = some (.tbl ps)) (ti : TabI H (X.env.qual ++ "<lambda>") ps) (hfree : ∀ y ∈ scope.names, y.2 = .free → ∃ c, X.env.cells.lookup y.1 = some c)
    (h : ∀ (f c' : Addr) (H1 : Hp) (ps' : Array Value) (s' : Shared), ExtP Pt H H1 → H1 Pt = some (.tbl ps') → TabI H1 (X.env.qual ++ "<lambda>") ps' → H1 f = none → H1 c' = some (CodeO c' (X.env.qual ++ "<lambda>")) →
      Inv X pins σ (upd H1 f (LamO f (X.env.qual ++ "<lambda>") params body scope (cloFrom X.env.cells scope.names []) dV c')) s' → Q (.ref f) s') :
    wpAny (model X.prog X.w) X.A (makeTail "<lambda>" (X.env.qual ++ "<lambda>") params (.expr body) scope X.env dV .none none pos pos.line) Q E s := by
  obtain ⟨ht, ha⟩ := ti
  have bP : s.heap.BuiltinsAt X.mg Pt := TB.bm.keeps I.bk
  have hP' : s.heap.get? Pt = some { cls := .none, data := .fields ps } := I.hok Pt _ hP
  cases hc : codeAmong pos ps.toList with
  | none =>
    refine PySem.W.kdv_makeTail (mg := X.mg) (c := c) (P := Pt) (ps := ps) (closure_ok hfree) I.ok.glob (I.mod.glob.keeps I.bk) hcode (TB.code.keeps I.bk) hP' ht hc TB.gP bP fun c' ctv doc h' tk hx hge hlt hrec htb => ?_
    obtain ⟨c2, oc, vs, t, e2, hoc, hd, hv⟩ := hrec
    cases e2
    have nC : H c' = none := I.hok.fresh hge
    have I1 := inv_table (t' := tk) (more := #[rawInt pos.line, rawInt pos.col, .ref c']) (h' := h') (q := X.env.qual ++ "<lambda>") I hP hx htb hge ⟨oc, vs, t, hoc, hd, hv⟩
    have hE : ExtP Pt H (upd (upd H Pt (.tbl (ps ++ #[rawInt pos.line, rawInt pos.col, .ref c']))) c' (CodeO c' (X.env.qual ++ "<lambda>"))) := fun b o e n => by
      rw [upd_ne (ne_of_none e nC), upd_ne n]
      exact e
    have neP : ∀ {b : Addr} {q : Str}, H b = some (CodeO b q) → b ≠ Pt := fun e z => by
      rw [z, hP] at e
      exact LamX.codeO_ne ps (Option.some.inj e).symm
    have eL : (ps ++ #[rawInt pos.line, rawInt pos.col, .ref c']).toList = ps.toList ++ [rawInt pos.line, rawInt pos.col, .ref c'] := by simp
    have I2 := I1.laid (t' := tk) (a := h'.objs.size) (o := LamO h'.objs.size (X.env.qual ++ "<lambda>") params body scope (cloFrom X.env.cells scope.names []) dV c')
      (h' := h'.push (PySem.W.kdv_obj "<lambda>" (X.env.qual ++ "<lambda>") params (.expr body) scope (cloFrom X.env.cells scope.names []) dV doc ((X.mg "__name__").getD .none) c' ctv)) (fun b o e => Heap.get?_push_of_some _ e) (Nat.le_refl _) (lamO_ok (Heap.get?_push_size _ rfl))
    refine h h'.objs.size c' _ (ps ++ #[rawInt pos.line, rawInt pos.col, .ref c']) _ hE (by rw [upd_ne (ne_of_none hP nC), upd_same]) ⟨by rw [eL]; exact PySem.TriplesOk_snoc _ _ _ _ ht, fun p' cv hcv => ?_⟩ (I1.hok.fresh (Nat.le_refl _)) upd_same I2
    rw [eL] at hcv
    rcases LamX.among_app _ ht hcv with z | z
    · obtain ⟨c0, e1, e2⟩ := ha p' cv z
      exact ⟨c0, e1, hE _ _ e2 (neP e2)⟩
    · exact ⟨c', z, upd_same⟩
  | some cv =>
    obtain ⟨c', e, hco⟩ := ha pos cv hc
    subst e
    refine PySem.W.kdv_makeTailHit (mg := X.mg) (c := c) (P := Pt) (ps := ps) (closure_ok hfree) I.ok.glob (I.mod.glob.keeps I.bk) hcode (TB.code.keeps I.bk) hP' ht hc bP fun ctv doc h' tk hx hsz => ?_
    have I1 : Inv X pins σ H { s with heap := h', toks := tk } := I.kept hx
    have I2 := I1.laid (t' := tk) (a := h'.objs.size) (o := LamO h'.objs.size (X.env.qual ++ "<lambda>") params body scope (cloFrom X.env.cells scope.names []) dV c')
      (h' := h'.push (PySem.W.kdv_obj "<lambda>" (X.env.qual ++ "<lambda>") params (.expr body) scope (cloFrom X.env.cells scope.names []) dV doc ((X.mg "__name__").getD .none) c' ctv)) (fun b o e => Heap.get?_push_of_some _ e) (Nat.le_refl _) (lamO_ok (Heap.get?_push_size _ rfl))
    exact h h'.objs.size c' H ps _ (ExtP.refl Pt H) hP ⟨ht, ha⟩ (I1.hok.fresh (Nat.le_refl _)) hco I2
/-- lambda: body -/
def tLamW (Pt : Addr) (q : Str) (params : Arguments) (body : Expr) (scope : Scope) (clos : List (Str × Addr)) : TE := fun _ H Q => ∃ ps, H Pt = some (.tbl ps) ∧ TabI H q ps ∧ ∀ (f c' : Addr) (H1 : Hp) (ps' : Array Value), ExtP Pt H H1 → H1 Pt = some (.tbl ps') → TabI H1 q ps' → H1 f = none →
  H1 c' = some (CodeO c' q) → Q (.ref f) (upd H1 f (LamO f q params body scope clos .none c'))
theorem pe_lamw {c Pt : Addr} {params : Arguments} {body : Expr} {scope : Scope} {pos : Pos} (TB : TabB X.base X.mg c Pt) (hcode : X.env.code = .ref c) (hdef : defaultsOf params X.env = ([], [])) (hfr : ∀ y ∈ scope.names, y.2 = .free → X.env.scope.names.lookup y.1 = some .cell ∨ X.env.scope.names.lookup y.1 = some .free) :
    PE X (.Lambda params body scope pos) (tLamW Pt (X.env.qual ++ "<lambda>") params body scope (cloFrom X.env.cells scope.names [])) := by
  refine ⟨fun pins s σ H Q I ⟨ps, hP, ti, h⟩ => ?_⟩
  refine PySem.W.kla_eval hdef ?_
  rw [makeFunction_eq]
  simp only [List.zip_nil_right, List.filterMap_nil, List.isEmpty_nil, if_true, pure_bind]
  refine lamw_make I TB hcode hP ti (fun y hy e => ?_) fun f c' H1 ps' s' eN hP1 t1 hf hc I' => ⟨.ref f, _, I', rfl, h f c' H1 ps' eN hP1 t1 hf hc⟩
  rcases hfr y hy e with k | k
  · exact I.ok.has _ (.inl k)
  · exact I.ok.has _ (.inr k)
end
end Cu

namespace Cu
open PySem PySem.Spec PyProof.Rows L2
/-! what _law_told makes of a refusal -/
theorem holds_none {H : Hp} {i : Nat} {n : Int} (h4 : i ≠ 4) (h6 : i ≠ 6) : HoldsX H none i n := ⟨(fun _ z => nomatch z), fun z => absurd z h4, fun z => absurd z h6⟩
theorem holds_known {H : Hp} {d : Addr} {k : Nat} (h : H d = some (xdK k)) : HoldsX H (some d) 4 k := ⟨fun dd e => by
  rw [← Option.some.inj e]
  exact ⟨_, h⟩, fun _ => ⟨d, rfl, h⟩, fun z => absurd z (by decide)⟩
theorem told_plain {i : Nat} {n : Int} (h4 : i ≠ 4) (h6 : i ≠ 6) : toldD i n = .tuple [.str (kindW i)] := by
  unfold toldD
  rw [if_neg fun z => z.elim h4 h6]
theorem told_known (n : Int) : toldD 4 n = .tuple [.str "known", .int n] := rfl
theorem told_gd {i : Nat} (n : Int) (hi : i < 7) : Gd 2 (toldD i n) := by
  have hk : ∀ i, i < 7 → PyData.strOk (kindW i) = true := by decide +kernel
  unfold toldD
  split
  · exact .tuple (.all_cons (.str (hk i hi)) (.all_cons .int .all_nil))
  · exact .tuple (.all_cons (.str (hk i hi)) .all_nil)
section
variable {K : PySem.W.Frag} {H : Hp} {Q : VK} {i : Nat} {n : Int} {v t : V}
theorem ne_told (hi : i < 7) (rv : Rp K H (toldD i n) v) (rt : Rp K H (toldD i n) t) (q : Q (.bl false) H) : rNeD K v t H Q := by
  have g := told_gd n hi
  refine ⟨_, _, rv.dp, rt.dp, g.shaped, g.shaped, ?_⟩
  rw [g.refl]
  exact q
end
end Cu

namespace Cu
open PySem PySem.Spec PyProof.Rows L2
/-! k90's story: each key twice -/
def ad5 (k : Nat) : Ch := ⟨k, false, 5⟩
def cs1 (m : Nat) : List Ch := (List.range m).map fun k => (⟨k, false, 1 + (k : Int)⟩ : Ch)
theorem cs1_len (m : Nat) : (cs1 m).length = m := by simp [cs1]
theorem cs1_succ (m : Nat) : cs1 (m + 1) = cs1 m ++ [⟨m, false, 1 + (m : Int)⟩] := by
  unfold cs1
  rw [List.range_succ, List.map_append]
  rfl
theorem cs1_lof {m k : Nat} (h : k < m) : lof (cs1 m) k = k + 1 := by
  induction m with
  | zero => omega
  | succ m ih =>
    rw [cs1_succ, lof_snoc, cs1_len]
    split
    · rename_i e
      have e : m = k := e
      omega
    · rename_i e
      have e : ¬ m = k := e
      exact ih (by omega)
def cs2 (nk : Nat) (π : List Nat) : List Ch := cs1 nk ++ π.map ad5
theorem cs2_nil (nk : Nat) : cs2 nk [] = cs1 nk := List.append_nil _
theorem cs2_snoc (nk : Nat) (π : List Nat) (k : Nat) : cs2 nk (π ++ [k]) = cs2 nk π ++ [ad5 k] := by
  unfold cs2
  rw [List.map_append, ← List.append_assoc]
  rfl
theorem cs2_len (nk : Nat) (π : List Nat) : (cs2 nk π).length = nk + π.length := by
  unfold cs2
  rw [List.length_append, cs1_len, List.length_map]
theorem nat_snoc {p : List Nat → Prop} (h0 : p []) (h1 : ∀ l a, p l → p (l ++ [a])) (l : List Nat) : p l := by
  rw [← List.reverse_reverse l]
  induction l.reverse with
  | nil => exact h0
  | cons a l ih =>
    rw [List.reverse_cons]
    exact h1 _ _ ih
theorem cs2_lof_not {nk k : Nat} {π : List Nat} (h : k ∉ π) (hk : k < nk) : lof (cs2 nk π) k = k + 1 := by
  induction π using nat_snoc with
  | h0 => rw [cs2_nil, cs1_lof hk]
  | h1 l a ih =>
    rw [cs2_snoc, lof_snoc, if_neg fun e => h (by
      have e : a = k := e
      subst e
      simp)]
    exact ih fun z => h (List.mem_append_left _ z)
theorem cs2_lof_new {nk k : Nat} {π : List Nat} : lof (cs2 nk (π ++ [k])) k = nk + π.length + 1 := by
  rw [cs2_snoc, lof_snoc, if_pos (show (ad5 k).key = k from rfl), cs2_len]
theorem cs2_lof_old {nk k a : Nat} {π : List Nat} (h : a ≠ k) : lof (cs2 nk (π ++ [a])) k = lof (cs2 nk π) k := by
  rw [cs2_snoc, lof_snoc, if_neg (show ¬ (ad5 a).key = k from h)]
theorem cs2_lof_at {nk j k : Nat} {π : List Nat} (nd : π.Nodup) (e : π[j]? = some k) : lof (cs2 nk π) k = nk + j + 1 := by
  induction π using nat_snoc with
  | h0 => simp at e
  | h1 l a ih =>
    have hj := (List.getElem?_eq_some_iff.mp e).1
    rw [List.length_append, List.length_singleton] at hj
    by_cases hl : j = l.length
    · subst hl
      rw [List.getElem?_append_right (Nat.le_refl _), Nat.sub_self] at e
      have e : a = k := Option.some.inj e
      subst e
      rw [cs2_lof_new]
    · rw [List.getElem?_append_left (by omega)] at e
      have hm := List.mem_of_getElem? e
      rw [cs2_lof_old fun z => by
        subst z
        exact (List.nodup_append.mp nd).2.2 a hm a (by simp) rfl]
      exact ih (List.nodup_append.mp nd).1 e
/-- the letter of the j-th change behind the part -/
def lt5 (nk j k : Nat) : Letter := .change (nk + j + 1) (ad5 k) (k + 1)
/-- a dict of numbers by key -/
def Nkv (f : Nat → Int) (S : List Nat) : List (Key × V) := S.map fun (j : Nat) => (Sum.inl (j : Int), V.int (f j))
theorem Nkv_get {f : Nat → Int} {k : Nat} : ∀ {S : List Nat}, valV (Nkv f S) (Sum.inl (k : Int)) = if k ∈ S then some (V.int (f k)) else none
  | [] => rfl
  | j :: S => by
    show valV ((Sum.inl (j : Int), V.int (f j)) :: Nkv f S) _ = _
    by_cases h : j = k
    · subst h
      rw [valV_pos rfl, if_pos List.mem_cons_self]
    · rw [valV_neg (by show ¬ (Sum.inl (j : Int) : Key) = Sum.inl (k : Int); intro q; injection q with q; omega), Nkv_get (S := S)]
      by_cases q : k ∈ S
      · rw [if_pos q, if_pos (List.mem_cons_of_mem _ q)]
      · rw [if_neg q, if_neg fun z => (List.mem_cons.mp z).elim (fun z => h z.symm) q]
theorem Nkv_put {f g : Nat → Int} {k : Nat} {S : List Nat} (h : ¬ k ∈ S) (hg : ∀ j ∈ S, g j = f j) : putK (Nkv f S) (Sum.inl (k : Int)) (V.int (g k)) = Nkv g (S ++ [k]) := by
  unfold putK
  rw [valV_any, Nkv_get, if_neg h]
  show Nkv f S ++ _ = _
  unfold Nkv
  rw [List.map_append]
  congr 1
  apply List.map_congr_left
  intro j hj
  rw [hg j hj]
/-- the hearer behind some of the letters, told from the end -/
def as5 (nk : Nat) (π : List Nat) (k : Nat) : HK := { HK.ini with aside := [⟨lof (cs2 nk π) k, 5, k + 1⟩] }
def hA (nk : Nat) (π : List Nat) (i : Nat) : List HK := (List.range nk).map fun k => if k ∈ π.drop (π.length - i) then as5 nk π k else HK.ini
theorem hA_zero (nk : Nat) (π : List Nat) : hA nk π 0 = List.replicate nk HK.ini := by
  unfold hA
  rw [Nat.sub_zero, List.drop_length]
  apply List.ext_getElem?
  intro j
  rw [List.getElem?_map, List.getElem?_replicate]
  by_cases hj : j < nk
  · rw [List.getElem?_range hj, if_pos hj]
    simp
  · rw [if_neg hj, List.getElem?_eq_none (by simpa using hj)]
    rfl
theorem hA_get {nk i k : Nat} {π : List Nat} {h : HK} (e : (hA nk π i)[k]? = some h) : k < nk ∧ h = if k ∈ π.drop (π.length - i) then as5 nk π k else HK.ini := by
  have hk := (List.getElem?_eq_some_iff.mp e).1
  unfold hA at e hk
  rw [List.length_map, List.length_range] at hk
  rw [List.getElem?_map, List.getElem?_range hk] at e
  exact ⟨hk, (Option.some.inj e).symm⟩
theorem hA_len (nk i : Nat) (π : List Nat) : (hA nk π i).length = nk := by simp [hA]
theorem hA_wf {nk i : Nat} {π : List Nat} : ∀ h ∈ hA nk π i, Wf h := fun h hh => by
  obtain ⟨k, ek⟩ := List.getElem?_of_mem hh
  obtain ⟨_, rfl⟩ := hA_get ek
  split
  · exact ⟨by simp [as5, asN], by simp [as5]⟩
  · exact ⟨List.nodup_nil, by simp [HK.ini]⟩
theorem hA_step {nk i k : Nat} {π : List Nat} (nd : π.Nodup) (hi : i < π.length) (ek : π[π.length - 1 - i]? = some k) : hear (hA nk π i) (lt5 nk (π.length - 1 - i) k) = hA nk π (i + 1) ∧ heard (hA nk π i) (lt5 nk (π.length - 1 - i) k) = [] := by
  have en : nk + (π.length - 1 - i) + 1 = lof (cs2 nk π) k := (cs2_lof_at nd ek).symm
  have hlt : π.length - 1 - i < π.length := by omega
  have ed : π.drop (π.length - (i + 1)) = k :: π.drop (π.length - i) := by
    rw [show π.length - (i + 1) = π.length - 1 - i by omega, List.drop_eq_getElem_cons hlt]
    congr 1
    · rw [List.getElem?_eq_getElem hlt] at ek
      exact Option.some.inj ek
    · congr 1
      omega
  have hk : k ∉ π.drop (π.length - i) := fun z => by
    have : (π.drop (π.length - (i + 1))).Nodup := nd.sublist (List.drop_sublist _ _)
    rw [ed] at this
    exact (List.nodup_cons.mp this).1 z
  have step : ∀ j h, (hA nk π i)[j]? = some h → hearK j h (lt5 nk (π.length - 1 - i) k) = (if j ∈ π.drop (π.length - (i + 1)) then as5 nk π j else HK.ini, []) := fun j h e => by
    obtain ⟨hj, rfl⟩ := hA_get e
    unfold lt5
    simp only [hearK]
    rw [en, ed]
    by_cases hkj : k = j
    · subst hkj
      rw [if_pos (show (ad5 k).key = k from rfl), if_neg hk, if_pos List.mem_cons_self, HK.chg, if_neg (by show ¬ ((_ : Nat) : Int) ≤ -1; omega), if_pos ⟨rfl, by show (-1 : Int) < ((_ : Nat) : Int); omega⟩]
      rfl
    · rw [if_neg (show ¬ (ad5 k).key = j from hkj)]
      by_cases hm : j ∈ π.drop (π.length - i)
      · rw [if_pos hm, if_pos (List.mem_cons_of_mem _ hm)]
      · rw [if_neg hm, if_neg fun z => (List.mem_cons.mp z).elim (fun z => hkj z.symm) hm]
  constructor
  · apply List.ext_getElem?
    intro j
    rw [hear, List.getElem?_mapIdx]
    cases e : (hA nk π i)[j]? with
    | none =>
      have := List.getElem?_eq_none_iff.mp e
      rw [hA_len] at this
      rw [List.getElem?_eq_none (by rw [hA_len]; exact this)]
      rfl
    | some h =>
      obtain ⟨hj, _⟩ := hA_get e
      show some (hearK j h _).1 = _
      rw [step j h e]
      unfold hA
      rw [List.getElem?_map, List.getElem?_range hj]
      rfl
  · unfold heard
    refine flat_nil fun x hx => ?_
    obtain ⟨j, ej⟩ := List.getElem?_of_mem hx
    rw [List.getElem?_mapIdx] at ej
    cases e : (hA nk π i)[j]? with
    | none =>
      rw [e] at ej
      cases ej
    | some h =>
      rw [e] at ej
      rw [← Option.some.inj ej]
      show (hearK j h _).2 = []
      rw [step j h e]
/-- the keys, drawn -/
structure Drawn (nk : Nat) (π : List Nat) : Prop where
  nd : π.Nodup
  len : π.length = nk
  all : ∀ k, k < nk → k ∈ π
  lt : ∀ k ∈ π, k < nk
def numL (nk : Nat) (π : List Nat) : List Int := (List.range nk).map fun k => (lof (cs2 nk π) k : Int)
theorem hA_end {nk : Nat} {π : List Nat} (d : Drawn nk π) : hA nk π π.length = (List.range nk).map (as5 nk π) := by
  unfold hA
  rw [Nat.sub_self, List.drop_zero]
  apply List.map_congr_left
  intro k hk
  rw [if_pos (d.all k (List.mem_range.mp hk))]
theorem hA_held {nk : Nat} {π : List Nat} (d : Drawn nk π) : ((hA nk π π.length).map fun h => asN h.aside).flatten = numL nk π := by
  rw [hA_end d, List.map_map]
  unfold numL
  induction (List.range nk) with
  | nil => rfl
  | cons k l ih =>
    rw [List.map_cons, List.flatten_cons, ih, List.map_cons]
    rfl
theorem srt_one (n : Int) : srt [n] = [n] := by simp [srt]
/-- behind the part -/
def hB (nk : Nat) (π : List Nat) (k : Nat) : HK := (({ as5 nk π k with worth := wof (cs1 nk) k, since := k + 1, upto := nk, aside := [] } : HK).done (lof (cs2 nk π) k) false 5)
theorem hA_part {nk k : Nat} {π : List Nat} (d : Drawn nk π) (hk : k < nk) : hearK k (as5 nk π k) (partL (cs1 nk) (cs1 nk).length 0 nk) = (hB nk π k, [(lof (cs2 nk π) k : Int)]) := by
  obtain ⟨j, ej⟩ := List.getElem?_of_mem (d.all k hk)
  have hl := cs2_lof_at (nk := nk) d.nd ej
  unfold partL partRows
  simp only [hearK]
  rw [if_pos (Nat.zero_le _), Nat.sub_zero, Nat.sub_zero, List.getElem?_map, List.getElem?_range hk]
  show HK.row (as5 nk π k) (cs1 nk).length (wof ((cs1 nk).take (cs1 nk).length) (0 + k)) (lof ((cs1 nk).take (cs1 nk).length) (0 + k)) = _
  rw [List.take_length, cs1_len, Nat.zero_add, cs1_lof hk, HK.row, if_pos (by show (-1 : Int) < (nk : Int); omega)]
  unfold HK.free
  rw [show asN ({ as5 nk π k with worth := wof (cs1 nk) k, since := k + 1, upto := (nk : Int) } : HK).aside = [(lof (cs2 nk π) k : Int)] from rfl, srt_one, List.foldl_cons, List.foldl_nil]
  have hf : findA (as5 nk π k).aside (lof (cs2 nk π) k : Int) = some ⟨lof (cs2 nk π) k, 5, k + 1⟩ := by simp [findA, as5]
  have hd : dropA (as5 nk π k).aside (lof (cs2 nk π) k : Int) = [] := by simp [dropA, as5]
  unfold HK.fstep
  show (match findA (as5 nk π k).aside (lof (cs2 nk π) k : Int) with
    | none => _
    | some a => _) = _
  rw [hf]
  dsimp only
  rw [if_neg (by omega), if_pos (by omega), hd]
  rfl
theorem part_hear {nk : Nat} {π : List Nat} (d : Drawn nk π) : hear ((List.range nk).map (as5 nk π)) (partL (cs1 nk) (cs1 nk).length 0 nk) = (List.range nk).map (hB nk π) ∧ heard ((List.range nk).map (as5 nk π)) (partL (cs1 nk) (cs1 nk).length 0 nk) = numL nk π := by
  have e1 : (((List.range nk).map (as5 nk π)).mapIdx fun k h => hearK k h (partL (cs1 nk) (cs1 nk).length 0 nk)) = (List.range nk).map fun k => (hB nk π k, [(lof (cs2 nk π) k : Int)]) := by
    apply List.ext_getElem?
    intro j
    rw [List.getElem?_mapIdx, List.getElem?_map, List.getElem?_map]
    by_cases hj : j < nk
    · rw [List.getElem?_range hj]
      show some (hearK j (as5 nk π j) _) = _
      rw [hA_part d hj]
      rfl
    · rw [List.getElem?_eq_none (by simpa using hj)]
      rfl
  constructor
  · have : hear ((List.range nk).map (as5 nk π)) (partL (cs1 nk) (cs1 nk).length 0 nk) = (((List.range nk).map (as5 nk π)).mapIdx fun k h => hearK k h (partL (cs1 nk) (cs1 nk).length 0 nk)).map (·.1) := by
      unfold hear
      apply List.ext_getElem?
      intro j
      rw [List.getElem?_map, List.getElem?_mapIdx, List.getElem?_mapIdx, Option.map_map]
      rfl
    rw [this, e1, List.map_map]
    rfl
  · have : heard ((List.range nk).map (as5 nk π)) (partL (cs1 nk) (cs1 nk).length 0 nk) = ((((List.range nk).map (as5 nk π)).mapIdx fun k h => hearK k h (partL (cs1 nk) (cs1 nk).length 0 nk)).map (·.2)).flatten := by
      unfold heard
      congr 1
      apply List.ext_getElem?
      intro j
      rw [List.getElem?_map, List.getElem?_mapIdx, List.getElem?_mapIdx, Option.map_map]
      rfl
    rw [this, e1, List.map_map]
    unfold numL
    induction (List.range nk) with
    | nil => rfl
    | cons k l ih =>
      rw [List.map_cons, List.flatten_cons, ih, List.map_cons]
      rfl
theorem hB_ups (nk : Nat) (π : List Nat) : (((List.range nk).map (hB nk π)).map fun h => h.upto) = numL nk π := by
  rw [List.map_map]
  rfl
theorem hB_flat (nk : Nat) (π : List Nat) : (((List.range nk).map (hB nk π)).map fun h => asN h.aside).flatten = [] := by
  rw [List.map_map]
  induction (List.range nk) with
  | nil => rfl
  | cons k l ih =>
    rw [List.map_cons, List.flatten_cons, ih]
    rfl
theorem hB_held (nk : Nat) (π : List Nat) : heldM ((List.range nk).map (hB nk π)) = [] := by
  rw [heldM, hB_flat]
  simp [srt]
/-! what nobody can know -/
theorem badK1_ok {n k : Nat} {ns : List Int} {z : Int} (e : ns[k]? = some z) (h0 : -1 ≤ z) (h1 : z ≤ n) : badK1 n ns k = false := by
  have hk := (List.getElem?_eq_some_iff.mp e).1
  have ed : ns.getD k 0 = z := by rw [List.getD_eq_getElem?_getD, e]; rfl
  unfold badK1
  rw [ed, decide_eq_false (by omega), decide_eq_true h0, decide_eq_true h1]
  rfl
theorem badK1_bad {n k : Nat} {ns : List Int} {z : Int} (e : ns[k]? = some z) (h : ¬ (-1 ≤ z ∧ z ≤ n)) : badK1 n ns k = true := by
  have ed : ns.getD k 0 = z := by rw [List.getD_eq_getElem?_getD, e]; rfl
  unfold badK1
  rw [ed]
  by_cases h0 : -1 ≤ z
  · rw [decide_eq_true h0, decide_eq_false fun q => h ⟨h0, q⟩]
    simp
  · rw [decide_eq_false h0]
    simp
theorem badK1_end {n k : Nat} {ns : List Int} (h : ns.length ≤ k) : badK1 n ns k = true := by
  unfold badK1
  rw [decide_eq_true h, Bool.true_or]
/-- numbers that can be known -/
structure GoodN (nk n : Nat) (ns : List Int) : Prop where
  len : ns.length = nk
  all : ∀ z ∈ ns, -1 ≤ z ∧ z ≤ n
section
variable {nk n o : Nat} {ns : List Int}
theorem GoodN.at_ (g : GoodN nk n ns) {j : Nat} (h : j < nk) : ∃ z, ns[j]? = some z ∧ -1 ≤ z ∧ z ≤ n := by
  have hj : j < ns.length := by rw [g.len]; exact h
  exact ⟨_, List.getElem?_eq_getElem hj, g.all _ (List.getElem_mem hj)⟩
theorem GoodN.none (g : GoodN nk n ns) : badN nk n ns = none := by
  rw [badN_end fun j hj => let ⟨z, e, h0, h1⟩ := g.at_ hj; badK1_ok e h0 h1, if_neg (by rw [g.len]; omega)]
theorem GoodN.put (g : GoodN nk n ns) (ho : o < nk) {z : Int} (hz : ¬ (-1 ≤ z ∧ z ≤ n)) : badN nk n (ns.take o ++ [z] ++ ns.drop (o + 1)) = some o := by
  have hl := g.len
  have et : (ns.take o).length = o := by rw [List.length_take]; omega
  refine badN_at ho (fun j hj => ?_) (badK1_bad (z := z) ?_ hz)
  · obtain ⟨y, e, h0, h1⟩ := g.at_ (show j < nk by omega)
    refine badK1_ok (z := y) ?_ h0 h1
    rw [List.append_assoc, List.getElem?_append_left (by omega), List.getElem?_take_of_lt hj]
    exact e
  · rw [List.append_assoc, List.getElem?_append_right (by omega), et, Nat.sub_self]
    rfl
theorem GoodN.short (g : GoodN nk n ns) (ho : o < nk) : badN nk n (ns.take o) = some o := by
  have hl := g.len
  refine badN_at ho (fun j hj => ?_) (badK1_end (by rw [List.length_take]; omega))
  obtain ⟨y, e, h0, h1⟩ := g.at_ (show j < nk by omega)
  refine badK1_ok (z := y) ?_ h0 h1
  rw [List.getElem?_take_of_lt hj]
  exact e
theorem GoodN.long (g : GoodN nk n ns) (z : Int) : badN nk n (ns ++ [z]) = some nk := by
  have hl := g.len
  rw [badN_end fun j hj => ?_, if_pos (by rw [List.length_append, List.length_singleton]; omega)]
  obtain ⟨y, e, h0, h1⟩ := g.at_ hj
  refine badK1_ok (z := y) ?_ h0 h1
  rw [List.getElem?_append_left (by omega)]
  exact e
theorem GoodN.rep {z : Int} (h0 : -1 ≤ z) (h1 : z ≤ n) : GoodN nk n (List.replicate nk z) := ⟨List.length_replicate, fun y hy => by
  rw [List.eq_of_mem_replicate hy]
  exact ⟨h0, h1⟩⟩
theorem kn_bad {cs : List Ch} (k : Kn nk cs ns) : badN nk cs.length ns = none := GoodN.none ⟨k.len, k.2⟩
end
theorem sx_nat {n k : Nat} (h : k < n) : seqIndex? (k : Int) n = some k := by
  have h0 : ¬ ((k : Int) < 0) := by omega
  unfold seqIndex?
  simp [h0, h]
theorem era_map {α β : Type} (f : α → β) : ∀ (l : List α) (j : Nat), (l.map f).eraseIdx j = (l.eraseIdx j).map f
  | [], _ => rfl
  | _ :: _, 0 => rfl
  | a :: l, j + 1 => by
    show f a :: (l.map f).eraseIdx j = _
    rw [era_map f l j]
    rfl
theorem perm_2 {α : Type} {A B : List α} {x y : α} : (A ++ x :: y :: B).Perm (y :: (A ++ x :: B)) :=
  (List.Perm.append_left A (List.Perm.swap y x B)).trans List.perm_middle
theorem perm_3 {α : Type} {A B : List α} {x y z : α} : (A ++ x :: y :: z :: B).Perm (z :: (A ++ x :: y :: B)) := by
  refine (List.Perm.append_left A ?_).trans List.perm_middle
  exact ((List.Perm.swap z y B).cons x).trans (List.Perm.swap z x _)
theorem perm_L3 {α : Type} {A C : List α} {x y z t : α} : (A ++ x :: y :: z :: (C ++ [t])).Perm ([x, z] ++ (C ++ (y :: (A ++ [t])))) := by
  refine List.perm_middle.trans (List.Perm.cons x ?_)
  refine perm_2.trans (List.Perm.cons z ?_)
  refine List.perm_middle.trans ?_
  exact (List.Perm.cons y (List.perm_append_comm_assoc A C [t])).trans List.perm_middle.symm
theorem draw_perm {π L : List Nat} {k : Nat} {n : Nat} (h : (π ++ L).Perm (List.range n)) (hk : k < L.length) : ((π ++ [L[k]]) ++ L.eraseIdx k).Perm (List.range n) := by
  rw [List.append_assoc]
  refine (List.Perm.append_left π ?_).trans h
  have e : L = L.take k ++ (L[k] :: L.drop (k + 1)) := by
    rw [← List.drop_eq_getElem_cons hk, List.take_append_drop]
  rw [List.eraseIdx_eq_take_drop_succ]
  conv => rhs; rw [e]
  rw [List.singleton_append]
  exact List.perm_middle.symm
theorem rgV_keys (n : Nat) : rgV 0 (n : Int) = (List.range n).map fun k => V.int (k : Nat) := by
  unfold rgV
  rw [show ((n : Int) - 0).toNat = n by omega]
  apply List.map_congr_left
  intro k _
  rw [Int.zero_add]
theorem lts_snoc (nk : Nat) (π : List Nat) (k : Nat) : ((π ++ [k]).mapIdx (lt5 nk)).map Letter.enc = (π.mapIdx (lt5 nk)).map Letter.enc ++ [(lt5 nk π.length k).enc] := by
  rw [List.mapIdx_concat, List.map_append]
  rfl
theorem Drawn.of {nk : Nat} {π L : List Nat} (h : (π ++ L).Perm (List.range nk)) (hl : π.length = nk) : Drawn nk π := by
  have h1 := h.length_eq
  rw [List.length_append, List.length_range] at h1
  have : L = [] := List.eq_nil_of_length_eq_zero (by omega)
  subst this
  rw [List.append_nil] at h
  exact ⟨h.nodup_iff.mpr List.nodup_range, hl, fun k hk => h.mem_iff.mpr (List.mem_range.mpr hk), fun k hk => List.mem_range.mp (h.mem_iff.mp hk)⟩
def dueV : Option Nat → V
  | some k => .int (k : Nat)
  | none => .non
/-- a case: what is said to be known, what is due -/
def CaseOk (K : PySem.W.Frag) (H : Hp) (nk n : Nat) (x : V) : Prop := ∃ (t p : Addr) (ns : List Int), x = .ref t ∧ H t = some (.tup [.ref p, dueV (badN nk n ns)]) ∧ FzL K H p (ns.map V.int)
theorem CaseOk.mono {K : PySem.W.Frag} {H H' : Hp} {nk n : Nat} {x : V} (c : CaseOk K H nk n x) (m : Mono H H') : CaseOk K H' nk n x :=
  let ⟨t, p, ns, e, h, f⟩ := c
  ⟨t, p, ns, e, m _ _ h trivial, f.mono m⟩
section
variable {K : PySem.W.Frag} {σ : L2.St} {H : Hp} {Q : VK} {i j k nk : Nat} {te : TE} {a : Addr} {ns : List Int} {z : Int}
theorem rd_var9 (h1 : σ[i]? = some (some (.ref a))) (q : Q (.ref a) H) : tFzw (tVar i) σ H Q := rd_fzw ⟨_, h1, .inl q⟩
/-- xs[:k], from now on never changed -/
theorem rd_short9 (h1 : σ[i]? = some (some (.ref a))) (h2 : σ[j]? = some (some (.int k))) (f : FzL K H a (ns.map V.int)) (hk : k < ns.length) (q : ∀ p H', Grow H H' → FzL K H' p ((ns.take k).map V.int) → Q (.ref p) H') :
    tFz (tSl (rSlL K) (tFzw (tVar i)) tNoPart (tPart (tVar j))) σ H Q := by
  refine rd_fz ?_
  refine rd_var9 h1 ⟨_, h2, _, rfl, a, _, rfl, f.sq, fun p1 hp1 => ⟨_, _, rfl, upd_same, fun o => ?_⟩⟩
  rw [cutV_to (by rw [List.length_map]; omega), ← List.map_take]
  exact q _ _ ((Grow.refl H).nfz hp1) FzL.frz
/-- xs[:k] + [z] + xs[k + 1:], from now on never changed -/
theorem rd_cut9 (h1 : σ[i]? = some (some (.ref a))) (h2 : σ[j]? = some (some (.int k))) (f : FzL K H a (ns.map V.int)) (hk : k < ns.length) (hl : ns.length ≤ 1000) (he : ∀ (H1 : Hp) (Q1 : VK), Q1 (.int z) H1 → te σ H1 Q1)
    (q : ∀ p H', Grow H H' → FzL K H' p ((ns.take k ++ [z] ++ ns.drop (k + 1)).map V.int) → Q (.ref p) H') :
    tFz (tOp rCat (tOp rCat (tSl (rSlL K) (tFzw (tVar i)) tNoPart (tPart (tVar j))) (tLst (tCons te tNil))) (tSl (rSlL K) (tFzw (tVar i)) (tPart (tOp (rI0 fun i j => .int (i + j)) (tVar j) (tC (.int 1)))) tNoPart)) σ H Q := by
  have hk' : k < (ns.map V.int).length := by rw [List.length_map]; exact hk
  have hl' : (ns.map V.int).length ≤ 1000 := by rw [List.length_map]; exact hl
  have z1 : 1000 ≤ sizeLine := by decide
  refine rd_fz ?_
  refine rd_var9 h1 ⟨_, h2, _, rfl, a, _, rfl, f.sq, fun p1 hp1 => he _ _ ⟨(by show 1 ≤ sizeLine; decide), fun p2 hp2 => ?_⟩⟩
  have n12 : p1 ≠ p2 := ne_of_none upd_same hp2
  rw [cutV_to (Nat.le_of_lt hk')] at hp2 ⊢
  refine ⟨_, _, _, _, rfl, rfl, (by rw [upd_ne n12]; exact upd_same), upd_same, ?_, fun p3 hp3 => ?_⟩
  · rw [List.length_take, Nat.min_eq_left (Nat.le_of_lt hk')]
    exact Nat.le_trans (show k + 1 ≤ 1000 by omega) z1
  have g1 := (((Grow.refl H).old (o := .lst ((ns.map V.int).take k)) hp1).old (o := .lst [.int z]) hp2).old (o := .lst ((ns.map V.int).take k ++ [.int z])) hp3
  refine rd_var9 h1 ⟨_, h2, _, _, rfl, rfl, _, rfl, a, _, rfl, (f.mono g1.mono).sq, fun p4 hp4 => ?_⟩
  have e1 : ((k : Int) + 1) = ((k + 1 : Nat) : Int) := by omega
  rw [e1, cutV_from hk']
  have n34 : p3 ≠ p4 := ne_of_none upd_same hp4
  refine ⟨_, _, _, _, rfl, rfl, (by rw [upd_ne n34]; exact upd_same), upd_same, ?_, fun p5 hp5 => ⟨_, _, rfl, upd_same, fun o => ?_⟩⟩
  · rw [List.length_append, List.length_take, List.length_drop, Nat.min_eq_left (Nat.le_of_lt hk')]
    exact Nat.le_trans (show k + 1 + _ ≤ 1000 by omega) z1
  have eq : (ns.take k ++ [z] ++ ns.drop (k + 1)).map V.int = (ns.map V.int).take k ++ [V.int z] ++ (ns.map V.int).drop (k + 1) := by
    rw [List.map_append, List.map_append, List.map_take, List.map_drop]
    rfl
  rw [← eq]
  exact q _ _ ((g1.old hp4).nfz hp5) FzL.frz
/-- xs + [z], from now on never changed -/
theorem rd_long9 (h1 : σ[i]? = some (some (.ref a))) (f : FzL K H a (ns.map V.int)) (hl : ns.length ≤ 999) (q : ∀ p H', Grow H H' → FzL K H' p ((ns ++ [z]).map V.int) → Q (.ref p) H') :
    tFz (tOp (rCatZ K) (tFzw (tVar i)) (tLst (tCons (tC (.int z)) tNil))) σ H Q := by
  refine rd_fz ?_
  refine rd_var9 h1 ⟨(by show 1 ≤ sizeLine; decide), fun p1 hp1 => ⟨a, p1, _, _, rfl, rfl, (f.mono (Mono.new hp1)).sq, SqL.of upd_same, Nat.le_trans (show _ ≤ 1000 by rw [List.length_map]; show ns.length + 1 ≤ 1000; omega) (by decide), fun p2 hp2 => ⟨_, _, rfl, upd_same, fun o => ?_⟩⟩⟩
  have eq : (ns ++ [z]).map V.int = ns.map V.int ++ [V.int z] := List.map_append
  rw [← eq]
  exact q _ _ ((Grow.new hp1).nfz hp2) FzL.frz
/-- [z] * keys, from now on never changed -/
theorem rd_rep9 (h1 : σ[i]? = some (some (.int nk))) (hk : nk ≤ 8) (he : ∀ (Q1 : VK), Q1 (.int z) H → te σ H Q1) (q : ∀ p H', Grow H H' → FzL K H' p ((List.replicate nk z).map V.int) → Q (.ref p) H') :
    tFz (tOp rRep (tLst (tCons te tNil)) (tVar i)) σ H Q := by
  refine rd_fz ?_
  refine he _ ⟨(by show 1 ≤ sizeLine; decide), fun p1 hp1 => ⟨_, h1, p1, (nk : Int), _, rfl, rfl, upd_same, by omega, by omega, ?_, fun p2 hp2 => ⟨_, _, rfl, upd_same, fun o => ?_⟩⟩⟩
  · show 1 * (nk : Int).toNat ≤ sizeLine
    rw [Nat.one_mul, Int.toNat_natCast]
    exact Nat.le_trans hk (by decide)
  · have e : (List.replicate ((nk : Int).toNat) [V.int z]).flatten = (List.replicate nk z).map V.int := by
      rw [Int.toNat_natCast, List.map_replicate]
      clear q h1 hk
      induction nk with
      | zero => rfl
      | succ n ih =>
        rw [List.replicate_succ, List.replicate_succ, List.flatten_cons, ih]
        rfl
    rw [e]
    exact q _ _ ((Grow.new hp1).nfz hp2) FzL.frz
end
def dueP : Option Nat → PyData
  | some k => .int (k : Nat)
  | none => .none
theorem ne_due {K : PySem.W.Frag} {H : Hp} {Q : VK} (o : Option Nat) (q : Q (.bl false) H) : rNeD K (dueV o) (dueV o) H Q := by
  cases o with
  | none =>
    have g : Gd 1 (dueP none) := Gd.none
    refine ⟨dueP none, dueP none, .non, .non, g.shaped, g.shaped, ?_⟩
    rw [g.refl]
    exact q
  | some k =>
    have g : Gd 1 (dueP (some k)) := Gd.int
    refine ⟨dueP (some k), dueP (some k), .int _, .int _, g.shaped, g.shaped, ?_⟩
    rw [g.refl]
    exact q
end Cu

namespace Cu
open PySem PySem.Spec PyProof.Rows L2
open LamX (CodeO)
abbrev lamC : Str := (("_law_counted" : Str) ++ (".<locals>." : Str)) ++ ("<lambda>" : Str)
abbrev nmC : List Str := ["_law_d", "_law_far", "_law_odd", "_law_more", "_law_works", "_law_work"]
abbrev s_counted : Stmt := (top 38)
theorem sc_counted : FnScope ["_law_d", "_law_far", "_law_odd", "_law_more", "_law_works", "_law_work"] ["_law_d", "_law_far"] (defScope s_counted) := ⟨rfl, rfl, rfl, by decide +kernel, rfl, by decide +kernel, by decide +kernel⟩

def spCounted (K : PySem.W.Frag) (Pc : Addr) : Sp := fun vs H Q _ => vs.length = 2 ∧ ∃ (a : Addr) (far : Int) (ps : Array Value) (R : Lg), vs = [.ref a, .int far] ∧ 0 < far ∧ Dice K H a ((Pc, .tbl ps) :: R) ∧ TabI H lamC ps ∧ ∀ H', Mono H H' → Dice K H' a R → Q (.bl true) H'
section
variable {P : Program} {w : World} {K : PySem.W.Frag} {mg : Str → Option Value} {base : Heap} {C CB c_counted P_counted : Addr}
theorem ok_counted {f : Addr} {fd : FuncData} (F : Fun K "_law_counted" "_law_counted" s_counted f fd) (Bm : Blt mg) (gF_counted : mg "_law_counted" = some (.ref f)) (hcode : fd.code = .ref c_counted) (TBl : LamX.TabB base mg c_counted P_counted) (F_told : Fd K mg "_law_told" s_told) (nValueError : mg "ValueError" = none) (Gs : Kx mg)
    (XBadKnown : Xc K Gs.cBadKnown "key") (XBadText : Xc K Gs.cBadText "place") (xo_BadBoard : XOf K Gs Gs.cBadBoard 0) (g_next : Gf P w K mg base 1 "_law_next" ["_law_dice_here", "_law_many"] (spNext K))
    (k_BoardX : Kfx P w K mg base 1 "Board" CB ["self", "keys", "keep"] (spBinitX Gs.cBadBoard)) (k_HearerX : Kfx P w K mg base 1 "Hearer" C ["self", "keys"] (spHinitX Gs.cBadBoard)) : Gf P w K mg base 5 "_law_counted" ["_law_d", "_law_far"] (spCounted K P_counted) := by
  refine ⟨f, fd, Cu.Fun.okC F hcode sc_counted len_of fun A0 outer s H vs Q E hr h => ?_, gF_counted, F.kp, F.binds (fun _ _ _ _ _ _ us hl => match us, hl with | [_, _], _ => rfl)⟩
  obtain ⟨_, a, far, ps, R, rfl, hfar, d, ti, go⟩ := h
  refine ⟨_, (pss_cons (ps_set (i := 2) sc_counted.nd rfl (Or.inr rfl) (pe_ix ix_list (pe_lst (pa_cons pe_int (pa_cons pe_int (pa_cons (pe_un un_neg (pv 1)) (pa_cons (pe_op op_add pe_int (pv 1)) pa_nil))))) (pc g_next hr (pa_cons (pv 0) (pa_cons pe_int pa_nil))) (fun _ _ => rfl)))
      (pss_cons (ps_set (i := 3) sc_counted.nd rfl (Or.inr rfl) (pe_ix ix_list (pe_lst (pa_cons (pe_un un_neg pe_int) (pa_cons pe_int (pa_cons (pe_un un_neg (pv 1)) (pa_cons (pe_op op_add pe_int (pv 1)) pa_nil))))) (pc g_next hr (pa_cons (pv 0) (pa_cons pe_int pa_nil))) (fun _ _ => rfl)))
      (pss_cons (ps_set (i := 4) sc_counted.nd rfl (Or.inl rfl) (pe_lst (pa_cons (pe_lamw TBl rfl rfl (lamN_by (N := ["_law_d", "_law_far", "_law_odd", "_law_more", "_law_works", "_law_work"]) (sc := defScope s_counted) (by decide +kernel)).free) pa_nil)))
      (pss_cons (ps_expr (pe_bm PySem.F.plainAttrs_list PySem.F.slot_list_append PySem.F.type_list_append mt_append (pv 4) (pa_cons (pe_lamw TBl rfl rfl (lamN_by (N := ["_law_d", "_law_far", "_law_odd", "_law_more", "_law_works", "_law_work"]) (sc := defScope s_counted) (by decide +kernel)).free) pa_nil)))
      (pss_cons (ps_expr (pe_bm PySem.F.plainAttrs_list PySem.F.slot_list_append PySem.F.type_list_append mt_append (pv 4) (pa_cons (pe_lamw TBl rfl rfl (lamN_by (N := ["_law_d", "_law_far", "_law_odd", "_law_more", "_law_works", "_law_work"]) (sc := defScope s_counted) (by decide +kernel)).free) pa_nil)))
      (pss_one (ps_ret (pe_cmpR (op_eqD hr.units) (pe_lcin (own := [("_law_work", 5)]) (g := (gName 5)) rfl sc_counted.nd (pi_list (pv 4)) (blkOk_by (N := ["_law_d", "_law_far", "_law_odd", "_law_more", "_law_works", "_law_work"]) (sc := defScope s_counted) (by decide +kernel)) (fun _ _ _ _ _ => (pg_name (i := 5) sc_counted.nd rfl (Or.inl rfl))) (fun _ _ _ _ _ _ st => (pts_one (pt_cmpR (op_neDK K rfl hr.units) (pe_ltold (i := 5) (k := 2) (TT := TTx K Gs) st F_told (fun _ _ => told_cx Bm nValueError Gs XBadKnown XBadText) (hr.mono (by decide)) rfl (.inl rfl) rfl) (pe_tup (pa_cons pe_str pa_nil)) (nomark _)))) (fun _ _ _ _ _ => (pv 5))) (pe_lst pa_nil) (nomark _))))))))), ?_⟩
  have z0 : 0 ≤ sizeLine := by decide
  -- odd
  refine ⟨_, rfl, _, rfl, _, rfl, _, _, rfl, rfl, (by show 4 ≤ sizeLine; decide), fun l1 hl1 => ?_⟩
  have d1 := d.new (o := .lst [.int 0, .int 9, .int (-far), .int (8 + far)]) hl1 nl
  refine ⟨_, rfl, rfl, a, 4, _, rfl, by decide, by decide, d1, fun r2 H2 p2 q2 m2 d2 => ?_⟩
  obtain ⟨v, hv, hm⟩ := at_some (xs := [.int 0, .int 9, .int (-far), .int (8 + far)]) p2 q2
  obtain ⟨odd, rfl, hodd⟩ : ∃ odd : Int, v = .int odd ∧ ¬ (1 ≤ odd ∧ odd ≤ 8) := by
    simp only [List.mem_cons, List.not_mem_nil, or_false] at hm
    rcases hm with e | e | e | e
    · exact ⟨0, e, by omega⟩
    · exact ⟨9, e, by omega⟩
    · exact ⟨-far, e, by omega⟩
    · exact ⟨8 + far, e, by omega⟩
  refine ⟨l1, _, _, _, rfl, rfl, SqL.of d2.at_, hv, ?_⟩
  have m2' := (Mono.new (o := .lst [.int 0, .int 9, .int (-far), .int (8 + far)]) hl1).trans m2
  have d2 := d2.tail
  -- more
  refine ⟨_, rfl, _, rfl, _, rfl, _, rfl, _, _, rfl, rfl, (by show 4 ≤ sizeLine; decide), fun l3 hl3 => ?_⟩
  have d3 := d2.new (o := .lst [.int (-1), .int 21, .int (-far), .int (20 + far)]) hl3 nl
  refine ⟨_, rfl, rfl, a, 4, _, rfl, by decide, by decide, d3, fun r4 H4 p4 q4 m4 d4 => ?_⟩
  obtain ⟨v, hv, hm⟩ := at_some (xs := [.int (-1), .int 21, .int (-far), .int (20 + far)]) p4 q4
  obtain ⟨more, rfl, hmore⟩ : ∃ more : Int, v = .int more ∧ ¬ (0 ≤ more ∧ more ≤ 20) := by
    simp only [List.mem_cons, List.not_mem_nil, or_false] at hm
    rcases hm with e | e | e | e
    · exact ⟨-1, e, by omega⟩
    · exact ⟨21, e, by omega⟩
    · exact ⟨-far, e, by omega⟩
    · exact ⟨20 + far, e, by omega⟩
  refine ⟨l3, _, _, _, rfl, rfl, SqL.of d4.at_, hv, ?_⟩
  have m4' := (m2'.trans (Mono.new (o := .lst [.int (-1), .int 21, .int (-far), .int (20 + far)]) hl3)).trans m4
  have d4 := d4.tail
  have ti4 := ti.mono m4'
  -- the works
  refine ⟨ps, d4.at_, ti4, fun f1 c1 H5 ps1 e5 hP5 ti5 hf1 hc1 => ⟨(by show 1 ≤ sizeLine; decide), fun pw hpw => ?_⟩⟩
  generalize eL1 : LamO f1 _ _ _ _ _ _ c1 = L1 at hpw ⊢
  have iL1 : Imm L1 := by rw [← eL1]; exact lamO_imm
  have m5 := (e5.mono d4.at_).trans (Mono.new (o := L1) hf1)
  have d5 := (d4.lamP e5 hP5).old (o := L1) hf1
  have ti5 := ti5.mono (Mono.new (o := L1) hf1)
  have hc1' : (upd H5 f1 L1) c1 = some (CodeO c1 lamC) := (Mono.new (o := L1) hf1) _ _ hc1 (codeO_imm _ _)
  have hL1 : (upd H5 f1 L1) f1 = some L1 := upd_same
  generalize (upd H5 f1 L1) = H6 at *
  have d6 := (d5.new (o := .lst [.ref f1]) hpw nl).perm (List.Perm.swap _ _ _)
  have m6 := Mono.new (o := .lst [.ref f1]) hpw
  have ti6 := ti5.mono m6
  have hc1' := m6 _ _ hc1' (codeO_imm _ _)
  have hL1 := m6 _ _ hL1 iL1
  generalize (upd H6 pw (.lst [.ref f1])) = H7 at *
  refine ⟨_, rfl, .inl ⟨rfl, _, SqL.of d6.has.tail.head⟩, ps1, d6.at_, ti6, fun f2 c2 H8 ps2 e8 hP8 ti8 hf2 hc2 => ?_⟩
  generalize eL2 : LamO f2 _ _ _ _ _ _ c2 = L2
  have iL2 : Imm L2 := by rw [← eL2]; exact lamO_imm
  have m8 := (e8.mono d6.at_).trans (Mono.new (o := L2) hf2)
  have d8 := (d6.lamP e8 hP8).old (o := L2) hf2
  have ti8 := ti8.mono (Mono.new (o := L2) hf2)
  have hc2' : (upd H8 f2 L2) c2 = some (CodeO c2 lamC) := (Mono.new (o := L2) hf2) _ _ hc2 (codeO_imm _ _)
  have hL2 : (upd H8 f2 L2) f2 = some L2 := upd_same
  have hc1' := m8 _ _ hc1' (codeO_imm _ _)
  have hL1 := m8 _ _ hL1 iL1
  generalize (upd H8 f2 L2) = H9 at *
  refine ⟨pw, [.ref f1], _, rfl, rfl, d8.has.tail.head, (by show 1 < sizeLine; decide), ?_⟩
  have d8 := d8.perm (List.Perm.swap _ _ _)
  have m9 := d8.mput (o' := .lst ([.ref f1] ++ [.ref f2]))
  have d9 := (d8.put (o' := .lst ([.ref f1] ++ [.ref f2])) nl).perm (List.Perm.swap _ _ _)
  have ti9 := ti8.mono m9
  have hc1' := m9 _ _ hc1' (codeO_imm _ _)
  have hL1 := m9 _ _ hL1 iL1
  have hc2' := m9 _ _ hc2' (codeO_imm _ _)
  have hL2 := m9 _ _ hL2 iL2
  generalize (upd H9 pw (.lst ([.ref f1] ++ [.ref f2]))) = H10 at *
  refine ⟨_, rfl, .inl ⟨rfl, _, SqL.of d9.has.tail.head⟩, ps2, d9.at_, ti9, fun f3 c3 H11 ps3 e11 hP11 ti11 hf3 hc3 => ?_⟩
  generalize eL3 : LamO f3 _ _ _ _ _ _ c3 = L3
  have iL3 : Imm L3 := by rw [← eL3]; exact lamO_imm
  have m11 := (e11.mono d9.at_).trans (Mono.new (o := L3) hf3)
  have d11 := (d9.lamP e11 hP11).old (o := L3) hf3
  have hc3' : (upd H11 f3 L3) c3 = some (CodeO c3 lamC) := (Mono.new (o := L3) hf3) _ _ hc3 (codeO_imm _ _)
  have hL3 : (upd H11 f3 L3) f3 = some L3 := upd_same
  have hc1' := m11 _ _ hc1' (codeO_imm _ _)
  have hL1 := m11 _ _ hL1 iL1
  have hc2' := m11 _ _ hc2' (codeO_imm _ _)
  have hL2 := m11 _ _ hL2 iL2
  generalize (upd H11 f3 L3) = H12 at *
  refine ⟨pw, [.ref f1] ++ [.ref f2], _, rfl, rfl, d11.has.tail.head, (by show 2 < sizeLine; decide), ?_⟩
  have d11 := d11.perm (List.Perm.swap _ _ _)
  have m12 := d11.mput (o' := .lst ([.ref f1] ++ [.ref f2] ++ [.ref f3]))
  have d12 := d11.put (o' := .lst ([.ref f1] ++ [.ref f2] ++ [.ref f3])) nl
  have hc1' := m12 _ _ hc1' (codeO_imm _ _)
  have hL1 := m12 _ _ hL1 iL1
  have hc2' := m12 _ _ hc2' (codeO_imm _ _)
  have hL2 := m12 _ _ hL2 iL2
  have hc3' := m12 _ _ hc3' (codeO_imm _ _)
  have hL3 := m12 _ _ hL3 iL3
  have m13 := (((((m4'.trans m5).trans m6).trans m8).trans m9).trans m11).trans m12
  generalize (upd H12 pw (.lst ([.ref f1] ++ [.ref f2] ++ [.ref f3]))) = H13 at *
  subst eL1 eL2 eL3
  -- each is refused
  refine ⟨_, rfl, pw, rfl, ⟨_, SqL.of d12.at_⟩, fun D hD => ?_⟩
  refine lc_list (K := K) (a := pw) (xs := [.ref f1] ++ [.ref f2] ++ [.ref f3]) (fun i H => Mono H13 H ∧ Dice K H a ((D, .lst []) :: (pw, .lst ([.ref f1] ++ [.ref f2] ++ [.ref f3])) :: (P_counted, .tbl ps3) :: R)) ⟨Mono.new hD, d12.new hD nl⟩ (fun i H _ ⟨_, d⟩ => SqL.of d.has.tail.head) ?_ ?_
  · rintro j x H14 hj ⟨m14, d14⟩
    have hl1 := m14 _ _ hL1 iL1
    have hl2 := m14 _ _ hL2 iL2
    have hl3 := m14 _ _ hL3 iL3
    have hd1 := m14 _ _ hc1' (codeO_imm _ _)
    have hd2 := m14 _ _ hc2' (codeO_imm _ _)
    have hd3 := m14 _ _ hc3' (codeO_imm _ _)
    have hx := List.mem_of_getElem? hj
    simp only [List.cons_append, List.nil_append, List.mem_cons, List.not_mem_nil, or_false] at hx
    refine ⟨rfl, ?_⟩
    -- what is told then
    have fin : ∀ {H2 : Hp} {v : V}, Grow H14 H2 → Rp K H2 (toldD 0 0) v → tTup (tCons (tC (V.str "board")) tNil) [some (V.ref a), some (V.int far), some (V.int odd), some (V.int more), some (V.ref pw), some x] H2 fun y H3 => rNeD K v y H3 fun b H4 => ∃ k, b = .bl k ∧ (if k = true then tVar 5 [some (V.ref a), some (V.int far), some (V.int odd), some (V.int more), some (V.ref pw), some x] H4 fun y H5 => ∃ acc, H5 D = some (HO.lst acc) ∧ acc.length < sizeLine ∧ (Mono H13 (upd H5 D (HO.lst (acc ++ [y]))) ∧ Dice K (upd H5 D (HO.lst (acc ++ [y]))) a ((D, .lst []) :: (pw, .lst ([.ref f1] ++ [.ref f2] ++ [.ref f3])) :: (P_counted, .tbl ps3) :: R)) else (Mono H13 H4 ∧ Dice K H4 a ((D, .lst []) :: (pw, .lst ([.ref f1] ++ [.ref f2] ++ [.ref f3])) :: (P_counted, .tbl ps3) :: R))) := by
      intro H2 v g rv
      refine ⟨(by show 1 ≤ sizeLine; decide), fun t ht => ne_told (i := 0) (n := 0) (by decide) (rv.mono (Mono.new ht)) (.tup (ds := [.str "board"]) upd_same (.cons .str .nil)) ⟨_, rfl, iteM (by decide) ⟨(m14.trans g.mono).trans (Mono.new ht), (d14.grow g).old ht⟩⟩⟩
    rcases hx with rfl | rfl | rfl
    · refine ⟨f1, c1, _, rfl, ⟨_, _, _, _, hl1, hd1, noArgsT0 (fun _ _ _ => rfl), lamN_by (N := nmC) (sc := defScope s_counted) (by decide +kernel), fun E A outer s H hr => pky (takes_of rfl rfl rfl rfl) k_BoardX hr (pa_cons (pv 2) (pa_cons pe_int pa_nil))⟩, rfl, ?_⟩
      refine ⟨_, rfl, fun x dx hx hdx hn => ⟨rfl, x, odd, 3, rfl, fun z => hodd ⟨z.1, z.2.1⟩, 0, _, 0, by decide, rfl, xo_BadBoard, holds_none (by decide) (by decide), fun v H2 g rv => ?_⟩⟩
      exact fin ((mk_tr (C := CB) hx hdx hn).tail.trans g) rv
    · refine ⟨f2, c2, _, rfl, ⟨_, _, _, _, hl2, hd2, noArgsT0 (fun _ _ _ => rfl), lamN_by (N := nmC) (sc := defScope s_counted) (by decide +kernel), fun E A outer s H hr => pky (takes_of rfl rfl rfl rfl) k_BoardX hr (pa_cons pe_int (pa_cons (pv 3) pa_nil))⟩, rfl, ?_⟩
      refine ⟨_, rfl, fun x dx hx hdx hn => ⟨rfl, x, 3, more, rfl, fun z => hmore ⟨z.2.2.1, z.2.2.2⟩, 0, _, 0, by decide, rfl, xo_BadBoard, holds_none (by decide) (by decide), fun v H2 g rv => ?_⟩⟩
      exact fin ((mk_tr (C := CB) hx hdx hn).tail.trans g) rv
    · refine ⟨f3, c3, _, rfl, ⟨_, _, _, _, hl3, hd3, noArgsT0 (fun _ _ _ => rfl), lamN_by (N := nmC) (sc := defScope s_counted) (by decide +kernel), fun E A outer s H hr => pky (takes_of rfl rfl rfl rfl) k_HearerX hr (pa_cons (pv 2) pa_nil)⟩, rfl, ?_⟩
      refine ⟨_, rfl, fun x dx hx hdx hn => ⟨rfl, x, odd, rfl, hodd, 0, _, 0, by decide, rfl, xo_BadBoard, holds_none (by decide) (by decide), fun v H2 g rv => ?_⟩⟩
      exact fin ((mk_tr (C := C) hx hdx hn).tail.trans g) rv
  rintro H14 ⟨m14, d14⟩
  refine ⟨z0, fun e1 he1 => ⟨_, _, Dp.nil (by rw [upd_ne (ne_of_none d14.at_ he1)]; exact d14.at_), Dp.nil upd_same, (Gd.nil (n := 0)).shaped, (Gd.nil (n := 0)).shaped, ?_⟩⟩
  rw [(Gd.nil (n := 0)).refl]
  exact go _ ((m13.trans m14).trans (Mono.new he1)) (d14.old he1).tail.tail.tail
end
end Cu

namespace Cu
open PySem PySem.Spec PyProof.Rows L2
abbrev s_unknown : Stmt := (top 39)
theorem sc_unknown : FnScope ["_law_d", "_law_board", "_law_known_here", "_law_far", "_law_keys", "_law_at", "_law_odd", "_law_some"] ["_law_d", "_law_board", "_law_known_here", "_law_far"] (defScope s_unknown) := ⟨rfl, rfl, rfl, by decide +kernel, rfl, by decide +kernel, by decide +kernel⟩

theorem GoodN.putR {nk n o : Nat} {ns : List Int} (g : GoodN nk n ns) (ho : o < nk) {z : Int} (hz : ¬ (-1 ≤ z ∧ z ≤ n)) (rest : List Int) : badN nk n (ns.take o ++ [z] ++ rest) = some o := by
  have hl := g.len
  have et : (ns.take o).length = o := by rw [List.length_take]; omega
  refine badN_at ho (fun j hj => ?_) (badK1_bad (z := z) ?_ hz)
  · obtain ⟨y, e, h0, h1⟩ := g.at_ (show j < nk by omega)
    refine badK1_ok (z := y) ?_ h0 h1
    rw [List.append_assoc, List.getElem?_append_left (by omega), List.getElem?_take_of_lt hj]
    exact e
  · rw [List.append_assoc, List.getElem?_append_right (by omega), et, Nat.sub_self]
    rfl
theorem GoodN.longR {nk n : Nat} {ns zs : List Int} (g : GoodN nk n ns) (h : 0 < zs.length) : badN nk n (ns ++ zs) = some nk := by
  have hl := g.len
  rw [badN_end fun j hj => ?_, if_pos (by rw [List.length_append]; omega)]
  obtain ⟨y, e, h0, h1⟩ := g.at_ hj
  refine badK1_ok (z := y) ?_ h0 h1
  rw [List.getElem?_append_left (by omega)]
  exact e
/-- numbers that nobody knows, the first such key -/
def UnkOk (K : PySem.W.Frag) (H : Hp) (nk n : Nat) (x : V) : Prop := ∃ (t p : Addr) (zs : List Int) (k : Nat), x = .ref t ∧ H t = some (.tup [.ref p, .int k]) ∧ FzL K H p (zs.map V.int) ∧ badN nk n zs = some k
theorem UnkOk.mono {K : PySem.W.Frag} {H H' : Hp} {nk n : Nat} {x : V} (c : UnkOk K H nk n x) (m : Mono H H') : UnkOk K H' nk n x :=
  let ⟨t, p, zs, k, e, h, f, b⟩ := c
  ⟨t, p, zs, k, e, m _ _ h trivial, f.mono m, b⟩
theorem rep_flatI (n : Nat) (z : Int) : (List.replicate n [V.int z]).flatten = (List.replicate n z).map V.int := by
  rw [List.map_replicate]
  induction n with
  | zero => rfl
  | succ n ih =>
    rw [List.replicate_succ, List.replicate_succ, List.flatten_cons, ih]
    rfl
def spUnknown (K : PySem.W.Frag) (CB : Addr) : Sp := fun vs H Q _ => vs.length = 4 ∧ ∃ (a : Addr) (B : BA) (nk keep : Nat) (cs : List Ch) (c : Lg) (kn : Addr) (ns : List Int) (far : Int) (R : Lg), vs = [.ref a, .ref B.p, .ref kn, .int far] ∧ 0 < nk ∧ nk ≤ 8 ∧ 0 < far ∧ BR K CB B nk keep cs H c ∧ Dice K H a (c ++ R) ∧ Kn nk cs ns ∧ FzL K H kn (ns.map V.int) ∧
  ∀ (x : V) (H' : Hp), Mono H H' → Dice K H' a (c ++ R) → UnkOk K H' nk cs.length x → Q x H'
section
variable {P : Program} {w : World} {K : PySem.W.Frag} {mg : Str → Option Value} {base : Heap} {CB : Addr}
theorem ok_unknown (F : Fd K mg "_law_unknown" s_unknown) (Bm : Blt mg) (CBoard : CBo K CB) (g_next : Gf P w K mg base 1 "_law_next" ["_law_dice_here", "_law_many"] (spNext K)) (m_Board_number : Mf P w K mg base 1 CB "number" ["self"] (spBnumber K CB)) :
    Gf P w K mg base 2 "_law_unknown" ["_law_d", "_law_board", "_law_known_here", "_law_far"] (spUnknown K CB) := by
  refine F.ok sc_unknown (fun _ _ _ _ _ _ us hl => match us, hl with | [_, _, _, _], _ => rfl) len_of fun qual f cdv A0 outer s H vs Q E hr h => ?_
  obtain ⟨_, a, B, nk, keep, cs, c, kn, ns, far, R, rfl, hk, hk8, hfar, r, d, kk, fk, go⟩ := h
  have gd : GoodN nk cs.length ns := ⟨kk.len, kk.2⟩
  have hl := kk.len
  have hml : (ns.map V.int).length = nk := by rw [List.length_map, hl]
  refine ⟨_, (pss_cons (ps_set (i := 4) sc_unknown.nd rfl (Or.inl rfl) (pe_callB call_len_seq rfl Bm.len (by decide +kernel) (pa_cons (pv 2) pa_nil)))
      (pss_cons (ps_set (i := 5) sc_unknown.nd rfl (Or.inl rfl) (pc g_next hr (pa_cons (pv 0) (pa_cons (pv 4) pa_nil))))
      (pss_cons (ps_set (i := 6) sc_unknown.nd rfl (Or.inl rfl) (pe_ix ix_list (pe_lst (pa_cons (pe_un un_neg pe_int) (pa_cons (pe_op op_add (pm0 (pv 1) CBoard.cl m_Board_number hr) pe_int) (pa_cons (pe_op op_sub (pe_un un_neg pe_int) (pv 3)) (pa_cons (pe_op op_add (pm0 (pv 1) CBoard.cl m_Board_number hr) (pv 3)) pa_nil))))) (pc g_next hr (pa_cons (pv 0) (pa_cons pe_int pa_nil))) (fun _ _ => rfl)))
      (pss_cons (ps_set (i := 7) sc_unknown.nd rfl (Or.inl rfl) (pe_lst (pa_cons (pe_tup (pa_cons (pe_fz (pe_op op_cat (pe_op op_cat (pe_op op_cat (pe_slice sl_list (pv 2) po_none (po_some (pv 5))) (pe_lst (pa_cons (pv 6) pa_nil))) (pe_slice sl_list (pv 2) (po_some (pe_op op_add (pv 5) pe_int)) po_none)) (pe_op op_rep (pe_lst (pa_cons (pe_un un_neg pe_int) pa_nil)) (pc g_next hr (pa_cons (pv 0) (pa_cons pe_int pa_nil)))))) (pa_cons (pv 5) pa_nil))) (pa_cons (pe_tup (pa_cons (pe_fz (pe_slice sl_list (pv 2) po_none (po_some (pv 5)))) (pa_cons (pv 5) pa_nil))) pa_nil))))
      (pss_one (ps_ret (pe_ix ix_list (pe_op op_cat (pv 7) (pe_lst (pa_cons (pe_tup (pa_cons (pe_fz (pe_op op_catZ (pv 2) (pe_op op_rep (pe_lst (pa_cons pe_int pa_nil)) (pe_op op_add pe_int (pc g_next hr (pa_cons (pv 0) (pa_cons pe_int pa_nil))))))) (pa_cons (pv 4) pa_nil))) pa_nil))) (pc g_next hr (pa_cons (pv 0) (pa_cons pe_int pa_nil))) (fun _ _ => rfl)))))))), ?_⟩
  have z0 : 0 ≤ sizeLine := by decide
  refine ⟨_, rfl, kn, _, rfl, .inl fk.sq, ?_⟩
  rw [hml]
  refine ⟨_, rfl, _, rfl, rfl, a, nk, _, rfl, by omega, by omega, d, fun r1 H1 p1 q1 m1 d1 => ?_⟩
  obtain ⟨o, rfl, ho⟩ : ∃ o : Nat, r1 = o ∧ o < nk := ⟨r1.toNat, by omega, by omega⟩
  have R1 := r.mono m1
  -- odd
  refine ⟨_, rfl, _, rfl, B.p, _, _, rfl, R1.at_p d1.has.left, bFno, rfl, B, nk, keep, cs, c, rfl, R1, d1.has.left, _, _, rfl, rfl, _, rfl, _, rfl, _, _, rfl, rfl, _, rfl, B.p, _, _, rfl, R1.at_p d1.has.left, bFno, rfl, B, nk, keep, cs, c, rfl, R1, d1.has.left, _, rfl, _, _, rfl, rfl, (by show 4 ≤ sizeLine; decide), fun l2 hl2 => ?_⟩
  have d2 := d1.new (o := .lst [.int (-2), .int ((cs.length : Int) + 1), .int (-1 - far), .int ((cs.length : Int) + far)]) hl2 nl
  refine ⟨_, rfl, rfl, a, 4, _, rfl, by decide, by decide, d2, fun r3 H3 p3 q3 m3 d3 => ?_⟩
  obtain ⟨v, hv, hm⟩ := at_some (xs := [.int (-2), .int ((cs.length : Int) + 1), .int (-1 - far), .int ((cs.length : Int) + far)]) p3 q3
  obtain ⟨odd, rfl, hodd⟩ : ∃ odd : Int, v = .int odd ∧ ¬ (-1 ≤ odd ∧ odd ≤ cs.length) := by
    simp only [List.mem_cons, List.not_mem_nil, or_false] at hm
    rcases hm with e | e | e | e
    · exact ⟨-2, e, by omega⟩
    · exact ⟨_, e, by omega⟩
    · exact ⟨_, e, by omega⟩
    · exact ⟨_, e, by omega⟩
  refine ⟨l2, _, _, _, rfl, rfl, SqL.of d3.at_, hv, ?_⟩
  have d3 := d3.tail
  have m3' := (m1.trans (Mono.new (o := .lst [.int (-2), .int ((cs.length : Int) + 1), .int (-1 - far), .int ((cs.length : Int) + far)]) hl2)).trans m3
  have f3 := fk.mono m3'
  -- the first list
  refine rd_fz ?_
  have hk' : o < (ns.map V.int).length := by rw [hml]; exact ho
  have z1 : 1000 ≤ sizeLine := by decide
  refine ⟨_, rfl, _, rfl, _, rfl, kn, _, rfl, f3.sq, fun p1 hp1 => ?_⟩
  rw [cutV_to (Nat.le_of_lt hk')]
  refine ⟨_, rfl, (by show 1 ≤ sizeLine; decide), fun p2 hp2 => ⟨p1, p2, _, _, rfl, rfl, by rw [upd_ne (ne_of_none upd_same hp2)]; exact upd_same, upd_same, Nat.le_trans (show _ ≤ 1000 by rw [List.length_take]; show _ + 1 ≤ 1000; omega) z1, fun p3 hp3 => ?_⟩⟩
  have g1 := (((Grow.refl H3).old (o := .lst ((ns.map V.int).take o)) hp1).old (o := .lst [.int odd]) hp2).new (o := .lst ((ns.map V.int).take o ++ [.int odd])) hp3 nl
  have e1 : ((o : Int) + 1) = ((o + 1 : Nat) : Int) := by omega
  have f4 := f3.mono g1.mono
  generalize upd (upd (upd H3 p1 (.lst ((ns.map V.int).take o))) p2 (.lst [.int odd])) p3 (.lst ((ns.map V.int).take o ++ [.int odd])) = H4 at *
  refine ⟨_, rfl, _, rfl, _, _, rfl, rfl, _, rfl, kn, _, rfl, f4.sq, fun p4 hp4 => ?_⟩
  rw [e1, cutV_from hk']
  have h34 : H4 p3 = some (HO.lst ((ns.map V.int).take o ++ [.int odd])) := g1.own.head
  have n34 : p3 ≠ p4 := ne_of_none h34 hp4
  refine ⟨p3, p4, _, _, rfl, rfl, by rw [upd_ne n34]; exact h34, upd_same, Nat.le_trans (show _ ≤ 1000 by rw [List.length_append, List.length_take, List.length_drop]; show _ + 1 + _ ≤ 1000; omega) z1, fun p5 hp5 => ?_⟩
  have g5 := ((g1.tail.old (o := .lst ((ns.map V.int).drop (o + 1))) hp4).new (o := .lst ((ns.map V.int).take o ++ [.int odd] ++ (ns.map V.int).drop (o + 1))) hp5 nl)
  have d5 : Dice K _ a ((p5, .lst ((ns.map V.int).take o ++ [.int odd] ++ (ns.map V.int).drop (o + 1))) :: (c ++ R)) := Dice.tr (C := []) d3 g5
  have m5 := m3'.trans g5.mono
  generalize upd (upd H4 p4 (.lst ((ns.map V.int).drop (o + 1)))) p5 (.lst ((ns.map V.int).take o ++ [.int odd] ++ (ns.map V.int).drop (o + 1))) = H5 at *
  refine ⟨_, rfl, (by show 1 ≤ sizeLine; decide), fun p6 hp6 => ?_⟩
  have d6 := d5.new (o := .lst [.int (-9)]) hp6 nl
  refine ⟨_, rfl, rfl, a, 2, _, rfl, by decide, by decide, d6, fun r7 H7 p7 q7 m7 d7 => ?_⟩
  refine ⟨p6, r7, _, rfl, rfl, d7.at_, by omega, by omega, (by show 1 * r7.toNat ≤ sizeLine; exact Nat.le_trans (show 1 * r7.toNat ≤ 1000 by omega) z1), fun p8 hp8 => ?_⟩
  have e8 := rep_flatI r7.toNat (-9)
  rw [e8]
  have h75 : H7 p5 = some (.lst ((ns.map V.int).take o ++ [.int odd] ++ (ns.map V.int).drop (o + 1))) := d7.has.tail.head
  refine ⟨p5, p8, _, _, rfl, rfl, by rw [upd_ne (ne_of_none h75 hp8)]; exact h75, upd_same, Nat.le_trans (show _ ≤ 1000 by
    rw [List.length_append, List.length_append, List.length_take, List.length_drop, List.length_map, List.length_map, List.length_replicate]
    show _ + 1 + _ + _ ≤ 1000
    omega) z1, fun p9 hp9 => ⟨p9, _, rfl, upd_same, fun o9 => ?_⟩⟩
  have eL : (ns.map V.int).take o ++ [V.int odd] ++ (ns.map V.int).drop (o + 1) ++ (List.replicate r7.toNat (-9 : Int)).map V.int = (ns.take o ++ [odd] ++ (ns.drop (o + 1) ++ List.replicate r7.toNat (-9))).map V.int := by
    simp [List.map_take, List.map_drop]
  rw [eL]
  have m6 := (m5.trans (Mono.new (o := .lst [.int (-9)]) hp6)).trans m7
  have g9 := ((Grow.refl H7).old (o := .lst ((List.replicate r7.toNat (-9 : Int)).map V.int)) hp8).nfz (xs := (ns.take o ++ [odd] ++ (ns.drop (o + 1) ++ List.replicate r7.toNat (-9))).map V.int) (ob := o9) hp9
  have d9 := d7.tail.tail.grow g9
  have f9 : FzL K (upd (upd (upd H7 p8 (.lst ((List.replicate r7.toNat (-9 : Int)).map V.int))) p9 (.lst ((ns.take o ++ [odd] ++ (ns.drop (o + 1) ++ List.replicate r7.toNat (-9))).map V.int))) p9 (.frz o9 (.lst ((ns.take o ++ [odd] ++ (ns.drop (o + 1) ++ List.replicate r7.toNat (-9))).map V.int)))) p9 ((ns.take o ++ [odd] ++ (ns.drop (o + 1) ++ List.replicate r7.toNat (-9))).map V.int) := FzL.frz
  have m9 := m6.trans g9.mono
  generalize (upd (upd (upd H7 p8 (.lst ((List.replicate r7.toNat (-9 : Int)).map V.int))) p9 (.lst ((ns.take o ++ [odd] ++ (ns.drop (o + 1) ++ List.replicate r7.toNat (-9))).map V.int))) p9 (.frz o9 (.lst ((ns.take o ++ [odd] ++ (ns.drop (o + 1) ++ List.replicate r7.toNat (-9))).map V.int)))) = H9 at *
  refine ⟨_, rfl, (by show 2 ≤ sizeLine; decide), fun t1 ht1 => ?_⟩
  have c1 : UnkOk K (upd H9 t1 (.tup [.ref p9, .int o])) nk cs.length (.ref t1) := ⟨t1, p9, _, o, rfl, upd_same, f9.mono (Mono.new ht1), gd.putR ho hodd _⟩
  have d10 := d9.old (o := .tup [.ref p9, .int o]) ht1
  have m10 := m9.trans (Mono.new (o := .tup [.ref p9, .int o]) ht1)
  generalize upd H9 t1 (.tup [.ref p9, .int o]) = H10 at *
  -- the second list
  refine rd_fz ?_
  refine ⟨_, rfl, _, rfl, _, rfl, kn, _, rfl, (fk.mono m10).sq, fun pb hpb => ⟨pb, _, rfl, upd_same, fun o11 => ?_⟩⟩
  rw [cutV_to (Nat.le_of_lt hk'), ← List.map_take]
  have g11 := (Grow.refl H10).nfz (xs := (ns.take o).map V.int) (ob := o11) hpb
  have f11 : FzL K (upd (upd H10 pb (.lst ((ns.take o).map V.int))) pb (.frz o11 (.lst ((ns.take o).map V.int)))) pb ((ns.take o).map V.int) := FzL.frz
  have d11 := d10.grow g11
  have m11 := m10.trans g11.mono
  have c1 := c1.mono g11.mono
  generalize upd (upd H10 pb (.lst ((ns.take o).map V.int))) pb (.frz o11 (.lst ((ns.take o).map V.int))) = H11 at *
  refine ⟨_, rfl, (by show 2 ≤ sizeLine; decide), fun t2 ht2 => ⟨(by show 2 ≤ sizeLine; decide), fun pc hpc => ?_⟩⟩
  have c2 : UnkOk K (upd H11 t2 (.tup [.ref pb, .int o])) nk cs.length (.ref t2) := ⟨t2, pb, _, o, rfl, upd_same, f11.mono (Mono.new ht2), gd.short ho⟩
  have c1 := (c1.mono (Mono.new (o := .tup [.ref pb, .int o]) ht2)).mono (Mono.new (o := .lst [.ref t1, .ref t2]) hpc)
  have c2 := c2.mono (Mono.new (o := .lst [.ref t1, .ref t2]) hpc)
  have d12 := (d11.old (o := .tup [.ref pb, .int o]) ht2).new (o := .lst [.ref t1, .ref t2]) hpc nl
  have m12 := (m11.trans (Mono.new (o := .tup [.ref pb, .int o]) ht2)).trans (Mono.new (o := .lst [.ref t1, .ref t2]) hpc)
  generalize upd (upd H11 t2 (.tup [.ref pb, .int o])) pc (.lst [.ref t1, .ref t2]) = H12 at *
  -- the third one; one of them
  refine ⟨_, rfl, ?_⟩
  refine rd_fz ?_
  refine ⟨_, rfl, (by show 1 ≤ sizeLine; decide), fun q1 hq1 => ?_⟩
  have d13 := d12.new (o := .lst [.int 0]) hq1 nl
  refine ⟨_, rfl, rfl, a, 3, _, rfl, by decide, by decide, d13, fun r14 H14 p14 q14 m14 d14 => ⟨_, _, rfl, rfl, q1, 1 + r14, _, rfl, rfl, d14.at_, by omega, by omega, (by show 1 * (1 + r14).toNat ≤ sizeLine; exact Nat.le_trans (show 1 * (1 + r14).toNat ≤ 1000 by omega) z1), fun q2 hq2 => ?_⟩⟩
  have e14 := rep_flatI (1 + r14).toNat 0
  rw [e14]
  have m14' := (m12.trans (Mono.new (o := .lst [.int 0]) hq1)).trans m14
  have m14d := (Mono.new (o := .lst [.int 0]) hq1).trans m14
  refine ⟨kn, q2, _, _, rfl, rfl, ((fk.mono m14').mono (Mono.new hq2)).sq, SqL.of upd_same, Nat.le_trans (show _ ≤ 1000 by
    rw [hml, List.length_map, List.length_replicate]
    omega) z1, fun q3 hq3 => ⟨q3, _, rfl, upd_same, fun o15 => ?_⟩⟩
  rw [← List.map_append]
  have g15 := ((Grow.refl H14).old (o := .lst ((List.replicate (1 + r14).toNat (0 : Int)).map V.int)) hq2).nfz (xs := (ns ++ List.replicate (1 + r14).toNat (0 : Int)).map V.int) (ob := o15) hq3
  have f15 : FzL K (upd (upd (upd H14 q2 (.lst ((List.replicate (1 + r14).toNat (0 : Int)).map V.int))) q3 (.lst ((ns ++ List.replicate (1 + r14).toNat (0 : Int)).map V.int))) q3 (.frz o15 (.lst ((ns ++ List.replicate (1 + r14).toNat (0 : Int)).map V.int)))) q3 ((ns ++ List.replicate (1 + r14).toNat (0 : Int)).map V.int) := FzL.frz
  have d15 := d14.tail.grow g15
  have m15 := m14'.trans g15.mono
  have c1 := (c1.mono m14d).mono g15.mono
  have c2 := (c2.mono m14d).mono g15.mono
  generalize (upd (upd (upd H14 q2 (.lst ((List.replicate (1 + r14).toNat (0 : Int)).map V.int))) q3 (.lst ((ns ++ List.replicate (1 + r14).toNat (0 : Int)).map V.int))) q3 (.frz o15 (.lst ((ns ++ List.replicate (1 + r14).toNat (0 : Int)).map V.int)))) = H15 at *
  refine ⟨_, rfl, (by show 2 ≤ sizeLine; decide), fun t3 ht3 => ⟨(by show 1 ≤ sizeLine; decide), fun q4 hq4 => ?_⟩⟩
  have c3 : UnkOk K (upd H15 t3 (.tup [.ref q3, .int nk])) nk cs.length (.ref t3) := ⟨t3, q3, _, nk, rfl, upd_same, f15.mono (Mono.new ht3), gd.longR (by rw [List.length_replicate]; omega)⟩
  have c3 := c3.mono (Mono.new (o := .lst [.ref t3]) hq4)
  have mq := (Mono.new (o := .tup [.ref q3, .int nk]) ht3).trans (Mono.new (o := .lst [.ref t3]) hq4)
  have c1 := c1.mono mq
  have c2 := c2.mono mq
  have d16 := (d15.old (o := .tup [.ref q3, .int nk]) ht3).old (o := .lst [.ref t3]) hq4
  have m16 := m15.trans mq
  have hq4' : (upd (upd H15 t3 (.tup [.ref q3, .int nk])) q4 (.lst [.ref t3])) q4 = some (HO.lst [.ref t3]) := upd_same
  generalize upd (upd H15 t3 (.tup [.ref q3, .int nk])) q4 (.lst [.ref t3]) = H16 at *
  refine ⟨pc, q4, _, _, rfl, rfl, d16.at_, hq4', (by show 2 + 1 ≤ sizeLine; decide), fun q5 hq5 => ?_⟩
  have d17 := d16.tail.new (o := .lst ([.ref t1, .ref t2] ++ [.ref t3])) hq5 nl
  have m17 := Mono.new (o := .lst ([V.ref t1, .ref t2] ++ [.ref t3])) hq5
  refine ⟨_, rfl, rfl, a, 3, _, rfl, by decide, by decide, d17, fun r18 H18 p18 q18 m18 d18 => ?_⟩
  obtain ⟨x, hx, hm⟩ := at_some (xs := [V.ref t1, .ref t2] ++ [V.ref t3]) p18 (by show r18 < 3; exact q18)
  refine ⟨q5, _, _, _, rfl, rfl, SqL.of d18.at_, hx, go x H18 ((m16.trans m17).trans m18) d18.tail ?_⟩
  simp only [List.cons_append, List.nil_append, List.mem_cons, List.not_mem_nil, or_false] at hm
  rcases hm with rfl | rfl | rfl
  · exact c1.mono (m17.trans m18)
  · exact c2.mono (m17.trans m18)
  · exact c3.mono (m17.trans m18)
end
end Cu

namespace Cu
open PySem PySem.Spec PyProof.Rows L2
section
variable {P : Program} {w : World} {K : PySem.W.Frag} {mg : Str → Option Value} {base : Heap} {C : Addr}
theorem ok_Binit {tk tk2 : Tok} (F : Kd K mg "Board" C "Board.__init__" s_Board_init) (Bm : Blt mg) (CBoard : CBo K C) (km_MOST_KEYS : mg "MOST_KEYS" = some (.int 8 tk)) (km_MOST_TAIL : mg "MOST_TAIL" = some (.int 20 tk2)) : Kf P w K mg base 1 "Board" C ["self", "keys", "keep"] (spBinit K C) := by
  refine F.ok sc_Board_init (fun _ _ _ _ _ _ us hl => match us, hl with | [_, _, _], _ => rfl) len_of fun qual f cdv A0 outer s H vs Q E hr h => ?_
  obtain ⟨_, p, dx, nk, keep, rfl, hk, hk8, hkp, hp, go⟩ := h
  refine ⟨_, (pss_cons (ps_if (PW.pt (pw_or (pt_not (pt_chain op_le op_le pe_int (pv 1) (pe_glob (v := .int 8) rfl km_MOST_KEYS ⟨_, rfl⟩))) (pw_or1 (pt_not (pt_chain op_le op_le pe_int (pv 2) (pe_glob (v := .int 20) rfl km_MOST_TAIL ⟨_, rfl⟩))))))
        (pss_one ps_never)
        pss_nil)
      (pss_cons (ps_fld (pv 0) (pe_I (pe_lc (own := [("key", 3)]) (g := (gName 3)) (tt := tYes) rfl sc_Board_init.nd (pi_range1 rfl Bm.range (pa_cons (pv 1) pa_nil)) (blkOk_by (N := ["self", "keys", "keep", "key"]) (sc := defScope s_Board_init) (by decide +kernel)) (fun _ _ _ _ _ => (pg_name (i := 3) sc_Board_init.nd rfl (Or.inl rfl))) (fun _ _ _ _ _ => pts_nil) (fun _ _ _ _ _ => pe_int))) rfl)
      (pss_cons (ps_fld (pv 0) (pv 2) rfl)
      (pss_cons (ps_fld (pv 0) (pe_lst pa_nil) rfl)
      (pss_cons (ps_fld (pv 0) pe_int rfl)
      (pss_one (ps_fld (pv 0) (pe_I (pe_lc (own := [("key", 3)]) (g := (gName 3)) (tt := tYes) rfl sc_Board_init.nd (pi_range1 rfl Bm.range (pa_cons (pv 1) pa_nil)) (blkOk_by (N := ["self", "keys", "keep", "key"]) (sc := defScope s_Board_init) (by decide +kernel)) (fun _ _ _ _ _ => (pg_name (i := 3) sc_Board_init.nd rfl (Or.inl rfl))) (fun _ _ _ _ _ => pts_nil) (fun _ _ _ _ _ => pe_int))) rfl))))))), ?_⟩
  have h0 := Has.one hp nins
  refine ⟨_, rfl, _, _, rfl, rfl, _, rfl, iteP (decide_eq_true (by omega)) ⟨_, _, rfl, rfl, _, rfl, iteM (by simp; omega) ?_⟩⟩
  refine ⟨_, rfl, _, _, rfl, rfl, _, rfl, iteP (decide_eq_true (by omega)) ⟨_, _, rfl, rfl, _, rfl, iteM (by simp; omega) ?_⟩⟩
  refine rd_const (v := .int 0) (by rfl) hk8 (fun _ => rfl) (fun _ _ _ q => q) fun p1 H1 t1 => ?_
  have s1 := (show Tr H [(p, .ins C dx [])] H1 [(p1, .lst (List.replicate nk (.int 0))), (p, .ins C dx [])] from t1.right (D := [(p, .ins C dx [])])).swap2
  refine ⟨_, rfl, p, C, dx, [], rfl, (s1.now h0).head, CBoard.cl, CBoard.n1, (by show 0 < 1000; decide), ?_⟩
  have s2 := s1.put (o' := .ins C dx [("now", .ref p1)]) h0 nins
  refine ⟨_, rfl, _, rfl, p, C, dx, [("now", .ref p1)], rfl, (s2.now h0).head, CBoard.cl, CBoard.n2, (by show 1 < 1000; decide), ?_⟩
  have s3 := s2.put (o' := .ins C dx [("now", .ref p1), ("keep", .int keep)]) h0 nins
  refine ⟨(by show 0 ≤ sizeLine; decide), fun p2 hp2 => ?_⟩
  have s4 := (s3.new (o := .lst []) hp2 nl).swap2
  refine ⟨_, rfl, p, C, dx, [("now", .ref p1), ("keep", .int keep)], rfl, (s4.now h0).head, CBoard.cl, CBoard.n3, (by show 2 < 1000; decide), ?_⟩
  have s5 := s4.put (o' := .ins C dx [("now", .ref p1), ("keep", .int keep), ("rows", .ref p2)]) h0 nins
  refine ⟨_, rfl, p, C, dx, [("now", .ref p1), ("keep", .int keep), ("rows", .ref p2)], rfl, (s5.now h0).head, CBoard.cl, CBoard.n4, (by show 3 < 1000; decide), ?_⟩
  have s6 := s5.put (o' := .ins C dx [("now", .ref p1), ("keep", .int keep), ("rows", .ref p2), ("many", .int 0)]) h0 nins
  refine rd_const (v := .int 0) (by rfl) hk8 (fun _ => rfl) (fun _ _ _ q => q) fun p3 H3 t3 => ?_
  have s7 := (s6.trans (t3.right (D := [(p, .ins C dx [("now", .ref p1), ("keep", .int keep), ("rows", .ref p2), ("many", .int 0)]), (p2, .lst []), (p1, .lst (List.replicate nk (.int 0)))]))).swap2
  refine ⟨_, rfl, p, C, dx, [("now", .ref p1), ("keep", .int keep), ("rows", .ref p2), ("many", .int 0)], rfl, (s7.now h0).head, CBoard.cl, CBoard.n5, (by show 4 < 1000; decide), ?_⟩
  have s8 := s7.put (o' := .ins C dx [("now", .ref p1), ("keep", .int keep), ("rows", .ref p2), ("many", .int 0), ("last", .ref p3)]) h0 nins
  have e0 : ∀ n : Nat, (List.replicate n (0 : Int)).map V.int = List.replicate n (V.int 0) := fun n => List.map_replicate
  refine go ⟨p, dx, p1, p2, p3⟩ _ _ rfl ⟨[], ?_, by unfold tailL; rw [lets_nil, List.drop_nil]; exact .nil⟩ (s8.perm (List.Perm.cons _ (List.reverse_perm [(p1, HO.lst (List.replicate nk (V.int 0))), (p2, HO.lst []), (p3, HO.lst (List.replicate nk (V.int 0)))])))
  rw [wrow_nil, lrow_nil, e0]
  rfl
end
end Cu

namespace Cu
open PySem PySem.Spec PyProof.Rows L2
section
variable {P : Program} {w : World} {K : PySem.W.Frag} {mg : Str → Option Value} {base : Heap} {C : Addr}
theorem ok_Bchange (F : Md K C "change" "Board.change" s_Board_change) (Bm : Blt mg) (CBoard : CBo K C) : Mf P w K mg base 1 C "change" ["self", "key", "word", "worth"] (spBchange K C) := by
  refine F.ok sc_Board_change (fun _ _ _ _ _ _ us hl => match us, hl with | [_, _, _, _], _ => rfl) len_of fun qual f cdv A0 outer s H vs Q E hr h => ?_
  obtain ⟨_, B, nk, keep, cs, c, ch, rfl, r, hc, hk, hk8, hkp, go⟩ := h
  refine ⟨_, (pss_cons (ps_if (pt_not (pt_chain op_le op_lt pe_int (pv 1) (pe_callB call_len_seq rfl Bm.len (by decide +kernel) (pa_cons (pe_fld (pv 0) rfl) pa_nil))))
        (pss_one ps_never)
        pss_nil)
      (pss_cons (ps_if (pt_cmpR op_notIn_seq (pv 2) (pe_tup (pa_cons pe_str (pa_cons pe_str pa_nil))) (by rfl))
        (pss_one ps_never)
        pss_nil)
      (pss_cons (ps_fld (pv 0) (pe_op op_add (pe_fld (pv 0) rfl) pe_int) rfl)
      (pss_cons (ps_set (i := 4) sc_Board_change.nd rfl (Or.inl rfl) (pe_tup (pa_cons pe_str (pa_cons (pe_fld (pv 0) rfl) (pa_cons (pv 1) (pa_cons (pv 2) (pa_cons (pv 3) (pa_cons (pe_ix ix_list (pe_fld (pv 0) rfl) (pv 1) (fun _ _ => rfl)) pa_nil))))))))
      (pss_cons (ps_mid (ps_asg (pe_ifExp (pt_cmpR op_eq (pv 2) pe_str (nomark _)) (pv 3) (pe_op op_add (pe_ix ix_list (pe_fld (pv 0) rfl) (pv 1) (fun _ _ => rfl)) (pv 3))) (pg_sub (pe_fld (pv 0) rfl) (pv 1) set_list)))
      (pss_cons (ps_asg (pe_fld (pv 0) rfl) (pg_sub (pe_fld (pv 0) rfl) (pv 1) set_list))
      (pss_cons (ps_expr (pe_bm PySem.F.plainAttrs_list PySem.F.slot_list_append PySem.F.type_list_append mt_append (pe_fld (pv 0) rfl) (pa_cons (pv 4) pa_nil)))
      (pss_cons (ps_mid (ps_if (pt_cmpR op_gt (pe_callB call_len_seq rfl Bm.len (by decide +kernel) (pa_cons (pe_fld (pv 0) rfl) pa_nil)) (pe_fld (pv 0) rfl) (nomark _))
        (pss_one (ps_expr (pe_bm PySem.F.plainAttrs_list PySem.F.slot_list_pop PySem.F.type_list_pop mt_popAt (pe_fld (pv 0) rfl) (pa_cons pe_int pa_nil))))
        pss_nil))
      (pss_one (ps_ret (pv 4))))))))))), ?_⟩
  refine ⟨_, rfl, _, _, rfl, rfl, _, rfl, iteP (decide_eq_true (by omega)) ⟨_, rfl, _, C, _, _, _, rfl, r.at_p hc, CBoard.cl, CBoard.n1, bF1 B _ _, _, _, rfl, .inl (SqL.of (r.at1 hc)), _, _, rfl, rfl, _, rfl, iteM (by rw [List.length_map, wrow_len]; simp; omega) ?_⟩⟩
  refine ⟨_, rfl, ⟨(by show 2 ≤ sizeLine; decide), fun t1 ht1 => ⟨t1, _, rfl, .inr (SqT.of upd_same), rfl, rfl, _, rfl, iteM (by cases ch.set <;> decide +kernel) ?_⟩⟩⟩
  obtain ⟨xs, ec, rxs⟩ := r.ex
  subst ec
  have u0 := (Tr.refl H [(B.p, HO.ins C B.dx (bF B keep cs.length)), (B.l1, HO.lst ((wrow nk cs).map V.int)), (B.l2, HO.lst xs), (B.l3, HO.lst ((lrow nk cs).map V.int))]).old (o := .tup [V.str "set", .str "add"]) ht1
  have h0 := u0.now hc
  have n1 : ((cs.length : Int) + 1) = ((cs.length + 1 : Nat) : Int) := by omega
  refine ⟨_, rfl, _, C, _, _, _, rfl, h0.head, CBoard.cl, CBoard.n4, bF4 B _ _, _, _, rfl, rfl, _, rfl, B.p, C, B.dx, _, rfl, h0.head, CBoard.cl, CBoard.n4, (by show 5 < 1000; decide), ?_⟩
  have u1 := u0.put (o' := .ins C B.dx (bF B keep ((cs.length : Int) + 1))) hc nins
  have h1 := u1.now hc
  have gl : (lrow nk cs)[ch.key]? = some (lof cs ch.key : Int) := lrow_get hk
  have gw : (wrow nk cs)[ch.key]? = some (wof cs ch.key) := wrow_get hk
  -- letter
  refine ⟨_, rfl, _, C, _, _, _, rfl, h1.head, CBoard.cl, CBoard.n4, bF4 B _ _, _, rfl, _, rfl, _, rfl, _, rfl, _, C, _, _, _, rfl, h1.head, CBoard.cl, CBoard.n5, bF5 B _ _, _, rfl, _, _, _, _, rfl, rfl, SqL.of h1.tail.tail.tail.head, at_of (j := ch.key) rfl (by rw [List.getElem?_map, gl]; rfl), ⟨(by show 6 ≤ sizeLine; decide), fun tl htl => ?_⟩⟩
  have u2 := u1.old (o := .tup [V.str "change", .int ((cs.length : Int) + 1), .int ch.key, .str (wd ch.set), .int ch.worth, .int (lof cs ch.key)]) htl
  have h2 := u2.now hc
  have htl2 : (upd (upd (upd H t1 (.tup [V.str "set", .str "add"])) B.p (.ins C B.dx (bF B keep ((cs.length : Int) + 1)))) tl (.tup [V.str "change", .int ((cs.length : Int) + 1), .int ch.key, .str (wd ch.set), .int ch.worth, .int (lof cs ch.key)])) tl = some (HO.tup [V.str "change", .int ((cs.length : Int) + 1), .int ch.key, .str (wd ch.set), .int ch.worth, .int (lof cs ch.key)]) := upd_same
  -- self.now[key] = ..
  have ix1 : ∀ (g : List Int), g.length = nk → ixN (g.map V.int).length (ch.key : Int) = some ch.key := fun g e => ixN_nat (by rw [List.length_map, e]; exact hk)
  have ew : (wrow nk (cs ++ [ch])).map V.int = ((wrow nk cs).map V.int).set ch.key (.int (wst ch.key (wof cs ch.key) ch)) := by rw [wrow_snoc, List.map_set]
  have el : (lrow nk (cs ++ [ch])).map V.int = ((lrow nk cs).map V.int).set ch.key (.int ((cs.length + 1 : Nat) : Int)) := by rw [lrow_snoc, List.map_set]
  refine rd_mid (fun σ' H' => σ' = [some (.ref B.p), some (.int ch.key), some (.str (wd ch.set)), some (.int ch.worth), some (.ref tl)] ∧ H' = upd (upd (upd (upd H t1 (.tup [V.str "set", .str "add"])) B.p (.ins C B.dx (bF B keep ((cs.length : Int) + 1)))) tl (.tup [V.str "change", .int ((cs.length : Int) + 1), .int ch.key, .str (wd ch.set), .int ch.worth, .int (lof cs ch.key)])) B.l1 (.lst ((wrow nk (cs ++ [ch])).map V.int))) ?_ ?_
  · refine ⟨_, rfl, rfl, _, rfl, ite2 (fun hs => ?_) fun hs => ?_⟩
    · rw [wdS] at hs
      refine ⟨_, rfl, _, rfl, _, C, _, _, _, rfl, h2.head, CBoard.cl, CBoard.n1, bF1 B _ _, _, rfl, _, _, _, _, rfl, rfl, h2.tail.head, ix1 _ (wrow_len nk cs), rfl, ?_⟩
      exact congrArg (fun z => upd _ _ (HO.lst z)) (by rw [ew, wst, if_pos rfl, if_pos hs, Int.zero_add])
    · rw [wdS] at hs
      refine ⟨_, rfl, _, C, _, _, _, rfl, h2.head, CBoard.cl, CBoard.n1, bF1 B _ _, _, rfl, _, _, _, _, rfl, rfl, SqL.of h2.tail.head, at_of (j := ch.key) rfl (by rw [List.getElem?_map, gw]; rfl), _, rfl, _, _, rfl, rfl, ?_⟩
      refine ⟨_, rfl, _, C, _, _, _, rfl, h2.head, CBoard.cl, CBoard.n1, bF1 B _ _, _, rfl, _, _, _, _, rfl, rfl, h2.tail.head, ix1 _ (wrow_len nk cs), rfl, ?_⟩
      exact congrArg (fun z => upd _ _ (HO.lst z)) (by rw [ew, wst, if_pos rfl, if_neg hs])
  rintro _ _ ⟨rfl, rfl⟩
  have u3 := (u2.swap2.put (o' := .lst ((wrow nk (cs ++ [ch])).map V.int)) hc nl).swap2
  have h3 := u3.now hc
  -- self.last[key] = self.many
  refine ⟨_, rfl, _, C, _, _, _, rfl, h3.head, CBoard.cl, CBoard.n4, bF4 B _ _, _, rfl, _, C, _, _, _, rfl, h3.head, CBoard.cl, CBoard.n5, bF5 B _ _, _, rfl, _, _, _, _, rfl, rfl, h3.tail.tail.tail.head, ix1 _ (lrow_len nk cs), ?_⟩
  have u4 := ((u3.perm (List.reverse_perm _).symm).put (o' := .lst (((lrow nk cs).map V.int).set ch.key (.int ((cs.length : Int) + 1)))) hc nl).perm (List.reverse_perm _).symm
  have h4 := u4.now hc
  -- self.rows.append(letter)
  have hxs : xs.length ≤ 20 := by
    rw [rxs.length, List.length_map, tailL_len]
    omega
  refine ⟨_, rfl, _, C, _, _, _, rfl, h4.head, CBoard.cl, CBoard.n3, bF3 B _ _, .inl ⟨rfl, _, SqL.of h4.tail.tail.head⟩, _, rfl, _, _, _, rfl, rfl, h4.tail.tail.head, small1000 (by omega), ?_⟩
  have u5 := ((((u4.perm (List.reverse_perm _).symm).swap2.put (o' := .lst (xs ++ [.ref tl])) hc nl).swap2).perm (List.reverse_perm _).symm)
  have h5 := u5.now hc
  have m25 := ((h2.swap2.mono_put (o' := .lst ((wrow nk (cs ++ [ch])).map V.int))).trans ((h3.perm (List.reverse_perm _).symm).mono_put (o' := .lst (((lrow nk cs).map V.int).set ch.key (.int ((cs.length : Int) + 1)))))).trans ((h4.perm (List.reverse_perm _).symm).swap2.mono_put (o' := .lst (xs ++ [.ref tl])))
  have htl5 := m25 tl _ htl2 trivial
  have rl := Rp.tup (K := K) (ds := [.str "change", .int ((cs.length + 1 : Nat) : Int), .int ch.key, .str (wd ch.set), .int ch.worth, .int (lof cs ch.key)]) htl5 (by
    rw [← n1]
    exact .cons .str (.cons .int (.cons .int (.cons .str (.cons .int (.cons .int .nil))))))
  have rxs5 := (rxs.mono u5.mono).snoc rl
  have e5 : (tailL keep cs).map Letter.enc ++ [PyData.tuple [.str "change", .int ((cs.length + 1 : Nat) : Int), .int ch.key, .str (wd ch.set), .int ch.worth, .int (lof cs ch.key)]] = (tailL keep cs ++ [Letter.change (cs.length + 1) ch (lof cs ch.key)]).map Letter.enc := by
    rw [List.map_append]
    rfl
  rw [e5] at rxs5
  have hx5 : xs.length = min cs.length keep := by rw [rxs.length, List.length_map, tailL_len]
  have efin : ∀ (ys : List V) (H' : Hp), Tr H [(B.p, HO.ins C B.dx (bF B keep cs.length)), (B.l1, HO.lst ((wrow nk cs).map V.int)), (B.l2, HO.lst xs), (B.l3, HO.lst ((lrow nk cs).map V.int))] H'
      [(B.p, HO.ins C B.dx (bF B keep ((cs.length : Int) + 1))), (B.l1, HO.lst ((wrow nk (cs ++ [ch])).map V.int)), (B.l2, HO.lst ys), (B.l3, HO.lst (((lrow nk cs).map V.int).set ch.key (.int ((cs.length : Int) + 1))))] →
      RpL K H' ((tailL keep (cs ++ [ch])).map Letter.enc) ys → Rp K H' (Letter.change (cs.length + 1) ch (lof cs ch.key)).enc (.ref tl) → Q (.ref tl) H' := fun ys H' u q ql => by
    refine go _ _ H' ⟨ys, ?_, q⟩ u ql
    rw [n1, ← el, List.length_append]
    rfl
  refine rd_mid (fun σ' H' => σ' = [some (.ref B.p), some (.int ch.key), some (.str (wd ch.set)), some (.int ch.worth), some (.ref tl)] ∧ Q (.ref tl) H') ?_ ?_
  · refine ⟨_, rfl, _, C, _, _, _, rfl, h5.head, CBoard.cl, CBoard.n3, bF3 B _ _, _, _, rfl, .inl (SqL.of h5.tail.tail.head), _, rfl, _, C, _, _, _, rfl, h5.head, CBoard.cl, CBoard.n2, bF2 B _ _, _, _, rfl, rfl, _, rfl, ite2 (fun h0 => ?_) fun h0 => ?_⟩
    · have hgt := of_decide_eq_true h0
      rw [List.length_append, List.length_singleton] at hgt
      obtain ⟨y, ys, ey⟩ : ∃ y ys, xs ++ [V.ref tl] = y :: ys := by
        cases xs with
        | nil => exact ⟨_, _, rfl⟩
        | cons a b => exact ⟨_, _, rfl⟩
      refine ⟨_, rfl, _, C, _, _, _, rfl, h5.head, CBoard.cl, CBoard.n3, bF3 B _ _, .inl ⟨rfl, _, SqL.of h5.tail.tail.head⟩, B.l2, _, 0, 0, y, rfl, rfl, h5.tail.tail.head, by decide, by decide, (by rw [List.length_append, List.length_singleton]; simp [seqIndex?]), (by rw [ey]; rfl), rfl, ?_⟩
      have u6 := ((((u5.perm (List.reverse_perm _).symm).swap2.put (o' := .lst ((xs ++ [V.ref tl]).eraseIdx 0)) hc nl).swap2).perm (List.reverse_perm _).symm)
      have m6 := (h5.perm (List.reverse_perm _).symm).swap2.mono_put (o' := .lst ((xs ++ [V.ref tl]).eraseIdx 0))
      refine efin _ _ u6 ?_ (rl.mono m6)
      have ed : (xs ++ [V.ref tl]).drop 1 = (xs ++ [V.ref tl]).eraseIdx 0 := by rw [List.eraseIdx_zero, List.drop_one]
      have q := (rxs5.drop 1).mono m6
      rw [ed] at q
      rw [tailL_snoc, if_neg (by omega), List.map_drop]
      exact q
    · have hle : ¬ ((keep : Int) < ((xs ++ [V.ref tl]).length : Nat)) := fun q => h0 (decide_eq_true q)
      rw [List.length_append, List.length_singleton] at hle
      refine ⟨rfl, efin _ _ u5 ?_ rl⟩
      rw [tailL_snoc, if_pos (by omega)]
      exact rxs5
  rintro _ H9 ⟨rfl, q⟩
  exact ⟨_, rfl, q⟩
end
end Cu

namespace Cu
open PySem PySem.Spec PyProof.Rows L2
section
variable {P : Program} {w : World} {K : PySem.W.Frag} {mg : Str → Option Value} {base : Heap} {C : Addr}
theorem ok_Hinit {tk : Tok} (F : Kd K mg "Hearer" C "Hearer.__init__" s_Hearer_init) (Bm : Blt mg) (CHearer : CHr K C) (km_MOST_KEYS : mg "MOST_KEYS" = some (.int 8 tk)) : Kf P w K mg base 1 "Hearer" C ["self", "keys"] (spHinit K C) := by
  refine F.ok sc_Hearer_init (fun _ _ _ _ _ _ us hl => match us, hl with | [_, _], _ => rfl) len_of fun qual f cdv A0 outer s H vs Q E hr h => ?_
  obtain ⟨_, p, dx, nk, rfl, hk, hk8, hp, k⟩ := h
  refine ⟨_, (pss_cons (ps_if (pt_not (pt_chain op_le op_le pe_int (pv 1) (pe_glob (v := .int 8) rfl km_MOST_KEYS ⟨_, rfl⟩)))
        (pss_one ps_never)
        pss_nil)
      (pss_cons (ps_fld (pv 0) (pe_I (pe_lc (own := [("key", 2)]) (g := (gName 2)) (tt := tYes) rfl sc_Hearer_init.nd (pi_range1 rfl Bm.range (pa_cons (pv 1) pa_nil)) (blkOk_by (N := ["self", "keys", "key"]) (sc := defScope s_Hearer_init) (by decide +kernel)) (fun _ _ _ _ _ => (pg_name (i := 2) sc_Hearer_init.nd rfl (Or.inl rfl))) (fun _ _ _ _ _ => pts_nil) (fun _ _ _ _ _ => pe_int))) rfl)
      (pss_cons (ps_fld (pv 0) (pe_I (pe_lc (own := [("key", 2)]) (g := (gName 2)) (tt := tYes) rfl sc_Hearer_init.nd (pi_range1 rfl Bm.range (pa_cons (pv 1) pa_nil)) (blkOk_by (N := ["self", "keys", "key"]) (sc := defScope s_Hearer_init) (by decide +kernel)) (fun _ _ _ _ _ => (pg_name (i := 2) sc_Hearer_init.nd rfl (Or.inl rfl))) (fun _ _ _ _ _ => pts_nil) (fun _ _ _ _ _ => pe_int))) rfl)
      (pss_cons (ps_fld (pv 0) (pe_I (pe_lc (own := [("key", 2)]) (g := (gName 2)) (tt := tYes) rfl sc_Hearer_init.nd (pi_range1 rfl Bm.range (pa_cons (pv 1) pa_nil)) (blkOk_by (N := ["self", "keys", "key"]) (sc := defScope s_Hearer_init) (by decide +kernel)) (fun _ _ _ _ _ => (pg_name (i := 2) sc_Hearer_init.nd rfl (Or.inl rfl))) (fun _ _ _ _ _ => pts_nil) (fun _ _ _ _ _ => (pe_un un_neg pe_int)))) rfl)
      (pss_one (ps_fld (pv 0) (pe_lc (own := [("key", 2)]) (g := (gName 2)) (tt := tYes) rfl sc_Hearer_init.nd (pi_range1 rfl Bm.range (pa_cons (pv 1) pa_nil)) (blkOk_by (N := ["self", "keys", "key"]) (sc := defScope s_Hearer_init) (by decide +kernel)) (fun _ _ _ _ _ => (pg_name (i := 2) sc_Hearer_init.nd rfl (Or.inl rfl))) (fun _ _ _ _ _ => pts_nil) (fun _ _ _ _ _ => pe_dnewK)) rfl)))))), ?_⟩
  have h0 := Has.one hp nins
  refine ⟨_, rfl, _, _, rfl, rfl, _, rfl, iteP (decide_eq_true (by omega)) ⟨_, _, rfl, rfl, _, rfl, iteM (by simp; omega) ?_⟩⟩
  refine rd_const (v := .int 0) (by rfl) hk8 (fun _ => rfl) (fun _ _ _ q => q) fun p1 H1 t1 => ?_
  have s1 := (show Tr H [(p, .ins C dx [])] H1 [(p1, .lst (List.replicate nk (.int 0))), (p, .ins C dx [])] from t1.right (D := [(p, .ins C dx [])])).swap2
  have e1 : ((0 : Nat) : Int) = 0 := rfl
  refine ⟨_, rfl, p, C, dx, [], rfl, (s1.now h0).head, CHearer.cl, CHearer.n1, (by show 0 < 1000; decide), ?_⟩
  have s2 := s1.put (o' := .ins C dx [("worth", .ref p1)]) h0 nins
  refine rd_const (v := .int 0) (by rfl) hk8 (fun _ => rfl) (fun _ _ _ q => q) fun p2 H2 t2 => ?_
  have s3 := (s2.trans (t2.right (D := [(p, .ins C dx [("worth", .ref p1)]), (p1, .lst (List.replicate nk (.int 0)))]))).swap2
  refine ⟨_, rfl, p, C, dx, [("worth", .ref p1)], rfl, (s3.now h0).head, CHearer.cl, CHearer.n2, (by show 1 < 1000; decide), ?_⟩
  have s4 := s3.put (o' := .ins C dx [("worth", .ref p1), ("since", .ref p2)]) h0 nins
  refine rd_const (v := .int (-1)) (by rfl) hk8 (fun _ => rfl) (fun _ _ _ q => ⟨_, rfl, q⟩) fun p3 H3 t3 => ?_
  have s5 := (s4.trans (t3.right (D := [(p, .ins C dx [("worth", .ref p1), ("since", .ref p2)]), (p2, .lst (List.replicate nk (.int 0))), (p1, .lst (List.replicate nk (.int 0)))]))).swap2
  refine ⟨_, rfl, p, C, dx, [("worth", .ref p1), ("since", .ref p2)], rfl, (s5.now h0).head, CHearer.cl, CHearer.n3, (by show 2 < 1000; decide), ?_⟩
  have s6 := s5.put (o' := .ins C dx [("worth", .ref p1), ("since", .ref p2), ("upto", .ref p3)]) h0 nins
  refine ⟨_, rfl, _, rfl, by omega, by omega, fun D hD => ?_⟩
  refine lc_range (lo := 0) (n := (nk : Int).toNat) (fun m H4 => ∃ ds : List Addr, ds.length = m ∧ Tr H [(p, .ins C dx [])] H4 ((D, .lst (ds.map V.ref)) :: (p, HO.ins C dx [("worth", V.ref p1), ("since", V.ref p2), ("upto", V.ref p3)]) :: (ds.map (fun d => (d, HO.dK [])) ++ [(p3, HO.lst (List.replicate nk (V.int (-1)))), (p2, HO.lst (List.replicate nk (V.int 0))), (p1, HO.lst (List.replicate nk (V.int 0)))])))
    ⟨[], rfl, s6.new hD nl⟩ ?_ ?_
  · rintro m H4 hm ⟨ds, hl, t⟩
    refine ⟨rfl, fun d hd => ⟨_, by rw [upd_ne (ne_of_none (t.now h0).head hd)]; exact (t.now h0).head, by rw [List.length_map, hl]; exact small1000 (by omega), ds ++ [d], by rw [List.length_append, hl]; rfl, ?_⟩⟩
    have t2 := (t.new (o := .dK []) hd ndk).swap2.put (o' := .lst (ds.map V.ref ++ [.ref d])) h0 nl
    rw [List.map_append, List.map_append]
    refine t2.perm (List.Perm.cons _ ?_)
    have : ((d, HO.dK []) :: (p, HO.ins C dx [("worth", .ref p1), ("since", .ref p2), ("upto", .ref p3)]) :: (ds.map (fun d => (d, HO.dK [])) ++ [(p3, HO.lst (List.replicate nk (V.int (-1)))), (p2, HO.lst (List.replicate nk (V.int 0))), (p1, HO.lst (List.replicate nk (V.int 0)))])).Perm
        ((p, HO.ins C dx [("worth", .ref p1), ("since", .ref p2), ("upto", .ref p3)]) :: ((d, HO.dK []) :: (ds.map (fun d => (d, HO.dK [])) ++ [(p3, HO.lst (List.replicate nk (V.int (-1)))), (p2, HO.lst (List.replicate nk (V.int 0))), (p1, HO.lst (List.replicate nk (V.int 0)))]))) := List.Perm.swap _ _ _
    refine this.trans (List.Perm.cons _ ?_)
    rw [List.append_assoc]
    exact List.perm_middle.symm
  · rintro H4 ⟨ds, hl, t⟩
    rw [Int.toNat_natCast] at hl
    refine ⟨_, rfl, p, C, dx, [("worth", .ref p1), ("since", .ref p2), ("upto", .ref p3)], rfl, (t.now h0).tail.head, CHearer.cl, CHearer.n4, (by show 3 < 1000; decide), ?_⟩
    have t2 := t.swap2.put (o' := .ins C dx [("worth", .ref p1), ("since", .ref p2), ("upto", .ref p3), ("aside", .ref D)]) h0 nins
    refine k ⟨p, dx, p1, p2, p3, D, ds⟩ _ _ rfl ⟨List.replicate nk [], rfl, by rw [List.length_replicate]; exact hl, by rw [List.length_replicate, List.length_replicate], fun j h kvs e1 e2 => ?_⟩ (t2.perm (List.Perm.cons _ ?_))
    · rw [List.getElem?_replicate] at e1 e2
      by_cases hj : j < nk
      · rw [if_pos hj] at e1 e2
        cases e1
        cases e2
        rfl
      · rw [if_neg hj] at e1
        cases e1
    · have ez : List.zipWith (fun d k => (d, HO.dK k)) ds (List.replicate nk []) = ds.map fun d => (d, HO.dK []) := by
        apply List.ext_getElem?
        intro j
        rw [List.getElem?_zipWith, List.getElem?_map, List.getElem?_replicate]
        by_cases hj : j < nk
        · rw [if_pos hj]
          cases ds[j]? <;> rfl
        · rw [if_neg hj, List.getElem?_eq_none (by omega)]
          rfl
      simp only [List.map_replicate, HK.ini]
      rw [ez]
      show ((D, HO.lst (ds.map V.ref)) :: ds.map (fun d => (d, HO.dK [])) ++ [(p3, _), (p2, _), (p1, _)]).Perm ([(p1, _), (p2, _), (p3, _)] ++ ((D, HO.lst (ds.map V.ref)) :: ds.map (fun d => (d, HO.dK []))))
      refine List.perm_append_comm.trans (List.Perm.append_right _ ?_)
      exact (List.reverse_perm _).symm
end
end Cu

namespace Cu
open PySem PySem.Spec PyProof.Rows L2
abbrev s_made : Stmt := (top 36)
theorem sc_made : FnScope ["_law_keys", "_law_keep", "_law_changes_here", "_law_board", "_law_key", "_law_word", "_law_worth_here"] ["_law_keys", "_law_keep", "_law_changes_here"] (defScope s_made) := ⟨rfl, rfl, rfl, by decide +kernel, rfl, by decide +kernel, by decide +kernel⟩

def spMade (K : PySem.W.Frag) (C : Addr) : Sp := fun vs H Q _ => vs.length = 3 ∧ ∃ (nk keep : Nat) (cs : List Ch) (v : V), vs = [.int nk, .int keep, v] ∧ 0 < nk ∧ nk ≤ 8 ∧ keep ≤ 20 ∧ (∀ c ∈ cs, c.key < nk) ∧ Rp K H (.list (cs.map Ch.enc)) v ∧
  ∀ (B : BA) (c : Lg) (H' : Hp), BR K C B nk keep cs H' c → Tr H [] H' c → Q (.ref B.p) H'
theorem mk_trB {H : Hp} {x dx C : Addr} (h1 : H x = none) (h2 : H dx = none) (n : dx ≠ x) : Tr H [] (upd (upd H dx (.own x)) x (.ins C dx [])) [(x, .ins C dx [])] :=
  ((Tr.refl H []).old h2).new (by rw [upd_ne n.symm]; exact h1) nins
section
variable {P : Program} {w : World} {K : PySem.W.Frag} {mg : Str → Option Value} {base : Heap} {C : Addr}
theorem ok_made (F : Fd K mg "_law_made" s_made) (Bm : Blt mg) (CBoard : CBo K C) (k_Board : Kf P w K mg base 1 "Board" C ["self", "keys", "keep"] (spBinit K C)) (m_Board_change : Mf P w K mg base 1 C "change" ["self", "key", "word", "worth"] (spBchange K C)) :
    Gf P w K mg base 3 "_law_made" ["_law_keys", "_law_keep", "_law_changes_here"] (spMade K C) := by
  refine F.ok sc_made (fun _ _ _ _ _ _ us hl => match us, hl with | [_, _, _], _ => rfl) len_of fun qual f cdv A0 outer s H vs Q E hr h => ?_
  obtain ⟨_, nk, keep, cs, v, rfl, hk, hk8, hkp, hck, rv, go⟩ := h
  obtain ⟨al, xl, rfl, fl, rxl⟩ := rv.lst_inv
  have hxl : xl.length = cs.length := by rw [rxl.length, List.length_map]
  refine ⟨_, (pss_cons (ps_set (i := 3) sc_made.nd rfl (Or.inl rfl) (pk k_Board hr (pa_cons (pv 0) (pa_cons (pv 1) pa_nil))))
      (pss_cons (ps_for PassesOwn.never rfl (pi_list (pv 2)) (pg_tup rfl (pgs_cons (pg_name (i := 4) sc_made.nd rfl (Or.inl rfl)) (pgs_cons (pg_name (i := 5) sc_made.nd rfl (Or.inl rfl)) (pgs_cons (pg_name (i := 6) sc_made.nd rfl (Or.inl rfl)) pgs_nil))))
        (pss_one (ps_expr (pm (pv 3) CBoard.cl m_Board_change hr (pa_cons (pv 4) (pa_cons (pv 5) (pa_cons (pv 6) pa_nil)))))))
      (pss_one (ps_ret (pv 3))))), ?_⟩
  refine ⟨_, rfl, _, rfl, fun x1 dx1 hx1 hd1 hn1 => ?_⟩
  have t3 := mk_trB (C := C) hx1 hd1 hn1
  refine ⟨rfl, x1, dx1, nk, keep, rfl, hk, hk8, hkp, upd_same, fun B c1 H3 e1 R1 u3 => ⟨rfl, ?_⟩⟩
  subst e1
  have t4 := t3.trans u3
  refine ⟨_, rfl, al, rfl, ⟨_, (fl.mono t4.mono).sq⟩, for_list (K := K) (a := al) (xs := xl) (fun i σ H2 => ∃ (c : Lg) (v4 v5 v6 : Option V), σ = [some (.int nk), some (.int keep), some (.ref al), some (.ref B.p), v4, v5, v6] ∧ BR K C B nk keep (cs.take i) H2 c ∧ Tr H [] H2 c)
    ⟨c1, none, none, none, rfl, R1, t4⟩ (fun i σ H2 _ ⟨_, _, _, _, _, _, t⟩ => (fl.mono t.mono).sq) ?_ ?_⟩
  · rintro i x σ H2 hi ⟨c, v4, v5, v6, rfl, r, t⟩
    have hi' : i < cs.length := by
      have := (List.getElem?_eq_some_iff.mp hi).1
      omega
    obtain ⟨ch, ec⟩ : ∃ ch, cs[i]? = some ch := ⟨cs[i], List.getElem?_eq_getElem hi'⟩
    obtain ⟨u, eu, ru⟩ := (rxl.mono t.mono).get (i := i) (d := ch.enc) (by rw [List.getElem?_map, ec]; rfl)
    rw [hi] at eu
    cases eu
    obtain ⟨ac, rfl, hac⟩ := ru.ch_inv
    refine ⟨ac, _, rfl, SqT.of hac, rfl, _, _, rfl, _, _, rfl, _, _, rfl, rfl, ?_⟩
    refine ⟨_, rfl, B.p, _, _, rfl, r.at_p t.own, bFno, _, rfl, _, rfl, _, rfl, rfl, B, nk, keep, cs.take i, c, ch, rfl, r, t.own, hck ch (List.mem_of_getElem? ec), hk8, hkp, fun v c' H' r' t' _ => ?_⟩
    exact ⟨c', _, _, _, rfl, by rw [take_snoc ec]; exact r', t.trans t'⟩
  · rintro σ H2 ⟨c, v4, v5, v6, rfl, r, t⟩
    rw [List.take_of_length_le (by omega)] at r
    exact ⟨_, rfl, go B c H2 r t⟩
end
end Cu

namespace Cu
open PySem PySem.Spec PyProof.Rows L2
open LamX (CodeO ExtN Tabs)
abbrev lamQ : Str := (("law" : Str) ++ (".<locals>." : Str)) ++ ("<lambda>" : Str)
abbrev nm01 : List Str := ["_law_script", "_law_d", "_law_far", "_law_keys", "_law_keep", "_law_changes_here", "_law_board", "_law_key", "_law_works", "_law_word", "_law_low", "_law_some", "_law_begin", "_law_end", "_law_known_here", "_law_bad", "_law_at", "_law_wide", "_law_rows", "_law_letters", "_law_work"]
abbrev s_law : Stmt := (top 40)
theorem sc_law : FnScope ["_law_script", "_law_d", "_law_far", "_law_keys", "_law_keep", "_law_changes_here", "_law_board", "_law_key", "_law_works", "_law_word", "_law_low", "_law_some", "_law_begin", "_law_end", "_law_known_here", "_law_bad", "_law_at", "_law_wide", "_law_rows", "_law_letters", "_law_work"] ["_law_script"] (defScope s_law) := ⟨rfl, rfl, rfl, by decide +kernel, rfl, by decide +kernel, by decide +kernel⟩

/-- the script's list, and the tables of the two defs that make lambdas -/
def spLawT2 (K : PySem.W.Frag) (P P2 : Addr) : Sp := fun vs H Q _ => vs.length = 1 ∧ ∃ (a : Addr) (ns : List Int), vs = [.ref a] ∧ ns.length ≤ 63 ∧ SqL K H a (ns.map V.int) ∧ P ≠ P2 ∧ H P = some (.tbl #[]) ∧ H P2 = some (.tbl #[]) ∧ ∀ H', Q (.bl true) H'
theorem rd_scr2 {K : PySem.W.Frag} {H : Hp} {a P1 P2 : Addr} {i : Nat} {σ : L2.St} {xs : List V} {ps qs : Array Value} {Q : VK} (hv : σ[i]? = some (some (.ref a))) (hS : SqL K H a xs) (h1 : H P1 = some (.tbl ps)) (h2 : H P2 = some (.tbl qs))
    (k : ∀ H0, FzL K H0 a xs → H0 P1 = some (.tbl ps) → H0 P2 = some (.tbl qs) → Q (.ref a) H0) : tFzw (tVar i) σ H Q := by
  refine rd_fzw ⟨_, hv, ?_⟩
  rcases sq_fz hS with hF | hL
  · exact .inl (k H hF h1 h2)
  · have off : ∀ {p : Addr} {q : Array Value}, H p = some (.tbl q) → p ≠ a := fun e z => by
      rw [z, hL] at e
      cases e
    exact .inr ⟨a, xs, hL, fun o => k _ FzL.frz (by rw [upd_ne (off h1)]; exact h1) (by rw [upd_ne (off h2)]; exact h2)⟩
/-- begin and end of a part that there isn't -/
def PartNo (H : Hp) (nk : Nat) (x : V) : Prop := ∃ (t : Addr) (b e : Int), x = .ref t ∧ H t = some (.tup [.int b, .int e]) ∧ ¬ (0 ≤ b ∧ b < e ∧ e ≤ nk)
theorem PartNo.mono {H H' : Hp} {nk : Nat} {x : V} (c : PartNo H nk x) (m : Mono H H') : PartNo H' nk x :=
  let ⟨t, b, e, h1, h2, h3⟩ := c
  ⟨t, b, e, h1, m _ _ h2 trivial, h3⟩
/-- prices, another count of them -/
def WideOk (K : PySem.W.Frag) (H : Hp) (nk : Nat) (x : V) : Prop := ∃ (p : Addr) (zs : List Int), x = .ref p ∧ FzL K H p (zs.map V.int) ∧ zs.length ≠ nk
theorem WideOk.mono {K : PySem.W.Frag} {H H' : Hp} {nk : Nat} {x : V} (c : WideOk K H nk x) (m : Mono H H') : WideOk K H' nk x :=
  let ⟨p, zs, e, f, n⟩ := c
  ⟨p, zs, e, f.mono m, n⟩
theorem rd_zer {K : PySem.W.Frag} {σ : L2.St} {H : Hp} {Q : VK} {te : TE} {z : Int} {nk : Nat} (h0 : 0 ≤ z) (h1 : z ≤ 1000) (hn : z ≠ nk) (he : ∀ (H1 : Hp) (Q1 : VK), Q1 (.int z) H1 → te σ H1 Q1) (q : ∀ x H', Grow H H' → WideOk K H' nk x → Q x H') :
    tFz (tOp rRep (tLst (tCons (tC (.int 0)) tNil)) te) σ H Q := by
  refine rd_fz ?_
  refine ⟨(by show 1 ≤ sizeLine; decide), fun p1 hp1 => he _ _ ⟨p1, z, _, rfl, rfl, upd_same, by omega, by omega, ?_, fun p2 hp2 => ⟨_, _, rfl, upd_same, fun o => ?_⟩⟩⟩
  · show 1 * z.toNat ≤ sizeLine
    exact Nat.le_trans (show 1 * z.toNat ≤ 1000 by omega) (by decide)
  · rw [rep_flatI]
    exact q _ _ ((Grow.new hp1).nfz hp2) ⟨p2, List.replicate z.toNat 0, rfl, FzL.frz, by rw [List.length_replicate]; omega⟩
section
variable {P : Program} {w : World} {K : PySem.W.Frag} {mg : Str → Option Value} {base : Heap} {C CB c_law P_law P_counted : Addr}
set_option maxHeartbeats 20000000 in
theorem ok_law {f : Addr} {fd : FuncData} (F : Fun K "law" "law" s_law f fd) (Bm : Blt mg) (hcode : fd.code = .ref c_law) (TBl : LamX.TabB base mg c_law P_law) (F_told : Fd K mg "_law_told" s_told) (nValueError : mg "ValueError" = none) (Gs : Kx mg) (CBoard : CBo K CB) (CHearer : CHr K C)
    (XBadKnown : Xc K Gs.cBadKnown "key") (XBadText : Xc K Gs.cBadText "place") (xo_NoKey : XOf K Gs Gs.cNoKey 1) (xo_BadChange : XOf K Gs Gs.cBadChange 2) (xo_BadPart : XOf K Gs Gs.cBadPart 3) (xo_BadKnown : XOf K Gs Gs.cBadKnown 4) (xo_BadPrices : XOf K Gs Gs.cBadPrices 5)
    (g_dice : Gf P w K mg base 1 "_law_dice" ["_law_script"] (spDice K)) (g_next : Gf P w K mg base 1 "_law_next" ["_law_dice_here", "_law_many"] (spNext K)) (g_counted : Gf P w K mg base 5 "_law_counted" ["_law_d", "_law_far"] (spCounted K P_counted)) (g_counts : Gf P w K mg base 2 "_law_counts" ["_law_d"] (spCounts K))
    (g_changes : Gf P w K mg base 3 "_law_changes" ["_law_d", "_law_keys", "_law_most"] (spChanges K)) (g_made : Gf P w K mg base 3 "_law_made" ["_law_keys", "_law_keep", "_law_changes_here"] (spMade K CB)) (k_Hearer : Kf P w K mg base 1 "Hearer" C ["self", "keys"] (spHinit K C))
    (m_Board_changeX : Mfx P w K mg base 1 CB "change" ["self", "key", "word", "worth"] (spBchgX K CB Gs.cNoKey Gs.cBadChange)) (m_Board_partX : Mfx P w K mg base 1 CB "part" ["self", "begin", "end"] (spBpartX K CB Gs.cBadPart)) (m_Hearer_lookX : Mfx P w K mg base 1 C "look" ["self", "key"] (spLookX K C Gs.cNoKey))
    (g_known : Gf P w K mg base 2 "_law_known" ["_law_d", "_law_keys", "_law_number"] (spLknown K)) (g_unknown : Gf P w K mg base 2 "_law_unknown" ["_law_d", "_law_board", "_law_known_here", "_law_far"] (spUnknown K CB)) (m_Board_number : Mf P w K mg base 1 CB "number" ["self"] (spBnumber K CB))
    (g_answer : Gx P w K mg base 4 "answer" ["board", "known"] (spAnsX K CB Gs.cBadKnown)) (g_prices : Gx P w K mg base 4 "prices" ["board", "known"] (spAnsX K CB Gs.cBadKnown)) (g_shows : Gx P w K mg base 4 "shows" ["board", "known", "told"] (spShowsX K CB Gs.cBadKnown Gs.cBadPrices))
    (g_story : Gf P w K mg base 1 "_law_story" ["_law_keys", "_law_changes_here"] (spStory K)) (m_Board_worths : Mf P w K mg base 1 CB "worths" ["self"] (spBworths K CB)) (m_Board_size : Mf P w K mg base 1 CB "size" ["self"] (spBsize K CB)) (g_like : Gf P w K mg base 4 "_law_like" ["_law_found", "_law_due"] (spLike K 4)) :
    FnOk P w K mg base CX0 7 f fd ["_law_script"] (spLawT2 K P_law P_counted) := by
  refine Cu.Fun.okC F hcode sc_law len_of fun A0 outer s H vs Q E hr h => ?_
  obtain ⟨_, c, ns, rfl, hns, hS, hPne, hP, hPc, go⟩ := h
  refine ⟨_, (pss_cons (ps_set (i := 1) sc_law.nd rfl (Or.inr rfl) (pc g_dice hr (pa_cons (pe_fzw (pv 0)) pa_nil)))
      (pss_cons (ps_set (i := 2) sc_law.nd rfl (Or.inl rfl) (pe_op op_add pe_int (pc g_next hr (pa_cons (pv 1) (pa_cons (pe_op op_pow pe_int pe_int) pa_nil)))))
      (pss_cons (ps_if (pt_not (pt_val (pc g_counted hr (pa_cons (pv 1) (pa_cons (pv 2) pa_nil)))))
        (pss_one (ps_ret pe_bl))
        pss_nil)
      (pss_cons (ps_asg (pc g_counts hr (pa_cons (pv 1) pa_nil)) (pg_tup rfl (pgs_cons (pg_name (i := 3) sc_law.nd rfl (Or.inr rfl)) (pgs_cons (pg_name (i := 4) sc_law.nd rfl (Or.inl rfl)) pgs_nil))))
      (pss_cons (ps_set (i := 5) sc_law.nd rfl (Or.inl rfl) (pc g_changes hr (pa_cons (pv 1) (pa_cons (pv 3) (pa_cons pe_int pa_nil)))))
      (pss_cons (ps_set (i := 6) sc_law.nd rfl (Or.inr rfl) (pc g_made hr (pa_cons (pv 3) (pa_cons (pv 4) (pa_cons (pv 5) pa_nil)))))
      (pss_cons (ps_set (i := 7) sc_law.nd rfl (Or.inr rfl) (pe_ix ix_list (pe_lst (pa_cons (pe_un un_neg pe_int) (pa_cons (pv 3) (pa_cons (pe_un un_neg (pv 2)) (pa_cons (pe_op op_add (pv 3) (pv 2)) pa_nil))))) (pc g_next hr (pa_cons (pv 1) (pa_cons pe_int pa_nil))) (fun _ _ => rfl)))
      (pss_cons (ps_set (i := 8) sc_law.nd rfl (Or.inl rfl) (pe_lst (pa_cons (pe_lamv TBl rfl rfl (lamN_by (N := ["_law_script", "_law_d", "_law_far", "_law_keys", "_law_keep", "_law_changes_here", "_law_board", "_law_key", "_law_works", "_law_word", "_law_low", "_law_some", "_law_begin", "_law_end", "_law_known_here", "_law_bad", "_law_at", "_law_wide", "_law_rows", "_law_letters", "_law_work"]) (sc := defScope s_law) (by decide +kernel)).free) (pa_cons (pe_lamd TBl rfl rfl rfl (lamN_by (N := ["_law_script", "_law_d", "_law_far", "_law_keys", "_law_keep", "_law_changes_here", "_law_board", "_law_key", "_law_works", "_law_word", "_law_low", "_law_some", "_law_begin", "_law_end", "_law_known_here", "_law_bad", "_law_at", "_law_wide", "_law_rows", "_law_letters", "_law_work"]) (sc := defScope s_law) (by decide +kernel)).free) pa_nil))))
      (pss_cons (ps_mid (ps_if (pt_cmpR (op_neD hr.units) (pe_lcin (own := [("_law_work", 20)]) (g := (gName 20)) rfl sc_law.nd (pi_list (pv 8)) (blkOk_by (N := ["_law_script", "_law_d", "_law_far", "_law_keys", "_law_keep", "_law_changes_here", "_law_board", "_law_key", "_law_works", "_law_word", "_law_low", "_law_some", "_law_begin", "_law_end", "_law_known_here", "_law_bad", "_law_at", "_law_wide", "_law_rows", "_law_letters", "_law_work"]) (sc := defScope s_law) (by decide +kernel)) (fun _ _ _ _ _ => (pg_name (i := 20) sc_law.nd rfl (Or.inl rfl))) (fun _ _ _ _ _ _ st => (pts_one (pt_cmpR (op_neDK K rfl hr.units) (pe_ltold (i := 20) (k := 4) (TT := TTx K Gs) st F_told (fun _ _ => told_cx Bm nValueError Gs XBadKnown XBadText) (hr.mono (by decide)) rfl (.inl rfl) rfl) (pe_tup (pa_cons pe_str pa_nil)) (nomark _)))) (fun _ _ _ _ _ => (pv 20))) (pe_lst pa_nil) (nomark _))
        (pss_one (ps_ret pe_bl))
        pss_nil))
      (pss_cons (ps_set (i := 9) sc_law.nd rfl (Or.inr rfl) (pe_ix ix_list (pe_lst (pa_cons pe_str (pa_cons pe_str (pa_cons pe_str (pa_cons pe_str (pa_cons pe_str pa_nil)))))) (pc g_next hr (pa_cons (pv 1) (pa_cons pe_int pa_nil))) (fun _ _ => rfl)))
      (pss_cons (ps_mid (ps_if (pt_cmpR (op_neD hr.units) (pl (k := 4) (TT := TTx K Gs) F_told (fun _ _ => told_cx Bm nValueError Gs XBadKnown XBadText) TBl rfl (hr.mono (by decide)) (show LamX.LamS (defScope s_law) _ from LamX.lamS_by (by decide +kernel)) rfl (fun _ _ _ _ _ => rfl) (fun A outer s H E f c2 hr => (pmy (takes_of rfl rfl rfl rfl) (pv 6) CBoard.cl m_Board_changeX hr (pa_cons (pc g_next hr (pa_cons (pv 1) (pa_cons (pv 3) pa_nil))) (pa_cons (pv 9) (pa_cons pe_int pa_nil)))))) (pe_tup (pa_cons pe_str pa_nil)) (nomark _))
        (pss_one (ps_ret pe_bl))
        pss_nil))
      (pss_cons (ps_set (i := 10) sc_law.nd rfl (Or.inl rfl) (pc g_next hr (pa_cons (pv 1) (pa_cons (pe_op op_add (pv 3) pe_int) pa_nil))))
      (pss_cons (ps_set (i := 11) sc_law.nd rfl (Or.inl rfl) (pe_lst (pa_cons (pe_tup (pa_cons (pv 10) (pa_cons (pv 10) pa_nil))) (pa_cons (pe_tup (pa_cons (pv 10) (pa_cons (pe_op op_add (pv 3) pe_int) pa_nil))) (pa_cons (pe_tup (pa_cons (pe_un un_neg pe_int) (pa_cons (pv 3) pa_nil))) (pa_cons (pe_tup (pa_cons (pe_op op_add (pv 10) pe_int) (pa_cons (pv 10) pa_nil))) (pa_cons (pe_tup (pa_cons (pv 3) (pa_cons (pe_op op_add (pv 3) (pv 2)) pa_nil))) (pa_cons (pe_tup (pa_cons (pe_un un_neg (pv 2)) (pa_cons pe_int pa_nil))) pa_nil))))))))
      (pss_cons (ps_mid (ps_asg (pe_ix ix_list (pv 11) (pc g_next hr (pa_cons (pv 1) (pa_cons pe_int pa_nil))) (fun _ _ => rfl)) (pg_tup rfl (pgs_cons (pg_name (i := 12) sc_law.nd rfl (Or.inr rfl)) (pgs_cons (pg_name (i := 13) sc_law.nd rfl (Or.inr rfl)) pgs_nil)))))
      (pss_cons (ps_mid (ps_if (pt_cmpR (op_neD hr.units) (pl (k := 4) (TT := TTx K Gs) F_told (fun _ _ => told_cx Bm nValueError Gs XBadKnown XBadText) TBl rfl (hr.mono (by decide)) (show LamX.LamS (defScope s_law) _ from LamX.lamS_by (by decide +kernel)) rfl (fun _ _ _ _ _ => rfl) (fun A outer s H E f c2 hr => (pmy (takes_of rfl rfl rfl rfl) (pv 6) CBoard.cl m_Board_partX hr (pa_cons (pv 12) (pa_cons (pv 13) pa_nil))))) (pe_tup (pa_cons pe_str pa_nil)) (nomark _))
        (pss_one (ps_ret pe_bl))
        pss_nil))
      (pss_cons (ps_set (i := 14) sc_law.nd rfl (Or.inr rfl) (pc g_known hr (pa_cons (pv 1) (pa_cons (pv 3) (pa_cons (pm0 (pv 6) CBoard.cl m_Board_number hr) pa_nil)))))
      (pss_cons (ps_mid (ps_asg (pc g_unknown hr (pa_cons (pv 1) (pa_cons (pv 6) (pa_cons (pv 14) (pa_cons (pv 2) pa_nil))))) (pg_tup rfl (pgs_cons (pg_name (i := 15) sc_law.nd rfl (Or.inr rfl)) (pgs_cons (pg_name (i := 16) sc_law.nd rfl (Or.inr rfl)) pgs_nil)))))
      (pss_cons (ps_set (i := 8) sc_law.nd rfl (Or.inl rfl) (pe_lst (pa_cons (pe_lamv TBl rfl rfl (lamN_by (N := ["_law_script", "_law_d", "_law_far", "_law_keys", "_law_keep", "_law_changes_here", "_law_board", "_law_key", "_law_works", "_law_word", "_law_low", "_law_some", "_law_begin", "_law_end", "_law_known_here", "_law_bad", "_law_at", "_law_wide", "_law_rows", "_law_letters", "_law_work"]) (sc := defScope s_law) (by decide +kernel)).free) (pa_cons (pe_lamd TBl rfl rfl rfl (lamN_by (N := ["_law_script", "_law_d", "_law_far", "_law_keys", "_law_keep", "_law_changes_here", "_law_board", "_law_key", "_law_works", "_law_word", "_law_low", "_law_some", "_law_begin", "_law_end", "_law_known_here", "_law_bad", "_law_at", "_law_wide", "_law_rows", "_law_letters", "_law_work"]) (sc := defScope s_law) (by decide +kernel)).free) (pa_cons (pe_lamd TBl rfl rfl rfl (lamN_by (N := ["_law_script", "_law_d", "_law_far", "_law_keys", "_law_keep", "_law_changes_here", "_law_board", "_law_key", "_law_works", "_law_word", "_law_low", "_law_some", "_law_begin", "_law_end", "_law_known_here", "_law_bad", "_law_at", "_law_wide", "_law_rows", "_law_letters", "_law_work"]) (sc := defScope s_law) (by decide +kernel)).free) pa_nil)))))
      (pss_cons (ps_mid (ps_if (pt_cmpR (op_neD hr.units) (pe_lcin (own := [("_law_work", 20)]) (g := (gName 20)) rfl sc_law.nd (pi_list (pv 8)) (blkOk_by (N := ["_law_script", "_law_d", "_law_far", "_law_keys", "_law_keep", "_law_changes_here", "_law_board", "_law_key", "_law_works", "_law_word", "_law_low", "_law_some", "_law_begin", "_law_end", "_law_known_here", "_law_bad", "_law_at", "_law_wide", "_law_rows", "_law_letters", "_law_work"]) (sc := defScope s_law) (by decide +kernel)) (fun _ _ _ _ _ => (pg_name (i := 20) sc_law.nd rfl (Or.inl rfl))) (fun _ _ _ _ _ _ st => (pts_one (pt_cmpR (op_neDK K rfl hr.units) (pe_ltold (i := 20) (k := 4) (TT := TTx K Gs) st F_told (fun _ _ => told_cx Bm nValueError Gs XBadKnown XBadText) (hr.mono (by decide)) rfl (.inl rfl) rfl) (pe_tup (pa_cons pe_str (pa_cons (pv 16) pa_nil))) (nomark _)))) (fun _ _ _ _ _ => (pv 20))) (pe_lst pa_nil) (nomark _))
        (pss_one (ps_ret pe_bl))
        pss_nil))
      (pss_cons (ps_set (i := 17) sc_law.nd rfl (Or.inr rfl) (pe_ix ix_list (pe_lst (pa_cons (pe_fz (pe_op op_rep (pe_lst (pa_cons pe_int pa_nil)) (pe_op op_add (pv 3) pe_int))) (pa_cons (pe_fz (pe_op op_rep (pe_lst (pa_cons pe_int pa_nil)) (pe_op op_sub (pv 3) pe_int))) (pa_cons (pe_fz (pe_op op_rep (pe_lst (pa_cons pe_int pa_nil)) (pe_op op_add (pv 3) pe_int))) pa_nil)))) (pc g_next hr (pa_cons (pv 1) (pa_cons pe_int pa_nil))) (fun _ _ => rfl)))
      (pss_cons (ps_mid (ps_if (pt_cmpR (op_neD hr.units) (pl (k := 4) (TT := TTx K Gs) F_told (fun _ _ => told_cx Bm nValueError Gs XBadKnown XBadText) TBl rfl (hr.mono (by decide)) (show LamX.LamS (defScope s_law) _ from LamX.lamS_by (by decide +kernel)) rfl (fun _ _ _ _ _ => rfl) (fun A outer s H E f c2 hr => (pcy (takes_of rfl rfl rfl rfl) g_shows hr (pa_cons (pv 6) (pa_cons (pv 14) (pa_cons (pv 17) pa_nil)))))) (pe_tup (pa_cons pe_str pa_nil)) (nomark _))
        (pss_one (ps_ret pe_bl))
        pss_nil))
      (pss_cons (ps_asg (pc g_story hr (pa_cons (pv 3) (pa_cons (pv 5) pa_nil))) (pg_tup rfl (pgs_cons (pg_name (i := 18) sc_law.nd rfl (Or.inl rfl)) (pgs_cons (pg_name (i := 19) sc_law.nd rfl (Or.inl rfl)) pgs_nil))))
      (pss_one (ps_ret (pc g_like hr (pa_cons (pe_lst (pa_cons (pe_fz (pm0 (pv 6) CBoard.cl m_Board_worths hr)) (pa_cons (pm0 (pv 6) CBoard.cl m_Board_number hr) (pa_cons (pm0 (pv 6) CBoard.cl m_Board_size hr) pa_nil)))) (pa_cons (pe_lst (pa_cons (pe_ix ix_tup (pe_ix ix_list (pv 18) (pe_un un_neg pe_int) (fun _ _ => rfl)) pe_int (fun _ _ => rfl)) (pa_cons (pe_callB call_len_seq rfl Bm.len (by decide +kernel) (pa_cons (pv 5) pa_nil)) (pa_cons (pv 3) pa_nil)))) pa_nil))))))))))))))))))))))))))), ?_⟩
  have z0 : 0 ≤ sizeLine := by decide
  refine rd_scr2 rfl hS hP hPc fun H0 fc hP0 hPc0 => ?_
  have hh0 : Has H0 [(P_counted, .tbl #[]), (P_law, .tbl #[])] := ⟨by simp [Ne.symm hPne], fun p hp => by
    simp only [List.mem_cons, List.not_mem_nil, or_false] at hp
    rcases hp with rfl | rfl
    · exact ⟨hPc0, ntbl⟩
    · exact ⟨hP0, ntbl⟩⟩
  refine ⟨rfl, c, ns, [(P_counted, .tbl #[]), (P_law, .tbl #[])], rfl, by omega, fc, hh0, fun a H1 m1 d1 => ?_⟩
  refine ⟨_, rfl, _, _, rfl, rfl, ⟨by decide, by decide, by decide⟩, rfl, a, _, _, rfl, by decide, by decide, d1, fun r2 H2 p2 q2 m2 d2 => ⟨_, _, rfl, rfl, ?_⟩⟩
  obtain ⟨far, efar, hfar⟩ : ∃ far : Int, (1 : Int) + r2 = far ∧ 0 < far := ⟨_, rfl, by omega⟩
  show gName 2 (V.int (1 + r2)) _ _ _
  rw [efar]
  -- counts
  refine ⟨_, rfl, _, rfl, rfl, a, far, #[], [(P_law, .tbl #[])], rfl, hfar, d2, TabI.nil _ _, fun H3 m3 d3 => ⟨_, rfl, iteM (by decide) ?_⟩⟩
  refine ⟨_, rfl, rfl, a, _, rfl, d3, fun nk keep tk H4 hk hk8 hkp m4 d4 htk => ⟨tk, _, rfl, SqT.of htk, rfl, _, _, rfl, _, _, rfl, rfl, ?_⟩⟩
  refine ⟨_, rfl, _, rfl, rfl, a, nk, 30, _, rfl, hk, hk8, by decide, d4, fun cs v0 H5 hcl hck m5 d5 r5 => ?_⟩
  refine ⟨_, rfl, _, rfl, _, rfl, rfl, nk, keep, cs, v0, rfl, hk, hk8, hkp, hck, r5, fun B cb H6 R6 t6 => ?_⟩
  have d6 : Dice K H6 a ((P_law, .tbl #[]) :: cb) := (Dice.tr (C := []) d5 t6).perm List.perm_append_comm
  have r6 := r5.mono t6.mono
  have hcn := d6.has.tail
  -- a key that there isn't
  refine ⟨_, rfl, _, rfl, _, rfl, _, rfl, _, rfl, _, rfl, _, _, rfl, rfl, (by show 4 ≤ sizeLine; decide), fun l7 hl7 => ?_⟩
  have d7 := d6.new (o := .lst [.int (-1), .int nk, .int (-far), .int ((nk : Int) + far)]) hl7 nl
  refine ⟨_, rfl, rfl, a, 4, _, rfl, by decide, by decide, d7, fun r8 H8 p8 q8 m8 d8 => ?_⟩
  obtain ⟨v, hv, hm⟩ := at_some (xs := [.int (-1), .int nk, .int (-far), .int ((nk : Int) + far)]) p8 q8
  obtain ⟨key, rfl, hkey⟩ : ∃ key : Int, v = .int key ∧ ¬ (0 ≤ key ∧ key < nk) := by
    simp only [List.mem_cons, List.not_mem_nil, or_false] at hm
    rcases hm with e | e | e | e
    · exact ⟨-1, e, by omega⟩
    · exact ⟨nk, e, by omega⟩
    · exact ⟨-far, e, by omega⟩
    · exact ⟨_, e, by omega⟩
  refine ⟨l7, _, _, _, rfl, rfl, SqL.of d8.at_, hv, ?_⟩
  have m8' := (Mono.new (o := .lst [.int (-1), .int nk, .int (-far), .int ((nk : Int) + far)]) hl7).trans m8
  have d8 := d8.tail
  have R8 := R6.mono m8'
  have ntb : ∀ q ∈ cb, ∀ qs, q.2 ≠ .tbl qs := by
    obtain ⟨xs, rfl, _⟩ := R6.ex
    intro q hq qs
    simp only [List.mem_cons, List.not_mem_nil, or_false] at hq
    rcases hq with rfl | rfl | rfl | rfl <;> exact fun z => nomatch z
  have hQ : ∀ {H' : Hp} {b : Addr} {o : HO}, H' b = none → ExtN H' (upd H' b o) := fun hb => ExtN.of fun b' o' e => by
    rw [upd_ne (ne_of_none e hb)]
    exact e
  -- the works: NoKey
  refine ⟨#[], d8.at_, TabI.nil _ _, fun f1 c1 H9 ps1 e9 hP9 ti9 hf1 hc1 => ?_⟩
  generalize eL1 : LamO f1 _ _ _ _ _ _ c1 = L1
  have iL1 : Imm L1 := by rw [← eL1]; exact lamO_imm
  have e1 : ExtN H8 (upd H9 f1 L1) := e9.trans (hQ hf1)
  have hP1 : (upd H9 f1 L1) P_law = some (.tbl ps1) := by rw [upd_ne (ne_of_none hP9 hf1)]; exact hP9
  have ti1 := ti9.mono (Mono.new (o := L1) hf1)
  have hc1' : (upd H9 f1 L1) c1 = some (CodeO c1 lamQ) := by rw [upd_ne (ne_of_none hc1 hf1)]; exact hc1
  have hL1 : (upd H9 f1 L1) f1 = some L1 := upd_same
  generalize (upd H9 f1 L1) = Ha at *
  refine ⟨ps1, hP1, ti1, fun T2 hT2 f2 c2 H10 ps2 e10 hP10 ti10 hf2 hc2 => ⟨(by show 2 ≤ sizeLine; decide), fun pw hpw => ?_⟩⟩
  generalize eL2 : LamO f2 _ _ _ _ _ _ c2 = L2 at hpw ⊢
  have iL2 : Imm L2 := by rw [← eL2]; exact lamO_imm
  have e2 : ExtN Ha (upd H10 f2 L2) := ((hQ hT2).trans e10).trans (hQ hf2)
  have hP2 : (upd H10 f2 L2) P_law = some (.tbl ps2) := by rw [upd_ne (ne_of_none hP10 hf2)]; exact hP10
  have ti2 := ti10.mono (Mono.new (o := L2) hf2)
  have hc2' : (upd H10 f2 L2) c2 = some (CodeO c2 lamQ) := by rw [upd_ne (ne_of_none hc2 hf2)]; exact hc2
  have hT2' : (upd H10 f2 L2) T2 = some (TupO T2) := (Mono.new (o := L2) hf2) _ _ ((ExtN.mono e10) _ _ upd_same tupO_imm) tupO_imm
  have hL2 : (upd H10 f2 L2) f2 = some L2 := upd_same
  generalize (upd H10 f2 L2) = Hb at *
  have e12 := e1.trans e2
  obtain ⟨ps3, d11, ti11⟩ := d8.lam ntb e12 (tabs_of hP2 ti2)
  have m11 := ExtN.mono e12
  have m2c := ExtN.mono e2
  have hL1 := m2c _ _ hL1 iL1
  have hc1' := m2c _ _ hc1' (codeO_imm _ _)
  have d12 := d11.new (o := .lst [.ref f1, .ref f2]) hpw nl
  have m12 := Mono.new (o := .lst [.ref f1, .ref f2]) hpw
  have ti12 := ti11.mono m12
  generalize upd Hb pw (.lst [.ref f1, .ref f2]) = Hc at *
  have hL1 := m12 _ _ hL1 iL1
  have hc1' := m12 _ _ hc1' (codeO_imm _ _)
  have hL2 := m12 _ _ hL2 iL2
  have hc2' := m12 _ _ hc2' (codeO_imm _ _)
  have hT2' := m12 _ _ hT2' tupO_imm
  have R12 := (R8.mono m11).mono m12
  have r12 := ((r6.mono m8').mono m11).mono m12
  subst eL1 eL2
  clear e1 e2 e9 e10 hP1 hP2 hP9 hP10 ti1 ti2 ti9 ti10 e12 m2c hT2 hf1 hf2 hc1 hc2
  refine rd_mid (fun σ' H' => σ' = [some (.ref c), some (.ref a), some (.int far), some (.int nk), some (.int keep), some v0, some (.ref B.p), some (.int key), some (.ref pw), none, none, none, none, none, none, none, none, none, none, none, none] ∧ Mono Hc H' ∧ Dice K H' a ((P_law, .tbl ps3) :: cb)) ?_ ?_
  · refine ⟨_, rfl, pw, rfl, ⟨_, SqL.of d12.at_⟩, fun D hD => ?_⟩
    refine lc_list (K := K) (a := pw) (xs := [.ref f1, .ref f2]) (fun i H => Mono Hc H ∧ Dice K H a ((D, .lst []) :: (pw, .lst [.ref f1, .ref f2]) :: (P_law, .tbl ps3) :: cb)) ⟨Mono.new hD, d12.new hD nl⟩ (fun i H _ ⟨_, d⟩ => SqL.of d.has.tail.head) ?_ ?_
    · rintro j x H14 hj ⟨m14, d14⟩
      have hl1 := m14 _ _ hL1 iL1
      have hl2 := m14 _ _ hL2 iL2
      have hd1 := m14 _ _ hc1' (codeO_imm _ _)
      have hd2 := m14 _ _ hc2' (codeO_imm _ _)
      have ht2 := m14 _ _ hT2' tupO_imm
      have R14 := R12.mono m14
      have hx := List.mem_of_getElem? hj
      simp only [List.mem_cons, List.not_mem_nil, or_false] at hx
      refine ⟨rfl, ?_⟩
      rcases hx with rfl | rfl
      · refine ⟨f1, c1, _, rfl, ⟨_, _, _, _, hl1, hd1, noArgsT0 (fun _ _ _ => rfl), lamN_by (N := nm01) (sc := defScope s_law) (by decide +kernel), fun E A outer s H hr => pmy (takes_of rfl rfl rfl rfl) (pv 6) CBoard.cl m_Board_changeX hr (pa_cons (pv 7) (pa_cons pe_str (pa_cons pe_int pa_nil)))⟩, rfl, ?_⟩
        refine ⟨_, rfl, B.p, _, _, rfl, R14.at_p d14.has.tail.tail.tail, bFno, _, rfl, rfl, B, nk, keep, cs, cb, key, "other", .int 1, rfl, R14, d14.has.tail.tail.tail, .inl ⟨hkey, 1, _, 0, by decide, rfl, xo_NoKey, holds_none (by decide) (by decide), fun v H2 g rv => ?_⟩⟩
        exact ⟨(by show 1 ≤ sizeLine; decide), fun t ht => ne_told (i := 1) (n := 0) (by decide) (rv.mono (Mono.new ht)) (.tup (ds := [.str "key"]) upd_same (.cons .str .nil)) ⟨_, rfl, iteM (by decide) ⟨(m14.trans g.mono).trans (Mono.new ht), (d14.grow g).old ht⟩⟩⟩
      · refine ⟨f2, c2, _, rfl, ⟨_, _, _, _, hl2, hd2, noArgsT1 (a := "_law_a") ht2 rfl (fun _ _ _ => ⟨_, rfl, fun _ => rfl⟩), lamN_by (N := nm01) (sc := defScope s_law) (by decide +kernel), fun E A outer s H hr => pmy (takes_of rfl rfl rfl rfl) (pk k_Hearer hr (pa_cons (pv 3) pa_nil)) CHearer.cl m_Hearer_lookX hr (pa_cons (pv 7) pa_nil)⟩, rfl, ?_⟩
        refine ⟨_, rfl, fun x1 dx1 hx1 hx2 hn1 => ⟨rfl, x1, dx1, nk, rfl, hk, hk8, upd_same, fun A1 k0 H15 ea HR15 u5 => ⟨rfl, ?_⟩⟩⟩
        subst ea
        have t6 := (mk_tr (C := C) hx1 hx2 hn1).trans u5
        have g6 : Grow H14 H15 := t6.sub (List.nil_sublist _)
        refine ⟨A1.p, _, _, rfl, HR15.at_p t6.own, hFno, _, rfl, rfl, A1, _, k0, key, rfl, HR15, t6.own, by rw [List.length_replicate]; exact hkey, 1, _, 0, by decide, rfl, xo_NoKey, holds_none (by decide) (by decide), fun v H2 g rv => ?_⟩
        exact ⟨(by show 1 ≤ sizeLine; decide), fun t ht => ne_told (i := 1) (n := 0) (by decide) (rv.mono (Mono.new ht)) (.tup (ds := [.str "key"]) upd_same (.cons .str .nil)) ⟨_, rfl, iteM (by decide) ⟨(m14.trans (g6.trans g).mono).trans (Mono.new ht), (d14.grow (g6.trans g)).old ht⟩⟩⟩
    rintro H14 ⟨m14, d14⟩
    refine ⟨z0, fun q1 hq1 => ⟨_, _, Dp.nil (by rw [upd_ne (ne_of_none d14.at_ hq1)]; exact d14.at_), Dp.nil upd_same, (Gd.nil (n := 0)).shaped, (Gd.nil (n := 0)).shaped, _, rfl, ?_⟩⟩
    rw [(Gd.nil (n := 0)).refl]
    refine iteM (by decide) ?_
    exact ⟨rfl, m14.trans (Mono.new hq1), (d14.old (o := .lst []) hq1).tail.tail⟩
  clear hL1 hL2 hc1' hc2' hT2'
  rintro _ H15 ⟨rfl, m15, d15⟩
  have R15 := R12.mono m15
  have r15 := r12.mono m15
  have ti15 := ti12.mono m15
  -- another word
  refine ⟨(by show 5 ≤ sizeLine; decide), fun l16 hl16 => ?_⟩
  have d16 := d15.new (o := .lst [.str "", .str "Set", .str "adds", .str "put", .str "sub"]) hl16 nl
  refine ⟨_, rfl, rfl, a, 5, _, rfl, by decide, by decide, d16, fun r17 H17 p17 q17 m17 d17 => ?_⟩
  obtain ⟨v, hv, hm⟩ := at_some (xs := [.str "", .str "Set", .str "adds", .str "put", .str "sub"]) p17 q17
  obtain ⟨word, rfl, hw1, hw2⟩ : ∃ word : Str, v = .str word ∧ word ≠ "set" ∧ word ≠ "add" := by
    simp only [List.mem_cons, List.not_mem_nil, or_false] at hm
    rcases hm with e | e | e | e | e
    · exact ⟨_, e, by decide +kernel, by decide +kernel⟩
    · exact ⟨_, e, by decide +kernel, by decide +kernel⟩
    · exact ⟨_, e, by decide +kernel, by decide +kernel⟩
    · exact ⟨_, e, by decide +kernel, by decide +kernel⟩
    · exact ⟨_, e, by decide +kernel, by decide +kernel⟩
  refine ⟨l16, _, _, _, rfl, rfl, SqL.of d17.at_, hv, ?_⟩
  have m17' := (Mono.new (o := .lst [.str "", .str "Set", .str "adds", .str "put", .str "sub"]) hl16).trans m17
  have d17 := d17.tail
  have R17 := R15.mono m17'
  have ti17 := ti15.mono m17'
  -- _law_told(lambda: board.change(next(d, keys), word, 1))
  refine rd_mid (fun σ' H' => σ' = [some (.ref c), some (.ref a), some (.int far), some (.int nk), some (.int keep), some v0, some (.ref B.p), some (.int key), some (.ref pw), some (.str word), none, none, none, none, none, none, none, none, none, none, none] ∧ Mono H15 H' ∧ ∃ ps, Dice K H' a ((P_law, .tbl ps) :: cb) ∧ TabI H' lamQ ps) ?_ ?_
  · refine ⟨tabs_of d17.at_ ti17, fun H18 eN T18 => ?_⟩
    obtain ⟨ps18, d18, ti18⟩ := d17.lam (q := lamQ) ntb eN T18
    have m18 := m17'.trans (ExtN.mono eN)
    have R18 := R15.mono m18
    refine ⟨_, rfl, B.p, _, _, rfl, R18.at_p d18.has.tail, bFno, _, rfl, _, rfl, rfl, a, nk, _, rfl, by omega, by omega, d18, fun r19 H19 p19 q19 m19 d19 => ?_⟩
    have R19 := R18.mono m19
    refine ⟨_, rfl, rfl, B, nk, keep, cs, cb, r19, word, .int 1, rfl, R19, d19.has.tail, .inr ⟨⟨p19, q19⟩, hw1, hw2, fun H20 g20 => ⟨2, _, 0, by decide, rfl, xo_BadChange, holds_none (by decide) (by decide), fun v H21 g21 rv => ⟨(by show 1 ≤ sizeLine; decide), fun t ht => ne_told (i := 2) (n := 0) (by decide) (rv.mono (Mono.new ht)) (.tup (ds := [.str "change"]) upd_same (.cons .str .nil)) ⟨_, rfl, iteM (by decide) ?_⟩⟩⟩⟩⟩
    have g22 := (g20.trans g21).old (o := .tup [.str "change"]) ht
    exact ⟨rfl, (m18.trans m19).trans g22.mono, ps18, d19.grow g22, ti18.mono (m19.trans g22.mono)⟩
  clear d17 d16 ti17 R17 m17'
  rintro _ H22 ⟨rfl, m22, ps18, d22, ti22⟩
  have R22 := R15.mono m22
  have r22 := r15.mono m22
  -- a part that there isn't
  refine ⟨_, rfl, _, rfl, _, _, rfl, rfl, rfl, a, (nk : Int) + 1, _, rfl, by omega, by omega, d22, fun low H23 p23 q23 m23 d23 => ?_⟩
  refine ⟨_, rfl, _, rfl, (by show 2 ≤ sizeLine; decide), fun t1 ht1 => ?_⟩
  have c1 : PartNo (upd H23 t1 (.tup [.int low, .int low])) nk (.ref t1) := ⟨t1, _, _, rfl, upd_same, by omega⟩
  have g1 := (Grow.refl H23).old (o := .tup [.int low, .int low]) ht1
  generalize upd H23 t1 (.tup [.int low, .int low]) = Ka at *
  refine ⟨_, rfl, _, rfl, _, _, rfl, rfl, (by show 2 ≤ sizeLine; decide), fun t2 ht2 => ?_⟩
  have c2 : PartNo (upd Ka t2 (.tup [.int low, .int ((nk : Int) + 1)])) nk (.ref t2) := ⟨t2, _, _, rfl, upd_same, by omega⟩
  have m2 := Mono.new (o := .tup [.int low, .int ((nk : Int) + 1)]) ht2
  have g2 := g1.old (o := .tup [.int low, .int ((nk : Int) + 1)]) ht2
  have c1 := c1.mono m2
  generalize upd Ka t2 (.tup [.int low, .int ((nk : Int) + 1)]) = Kb at *
  refine ⟨_, rfl, _, rfl, (by show 2 ≤ sizeLine; decide), fun t3 ht3 => ?_⟩
  have c3 : PartNo (upd Kb t3 (.tup [.int (-1), .int nk])) nk (.ref t3) := ⟨t3, _, _, rfl, upd_same, by omega⟩
  have m3 := Mono.new (o := .tup [.int (-1), .int nk]) ht3
  have g3 := g2.old (o := .tup [.int (-1), .int nk]) ht3
  have c1 := c1.mono m3
  have c2 := c2.mono m3
  generalize upd Kb t3 (.tup [.int (-1), .int nk]) = Kc at *
  refine ⟨_, rfl, _, _, rfl, rfl, _, rfl, (by show 2 ≤ sizeLine; decide), fun t4 ht4 => ?_⟩
  have c4 : PartNo (upd Kc t4 (.tup [.int (low + 1), .int low])) nk (.ref t4) := ⟨t4, _, _, rfl, upd_same, by omega⟩
  have m4 := Mono.new (o := .tup [.int (low + 1), .int low]) ht4
  have g4 := g3.old (o := .tup [.int (low + 1), .int low]) ht4
  have c1 := c1.mono m4
  have c2 := c2.mono m4
  have c3 := c3.mono m4
  generalize upd Kc t4 (.tup [.int (low + 1), .int low]) = Kd at *
  refine ⟨_, rfl, _, rfl, _, rfl, _, _, rfl, rfl, (by show 2 ≤ sizeLine; decide), fun t5 ht5 => ?_⟩
  have c5 : PartNo (upd Kd t5 (.tup [.int nk, .int ((nk : Int) + far)])) nk (.ref t5) := ⟨t5, _, _, rfl, upd_same, by omega⟩
  have m5 := Mono.new (o := .tup [.int nk, .int ((nk : Int) + far)]) ht5
  have g5 := g4.old (o := .tup [.int nk, .int ((nk : Int) + far)]) ht5
  have c1 := c1.mono m5
  have c2 := c2.mono m5
  have c3 := c3.mono m5
  have c4 := c4.mono m5
  generalize upd Kd t5 (.tup [.int nk, .int ((nk : Int) + far)]) = Ke at *
  refine ⟨_, rfl, _, rfl, (by show 2 ≤ sizeLine; decide), fun t6 ht6 => ⟨(by show 6 ≤ sizeLine; decide), fun l24 hl24 => ?_⟩⟩
  have c6 : PartNo (upd Ke t6 (.tup [.int (-far), .int 1])) nk (.ref t6) := ⟨t6, _, _, rfl, upd_same, by omega⟩
  have m6 := Mono.new (o := .tup [.int (-far), .int 1]) ht6
  have g6 := g5.old (o := .tup [.int (-far), .int 1]) ht6
  have d24 := (d23.grow g6).new (o := .lst [.ref t1, .ref t2, .ref t3, .ref t4, .ref t5, .ref t6]) hl24 nl
  have m24 := Mono.new (o := .lst [.ref t1, .ref t2, .ref t3, .ref t4, .ref t5, .ref t6]) hl24
  have parts : ∀ x ∈ ([.ref t1, .ref t2, .ref t3, .ref t4, .ref t5, .ref t6] : List V), PartNo (upd (upd Ke t6 (.tup [.int (-far), .int 1])) l24 (.lst [.ref t1, .ref t2, .ref t3, .ref t4, .ref t5, .ref t6])) nk x := fun x hx => by
    simp only [List.mem_cons, List.not_mem_nil, or_false] at hx
    rcases hx with rfl | rfl | rfl | rfl | rfl | rfl
    · exact (c1.mono m6).mono m24
    · exact (c2.mono m6).mono m24
    · exact (c3.mono m6).mono m24
    · exact (c4.mono m6).mono m24
    · exact (c5.mono m6).mono m24
    · exact c6.mono m24
  have m25 := (m23.trans g6.mono).trans m24
  generalize upd (upd Ke t6 (.tup [.int (-far), .int 1])) l24 (.lst [.ref t1, .ref t2, .ref t3, .ref t4, .ref t5, .ref t6]) = H24 at *
  generalize exs : ([.ref t1, .ref t2, .ref t3, .ref t4, .ref t5, .ref t6] : List V) = xs24 at *
  have hx24 : xs24.length = 6 := by rw [← exs]; rfl
  clear c1 c2 c3 c4 c5 c6 g1 g2 g3 g4 g5 g6 m2 m3 m4 m5 m6 m24 d23 exs
  refine rd_mid (fun σ' H' => ∃ b e : Int, σ' = [some (.ref c), some (.ref a), some (.int far), some (.int nk), some (.int keep), some v0, some (.ref B.p), some (.int key), some (.ref pw), some (.str word), some (.int low), some (.ref l24), some (.int b), some (.int e), none, none, none, none, none, none, none] ∧ ¬ (0 ≤ b ∧ b < e ∧ e ≤ nk) ∧ Mono H22 H' ∧ Dice K H' a ((P_law, .tbl ps18) :: cb)) ?_ ?_
  · refine ⟨_, rfl, _, rfl, rfl, a, 6, _, rfl, by decide, by decide, d24, fun r26 H26 p26 q26 m26 d26 => ?_⟩
    obtain ⟨v26, hv26, hm26⟩ := at_some (xs := xs24) p26 (by rw [hx24]; exact q26)
    obtain ⟨tp, b, e, rfl, htp, hbe⟩ := (parts v26 hm26).mono m26
    exact ⟨l24, _, _, _, rfl, rfl, SqL.of d26.at_, hv26, tp, _, rfl, SqT.of htp, rfl, _, _, rfl, _, _, rfl, rfl, b, e, rfl, hbe, m25.trans m26, d26.tail⟩
  clear parts d24 m25
  rintro _ H26 ⟨b, e, rfl, hbe, m26', d26⟩
  have ti26 := ti22.mono m26'
  have R26 := R22.mono m26'
  have r26' := r22.mono m26'
  -- _law_told(lambda: board.part(begin, end))
  refine rd_mid (fun σ' H' => σ' = [some (.ref c), some (.ref a), some (.int far), some (.int nk), some (.int keep), some v0, some (.ref B.p), some (.int key), some (.ref pw), some (.str word), some (.int low), some (.ref l24), some (.int b), some (.int e), none, none, none, none, none, none, none] ∧ Mono H26 H' ∧ ∃ ps, Dice K H' a ((P_law, .tbl ps) :: cb) ∧ TabI H' lamQ ps) ?_ ?_
  · refine ⟨tabs_of d26.at_ ti26, fun H27 eN T27 => ?_⟩
    obtain ⟨ps27, d27, ti27⟩ := d26.lam (q := lamQ) ntb eN T27
    have m27 := ExtN.mono eN
    have R27 := R26.mono m27
    refine ⟨_, rfl, B.p, _, _, rfl, R27.at_p d27.has.tail, bFno, _, rfl, _, rfl, rfl, B, nk, keep, cs, cb, b, e, rfl, R27, d27.has.tail, hbe, 3, _, 0, by decide, rfl, xo_BadPart, holds_none (by decide) (by decide), fun v H28 g28 rv => ?_⟩
    refine ⟨(by show 1 ≤ sizeLine; decide), fun t ht => ne_told (i := 3) (n := 0) (by decide) (rv.mono (Mono.new ht)) (.tup (ds := [.str "part"]) upd_same (.cons .str .nil)) ⟨_, rfl, iteM (by decide) ?_⟩⟩
    have g29 := g28.old (o := .tup [.str "part"]) ht
    exact ⟨rfl, m27.trans g29.mono, ps27, d27.grow g29, ti27.mono g29.mono⟩
  clear d26 ti26
  rintro _ H29 ⟨rfl, m29, ps27, d29, ti29⟩
  have R29 := R26.mono m29
  have r29 := r26'.mono m29
  -- what is known
  refine ⟨_, rfl, _, rfl, _, rfl, B.p, _, _, rfl, R29.at_p d29.has.tail, bFno, rfl, B, nk, keep, cs, cb, rfl, R29, d29.has.tail, rfl, a, nk, cs, _, rfl, hk8, by omega, d29, fun pk ns0 H30 kk m30 d30 fk => ?_⟩
  have R30 := R29.mono m30
  refine rd_mid (fun σ' H' => ∃ (pb : Addr) (zs : List Int) (kb : Nat), σ' = [some (.ref c), some (.ref a), some (.int far), some (.int nk), some (.int keep), some v0, some (.ref B.p), some (.int key), some (.ref pw), some (.str word), some (.int low), some (.ref l24), some (.int b), some (.int e), some (.ref pk), some (.ref pb), some (.int kb), none, none, none, none] ∧
      badN nk cs.length zs = some kb ∧ FzL K H' pb (zs.map V.int) ∧ Mono H30 H' ∧ Dice K H' a ((P_law, .tbl ps27) :: cb)) ?_ ?_
  · refine ⟨_, rfl, _, rfl, _, rfl, _, rfl, rfl, a, B, nk, keep, cs, cb, pk, ns0, far, [(P_law, .tbl ps27)], rfl, hk, hk8, hfar, R30, d30.perm (by exact List.perm_append_comm (l₁ := [(P_law, HO.tbl ps27)])), kk, fk, fun x H31 m31 d31 ok => ?_⟩
    obtain ⟨tu, pb, zs, kb, rfl, htu, fb, hbad⟩ := ok
    exact ⟨tu, _, rfl, SqT.of htu, rfl, _, _, rfl, _, _, rfl, rfl, pb, zs, kb, rfl, hbad, fb, m31, d31.perm (List.perm_append_comm (l₂ := [(P_law, HO.tbl ps27)]))⟩
  clear d30 d29
  rintro _ H31 ⟨pb, zs, kb, rfl, hbad, fb, m31, d31⟩
  have m31' := m30.trans m31
  have R31 := R29.mono m31'
  have r31 := r29.mono m31'
  have ti31 := ti29.mono m31'
  have fk31 := fk.mono m31
  clear R30 fk m30 m31
  -- the works: BadKnown
  refine ⟨ps27, d31.at_, ti31, fun f1 c1 H32 ps1 e32 hP32 ti32 hf1 hc1 => ?_⟩
  generalize eL1 : LamO f1 _ _ _ _ _ _ c1 = L1
  have iL1 : Imm L1 := by rw [← eL1]; exact lamO_imm
  have e1 : ExtN H31 (upd H32 f1 L1) := e32.trans (hQ hf1)
  have hP1 : (upd H32 f1 L1) P_law = some (.tbl ps1) := by rw [upd_ne (ne_of_none hP32 hf1)]; exact hP32
  have ti1 := ti32.mono (Mono.new (o := L1) hf1)
  have hc1' : (upd H32 f1 L1) c1 = some (CodeO c1 lamQ) := by rw [upd_ne (ne_of_none hc1 hf1)]; exact hc1
  have hL1 : (upd H32 f1 L1) f1 = some L1 := upd_same
  generalize (upd H32 f1 L1) = Ha at *
  refine ⟨ps1, hP1, ti1, fun T2 hT2 f2 c2 H33 ps2 e33 hP33 ti33 hf2 hc2 => ?_⟩
  generalize eL2 : LamO f2 _ _ _ _ _ _ c2 = L2
  have iL2 : Imm L2 := by rw [← eL2]; exact lamO_imm
  have e2 : ExtN Ha (upd H33 f2 L2) := ((hQ hT2).trans e33).trans (hQ hf2)
  have hP2 : (upd H33 f2 L2) P_law = some (.tbl ps2) := by rw [upd_ne (ne_of_none hP33 hf2)]; exact hP33
  have ti2 := ti33.mono (Mono.new (o := L2) hf2)
  have hc2' : (upd H33 f2 L2) c2 = some (CodeO c2 lamQ) := by rw [upd_ne (ne_of_none hc2 hf2)]; exact hc2
  have hT2' : (upd H33 f2 L2) T2 = some (TupO T2) := (Mono.new (o := L2) hf2) _ _ ((ExtN.mono e33) _ _ upd_same tupO_imm) tupO_imm
  have hL2 : (upd H33 f2 L2) f2 = some L2 := upd_same
  generalize (upd H33 f2 L2) = Hb at *
  refine ⟨ps2, hP2, ti2, fun T3 hT3 f3 c3 H34 ps3 e34 hP34 ti34 hf3 hc3 => ⟨(by show 3 ≤ sizeLine; decide), fun pw hpw => ?_⟩⟩
  generalize eL3 : LamO f3 _ _ _ _ _ _ c3 = L3 at hpw ⊢
  have iL3 : Imm L3 := by rw [← eL3]; exact lamO_imm
  have e3 : ExtN Hb (upd H34 f3 L3) := ((hQ hT3).trans e34).trans (hQ hf3)
  have hP3 : (upd H34 f3 L3) P_law = some (.tbl ps3) := by rw [upd_ne (ne_of_none hP34 hf3)]; exact hP34
  have ti3 := ti34.mono (Mono.new (o := L3) hf3)
  have hc3' : (upd H34 f3 L3) c3 = some (CodeO c3 lamQ) := by rw [upd_ne (ne_of_none hc3 hf3)]; exact hc3
  have hT3' : (upd H34 f3 L3) T3 = some (TupO T3) := (Mono.new (o := L3) hf3) _ _ ((ExtN.mono e34) _ _ upd_same tupO_imm) tupO_imm
  have hL3 : (upd H34 f3 L3) f3 = some L3 := upd_same
  generalize (upd H34 f3 L3) = Hc' at *
  have e123 := (e1.trans e2).trans e3
  obtain ⟨ps4, d35, ti35⟩ := d31.lam ntb e123 (tabs_of hP3 ti3)
  have m35 := ExtN.mono e123
  have m2c := ExtN.mono (e2.trans e3)
  have m3c := ExtN.mono e3
  have hL1 := m2c _ _ hL1 iL1
  have hc1' := m2c _ _ hc1' (codeO_imm _ _)
  have hL2 := m3c _ _ hL2 iL2
  have hc2' := m3c _ _ hc2' (codeO_imm _ _)
  have hT2' := m3c _ _ hT2' tupO_imm
  have d36 := d35.new (o := .lst [.ref f1, .ref f2, .ref f3]) hpw nl
  have m36 := Mono.new (o := .lst [.ref f1, .ref f2, .ref f3]) hpw
  have ti36 := ti35.mono m36
  generalize upd Hc' pw (.lst [.ref f1, .ref f2, .ref f3]) = Hd at *
  have hL1 := m36 _ _ hL1 iL1
  have hc1' := m36 _ _ hc1' (codeO_imm _ _)
  have hL2 := m36 _ _ hL2 iL2
  have hc2' := m36 _ _ hc2' (codeO_imm _ _)
  have hT2' := m36 _ _ hT2' tupO_imm
  have hL3 := m36 _ _ hL3 iL3
  have hc3' := m36 _ _ hc3' (codeO_imm _ _)
  have hT3' := m36 _ _ hT3' tupO_imm
  have m36' := m35.trans m36
  have R36 := R31.mono m36'
  have fb36 := fb.mono m36'
  subst eL1 eL2 eL3
  clear e1 e2 e3 e32 e33 e34 hP1 hP2 hP3 hP32 hP33 hP34 ti1 ti2 ti3 ti32 ti33 ti34 e123 m2c m3c hT2 hT3 hf1 hf2 hf3 hc1 hc2 hc3 d35 ti35 m35 m36
  refine rd_mid (fun σ' H' => σ' = [some (.ref c), some (.ref a), some (.int far), some (.int nk), some (.int keep), some v0, some (.ref B.p), some (.int key), some (.ref pw), some (.str word), some (.int low), some (.ref l24), some (.int b), some (.int e), some (.ref pk), some (.ref pb), some (.int kb), none, none, none, none] ∧ Mono Hd H' ∧ Dice K H' a ((P_law, .tbl ps4) :: cb)) ?_ ?_
  · refine ⟨_, rfl, pw, rfl, ⟨_, SqL.of d36.at_⟩, fun D hD => ?_⟩
    refine lc_list (K := K) (a := pw) (xs := [.ref f1, .ref f2, .ref f3]) (fun i H => Mono Hd H ∧ Dice K H a ((D, .lst []) :: (pw, .lst [.ref f1, .ref f2, .ref f3]) :: (P_law, .tbl ps4) :: cb)) ⟨Mono.new hD, d36.new hD nl⟩ (fun i H _ ⟨_, d⟩ => SqL.of d.has.tail.head) ?_ ?_
    · rintro j x H14 hj ⟨m14, d14⟩
      have hl1 := m14 _ _ hL1 iL1
      have hl2 := m14 _ _ hL2 iL2
      have hl3 := m14 _ _ hL3 iL3
      have hd1 := m14 _ _ hc1' (codeO_imm _ _)
      have hd2 := m14 _ _ hc2' (codeO_imm _ _)
      have hd3 := m14 _ _ hc3' (codeO_imm _ _)
      have ht2 := m14 _ _ hT2' tupO_imm
      have ht3 := m14 _ _ hT3' tupO_imm
      have R14 := R36.mono m14
      have f14 := fb36.mono m14
      have hcb := d14.has.tail.tail.tail
      have hx := List.mem_of_getElem? hj
      simp only [List.mem_cons, List.not_mem_nil, or_false] at hx
      refine ⟨rfl, ?_⟩
      rcases hx with rfl | rfl | rfl
      · refine ⟨f1, c1, _, rfl, ⟨_, _, _, _, hl1, hd1, noArgsT0 (fun _ _ _ => rfl), lamN_by (N := nm01) (sc := defScope s_law) (by decide +kernel), fun E A outer s H hr => pcy (takes_of rfl rfl rfl rfl) g_answer hr (pa_cons (pv 6) (pa_cons (pv 15) pa_nil))⟩, rfl, ?_⟩
        refine ⟨_, rfl, _, rfl, rfl, B, nk, keep, cs, cb, pb, zs, kb, rfl, R14, hcb, f14.sq, hk8, hbad, fun d H2 g hd => ⟨4, _, kb, by decide, rfl, xo_BadKnown, holds_known hd, fun v H3 g3 rv => ?_⟩⟩
        exact ⟨_, rfl, (by show 2 ≤ sizeLine; decide), fun t ht => ne_told (i := 4) (n := kb) (by decide) (rv.mono (Mono.new ht)) (.tup (ds := [.str "known", .int kb]) upd_same (.cons .str (.cons .int .nil))) ⟨_, rfl, iteM (by decide) ⟨(m14.trans (g.trans g3).mono).trans (Mono.new ht), (d14.grow (g.trans g3)).old ht⟩⟩⟩
      · refine ⟨f2, c2, _, rfl, ⟨_, _, _, _, hl2, hd2, noArgsT1 (a := "_law_a") ht2 rfl (fun _ _ _ => ⟨_, rfl, fun _ => rfl⟩), lamN_by (N := nm01) (sc := defScope s_law) (by decide +kernel), fun E A outer s H hr => pcy (takes_of rfl rfl rfl rfl) g_prices hr (pa_cons (pv 6) (pa_cons (pv 15) pa_nil))⟩, rfl, ?_⟩
        refine ⟨_, rfl, _, rfl, rfl, B, nk, keep, cs, cb, pb, zs, kb, rfl, R14, hcb, f14.sq, hk8, hbad, fun d H2 g hd => ⟨4, _, kb, by decide, rfl, xo_BadKnown, holds_known hd, fun v H3 g3 rv => ?_⟩⟩
        exact ⟨_, rfl, (by show 2 ≤ sizeLine; decide), fun t ht => ne_told (i := 4) (n := kb) (by decide) (rv.mono (Mono.new ht)) (.tup (ds := [.str "known", .int kb]) upd_same (.cons .str (.cons .int .nil))) ⟨_, rfl, iteM (by decide) ⟨(m14.trans (g.trans g3).mono).trans (Mono.new ht), (d14.grow (g.trans g3)).old ht⟩⟩⟩
      · refine ⟨f3, c3, _, rfl, ⟨_, _, _, _, hl3, hd3, noArgsT1 (a := "_law_b") ht3 rfl (fun _ _ _ => ⟨_, rfl, fun _ => rfl⟩), lamN_by (N := nm01) (sc := defScope s_law) (by decide +kernel), fun E A outer s H hr => pcy (takes_of rfl rfl rfl rfl) g_shows hr (pa_cons (pv 6) (pa_cons (pv 15) (pa_cons (pe_lst pa_nil) pa_nil)))⟩, rfl, ?_⟩
        refine ⟨_, rfl, _, rfl, z0, fun pt hpt => ?_⟩
        have g0 := (Grow.refl H14).old (o := .lst []) hpt
        refine ⟨rfl, B, nk, keep, cs, cb, pb, pt, zs, [], rfl, R14.mono g0.mono, (d14.grow g0).has.tail.tail.tail, (f14.mono g0.mono).sq, SqL.of upd_same, hk8, (show (0 : Nat) ≠ nk by omega), fun k' hk' d H2 g hd => ?_, fun hn => ?_⟩
        · rw [hbad] at hk'
          cases hk'
          refine ⟨4, _, kb, by decide, rfl, xo_BadKnown, holds_known hd, fun v H3 g3 rv => ?_⟩
          have g4 := (g0.trans g).trans g3
          exact ⟨_, rfl, (by show 2 ≤ sizeLine; decide), fun t ht => ne_told (i := 4) (n := kb) (by decide) (rv.mono (Mono.new ht)) (.tup (ds := [.str "known", .int kb]) upd_same (.cons .str (.cons .int .nil))) ⟨_, rfl, iteM (by decide) ⟨(m14.trans g4.mono).trans (Mono.new ht), (d14.grow g4).old ht⟩⟩⟩
        · rw [hbad] at hn
          cases hn
    rintro H14 ⟨m14, d14⟩
    refine ⟨z0, fun q1 hq1 => ⟨_, _, Dp.nil (by rw [upd_ne (ne_of_none d14.at_ hq1)]; exact d14.at_), Dp.nil upd_same, (Gd.nil (n := 0)).shaped, (Gd.nil (n := 0)).shaped, _, rfl, ?_⟩⟩
    rw [(Gd.nil (n := 0)).refl]
    refine iteM (by decide) ?_
    exact ⟨rfl, m14.trans (Mono.new hq1), (d14.old (o := .lst []) hq1).tail.tail⟩
  clear hL1 hL2 hL3 hc1' hc2' hc3' hT2' hT3' d36
  rintro _ H37 ⟨rfl, m37, d37⟩
  have m37' := m36'.trans m37
  have R37 := R31.mono m37'
  have r37 := r31.mono m37'
  have ti37 := ti36.mono m37
  have fk37 := fk31.mono m37'
  -- another count of prices
  refine rd_zer (K := K) (z := (nk : Int) + 1) (nk := nk) (by omega) (by omega) (by omega) (fun _ _ q => ⟨_, rfl, _, _, rfl, rfl, q⟩) fun x1 Ka g1 c1 => ?_
  refine rd_zer (K := K) (z := (nk : Int) - 1) (nk := nk) (by omega) (by omega) (by omega) (fun _ _ q => ⟨_, rfl, _, _, rfl, rfl, q⟩) fun x2 Kb g2 c2 => ?_
  refine rd_zer (K := K) (z := (nk : Int) + 9) (nk := nk) (by omega) (by omega) (by omega) (fun _ _ q => ⟨_, rfl, _, _, rfl, rfl, q⟩) fun x3 Kc g3 c3 => ⟨(by show 3 ≤ sizeLine; decide), fun l38 hl38 => ?_⟩
  have d38 := (((d37.grow g1).grow g2).grow g3).new (o := .lst [x1, x2, x3]) hl38 nl
  have m38 := ((g1.mono.trans g2.mono).trans g3.mono).trans (Mono.new (o := .lst [x1, x2, x3]) hl38)
  have wides : ∀ x ∈ [x1, x2, x3], WideOk K (upd Kc l38 (.lst [x1, x2, x3])) nk x := fun x hx => by
    simp only [List.mem_cons, List.not_mem_nil, or_false] at hx
    rcases hx with rfl | rfl | rfl
    · exact ((c1.mono g2.mono).mono g3.mono).mono (Mono.new hl38)
    · exact (c2.mono g3.mono).mono (Mono.new hl38)
    · exact c3.mono (Mono.new hl38)
  generalize upd Kc l38 (.lst [x1, x2, x3]) = H38 at *
  refine ⟨_, rfl, rfl, a, 3, _, rfl, by decide, by decide, d38, fun r39 H39 p39 q39 m39 d39 => ?_⟩
  obtain ⟨xw, hv39, hm39⟩ := at_some (xs := [x1, x2, x3]) p39 q39
  obtain ⟨pq, wz, rfl, fw, hwz⟩ := (wides xw hm39).mono m39
  refine ⟨l38, _, _, _, rfl, rfl, SqL.of d39.at_, hv39, ?_⟩
  have m39' := m38.trans m39
  have d39 := d39.tail
  have R39 := R37.mono m39'
  have r39' := r37.mono m39'
  have ti39 := ti37.mono m39'
  have fk39 := fk37.mono m39'
  clear c1 c2 c3 g1 g2 g3 d38 m38 wides d37
  refine rd_mid (fun σ' H' => σ' = [some (.ref c), some (.ref a), some (.int far), some (.int nk), some (.int keep), some v0, some (.ref B.p), some (.int key), some (.ref pw), some (.str word), some (.int low), some (.ref l24), some (.int b), some (.int e), some (.ref pk), some (.ref pb), some (.int kb), some (.ref pq), none, none, none] ∧ Mono H39 H' ∧ ∃ ps, Dice K H' a ((P_law, .tbl ps) :: cb)) ?_ ?_
  · refine ⟨tabs_of d39.at_ ti39, fun H40 eN T40 => ?_⟩
    obtain ⟨ps40, d40, ti40⟩ := d39.lam (q := lamQ) ntb eN T40
    have m40 := ExtN.mono eN
    refine ⟨_, rfl, _, rfl, _, rfl, rfl, B, nk, keep, cs, cb, pk, pq, ns0, wz, rfl, R39.mono m40, d40.has.tail, (fk39.mono m40).sq, (fw.mono m40).sq, hk8, hwz, fun k' hk' => ?_, fun _ => ⟨5, _, 0, by decide, rfl, xo_BadPrices, holds_none (by decide) (by decide), fun v H41 g41 rv => ?_⟩⟩
    · rw [kn_bad kk] at hk'
      cases hk'
    · refine ⟨(by show 1 ≤ sizeLine; decide), fun t ht => ne_told (i := 5) (n := 0) (by decide) (rv.mono (Mono.new ht)) (.tup (ds := [.str "prices"]) upd_same (.cons .str .nil)) ⟨_, rfl, iteM (by decide) ?_⟩⟩
      exact ⟨rfl, (m40.trans g41.mono).trans (Mono.new ht), ps40, (d40.grow g41).old ht⟩
  clear d39 ti39 fw fk39
  rintro _ H42 ⟨rfl, m42, ps42, d42⟩
  have R42 := R39.mono m42
  have r42 := r39'.mono m42
  -- all is as it was
  refine ⟨_, rfl, _, rfl, rfl, nk, cs, v0, rfl, hk8, by omega, hck, r42, fun u H43 g43 ru => ?_⟩
  obtain ⟨as, us, rfl, has, rus⟩ := ru.tup_inv
  obtain ⟨vr, us, rfl, rvr, rus⟩ := rus.cons_inv
  obtain ⟨vl, us, rfl, rvl, rus⟩ := rus.cons_inv
  have := rus.nil_inv
  subst this
  refine ⟨as, _, rfl, SqT.of has, rfl, _, _, rfl, _, _, rfl, rfl, ?_⟩
  have d43 := d42.grow g43
  have R43 := R42.mono g43.mono
  obtain ⟨pc, xc, ev0, fpc, rxc⟩ := id (r42.mono g43.mono).lst_inv
  subst ev0
  have hxc : xc.length = cs.length := by rw [rxc.length, List.length_map]
  obtain ⟨ar, xr, rfl, fr, rxr⟩ := id rvr.lst_inv
  obtain ⟨init, hinit⟩ := rowsD_last nk cs
  rw [hinit] at rxr
  obtain ⟨us, w1, rfl, rus, rw1⟩ := rxr.snoc_inv
  obtain ⟨ar1, pww, pll, rfl, har, fww, _⟩ := rw1.row_inv
  refine rd_bworths (by rfl) R43 d43.has.tail fun p44 H44 g44 f44 => ?_
  have R44 := R43.mono g44.mono
  have d44 := d43.grow g44
  refine ⟨_, rfl, B.p, _, _, rfl, R44.at_p d44.has.tail, bFno, rfl, B, nk, keep, cs, cb, rfl, R44, d44.has.tail, _, rfl, B.p, _, _, rfl, R44.at_p d44.has.tail, bFno, rfl, B, nk, keep, cs, cb, rfl, R44, d44.has.tail, (by show 3 ≤ sizeLine; decide), fun l45 hl45 => ?_⟩
  have d45 := d44.new (o := .lst [.ref p44, .int cs.length, .int nk]) hl45 nl
  have m45 := g44.mono.trans (Mono.new (o := .lst [.ref p44, .int cs.length, .int nk]) hl45)
  refine ⟨_, rfl, _, rfl, ar, _, _, _, rfl, rfl, (fr.mono m45).sq, atI_last _ _, ar1, _, _, _, rfl, rfl, SqT.of (m45 _ _ har trivial), rfl, _, rfl, pc, xc, rfl, .inl (fpc.mono m45).sq, _, rfl, (by show 3 ≤ sizeLine; decide), fun l46 hl46 => ?_⟩
  rw [hxc] at *
  have d46 := d45.new (o := .lst [.ref pww, .int cs.length, .int nk]) hl46 nl
  have mf := (Mono.new (o := .lst [V.ref p44, .int cs.length, .int nk]) hl45).trans (Mono.new (o := .lst [V.ref pww, .int cs.length, .int nk]) hl46)
  have gd : Gd 3 (.list [ilst (wrow nk cs), .int cs.length, .int nk]) := .list (.all_cons (.ilst _) (.all_cons .int (.all_cons .int .all_nil)))
  refine ⟨rfl, .list [ilst (wrow nk cs), .int cs.length, .int nk], .ref l45, .ref l46, rfl, Dp.lst (SqL.of d46.has.tail.head) (RpL.dp (.cons (.il (f44.mono mf)) (.cons .int (.cons .int .nil)))), Dp.lst (SqL.of d46.at_) (RpL.dp (.cons (.il (fww.mono (g44.mono.trans mf))) (.cons .int (.cons .int .nil)))), gd.1, Nat.lt_succ_of_le gd.2, ?_, go _⟩
  refine wid_list (by show 3 ≤ 1000; decide) fun d hd => ?_
  simp only [List.mem_cons, List.not_mem_nil, or_false] at hd
  rcases hd with rfl | rfl | rfl
  · exact wid_ilst (by rw [wrow_len]; omega)
  · simp [wid]
  · simp [wid]
end
end Cu

namespace Cu
open PySem PySem.Spec PyProof.Rows L2
/-! the end of a law where another def makes lambdas too -/
theorem own_tab {p : Program} {loose : List Str} {mean : ExcName → Option Value} {mg mb : Str → Option Value} {h : Heap} {K : PySem.W.Frag} (T : Top p loose mean mg mb h) (X : K.In h) {x : Str} (hx : ((recsOf p).any fun e => e.name == x) = true) {fa : Addr} (hm : mg x = some (.ref fa)) : LamX.OwnTab K fa h := by
  intro c P o fd e dd vs sl l1 l2 l3 l4 l5
  obtain ⟨d, hd, hn⟩ := List.any_eq_true.mp hx
  obtain ⟨a1, o1, fd1, c1, P1, q1, q2, q3, q4, _, q6⟩ := T.tab d hd
  have q1' : mg x = some (.ref a1) := by
    rw [← beq_iff_eq.mp hn]
    exact q1
  cases hm.symm.trans q1'
  cases (X _ _ l1).symm.trans q2
  cases l2.symm.trans q3
  cases l3.symm.trans q4
  obtain ⟨⟨oc, vc, w1, _, w3, w4⟩, w5⟩ := q6
  cases (X _ _ l4).symm.trans w1
  cases w3
  cases l5.symm.trans w4
  exact w5
theorem walk_two {l : PySem.W.OpenLaw} {n k : Nat} {q : Program} {loose : List Str} {XP : (Str → Option Value) → Heap → Prop} {YP : World → Heap → Prop} {d : DefRec} {K : Params → PySem.W.Frag} {x y : Str}
    (hn : l.most = some n) (hz : n ≤ sizeLine) (hdf : d.params.defaults = []) (hr : Room k callerA) (h1 : ((recsOf q).any fun e => e.name == d.name) = true) (h2 : ((recsOf q).any fun e => e.name == y) = true) (hY : ∀ (w : World) (h : Heap), YP w h → (K w.params).In h)
    (F : ∀ (w : World) (mg : Str → Option Value) (fa : Addr) (h : Heap), (K w.params).In h → h.Ns mainGlobals mg → mg d.name = some (.ref fa) → LamX.OwnTab (K w.params) fa h → (∀ fb, mg y = some (.ref fb) → LamX.OwnTab (K w.params) fb h) → LamX.LawAtS l w (K w.params) CX0 k n x mg fa h) :
    PySem.W.WalkO q loose XP YP l.row.toRowW d [] (fun f vs => PySem.call f vs) := by
  refine Att.attach_callB hn hdf fun w u0 u1 mg mb fa o pm cd doc a vs ns G Y ho hd hc hmg hob hin hlen hbt hge => ?_
  have X := hY w _ Y
  obtain ⟨fd, cs, sp, hT, nT, C, hbi, hsp, hF⟩ := F w mg fa _ X G.T.g hmg (own_tab G.T X h1 hmg) fun fb hfb => own_tab G.T X h2 hfb
  exact LamX.law_callTs X G.T.g G.T.b G.T.builtins G.T.nolimit hge hT nT C G.T.bmain hob hin (Nat.le_trans hlen hz) hr hF hbi (fun H hH hS => hsp H a ns hlen hbt hH hS) fun _ _ _ z => z
end Cu

namespace Cu
open PySem PySem.Spec PyProof.Rows L2
theorem facts {l : PySem.W.OpenLaw} {w : World} {K : PySem.W.Frag} {h : Heap} {mg : Str → Option Value} {fa C_Board C_Hearer C_CatchError C_BadKnown C_BadText C_BadBoard C_NoKey C_BadChange C_BadPart C_BadPrices f1 f2 f3 f4 f5 f6 c_counted P_counted f7 f8 f9 f10 f11 f12 f13 f14 f15 f16 f17 f18 f19 f20 f21 f22 f23 f24 f25 f26 f27 f28 f29 c_law P_law : Addr} (X : K.In h) (G : h.Ns mainGlobals mg) (hfa : mg "law" = some (.ref fa))
    {od1 an1 od2 an2 od3 an3 od4 an4 od5 an5 od6 an6 ld_counted od7 an7 od8 an8 od9 an9 od10 an10 od11 an11 od12 an12 od13 an13 od14 an14 od15 an15 od16 an16 od17 an17 od18 an18 od19 an19 od20 an20 od21 an21 od22 an22 od23 an23 od24 an24 od25 an25 od26 an26 od27 an27 od28 an28 od29 an29 ld_law : Option Addr} {sl1 sl2 sl3 sl4 sl5 sl6 lsl_counted sl7 sl8 sl9 sl10 sl11 sl12 sl13 sl14 sl15 sl16 sl17 sl18 sl19 sl20 sl21 sl22 sl23 sl24 sl25 sl26 sl27 sl28 sl29 lsl_law : Array (Option Value)} {oc1 kV1 dc1 pm1 cd1 ct1 oc2 kV2 dc2 pm2 cd2 ct2 oc3 kV3 dc3 pm3 cd3 ct3 oc4 kV4 dc4 pm4 cd4 ct4 oc5 kV5 dc5 pm5 cd5 ct5 oc6 kV6 dc6 pm6 cd6 ct6 le_counted oc7 kV7 dc7 pm7 cd7 ct7 oc8 kV8 dc8 pm8 cd8 ct8 oc9 kV9 dc9 pm9 cd9 ct9 oc10 kV10 dc10 pm10 cd10 ct10 oc11 kV11 dc11 pm11 cd11 ct11 oc12 kV12 dc12 pm12 cd12 ct12 oc13 kV13 dc13 pm13 cd13 ct13 oc14 kV14 dc14 pm14 cd14 ct14 oc15 kV15 dc15 pm15 cd15 ct15 oc16 kV16 dc16 pm16 cd16 ct16 oc17 kV17 dc17 pm17 cd17 ct17 oc18 kV18 dc18 pm18 cd18 ct18 oc19 kV19 dc19 pm19 cd19 ct19 oc20 kV20 dc20 pm20 cd20 ct20 oc21 kV21 dc21 pm21 cd21 ct21 oc22 kV22 dc22 pm22 cd22 ct22 oc23 kV23 dc23 pm23 cd23 ct23 oc24 kV24 dc24 pm24 cd24 ct24 oc25 kV25 dc25 pm25 cd25 ct25 oc26 kV26 dc26 pm26 cd26 ct26 oc27 kV27 dc27 pm27 cd27 ct27 oc28 kV28 dc28 pm28 cd28 ct28 oc29 kV29 dc29 pm29 cd29 ct29 le_law : Value} {tk_MOST_KEYS tk_MOST_TAIL : Tok} {nm_BadKnown qn_BadKnown : Str} {N_BadKnown : Addr} {bs_BadKnown : List Value} {sn_BadKnown : List Str} {sb_BadKnown : List Value} {ab_BadKnown : Bool} {col_BadKnown : Option Bool} {dd_BadKnown : Option Addr} {m0_BadKnown m1_BadKnown m2_BadKnown m3_BadKnown m5_BadKnown : Option Value} {nm_BadText qn_BadText : Str} {N_BadText : Addr} {bs_BadText : List Value} {sn_BadText : List Str} {sb_BadText : List Value} {ab_BadText : Bool} {col_BadText : Option Bool} {dd_BadText : Option Addr} {m0_BadText m1_BadText m2_BadText m3_BadText m5_BadText : Option Value} {lvs_counted : Array Value} {lvs_law : Array Value}
    (b_len : PySem.W.nsIn K mainGlobals "len" = some none)
    (b_range : PySem.W.nsIn K mainGlobals "range" = some none)
    (b_int : PySem.W.nsIn K mainGlobals "int" = some none)
    (b_list : PySem.W.nsIn K mainGlobals "list" = some none)
    (b_tuple : PySem.W.nsIn K mainGlobals "tuple" = some none)
    (b_sorted : PySem.W.nsIn K mainGlobals "sorted" = some none)
    (b_min : PySem.W.nsIn K mainGlobals "min" = some none)
    (b_max : PySem.W.nsIn K mainGlobals "max" = some none)
    (b_sum : PySem.W.nsIn K mainGlobals "sum" = some none)
    (b_set : PySem.W.nsIn K mainGlobals "set" = some none)
    (b_str : PySem.W.nsIn K mainGlobals "str" = some none)
    (b_isinstance : PySem.W.nsIn K mainGlobals "isinstance" = some none)
    (b_enumerate : PySem.W.nsIn K mainGlobals "enumerate" = some none)
    (b_zip : PySem.W.nsIn K mainGlobals "zip" = some none)
    (b_bool : PySem.W.nsIn K mainGlobals "bool" = some none)
    (b_dict : PySem.W.nsIn K mainGlobals "dict" = some none)
    (c_MOST_KEYS : PySem.W.nsIn K mainGlobals "MOST_KEYS" = some (some (.int 8 tk_MOST_KEYS)))
    (c_MOST_TAIL : PySem.W.nsIn K mainGlobals "MOST_TAIL" = some (some (.int 20 tk_MOST_TAIL)))
    (ac_Board : PySem.W.nsIn K mainGlobals "Board" = some (some (.ref C_Board)))
    (pg_Board : PySem.W.plainGet K C_Board Str.empty = true)
    (hd_Board : PySem.W.hasDictIn K C_Board = true)
    (po_Board : PySem.W.plainOver K C_Board = true)
    (sa_Board : PySem.W.findIn K (.ref C_Board) "__setattr__" = some (some (.builtin "object.__setattr__")))
    (no0_Board : PySem.W.findIn K (.ref C_Board) "now" = some none)
    (no1_Board : PySem.W.findIn K (.ref C_Board) "keep" = some none)
    (no2_Board : PySem.W.findIn K (.ref C_Board) "rows" = some none)
    (no3_Board : PySem.W.findIn K (.ref C_Board) "many" = some none)
    (no4_Board : PySem.W.findIn K (.ref C_Board) "last" = some none)
    (ac_Hearer : PySem.W.nsIn K mainGlobals "Hearer" = some (some (.ref C_Hearer)))
    (pg_Hearer : PySem.W.plainGet K C_Hearer Str.empty = true)
    (hd_Hearer : PySem.W.hasDictIn K C_Hearer = true)
    (po_Hearer : PySem.W.plainOver K C_Hearer = true)
    (sa_Hearer : PySem.W.findIn K (.ref C_Hearer) "__setattr__" = some (some (.builtin "object.__setattr__")))
    (no0_Hearer : PySem.W.findIn K (.ref C_Hearer) "worth" = some none)
    (no1_Hearer : PySem.W.findIn K (.ref C_Hearer) "since" = some none)
    (no2_Hearer : PySem.W.findIn K (.ref C_Hearer) "upto" = some none)
    (no3_Hearer : PySem.W.findIn K (.ref C_Hearer) "aside" = some none)
    (ac_CatchError : PySem.W.nsIn K mainGlobals "CatchError" = some (some (.ref C_CatchError)))
    (rd_CatchError : PySem.W.readsIn K C_CatchError (.type "type") = true)
    (ge_CatchError : PySem.W.specialIn K (.ref C_CatchError) "__getattribute__" = some (some (.builtin "type.__getattribute__")))
    (ci_CatchError : PySem.W.findCls K (.ref C_CatchError) (.type "type") "__init__" = some (.val (.builtin "ValueError.__init__")))
    (ac_BadKnown : PySem.W.nsIn K mainGlobals "BadKnown" = some (some (.ref C_BadKnown)))
    (xl_BadKnown : K.lookup C_BadKnown = some (excClassObj nm_BadKnown qn_BadKnown C_BadKnown N_BadKnown bs_BadKnown [.ref C_CatchError, .type "ValueError", .type "Exception", .type "BaseException", .type "object"] true sn_BadKnown sb_BadKnown ab_BadKnown col_BadKnown dd_BadKnown m0_BadKnown m1_BadKnown m2_BadKnown m3_BadKnown m5_BadKnown "ValueError.__new__"))
    (sa_BadKnown : PySem.W.findIn K (.ref C_BadKnown) "__setattr__" = some (some (.builtin "object.__setattr__")))
    (eC_BadKnown : PySem.W.subIn K (.ref C_BadKnown) (.type "BaseException") = some true)
    (tC_BadKnown : PySem.W.typeIn K (.ref C_BadKnown) = some (.type "type"))
    (kC_BadKnown : PySem.W.keepIn K (.ref C_BadKnown) = true)
    (ga_BadKnown : PySem.W.findIn K (.ref C_BadKnown) "__getattribute__" = some (some (.builtin "BaseException.__getattribute__")))
    (gg_BadKnown : PySem.W.findIn K (.ref C_BadKnown) "__getattr__" = some none)
    (hC_BadKnown : PySem.W.hasDictIn K C_BadKnown = true)
    (nf_BadKnown : PySem.W.findIn K (.ref C_BadKnown) "key" = some none)
    (ac_BadText : PySem.W.nsIn K mainGlobals "BadText" = some (some (.ref C_BadText)))
    (xl_BadText : K.lookup C_BadText = some (excClassObj nm_BadText qn_BadText C_BadText N_BadText bs_BadText [.ref C_CatchError, .type "ValueError", .type "Exception", .type "BaseException", .type "object"] true sn_BadText sb_BadText ab_BadText col_BadText dd_BadText m0_BadText m1_BadText m2_BadText m3_BadText m5_BadText "ValueError.__new__"))
    (sa_BadText : PySem.W.findIn K (.ref C_BadText) "__setattr__" = some (some (.builtin "object.__setattr__")))
    (eC_BadText : PySem.W.subIn K (.ref C_BadText) (.type "BaseException") = some true)
    (tC_BadText : PySem.W.typeIn K (.ref C_BadText) = some (.type "type"))
    (kC_BadText : PySem.W.keepIn K (.ref C_BadText) = true)
    (ga_BadText : PySem.W.findIn K (.ref C_BadText) "__getattribute__" = some (some (.builtin "BaseException.__getattribute__")))
    (gg_BadText : PySem.W.findIn K (.ref C_BadText) "__getattr__" = some none)
    (hC_BadText : PySem.W.hasDictIn K C_BadText = true)
    (nf_BadText : PySem.W.findIn K (.ref C_BadText) "place" = some none)
    (ac_BadBoard : PySem.W.nsIn K mainGlobals "BadBoard" = some (some (.ref C_BadBoard)))
    (xi_BadBoard : PySem.W.excIn K C_BadBoard [.type "ValueError", .type "Exception", .type "BaseException", .type "object"] "ValueError.__new__" = true)
    (kC_BadBoard : PySem.W.keepIn K (.ref C_BadBoard) = true)
    (eC_BadBoard : PySem.W.subIn K (.ref C_BadBoard) (.type "BaseException") = some true)
    (tC_BadBoard : PySem.W.typeIn K (.ref C_BadBoard) = some (.type "type"))
    (ac_NoKey : PySem.W.nsIn K mainGlobals "NoKey" = some (some (.ref C_NoKey)))
    (xi_NoKey : PySem.W.excIn K C_NoKey [.type "ValueError", .type "Exception", .type "BaseException", .type "object"] "ValueError.__new__" = true)
    (kC_NoKey : PySem.W.keepIn K (.ref C_NoKey) = true)
    (eC_NoKey : PySem.W.subIn K (.ref C_NoKey) (.type "BaseException") = some true)
    (tC_NoKey : PySem.W.typeIn K (.ref C_NoKey) = some (.type "type"))
    (ac_BadChange : PySem.W.nsIn K mainGlobals "BadChange" = some (some (.ref C_BadChange)))
    (xi_BadChange : PySem.W.excIn K C_BadChange [.type "ValueError", .type "Exception", .type "BaseException", .type "object"] "ValueError.__new__" = true)
    (kC_BadChange : PySem.W.keepIn K (.ref C_BadChange) = true)
    (eC_BadChange : PySem.W.subIn K (.ref C_BadChange) (.type "BaseException") = some true)
    (tC_BadChange : PySem.W.typeIn K (.ref C_BadChange) = some (.type "type"))
    (ac_BadPart : PySem.W.nsIn K mainGlobals "BadPart" = some (some (.ref C_BadPart)))
    (xi_BadPart : PySem.W.excIn K C_BadPart [.type "ValueError", .type "Exception", .type "BaseException", .type "object"] "ValueError.__new__" = true)
    (kC_BadPart : PySem.W.keepIn K (.ref C_BadPart) = true)
    (eC_BadPart : PySem.W.subIn K (.ref C_BadPart) (.type "BaseException") = some true)
    (tC_BadPart : PySem.W.typeIn K (.ref C_BadPart) = some (.type "type"))
    (ac_BadPrices : PySem.W.nsIn K mainGlobals "BadPrices" = some (some (.ref C_BadPrices)))
    (xi_BadPrices : PySem.W.excIn K C_BadPrices [.type "ValueError", .type "Exception", .type "BaseException", .type "object"] "ValueError.__new__" = true)
    (kC_BadPrices : PySem.W.keepIn K (.ref C_BadPrices) = true)
    (eC_BadPrices : PySem.W.subIn K (.ref C_BadPrices) (.type "BaseException") = some true)
    (tC_BadPrices : PySem.W.typeIn K (.ref C_BadPrices) = some (.type "type"))
    (b_ValueError : PySem.W.nsIn K mainGlobals "ValueError" = some none)
    (ga_NoKey : PySem.W.findIn K (.ref C_NoKey) "__getattribute__" = some (some (.builtin "BaseException.__getattribute__")))
    (gg_NoKey : PySem.W.findIn K (.ref C_NoKey) "__getattr__" = some none)
    (hC_NoKey : PySem.W.hasDictIn K C_NoKey = true)
    (cl_NoKey : PySem.W.findIn K (.ref C_NoKey) "__class__" = some (some (.builtin "object.__class__")))
    (cg_ : PySem.W.specialIn K (.builtin "object.__class__") "__get__" = some (some (.builtin "getset_descriptor.__get__")))
    (ct_ : PySem.W.takesIn K (.builtin "object.__class__") = some true)
    (mo_NoKey : PySem.W.mroIn K C_NoKey (.type "object") = some true)
    (em_NoKey : PySem.W.exmOne K (.ref C_NoKey) (.ref C_CatchError) = some true)
    (ki0_NoKey : PySem.W.kitOne K (.ref C_NoKey) (.ref C_BadBoard) = some false)
    (ki1_NoKey : PySem.W.kitOne K (.ref C_NoKey) (.ref C_NoKey) = some true)
    (ki2_NoKey : PySem.W.kitOne K (.ref C_NoKey) (.ref C_BadChange) = some false)
    (ki3_NoKey : PySem.W.kitOne K (.ref C_NoKey) (.ref C_BadPart) = some false)
    (ki4_NoKey : PySem.W.kitOne K (.ref C_NoKey) (.ref C_BadKnown) = some false)
    (ki5_NoKey : PySem.W.kitOne K (.ref C_NoKey) (.ref C_BadPrices) = some false)
    (ki6_NoKey : PySem.W.kitOne K (.ref C_NoKey) (.ref C_BadText) = some false)
    (kv_NoKey : PySem.W.kitOne K (.ref C_NoKey) (.type "ValueError") = some true)
    (ga_BadChange : PySem.W.findIn K (.ref C_BadChange) "__getattribute__" = some (some (.builtin "BaseException.__getattribute__")))
    (gg_BadChange : PySem.W.findIn K (.ref C_BadChange) "__getattr__" = some none)
    (hC_BadChange : PySem.W.hasDictIn K C_BadChange = true)
    (cl_BadChange : PySem.W.findIn K (.ref C_BadChange) "__class__" = some (some (.builtin "object.__class__")))
    (mo_BadChange : PySem.W.mroIn K C_BadChange (.type "object") = some true)
    (em_BadChange : PySem.W.exmOne K (.ref C_BadChange) (.ref C_CatchError) = some true)
    (ki0_BadChange : PySem.W.kitOne K (.ref C_BadChange) (.ref C_BadBoard) = some false)
    (ki1_BadChange : PySem.W.kitOne K (.ref C_BadChange) (.ref C_NoKey) = some false)
    (ki2_BadChange : PySem.W.kitOne K (.ref C_BadChange) (.ref C_BadChange) = some true)
    (ki3_BadChange : PySem.W.kitOne K (.ref C_BadChange) (.ref C_BadPart) = some false)
    (ki4_BadChange : PySem.W.kitOne K (.ref C_BadChange) (.ref C_BadKnown) = some false)
    (ki5_BadChange : PySem.W.kitOne K (.ref C_BadChange) (.ref C_BadPrices) = some false)
    (ki6_BadChange : PySem.W.kitOne K (.ref C_BadChange) (.ref C_BadText) = some false)
    (kv_BadChange : PySem.W.kitOne K (.ref C_BadChange) (.type "ValueError") = some true)
    (ga_BadPart : PySem.W.findIn K (.ref C_BadPart) "__getattribute__" = some (some (.builtin "BaseException.__getattribute__")))
    (gg_BadPart : PySem.W.findIn K (.ref C_BadPart) "__getattr__" = some none)
    (hC_BadPart : PySem.W.hasDictIn K C_BadPart = true)
    (cl_BadPart : PySem.W.findIn K (.ref C_BadPart) "__class__" = some (some (.builtin "object.__class__")))
    (mo_BadPart : PySem.W.mroIn K C_BadPart (.type "object") = some true)
    (em_BadPart : PySem.W.exmOne K (.ref C_BadPart) (.ref C_CatchError) = some true)
    (ki0_BadPart : PySem.W.kitOne K (.ref C_BadPart) (.ref C_BadBoard) = some false)
    (ki1_BadPart : PySem.W.kitOne K (.ref C_BadPart) (.ref C_NoKey) = some false)
    (ki2_BadPart : PySem.W.kitOne K (.ref C_BadPart) (.ref C_BadChange) = some false)
    (ki3_BadPart : PySem.W.kitOne K (.ref C_BadPart) (.ref C_BadPart) = some true)
    (ki4_BadPart : PySem.W.kitOne K (.ref C_BadPart) (.ref C_BadKnown) = some false)
    (ki5_BadPart : PySem.W.kitOne K (.ref C_BadPart) (.ref C_BadPrices) = some false)
    (ki6_BadPart : PySem.W.kitOne K (.ref C_BadPart) (.ref C_BadText) = some false)
    (kv_BadPart : PySem.W.kitOne K (.ref C_BadPart) (.type "ValueError") = some true)
    (cl_BadKnown : PySem.W.findIn K (.ref C_BadKnown) "__class__" = some (some (.builtin "object.__class__")))
    (mo_BadKnown : PySem.W.mroIn K C_BadKnown (.type "object") = some true)
    (em_BadKnown : PySem.W.exmOne K (.ref C_BadKnown) (.ref C_CatchError) = some true)
    (ki0_BadKnown : PySem.W.kitOne K (.ref C_BadKnown) (.ref C_BadBoard) = some false)
    (ki1_BadKnown : PySem.W.kitOne K (.ref C_BadKnown) (.ref C_NoKey) = some false)
    (ki2_BadKnown : PySem.W.kitOne K (.ref C_BadKnown) (.ref C_BadChange) = some false)
    (ki3_BadKnown : PySem.W.kitOne K (.ref C_BadKnown) (.ref C_BadPart) = some false)
    (ki4_BadKnown : PySem.W.kitOne K (.ref C_BadKnown) (.ref C_BadKnown) = some true)
    (ki5_BadKnown : PySem.W.kitOne K (.ref C_BadKnown) (.ref C_BadPrices) = some false)
    (ki6_BadKnown : PySem.W.kitOne K (.ref C_BadKnown) (.ref C_BadText) = some false)
    (kv_BadKnown : PySem.W.kitOne K (.ref C_BadKnown) (.type "ValueError") = some true)
    (ga_BadPrices : PySem.W.findIn K (.ref C_BadPrices) "__getattribute__" = some (some (.builtin "BaseException.__getattribute__")))
    (gg_BadPrices : PySem.W.findIn K (.ref C_BadPrices) "__getattr__" = some none)
    (hC_BadPrices : PySem.W.hasDictIn K C_BadPrices = true)
    (cl_BadPrices : PySem.W.findIn K (.ref C_BadPrices) "__class__" = some (some (.builtin "object.__class__")))
    (mo_BadPrices : PySem.W.mroIn K C_BadPrices (.type "object") = some true)
    (em_BadPrices : PySem.W.exmOne K (.ref C_BadPrices) (.ref C_CatchError) = some true)
    (ki0_BadPrices : PySem.W.kitOne K (.ref C_BadPrices) (.ref C_BadBoard) = some false)
    (ki1_BadPrices : PySem.W.kitOne K (.ref C_BadPrices) (.ref C_NoKey) = some false)
    (ki2_BadPrices : PySem.W.kitOne K (.ref C_BadPrices) (.ref C_BadChange) = some false)
    (ki3_BadPrices : PySem.W.kitOne K (.ref C_BadPrices) (.ref C_BadPart) = some false)
    (ki4_BadPrices : PySem.W.kitOne K (.ref C_BadPrices) (.ref C_BadKnown) = some false)
    (ki5_BadPrices : PySem.W.kitOne K (.ref C_BadPrices) (.ref C_BadPrices) = some true)
    (ki6_BadPrices : PySem.W.kitOne K (.ref C_BadPrices) (.ref C_BadText) = some false)
    (kv_BadPrices : PySem.W.kitOne K (.ref C_BadPrices) (.type "ValueError") = some true)
    (ga_BadBoard : PySem.W.findIn K (.ref C_BadBoard) "__getattribute__" = some (some (.builtin "BaseException.__getattribute__")))
    (gg_BadBoard : PySem.W.findIn K (.ref C_BadBoard) "__getattr__" = some none)
    (hC_BadBoard : PySem.W.hasDictIn K C_BadBoard = true)
    (cl_BadBoard : PySem.W.findIn K (.ref C_BadBoard) "__class__" = some (some (.builtin "object.__class__")))
    (mo_BadBoard : PySem.W.mroIn K C_BadBoard (.type "object") = some true)
    (em_BadBoard : PySem.W.exmOne K (.ref C_BadBoard) (.ref C_CatchError) = some true)
    (ki0_BadBoard : PySem.W.kitOne K (.ref C_BadBoard) (.ref C_BadBoard) = some true)
    (ki1_BadBoard : PySem.W.kitOne K (.ref C_BadBoard) (.ref C_NoKey) = some false)
    (ki2_BadBoard : PySem.W.kitOne K (.ref C_BadBoard) (.ref C_BadChange) = some false)
    (ki3_BadBoard : PySem.W.kitOne K (.ref C_BadBoard) (.ref C_BadPart) = some false)
    (ki4_BadBoard : PySem.W.kitOne K (.ref C_BadBoard) (.ref C_BadKnown) = some false)
    (ki5_BadBoard : PySem.W.kitOne K (.ref C_BadBoard) (.ref C_BadPrices) = some false)
    (ki6_BadBoard : PySem.W.kitOne K (.ref C_BadBoard) (.ref C_BadText) = some false)
    (kv_BadBoard : PySem.W.kitOne K (.ref C_BadBoard) (.type "ValueError") = some true)
    (a1 : PySem.W.nsIn K mainGlobals "_law_told" = some (some (.ref f1)))
    (l1 : K.lookup f1 = some ⟨oc1, od1, .func (PySem.W.fnOf "_law_told" "_law_told" (defArgs s_told) (defBody s_told) (defScope s_told) .none kV1 dc1 pm1 an1 cd1 ct1), sl1⟩)
    (d1 : PySem.W.codeIn K cd1 "_law_told" = true)
    (k1 : PySem.W.keepIn K (.ref f1) = true)
    (a2 : PySem.W.nsIn K mainGlobals "_law_dice" = some (some (.ref f2)))
    (l2 : K.lookup f2 = some ⟨oc2, od2, .func (PySem.W.fnOf "_law_dice" "_law_dice" (defArgs s_dice) (defBody s_dice) (defScope s_dice) .none kV2 dc2 pm2 an2 cd2 ct2), sl2⟩)
    (d2 : PySem.W.codeIn K cd2 "_law_dice" = true)
    (k2 : PySem.W.keepIn K (.ref f2) = true)
    (a3 : PySem.W.nsIn K mainGlobals "_law_next" = some (some (.ref f3)))
    (l3 : K.lookup f3 = some ⟨oc3, od3, .func (PySem.W.fnOf "_law_next" "_law_next" (defArgs s_next) (defBody s_next) (defScope s_next) .none kV3 dc3 pm3 an3 cd3 ct3), sl3⟩)
    (d3 : PySem.W.codeIn K cd3 "_law_next" = true)
    (k3 : PySem.W.keepIn K (.ref f3) = true)
    (a4 : PySem.W.findIn K (.ref C_Board) "__init__" = some (some (.ref f4)))
    (i4 : PySem.W.isFn K (.ref f4) = true)
    (l4 : K.lookup f4 = some ⟨oc4, od4, .func (PySem.W.fnOf "__init__" "Board.__init__" (defArgs s_Board_init) (defBody s_Board_init) (defScope s_Board_init) .none kV4 dc4 pm4 an4 cd4 ct4), sl4⟩)
    (d4 : PySem.W.codeIn K cd4 "Board.__init__" = true)
    (k4 : PySem.W.keepIn K (.ref f4) = true)
    (mk_Board : PySem.W.makesIn K C_Board = true)
    (kc_Board : PySem.W.keepIn K (.ref C_Board) = true)
    (a5 : PySem.W.findIn K (.ref C_Hearer) "__init__" = some (some (.ref f5)))
    (i5 : PySem.W.isFn K (.ref f5) = true)
    (l5 : K.lookup f5 = some ⟨oc5, od5, .func (PySem.W.fnOf "__init__" "Hearer.__init__" (defArgs s_Hearer_init) (defBody s_Hearer_init) (defScope s_Hearer_init) .none kV5 dc5 pm5 an5 cd5 ct5), sl5⟩)
    (d5 : PySem.W.codeIn K cd5 "Hearer.__init__" = true)
    (k5 : PySem.W.keepIn K (.ref f5) = true)
    (mk_Hearer : PySem.W.makesIn K C_Hearer = true)
    (kc_Hearer : PySem.W.keepIn K (.ref C_Hearer) = true)
    (a6 : PySem.W.nsIn K mainGlobals "_law_counted" = some (some (.ref f6)))
    (l6 : K.lookup f6 = some ⟨oc6, od6, .func (PySem.W.fnOf "_law_counted" "_law_counted" (defArgs s_counted) (defBody s_counted) (defScope s_counted) .none kV6 dc6 pm6 an6 cd6 ct6), sl6⟩)
    (d6 : PySem.W.codeIn K cd6 "_law_counted" = true)
    (k6 : PySem.W.keepIn K (.ref f6) = true)
    (lc_counted : cd6 = .ref c_counted)
    (ll_counted : K.lookup c_counted = some ⟨le_counted, ld_counted, .fields lvs_counted, lsl_counted⟩)
    (lp_counted : lvs_counted[11]? = some (.ref P_counted))
    (ln_counted : K.lookup P_counted = none)
    (lh_counted : PySem.W.codeHdIn K c_counted P_counted = true)
    (ne_counted : P_law ≠ P_counted)
    (a7 : PySem.W.nsIn K mainGlobals "_law_counts" = some (some (.ref f7)))
    (l7 : K.lookup f7 = some ⟨oc7, od7, .func (PySem.W.fnOf "_law_counts" "_law_counts" (defArgs s_counts) (defBody s_counts) (defScope s_counts) .none kV7 dc7 pm7 an7 cd7 ct7), sl7⟩)
    (d7 : PySem.W.codeIn K cd7 "_law_counts" = true)
    (k7 : PySem.W.keepIn K (.ref f7) = true)
    (a8 : PySem.W.nsIn K mainGlobals "_law_worth" = some (some (.ref f8)))
    (l8 : K.lookup f8 = some ⟨oc8, od8, .func (PySem.W.fnOf "_law_worth" "_law_worth" (defArgs s_worth) (defBody s_worth) (defScope s_worth) .none kV8 dc8 pm8 an8 cd8 ct8), sl8⟩)
    (d8 : PySem.W.codeIn K cd8 "_law_worth" = true)
    (k8 : PySem.W.keepIn K (.ref f8) = true)
    (a9 : PySem.W.nsIn K mainGlobals "_law_changes" = some (some (.ref f9)))
    (l9 : K.lookup f9 = some ⟨oc9, od9, .func (PySem.W.fnOf "_law_changes" "_law_changes" (defArgs s_changes) (defBody s_changes) (defScope s_changes) .none kV9 dc9 pm9 an9 cd9 ct9), sl9⟩)
    (d9 : PySem.W.codeIn K cd9 "_law_changes" = true)
    (k9 : PySem.W.keepIn K (.ref f9) = true)
    (a10 : PySem.W.findIn K (.ref C_Board) "__init__" = some (some (.ref f10)))
    (i10 : PySem.W.isFn K (.ref f10) = true)
    (l10 : K.lookup f10 = some ⟨oc10, od10, .func (PySem.W.fnOf "__init__" "Board.__init__" (defArgs s_Board_init) (defBody s_Board_init) (defScope s_Board_init) .none kV10 dc10 pm10 an10 cd10 ct10), sl10⟩)
    (d10 : PySem.W.codeIn K cd10 "Board.__init__" = true)
    (k10 : PySem.W.keepIn K (.ref f10) = true)
    (a11 : PySem.W.findIn K (.ref C_Board) "change" = some (some (.ref f11)))
    (i11 : PySem.W.isFn K (.ref f11) = true)
    (l11 : K.lookup f11 = some ⟨oc11, od11, .func (PySem.W.fnOf "change" "Board.change" (defArgs s_Board_change) (defBody s_Board_change) (defScope s_Board_change) .none kV11 dc11 pm11 an11 cd11 ct11), sl11⟩)
    (d11 : PySem.W.codeIn K cd11 "Board.change" = true)
    (k11 : PySem.W.keepIn K (.ref f11) = true)
    (a12 : PySem.W.nsIn K mainGlobals "_law_made" = some (some (.ref f12)))
    (l12 : K.lookup f12 = some ⟨oc12, od12, .func (PySem.W.fnOf "_law_made" "_law_made" (defArgs s_made) (defBody s_made) (defScope s_made) .none kV12 dc12 pm12 an12 cd12 ct12), sl12⟩)
    (d12 : PySem.W.codeIn K cd12 "_law_made" = true)
    (k12 : PySem.W.keepIn K (.ref f12) = true)
    (a13 : PySem.W.findIn K (.ref C_Hearer) "__init__" = some (some (.ref f13)))
    (i13 : PySem.W.isFn K (.ref f13) = true)
    (l13 : K.lookup f13 = some ⟨oc13, od13, .func (PySem.W.fnOf "__init__" "Hearer.__init__" (defArgs s_Hearer_init) (defBody s_Hearer_init) (defScope s_Hearer_init) .none kV13 dc13 pm13 an13 cd13 ct13), sl13⟩)
    (d13 : PySem.W.codeIn K cd13 "Hearer.__init__" = true)
    (k13 : PySem.W.keepIn K (.ref f13) = true)
    (a14 : PySem.W.findIn K (.ref C_Board) "change" = some (some (.ref f14)))
    (i14 : PySem.W.isFn K (.ref f14) = true)
    (l14 : K.lookup f14 = some ⟨oc14, od14, .func (PySem.W.fnOf "change" "Board.change" (defArgs s_Board_change) (defBody s_Board_change) (defScope s_Board_change) .none kV14 dc14 pm14 an14 cd14 ct14), sl14⟩)
    (d14 : PySem.W.codeIn K cd14 "Board.change" = true)
    (k14 : PySem.W.keepIn K (.ref f14) = true)
    (a15 : PySem.W.findIn K (.ref C_Board) "part" = some (some (.ref f15)))
    (i15 : PySem.W.isFn K (.ref f15) = true)
    (l15 : K.lookup f15 = some ⟨oc15, od15, .func (PySem.W.fnOf "part" "Board.part" (defArgs s_Board_part) (defBody s_Board_part) (defScope s_Board_part) .none kV15 dc15 pm15 an15 cd15 ct15), sl15⟩)
    (d15 : PySem.W.codeIn K cd15 "Board.part" = true)
    (k15 : PySem.W.keepIn K (.ref f15) = true)
    (a16 : PySem.W.findIn K (.ref C_Hearer) "look" = some (some (.ref f16)))
    (i16 : PySem.W.isFn K (.ref f16) = true)
    (l16 : K.lookup f16 = some ⟨oc16, od16, .func (PySem.W.fnOf "look" "Hearer.look" (defArgs s_Hearer_look) (defBody s_Hearer_look) (defScope s_Hearer_look) .none kV16 dc16 pm16 an16 cd16 ct16), sl16⟩)
    (d16 : PySem.W.codeIn K cd16 "Hearer.look" = true)
    (k16 : PySem.W.keepIn K (.ref f16) = true)
    (a17 : PySem.W.nsIn K mainGlobals "_law_known" = some (some (.ref f17)))
    (l17 : K.lookup f17 = some ⟨oc17, od17, .func (PySem.W.fnOf "_law_known" "_law_known" (defArgs s_known) (defBody s_known) (defScope s_known) .none kV17 dc17 pm17 an17 cd17 ct17), sl17⟩)
    (d17 : PySem.W.codeIn K cd17 "_law_known" = true)
    (k17 : PySem.W.keepIn K (.ref f17) = true)
    (a18 : PySem.W.findIn K (.ref C_Board) "number" = some (some (.ref f18)))
    (i18 : PySem.W.isFn K (.ref f18) = true)
    (l18 : K.lookup f18 = some ⟨oc18, od18, .func (PySem.W.fnOf "number" "Board.number" (defArgs s_Board_number) (defBody s_Board_number) (defScope s_Board_number) .none kV18 dc18 pm18 an18 cd18 ct18), sl18⟩)
    (d18 : PySem.W.codeIn K cd18 "Board.number" = true)
    (k18 : PySem.W.keepIn K (.ref f18) = true)
    (a19 : PySem.W.nsIn K mainGlobals "_law_unknown" = some (some (.ref f19)))
    (l19 : K.lookup f19 = some ⟨oc19, od19, .func (PySem.W.fnOf "_law_unknown" "_law_unknown" (defArgs s_unknown) (defBody s_unknown) (defScope s_unknown) .none kV19 dc19 pm19 an19 cd19 ct19), sl19⟩)
    (d19 : PySem.W.codeIn K cd19 "_law_unknown" = true)
    (k19 : PySem.W.keepIn K (.ref f19) = true)
    (a20 : PySem.W.findIn K (.ref C_Board) "size" = some (some (.ref f20)))
    (i20 : PySem.W.isFn K (.ref f20) = true)
    (l20 : K.lookup f20 = some ⟨oc20, od20, .func (PySem.W.fnOf "size" "Board.size" (defArgs s_Board_size) (defBody s_Board_size) (defScope s_Board_size) .none kV20 dc20 pm20 an20 cd20 ct20), sl20⟩)
    (d20 : PySem.W.codeIn K cd20 "Board.size" = true)
    (k20 : PySem.W.keepIn K (.ref f20) = true)
    (a21 : PySem.W.findIn K (.ref C_BadKnown) "__init__" = some (some (.ref f21)))
    (i21 : PySem.W.typeIn K (.ref f21) = some (.type "function"))
    (l21 : K.lookup f21 = some ⟨oc21, od21, .func (PySem.W.fnOf "__init__" "BadKnown.__init__" (defArgs s_BadKnown_init) (defBody s_BadKnown_init) (defScope s_BadKnown_init) .none kV21 dc21 pm21 an21 cd21 ct21), sl21⟩)
    (d21 : PySem.W.codeIn K cd21 "BadKnown.__init__" = true)
    (k21 : PySem.W.keepIn K (.ref f21) = true)
    (a22 : PySem.W.nsIn K mainGlobals "need_known" = some (some (.ref f22)))
    (l22 : K.lookup f22 = some ⟨oc22, od22, .func (PySem.W.fnOf "need_known" "need_known" (defArgs s_need_known) (defBody s_need_known) (defScope s_need_known) .none kV22 dc22 pm22 an22 cd22 ct22), sl22⟩)
    (d22 : PySem.W.codeIn K cd22 "need_known" = true)
    (k22 : PySem.W.keepIn K (.ref f22) = true)
    (a23 : PySem.W.nsIn K mainGlobals "answer" = some (some (.ref f23)))
    (l23 : K.lookup f23 = some ⟨oc23, od23, .func (PySem.W.fnOf "answer" "answer" (defArgs s_answer) (defBody s_answer) (defScope s_answer) .none kV23 dc23 pm23 an23 cd23 ct23), sl23⟩)
    (d23 : PySem.W.codeIn K cd23 "answer" = true)
    (k23 : PySem.W.keepIn K (.ref f23) = true)
    (a24 : PySem.W.nsIn K mainGlobals "prices" = some (some (.ref f24)))
    (l24 : K.lookup f24 = some ⟨oc24, od24, .func (PySem.W.fnOf "prices" "prices" (defArgs s_prices) (defBody s_prices) (defScope s_prices) .none kV24 dc24 pm24 an24 cd24 ct24), sl24⟩)
    (d24 : PySem.W.codeIn K cd24 "prices" = true)
    (k24 : PySem.W.keepIn K (.ref f24) = true)
    (a25 : PySem.W.nsIn K mainGlobals "shows" = some (some (.ref f25)))
    (l25 : K.lookup f25 = some ⟨oc25, od25, .func (PySem.W.fnOf "shows" "shows" (defArgs s_shows) (defBody s_shows) (defScope s_shows) .none kV25 dc25 pm25 an25 cd25 ct25), sl25⟩)
    (d25 : PySem.W.codeIn K cd25 "shows" = true)
    (k25 : PySem.W.keepIn K (.ref f25) = true)
    (a26 : PySem.W.nsIn K mainGlobals "_law_story" = some (some (.ref f26)))
    (l26 : K.lookup f26 = some ⟨oc26, od26, .func (PySem.W.fnOf "_law_story" "_law_story" (defArgs s_story) (defBody s_story) (defScope s_story) .none kV26 dc26 pm26 an26 cd26 ct26), sl26⟩)
    (d26 : PySem.W.codeIn K cd26 "_law_story" = true)
    (k26 : PySem.W.keepIn K (.ref f26) = true)
    (a27 : PySem.W.findIn K (.ref C_Board) "worths" = some (some (.ref f27)))
    (i27 : PySem.W.isFn K (.ref f27) = true)
    (l27 : K.lookup f27 = some ⟨oc27, od27, .func (PySem.W.fnOf "worths" "Board.worths" (defArgs s_Board_worths) (defBody s_Board_worths) (defScope s_Board_worths) .none kV27 dc27 pm27 an27 cd27 ct27), sl27⟩)
    (d27 : PySem.W.codeIn K cd27 "Board.worths" = true)
    (k27 : PySem.W.keepIn K (.ref f27) = true)
    (a28 : PySem.W.nsIn K mainGlobals "_law_like" = some (some (.ref f28)))
    (l28 : K.lookup f28 = some ⟨oc28, od28, .func (PySem.W.fnOf "_law_like" "_law_like" (defArgs s_like) (defBody s_like) (defScope s_like) .none kV28 dc28 pm28 an28 cd28 ct28), sl28⟩)
    (d28 : PySem.W.codeIn K cd28 "_law_like" = true)
    (k28 : PySem.W.keepIn K (.ref f28) = true)
    (a29 : PySem.W.nsIn K mainGlobals "law" = some (some (.ref f29)))
    (l29 : K.lookup f29 = some ⟨oc29, od29, .func (PySem.W.fnOf "law" "law" (defArgs s_law) (defBody s_law) (defScope s_law) .none kV29 dc29 pm29 an29 cd29 ct29), sl29⟩)
    (d29 : PySem.W.codeIn K cd29 "law" = true)
    (k29 : PySem.W.keepIn K (.ref f29) = true)
    (lc_law : cd29 = .ref c_law)
    (ll_law : K.lookup c_law = some ⟨le_law, ld_law, .fields lvs_law, lsl_law⟩)
    (lp_law : lvs_law[11]? = some (.ref P_law))
    (ln_law : K.lookup P_law = none)
    (lh_law : PySem.W.codeHdIn K c_law P_law = true)
    (own : LamX.OwnTab K fa h) (own2 : ∀ fb, mg "_law_counted" = some (.ref fb) → LamX.OwnTab K fb h) : LamX.LawAtS l w K CX0 7 63 "_law_script" mg fa h := by
  have e := hfa.symm.trans (PySem.W.mg_of X G a29)
  cases e
  subst lc_law
  have hP := own c_law P_law _ _ le_law ld_law lvs_law lsl_law l29 rfl rfl ll_law lp_law
  have Bm : Blt mg := ⟨PySem.W.mg_none_of X G b_len, PySem.W.mg_none_of X G b_range, PySem.W.mg_none_of X G b_int, PySem.W.mg_none_of X G b_list, PySem.W.mg_none_of X G b_tuple, PySem.W.mg_none_of X G b_sorted, PySem.W.mg_none_of X G b_min, PySem.W.mg_none_of X G b_max, PySem.W.mg_none_of X G b_sum, PySem.W.mg_none_of X G b_set, PySem.W.mg_none_of X G b_str, PySem.W.mg_none_of X G b_isinstance, PySem.W.mg_none_of X G b_enumerate, PySem.W.mg_none_of X G b_zip, PySem.W.mg_none_of X G b_bool, PySem.W.mg_none_of X G b_dict⟩
  have km_MOST_KEYS := PySem.W.mg_of X G c_MOST_KEYS
  have km_MOST_TAIL := PySem.W.mg_of X G c_MOST_TAIL
  have CBoard : CBo K C_Board := ⟨⟨pg_Board, hd_Board, po_Board, sa_Board⟩, no0_Board, no1_Board, no2_Board, no3_Board, no4_Board⟩
  have CHearer : CHr K C_Hearer := ⟨⟨pg_Hearer, hd_Hearer, po_Hearer, sa_Hearer⟩, no0_Hearer, no1_Hearer, no2_Hearer, no3_Hearer⟩
  have CCatchError : CeR K mg C_CatchError := ⟨PySem.W.mg_of X G ac_CatchError, rd_CatchError, ge_CatchError, ci_CatchError⟩
  have XBadKnown : Xc K C_BadKnown "key" := ⟨⟨⟨nm_BadKnown, qn_BadKnown, N_BadKnown, bs_BadKnown, _, sn_BadKnown, sb_BadKnown, ab_BadKnown, col_BadKnown, dd_BadKnown, m0_BadKnown, m1_BadKnown, m2_BadKnown, m3_BadKnown, m5_BadKnown, xl_BadKnown, rfl⟩, sa_BadKnown, eC_BadKnown, tC_BadKnown, kC_BadKnown⟩, ⟨ga_BadKnown, gg_BadKnown, eC_BadKnown, hC_BadKnown⟩, nf_BadKnown⟩
  have XBadText : Xc K C_BadText "place" := ⟨⟨⟨nm_BadText, qn_BadText, N_BadText, bs_BadText, _, sn_BadText, sb_BadText, ab_BadText, col_BadText, dd_BadText, m0_BadText, m1_BadText, m2_BadText, m3_BadText, m5_BadText, xl_BadText, rfl⟩, sa_BadText, eC_BadText, tC_BadText, kC_BadText⟩, ⟨ga_BadText, gg_BadText, eC_BadText, hC_BadText⟩, nf_BadText⟩
  have XBadBoard : Xo K mg "BadBoard" C_BadBoard := ⟨PySem.W.mg_of X G ac_BadBoard, xi_BadBoard, kC_BadBoard, eC_BadBoard, tC_BadBoard⟩
  have XNoKey : Xo K mg "NoKey" C_NoKey := ⟨PySem.W.mg_of X G ac_NoKey, xi_NoKey, kC_NoKey, eC_NoKey, tC_NoKey⟩
  have XBadChange : Xo K mg "BadChange" C_BadChange := ⟨PySem.W.mg_of X G ac_BadChange, xi_BadChange, kC_BadChange, eC_BadChange, tC_BadChange⟩
  have XBadPart : Xo K mg "BadPart" C_BadPart := ⟨PySem.W.mg_of X G ac_BadPart, xi_BadPart, kC_BadPart, eC_BadPart, tC_BadPart⟩
  have XBadPrices : Xo K mg "BadPrices" C_BadPrices := ⟨PySem.W.mg_of X G ac_BadPrices, xi_BadPrices, kC_BadPrices, eC_BadPrices, tC_BadPrices⟩
  have nValueError := PySem.W.mg_none_of X G b_ValueError
  let Gs : Kx mg := ⟨C_CatchError, C_BadBoard, C_NoKey, C_BadChange, C_BadPart, C_BadKnown, C_BadPrices, C_BadText, PySem.W.mg_of X G ac_CatchError, PySem.W.mg_of X G ac_BadBoard, PySem.W.mg_of X G ac_NoKey, PySem.W.mg_of X G ac_BadChange, PySem.W.mg_of X G ac_BadPart, PySem.W.mg_of X G ac_BadKnown, PySem.W.mg_of X G ac_BadPrices, PySem.W.mg_of X G ac_BadText⟩
  have xo_NoKey : XOf K Gs C_NoKey 1 := ⟨⟨ga_NoKey, gg_NoKey, eC_NoKey, hC_NoKey, cl_NoKey, cg_, ct_, mo_NoKey⟩, em_NoKey, ki0_NoKey, ki1_NoKey, ki2_NoKey, ki3_NoKey, ki4_NoKey, ki5_NoKey, ki6_NoKey, kv_NoKey, (fun z => absurd z (by decide)), (fun z => absurd z (by decide))⟩
  have xo_BadChange : XOf K Gs C_BadChange 2 := ⟨⟨ga_BadChange, gg_BadChange, eC_BadChange, hC_BadChange, cl_BadChange, cg_, ct_, mo_BadChange⟩, em_BadChange, ki0_BadChange, ki1_BadChange, ki2_BadChange, ki3_BadChange, ki4_BadChange, ki5_BadChange, ki6_BadChange, kv_BadChange, (fun z => absurd z (by decide)), (fun z => absurd z (by decide))⟩
  have xo_BadPart : XOf K Gs C_BadPart 3 := ⟨⟨ga_BadPart, gg_BadPart, eC_BadPart, hC_BadPart, cl_BadPart, cg_, ct_, mo_BadPart⟩, em_BadPart, ki0_BadPart, ki1_BadPart, ki2_BadPart, ki3_BadPart, ki4_BadPart, ki5_BadPart, ki6_BadPart, kv_BadPart, (fun z => absurd z (by decide)), (fun z => absurd z (by decide))⟩
  have xo_BadKnown : XOf K Gs C_BadKnown 4 := ⟨⟨ga_BadKnown, gg_BadKnown, eC_BadKnown, hC_BadKnown, cl_BadKnown, cg_, ct_, mo_BadKnown⟩, em_BadKnown, ki0_BadKnown, ki1_BadKnown, ki2_BadKnown, ki3_BadKnown, ki4_BadKnown, ki5_BadKnown, ki6_BadKnown, kv_BadKnown, (fun _ => rfl), (fun z => absurd z (by decide))⟩
  have xo_BadPrices : XOf K Gs C_BadPrices 5 := ⟨⟨ga_BadPrices, gg_BadPrices, eC_BadPrices, hC_BadPrices, cl_BadPrices, cg_, ct_, mo_BadPrices⟩, em_BadPrices, ki0_BadPrices, ki1_BadPrices, ki2_BadPrices, ki3_BadPrices, ki4_BadPrices, ki5_BadPrices, ki6_BadPrices, kv_BadPrices, (fun z => absurd z (by decide)), (fun z => absurd z (by decide))⟩
  have xo_BadBoard : XOf K Gs C_BadBoard 0 := ⟨⟨ga_BadBoard, gg_BadBoard, eC_BadBoard, hC_BadBoard, cl_BadBoard, cg_, ct_, mo_BadBoard⟩, em_BadBoard, ki0_BadBoard, ki1_BadBoard, ki2_BadBoard, ki3_BadBoard, ki4_BadBoard, ki5_BadBoard, ki6_BadBoard, kv_BadBoard, (fun z => absurd z (by decide)), (fun z => absurd z (by decide))⟩
  have F_told : Fd K mg "_law_told" s_told := ⟨_, _, fun_mk (st := s_told) l1 d1 k1, PySem.W.mg_of X G a1⟩
  have F2 : Fd K mg "_law_dice" s_dice := ⟨_, _, fun_mk (st := s_dice) l2 d2 k2, PySem.W.mg_of X G a2⟩
  have F3 : Fd K mg "_law_next" s_next := ⟨_, _, fun_mk (st := s_next) l3 d3 k3, PySem.W.mg_of X G a3⟩
  have F4 : Kd K mg "Board" C_Board "Board.__init__" s_Board_init := ⟨_, _, fun_mk (st := s_Board_init) l4 d4 k4, ⟨mk_Board, a4, i4, kc_Board⟩, PySem.W.mg_of X G ac_Board⟩
  have F5 : Kd K mg "Hearer" C_Hearer "Hearer.__init__" s_Hearer_init := ⟨_, _, fun_mk (st := s_Hearer_init) l5 d5 k5, ⟨mk_Hearer, a5, i5, kc_Hearer⟩, PySem.W.mg_of X G ac_Hearer⟩
  subst lc_counted
  have F6 := fun_mk (st := s_counted) l6 d6 k6
  have F7 : Fd K mg "_law_counts" s_counts := ⟨_, _, fun_mk (st := s_counts) l7 d7 k7, PySem.W.mg_of X G a7⟩
  have F8 : Fd K mg "_law_worth" s_worth := ⟨_, _, fun_mk (st := s_worth) l8 d8 k8, PySem.W.mg_of X G a8⟩
  have F9 : Fd K mg "_law_changes" s_changes := ⟨_, _, fun_mk (st := s_changes) l9 d9 k9, PySem.W.mg_of X G a9⟩
  have F10 : Kd K mg "Board" C_Board "Board.__init__" s_Board_init := ⟨_, _, fun_mk (st := s_Board_init) l10 d10 k10, ⟨mk_Board, a10, i10, kc_Board⟩, PySem.W.mg_of X G ac_Board⟩
  have F11 : Md K C_Board "change" "Board.change" s_Board_change := ⟨_, _, fun_mk (st := s_Board_change) l11 d11 k11, ⟨a11, i11, k11⟩⟩
  have F12 : Fd K mg "_law_made" s_made := ⟨_, _, fun_mk (st := s_made) l12 d12 k12, PySem.W.mg_of X G a12⟩
  have F13 : Kd K mg "Hearer" C_Hearer "Hearer.__init__" s_Hearer_init := ⟨_, _, fun_mk (st := s_Hearer_init) l13 d13 k13, ⟨mk_Hearer, a13, i13, kc_Hearer⟩, PySem.W.mg_of X G ac_Hearer⟩
  have F14 : Md K C_Board "change" "Board.change" s_Board_change := ⟨_, _, fun_mk (st := s_Board_change) l14 d14 k14, ⟨a14, i14, k14⟩⟩
  have F15 : Md K C_Board "part" "Board.part" s_Board_part := ⟨_, _, fun_mk (st := s_Board_part) l15 d15 k15, ⟨a15, i15, k15⟩⟩
  have F16 : Md K C_Hearer "look" "Hearer.look" s_Hearer_look := ⟨_, _, fun_mk (st := s_Hearer_look) l16 d16 k16, ⟨a16, i16, k16⟩⟩
  have F17 : Fd K mg "_law_known" s_known := ⟨_, _, fun_mk (st := s_known) l17 d17 k17, PySem.W.mg_of X G a17⟩
  have F18 : Md K C_Board "number" "Board.number" s_Board_number := ⟨_, _, fun_mk (st := s_Board_number) l18 d18 k18, ⟨a18, i18, k18⟩⟩
  have F19 : Fd K mg "_law_unknown" s_unknown := ⟨_, _, fun_mk (st := s_unknown) l19 d19 k19, PySem.W.mg_of X G a19⟩
  have F20 : Md K C_Board "size" "Board.size" s_Board_size := ⟨_, _, fun_mk (st := s_Board_size) l20 d20 k20, ⟨a20, i20, k20⟩⟩
  have F21 : Xd K mg "BadKnown" C_BadKnown "BadKnown.__init__" s_BadKnown_init := ⟨⟨_, _, fun_mk (st := s_BadKnown_init) l21 d21 k21, a21, i21⟩, PySem.W.mg_of X G ac_BadKnown⟩
  have F22 : Fd K mg "need_known" s_need_known := ⟨_, _, fun_mk (st := s_need_known) l22 d22 k22, PySem.W.mg_of X G a22⟩
  have F23 : Fd K mg "answer" s_answer := ⟨_, _, fun_mk (st := s_answer) l23 d23 k23, PySem.W.mg_of X G a23⟩
  have F24 : Fd K mg "prices" s_prices := ⟨_, _, fun_mk (st := s_prices) l24 d24 k24, PySem.W.mg_of X G a24⟩
  have F25 : Fd K mg "shows" s_shows := ⟨_, _, fun_mk (st := s_shows) l25 d25 k25, PySem.W.mg_of X G a25⟩
  have F26 : Fd K mg "_law_story" s_story := ⟨_, _, fun_mk (st := s_story) l26 d26 k26, PySem.W.mg_of X G a26⟩
  have F27 : Md K C_Board "worths" "Board.worths" s_Board_worths := ⟨_, _, fun_mk (st := s_Board_worths) l27 d27 k27, ⟨a27, i27, k27⟩⟩
  have F28 : Fd K mg "_law_like" s_like := ⟨_, _, fun_mk (st := s_like) l28 d28 k28, PySem.W.mg_of X G a28⟩
  have F29 := fun_mk (st := s_law) l29 d29 k29
  have hP2 := own2 _ (PySem.W.mg_of X G a6) c_counted P_counted _ _ le_counted ld_counted lvs_counted lsl_counted l6 rfl rfl ll_counted lp_counted
  have two : ∀ {f : Addr × Addr → Prop}, f (c_law, P_law) → f (c_counted, P_counted) → ∀ p ∈ [(c_law, P_law), (c_counted, P_counted)], f p := fun h1 h2 p hp => by
    simp only [List.mem_cons, List.not_mem_nil, or_false] at hp
    rcases hp with rfl | rfl
    · exact h1
    · exact h2
  refine ⟨PySem.W.fnOf "law" "law" (defArgs s_law) (defBody s_law) (defScope s_law) .none kV29 dc29 pm29 an29 (.ref c_law) ct29, [(c_law, P_law), (c_counted, P_counted)], spLawT2 K P_law P_counted, two (f := fun p => h.get? p.2 = some { cls := .none, data := .fields #[] }) hP hP2, two (f := fun p => K.lookup p.2 = none) ln_law ln_counted, two (f := fun p => PySem.W.CodeHd h p.1 p.2) (PySem.W.codeHd_of_K X lh_law) (PySem.W.codeHd_of_K X lh_counted), (fun s v => .of_eq rfl), (fun H a ns hl _ hT hS => ⟨rfl, a, ns, rfl, hl, hS, ne_counted, hT _ List.mem_cons_self, hT _ (List.mem_cons_of_mem _ List.mem_cons_self), fun _ => rfl⟩), fun base _ _ hTB => ?_⟩
  have TBl := hTB (c_law, P_law) List.mem_cons_self
  have TB_counted := hTB (c_counted, P_counted) (List.mem_cons_of_mem _ List.mem_cons_self)
  have hcode : (PySem.W.fnOf "law" "law" (defArgs s_law) (defBody s_law) (defScope s_law) .none kV29 dc29 pm29 an29 (.ref c_law) ct29).code = .ref c_law := rfl
  have g_dice := ok_dice (P := l.prog) (w := w) (base := base) F2 Bm
  have g_next := ok_next (P := l.prog) (w := w) (base := base) F3 Bm
  have k_BoardX := ok_BinitX (P := l.prog) (w := w) (base := base) F4 Bm km_MOST_KEYS km_MOST_TAIL XBadBoard
  have k_HearerX := ok_HinitX (P := l.prog) (w := w) (base := base) F5 Bm km_MOST_KEYS XBadBoard
  have g_counted := ok_counted (P := l.prog) (w := w) (base := base) F6 Bm (PySem.W.mg_of X G a6) rfl TB_counted F_told nValueError Gs XBadKnown XBadText xo_BadBoard g_next k_BoardX k_HearerX
  have g_counts := ok_counts (P := l.prog) (w := w) (base := base) F7 Bm g_next
  have g_worth := ok_worth (P := l.prog) (w := w) (base := base) F8 Bm g_next
  have g_changes := ok_changes (P := l.prog) (w := w) (base := base) F9 Bm g_next g_worth
  have k_Board := ok_Binit (P := l.prog) (w := w) (base := base) F10 Bm CBoard km_MOST_KEYS km_MOST_TAIL
  have m_Board_change := ok_Bchange (P := l.prog) (w := w) (base := base) F11 Bm CBoard
  have g_made := ok_made (P := l.prog) (w := w) (base := base) F12 Bm CBoard k_Board m_Board_change
  have k_Hearer := ok_Hinit (P := l.prog) (w := w) (base := base) F13 Bm CHearer km_MOST_KEYS
  have m_Board_changeX := ok_BchangeX (P := l.prog) (w := w) (base := base) F14 Bm CBoard XNoKey XBadChange
  have m_Board_partX := ok_BpartX (P := l.prog) (w := w) (base := base) F15 Bm CBoard XBadPart
  have m_Hearer_lookX := ok_lookX (P := l.prog) (w := w) (base := base) F16 Bm CHearer XNoKey
  have g_known := ok_lknown (P := l.prog) (w := w) (base := base) F17 Bm g_next
  have m_Board_number := ok_Bnumber (P := l.prog) (w := w) (base := base) F18 Bm CBoard
  have g_unknown := ok_unknown (P := l.prog) (w := w) (base := base) F19 Bm CBoard g_next m_Board_number
  have m_Board_size := ok_Bsize (P := l.prog) (w := w) (base := base) F20 Bm CBoard
  have x_BadKnown := ok_BadKnown (P := l.prog) (w := w) (base := base) F21 CCatchError XBadKnown
  have g_need_known := ok_need_knownX (P := l.prog) (w := w) (base := base) F22 Bm CBoard m_Board_size m_Board_number x_BadKnown XBadKnown
  have g_answer := ok_answerX (P := l.prog) (w := w) (base := base) F23 g_need_known
  have g_prices := ok_pricesX (P := l.prog) (w := w) (base := base) F24 g_need_known
  have g_shows := ok_showsX (P := l.prog) (w := w) (base := base) F25 Bm CBoard g_need_known m_Board_size XBadPrices
  have g_story := ok_story (P := l.prog) (w := w) (base := base) F26 Bm
  have m_Board_worths := ok_Bworths (P := l.prog) (w := w) (base := base) F27 Bm CBoard
  have g_like := ok_like (P := l.prog) (w := w) (base := base) F28 Bm
  exact ok_law (P := l.prog) (w := w) (base := base) F29 Bm hcode TBl F_told nValueError Gs CBoard CHearer XBadKnown XBadText xo_NoKey xo_BadChange xo_BadPart xo_BadKnown xo_BadPrices g_dice g_next g_counted g_counts g_changes g_made k_Hearer m_Board_changeX m_Board_partX m_Hearer_lookX g_known g_unknown m_Board_number g_answer g_prices g_shows g_story m_Board_worths m_Board_size g_like
end Cu
open PySem PySem.W PyProof.Rows
set_option maxHeartbeats 0 in
theorem PySem.Challenge.cw_catchup_k01_what_is_none_holds : PySem.Challenge.rw_catchup_k01_what_is_none.Holds := by
  w_on; o_law; k_head; (case hw => w_witness2)
  k_fill
  refine Cu.walk_two (l := PySem.Challenge.rw_catchup_k01_what_is_none) (n := 63) (k := 7) (x := "_law_script") (y := "_law_counted") rfl (by decide) rfl ⟨rfl, by decide, by decide⟩ (by decide +kernel) (by decide +kernel) (fun w h Y => PySem.W.km_in_of Y) ?F
  case F =>
    intro w mg fa h KX G hmg own own2
    refine' Cu.facts KX G hmg ?b_len ?b_range ?b_int ?b_list ?b_tuple ?b_sorted ?b_min ?b_max ?b_sum ?b_set ?b_str ?b_isinstance ?b_enumerate ?b_zip ?b_bool ?b_dict ?c_MOST_KEYS ?c_MOST_TAIL ?ac_Board ?pg_Board ?hd_Board ?po_Board ?sa_Board ?no0_Board ?no1_Board ?no2_Board ?no3_Board ?no4_Board ?ac_Hearer ?pg_Hearer ?hd_Hearer ?po_Hearer ?sa_Hearer ?no0_Hearer ?no1_Hearer ?no2_Hearer ?no3_Hearer ?ac_CatchError ?rd_CatchError ?ge_CatchError ?ci_CatchError ?ac_BadKnown ?xl_BadKnown ?sa_BadKnown ?eC_BadKnown ?tC_BadKnown ?kC_BadKnown ?ga_BadKnown ?gg_BadKnown ?hC_BadKnown ?nf_BadKnown ?ac_BadText ?xl_BadText ?sa_BadText ?eC_BadText ?tC_BadText ?kC_BadText ?ga_BadText ?gg_BadText ?hC_BadText ?nf_BadText ?ac_BadBoard ?xi_BadBoard ?kC_BadBoard ?eC_BadBoard ?tC_BadBoard ?ac_NoKey ?xi_NoKey ?kC_NoKey ?eC_NoKey ?tC_NoKey ?ac_BadChange ?xi_BadChange ?kC_BadChange ?eC_BadChange ?tC_BadChange ?ac_BadPart ?xi_BadPart ?kC_BadPart ?eC_BadPart ?tC_BadPart ?ac_BadPrices ?xi_BadPrices ?kC_BadPrices ?eC_BadPrices ?tC_BadPrices ?b_ValueError ?ga_NoKey ?gg_NoKey ?hC_NoKey ?cl_NoKey ?cg_ ?ct_ ?mo_NoKey ?em_NoKey ?ki0_NoKey ?ki1_NoKey ?ki2_NoKey ?ki3_NoKey ?ki4_NoKey ?ki5_NoKey ?ki6_NoKey ?kv_NoKey ?ga_BadChange ?gg_BadChange ?hC_BadChange ?cl_BadChange ?mo_BadChange ?em_BadChange ?ki0_BadChange ?ki1_BadChange ?ki2_BadChange ?ki3_BadChange ?ki4_BadChange ?ki5_BadChange ?ki6_BadChange ?kv_BadChange ?ga_BadPart ?gg_BadPart ?hC_BadPart ?cl_BadPart ?mo_BadPart ?em_BadPart ?ki0_BadPart ?ki1_BadPart ?ki2_BadPart ?ki3_BadPart ?ki4_BadPart ?ki5_BadPart ?ki6_BadPart ?kv_BadPart ?cl_BadKnown ?mo_BadKnown ?em_BadKnown ?ki0_BadKnown ?ki1_BadKnown ?ki2_BadKnown ?ki3_BadKnown ?ki4_BadKnown ?ki5_BadKnown ?ki6_BadKnown ?kv_BadKnown ?ga_BadPrices ?gg_BadPrices ?hC_BadPrices ?cl_BadPrices ?mo_BadPrices ?em_BadPrices ?ki0_BadPrices ?ki1_BadPrices ?ki2_BadPrices ?ki3_BadPrices ?ki4_BadPrices ?ki5_BadPrices ?ki6_BadPrices ?kv_BadPrices ?ga_BadBoard ?gg_BadBoard ?hC_BadBoard ?cl_BadBoard ?mo_BadBoard ?em_BadBoard ?ki0_BadBoard ?ki1_BadBoard ?ki2_BadBoard ?ki3_BadBoard ?ki4_BadBoard ?ki5_BadBoard ?ki6_BadBoard ?kv_BadBoard ?a1 ?l1 ?d1 ?k1 ?a2 ?l2 ?d2 ?k2 ?a3 ?l3 ?d3 ?k3 ?a4 ?i4 ?l4 ?d4 ?k4 ?mk_Board ?kc_Board ?a5 ?i5 ?l5 ?d5 ?k5 ?mk_Hearer ?kc_Hearer ?a6 ?l6 ?d6 ?k6 ?lc_counted ?ll_counted ?lp_counted ?ln_counted ?lh_counted ?ne_counted ?a7 ?l7 ?d7 ?k7 ?a8 ?l8 ?d8 ?k8 ?a9 ?l9 ?d9 ?k9 ?a10 ?i10 ?l10 ?d10 ?k10 ?a11 ?i11 ?l11 ?d11 ?k11 ?a12 ?l12 ?d12 ?k12 ?a13 ?i13 ?l13 ?d13 ?k13 ?a14 ?i14 ?l14 ?d14 ?k14 ?a15 ?i15 ?l15 ?d15 ?k15 ?a16 ?i16 ?l16 ?d16 ?k16 ?a17 ?l17 ?d17 ?k17 ?a18 ?i18 ?l18 ?d18 ?k18 ?a19 ?l19 ?d19 ?k19 ?a20 ?i20 ?l20 ?d20 ?k20 ?a21 ?i21 ?l21 ?d21 ?k21 ?a22 ?l22 ?d22 ?k22 ?a23 ?l23 ?d23 ?k23 ?a24 ?l24 ?d24 ?k24 ?a25 ?l25 ?d25 ?k25 ?a26 ?l26 ?d26 ?k26 ?a27 ?i27 ?l27 ?d27 ?k27 ?a28 ?l28 ?d28 ?k28 ?a29 ?l29 ?d29 ?k29 ?lc_law ?ll_law ?lp_law ?ln_law ?lh_law own own2
    (case b_len => k_is)
    (case b_range => k_is)
    (case b_int => k_is)
    (case b_list => k_is)
    (case b_tuple => k_is)
    (case b_sorted => k_is)
    (case b_min => k_is)
    (case b_max => k_is)
    (case b_sum => k_is)
    (case b_set => k_is)
    (case b_str => k_is)
    (case b_isinstance => k_is)
    (case b_enumerate => k_is)
    (case b_zip => k_is)
    (case b_bool => k_is)
    (case b_dict => k_is)
    (case c_MOST_KEYS => k_is)
    (case c_MOST_TAIL => k_is)
    (case ac_Board => k_is)
    (case pg_Board => k_is)
    (case hd_Board => k_is)
    (case po_Board => k_is)
    (case sa_Board => k_is)
    (case no0_Board => k_is)
    (case no1_Board => k_is)
    (case no2_Board => k_is)
    (case no3_Board => k_is)
    (case no4_Board => k_is)
    (case ac_Hearer => k_is)
    (case pg_Hearer => k_is)
    (case hd_Hearer => k_is)
    (case po_Hearer => k_is)
    (case sa_Hearer => k_is)
    (case no0_Hearer => k_is)
    (case no1_Hearer => k_is)
    (case no2_Hearer => k_is)
    (case no3_Hearer => k_is)
    (case ac_CatchError => k_is)
    (case rd_CatchError => k_is)
    (case ge_CatchError => k_is)
    (case ci_CatchError => k_is)
    (case ac_BadKnown => k_is)
    (case xl_BadKnown => k_is)
    (case sa_BadKnown => k_is)
    (case eC_BadKnown => k_is)
    (case tC_BadKnown => k_is)
    (case kC_BadKnown => k_is)
    (case ga_BadKnown => k_is)
    (case gg_BadKnown => k_is)
    (case hC_BadKnown => k_is)
    (case nf_BadKnown => k_is)
    (case ac_BadText => k_is)
    (case xl_BadText => k_is)
    (case sa_BadText => k_is)
    (case eC_BadText => k_is)
    (case tC_BadText => k_is)
    (case kC_BadText => k_is)
    (case ga_BadText => k_is)
    (case gg_BadText => k_is)
    (case hC_BadText => k_is)
    (case nf_BadText => k_is)
    (case ac_BadBoard => k_is)
    (case xi_BadBoard => (first | k_is | kernel_rfl))
    (case kC_BadBoard => k_is)
    (case eC_BadBoard => k_is)
    (case tC_BadBoard => k_is)
    (case ac_NoKey => k_is)
    (case xi_NoKey => (first | k_is | kernel_rfl))
    (case kC_NoKey => k_is)
    (case eC_NoKey => k_is)
    (case tC_NoKey => k_is)
    (case ac_BadChange => k_is)
    (case xi_BadChange => (first | k_is | kernel_rfl))
    (case kC_BadChange => k_is)
    (case eC_BadChange => k_is)
    (case tC_BadChange => k_is)
    (case ac_BadPart => k_is)
    (case xi_BadPart => (first | k_is | kernel_rfl))
    (case kC_BadPart => k_is)
    (case eC_BadPart => k_is)
    (case tC_BadPart => k_is)
    (case ac_BadPrices => k_is)
    (case xi_BadPrices => (first | k_is | kernel_rfl))
    (case kC_BadPrices => k_is)
    (case eC_BadPrices => k_is)
    (case tC_BadPrices => k_is)
    (case b_ValueError => k_is)
    (case ga_NoKey => k_is)
    (case gg_NoKey => k_is)
    (case hC_NoKey => k_is)
    (case cl_NoKey => k_is)
    (case cg_ => k_is)
    (case ct_ => k_is)
    (case mo_NoKey => k_is)
    (case em_NoKey => (first | k_is | kernel_rfl))
    (case ki0_NoKey => (first | k_is | kernel_rfl))
    (case ki1_NoKey => (first | k_is | kernel_rfl))
    (case ki2_NoKey => (first | k_is | kernel_rfl))
    (case ki3_NoKey => (first | k_is | kernel_rfl))
    (case ki4_NoKey => (first | k_is | kernel_rfl))
    (case ki5_NoKey => (first | k_is | kernel_rfl))
    (case ki6_NoKey => (first | k_is | kernel_rfl))
    (case kv_NoKey => (first | k_is | kernel_rfl))
    (case ga_BadChange => k_is)
    (case gg_BadChange => k_is)
    (case hC_BadChange => k_is)
    (case cl_BadChange => k_is)
    (case mo_BadChange => k_is)
    (case em_BadChange => (first | k_is | kernel_rfl))
    (case ki0_BadChange => (first | k_is | kernel_rfl))
    (case ki1_BadChange => (first | k_is | kernel_rfl))
    (case ki2_BadChange => (first | k_is | kernel_rfl))
    (case ki3_BadChange => (first | k_is | kernel_rfl))
    (case ki4_BadChange => (first | k_is | kernel_rfl))
    (case ki5_BadChange => (first | k_is | kernel_rfl))
    (case ki6_BadChange => (first | k_is | kernel_rfl))
    (case kv_BadChange => (first | k_is | kernel_rfl))
    (case ga_BadPart => k_is)
    (case gg_BadPart => k_is)
    (case hC_BadPart => k_is)
    (case cl_BadPart => k_is)
    (case mo_BadPart => k_is)
    (case em_BadPart => (first | k_is | kernel_rfl))
    (case ki0_BadPart => (first | k_is | kernel_rfl))
    (case ki1_BadPart => (first | k_is | kernel_rfl))
    (case ki2_BadPart => (first | k_is | kernel_rfl))
    (case ki3_BadPart => (first | k_is | kernel_rfl))
    (case ki4_BadPart => (first | k_is | kernel_rfl))
    (case ki5_BadPart => (first | k_is | kernel_rfl))
    (case ki6_BadPart => (first | k_is | kernel_rfl))
    (case kv_BadPart => (first | k_is | kernel_rfl))
    (case cl_BadKnown => k_is)
    (case mo_BadKnown => k_is)
    (case em_BadKnown => (first | k_is | kernel_rfl))
    (case ki0_BadKnown => (first | k_is | kernel_rfl))
    (case ki1_BadKnown => (first | k_is | kernel_rfl))
    (case ki2_BadKnown => (first | k_is | kernel_rfl))
    (case ki3_BadKnown => (first | k_is | kernel_rfl))
    (case ki4_BadKnown => (first | k_is | kernel_rfl))
    (case ki5_BadKnown => (first | k_is | kernel_rfl))
    (case ki6_BadKnown => (first | k_is | kernel_rfl))
    (case kv_BadKnown => (first | k_is | kernel_rfl))
    (case ga_BadPrices => k_is)
    (case gg_BadPrices => k_is)
    (case hC_BadPrices => k_is)
    (case cl_BadPrices => k_is)
    (case mo_BadPrices => k_is)
    (case em_BadPrices => (first | k_is | kernel_rfl))
    (case ki0_BadPrices => (first | k_is | kernel_rfl))
    (case ki1_BadPrices => (first | k_is | kernel_rfl))
    (case ki2_BadPrices => (first | k_is | kernel_rfl))
    (case ki3_BadPrices => (first | k_is | kernel_rfl))
    (case ki4_BadPrices => (first | k_is | kernel_rfl))
    (case ki5_BadPrices => (first | k_is | kernel_rfl))
    (case ki6_BadPrices => (first | k_is | kernel_rfl))
    (case kv_BadPrices => (first | k_is | kernel_rfl))
    (case ga_BadBoard => k_is)
    (case gg_BadBoard => k_is)
    (case hC_BadBoard => k_is)
    (case cl_BadBoard => k_is)
    (case mo_BadBoard => k_is)
    (case em_BadBoard => (first | k_is | kernel_rfl))
    (case ki0_BadBoard => (first | k_is | kernel_rfl))
    (case ki1_BadBoard => (first | k_is | kernel_rfl))
    (case ki2_BadBoard => (first | k_is | kernel_rfl))
    (case ki3_BadBoard => (first | k_is | kernel_rfl))
    (case ki4_BadBoard => (first | k_is | kernel_rfl))
    (case ki5_BadBoard => (first | k_is | kernel_rfl))
    (case ki6_BadBoard => (first | k_is | kernel_rfl))
    (case kv_BadBoard => (first | k_is | kernel_rfl))
    (case a1 => k_is)
    (case l1 => k_is)
    (case d1 => k_is)
    (case k1 => k_is)
    (case a2 => k_is)
    (case l2 => k_is)
    (case d2 => k_is)
    (case k2 => k_is)
    (case a3 => k_is)
    (case l3 => k_is)
    (case d3 => k_is)
    (case k3 => k_is)
    (case a4 => k_is)
    (case i4 => k_is)
    (case l4 => k_is)
    (case d4 => k_is)
    (case k4 => k_is)
    (case mk_Board => k_is)
    (case kc_Board => k_is)
    (case a5 => k_is)
    (case i5 => k_is)
    (case l5 => k_is)
    (case d5 => k_is)
    (case k5 => k_is)
    (case mk_Hearer => k_is)
    (case kc_Hearer => k_is)
    (case a6 => k_is)
    (case l6 => k_is)
    (case d6 => k_is)
    (case k6 => k_is)
    (case lc_counted => rfl)
    (case ll_counted => k_is)
    (case lp_counted => rfl)
    (case ln_counted => kernel_rfl)
    (case lh_counted => kernel_rfl)
    (case a7 => k_is)
    (case l7 => k_is)
    (case d7 => k_is)
    (case k7 => k_is)
    (case a8 => k_is)
    (case l8 => k_is)
    (case d8 => k_is)
    (case k8 => k_is)
    (case a9 => k_is)
    (case l9 => k_is)
    (case d9 => k_is)
    (case k9 => k_is)
    (case a10 => k_is)
    (case i10 => k_is)
    (case l10 => k_is)
    (case d10 => k_is)
    (case k10 => k_is)
    (case a11 => k_is)
    (case i11 => k_is)
    (case l11 => k_is)
    (case d11 => k_is)
    (case k11 => k_is)
    (case a12 => k_is)
    (case l12 => k_is)
    (case d12 => k_is)
    (case k12 => k_is)
    (case a13 => k_is)
    (case i13 => k_is)
    (case l13 => k_is)
    (case d13 => k_is)
    (case k13 => k_is)
    (case a14 => k_is)
    (case i14 => k_is)
    (case l14 => k_is)
    (case d14 => k_is)
    (case k14 => k_is)
    (case a15 => k_is)
    (case i15 => k_is)
    (case l15 => k_is)
    (case d15 => k_is)
    (case k15 => k_is)
    (case a16 => k_is)
    (case i16 => k_is)
    (case l16 => k_is)
    (case d16 => k_is)
    (case k16 => k_is)
    (case a17 => k_is)
    (case l17 => k_is)
    (case d17 => k_is)
    (case k17 => k_is)
    (case a18 => k_is)
    (case i18 => k_is)
    (case l18 => k_is)
    (case d18 => k_is)
    (case k18 => k_is)
    (case a19 => k_is)
    (case l19 => k_is)
    (case d19 => k_is)
    (case k19 => k_is)
    (case a20 => k_is)
    (case i20 => k_is)
    (case l20 => k_is)
    (case d20 => k_is)
    (case k20 => k_is)
    (case a21 => k_is)
    (case i21 => k_is)
    (case l21 => k_is)
    (case d21 => k_is)
    (case k21 => k_is)
    (case a22 => k_is)
    (case l22 => k_is)
    (case d22 => k_is)
    (case k22 => k_is)
    (case a23 => k_is)
    (case l23 => k_is)
    (case d23 => k_is)
    (case k23 => k_is)
    (case a24 => k_is)
    (case l24 => k_is)
    (case d24 => k_is)
    (case k24 => k_is)
    (case a25 => k_is)
    (case l25 => k_is)
    (case d25 => k_is)
    (case k25 => k_is)
    (case a26 => k_is)
    (case l26 => k_is)
    (case d26 => k_is)
    (case k26 => k_is)
    (case a27 => k_is)
    (case i27 => k_is)
    (case l27 => k_is)
    (case d27 => k_is)
    (case k27 => k_is)
    (case a28 => k_is)
    (case l28 => k_is)
    (case d28 => k_is)
    (case k28 => k_is)
    (case a29 => k_is)
    (case l29 => k_is)
    (case d29 => k_is)
    (case k29 => k_is)
    (case lc_law => rfl)
    (case ll_law => k_is)
    (case lp_law => rfl)
    (case ln_law => kernel_rfl)
    (case lh_law => kernel_rfl)
    (case ne_counted => decide)
#print axioms PySem.Challenge.cw_catchup_k01_what_is_none_holds
