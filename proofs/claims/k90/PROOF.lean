import PyProof.Rows.All
import Wide.All
import OpenK.AllK
import Wide.FinOn
import HandS.ForMost
import HandS.Conv
import HandS.More
import HandS.SortInts
import HandS.Wide
import HandS.Walk
import HandS.Style
import HandS.Flow
import HandS.Deep
import HandS.TupAny
import KE.GoesMore
import KE.KSortedM
import HandS.Strs
import HandS.SetFor
import HandS.TupSets
import HandS.IsInst
import HandS.NoneIn
import KE.DataMinMax
import KE.KDictZip
import KE.SortData
import HandS.ExcInit
import HandS.ExcOwn
import HandS.ExcField
import HandS.ExcIs
import HandS.WordsExc
import HandS.Text
import HandS.Lambda
import HandS.EndOwn
import KE.KNestM
import PySem.Challenge.RW_catchup_k90_known_edges
set_option Elab.async false
set_option linter.all false
set_option autoImplicit false
set_option maxRecDepth 100000
set_option maxHeartbeats 1000000
/-! Part 0: what stays, what changes; data as they lie; calls by name -/
namespace Cu
open PySem PySem.Spec PyProof.Rows L2

/-- what never changes -/
def Imm : HO → Prop
  | .tup _ => True
  | .frz _ _ => True
  | .ext _ => True
  | _ => False
theorem nl {xs : List V} : ¬ Imm (.lst xs) := fun h => h
theorem ndk {xs : List (Key × V)} : ¬ Imm (.dK xs) := fun h => h
def Mono (H H' : Hp) : Prop := ∀ b o, H b = some o → Imm o → H' b = some o
theorem Mono.refl (H : Hp) : Mono H H := fun _ _ h _ => h
theorem Mono.trans {H H1 H2 : Hp} (a : Mono H H1) (b : Mono H1 H2) : Mono H H2 := fun c o h i => b c o (a c o h i) i
theorem Mono.new {H : Hp} {p : Addr} {o : HO} (h : H p = none) : Mono H (upd H p o) := fun b u e _ => by
  rw [upd_ne (ne_of_none e h)]
  exact e
theorem Mono.put {H : Hp} {a : Addr} {o o' : HO} (h : H a = some o) (n : ¬ Imm o) : Mono H (upd H a o') := fun b u e i => by
  by_cases hb : b = a
  · subst hb
    rw [h] at e
    cases e
    exact absurd i n
  · rw [upd_ne hb]
    exact e

/-- the changing objects one owns -/
abbrev Lg := List (Addr × HO)
structure Has (H : Hp) (l : Lg) : Prop where
  nd : (l.map Prod.fst).Nodup
  at_ : ∀ p ∈ l, H p.1 = some p.2 ∧ ¬ Imm p.2
section
variable {H H' : Hp} {l l' : Lg} {a p : Addr} {o o' : HO}
theorem Has.nil : Has H [] := ⟨List.nodup_nil, fun _ h => (nomatch h)⟩
theorem Has.mem (h : Has H l) (m : (a, o) ∈ l) : H a = some o := (h.at_ _ m).1
theorem Has.head (h : Has H ((a, o) :: l)) : H a = some o := (h.at_ _ List.mem_cons_self).1
theorem Has.tail (h : Has H ((a, o) :: l)) : Has H l := ⟨(List.nodup_cons.mp h.nd).2, fun p m => h.at_ p (List.mem_cons_of_mem _ m)⟩
theorem Has.notin (h : Has H l) (f : H p = none) : p ∉ l.map Prod.fst := fun m => by
  obtain ⟨q, hq, e⟩ := List.mem_map.mp m
  have := (h.at_ q hq).1
  rw [e, f] at this
  cases this
theorem Has.ne (h : Has H l) (f : H p = none) {q : Addr × HO} (m : q ∈ l) : q.1 ≠ p := fun e => h.notin f (by rw [← e]; exact List.mem_map_of_mem m)
/-- an object that is not ours is made or written -/
theorem Has.off (h : Has H l) (n : p ∉ l.map Prod.fst) : Has (upd H p o) l := ⟨h.nd, fun q m => ⟨by
  rw [upd_ne (fun e => n (by rw [← e]; exact List.mem_map_of_mem m))]
  exact (h.at_ q m).1, (h.at_ q m).2⟩⟩
theorem Has.old (h : Has H l) (f : H p = none) : Has (upd H p o) l := h.off (h.notin f)
theorem Has.new (h : Has H l) (f : H p = none) (n : ¬ Imm o) : Has (upd H p o) ((p, o) :: l) :=
  ⟨List.nodup_cons.mpr ⟨h.notin f, h.nd⟩, fun q m => by
    rcases List.mem_cons.mp m with e | m
    · subst e
      exact ⟨upd_same, n⟩
    · exact (h.old f).at_ q m⟩
theorem Has.put (h : Has H ((a, o) :: l)) (n : ¬ Imm o') : Has (upd H a o') ((a, o') :: l) :=
  ⟨h.nd, fun q m => by
    rcases List.mem_cons.mp m with e | m
    · subst e
      exact ⟨upd_same, n⟩
    · exact (h.tail.off (List.nodup_cons.mp h.nd).1).at_ q m⟩
theorem Has.perm (h : Has H l) (e : l.Perm l') : Has H l' := ⟨(e.map Prod.fst).nodup_iff.mp h.nd, fun q m => h.at_ q (e.mem_iff.mpr m)⟩
theorem Has.sub (h : Has H l) (e : l'.Sublist l) : Has H l' := ⟨h.nd.sublist (e.map Prod.fst), fun q m => h.at_ q (e.subset m)⟩
theorem Has.mono_put (h : Has H ((a, o) :: l)) : Mono H (upd H a o') := Mono.put h.head (h.at_ _ List.mem_cons_self).2
theorem Has.right {l2 : Lg} (h : Has H (l ++ l2)) : Has H l2 := h.sub (List.sublist_append_right _ _)
theorem Has.left {l2 : Lg} (h : Has H (l ++ l2)) : Has H l := h.sub (List.sublist_append_left _ _)
theorem Has.comm {l2 : Lg} (h : Has H (l ++ l2)) : Has H (l2 ++ l) := h.perm List.perm_append_comm
/-- the first part goes behind the second -/
theorem Has.swap {l2 l3 : Lg} (h : Has H (l ++ (l2 ++ l3))) : Has H (l2 ++ (l ++ l3)) := h.perm (by
  rw [← List.append_assoc, ← List.append_assoc]
  exact List.Perm.append_right _ List.perm_append_comm)
theorem Has.swap1 {q : Addr × HO} {l3 : Lg} (h : Has H (q :: (l ++ l3))) : Has H (l ++ (q :: l3)) := h.perm List.perm_middle.symm
theorem Has.unswap1 {q : Addr × HO} {l3 : Lg} (h : Has H (l ++ (q :: l3))) : Has H (q :: (l ++ l3)) := h.perm List.perm_middle
theorem Has.swap2 {q r : Addr × HO} (h : Has H (q :: r :: l)) : Has H (r :: q :: l) := h.perm (List.Perm.swap _ _ _)
end

section
variable {K : PySem.W.Frag} {H H' : Hp} {a : Addr} {xs : List V}
/-- a list that stays -/
def FzL (K : PySem.W.Frag) (H : Hp) (a : Addr) (xs : List V) : Prop := ∀ H', Mono H H' → SqL K H' a xs
theorem FzL.mono (h : FzL K H a xs) (m : Mono H H') : FzL K H' a xs := fun H2 m2 => h H2 (m.trans m2)
theorem FzL.sq (h : FzL K H a xs) : SqL K H a xs := h H (Mono.refl H)
theorem FzL.of {o : Obj} (h : H a = some (.frz o (.lst xs))) : FzL K H a xs := fun H' m => Or.inl (Or.inr ⟨o, m _ _ h trivial⟩)
theorem FzL.only (h : Only H) (s : SqL K H a xs) : FzL K H a xs := by
  rcases s with (s | ⟨o, s⟩) | s
  · rcases h a with e | ⟨o, ys, e⟩
    · rw [e] at s
      cases s
    · rw [e] at s
      cases s
  · exact FzL.of s
  · exact fun _ _ => Or.inr s
theorem FzL.frz {o : Obj} : FzL K (upd H a (.frz o (.lst xs))) a xs := FzL.of upd_same
end

/-- a reading that is opened by its own lemma alone -/
@[irreducible] def tI (t : TE) : TE := t
theorem rd_I {t : TE} {σ : L2.St} {H : Hp} {Q : VK} (h : t σ H Q) : tI t σ H Q := by
  unfold tI
  exact h
theorem pe_I {X : Cx} {e : Expr} {t : TE} (h : PE X e t) : PE X e (tI t) := by
  unfold tI
  exact h
/-- e, a new list, from now on never changed -/
@[irreducible] def tFz (t : TE) : TE := fun σ H Q => t σ H fun v H1 => ∃ a xs, v = .ref a ∧ H1 a = some (.lst xs) ∧ ∀ o, Q (.ref a) (upd H1 a (.frz o (.lst xs)))
theorem rd_fz {t : TE} {σ : L2.St} {H : Hp} {Q : VK} (h : t σ H fun v H1 => ∃ a xs, v = .ref a ∧ H1 a = some (.lst xs) ∧ ∀ o, Q (.ref a) (upd H1 a (.frz o (.lst xs)))) : tFz t σ H Q := by
  unfold tFz
  exact h
theorem pe_fz {X : Cx} {e : Expr} {t : TE} (h : PE X e t) : PE X e (tFz t) := ⟨fun pins s σ H Q I hw => by
  unfold tFz at hw
  exact thn (h.run pins s σ H _ I hw) fun u s1 ⟨v, H1, I1, r, a, xs, ev, ha, q⟩ => by
    subst ev
    obtain ⟨od, I2⟩ := I1.lock ha trivial
    exact ⟨_, _, I2, r, q od⟩⟩

/-! ### data -/
mutual
def Rp (K : PySem.W.Frag) (H : Hp) : PyData → V → Prop
  | .none, v => v = .non
  | .bool b, v => v = .bl b
  | .int i, v => v = .int i
  | .str s, v => v = .str s
  | .list ds, v => ∃ a xs, v = .ref a ∧ FzL K H a xs ∧ RpL K H ds xs
  | .tuple ds, v => ∃ a xs, v = .ref a ∧ H a = some (.tup xs) ∧ RpL K H ds xs
  | .dict _, _ => False
def RpL (K : PySem.W.Frag) (H : Hp) : List PyData → List V → Prop
  | [], vs => vs = []
  | d :: ds, vs => ∃ v r, vs = v :: r ∧ Rp K H d v ∧ RpL K H ds r
end
section
variable {K : PySem.W.Frag} {H H' : Hp}
mutual
theorem Rp.mono (m : Mono H H') : ∀ {d : PyData} {v : V}, Rp K H d v → Rp K H' d v
  | .none, _, h => by rw [Rp] at h ⊢; exact h
  | .bool _, _, h => by rw [Rp] at h ⊢; exact h
  | .int _, _, h => by rw [Rp] at h ⊢; exact h
  | .str _, _, h => by rw [Rp] at h ⊢; exact h
  | .list ds, _, h => by
    rw [Rp] at h ⊢
    obtain ⟨a, xs, e, f, r⟩ := h
    exact ⟨a, xs, e, f.mono m, RpL.mono m r⟩
  | .tuple ds, _, h => by
    rw [Rp] at h ⊢
    obtain ⟨a, xs, e, f, r⟩ := h
    exact ⟨a, xs, e, m _ _ f trivial, RpL.mono m r⟩
  | .dict _, _, h => by rw [Rp] at h; exact h.elim
theorem RpL.mono (m : Mono H H') : ∀ {ds : List PyData} {vs : List V}, RpL K H ds vs → RpL K H' ds vs
  | [], _, h => by rw [RpL] at h ⊢; exact h
  | d :: ds, _, h => by
    rw [RpL] at h ⊢
    obtain ⟨v, r, e, h1, h2⟩ := h
    exact ⟨v, r, e, Rp.mono m h1, RpL.mono m h2⟩
end
mutual
theorem Rp.dp : ∀ {d : PyData} {v : V}, Rp K H d v → Dp K H v d
  | .none, _, h => by rw [Rp] at h; subst h; exact .non
  | .bool _, _, h => by rw [Rp] at h; subst h; exact .bl _
  | .int _, _, h => by rw [Rp] at h; subst h; exact .int _
  | .str _, _, h => by rw [Rp] at h; subst h; exact .str _
  | .list ds, _, h => by
    rw [Rp] at h
    obtain ⟨a, xs, e, f, r⟩ := h
    subst e
    exact .lst f.sq (RpL.dp r)
  | .tuple ds, _, h => by
    rw [Rp] at h
    obtain ⟨a, xs, e, f, r⟩ := h
    subst e
    exact .tup (SqT.of f) (RpL.dp r)
  | .dict _, _, h => by rw [Rp] at h; exact h.elim
theorem RpL.dp : ∀ {ds : List PyData} {vs : List V}, RpL K H ds vs → DpAll K H vs ds
  | [], _, h => by rw [RpL] at h; subst h; exact .nil
  | d :: ds, _, h => by
    rw [RpL] at h
    obtain ⟨v, r, e, h1, h2⟩ := h
    subst e
    exact .cons (Rp.dp h1) (RpL.dp h2)
end
theorem RpL.length : ∀ {ds : List PyData} {vs : List V}, RpL K H ds vs → vs.length = ds.length
  | [], _, h => by rw [RpL] at h; subst h; rfl
  | d :: ds, _, h => by
    rw [RpL] at h
    obtain ⟨v, r, e, _, h2⟩ := h
    subst e
    rw [List.length_cons, List.length_cons, h2.length]
theorem RpL.get : ∀ {ds : List PyData} {vs : List V} {i : Nat} {d : PyData}, RpL K H ds vs → ds[i]? = some d → ∃ v, vs[i]? = some v ∧ Rp K H d v
  | [], _, _, _, _, e => by simp at e
  | d :: ds, _, i, d', h, e => by
    rw [RpL] at h
    obtain ⟨v, r, e1, h1, h2⟩ := h
    subst e1
    cases i with
    | zero =>
      have e2 : d = d' := by simpa using e
      subst e2
      exact ⟨v, rfl, h1⟩
    | succ i => exact h2.get (by simpa using e)
theorem RpL.nil : RpL K H [] [] := by rw [RpL]
theorem RpL.cons {d : PyData} {ds : List PyData} {v : V} {vs : List V} (h : Rp K H d v) (r : RpL K H ds vs) : RpL K H (d :: ds) (v :: vs) := by
  rw [RpL]
  exact ⟨v, vs, rfl, h, r⟩
theorem RpL.append : ∀ {ds es : List PyData} {vs us : List V}, RpL K H ds vs → RpL K H es us → RpL K H (ds ++ es) (vs ++ us)
  | [], _, _, _, h, g => by rw [RpL] at h; subst h; exact g
  | d :: ds, _, _, _, h, g => by
    rw [RpL] at h
    obtain ⟨v, r, e1, h1, h2⟩ := h
    subst e1
    exact .cons h1 (h2.append g)
theorem RpL.snoc {ds : List PyData} {vs : List V} {d : PyData} {v : V} (h : RpL K H ds vs) (g : Rp K H d v) : RpL K H (ds ++ [d]) (vs ++ [v]) := h.append (.cons g .nil)
theorem RpL.take : ∀ {ds : List PyData} {vs : List V} (n : Nat), RpL K H ds vs → RpL K H (ds.take n) (vs.take n)
  | [], _, n, h => by rw [RpL] at h; subst h; simpa using RpL.nil
  | d :: ds, _, n, h => by
    rw [RpL] at h
    obtain ⟨v, r, e1, h1, h2⟩ := h
    subst e1
    cases n with
    | zero => exact .nil
    | succ n => exact .cons h1 (h2.take n)
theorem RpL.drop : ∀ {ds : List PyData} {vs : List V} (n : Nat), RpL K H ds vs → RpL K H (ds.drop n) (vs.drop n)
  | [], _, n, h => by rw [RpL] at h; subst h; simpa using RpL.nil
  | d :: ds, _, n, h => by
    rw [RpL] at h
    obtain ⟨v, r, e1, h1, h2⟩ := h
    subst e1
    cases n with
    | zero => exact .cons h1 h2
    | succ n => exact h2.drop n
theorem Rp.int_iff {i : Int} {v : V} : Rp K H (.int i) v ↔ v = .int i := by rw [Rp]
theorem Rp.str_iff {i : Str} {v : V} : Rp K H (.str i) v ↔ v = .str i := by rw [Rp]
theorem Rp.bool_iff {i : Bool} {v : V} : Rp K H (.bool i) v ↔ v = .bl i := by rw [Rp]
theorem Rp.none_iff {v : V} : Rp K H .none v ↔ v = .non := by rw [Rp]
theorem Rp.int {i : Int} : Rp K H (.int i) (.int i) := by rw [Rp]
theorem Rp.str {i : Str} : Rp K H (.str i) (.str i) := by rw [Rp]
theorem Rp.bool {i : Bool} : Rp K H (.bool i) (.bl i) := by rw [Rp]
theorem Rp.non : Rp K H .none .non := by rw [Rp]
theorem Rp.tup {ds : List PyData} {a : Addr} {xs : List V} (h : H a = some (.tup xs)) (r : RpL K H ds xs) : Rp K H (.tuple ds) (.ref a) := by
  rw [Rp]
  exact ⟨a, xs, rfl, h, r⟩
theorem Rp.lst {ds : List PyData} {a : Addr} {xs : List V} (h : FzL K H a xs) (r : RpL K H ds xs) : Rp K H (.list ds) (.ref a) := by
  rw [Rp]
  exact ⟨a, xs, rfl, h, r⟩
theorem Rp.tup_inv {ds : List PyData} {v : V} (h : Rp K H (.tuple ds) v) : ∃ a xs, v = .ref a ∧ H a = some (.tup xs) ∧ RpL K H ds xs := by rwa [Rp] at h
theorem Rp.lst_inv {ds : List PyData} {v : V} (h : Rp K H (.list ds) v) : ∃ a xs, v = .ref a ∧ FzL K H a xs ∧ RpL K H ds xs := by rwa [Rp] at h
theorem RpL.nil_inv {vs : List V} (h : RpL K H [] vs) : vs = [] := by rwa [RpL] at h
theorem RpL.cons_inv {d : PyData} {ds : List PyData} {vs : List V} (h : RpL K H (d :: ds) vs) : ∃ v r, vs = v :: r ∧ Rp K H d v ∧ RpL K H ds r := by rwa [RpL] at h
theorem RpL.ints : ∀ {ns : List Int} {vs : List V}, RpL K H (ns.map PyData.int) vs → vs = ns.map V.int
  | [], _, h => h.nil_inv
  | n :: ns, _, h => by
    obtain ⟨v, r, e, h1, h2⟩ := h.cons_inv
    rw [Rp.int_iff] at h1
    rw [e, h1, h2.ints]
    rfl
theorem RpL.of_ints : ∀ (ns : List Int), RpL K H (ns.map PyData.int) (ns.map V.int)
  | [] => .nil
  | n :: ns => .cons .int (RpL.of_ints ns)
theorem Dp.ints {a : Addr} {ns : List Int} (h : SqL K H a (ns.map V.int)) : Dp K H (.ref a) (.list (ns.map PyData.int)) := .lst h (RpL.dp (RpL.of_ints ns))
end

/-! ### a def of the top, a method, a class, by name -/
section
variable (P : Program) (w : World) (K : PySem.W.Frag) (mg : Str → Option Value) (base : Heap)
structure Gf (j : Nat) (x : Str) (ps : List Str) (sp : Sp) : Prop where
  ex : ∃ f fd, FnOk P w K mg base CX0 j f fd ps sp ∧ mg x = some (.ref f) ∧ PySem.W.keepIn K (.ref f) = true ∧ Binds K fd ps []
structure Mf (j : Nat) (C : Addr) (m : Str) (ps : List Str) (sp : Sp) : Prop where
  ex : ∃ f fd, FnOk P w K mg base CX0 j f fd ps sp ∧ Meth K C m f ∧ Binds K fd ps []
structure Kf (j : Nat) (x : Str) (C : Addr) (ps : List Str) (sp : Sp) : Prop where
  ex : ∃ f fd, FnOk P w K mg base CX0 j f fd ps sp ∧ Mk K C f ∧ mg x = some (.ref C) ∧ Binds K fd ps []
end
section
variable {X : Cx} {j k : Nat} {x m : Str} {C : Addr} {ps : List Str} {sp : Sp} {p pos apos : Pos} {e o : Expr} {es : List Expr} {t : TA} {to : TE}
theorem pc (g : Gf X.prog X.w X.K X.mg X.base j x ps sp) (hr : Room k X.A) (ha : PA X (e :: es) t) (hg : Gl X x := by rfl) (hj : j ≤ k := by decide) (hdb : (x == ("__debug__" : Str)) = false := by decide)
    (he : starEach (e :: es) X.env = (false, eval e X.env) :: starEach es X.env := by rfl) (hpl : (backTo pos (starEach es X.env)).any (·.1) = false := by rfl) :
    PE X (.Call (.Name x p) (e :: es) [] pos) (tCall sp [] E0 t) := by
  obtain ⟨f, fd, F, hm, hk, hb⟩ := g.ex
  exact pe_call F (hr.mono hj) hg hm hk hb .nil pass0 ha hdb he hpl
theorem pc0 (g : Gf X.prog X.w X.K X.mg X.base j x ps sp) (hr : Room k X.A) (hg : Gl X x := by rfl) (hj : j ≤ k := by decide) (hdb : (x == ("__debug__" : Str)) = false := by decide) :
    PE X (.Call (.Name x p) [] [] pos) (tCall sp [] E0 tNil) := by
  obtain ⟨f, fd, F, hm, hk, hb⟩ := g.ex
  exact pe_call0 F (hr.mono hj) hg hm hk hb .nil pass0 hdb
theorem pm {pl : Sem Bool} (ho : PE X o to) (c : Cls X.K C) (g : Mf X.prog X.w X.K X.mg X.base j C m ps sp) (hr : Room k X.A) (ha : PA X (e :: es) t) (hj : j ≤ k := by decide)
    (hst : starEach (e :: es) X.env = (false, eval e X.env) :: starEach es X.env := by rfl) (hpl : (backTo pos (starEach es X.env)).any (·.1) = false := by rfl)
    (ht : eval (.Call (.Attribute o m apos) (e :: es) [] pos) X.env = (do
      let ov ← eval o X.env
      standAt apos.atName
      let (f, first) ← holding [ov] (getMethod ov m pl)
      callWith pos f first (backTo pos (starEach (e :: es) X.env)) (backToKw pos (keywordEach [] X.env))) := by rfl) :
    PE X (.Call (.Attribute o m apos) (e :: es) [] pos) (tMeth C m sp [] E0 to t) := by
  obtain ⟨f, fd, F, hm, hb⟩ := g.ex
  exact pe_meth ho c hm F (hr.mono hj) hb .nil pass0 ha hst hpl ht
theorem pm0 {pl : Sem Bool} (ho : PE X o to) (c : Cls X.K C) (g : Mf X.prog X.w X.K X.mg X.base j C m ps sp) (hr : Room k X.A) (hj : j ≤ k := by decide)
    (ht : eval (.Call (.Attribute o m apos) [] [] pos) X.env = (do
      let ov ← eval o X.env
      standAt apos.atName
      let (f, first) ← holding [ov] (getMethod ov m pl)
      callWith pos f first (backTo pos (starEach [] X.env)) (backToKw pos (keywordEach [] X.env))) := by rfl) :
    PE X (.Call (.Attribute o m apos) [] [] pos) (tMeth C m sp [] E0 to tNil) := by
  obtain ⟨f, fd, F, hm, hb⟩ := g.ex
  exact pe_meth0 ho c hm F (hr.mono hj) hb .nil pass0 ht
theorem pk (g : Kf X.prog X.w X.K X.mg X.base j x C ps sp) (hr : Room k X.A) (ha : PA X (e :: es) t) (hg : Gl X x := by rfl) (hj : j + 1 ≤ k := by decide) (hdb : (x == ("__debug__" : Str)) = false := by decide)
    (he : starEach (e :: es) X.env = (false, eval e X.env) :: starEach es X.env := by rfl) (hpl : (backTo pos (starEach es X.env)).any (·.1) = false := by rfl) :
    PE X (.Call (.Name x p) (e :: es) [] pos) (tMake C sp [] E0 t) := by
  obtain ⟨f, fd, F, M, hm, hb⟩ := g.ex
  exact pe_make M F (hr.mono hj) hg hm hb .nil pass0 ha hdb he hpl
end

/-! ### the dice -/
/-- the dice at a, beside what else is owned -/
def Dice (K : PySem.W.Frag) (H : Hp) (a : Addr) (R : Lg) : Prop := ∃ (c : Addr) (ns : List Int) (i m r : Int), 0 ≤ i ∧ ns.length ≤ 1000 ∧ FzL K H c (ns.map V.int) ∧ Has H ((a, .lst [.ref c, .int i, .int m, .int r]) :: R)
section
variable {K : PySem.W.Frag} {H H' : Hp} {a p : Addr} {R R' : Lg} {o o' : HO}
theorem Dice.has (d : Dice K H a R) : Has H R := let ⟨_, _, _, _, _, _, _, _, h⟩ := d; h.tail
theorem Dice.new (d : Dice K H a R) (f : H p = none) (n : ¬ Imm o) : Dice K (upd H p o) a ((p, o) :: R) :=
  let ⟨c, ns, i, m, r, h1, h2, h3, h⟩ := d
  ⟨c, ns, i, m, r, h1, h2, h3.mono (Mono.new f), (h.new f n).swap2⟩
theorem Dice.old (d : Dice K H a R) (f : H p = none) : Dice K (upd H p o) a R :=
  let ⟨c, ns, i, m, r, h1, h2, h3, h⟩ := d
  ⟨c, ns, i, m, r, h1, h2, h3.mono (Mono.new f), h.old f⟩
theorem Dice.put (d : Dice K H a ((p, o) :: R)) (n : ¬ Imm o') : Dice K (upd H p o') a ((p, o') :: R) :=
  let ⟨c, ns, i, m, r, h1, h2, h3, h⟩ := d
  ⟨c, ns, i, m, r, h1, h2, h3.mono h.swap2.mono_put, (h.swap2.put n).swap2⟩
theorem Dice.at_ (d : Dice K H a ((p, o) :: R)) : H p = some o := d.has.head
theorem Dice.mput (d : Dice K H a ((p, o) :: R)) : Mono H (upd H p o') := d.has.mono_put
theorem Dice.perm (d : Dice K H a R) (e : R.Perm R') : Dice K H a R' :=
  let ⟨c, ns, i, m, r, h1, h2, h3, h⟩ := d
  ⟨c, ns, i, m, r, h1, h2, h3, h.perm (e.cons _)⟩
theorem Dice.sub (d : Dice K H a R) (e : R'.Sublist R) : Dice K H a R' :=
  let ⟨c, ns, i, m, r, h1, h2, h3, h⟩ := d
  ⟨c, ns, i, m, r, h1, h2, h3, h.sub (e.cons_cons _)⟩
theorem Dice.tail (d : Dice K H a ((p, o) :: R)) : Dice K H a R := d.sub (List.sublist_cons_self _ _)
/-- an owned list is let go, and stays from now on -/
theorem Dice.fz {xs : List V} {ob : Obj} (d : Dice K H a ((p, .lst xs) :: R)) : Dice K (upd H p (.frz ob (.lst xs))) a R :=
  let ⟨c, ns, i, m, r, h1, h2, h3, h⟩ := d
  ⟨c, ns, i, m, r, h1, h2, h3.mono h.swap2.mono_put, h.swap2.tail.off (List.nodup_cons.mp h.swap2.nd).1⟩
theorem Dice.mfz {xs : List V} {ob : Obj} (d : Dice K H a ((p, .lst xs) :: R)) : Mono H (upd H p (.frz ob (.lst xs))) := d.mput
/-- what others do with what is owned beside -/
theorem Dice.go (d : Dice K H a R) (h : ∀ S, Has H (R ++ S) → Mono H H' ∧ Has H' (R' ++ S)) : Dice K H' a R' := by
  obtain ⟨c, ns, i, m, r, h1, h2, h3, hh⟩ := d
  have q : Has H (R ++ [(a, .lst [.ref c, .int i, .int m, .int r])]) := hh.perm (List.perm_append_singleton _ _).symm
  obtain ⟨m1, q1⟩ := h _ q
  exact ⟨c, ns, i, m, r, h1, h2, h3.mono m1, q1.perm (List.perm_append_singleton _ _)⟩
end
end Cu

/-! Part 1: a def as it stands behind the top -/
namespace Cu
open PySem PySem.Spec PyProof.Rows L2
def top (i : Nat) : Stmt := PySem.Challenge.pw_catchup_k90_known_edges.main.body.getD i (.Pass ⟨0, 0, 0, 0⟩)
/-- no built-in's name is the module's -/
structure Blt (mg : Str → Option Value) : Prop where
  len : mg "len" = none
  range : mg "range" = none
  int : mg "int" = none
  list : mg "list" = none
  tuple : mg "tuple" = none
  sorted : mg "sorted" = none
  min : mg "min" = none
  max : mg "max" = none
  sum : mg "sum" = none
  set : mg "set" = none
  str : mg "str" = none
  isinstance : mg "isinstance" = none
  enumerate : mg "enumerate" = none
  zip : mg "zip" = none
  bool : mg "bool" = none
  dict : mg "dict" = none
section
variable (K : PySem.W.Frag) (mg : Str → Option Value)
structure Fd (x : Str) (st : Stmt) : Prop where
  ex : ∃ f fd, Fun K x x st f fd ∧ mg x = some (.ref f)
structure Md (C : Addr) (m qual : Str) (st : Stmt) : Prop where
  ex : ∃ f fd, Fun K m qual st f fd ∧ Meth K C m f
structure Kd (x : Str) (C : Addr) (qual : Str) (st : Stmt) : Prop where
  ex : ∃ f fd, Fun K "__init__" qual st f fd ∧ Mk K C f ∧ mg x = some (.ref C)
end
section
variable {P : Program} {w : World} {K : PySem.W.Frag} {mg : Str → Option Value} {base : Heap} {x m qual : Str} {C : Addr} {st : Stmt} {N ps : List Str} {k : Nat} {sp : Sp}
/-- how the written arguments come to the parameters -/
abbrev Bnd (x qual : Str) (st : Stmt) (ps : List Str) : Prop := ∀ (kV doc pm : Value) (an : Option Addr) (cdv ct : Value) (us : List Value), us.length = ps.length → bindArgs (PySem.W.fnOf x qual (defArgs st) (defBody st) (defScope st) .none kV doc pm an cdv ct) ⟨us, []⟩ = pure (ps.zip us)
theorem Fd.ok (F : Fd K mg x st) (S : FnScope N ps (defScope st)) (b : Bnd x x st ps) (len : ∀ vs H Q E, sp vs H Q E → vs.length = ps.length)
    (hbody : ∀ (qual : Str) (f : Addr) (cdv : Value) (A : Around) (outer : List Env) (s : Shared) (H : Hp) (vs : List V) (Q : VK) (E : XK), Room k (A.deeper (envOfC qual (defScope st) s.heap.objs.size f cdv)) → sp vs H Q E →
      ∃ t, PSs (cxOf CX0 P w K mg base N qual (defScope st) f cdv A outer s H E).nox (defBody st) t ∧ t { nx := fun _ H' => Q .non H', rt := Q } (start N vs) H) : Gf P w K mg base (k + 1) x ps sp := by
  obtain ⟨f, fd, F, hm⟩ := F.ex
  exact ⟨f, fd, F.ok S len fun cdv A outer s H vs Q E hr h => hbody x f cdv A outer s H vs Q E hr h, hm, F.kp, F.binds b⟩
theorem Md.ok (F : Md K C m qual st) (S : FnScope N ps (defScope st)) (b : Bnd m qual st ps) (len : ∀ vs H Q E, sp vs H Q E → vs.length = ps.length)
    (hbody : ∀ (qual : Str) (f : Addr) (cdv : Value) (A : Around) (outer : List Env) (s : Shared) (H : Hp) (vs : List V) (Q : VK) (E : XK), Room k (A.deeper (envOfC qual (defScope st) s.heap.objs.size f cdv)) → sp vs H Q E →
      ∃ t, PSs (cxOf CX0 P w K mg base N qual (defScope st) f cdv A outer s H E).nox (defBody st) t ∧ t { nx := fun _ H' => Q .non H', rt := Q } (start N vs) H) : Mf P w K mg base (k + 1) C m ps sp := by
  obtain ⟨f, fd, F, hm⟩ := F.ex
  exact ⟨f, fd, F.ok S len fun cdv A outer s H vs Q E hr h => hbody qual f cdv A outer s H vs Q E hr h, hm, F.binds b⟩
theorem Kd.ok (F : Kd K mg x C qual st) (S : FnScope N ps (defScope st)) (b : Bnd "__init__" qual st ps) (len : ∀ vs H Q E, sp vs H Q E → vs.length = ps.length)
    (hbody : ∀ (qual : Str) (f : Addr) (cdv : Value) (A : Around) (outer : List Env) (s : Shared) (H : Hp) (vs : List V) (Q : VK) (E : XK), Room k (A.deeper (envOfC qual (defScope st) s.heap.objs.size f cdv)) → sp vs H Q E →
      ∃ t, PSs (cxOf CX0 P w K mg base N qual (defScope st) f cdv A outer s H E).nox (defBody st) t ∧ t { nx := fun _ H' => Q .non H', rt := Q } (start N vs) H) : Kf P w K mg base (k + 1) x C ps sp := by
  obtain ⟨f, fd, F, hm, hx⟩ := F.ex
  exact ⟨f, fd, F.ok S len fun cdv A outer s H vs Q E hr h => hbody qual f cdv A outer s H vs Q E hr h, hm, hx, F.binds b⟩
end
theorem len_of {n : Nat} {ps : List Str} {p : List V → Hp → VK → XK → Prop} (e : n = ps.length := by rfl) : ∀ vs H Q E, (vs.length = n ∧ p vs H Q E) → vs.length = ps.length := fun _ _ _ _ h => h.1.trans e
end Cu

namespace Cu
open PySem PySem.Spec PyProof.Rows L2
/-! sorted(d) of a dict with int keys, any number of them: the keys are taken out as HandS.More does it, and sorted by the order rule of HandS.SortOrd -/
theorem call_sortedDIw {X : Cx} (hcalm : X.calm = true) : CallR X (.builtin "sorted") (fun xs H Q => ∃ (a : Addr) (kvs : List (Key × V)) (ks : List Int), xs = [.ref a] ∧ Rd H a (.dK kvs) ∧ kvs.map (·.1) = ks.map Sum.inl ∧ ks.length ≤ sizeLine ∧
    ∀ (ys : List Int) (p : Addr), ys.Perm ks → ys.Pairwise (· ≤ ·) → H p = none → Q (.ref p) (upd H p (.lst (ys.map V.int)))) := by
  intro pins s σ H xs us Q I r ⟨a, kvs, ks, ex, hd, hks, h64, q⟩
  subst ex
  obtain ⟨u, eu, rx⟩ := vals1 r
  subst eu
  cases rx
  obtain ⟨z, lo, vs, rel, dd⟩ := dk_rd I.hok hd
  obtain ⟨ep, hat⟩ := dd.dictAt
  have hkeys : vs.map (·.1) = ks.map Sum.inl := rel.keys.symm.trans hks
  have hl : vs.length = ks.length := by
    have e := congrArg List.length hkeys
    rwa [List.length_map, List.length_map] at e
  refine Calls.call_function_entry PyProof.Rows.kind_sorted PyProof.Rows.plain_sorted PyProof.Rows.entry_sorted (PyProof.Rows.args_sorted1 _) ?_
  unfold Builtin.«sorted»
  refine wpAny_bind (m := checkCount "sorted" 1 1 _) (wpAny_pure ?_)
  refine wpAny_bind (PySem.W.kdu_collect (A := X.A.in1) (PySem.W.kdl_dict (knd := mixKind X.prog X.w) (kvs := vs) (ep := ep) lo) (I.ok.hd hcalm) hat (by rw [hl]; exact h64) fun h' tk acc hk hacc => ?_)
  have hal : acc.toList.length = ks.length := by rw [Array.length_toList, hacc.1, hl]
  have hS : IntsAre acc.toList ks := ints_each hal fun j v e => by
    obtain ⟨k, x, e1, e2⟩ := hacc.2 j v (by rw [← Array.getElem?_toList]; exact e)
    have e3 : (vs.map (·.1))[j]? = some k := by rw [List.getElem?_map, e1]; rfl
    rw [hkeys, List.getElem?_map] at e3
    cases e4 : ks[j]? with
    | none =>
      rw [e4] at e3
      cases e3
    | some y =>
      rw [e4] at e3
      have e5 : Sum.inl y = k := Option.some.inj e3
      subst e5
      rcases keyIs_shape (show keyIs (Sum.inl y) v = true from e2) with ⟨i, t, ek, ev⟩ | ⟨z, t, ek, ev⟩
      · cases ek
        exact ⟨y, t, rfl, ev⟩
      · cases ek
  have I1 : Inv X pins σ H { s with heap := h', toks := tk } := I.kept hk
  refine wpAny_bind (wpAny_newList ?_ (by rw [hal]; exact h64))
  have hoL : (h'.push (seqObj "list" acc.toList.toArray 0)).get? h'.objs.size = some (seqObj "list" acc.toList.toArray 0) := Heap.get?_push_size _ rfl
  show wpAny _ _ _ _ _ { s with heap := h'.push (seqObj "list" acc.toList.toArray 0), toks := tk }
  refine wpAny_bind (wpAny_holding (wpAny_call_entry PyProof.Rows.slot_list_sort ⟨_, hoL, rfl⟩ PyProof.Rows.entry_list_sort
    (SrtO.list_sort_ord (s := { s with heap := h'.push (seqObj "list" acc.toList.toArray 0), toks := tk }) SrtO.swo_int hoL (by rw [hal]; exact h64) (fun h2 => SrtO.ints_sortable hS h2) fun out h1 h2 => ⟨_, rfl, ?_⟩) (PyProof.Rows.args_list_sort _)))
  obtain ⟨k1, k2, k3⟩ := SrtO.ints_out hS h1 h2
  obtain ⟨e', he'⟩ := PyProof.Rows.sortedHeap_at (vs := acc.toList) (out := out.toArray) hoL
  have hlen : ((out.map SrtO.iv).map V.int).length ≤ sizeLine := by
    rw [List.length_map, k2.length_eq]
    exact h64
  refine wpAny_pure ⟨_, rfl, .ref h'.objs.size, upd H h'.objs.size (.lst ((out.map SrtO.iv).map V.int)), I1.laid (t' := tk) (fun b u e => ?_) (Nat.le_refl _)
    (show ObjOk X.prog X.w _ _ _ (.lst ((out.map SrtO.iv).map V.int)) from ⟨hlen, out, e', vals_of_ints k1, he'⟩), rfl, q _ _ k2 k3 (I1.hok.fresh (Nat.le_refl _))⟩
  have hb : b < h'.objs.size := Heap.lt_size e
  rw [PyProof.Rows.sortedHeap_old (Nat.ne_of_lt hb) (by rw [size_push']; exact Nat.lt_succ_of_lt hb)]
  exact Heap.get?_push_of_some _ e
end Cu

namespace Cu
open PySem PySem.Spec PyProof.Rows L2
/-- a statement of several ends: what stands behind all of them -/
@[irreducible] def tMid (t : TS) : TS := fun D σ H => ∃ N : L2.St → Hp → Prop, t { D with nx := N } σ H ∧ ∀ σ' H', N σ' H' → D.nx σ' H'
theorem rd_mid {t : TS} {D : Ends} {σ : L2.St} {H : Hp} (N : L2.St → Hp → Prop) (h : t { D with nx := N } σ H) (k : ∀ σ' H', N σ' H' → D.nx σ' H') : tMid t D σ H := by
  unfold tMid
  exact ⟨N, h, k⟩
theorem ps_mid {X : Cx} {st : Stmt} {t : TS} (h : PS X st t) : PS X st (tMid t) := ⟨fun pins s σ H D I hw => by
  unfold tMid at hw
  obtain ⟨N, h1, k⟩ := hw
  refine thn (h.run pins s σ H _ I h1) fun f s1 q => ?_
  cases f with
  | next =>
    obtain ⟨σ', H', I', q⟩ := q
    exact ⟨σ', H', I', k _ _ q⟩
  | brk => exact q
  | cont => exact q
  | ret u => exact q⟩
/-- e, and a list in it, if there is one, from now on never changed -/
@[irreducible] def tFzw (t : TE) : TE := fun σ H Q => t σ H fun v H1 => Q v H1 ∨ ∃ a xs, H1 a = some (.lst xs) ∧ ∀ o, Q v (upd H1 a (.frz o (.lst xs)))
theorem rd_fzw {t : TE} {σ : L2.St} {H : Hp} {Q : VK} (h : t σ H fun v H1 => Q v H1 ∨ ∃ a xs, H1 a = some (.lst xs) ∧ ∀ o, Q v (upd H1 a (.frz o (.lst xs)))) : tFzw t σ H Q := by
  unfold tFzw
  exact h
theorem pe_fzw {X : Cx} {e : Expr} {t : TE} (h : PE X e t) : PE X e (tFzw t) := ⟨fun pins s σ H Q I hw => by
  unfold tFzw at hw
  refine thn (h.run pins s σ H _ I hw) fun u s1 ⟨v, H1, I1, r, q⟩ => ?_
  rcases q with q | ⟨a, xs, ha, q⟩
  · exact ⟨_, _, I1, r, q⟩
  · obtain ⟨od, I2⟩ := I1.lock ha trivial
    exact ⟨_, _, I2, r, q od⟩⟩
end Cu

namespace Cu
open PySem PySem.Spec PyProof.Rows L2
/-! rules for a comprehension's element: the written part by its own name -/
section
variable {X : Cx} {tg e o l : Expr} {f : Str} {pos : Pos} {ta tl : TE}
theorem ix_listK (K : PySem.W.Frag) (h : X.K = K) : IxR X (rIxL K) := h ▸ ix_list
theorem ix_tupK (K : PySem.W.Frag) (h : X.K = K) : IxR X (rIxT K) := h ▸ ix_tup
theorem sl_listK (K : PySem.W.Frag) (h : X.K = K) : SlR X (rSlL K) := h ▸ sl_list
theorem op_eqDK (K : PySem.W.Frag) (h : X.K = K) (hu : X.A.units + 64 < cLine) : OpR X (compareOp .Eq) (rEqD K) := h ▸ op_eqD hu
theorem op_neDK (K : PySem.W.Frag) (h : X.K = K) (hu : X.A.units + 64 < cLine) : OpR X (compareOp .NotEq) (rNeD K) := h ▸ op_neD hu
theorem op_in_seqK (K : PySem.W.Frag) (h : X.K = K) : OpR X (compareOp .In) (rIn K false) := h ▸ op_in_seq
theorem op_notIn_seqK (K : PySem.W.Frag) (h : X.K = K) : OpR X (compareOp .NotIn) (rIn K true) := h ▸ op_notIn_seq
theorem call_len_seqK (K : PySem.W.Frag) (h : X.K = K) : CallR X (.builtin "len") (fun xs H Q => ∃ p ys, xs = [.ref p] ∧ (SqL K H p ys ∨ SqT K H p ys) ∧ Q (.int ys.length) H) := h ▸ call_len_seq
theorem call_list_ofK (K : PySem.W.Frag) (h : X.K = K) : CallR X (.type "list") (fun xs H Q => ∃ p ys, xs = [.ref p] ∧ (SqL K H p ys ∨ SqT K H p ys) ∧ ∀ l, H l = none → Q (.ref l) (upd H l (.lst ys))) := h ▸ call_list_of
theorem call_tuple_ofK (K : PySem.W.Frag) (h : X.K = K) : CallR X (.type "tuple") (fun xs H Q => ∃ p ys, xs = [.ref p] ∧ ((SqL K H p ys ∧ ∀ l, H l = none → Q (.ref l) (upd H l (.tup ys))) ∨ (SqT K H p ys ∧ Q (.ref p) H))) := h ▸ call_tuple_of
theorem cr_sumK (K : PySem.W.Frag) (h : X.K = K) (hc : X.calm = true) : CallR X (.builtin "sum") (rSum K) := h ▸ cr_sum hc
theorem cr_minK' (K : PySem.W.Frag) (h : X.K = K) (hc : X.calm = true) : CallR X (.builtin "min") (rMin K) := h ▸ cr_min hc
theorem cr_maxK' (K : PySem.W.Frag) (h : X.K = K) (hc : X.calm = true) : CallR X (.builtin "max") (rMax K) := h ▸ cr_max hc
theorem cr_sortedIK (K : PySem.W.Frag) (h : X.K = K) : CallR X (.builtin "sorted") (rSortedI K) := h ▸ cr_sortedI
theorem pi_listK (K : PySem.W.Frag) (h : X.K = K) (hl : PE X l tl) : PI X tg l (iList K tl) := h ▸ pi_list hl
theorem pe_fldK (K : PySem.W.Frag) (h : X.K = K) (he : PE X e ta) (hb : attributeBase e f X.env (eval e X.env) = eval e X.env) : PE X (.Attribute e f pos) (tFld K ta f) := h ▸ pe_fld he hb
end
end Cu

namespace Cu
open PySem PySem.Spec PyProof.Rows L2
abbrev s_dice : Stmt := (top 24)
theorem sc_dice : FnScope ["_law_script", "_law_mixed", "_law_cell"] ["_law_script"] (defScope s_dice) := ⟨rfl, rfl, rfl, by decide +kernel, rfl, by decide +kernel, by decide +kernel⟩

abbrev s_next : Stmt := (top 25)
theorem sc_next : FnScope ["_law_dice_here", "_law_many", "_law_found", "_law_cell"] ["_law_dice_here", "_law_many"] (defScope s_next) := ⟨rfl, rfl, rfl, by decide +kernel, rfl, by decide +kernel, by decide +kernel⟩

def spDice (K : PySem.W.Frag) : Sp := fun vs H Q _ => vs.length = 1 ∧ ∃ (c : Addr) (ns : List Int) (R : Lg), vs = [.ref c] ∧ ns.length ≤ 1000 ∧ FzL K H c (ns.map V.int) ∧ Has H R ∧
  ∀ (a : Addr) (H' : Hp), Mono H H' → Dice K H' a R → Q (.ref a) H'
def spNext (K : PySem.W.Frag) : Sp := fun vs H Q _ => vs.length = 2 ∧ ∃ (a : Addr) (m : Int) (R : Lg), vs = [.ref a, .int m] ∧ 0 < m ∧ m ≤ 1000000000000000000 ∧ Dice K H a R ∧
  ∀ (r : Int) (H' : Hp), 0 ≤ r → r < m → Mono H H' → Dice K H' a R → Q (.int r) H'
section
variable {P : Program} {w : World} {K : PySem.W.Frag} {mg : Str → Option Value} {base : Heap}
theorem ok_dice (F : Fd K mg "_law_dice" s_dice) (Bm : Blt mg) : Gf P w K mg base 1 "_law_dice" ["_law_script"] (spDice K) := by
  refine F.ok sc_dice (fun _ _ _ _ _ _ us hl => match us, hl with | [_], _ => rfl) len_of fun qual f cdv A outer s H vs Q E hr h => ?_
  obtain ⟨_, c, ns, R, rfl, hn, hf, hR, k⟩ := h
  refine ⟨_, (pss_cons (ps_set (i := 1) sc_dice.nd rfl (Or.inl rfl) pe_int)
      (pss_cons (ps_for PassesOwn.never rfl (pi_list (pv 0)) (pg_name (i := 2) sc_dice.nd rfl (Or.inl rfl))
        (pss_one (ps_set (i := 1) sc_dice.nd rfl (Or.inl rfl) (pe_op op_mod (pe_op op_add (pe_op op_add (pe_op op_mul (pv 1) pe_int) (pe_op op_mul (pe_op op_mod (pv 2) pe_int) pe_int)) pe_int) pe_int))))
      (pss_one (ps_ret (pe_lst (pa_cons (pv 0) (pa_cons pe_int (pa_cons (pe_op op_mul (pv 1) (pe_callTy call_int1 rfl Bm.int (by decide +kernel) (pa_cons (pe_cmpR op_gt (pe_callB call_len_seq rfl Bm.len (by decide +kernel) (pa_cons (pv 0) pa_nil)) pe_int (nomark _)) pa_nil))) (pa_cons pe_int pa_nil))))))))), ?_⟩
  refine ⟨_, rfl, c, rfl, ⟨_, hf.sq⟩, for_list (K := K) (a := c) (xs := ns.map V.int) (fun i σ H2 => ∃ (z : Int) (v : Option V), σ = [some (.ref c), some (.int z), v] ∧ H2 = H) ⟨0, none, rfl, rfl⟩ (fun i σ H2 _ ⟨_, _, _, e⟩ => by rw [e]; exact hf.sq) ?_ ?_⟩
  · rintro i x σ H2 hi ⟨z, v, rfl, rfl⟩
    obtain ⟨y, rfl⟩ : ∃ y, x = V.int y := by
      rw [List.getElem?_map] at hi
      cases e : ns[i]? with
      | none =>
        rw [e] at hi
        cases hi
      | some y =>
        rw [e] at hi
        exact ⟨y, (Option.some.inj hi).symm⟩
    refine ⟨_, rfl, _, _, rfl, rfl, .inr ⟨by decide, by decide⟩, _, rfl, _, _, rfl, rfl, (by show (0 : Int) < 2147483647; decide), _, _, rfl, rfl, .inr ⟨by decide, by decide⟩, _, _, rfl, rfl, _, _, rfl, rfl, _, _, rfl, rfl, (by show (0 : Int) < 2147483647; decide), ?_⟩
    exact ⟨_, _, rfl, rfl⟩
  · rintro σ H2 ⟨z, v, rfl, rfl⟩
    refine ⟨_, rfl, _, rfl, _, rfl, c, _, rfl, .inl hf.sq, _, _, rfl, rfl, .inr ⟨_, rfl, _, _, rfl, rfl, .inr (by split <;> exact ⟨by decide, by decide⟩), ?_⟩⟩
    refine ⟨(by show 4 ≤ sizeLine; decide), fun l hl => ?_⟩
    exact k l _ (Mono.new hl) ⟨c, ns, _, _, _, Int.le_refl 0, hn, hf.mono (Mono.new hl), hR.new hl nl⟩
theorem ok_next (F : Fd K mg "_law_next" s_next) (Bm : Blt mg) : Gf P w K mg base 1 "_law_next" ["_law_dice_here", "_law_many"] (spNext K) := by
  refine F.ok sc_next (fun _ _ _ _ _ _ us hl => match us, hl with | [_, _], _ => rfl) len_of fun qual f cdv A outer s H vs Q E hr h => ?_
  obtain ⟨_, a, m, R, rfl, hm, hm2, ⟨c, ns, i, mx, r, hi, hn, hf, hh⟩, k⟩ := h
  have hdiv : CDivW 0 m := wide_div hm (wide_le (j := 1000000000000000000) (a := 60) (by omega) (by omega) (by decide)) (by decide) (by decide)
  refine ⟨_, (pss_cons (ps_if (pt_cmpR op_gt (pe_ix ix_list (pv 0) pe_int (fun _ _ => rfl)) pe_int (nomark _))
        (pss_cons (ps_set (i := 2) sc_next.nd rfl (Or.inl rfl) (pe_op op_mod (pe_ix ix_list (pv 0) pe_int (fun _ _ => rfl)) (pv 1)))
        (pss_cons (ps_asg (pe_op op_fdivW (pe_ix ix_list (pv 0) pe_int (fun _ _ => rfl)) (pv 1)) (pg_sub (pv 0) pe_int set_list))
        (pss_one (ps_ret (pv 2)))))
        pss_nil)
      (pss_cons (ps_asg (pe_op op_add (pe_ix ix_list (pv 0) pe_int (fun _ _ => rfl)) pe_int) (pg_sub (pv 0) pe_int set_list))
      (pss_cons (ps_if (pt_cmpR op_le (pe_ix ix_list (pv 0) pe_int (fun _ _ => rfl)) (pe_callB call_len_seq rfl Bm.len (by decide +kernel) (pa_cons (pe_ix ix_list (pv 0) pe_int (fun _ _ => rfl)) pa_nil)) (nomark _))
        (pss_cons (ps_set (i := 3) sc_next.nd rfl (Or.inl rfl) (pe_ix ix_list (pe_ix ix_list (pv 0) pe_int (fun _ _ => rfl)) (pe_op op_sub (pe_ix ix_list (pv 0) pe_int (fun _ _ => rfl)) pe_int) (fun _ _ => rfl)))
        (pss_cons (ps_asg (pe_ifExp (pt_cmpR op_ge (pv 3) (pe_op op_pow pe_int pe_int) (nomark _)) (pe_op op_fdivW (pv 3) (pv 1)) pe_int) (pg_sub (pv 0) pe_int set_list))
        (pss_one (ps_ret (pe_op op_mod (pv 3) (pv 1))))))
        pss_nil)
      (pss_cons (ps_asg (pe_op op_mod (pe_op op_mul (pe_ix ix_list (pv 0) pe_int (fun _ _ => rfl)) pe_int) pe_int) (pg_sub (pv 0) pe_int set_list))
      (pss_one (ps_ret (pe_op op_mod (pe_op op_fdivW (pe_ix ix_list (pv 0) pe_int (fun _ _ => rfl)) pe_int) (pv 1)))))))), ?_⟩
  have h0 := hh.head
  refine ⟨_, rfl, _, _, _, _, rfl, rfl, SqL.of h0, rfl, _, _, rfl, rfl, _, rfl, ite2 (fun hr0 => ?_) fun hr0 => ?_⟩
  · refine ⟨_, rfl, _, _, _, _, rfl, rfl, SqL.of h0, rfl, _, rfl, _, _, rfl, rfl, hm, ?_⟩
    refine ⟨_, rfl, _, _, _, _, rfl, rfl, SqL.of h0, rfl, _, rfl, _, _, rfl, rfl, hdiv, _, rfl, _, _, _, _, rfl, rfl, h0, rfl, _, rfl, ?_⟩
    exact k _ _ (Int.emod_nonneg _ (by omega)) (Int.emod_lt_of_pos _ hm) hh.mono_put ⟨c, ns, i, mx, r / m, hi, hn, hf.mono hh.mono_put, hh.put nl⟩
  · refine ⟨_, rfl, _, _, _, _, rfl, rfl, SqL.of h0, rfl, _, _, rfl, rfl, _, rfl, _, _, _, _, rfl, rfl, h0, rfl, ?_⟩
    have h1 : Has (upd H a (.lst [.ref c, .int (i + 1), .int mx, .int r])) ((a, .lst [.ref c, .int (i + 1), .int mx, .int r]) :: R) := hh.put nl
    have m1 : Mono H (upd H a (.lst [.ref c, .int (i + 1), .int mx, .int r])) := hh.mono_put
    have f1 := hf.mono m1
    have e1 := h1.head
    refine ⟨_, rfl, _, _, _, _, rfl, rfl, SqL.of e1, rfl, _, rfl, _, _, _, _, rfl, rfl, SqL.of e1, rfl, c, _, rfl, .inl f1.sq, _, _, rfl, rfl, _, rfl, ite2 (fun hle => ?_) fun hle => ?_⟩
    · have hle' : i + 1 ≤ (ns.length : Int) := by
        have := of_decide_eq_true hle
        rw [List.length_map] at this
        exact this
      have hj : i.toNat < ns.length := by omega
      have hat : atI (ns.map V.int) (i + 1 - 1) = some (V.int ns[i.toNat]) := at_of (j := i.toNat) (by omega) (by rw [List.getElem?_map, List.getElem?_eq_getElem hj]; rfl)
      refine ⟨_, rfl, _, _, _, _, rfl, rfl, SqL.of e1, rfl, _, rfl, _, _, _, _, rfl, rfl, SqL.of e1, rfl, _, _, rfl, rfl, c, _, _, _, rfl, rfl, f1.sq, hat, ?_⟩
      refine ⟨_, rfl, _, _, rfl, rfl, ⟨by decide, by decide, by decide⟩, _, _, rfl, rfl, _, rfl, ite2 (fun hb => ?_) fun hb => ?_⟩
      · refine ⟨_, rfl, _, rfl, _, _, rfl, rfl, hdiv, _, rfl, _, _, _, _, rfl, rfl, e1, rfl, _, rfl, _, rfl, _, _, rfl, rfl, hm, ?_⟩
        exact k _ _ (Int.emod_nonneg _ (by omega)) (Int.emod_lt_of_pos _ hm) (m1.trans h1.mono_put) ⟨c, ns, i + 1, mx, ns[i.toNat] / m, by omega, hn, f1.mono h1.mono_put, h1.put nl⟩
      · refine ⟨_, rfl, _, _, _, _, rfl, rfl, e1, rfl, _, rfl, _, rfl, _, _, rfl, rfl, hm, ?_⟩
        exact k _ _ (Int.emod_nonneg _ (by omega)) (Int.emod_lt_of_pos _ hm) (m1.trans h1.mono_put) ⟨c, ns, i + 1, mx, 0, by omega, hn, f1.mono h1.mono_put, h1.put nl⟩
    · refine ⟨_, rfl, _, _, _, _, rfl, rfl, SqL.of e1, rfl, _, _, rfl, rfl, .inr ⟨by decide, by decide⟩, _, _, rfl, rfl, (by show (0 : Int) < 2147483647; decide), _, rfl, _, _, _, _, rfl, rfl, e1, rfl, ?_⟩
      have h2 := h1.put (o' := .lst [.ref c, .int (i + 1), .int (mx * 48271 % 2147483647), .int r]) nl
      have e2 := h2.head
      refine ⟨_, rfl, _, _, _, _, rfl, rfl, SqL.of e2, rfl, _, _, rfl, rfl, ⟨by decide, by decide⟩, _, rfl, _, _, rfl, rfl, hm, ?_⟩
      exact k _ _ (Int.emod_nonneg _ (by omega)) (Int.emod_lt_of_pos _ hm) (m1.trans h1.mono_put) ⟨c, ns, i + 1, _, r, by omega, hn, f1.mono h1.mono_put, h2⟩
end
end Cu

namespace Cu
open PySem PySem.Spec PyProof.Rows L2
theorem at_some {xs : List V} {r : Int} (h0 : 0 ≤ r) (h1 : r < (xs.length : Int)) : ∃ v, atI xs r = some v ∧ v ∈ xs := by
  have hj : r.toNat < xs.length := by omega
  exact ⟨xs[r.toNat], at_of (j := r.toNat) (by omega) (List.getElem?_eq_getElem hj), List.getElem_mem hj⟩
/-- a change as it is drawn -/
structure Ch where
  key : Nat
  set : Bool
  worth : Int
def wd (b : Bool) : Str := if b then "set" else "add"
def Ch.enc (c : Ch) : PyData := .tuple [.int c.key, .str (wd c.set), .int c.worth]
end Cu

namespace Cu
open PySem PySem.Spec PyProof.Rows L2
/-! a story: worths and lasts behind changes, rows, letters -/
def wst (k : Nat) (w : Int) (c : Ch) : Int := if c.key = k then (if c.set then 0 else w) + c.worth else w
def wofR : List Ch → Nat → Int
  | [], _ => 0
  | c :: r, k => wst k (wofR r k) c
def lofR : List Ch → Nat → Nat
  | [], _ => 0
  | c :: r, k => if c.key = k then r.length + 1 else lofR r k
def wof (cs : List Ch) (k : Nat) : Int := wofR cs.reverse k
def lof (cs : List Ch) (k : Nat) : Nat := lofR cs.reverse k
theorem wof_nil (k : Nat) : wof [] k = 0 := rfl
theorem lof_nil (k : Nat) : lof [] k = 0 := rfl
theorem wof_snoc (cs : List Ch) (c : Ch) (k : Nat) : wof (cs ++ [c]) k = wst k (wof cs k) c := by
  unfold wof
  rw [List.reverse_append]
  rfl
theorem lof_snoc (cs : List Ch) (c : Ch) (k : Nat) : lof (cs ++ [c]) k = if c.key = k then cs.length + 1 else lof cs k := by
  unfold lof
  rw [List.reverse_append]
  show (if c.key = k then cs.reverse.length + 1 else lofR cs.reverse k) = _
  rw [List.length_reverse]
def wrow (nk : Nat) (cs : List Ch) : List Int := (List.range nk).map (wof cs)
def lrow (nk : Nat) (cs : List Ch) : List Int := (List.range nk).map fun k => (lof cs k : Int)
def ilst (ns : List Int) : PyData := .list (ns.map PyData.int)
def rowD (nk : Nat) (cs : List Ch) : PyData := .tuple [ilst (wrow nk cs), ilst (lrow nk cs)]
inductive Letter where
  | change (n : Nat) (c : Ch) (ahead : Nat)
  | part (n b : Nat) (rows : List (Int × Nat))
  | beat (n : Nat) (lasts : List Nat)
def Letter.enc : Letter → PyData
  | .change n c ahead => .tuple [.str "change", .int n, .int c.key, .str (wd c.set), .int c.worth, .int ahead]
  | .part n b rows => .tuple [.str "part", .int n, .int b, .tuple (rows.map fun r => .tuple [.int r.1, .int r.2])]
  | .beat n lasts => .tuple [.str "beat", .int n, .tuple (lasts.map fun k : Nat => .int k)]
def letsR : List Ch → List Letter
  | [] => []
  | c :: r => letsR r ++ [.change (r.length + 1) c (lofR r c.key)]
def rowsR (nk : Nat) : List Ch → List PyData
  | [] => [rowD nk []]
  | c :: r => rowsR nk r ++ [rowD nk (c :: r).reverse]
def lets (cs : List Ch) : List Letter := letsR cs.reverse
def rowsD (nk : Nat) (cs : List Ch) : List PyData := rowsR nk cs.reverse
theorem lets_nil : lets [] = [] := rfl
theorem lets_snoc (cs : List Ch) (c : Ch) : lets (cs ++ [c]) = lets cs ++ [.change (cs.length + 1) c (lof cs c.key)] := by
  unfold lets lof
  rw [List.reverse_append]
  show letsR cs.reverse ++ [Letter.change (cs.reverse.length + 1) c (lofR cs.reverse c.key)] = _
  rw [List.length_reverse]
theorem rowsD_nil (nk : Nat) : rowsD nk [] = [rowD nk []] := rfl
theorem rowsD_snoc (nk : Nat) (cs : List Ch) (c : Ch) : rowsD nk (cs ++ [c]) = rowsD nk cs ++ [rowD nk (cs ++ [c])] := by
  unfold rowsD
  rw [List.reverse_append]
  show rowsR nk cs.reverse ++ [rowD nk (c :: cs.reverse).reverse] = _
  rw [List.reverse_cons, List.reverse_reverse]
theorem snoc_ind {α : Type} {p : List α → Prop} (h0 : p []) (h1 : ∀ xs x, p xs → p (xs ++ [x])) (xs : List α) : p xs := by
  have q : ∀ ys : List α, p ys.reverse := fun ys => by
    induction ys with
    | nil => exact h0
    | cons y ys ih =>
      rw [List.reverse_cons]
      exact h1 _ _ ih
  have := q xs.reverse
  rwa [List.reverse_reverse] at this
theorem rowsD_last (nk : Nat) (cs : List Ch) : ∃ init, rowsD nk cs = init ++ [rowD nk cs] := by
  induction cs using snoc_ind with
  | h0 => exact ⟨[], rfl⟩
  | h1 cs c _ => exact ⟨_, rowsD_snoc nk cs c⟩
theorem rowsD_length (nk : Nat) (cs : List Ch) : (rowsD nk cs).length = cs.length + 1 := by
  induction cs using snoc_ind with
  | h0 => rfl
  | h1 cs c ih => rw [rowsD_snoc, List.length_append, ih, List.length_append]; rfl
theorem lets_length (cs : List Ch) : (lets cs).length = cs.length := by
  induction cs using snoc_ind with
  | h0 => rfl
  | h1 cs c ih => rw [lets_snoc, List.length_append, ih, List.length_append]; rfl
theorem rowsD_get {nk : Nat} : ∀ {cs : List Ch} {n : Nat}, n ≤ cs.length → (rowsD nk cs)[n]? = some (rowD nk (cs.take n)) := by
  intro cs
  induction cs using snoc_ind with
  | h0 =>
    intro n h
    have : n = 0 := by simpa using h
    subst this
    rfl
  | h1 cs c ih =>
    intro n h
    rw [rowsD_snoc]
    rw [List.length_append, List.length_singleton] at h
    by_cases e : n ≤ cs.length
    · rw [List.getElem?_append_left (by rw [rowsD_length]; omega), ih e, List.take_append_of_le_length e]
    · have e1 : n = cs.length + 1 := by omega
      subst e1
      rw [List.getElem?_append_right (by rw [rowsD_length]; exact Nat.le_refl _), rowsD_length, Nat.sub_self, List.take_of_length_le (by simp)]
      rfl
theorem lets_get : ∀ {cs : List Ch} {n : Nat} {c : Ch}, cs[n]? = some c → (lets cs)[n]? = some (.change (n + 1) c (lof (cs.take n) c.key)) := by
  intro cs
  induction cs using snoc_ind with
  | h0 =>
    intro n c h
    simp at h
  | h1 cs d ih =>
    intro n c h
    rw [lets_snoc]
    have hn : n < cs.length + 1 := by
      have := (List.getElem?_eq_some_iff.mp h).1
      simpa using this
    by_cases e : n < cs.length
    · rw [List.getElem?_append_left (by rw [lets_length]; exact e), List.take_append_of_le_length (Nat.le_of_lt e)]
      rw [List.getElem?_append_left e] at h
      exact ih h
    · have e1 : n = cs.length := by omega
      subst e1
      rw [List.getElem?_append_right (Nat.le_refl _), Nat.sub_self] at h
      have e2 : d = c := by simpa using h
      subst e2
      rw [List.getElem?_append_right (by rw [lets_length]; exact Nat.le_refl _), lets_length, Nat.sub_self, List.take_append_of_le_length (Nat.le_refl _), List.take_of_length_le (Nat.le_refl _)]
      rfl
theorem set_cut {α : Type} (xs : List α) (k : Nat) (v : α) (h : k < xs.length) : xs.take k ++ [v] ++ xs.drop (k + 1) = xs.set k v := by
  rw [List.set_eq_take_append_cons_drop, if_pos h, List.append_assoc]
  rfl
theorem wrow_snoc (nk : Nat) (cs : List Ch) (c : Ch) : wrow nk (cs ++ [c]) = (wrow nk cs).set c.key (wst c.key (wof cs c.key) c) := by
  apply List.ext_getElem?
  intro i
  unfold wrow
  rw [List.getElem?_map]
  by_cases hi : i < nk
  · rw [List.getElem?_range hi]
    by_cases e : c.key = i
    · rw [e, List.getElem?_set_self (by simpa using hi)]
      simp [wof_snoc]
    · rw [List.getElem?_set_ne e, List.getElem?_map, List.getElem?_range hi]
      simp [wof_snoc, wst, e]
  · have h1 : (List.range nk)[i]? = none := by simp; omega
    have h2 : ((List.range nk).map (wof cs)).length ≤ i := by simp; omega
    rw [h1, List.getElem?_eq_none (by rw [List.length_set]; exact h2)]
    rfl
theorem lrow_snoc (nk : Nat) (cs : List Ch) (c : Ch) : lrow nk (cs ++ [c]) = (lrow nk cs).set c.key ((cs.length + 1 : Nat) : Int) := by
  apply List.ext_getElem?
  intro i
  unfold lrow
  rw [List.getElem?_map]
  by_cases hi : i < nk
  · rw [List.getElem?_range hi]
    by_cases e : c.key = i
    · rw [e, List.getElem?_set_self (by simpa using hi)]
      simp [lof_snoc, e]
    · rw [List.getElem?_set_ne e, List.getElem?_map, List.getElem?_range hi]
      simp [lof_snoc, e]
  · have h1 : (List.range nk)[i]? = none := by simp; omega
    have h2 : ((List.range nk).map fun k => (lof cs k : Int)).length ≤ i := by simp; omega
    rw [h1, List.getElem?_eq_none (by rw [List.length_set]; exact h2)]
    rfl
theorem wrow_get {nk k : Nat} {cs : List Ch} (h : k < nk) : (wrow nk cs)[k]? = some (wof cs k) := by
  unfold wrow
  rw [List.getElem?_map, List.getElem?_range h]
  rfl
theorem lrow_get {nk k : Nat} {cs : List Ch} (h : k < nk) : (lrow nk cs)[k]? = some (lof cs k : Int) := by
  unfold lrow
  rw [List.getElem?_map, List.getElem?_range h]
  rfl
theorem wrow_len (nk : Nat) (cs : List Ch) : (wrow nk cs).length = nk := by simp [wrow]
theorem lrow_len (nk : Nat) (cs : List Ch) : (lrow nk cs).length = nk := by simp [lrow]
theorem wrow_nil (nk : Nat) : wrow nk [] = List.replicate nk 0 := by
  apply List.ext_getElem?
  intro i
  by_cases hi : i < nk
  · rw [wrow_get hi, List.getElem?_replicate, if_pos hi]
    rfl
  · rw [List.getElem?_eq_none (by rw [wrow_len]; omega), List.getElem?_eq_none (by simp; omega)]
theorem lrow_nil (nk : Nat) : lrow nk [] = List.replicate nk 0 := by
  apply List.ext_getElem?
  intro i
  by_cases hi : i < nk
  · rw [lrow_get hi, List.getElem?_replicate, if_pos hi]
    rfl
  · rw [List.getElem?_eq_none (by rw [lrow_len]; omega), List.getElem?_eq_none (by simp; omega)]
theorem take_snoc {α : Type} {xs : List α} {i : Nat} {x : α} (h : xs[i]? = some x) : xs.take (i + 1) = xs.take i ++ [x] := by
  rw [List.take_add_one, h]
  rfl

section
variable {K : PySem.W.Frag} {H H' : Hp}
theorem RpL.snoc_inv : ∀ {ds : List PyData} {d : PyData} {vs : List V}, RpL K H (ds ++ [d]) vs → ∃ us v, vs = us ++ [v] ∧ RpL K H ds us ∧ Rp K H d v
  | [], d, vs, h => by
    obtain ⟨v, r, e, h1, h2⟩ := RpL.cons_inv (show RpL K H [d] vs from h)
    have := h2.nil_inv
    subst this
    exact ⟨[], v, e, .nil, h1⟩
  | c :: ds, d, vs, h => by
    obtain ⟨v, r, e, h1, h2⟩ := RpL.cons_inv (show RpL K H (c :: (ds ++ [d])) vs from h)
    obtain ⟨us, u, e2, h3, h4⟩ := RpL.snoc_inv h2
    subst e2
    exact ⟨v :: us, u, e, .cons h1 h3, h4⟩
/-- a list of ints that stays -/
theorem Rp.il_inv {ns : List Int} {v : V} (h : Rp K H (ilst ns) v) : ∃ a, v = .ref a ∧ FzL K H a (ns.map V.int) := by
  obtain ⟨a, xs, e, f, r⟩ := h.lst_inv
  rw [r.ints] at f
  exact ⟨a, e, f⟩
theorem Rp.il {ns : List Int} {a : Addr} (h : FzL K H a (ns.map V.int)) : Rp K H (ilst ns) (.ref a) := .lst h (RpL.of_ints ns)
theorem Rp.ch_inv {c : Ch} {v : V} (h : Rp K H c.enc v) : ∃ a, v = .ref a ∧ H a = some (.tup [.int c.key, .str (wd c.set), .int c.worth]) := by
  obtain ⟨a, xs, e, f, r⟩ := h.tup_inv
  obtain ⟨v1, r1, e1, h1, r⟩ := r.cons_inv
  obtain ⟨v2, r2, e2, h2, r⟩ := r.cons_inv
  obtain ⟨v3, r3, e3, h3, r⟩ := r.cons_inv
  have := r.nil_inv
  subst this e3 e2 e1
  have h1 := Rp.int_iff.mp h1
  have h2 := Rp.str_iff.mp h2
  have h3 := Rp.int_iff.mp h3
  subst h1 h2 h3
  exact ⟨a, e, f⟩
theorem Rp.row_inv {nk : Nat} {cs : List Ch} {v : V} (h : Rp K H (rowD nk cs) v) : ∃ a p q, v = .ref a ∧ H a = some (.tup [.ref p, .ref q]) ∧ FzL K H p ((wrow nk cs).map V.int) ∧ FzL K H q ((lrow nk cs).map V.int) := by
  obtain ⟨a, xs, e, f, r⟩ := h.tup_inv
  obtain ⟨v1, r1, e1, h1, r⟩ := r.cons_inv
  obtain ⟨v2, r2, e2, h2, r⟩ := r.cons_inv
  have := r.nil_inv
  subst this e2 e1
  obtain ⟨p, e1, f1⟩ := h1.il_inv
  obtain ⟨q, e2, f2⟩ := h2.il_inv
  subst e1 e2
  exact ⟨a, p, q, e, f, f1, f2⟩
theorem Rp.row {nk : Nat} {cs : List Ch} {a p q : Addr} (h : H a = some (.tup [.ref p, .ref q])) (f1 : FzL K H p ((wrow nk cs).map V.int)) (f2 : FzL K H q ((lrow nk cs).map V.int)) : Rp K H (rowD nk cs) (.ref a) :=
  .tup h (.cons (.il f1) (.cons (.il f2) .nil))
end
theorem Dice.use {K : PySem.W.Frag} {H : Hp} {a : Addr} {R : Lg} (d : Dice K H a R) : ∃ R0, Has H R0 ∧ ∀ H', Mono H H' → Has H' R0 → Dice K H' a R :=
  let ⟨c, ns, i, m, r, h1, h2, h3, h⟩ := d
  ⟨_, h, fun _ m' h' => ⟨c, ns, i, m, r, h1, h2, h3.mono m', h'⟩⟩
end Cu

namespace Cu
open PySem PySem.Spec PyProof.Rows L2
/-- what is owned goes from C to C', whatever else is owned; nothing else changes -/
structure Tr (H : Hp) (C : Lg) (H' : Hp) (C' : Lg) : Prop where
  mono : Mono H H'
  has : ∀ R, Has H (C ++ R) → Has H' (C' ++ R)
abbrev Grow (H H' : Hp) : Prop := Tr H [] H' []
section
variable {K : PySem.W.Frag} {H H1 H2 : Hp} {C C1 C2 D : Lg} {a p : Addr} {o o' : HO} {R : Lg}
theorem Tr.refl (H : Hp) (C : Lg) : Tr H C H C := ⟨Mono.refl H, fun _ h => h⟩
theorem Tr.trans (t : Tr H C H1 C1) (u : Tr H1 C1 H2 C2) : Tr H C H2 C2 := ⟨t.mono.trans u.mono, fun R h => u.has R (t.has R h)⟩
theorem Tr.right (t : Tr H C H1 C1) : Tr H (C ++ D) H1 (C1 ++ D) := ⟨t.mono, fun R h => by
  rw [List.append_assoc] at h ⊢
  exact t.has _ h⟩
theorem Tr.left (t : Tr H C H1 C1) : Tr H (D ++ C) H1 (D ++ C1) := ⟨t.mono, fun R h => by
  rw [List.append_assoc] at h ⊢
  exact (t.has _ h.swap).swap⟩
theorem Tr.now (t : Tr H C H1 C1) (h : Has H C) : Has H1 C1 := by
  have := t.has [] (by rw [List.append_nil]; exact h)
  rwa [List.append_nil] at this
theorem Tr.own (t : Tr H [] H1 C1) : Has H1 C1 := t.now .nil
theorem Tr.grow (t : Tr H C H1 C1) (g : Grow H1 H2) : Tr H C H2 C1 := t.trans (by simpa using g.right (D := C1))
theorem Tr.new (t : Tr H C H1 C1) (f : H1 p = none) (n : ¬ Imm o) : Tr H C (upd H1 p o) ((p, o) :: C1) := ⟨t.mono.trans (Mono.new f), fun R h => (t.has R h).new f n⟩
theorem Tr.old (t : Tr H C H1 C1) (f : H1 p = none) : Tr H C (upd H1 p o) C1 := ⟨t.mono.trans (Mono.new f), fun R h => (t.has R h).old f⟩
theorem Tr.put (t : Tr H C H1 ((p, o) :: C1)) (h : Has H C) (n : ¬ Imm o') : Tr H C (upd H1 p o') ((p, o') :: C1) := ⟨t.mono.trans (t.now h).mono_put, fun R h => (t.has R h).put n⟩
theorem Tr.fz {xs : List V} {ob : Obj} (t : Tr H C H1 ((p, .lst xs) :: C1)) (h : Has H C) : Tr H C (upd H1 p (.frz ob (.lst xs))) C1 :=
  ⟨t.mono.trans (t.now h).mono_put, fun R h => (t.has R h).tail.off (List.nodup_cons.mp (t.has R h).nd).1⟩
theorem Tr.perm (t : Tr H C H1 C1) (e : C1.Perm C2) : Tr H C H1 C2 := ⟨t.mono, fun R h => (t.has R h).perm (e.append_right R)⟩
theorem Tr.sub (t : Tr H C H1 C1) (e : C2.Sublist C1) : Tr H C H1 C2 := ⟨t.mono, fun R h => (t.has R h).sub (e.append_right R)⟩
theorem Tr.tail (t : Tr H C H1 ((p, o) :: C1)) : Tr H C H1 C1 := t.sub (List.sublist_cons_self _ _)
theorem Tr.swap2 {q r : Addr × HO} (t : Tr H C H1 (q :: r :: C1)) : Tr H C H1 (r :: q :: C1) := t.perm (List.Perm.swap _ _ _)
/-- a new list, frozen at once -/
theorem Tr.nfz {xs : List V} {ob : Obj} (t : Tr H C H1 C1) (f : H1 p = none) : Tr H C (upd (upd H1 p (.lst xs)) p (.frz ob (.lst xs))) C1 :=
  ⟨t.mono.trans ((Mono.new f).trans (Mono.put upd_same fun h => h)), fun R h => ((t.has R h).old f).off ((t.has R h).notin f)⟩
theorem Grow.mono' (g : Grow H H1) : Mono H H1 := g.mono
theorem Grow.has' (g : Grow H H1) (h : Has H R) : Has H1 R := g.has R h
theorem Grow.refl (H : Hp) : Grow H H := Tr.refl H []
theorem Grow.new (f : H p = none) : Grow H (upd H p o) := (Tr.refl H []).old f
/-- a new tuple goes to the end of an owned list -/
theorem snoc_tup {l t : Addr} {ys us : List V} {ds : List PyData} (h : Has H ((l, .lst ys) :: C)) (ht : H t = none) (r : RpL K H ds us) :
    Tr H ((l, .lst ys) :: C) (upd (upd H t (.tup us)) l (.lst (ys ++ [.ref t]))) ((l, .lst (ys ++ [.ref t])) :: C) ∧ Rp K (upd (upd H t (.tup us)) l (.lst (ys ++ [.ref t]))) (.tuple ds) (.ref t) := by
  have s1 := (Tr.refl H ((l, .lst ys) :: C)).old (o := .tup us) ht
  have s2 := s1.put (o' := .lst (ys ++ [.ref t])) h nl
  exact ⟨s2, .tup ((s1.now h).mono_put _ _ upd_same trivial) (r.mono s2.mono)⟩
theorem Dice.grow (d : Dice K H a R) (g : Grow H H1) : Dice K H1 a R := by
  obtain ⟨R0, h0, back⟩ := d.use
  exact back _ g.mono (g.has _ h0)
theorem Dice.tr (d : Dice K H a (C ++ R)) (t : Tr H C H1 C1) : Dice K H1 a (C1 ++ R) :=
  let ⟨c, ns, i, m, r, h1, h2, h3, h⟩ := d
  ⟨c, ns, i, m, r, h1, h2, h3.mono t.mono, by
    have := t.has ((a, .lst [.ref c, .int i, .int m, .int r]) :: R) h.swap1
    exact this.unswap1⟩
theorem Dice.tr0 (d : Dice K H a C) (t : Tr H C H1 C1) : Dice K H1 a C1 := by
  have := Dice.tr (R := []) (by rw [List.append_nil]; exact d) t
  rwa [List.append_nil] at this
end
end Cu

namespace Cu
open PySem PySem.Spec PyProof.Rows L2
/-! data that may be compared -/
def Gd (n : Nat) (d : PyData) : Prop := d.canLay0 = true ∧ d.depth ≤ n
theorem Gd.mono {n m : Nat} {d : PyData} (h : Gd n d) (e : n ≤ m) : Gd m d := ⟨h.1, Nat.le_trans h.2 e⟩
theorem Gd.int {n : Nat} {i : Int} : Gd n (.int i) := ⟨by simp [PyData.canLay0], by simp [PyData.depth]⟩
theorem Gd.none {n : Nat} : Gd n .none := ⟨by simp [PyData.canLay0], by simp [PyData.depth]⟩
theorem Gd.bool {n : Nat} {b : Bool} : Gd n (.bool b) := ⟨by simp [PyData.canLay0], by simp [PyData.depth]⟩
theorem Gd.str {n : Nat} {s : Str} (h : PyData.strOk s = true) : Gd n (.str s) := ⟨by simpa [PyData.canLay0] using h, by simp [PyData.depth]⟩
theorem canAll : ∀ {ds : List PyData}, (∀ d ∈ ds, d.canLay0 = true) → PyData.canLayAll0 ds = true
  | [], _ => by simp [PyData.canLayAll0]
  | d :: ds, h => by
    simp only [PyData.canLayAll0, Bool.and_eq_true]
    exact ⟨h d List.mem_cons_self, canAll fun e he => h e (List.mem_cons_of_mem _ he)⟩
theorem depthAll_le {n : Nat} : ∀ {ds : List PyData}, (∀ d ∈ ds, d.depth ≤ n) → PyData.depthAll ds ≤ n
  | [], _ => by simp [PyData.depthAll]
  | d :: ds, h => by
    simp only [PyData.depthAll]
    exact Nat.max_le.mpr ⟨h d List.mem_cons_self, depthAll_le fun e he => h e (List.mem_cons_of_mem _ he)⟩
theorem Gd.list {n : Nat} {ds : List PyData} (h : ∀ d ∈ ds, Gd n d) : Gd (n + 1) (.list ds) := by
  refine ⟨?_, ?_⟩
  · simp only [PyData.canLay0]
    exact canAll fun d hd => (h d hd).1
  · simp only [PyData.depth]
    have := depthAll_le fun d hd => (h d hd).2
    omega
theorem Gd.tuple {n : Nat} {ds : List PyData} (h : ∀ d ∈ ds, Gd n d) : Gd (n + 1) (.tuple ds) := by
  refine ⟨?_, ?_⟩
  · simp only [PyData.canLay0]
    exact canAll fun d hd => (h d hd).1
  · simp only [PyData.depth]
    have := depthAll_le fun d hd => (h d hd).2
    omega
theorem Gd.all_nil {n : Nat} : ∀ d ∈ ([] : List PyData), Gd n d := fun _ h => (nomatch h)
theorem Gd.all_cons {n : Nat} {d : PyData} {ds : List PyData} (h : Gd n d) (r : ∀ d ∈ ds, Gd n d) : ∀ e ∈ d :: ds, Gd n e := fun e he => by
  rcases List.mem_cons.mp he with rfl | he
  · exact h
  · exact r e he
theorem Gd.shaped {n : Nat} {d : PyData} (h : Gd n d) (e : n ≤ 64 := by decide) : SeqAt.shaped d = true := by
  unfold SeqAt.shaped
  rw [Bool.and_eq_true]
  exact ⟨h.1, decide_eq_true (Nat.le_trans h.2 e)⟩
theorem Gd.refl {n : Nat} {d : PyData} (h : Gd n d) : PyData.eqv d d = true := SeqAt.eqv_refl d h.1
theorem Gd.ilst {n : Nat} (ns : List Int) : Gd (n + 1) (ilst ns) := .list fun d hd => by
  obtain ⟨i, _, rfl⟩ := List.mem_map.mp hd
  exact .int
theorem wd_ok (b : Bool) : PyData.strOk (wd b) = true := by cases b <;> decide +kernel
theorem Gd.letter (l : Letter) : Gd 4 l.enc := by
  cases l with
  | change n c ahead => exact .tuple (.all_cons (.str (by decide +kernel)) (.all_cons .int (.all_cons .int (.all_cons (.str (wd_ok _)) (.all_cons .int (.all_cons .int .all_nil))))))
  | part n b rows =>
    refine .tuple (.all_cons (.str (by decide +kernel)) (.all_cons .int (.all_cons .int (.all_cons (.tuple fun d hd => ?_) .all_nil))))
    obtain ⟨r, _, rfl⟩ := List.mem_map.mp hd
    exact .tuple (.all_cons .int (.all_cons .int .all_nil))
  | beat n lasts =>
    refine .tuple (.all_cons (.str (by decide +kernel)) (.all_cons .int (.all_cons (.tuple fun d hd => ?_) .all_nil)))
    obtain ⟨r, _, rfl⟩ := List.mem_map.mp hd
    exact .int
theorem Gd.letters (ls : List Letter) : Gd 5 (.list (ls.map Letter.enc)) := .list fun d hd => by
  obtain ⟨l, _, rfl⟩ := List.mem_map.mp hd
  exact .letter l
theorem Gd.nil {n : Nat} : Gd (n + 1) (.list []) := .list .all_nil
theorem eqv_nil (ds : List PyData) : PyData.eqv (.list ds) (.list []) = ds.isEmpty := by
  cases ds <;> simp [PyData.eqv, PyData.eqvAll]
theorem eqv_ilst : ∀ {ns ms : List Int}, PyData.eqv (ilst ns) (ilst ms) = decide (ns = ms)
  | [], [] => by simp [ilst, PyData.eqv, PyData.eqvAll]
  | [], _ :: _ => by simp [ilst, PyData.eqv, PyData.eqvAll]
  | _ :: _, [] => by simp [ilst, PyData.eqv, PyData.eqvAll]
  | n :: ns, m :: ms => by
    have ih := eqv_ilst (ns := ns) (ms := ms)
    simp only [ilst, PyData.eqv] at ih
    simp only [ilst, List.map_cons, PyData.eqv, PyData.eqvAll, ih]
    by_cases h : n = m <;> simp [h]
theorem Dp.nil {K : PySem.W.Frag} {H : Hp} {a : Addr} (h : H a = some (.lst [])) : Dp K H (.ref a) (.list []) := .lst (SqL.of h) .nil
theorem cutV_to {xs : List V} {k : Nat} (h : k ≤ xs.length) : cutV xs none (some (k : Int)) = xs.take k := by
  unfold cutV
  rw [HT.sIx_none, HT.sIx_nat, Nat.min_eq_left h, List.drop_zero, Nat.sub_zero]
theorem cutV_from {xs : List V} {k : Nat} (h : k ≤ xs.length) : cutV xs (some (k : Int)) none = xs.drop k := by
  unfold cutV
  rw [HT.sIx_none, HT.sIx_nat, Nat.min_eq_left h, List.take_of_length_le (by simp)]
end Cu

namespace Cu
open PySem PySem.Spec PyProof.Rows L2
def partRows (cs : List Ch) (n b m : Nat) : List (Int × Nat) := (List.range m).map fun i => (wof (cs.take n) (b + i), lof (cs.take n) (b + i))
def partL (cs : List Ch) (n b e : Nat) : Letter := .part n b (partRows cs n b (e - b))
def beatL (nk : Nat) (cs : List Ch) (n : Nat) : Letter := .beat n ((List.range nk).map fun k => lof (cs.take n) k)
/-- a letter of a board of nk keys, with the story cs, as it was at some time -/
inductive IsLet (nk : Nat) (cs : List Ch) : Letter → Prop
  | change {n : Nat} {c : Ch} : cs[n]? = some c → IsLet nk cs (.change (n + 1) c (lof (cs.take n) c.key))
  | part {n b e : Nat} : n ≤ cs.length → b < e → e ≤ nk → IsLet nk cs (partL cs n b e)
  | beat {n : Nat} : n ≤ cs.length → IsLet nk cs (beatL nk cs n)
section
variable {K : PySem.W.Frag}
theorem Rp.str_of {H : Hp} {ls : List Letter} {v : V} (h : Rp K H (.list (ls.map Letter.enc)) v) : ∃ a xs, v = .ref a ∧ FzL K H a xs ∧ RpL K H (ls.map Letter.enc) xs ∧ xs.length = ls.length := by
  obtain ⟨a, xs, e, f, r⟩ := h.lst_inv
  exact ⟨a, xs, e, f, r, by rw [r.length, List.length_map]⟩
end
end Cu

namespace Cu
open PySem PySem.Spec PyProof.Rows L2
/-- list + list, lists that stay among them -/
def rCatZ (K : PySem.W.Frag) : R2 := fun x y H Q => ∃ l b xs zs, x = .ref l ∧ y = .ref b ∧ SqL K H l xs ∧ SqL K H b zs ∧ xs.length + zs.length ≤ sizeLine ∧ ∀ p, H p = none → Q (.ref p) (upd H p (.lst (xs ++ zs)))
theorem op_catZ {X : Cx} : OpR X (binaryOp .Add) (rCatZ X.K) := by
  intro pins s σ H x y v u Q I rx ry h
  obtain ⟨l, b, xs, zs, rfl, rfl, hl, hb, hz, q⟩ := h
  cases rx
  cases ry
  obtain ⟨i1, r1, p1, z1⟩ := I.list hl
  obtain ⟨i2, r2, p2, z2⟩ := I.list hb
  obtain ⟨⟨lc, ld, lq, ls⟩, ho1, e1, n1, e2⟩ := p1.isList
  obtain ⟨⟨bc, bd, bq, bs⟩, ho2, e3, n2, e4⟩ := p2.isList
  simp only at e1 e2 e3 e4
  subst e1 e2 e3 e4
  have hsz : i1.toArray.size + i2.toArray.size ≤ sizeLine := by
    rw [List.size_toArray, List.size_toArray, ← r1.length, ← r2.length]
    exact hz
  refine concat_meets ⟨_, ho1, rfl⟩ ⟨_, ho2, rfl⟩ noFill_list_add seq_list_add F.slot_list_add F.entry_list_add (F.args_list_add_2 _ _) (list_addW l b i1.toArray i2.toArray n1 n2 ld bd ls bs hsz) ⟨ho1, ho2, ?_⟩
  rw [show i1.toArray ++ i2.toArray = (i1 ++ i2).toArray by simp]
  exact ⟨.ref _, _, I.lnew (t' := s.toks) (r1.append r2) (by rw [List.length_append]; exact hz), rfl, q _ I.fresh⟩
end Cu

namespace Cu
open PySem PySem.Spec PyProof.Rows L2
/-- a op1 b op2 c op3 d, as a test -/
def tChain3 (r1 r2 r3 : R2) (ta tb tc td : TE) : TE := fun σ H Q => ta σ H fun x H1 => tb σ H1 fun y H2 => r1 x y H2 fun z H3 => ∃ k, z = .bl k ∧
  (if k = true then tc σ H3 fun u H4 => r2 y u H4 fun z H5 => ∃ k, z = .bl k ∧ (if k = true then td σ H5 fun v H6 => r3 u v H6 Q else Q (.bl false) H5) else Q (.bl false) H3)
section
variable {X : Cx} {a b c d : Expr} {ta tb tc td : TE} {pos : Pos}
theorem pt_chain3 {p1 p2 p3 : CmpOp} {r1 r2 r3 : R2} (o1 : OpR X (compareOp p1) r1) (o2 : OpR X (compareOp p2) r2) (o3 : OpR X (compareOp p3) r3) (ha : PE X a ta) (hb : PE X b tb) (hc : PE X c tc) (hd : PE X d td)
    (hm : lastMarks [p1, p2, p3] [b, c, d] = false := by with_unfolding_all rfl) : PT X (.Compare a [p1, p2, p3] [b, c, d] pos) (tTest (tChain3 r1 r2 r3 ta tb tc td)) := ⟨fun pins s σ H Q I h => by
  refine isTrue_chain (thn (ha.run pins s σ H _ I h) fun v1 s1 ⟨x1, H1, I1, q1, w1⟩ => test_link (thn (hb.run pins s1 σ H1 _ I1 w1) fun v2 s2 ⟨x2, H2, I2, q2, w2⟩ => thn (o1 pins s2 σ H2 x1 x2 v1 v2 _ I2 q1 q2 w2) fun v3 s3 ⟨x3, H3, I3, q3, k, ek, w3⟩ => ?_)) hm
  subst ek
  cases q3
  refine wpAny_truthy_bool ?_
  cases k with
  | false =>
    obtain ⟨_, e, w⟩ := w3
    cases e
    exact ite_ff ⟨H3, I3, w⟩
  | true =>
    refine ite_tt (test_link (thn (hc.run pins s3 σ H3 _ I3 w3) fun v4 s4 ⟨x4, H4, I4, q4, w4⟩ => thn (o2 pins s4 σ H4 x2 x4 v2 v4 _ I4 q2 q4 w4) fun v5 s5 ⟨x5, H5, I5, q5, k5, e5, w5⟩ => ?_))
    subst e5
    cases q5
    refine wpAny_truthy_bool ?_
    cases k5 with
    | false =>
      obtain ⟨_, e, w⟩ := w5
      cases e
      exact ite_ff ⟨H5, I5, w⟩
    | true =>
      refine ite_tt (test_last (thn (hd.run pins s5 σ H5 _ I5 w5) fun v6 s6 ⟨x6, H6, I6, q6, w6⟩ => thn (o3 pins s6 σ H6 x4 x6 v4 v6 _ I6 q4 q6 w6) fun v7 s7 ⟨x7, H7, I7, q7, k7, e7, w7⟩ => ?_))
      subst e7
      cases q7
      exact wpAny_truthy_bool ⟨H7, I7, w7⟩⟩
end
end Cu

namespace Cu
open PySem PySem.Spec PyProof.Rows L2
/-! a hearer, key by key -/
/-- a change put aside -/
structure As where
  n : Nat
  worth : Int
  ahead : Nat
structure HK where
  worth : Int
  since : Nat
  upto : Int
  aside : List As
def HK.ini : HK := ⟨0, 0, -1, []⟩
def HK.done (h : HK) (n : Nat) (set : Bool) (w : Int) : HK := { h with worth := if set then w else h.worth + w, since := n, upto := n }
def asN (as : List As) : List Int := as.map fun a => (a.n : Int)
def srt (ns : List Int) : List Int := ns.mergeSort fun a b => decide (a ≤ b)
def findA (as : List As) (n : Int) : Option As := as.find? fun a => decide ((a.n : Int) = n)
def dropA (as : List As) (n : Int) : List As := as.filter fun a => decide ((a.n : Int) ≠ n)
def putA (as : List As) (a : As) : List As := if (as.any fun x => decide (x.n = a.n)) = true then as.map fun x => if x.n = a.n then a else x else as ++ [a]
def HK.fstep (st : HK × List Int) (n : Int) : HK × List Int :=
  match findA st.1.aside n with
  | none => st
  | some a => if n ≤ st.1.upto then ({ st.1 with aside := dropA st.1.aside n }, st.2)
    else if (a.ahead : Int) ≤ st.1.upto then (({ st.1 with aside := dropA st.1.aside n } : HK).done a.n false a.worth, st.2 ++ [n])
    else st
def HK.free (h : HK) : HK × List Int := (srt (asN h.aside)).foldl HK.fstep (h, [])
def HK.chg (h : HK) (n : Nat) (c : Ch) (ahead : Nat) : HK × List Int :=
  if (n : Int) ≤ h.upto then (h, []) else if c.set = false ∧ h.upto < (ahead : Int) then ({ h with aside := putA h.aside ⟨n, c.worth, ahead⟩ }, [])
  else (((h.done n c.set c.worth).free).1, (n : Int) :: ((h.done n c.set c.worth).free).2)
def HK.row (h : HK) (n : Nat) (w : Int) (last : Nat) : HK × List Int := if h.upto < (n : Int) then ({ h with worth := w, since := last, upto := n } : HK).free else (h, [])
def HK.beat (h : HK) (n last : Nat) : HK := if (last : Int) ≤ h.upto ∧ h.upto < (n : Int) then { h with upto := n } else h
def hearK (k : Nat) (h : HK) : Letter → HK × List Int
  | .change n c ahead => if c.key = k then h.chg n c ahead else (h, [])
  | .part n b rows => if b ≤ k then (match rows[k - b]? with | some r => h.row n r.1 r.2 | none => (h, [])) else (h, [])
  | .beat n lasts => match lasts[k]? with | some l => (h.beat n l, []) | none => (h, [])
def hear (hs : List HK) (l : Letter) : List HK := hs.mapIdx fun k h => (hearK k h l).1
def heard (hs : List HK) (l : Letter) : List Int := (hs.mapIdx fun k h => (hearK k h l).2).flatten
theorem srt_eq {ns ms : List Int} (hp : ms.Perm ns) (hs : ms.Pairwise (· ≤ ·)) : ms = srt ns := by
  refine PySem.W.ksm_same (hp.trans (List.mergeSort_perm ns _).symm) hs ?_
  have := List.pairwise_mergeSort (le := fun a b : Int => decide (a ≤ b)) (fun a b c h1 h2 => by simp at h1 h2 ⊢; omega) (fun a b => by simp; omega) ns
  exact this.imp fun h => by simpa using h
theorem hear_len (hs : List HK) (l : Letter) : (hear hs l).length = hs.length := by simp [hear]

/-! where a hearer lies -/
structure HA where
  p : Addr
  dx : Addr
  l1 : Addr
  l2 : Addr
  l3 : Addr
  l4 : Addr
  ds : List Addr
def hF (A : HA) : List (Str × V) := [("worth", .ref A.l1), ("since", .ref A.l2), ("upto", .ref A.l3), ("aside", .ref A.l4)]
def hObj (C : Addr) (A : HA) (hs : List HK) (kv : List (List (Key × V))) : Lg :=
  (A.p, .ins C A.dx (hF A)) :: (A.l1, .lst (hs.map fun h => .int h.worth)) :: (A.l2, .lst (hs.map fun h => .int h.since)) :: (A.l3, .lst (hs.map fun h => .int h.upto)) ::
    (A.l4, .lst (A.ds.map V.ref)) :: List.zipWith (fun d k => (d, HO.dK k)) A.ds kv
def asL (k : Nat) (a : As) : Letter := .change a.n ⟨k, false, a.worth⟩ a.ahead
def AsOk (K : PySem.W.Frag) (H : Hp) (k : Nat) : List As → List (Key × V) → Prop
  | [], kvs => kvs = []
  | a :: as, kvs => ∃ v r, kvs = (Sum.inl (a.n : Int), v) :: r ∧ Rp K H (asL k a).enc v ∧ AsOk K H k as r
section
variable {K : PySem.W.Frag} {H H' : Hp} {k : Nat}
theorem AsOk.mono (m : Mono H H') : ∀ {as : List As} {kvs : List (Key × V)}, AsOk K H k as kvs → AsOk K H' k as kvs
  | [], _, h => h
  | a :: as, _, ⟨v, r, e, h1, h2⟩ => ⟨v, r, e, h1.mono m, AsOk.mono m h2⟩
theorem AsOk.keys : ∀ {as : List As} {kvs : List (Key × V)}, AsOk K H k as kvs → kvs.map (·.1) = (asN as).map Sum.inl
  | [], _, h => by
    cases h
    rfl
  | a :: as, _, ⟨v, r, e, h1, h2⟩ => by
    subst e
    show Sum.inl (a.n : Int) :: r.map (·.1) = _
    rw [h2.keys]
    rfl
theorem AsOk.len {as : List As} {kvs : List (Key × V)} (h : AsOk K H k as kvs) : kvs.length = as.length := by
  have := congrArg List.length h.keys
  simpa [asN] using this
theorem AsOk.find : ∀ {as : List As} {kvs : List (Key × V)} {n : Int} {a : As}, AsOk K H k as kvs → findA as n = some a → ∃ v, valV kvs (Sum.inl n) = some v ∧ Rp K H (asL k a).enc v
  | [], _, _, _, _, e => by cases e
  | b :: as, _, n, a, ⟨v, r, e, h1, h2⟩, f => by
    subst e
    by_cases hb : (b.n : Int) = n
    · have : findA (b :: as) n = some b := by simp [findA, hb]
      rw [this] at f
      cases f
      exact ⟨v, valV_pos (by rw [hb]), h1⟩
    · have : findA (b :: as) n = findA as n := by simp [findA, hb]
      rw [this] at f
      obtain ⟨u, hu, ru⟩ := h2.find f
      exact ⟨u, by rw [valV_neg (fun q => hb (Sum.inl.inj q))]; exact hu, ru⟩
theorem AsOk.drop : ∀ {as : List As} {kvs : List (Key × V)} (n : Int), AsOk K H k as kvs → AsOk K H k (dropA as n) (dropK kvs (Sum.inl n))
  | [], _, _, h => by
    cases h
    rfl
  | b :: as, _, n, ⟨v, r, e, h1, h2⟩ => by
    subst e
    have ih := AsOk.drop n h2
    by_cases hb : (b.n : Int) = n
    · have : dropA (b :: as) n = dropA as n := by simp [dropA, hb]
      rw [this, dropK_pos (by rw [hb])]
      exact ih
    · have : dropA (b :: as) n = b :: dropA as n := by simp [dropA, hb]
      rw [this, dropK_neg (fun q => hb (Sum.inl.inj q))]
      exact ⟨v, _, rfl, h1, ih⟩
theorem AsOk.any : ∀ {as : List As} {kvs : List (Key × V)} (n : Nat), AsOk K H k as kvs → (kvs.any fun kv => decide (kv.1 = Sum.inl (n : Int))) = as.any fun x => decide (x.n = n)
  | [], _, _, h => by
    cases h
    rfl
  | b :: as, _, n, ⟨v, r, e, h1, h2⟩ => by
    subst e
    rw [List.any_cons, List.any_cons, h2.any]
    congr 1
    by_cases hb : b.n = n <;> simp [hb]
    intro q
    exact hb (by omega)
theorem AsOk.map : ∀ {as : List As} {kvs : List (Key × V)} (a : As) (v : V), AsOk K H k as kvs → Rp K H (asL k a).enc v →
    AsOk K H k (as.map fun x => if x.n = a.n then a else x) (kvs.map fun kv => if kv.1 = Sum.inl (a.n : Int) then (kv.1, v) else kv)
  | [], _, _, _, h, _ => by
    cases h
    rfl
  | b :: as, _, a, v, ⟨u, r, e, h1, h2⟩, hv => by
    subst e
    have ih := AsOk.map a v h2 hv
    by_cases hb : b.n = a.n
    · simp only [List.map_cons, hb, if_pos]
      exact ⟨v, _, rfl, hv, ih⟩
    · have hb' : ¬ ((Sum.inl (b.n : Int) : Key) = Sum.inl (a.n : Int)) := fun q => hb (by have := Sum.inl.inj q; omega)
      simp only [List.map_cons, hb, if_neg hb', if_false]
      exact ⟨u, _, rfl, h1, ih⟩
theorem AsOk.append : ∀ {as bs : List As} {kvs kws : List (Key × V)}, AsOk K H k as kvs → AsOk K H k bs kws → AsOk K H k (as ++ bs) (kvs ++ kws)
  | [], _, _, _, h, g => by
    cases h
    exact g
  | _ :: _, _, _, _, ⟨v, r, e, h1, h2⟩, g => by
    subst e
    exact ⟨v, _, rfl, h1, h2.append g⟩
theorem AsOk.put {as : List As} {kvs : List (Key × V)} {a : As} {v : V} (h : AsOk K H k as kvs) (hv : Rp K H (asL k a).enc v) : AsOk K H k (putA as a) (putK kvs (Sum.inl (a.n : Int)) v) := by
  unfold putA putK
  rw [h.any]
  split
  · exact h.map a v hv
  · exact h.append ⟨v, [], rfl, hv, rfl⟩
end

/-- the objects at c are a hearer's that stands so -/
structure HR (K : PySem.W.Frag) (C : Addr) (A : HA) (hs : List HK) (H : Hp) (c : Lg) : Prop where
  ex : ∃ kv, c = hObj C A hs kv ∧ A.ds.length = hs.length ∧ kv.length = hs.length ∧ ∀ (k : Nat) (h : HK) (kvs : List (Key × V)), hs[k]? = some h → kv[k]? = some kvs → AsOk K H k h.aside kvs
theorem Tr.mid {H : Hp} {pre post : Lg} {a : Addr} {o o' : HO} (h : Has H (pre ++ (a, o) :: post)) (n : ¬ Imm o') : Tr H (pre ++ (a, o) :: post) (upd H a o') (pre ++ (a, o') :: post) := by
  refine ⟨Mono.put (h.mem (by simp)) (h.at_ (a, o) (by simp)).2, fun R hR => ?_⟩
  rw [List.append_assoc, List.cons_append] at hR ⊢
  exact ((hR.perm List.perm_middle).put n).perm List.perm_middle.symm
section
variable {K : PySem.W.Frag} {C : Addr} {A : HA} {hs : List HK} {H H' : Hp} {c : Lg} {k : Nat} {h : HK}
theorem HR.mono (r : HR K C A hs H c) (m : Mono H H') : HR K C A hs H' c := by
  obtain ⟨kv, e, l1, l2, q⟩ := r.ex
  exact ⟨kv, e, l1, l2, fun k h kvs e1 e2 => (q k h kvs e1 e2).mono m⟩
theorem HR.at_p (r : HR K C A hs H c) (h : Has H c) : H A.p = some (.ins C A.dx (hF A)) := by
  obtain ⟨kv, rfl, _⟩ := r.ex
  exact h.mem (by simp [hObj])
theorem HR.at1 (r : HR K C A hs H c) (h : Has H c) : H A.l1 = some (.lst (hs.map fun h => .int h.worth)) := by
  obtain ⟨kv, rfl, _⟩ := r.ex
  exact h.mem (by simp [hObj])
theorem HR.at2 (r : HR K C A hs H c) (h : Has H c) : H A.l2 = some (.lst (hs.map fun h => .int h.since)) := by
  obtain ⟨kv, rfl, _⟩ := r.ex
  exact h.mem (by simp [hObj])
theorem HR.at3 (r : HR K C A hs H c) (h : Has H c) : H A.l3 = some (.lst (hs.map fun h => .int h.upto)) := by
  obtain ⟨kv, rfl, _⟩ := r.ex
  exact h.mem (by simp [hObj])
theorem HR.at4 (r : HR K C A hs H c) (h : Has H c) : H A.l4 = some (.lst (A.ds.map V.ref)) := by
  obtain ⟨kv, rfl, _⟩ := r.ex
  exact h.mem (by simp [hObj])
theorem HR.dict (r : HR K C A hs H c) (hh : Has H c) (e : hs[k]? = some h) : ∃ d kvs, A.ds[k]? = some d ∧ H d = some (.dK kvs) ∧ AsOk K H k h.aside kvs := by
  obtain ⟨kv, rfl, l1, l2, q⟩ := r.ex
  have hk := (List.getElem?_eq_some_iff.mp e).1
  obtain ⟨d, hd⟩ : ∃ d, A.ds[k]? = some d := ⟨A.ds[k], List.getElem?_eq_getElem (by omega)⟩
  obtain ⟨kvs, hkv⟩ : ∃ kvs, kv[k]? = some kvs := ⟨kv[k], List.getElem?_eq_getElem (by omega)⟩
  refine ⟨d, kvs, hd, hh.mem ?_, q k h kvs e hkv⟩
  have : (List.zipWith (fun d k => (d, HO.dK k)) A.ds kv)[k]? = some (d, HO.dK kvs) := by rw [List.getElem?_zipWith, hd, hkv]
  have := List.mem_of_getElem? this
  simp [hObj, this]
theorem map_set_same {α β : Type} {f : α → β} {xs : List α} {k : Nat} {x y : α} (e : xs[k]? = some x) (h : f y = f x) : (xs.set k y).map f = xs.map f := by
  rw [List.map_set, h]
  apply List.ext_getElem?
  intro i
  by_cases hi : k = i
  · subst hi
    rw [List.getElem?_set_self (by rw [List.length_map]; exact (List.getElem?_eq_some_iff.mp e).1), List.getElem?_map, e]
    rfl
  · rw [List.getElem?_set_ne hi]
theorem hs_set {hs : List HK} {k : Nat} {h g : HK} (e : hs[k]? = some h) (ea : g.aside = h.aside) {kv : List (List (Key × V))} (q : ∀ (k : Nat) (h : HK) (kvs : List (Key × V)), hs[k]? = some h → kv[k]? = some kvs → AsOk K H k h.aside kvs) :
    ∀ (j : Nat) (h : HK) (kvs : List (Key × V)), (hs.set k g)[j]? = some h → kv[j]? = some kvs → AsOk K H j h.aside kvs := fun j h' kvs e1 e2 => by
  by_cases hj : k = j
  · subst hj
    rw [List.getElem?_set_self (List.getElem?_eq_some_iff.mp e).1] at e1
    cases e1
    rw [ea]
    exact q k h kvs e e2
  · rw [List.getElem?_set_ne hj] at e1
    exact q j h' kvs e1 e2
/-- the three lists, written at a key -/
theorem HR.set1 (r : HR K C A hs H c) (hh : Has H c) (e : hs[k]? = some h) (z : Int) :
    ∃ c', HR K C A (hs.set k { h with worth := z }) (upd H A.l1 (.lst ((hs.map fun h => V.int h.worth).set k (.int z)))) c' ∧ Tr H c (upd H A.l1 (.lst ((hs.map fun h => V.int h.worth).set k (.int z)))) c' := by
  obtain ⟨kv, rfl, l1, l2, q⟩ := r.ex
  have t := Tr.mid (pre := [(A.p, .ins C A.dx (hF A))]) (o' := .lst ((hs.map fun h => V.int h.worth).set k (.int z))) hh nl
  refine ⟨hObj C A (hs.set k { h with worth := z }) kv, ⟨kv, rfl, by rw [List.length_set]; exact l1, by rw [List.length_set]; exact l2, hs_set (g := { h with worth := z }) e rfl fun k h kvs e1 e2 => (q k h kvs e1 e2).mono t.mono⟩, ?_⟩
  unfold hObj
  rw [List.map_set, map_set_same (f := fun h : HK => V.int h.since) (y := { h with worth := z }) e rfl, map_set_same (f := fun h : HK => V.int h.upto) (y := { h with worth := z }) e rfl]
  exact t
theorem HR.set2 (r : HR K C A hs H c) (hh : Has H c) (e : hs[k]? = some h) (z : Nat) :
    ∃ c', HR K C A (hs.set k { h with since := z }) (upd H A.l2 (.lst ((hs.map fun h => V.int h.since).set k (.int z)))) c' ∧ Tr H c (upd H A.l2 (.lst ((hs.map fun h => V.int h.since).set k (.int z)))) c' := by
  obtain ⟨kv, rfl, l1, l2, q⟩ := r.ex
  have t := Tr.mid (pre := [(A.p, .ins C A.dx (hF A)), (A.l1, .lst (hs.map fun h => .int h.worth))]) (o' := .lst ((hs.map fun h => V.int h.since).set k (.int z))) hh nl
  refine ⟨hObj C A (hs.set k { h with since := z }) kv, ⟨kv, rfl, by rw [List.length_set]; exact l1, by rw [List.length_set]; exact l2, hs_set (g := { h with since := z }) e rfl fun k h kvs e1 e2 => (q k h kvs e1 e2).mono t.mono⟩, ?_⟩
  unfold hObj
  rw [List.map_set (f := fun h : HK => V.int h.since), map_set_same (f := fun h : HK => V.int h.worth) (y := { h with since := z }) e rfl, map_set_same (f := fun h : HK => V.int h.upto) (y := { h with since := z }) e rfl]
  exact t
theorem HR.set3 (r : HR K C A hs H c) (hh : Has H c) (e : hs[k]? = some h) (z : Int) :
    ∃ c', HR K C A (hs.set k { h with upto := z }) (upd H A.l3 (.lst ((hs.map fun h => V.int h.upto).set k (.int z)))) c' ∧ Tr H c (upd H A.l3 (.lst ((hs.map fun h => V.int h.upto).set k (.int z)))) c' := by
  obtain ⟨kv, rfl, l1, l2, q⟩ := r.ex
  have t := Tr.mid (pre := [(A.p, .ins C A.dx (hF A)), (A.l1, .lst (hs.map fun h => .int h.worth)), (A.l2, .lst (hs.map fun h => .int h.since))]) (o' := .lst ((hs.map fun h => V.int h.upto).set k (.int z))) hh nl
  refine ⟨hObj C A (hs.set k { h with upto := z }) kv, ⟨kv, rfl, by rw [List.length_set]; exact l1, by rw [List.length_set]; exact l2, hs_set (g := { h with upto := z }) e rfl fun k h kvs e1 e2 => (q k h kvs e1 e2).mono t.mono⟩, ?_⟩
  unfold hObj
  rw [List.map_set (f := fun h : HK => V.int h.upto), map_set_same (f := fun h : HK => V.int h.worth) (y := { h with upto := z }) e rfl, map_set_same (f := fun h : HK => V.int h.since) (y := { h with upto := z }) e rfl]
  exact t
theorem zip_split {ds : List Addr} {kv : List (List (Key × V))} {k : Nat} {d : Addr} {x : List (Key × V)} (h1 : ds[k]? = some d) (h2 : kv[k]? = some x) :
    ∃ pre post, List.zipWith (fun d k => (d, HO.dK k)) ds kv = pre ++ (d, HO.dK x) :: post ∧ ∀ y, List.zipWith (fun d k => (d, HO.dK k)) ds (kv.set k y) = pre ++ (d, HO.dK y) :: post := by
  induction k generalizing ds kv with
  | zero =>
    cases ds with
    | nil => simp at h1
    | cons d' ds =>
      cases kv with
      | nil => simp at h2
      | cons x' kv =>
        simp at h1 h2
        subst h1 h2
        exact ⟨[], _, rfl, fun y => rfl⟩
  | succ k ih =>
    cases ds with
    | nil => simp at h1
    | cons d' ds =>
      cases kv with
      | nil => simp at h2
      | cons x' kv =>
        obtain ⟨pre, post, e1, e2⟩ := ih (ds := ds) (kv := kv) (by simpa using h1) (by simpa using h2)
        refine ⟨(d', HO.dK x') :: pre, post, ?_, fun y => ?_⟩
        · rw [List.zipWith_cons_cons, e1]
          rfl
        · rw [List.set_cons_succ, List.zipWith_cons_cons, e2]
          rfl
/-- a key's dict, written -/
theorem HR.set4 (r : HR K C A hs H c) (hh : Has H c) (e : hs[k]? = some h) {d : Addr} (ed : A.ds[k]? = some d) {as : List As} {kvs : List (Key × V)} (ok : AsOk K H k as kvs) :
    ∃ c', HR K C A (hs.set k { h with aside := as }) (upd H d (.dK kvs)) c' ∧ Tr H c (upd H d (.dK kvs)) c' := by
  obtain ⟨kv, rfl, l1, l2, q⟩ := r.ex
  have hk := (List.getElem?_eq_some_iff.mp e).1
  obtain ⟨x, hx⟩ : ∃ x, kv[k]? = some x := ⟨kv[k], List.getElem?_eq_getElem (by omega)⟩
  obtain ⟨pre, post, e1, e2⟩ := zip_split ed hx
  have t : Tr H (hObj C A hs kv) (upd H d (.dK kvs)) (hObj C A (hs.set k { h with aside := as }) (kv.set k kvs)) := by
    unfold hObj at hh ⊢
    rw [map_set_same (f := fun h : HK => V.int h.worth) (y := { h with aside := as }) e rfl, map_set_same (f := fun h : HK => V.int h.since) (y := { h with aside := as }) e rfl, map_set_same (f := fun h : HK => V.int h.upto) (y := { h with aside := as }) e rfl, e1, e2]
    rw [e1] at hh
    have := Tr.mid (pre := (A.p, .ins C A.dx (hF A)) :: (A.l1, .lst (hs.map fun h => .int h.worth)) :: (A.l2, .lst (hs.map fun h => .int h.since)) :: (A.l3, .lst (hs.map fun h => .int h.upto)) :: (A.l4, .lst (A.ds.map V.ref)) :: pre) (o' := .dK kvs) hh ndk
    exact this
  refine ⟨_, ⟨kv.set k kvs, rfl, by rw [List.length_set]; exact l1, by rw [List.length_set, List.length_set]; exact l2, fun j h' kw e3 e4 => ?_⟩, t⟩
  by_cases hj : k = j
  · subst hj
    rw [List.getElem?_set_self hk] at e3
    rw [List.getElem?_set_self (by omega)] at e4
    cases e3
    cases e4
    exact ok.mono t.mono
  · rw [List.getElem?_set_ne hj] at e3 e4
    exact (q j h' kw e3 e4).mono t.mono
end
/-- what the walk asks of the class -/
structure CHr (K : PySem.W.Frag) (C : Addr) : Prop where
  cl : Cls K C
  n1 : NoAttr K C "worth"
  n2 : NoAttr K C "since"
  n3 : NoAttr K C "upto"
  n4 : NoAttr K C "aside"
theorem hF1 (A : HA) : (hF A).lookup ("worth" : Str) = some (.ref A.l1) := by rfl
theorem hF2 (A : HA) : (hF A).lookup ("since" : Str) = some (.ref A.l2) := by rfl
theorem hF3 (A : HA) : (hF A).lookup ("upto" : Str) = some (.ref A.l3) := by rfl
theorem hF4 (A : HA) : (hF A).lookup ("aside" : Str) = some (.ref A.l4) := by rfl
theorem ixN_nat {n k : Nat} (h : k < n) : ixN n (k : Int) = some k := by
  unfold ixN
  rw [if_pos (by omega), if_pos (by omega), Int.toNat_natCast]
end Cu

namespace Cu
open PySem PySem.Spec PyProof.Rows L2
abbrev s_Hearer_init : Stmt := (inClass (top 14) 0)
theorem sc_Hearer_init : FnScope ["self", "keys", "key"] ["self", "keys"] (defScope s_Hearer_init) := ⟨rfl, rfl, rfl, by decide +kernel, rfl, by decide +kernel, by decide +kernel⟩

abbrev s_Hearer_known : Stmt := (inClass (top 14) 1)
theorem sc_Hearer_known : FnScope ["self"] ["self"] (defScope s_Hearer_known) := ⟨rfl, rfl, rfl, by decide +kernel, rfl, by decide +kernel, by decide +kernel⟩

abbrev s_Hearer_held : Stmt := (inClass (top 14) 2)
theorem sc_Hearer_held : FnScope ["self", "found", "some"] ["self"] (defScope s_Hearer_held) := ⟨rfl, rfl, rfl, by decide +kernel, rfl, by decide +kernel, by decide +kernel⟩

abbrev s_Hearer_look : Stmt := (inClass (top 14) 3)
theorem sc_Hearer_look : FnScope ["self", "key"] ["self", "key"] (defScope s_Hearer_look) := ⟨rfl, rfl, rfl, by decide +kernel, rfl, by decide +kernel, by decide +kernel⟩

abbrev s_Hearer_whole : Stmt := (inClass (top 14) 4)
theorem sc_Hearer_whole : FnScope ["self"] ["self"] (defScope s_Hearer_whole) := ⟨rfl, rfl, rfl, by decide +kernel, rfl, by decide +kernel, by decide +kernel⟩

theorem iteP {c A B : Prop} [Decidable c] (hc : c) (h : A) : if c then A else B := by
  rw [if_pos hc]
  exact h
theorem iteM {c A B : Prop} [Decidable c] (hc : ¬ c) (h : B) : if c then A else B := by
  rw [if_neg hc]
  exact h
theorem Has.one {H : Hp} {a : Addr} {o : HO} (h : H a = some o) (n : ¬ Imm o) : Has H [(a, o)] := ⟨by simp, fun p hp => by
  rw [List.mem_singleton] at hp
  subst hp
  exact ⟨h, n⟩⟩
theorem nins {C dx : Addr} {fs : List (Str × V)} : ¬ Imm (.ins C dx fs) := fun h => h
/-- a list of the same value, so many as a name says -/
theorem rd_const {σ : L2.St} {H : Hp} {Q : VK} {i j nk : Nat} {te : TE} {v : V} {vs : List Nat} (h1 : σ[i]? = some (some (.int nk))) (hk : nk ≤ 8) (hw : ∀ x, wipe ((wipe σ vs).set j (some x)) vs = wipe σ vs)
    (he : ∀ (σ1 : L2.St) (H1 : Hp) (Q1 : VK), Q1 v H1 → te σ1 H1 Q1) (q : ∀ p H', Tr H [] H' [(p, .lst (List.replicate nk v))] → Q (.ref p) H') :
    tI (tLc (iRng1 (tCons (tVar i) tNil)) (gName j) tYes te vs) σ H Q := by
  refine rd_I ⟨_, h1, _, rfl, by omega, by omega, fun D hD => ?_⟩
  refine lc_range (lo := 0) (n := (nk : Int).toNat) (fun m H2 => Tr H [] H2 [(D, .lst (List.replicate m v))]) ((Tr.refl H []).new hD nl) (fun m H2 hm t => ⟨hw _, he _ _ _ ⟨_, t.own.head, ?_, ?_⟩⟩) fun H2 t => q D H2 (by rw [Int.toNat_natCast] at t; exact t)
  · rw [List.length_replicate]
    exact small1000 (by omega)
  · rw [← List.replicate_succ']
    exact t.put .nil nl
def spHinit (K : PySem.W.Frag) (C : Addr) : Sp := fun vs H Q _ => vs.length = 2 ∧ ∃ (p dx : Addr) (nk : Nat), vs = [.ref p, .int nk] ∧ 0 < nk ∧ nk ≤ 8 ∧ H p = some (.ins C dx []) ∧
  ∀ (A : HA) (c : Lg) (H' : Hp), A.p = p → HR K C A (List.replicate nk HK.ini) H' c → Tr H [(p, .ins C dx [])] H' c → Q .non H'
def spKnown (K : PySem.W.Frag) (C : Addr) : Sp := fun vs H Q _ => vs.length = 1 ∧ ∃ (A : HA) (hs : List HK) (c : Lg), vs = [.ref A.p] ∧ HR K C A hs H c ∧ Has H c ∧ ∀ (r : Addr) (H' : Hp), Tr H [] H' [(r, .lst ((hs.map fun h => h.upto).map V.int))] → Q (.ref r) H'
def heldM (hs : List HK) : List Int := srt ((hs.map fun h => asN h.aside).flatten)
def spHeld (K : PySem.W.Frag) (C : Addr) : Sp := fun vs H Q _ => vs.length = 1 ∧ ∃ (A : HA) (hs : List HK) (c : Lg), vs = [.ref A.p] ∧ HR K C A hs H c ∧ Has H c ∧ (hs.map fun h => asN h.aside).flatten.length ≤ 1000 ∧
  ∀ (r : Addr) (H' : Hp), Tr H [] H' [(r, .lst ((heldM hs).map V.int))] → Q (.ref r) H'
def lookM (h : HK) : PyData := if h.upto < 0 then .none else .tuple [.int h.worth, .int h.since, .int h.upto]
def spLook (K : PySem.W.Frag) (C : Addr) : Sp := fun vs H Q _ => vs.length = 2 ∧ ∃ (A : HA) (hs : List HK) (c : Lg) (k : Nat) (h : HK), vs = [.ref A.p, .int k] ∧ HR K C A hs H c ∧ Has H c ∧ hs[k]? = some h ∧
  ∀ (v : V) (H' : Hp), Grow H H' → Rp K H' (lookM h) v → Q v H'
def minU (hs : List HK) : Int := ((hs.map fun h => h.upto).min?).getD 0
def maxS (hs : List HK) : Int := ((hs.map fun h => (h.since : Int)).max?).getD 0
def wholeM (hs : List HK) : Option (Int × List Int) := if minU hs < maxS hs then none else if 0 ≤ minU hs then some (minU hs, hs.map fun h => h.worth) else none
def spWhole (K : PySem.W.Frag) (C : Addr) : Sp := fun vs H Q _ => vs.length = 1 ∧ ∃ (A : HA) (hs : List HK) (c : Lg), vs = [.ref A.p] ∧ HR K C A hs H c ∧ Has H c ∧ 0 < hs.length ∧
  (wholeM hs = none → Q .non H) ∧
  (∀ n ws, wholeM hs = some (n, ws) → ∀ (r t : Addr) (H' : Hp), Tr H [] H' [(r, .lst (ws.map V.int))] → H' t = some (.tup [.int n, .ref r]) → Q (.ref t) H')
end Cu

namespace Cu
open PySem PySem.Spec PyProof.Rows L2
section
variable {P : Program} {w : World} {K : PySem.W.Frag} {mg : Str → Option Value} {base : Heap} {C : Addr}
theorem ok_Hinit {tk : Tok} (F : Kd K mg "Hearer" C "Hearer.__init__" s_Hearer_init) (Bm : Blt mg) (CHearer : CHr K C) (km_MOST_KEYS : mg "MOST_KEYS" = some (.int 8 tk)) : Kf P w K mg base 1 "Hearer" C ["self", "keys"] (spHinit K C) := by
  refine F.ok sc_Hearer_init (fun _ _ _ _ _ _ us hl => match us, hl with | [_, _], _ => rfl) len_of fun qual f cdv A0 outer s H vs Q E hr h => ?_
  obtain ⟨_, p, dx, nk, rfl, hk, hk8, hp, k⟩ := h
  refine ⟨_, (pss_cons (ps_if (pt_not (pt_chain op_le op_le pe_int (pv 1) (pe_glob (v := .int 8) rfl km_MOST_KEYS ⟨_, rfl⟩)))
        (pss_one ps_never)
        pss_nil)
      (pss_cons (ps_fld (pv 0) (pe_I (pe_lc (own := [("key", 2)]) (g := (gName 2)) (tt := tYes) rfl sc_Hearer_init.nd (pi_range1 rfl Bm.range (pa_cons (pv 1) pa_nil)) (blkOk_by (N := ["self", "keys", "key"]) (sc := defScope s_Hearer_init) (by decide +kernel)) (fun _ _ _ _ _ => (pg_name (i := 2) sc_Hearer_init.nd rfl (Or.inl rfl))) (fun _ _ _ _ _ => pts_nil) (fun _ _ _ _ _ => pe_int))) rfl)
      (pss_cons (ps_fld (pv 0) (pe_I (pe_lc (own := [("key", 2)]) (g := (gName 2)) (tt := tYes) rfl sc_Hearer_init.nd (pi_range1 rfl Bm.range (pa_cons (pv 1) pa_nil)) (blkOk_by (N := ["self", "keys", "key"]) (sc := defScope s_Hearer_init) (by decide +kernel)) (fun _ _ _ _ _ => (pg_name (i := 2) sc_Hearer_init.nd rfl (Or.inl rfl))) (fun _ _ _ _ _ => pts_nil) (fun _ _ _ _ _ => pe_int))) rfl)
      (pss_cons (ps_fld (pv 0) (pe_I (pe_lc (own := [("key", 2)]) (g := (gName 2)) (tt := tYes) rfl sc_Hearer_init.nd (pi_range1 rfl Bm.range (pa_cons (pv 1) pa_nil)) (blkOk_by (N := ["self", "keys", "key"]) (sc := defScope s_Hearer_init) (by decide +kernel)) (fun _ _ _ _ _ => (pg_name (i := 2) sc_Hearer_init.nd rfl (Or.inl rfl))) (fun _ _ _ _ _ => pts_nil) (fun _ _ _ _ _ => (pe_un un_neg pe_int)))) rfl)
      (pss_one (ps_fld (pv 0) (pe_lc (own := [("key", 2)]) (g := (gName 2)) (tt := tYes) rfl sc_Hearer_init.nd (pi_range1 rfl Bm.range (pa_cons (pv 1) pa_nil)) (blkOk_by (N := ["self", "keys", "key"]) (sc := defScope s_Hearer_init) (by decide +kernel)) (fun _ _ _ _ _ => (pg_name (i := 2) sc_Hearer_init.nd rfl (Or.inl rfl))) (fun _ _ _ _ _ => pts_nil) (fun _ _ _ _ _ => pe_dnewK)) rfl)))))), ?_⟩
  have h0 := Has.one hp nins
  refine ⟨_, rfl, _, _, rfl, rfl, _, rfl, iteP (decide_eq_true (by omega)) ⟨_, _, rfl, rfl, _, rfl, iteM (by simp; omega) ?_⟩⟩
  refine rd_const (v := .int 0) (by rfl) hk8 (fun _ => rfl) (fun _ _ _ q => q) fun p1 H1 t1 => ?_
  have s1 := (show Tr H [(p, .ins C dx [])] H1 [(p1, .lst (List.replicate nk (.int 0))), (p, .ins C dx [])] from t1.right (D := [(p, .ins C dx [])])).swap2
  have e1 : ((0 : Nat) : Int) = 0 := rfl
  refine ⟨_, rfl, p, C, dx, [], rfl, (s1.now h0).head, CHearer.cl, CHearer.n1, (by show 0 < 1000; decide), ?_⟩
  have s2 := s1.put (o' := .ins C dx [("worth", .ref p1)]) h0 nins
  refine rd_const (v := .int 0) (by rfl) hk8 (fun _ => rfl) (fun _ _ _ q => q) fun p2 H2 t2 => ?_
  have s3 := (s2.trans (t2.right (D := [(p, .ins C dx [("worth", .ref p1)]), (p1, .lst (List.replicate nk (.int 0)))]))).swap2
  refine ⟨_, rfl, p, C, dx, [("worth", .ref p1)], rfl, (s3.now h0).head, CHearer.cl, CHearer.n2, (by show 1 < 1000; decide), ?_⟩
  have s4 := s3.put (o' := .ins C dx [("worth", .ref p1), ("since", .ref p2)]) h0 nins
  refine rd_const (v := .int (-1)) (by rfl) hk8 (fun _ => rfl) (fun _ _ _ q => ⟨_, rfl, q⟩) fun p3 H3 t3 => ?_
  have s5 := (s4.trans (t3.right (D := [(p, .ins C dx [("worth", .ref p1), ("since", .ref p2)]), (p2, .lst (List.replicate nk (.int 0))), (p1, .lst (List.replicate nk (.int 0)))]))).swap2
  refine ⟨_, rfl, p, C, dx, [("worth", .ref p1), ("since", .ref p2)], rfl, (s5.now h0).head, CHearer.cl, CHearer.n3, (by show 2 < 1000; decide), ?_⟩
  have s6 := s5.put (o' := .ins C dx [("worth", .ref p1), ("since", .ref p2), ("upto", .ref p3)]) h0 nins
  refine ⟨_, rfl, _, rfl, by omega, by omega, fun D hD => ?_⟩
  refine lc_range (lo := 0) (n := (nk : Int).toNat) (fun m H4 => ∃ ds : List Addr, ds.length = m ∧ Tr H [(p, .ins C dx [])] H4 ((D, .lst (ds.map V.ref)) :: (p, HO.ins C dx [("worth", V.ref p1), ("since", V.ref p2), ("upto", V.ref p3)]) :: (ds.map (fun d => (d, HO.dK [])) ++ [(p3, HO.lst (List.replicate nk (V.int (-1)))), (p2, HO.lst (List.replicate nk (V.int 0))), (p1, HO.lst (List.replicate nk (V.int 0)))])))
    ⟨[], rfl, s6.new hD nl⟩ ?_ ?_
  · rintro m H4 hm ⟨ds, hl, t⟩
    refine ⟨rfl, fun d hd => ⟨_, by rw [upd_ne (ne_of_none (t.now h0).head hd)]; exact (t.now h0).head, by rw [List.length_map, hl]; exact small1000 (by omega), ds ++ [d], by rw [List.length_append, hl]; rfl, ?_⟩⟩
    have t2 := (t.new (o := .dK []) hd ndk).swap2.put (o' := .lst (ds.map V.ref ++ [.ref d])) h0 nl
    rw [List.map_append, List.map_append]
    refine t2.perm (List.Perm.cons _ ?_)
    have : ((d, HO.dK []) :: (p, HO.ins C dx [("worth", .ref p1), ("since", .ref p2), ("upto", .ref p3)]) :: (ds.map (fun d => (d, HO.dK [])) ++ [(p3, HO.lst (List.replicate nk (V.int (-1)))), (p2, HO.lst (List.replicate nk (V.int 0))), (p1, HO.lst (List.replicate nk (V.int 0)))])).Perm
        ((p, HO.ins C dx [("worth", .ref p1), ("since", .ref p2), ("upto", .ref p3)]) :: ((d, HO.dK []) :: (ds.map (fun d => (d, HO.dK [])) ++ [(p3, HO.lst (List.replicate nk (V.int (-1)))), (p2, HO.lst (List.replicate nk (V.int 0))), (p1, HO.lst (List.replicate nk (V.int 0)))]))) := List.Perm.swap _ _ _
    refine this.trans (List.Perm.cons _ ?_)
    rw [List.append_assoc]
    exact List.perm_middle.symm
  · rintro H4 ⟨ds, hl, t⟩
    rw [Int.toNat_natCast] at hl
    refine ⟨_, rfl, p, C, dx, [("worth", .ref p1), ("since", .ref p2), ("upto", .ref p3)], rfl, (t.now h0).tail.head, CHearer.cl, CHearer.n4, (by show 3 < 1000; decide), ?_⟩
    have t2 := t.swap2.put (o' := .ins C dx [("worth", .ref p1), ("since", .ref p2), ("upto", .ref p3), ("aside", .ref D)]) h0 nins
    refine k ⟨p, dx, p1, p2, p3, D, ds⟩ _ _ rfl ⟨List.replicate nk [], rfl, by rw [List.length_replicate]; exact hl, by rw [List.length_replicate, List.length_replicate], fun j h kvs e1 e2 => ?_⟩ (t2.perm (List.Perm.cons _ ?_))
    · rw [List.getElem?_replicate] at e1 e2
      by_cases hj : j < nk
      · rw [if_pos hj] at e1 e2
        cases e1
        cases e2
        rfl
      · rw [if_neg hj] at e1
        cases e1
    · have ez : List.zipWith (fun d k => (d, HO.dK k)) ds (List.replicate nk []) = ds.map fun d => (d, HO.dK []) := by
        apply List.ext_getElem?
        intro j
        rw [List.getElem?_zipWith, List.getElem?_map, List.getElem?_replicate]
        by_cases hj : j < nk
        · rw [if_pos hj]
          cases ds[j]? <;> rfl
        · rw [if_neg hj, List.getElem?_eq_none (by omega)]
          rfl
      simp only [List.map_replicate, HK.ini]
      rw [ez]
      show ((D, HO.lst (ds.map V.ref)) :: ds.map (fun d => (d, HO.dK [])) ++ [(p3, _), (p2, _), (p1, _)]).Perm ([(p1, _), (p2, _), (p3, _)] ++ ((D, HO.lst (ds.map V.ref)) :: ds.map (fun d => (d, HO.dK []))))
      refine List.perm_append_comm.trans (List.Perm.append_right _ ?_)
      exact (List.reverse_perm _).symm
end
end Cu

namespace Cu
open PySem PySem.Spec PyProof.Rows L2
section
variable {P : Program} {w : World} {K : PySem.W.Frag} {mg : Str → Option Value} {base : Heap} {C : Addr}
theorem ok_known (F : Md K C "known" "Hearer.known" s_Hearer_known) (Bm : Blt mg) (CHearer : CHr K C) : Mf P w K mg base 1 C "known" ["self"] (spKnown K C) := by
  refine F.ok sc_Hearer_known (fun _ _ _ _ _ _ us hl => match us, hl with | [_], _ => rfl) len_of fun qual f cdv A0 outer s H vs Q E hr h => ?_
  obtain ⟨_, A, hs, c, rfl, r, hc, k⟩ := h
  refine ⟨_, (pss_one (ps_ret (pe_callTy call_list_of rfl Bm.list (by decide +kernel) (pa_cons (pe_fld (pv 0) rfl) pa_nil)))), ?_⟩
  refine ⟨_, rfl, _, C, _, _, _, rfl, r.at_p hc, CHearer.cl, CHearer.n3, hF3 A, _, _, rfl, .inl (SqL.of (r.at3 hc)), fun l hl => k l _ ?_⟩
  rw [List.map_map]
  exact (Tr.refl H []).new hl nl
end
end Cu

namespace Cu
open PySem PySem.Spec PyProof.Rows L2
section
variable {P : Program} {w : World} {K : PySem.W.Frag} {mg : Str → Option Value} {base : Heap} {C : Addr}
theorem ok_held (F : Md K C "held" "Hearer.held" s_Hearer_held) (Bm : Blt mg) (CHearer : CHr K C) : Mf P w K mg base 1 C "held" ["self"] (spHeld K C) := by
  refine F.ok sc_Hearer_held (fun _ _ _ _ _ _ us hl => match us, hl with | [_], _ => rfl) len_of fun qual f cdv A0 outer s H vs Q E hr h => ?_
  obtain ⟨_, A, hs, c, rfl, r, hc, hsz, k⟩ := h
  refine ⟨_, (pss_cons (ps_set (i := 1) sc_Hearer_held.nd rfl (Or.inl rfl) (pe_lst pa_nil))
      (pss_cons (ps_for PassesOwn.never rfl (pi_list (pe_fld (pv 0) rfl)) (pg_name (i := 2) sc_Hearer_held.nd rfl (Or.inl rfl))
        (pss_one (ps_expr (pe_bm PySem.F.plainAttrs_list PySem.F.slot_list_extend PySem.F.type_list_extend mt_extend (pv 1) (pa_cons (pe_callTy (call_listD rfl) rfl Bm.list (by decide +kernel) (pa_cons (pv 2) pa_nil)) pa_nil)))))
      (pss_one (ps_ret (pe_callB cr_sortedI rfl Bm.sorted (by decide +kernel) (pa_cons (pv 1) pa_nil)))))), ?_⟩
  refine ⟨(by show 0 ≤ sizeLine; decide), fun p hp => ?_⟩
  have t1 := (Tr.refl H []).new (o := .lst []) hp nl
  have up : ∀ {H2 : Hp} {O : Lg}, Tr H [] H2 O → Has H2 c ∧ HR K C A hs H2 c := fun t => ⟨(t.has c hc).right, r.mono t.mono⟩
  have hds : A.ds.length = hs.length := by
    obtain ⟨_, _, l1, _⟩ := r.ex
    exact l1
  refine ⟨_, rfl, _, C, _, _, _, rfl, (up t1).2.at_p (up t1).1, CHearer.cl, CHearer.n4, hF4 A, _, rfl, ⟨_, SqL.of ((up t1).2.at4 (up t1).1)⟩, for_list (K := K) (a := A.l4) (xs := A.ds.map V.ref)
    (fun i σ H2 => ∃ v : Option V, σ = [some (.ref A.p), some (.ref p), v] ∧ Tr H [] H2 [(p, .lst ((((hs.take i).map fun h => asN h.aside).flatten).map V.int))]) ⟨none, rfl, t1⟩ (fun i σ H2 _ ⟨_, _, t⟩ => SqL.of ((up t).2.at4 (up t).1)) ?_ ?_⟩
  · rintro i x σ H2 hi ⟨v, rfl, t⟩
    have hi' : i < hs.length := by
      have := (List.getElem?_eq_some_iff.mp hi).1
      rw [List.length_map] at this
      omega
    obtain ⟨h, eh⟩ : ∃ h, hs[i]? = some h := ⟨hs[i], List.getElem?_eq_getElem hi'⟩
    obtain ⟨d, kvs, ed, hd, ok⟩ := (up t).2.dict (up t).1 eh
    rw [List.getElem?_map, ed] at hi
    cases hi
    refine ⟨_, rfl, .inl ⟨rfl, _, SqL.of t.own.head⟩, _, rfl, d, kvs, rfl, .inl hd, fun l hl => ?_⟩
    have ek : (kvs.map fun kv => kV kv.1) = (asN h.aside).map V.int := by
      have := congrArg (List.map kV) ok.keys
      rw [List.map_map, List.map_map] at this
      exact this
    have hle : (((hs.take i).map fun h => asN h.aside).flatten).length + (asN h.aside).length ≤ (hs.map fun h => asN h.aside).flatten.length := by
      have e1 : (hs.map fun h => asN h.aside) = ((hs.take (i + 1)).map fun h => asN h.aside) ++ ((hs.drop (i + 1)).map fun h => asN h.aside) := by
        rw [← List.map_append, List.take_append_drop]
      rw [e1, take_snoc eh, List.map_append, List.flatten_append, List.flatten_append, List.length_append, List.length_append]
      simp
    have np : p ≠ l := ne_of_none t.own.head hl
    refine ⟨_, _, _, _, rfl, rfl, by rw [upd_ne np]; exact t.own.head, upd_same, ?_, ?_⟩
    · rw [ek, List.length_map, List.length_map]
      exact Nat.le_trans (Nat.le_trans hle hsz) (by decide)
    · refine ⟨_, rfl, ?_⟩
      have e2 : (((hs.take (i + 1)).map fun h => asN h.aside).flatten).map V.int = (((hs.take i).map fun h => asN h.aside).flatten).map V.int ++ (kvs.map fun kv => kV kv.1) := by
        rw [ek, take_snoc eh, List.map_append, List.flatten_append, List.map_append]
        simp
      rw [e2]
      exact (t.old hl).put .nil nl
  · rintro σ H2 ⟨v, rfl, t⟩
    rw [List.take_of_length_le (by rw [List.length_map]; omega)] at t
    refine ⟨_, rfl, p, _, rfl, SqL.of t.own.head, fun ns q hperm hsort hq => ?_⟩
    have e := srt_eq hperm hsort
    subst e
    exact k q _ ((t.new hq nl).swap2.tail)
end
end Cu

namespace Cu
open PySem PySem.Spec PyProof.Rows L2
/-! the mirror's steps -/
theorem findA_drop {as : List As} {n m : Int} (h : n ≠ m) : findA (dropA as m) n = findA as n := by
  induction as with
  | nil => rfl
  | cons a as ih =>
    by_cases hm : (a.n : Int) = m
    · have e1 : dropA (a :: as) m = dropA as m := by simp [dropA, hm]
      have e2 : findA (a :: as) n = findA as n := by simp [findA, show ¬ (a.n : Int) = n by omega]
      rw [e1, e2, ih]
    · have e1 : dropA (a :: as) m = a :: dropA as m := by simp [dropA, hm]
      rw [e1]
      by_cases hn : (a.n : Int) = n
      · simp [findA, hn]
      · have e2 : ∀ bs, findA (a :: bs) n = findA bs n := fun bs => by simp [findA, hn]
        rw [e2, e2, ih]
theorem findA_some {as : List As} {n : Int} (h : n ∈ asN as) : ∃ a, findA as n = some a ∧ (a.n : Int) = n := by
  induction as with
  | nil => cases h
  | cons b as ih =>
    by_cases hb : (b.n : Int) = n
    · exact ⟨b, by simp [findA, hb], hb⟩
    · have h' : n ∈ asN as := by
        rcases List.mem_cons.mp (show n ∈ (b.n : Int) :: asN as from h) with e | e
        · exact absurd e.symm hb
        · exact e
      obtain ⟨a, ha, e⟩ := ih h'
      exact ⟨a, by simpa [findA, hb] using ha, e⟩
theorem findA_n {as : List As} {n : Int} {a : As} (h : findA as n = some a) : (a.n : Int) = n := by
  have := List.find?_some h
  simpa using this
theorem fstep_find {st : HK × List Int} {n m : Int} (h : n ≠ m) : findA (HK.fstep st m).1.aside n = findA st.1.aside n := by
  unfold HK.fstep
  cases hf : findA st.1.aside m with
  | none => rfl
  | some a =>
    dsimp only
    split
    · exact findA_drop h
    · split
      · exact findA_drop h
      · rfl
theorem fold_find {n : Int} : ∀ {l : List Int} {st : HK × List Int}, n ∉ l → findA (l.foldl HK.fstep st).1.aside n = findA st.1.aside n
  | [], _, _ => rfl
  | m :: l, st, h => by
    rw [List.foldl_cons, fold_find fun q => h (List.mem_cons_of_mem _ q), fstep_find fun q => h (by rw [q]; exact List.mem_cons_self)]
theorem fold_len {l : List Int} {st : HK × List Int} : (l.foldl HK.fstep st).2.length ≤ st.2.length + l.length := by
  induction l generalizing st with
  | nil => exact Nat.le_refl _
  | cons n l ih =>
    rw [List.foldl_cons]
    refine Nat.le_trans ih ?_
    have : (HK.fstep st n).2.length ≤ st.2.length + 1 := by
      unfold HK.fstep
      cases findA st.1.aside n with
      | none => exact Nat.le_succ _
      | some a =>
        dsimp only
        split
        · exact Nat.le_succ _
        · split
          · simp
          · exact Nat.le_succ _
    rw [List.length_cons]
    omega
theorem srt_perm (ns : List Int) : (srt ns).Perm ns := List.mergeSort_perm ns _
theorem wd_set (b : Bool) : decide (V.str (wd b) = V.str "set") = b := by cases b <;> decide +kernel
theorem wd_add (b : Bool) : decide (V.str (wd b) = V.str "add") = !b := by cases b <;> decide +kernel
/-- what a key's changes put aside must be, to be sorted -/
structure Wf (h : HK) : Prop where
  nd : (asN h.aside).Nodup
  few : h.aside.length < 122
def prt (hs : List HK) (l : Letter) (m : Nat) : List HK := hs.mapIdx fun k h => if k < m then (hearK k h l).1 else h
def fnd (hs : List HK) (l : Letter) (m : Nat) : List Int := ((hs.mapIdx fun k h => (hearK k h l).2).take m).flatten
theorem prt_get {hs : List HK} {l : Letter} {m k : Nat} {h : HK} (e : hs[k]? = some h) : (prt hs l m)[k]? = some (if k < m then (hearK k h l).1 else h) := by
  rw [prt, List.getElem?_mapIdx, e]
  rfl
theorem prt_len (hs : List HK) (l : Letter) (m : Nat) : (prt hs l m).length = hs.length := by simp [prt]
theorem prt_succ {hs : List HK} {l : Letter} {m : Nat} {h : HK} (e : hs[m]? = some h) : prt hs l (m + 1) = (prt hs l m).set m (hearK m h l).1 := by
  apply List.ext_getElem?
  intro k
  cases ek : hs[k]? with
  | none =>
    have hk := List.getElem?_eq_none_iff.mp ek
    rw [List.getElem?_eq_none (by rw [prt_len]; exact hk), List.getElem?_eq_none (by rw [List.length_set, prt_len]; exact hk)]
  | some g =>
    rw [prt_get ek]
    by_cases hk : m = k
    · subst hk
      rw [e] at ek
      cases ek
      rw [List.getElem?_set_self (by rw [prt_len]; exact (List.getElem?_eq_some_iff.mp e).1), if_pos (Nat.lt_succ_self _)]
    · rw [List.getElem?_set_ne hk, prt_get ek]
      congr 1
      by_cases h1 : k < m
      · rw [if_pos h1, if_pos (by omega)]
      · rw [if_neg h1, if_neg (by omega)]
theorem fnd_succ {hs : List HK} {l : Letter} {m : Nat} {h : HK} (e : hs[m]? = some h) : fnd hs l (m + 1) = fnd hs l m ++ (hearK m h l).2 := by
  unfold fnd
  rw [take_snoc (x := (hearK m h l).2) (by rw [List.getElem?_mapIdx, e]; rfl), List.flatten_append]
  simp
theorem prt_all {hs : List HK} {l : Letter} {m : Nat} (h : hs.length ≤ m) : prt hs l m = hear hs l := by
  apply List.ext_getElem?
  intro k
  cases ek : hs[k]? with
  | none =>
    have hk := List.getElem?_eq_none_iff.mp ek
    rw [List.getElem?_eq_none (by rw [prt_len]; exact hk), List.getElem?_eq_none (by rw [hear_len]; exact hk)]
  | some g =>
    have hk := (List.getElem?_eq_some_iff.mp ek).1
    rw [prt_get ek, if_pos (by omega), hear, List.getElem?_mapIdx, ek]
    rfl
theorem fnd_all {hs : List HK} {l : Letter} {m : Nat} (h : hs.length ≤ m) : fnd hs l m = heard hs l := by
  unfold fnd heard
  rw [List.take_of_length_le (by simpa using h)]
theorem flat_nil {xs : List (List Int)} (h : ∀ x ∈ xs, x = []) : xs.flatten = [] := by
  induction xs with
  | nil => rfl
  | cons x xs ih =>
    rw [List.flatten_cons, h x List.mem_cons_self, ih fun y hy => h y (List.mem_cons_of_mem _ hy)]
    rfl
/-- a letter that does nothing with the keys ahead of b, nothing with those from e on -/
theorem prt_low {hs : List HK} {l : Letter} {b : Nat} (h : ∀ k g, k < b → hearK k g l = (g, [])) : prt hs l b = hs ∧ fnd hs l b = [] := by
  constructor
  · apply List.ext_getElem?
    intro k
    cases ek : hs[k]? with
    | none => rw [List.getElem?_eq_none (by rw [prt_len]; exact List.getElem?_eq_none_iff.mp ek)]
    | some g =>
      rw [prt_get ek]
      split
      · rename_i hk
        rw [h k g hk]
      · rfl
  · unfold fnd
    have : ∀ x ∈ (hs.mapIdx fun k h => (hearK k h l).2).take b, x = [] := fun x hx => by
      obtain ⟨k, hk⟩ := List.getElem?_of_mem hx
      have hkb : k < b := by
        have := (List.getElem?_eq_some_iff.mp hk).1
        rw [List.length_take] at this
        omega
      rw [List.getElem?_take_of_lt hkb, List.getElem?_mapIdx] at hk
      cases ek : hs[k]? with
      | none =>
        rw [ek] at hk
        cases hk
      | some g =>
        rw [ek] at hk
        have e1 : (hearK k g l).2 = x := Option.some.inj hk
        rw [← e1, h k g hkb]
    exact flat_nil this
theorem prt_high {hs : List HK} {l : Letter} {e : Nat} (h : ∀ k g, e ≤ k → hearK k g l = (g, [])) : prt hs l e = hear hs l ∧ fnd hs l e = heard hs l := by
  constructor
  · apply List.ext_getElem?
    intro k
    cases ek : hs[k]? with
    | none => rw [List.getElem?_eq_none (by rw [prt_len]; exact List.getElem?_eq_none_iff.mp ek), List.getElem?_eq_none (by rw [hear_len]; exact List.getElem?_eq_none_iff.mp ek)]
    | some g =>
      rw [prt_get ek, hear, List.getElem?_mapIdx, ek]
      split
      · rfl
      · rename_i hk
        show some g = some (hearK k g l).1
        rw [h k g (by omega)]
  · unfold heard fnd
    have : ∀ x ∈ (hs.mapIdx fun k h => (hearK k h l).2).drop e, x = [] := fun x hx => by
      obtain ⟨k, hk⟩ := List.getElem?_of_mem hx
      rw [List.getElem?_drop, List.getElem?_mapIdx] at hk
      cases ek : hs[e + k]? with
      | none =>
        rw [ek] at hk
        cases hk
      | some g =>
        rw [ek] at hk
        have e1 : (hearK (e + k) g l).2 = x := Option.some.inj hk
        rw [← e1, h (e + k) g (by omega)]
    have h0 : ((hs.mapIdx fun k h => (hearK k h l).2).drop e).flatten = [] := flat_nil this
    conv => rhs; rw [← List.take_append_drop e (hs.mapIdx fun k h => (hearK k h l).2), List.flatten_append, h0, List.append_nil]
section
variable {K : PySem.W.Frag} {H : Hp}
theorem Rp.chg_inv {n ahead : Nat} {c : Ch} {v : V} (h : Rp K H (Letter.enc (.change n c ahead)) v) : ∃ a, v = .ref a ∧ H a = some (.tup [.str "change", .int n, .int c.key, .str (wd c.set), .int c.worth, .int ahead]) := by
  obtain ⟨a, xs, e, f, r⟩ := Rp.tup_inv h
  obtain ⟨v1, r1, e1, h1, r⟩ := r.cons_inv
  obtain ⟨v2, r2, e2, h2, r⟩ := r.cons_inv
  obtain ⟨v3, r3, e3, h3, r⟩ := r.cons_inv
  obtain ⟨v4, r4, e4, h4, r⟩ := r.cons_inv
  obtain ⟨v5, r5, e5, h5, r⟩ := r.cons_inv
  obtain ⟨v6, r6, e6, h6, r⟩ := r.cons_inv
  have := r.nil_inv
  subst this e6 e5 e4 e3 e2 e1
  have h1 := Rp.str_iff.mp h1
  have h2 := Rp.int_iff.mp h2
  have h3 := Rp.int_iff.mp h3
  have h4 := Rp.str_iff.mp h4
  have h5 := Rp.int_iff.mp h5
  have h6 := Rp.int_iff.mp h6
  subst h1 h2 h3 h4 h5 h6
  exact ⟨a, e, f⟩
theorem Rp.part_inv {n b : Nat} {rows : List (Int × Nat)} {v : V} (h : Rp K H (Letter.enc (.part n b rows)) v) :
    ∃ a t xs, v = .ref a ∧ H a = some (.tup [.str "part", .int n, .int b, .ref t]) ∧ H t = some (.tup xs) ∧ xs.length = rows.length ∧ ∀ (i : Nat) r, rows[i]? = some r → ∃ q, xs[i]? = some (.ref q) ∧ H q = some (.tup [.int r.1, .int r.2]) := by
  obtain ⟨a, xs, e, f, r⟩ := Rp.tup_inv h
  obtain ⟨v1, r1, e1, h1, r⟩ := r.cons_inv
  obtain ⟨v2, r2, e2, h2, r⟩ := r.cons_inv
  obtain ⟨v3, r3, e3, h3, r⟩ := r.cons_inv
  obtain ⟨v4, r4, e4, h4, r⟩ := r.cons_inv
  have := r.nil_inv
  subst this e4 e3 e2 e1
  have h1 := Rp.str_iff.mp h1
  have h2 := Rp.int_iff.mp h2
  have h3 := Rp.int_iff.mp h3
  obtain ⟨t, ys, e4, f4, r4⟩ := h4.tup_inv
  subst h1 h2 h3 e4
  refine ⟨a, t, ys, e, f, f4, by rw [r4.length, List.length_map], fun i r hr => ?_⟩
  obtain ⟨u, hu, ru⟩ := r4.get (i := i) (d := .tuple [.int r.1, .int r.2]) (by rw [List.getElem?_map, hr]; rfl)
  obtain ⟨q, zs, e5, f5, r5⟩ := ru.tup_inv
  obtain ⟨w1, z1, e6, g1, r5⟩ := r5.cons_inv
  obtain ⟨w2, z2, e7, g2, r5⟩ := r5.cons_inv
  have := r5.nil_inv
  subst this e7 e6 e5
  have g1 := Rp.int_iff.mp g1
  have g2 := Rp.int_iff.mp g2
  subst g1 g2
  exact ⟨q, hu, f5⟩
theorem Rp.beat_inv {n : Nat} {lasts : List Nat} {v : V} (h : Rp K H (Letter.enc (.beat n lasts)) v) :
    ∃ a t, v = .ref a ∧ H a = some (.tup [.str "beat", .int n, .ref t]) ∧ H t = some (.tup (lasts.map fun k : Nat => V.int k)) := by
  obtain ⟨a, xs, e, f, r⟩ := Rp.tup_inv h
  obtain ⟨v1, r1, e1, h1, r⟩ := r.cons_inv
  obtain ⟨v2, r2, e2, h2, r⟩ := r.cons_inv
  obtain ⟨v3, r3, e3, h3, r⟩ := r.cons_inv
  have := r.nil_inv
  subst this e3 e2 e1
  have h1 := Rp.str_iff.mp h1
  have h2 := Rp.int_iff.mp h2
  obtain ⟨t, ys, e4, f4, r4⟩ := h3.tup_inv
  subst h1 h2 e4
  have ey : ys = lasts.map fun k : Nat => V.int k := by
    have : (lasts.map fun k : Nat => PyData.int k) = (lasts.map fun k : Nat => (k : Int)).map PyData.int := by
      rw [List.map_map]
      rfl
    rw [this] at r4
    have := r4.ints
    rw [this, List.map_map]
    rfl
  subst ey
  exact ⟨a, t, e, f, f4⟩
end
def spDo (K : PySem.W.Frag) (C : Addr) : Sp := fun vs H Q _ => vs.length = 2 ∧ ∃ (A : HA) (hs : List HK) (c : Lg) (v : V) (n ahead : Nat) (ch : Ch) (h : HK), vs = [.ref A.p, v] ∧ HR K C A hs H c ∧ Has H c ∧ Rp K H (Letter.enc (.change n ch ahead)) v ∧ hs[ch.key]? = some h ∧
  ∀ (c' : Lg) (H' : Hp), HR K C A (hs.set ch.key (h.done n ch.set ch.worth)) H' c' → Tr H c H' c' → Q .non H'
def spFreed (K : PySem.W.Frag) (C : Addr) : Sp := fun vs H Q _ => vs.length = 2 ∧ ∃ (A : HA) (hs : List HK) (c : Lg) (k : Nat) (h : HK), vs = [.ref A.p, .int k] ∧ HR K C A hs H c ∧ Has H c ∧ hs[k]? = some h ∧ Wf h ∧
  ∀ (r : Addr) (c' : Lg) (H' : Hp), HR K C A (hs.set k h.free.1) H' c' → Tr H c H' ((r, .lst (h.free.2.map V.int)) :: c') → Q (.ref r) H'
def spChanged (K : PySem.W.Frag) (C : Addr) : Sp := fun vs H Q _ => vs.length = 2 ∧ ∃ (A : HA) (hs : List HK) (c : Lg) (v : V) (n ahead : Nat) (ch : Ch) (h : HK), vs = [.ref A.p, v] ∧ HR K C A hs H c ∧ Has H c ∧ Rp K H (Letter.enc (.change n ch ahead)) v ∧ hs[ch.key]? = some h ∧ Wf h ∧
  ∀ (r : Addr) (c' : Lg) (H' : Hp), HR K C A (hs.set ch.key (h.chg n ch ahead).1) H' c' → Tr H c H' ((r, .lst ((h.chg n ch ahead).2.map V.int)) :: c') → Q (.ref r) H'
def spHear (K : PySem.W.Frag) (C : Addr) : Sp := fun vs H Q _ => vs.length = 2 ∧ ∃ (A : HA) (hs : List HK) (c : Lg) (v : V) (l : Letter), vs = [.ref A.p, v] ∧ HR K C A hs H c ∧ Has H c ∧ Rp K H l.enc v ∧ hs.length ≤ 8 ∧ (∀ h ∈ hs, Wf h) ∧
  (match l with | .change _ ch _ => ch.key < hs.length | .part _ b rows => b + rows.length ≤ hs.length | .beat _ lasts => lasts.length = hs.length) ∧
  ∀ (r : Addr) (c' : Lg) (H' : Hp), HR K C A (hear hs l) H' c' → Tr H c H' ((r, .lst ((heard hs l).map V.int)) :: c') → Q (.ref r) H'
def spCopied (K : PySem.W.Frag) (C : Addr) : Sp := fun vs H Q _ => vs.length = 2 ∧ ∃ (A : HA) (hs : List HK) (c : Lg) (v : V) (n b : Nat) (rows : List (Int × Nat)), vs = [.ref A.p, v] ∧ HR K C A hs H c ∧ Has H c ∧ Rp K H (Letter.enc (.part n b rows)) v ∧ hs.length ≤ 8 ∧ (∀ h ∈ hs, Wf h) ∧ b + rows.length ≤ hs.length ∧
  ∀ (r : Addr) (c' : Lg) (H' : Hp), HR K C A (hear hs (.part n b rows)) H' c' → Tr H c H' ((r, .lst ((heard hs (.part n b rows)).map V.int)) :: c') → Q (.ref r) H'
theorem HR.len {K : PySem.W.Frag} {C : Addr} {A : HA} {hs : List HK} {H : Hp} {c : Lg} (r : HR K C A hs H c) : A.ds.length = hs.length := let ⟨_, _, h, _⟩ := r.ex; h
theorem set_back {hs : List HK} {k : Nat} {h : HK} (e : hs[k]? = some h) : hs.set k h = hs := by
  apply List.ext_getElem?
  intro i
  by_cases hi : k = i
  · subst hi
    rw [List.getElem?_set_self (List.getElem?_eq_some_iff.mp e).1, e]
  · rw [List.getElem?_set_ne hi]
theorem ndec {c : Prop} [Decidable c] (h : ¬ decide c = true) : ¬ c := fun q => h (decide_eq_true q)
theorem hFno {A : HA} {m : Str} (h : (hF A).lookup m = none := by rfl) : (hF A).lookup m = none := h
theorem ixN_of {n j : Nat} {z : Int} (e : z = (j : Int)) (h : j < n) : ixN n z = some j := by
  rw [e]
  exact ixN_nat h
theorem free_len {h : HK} (w : Wf h) : h.free.2.length ≤ 121 := by
  refine Nat.le_trans fold_len ?_
  rw [(srt_perm _).length_eq, asN, List.length_map]
  have := w.few
  show 0 + _ ≤ _
  omega
theorem hearK_len {k : Nat} {h : HK} {l : Letter} (w : Wf h) : (hearK k h l).2.length ≤ 122 := by
  cases l with
  | change n c ahead =>
    simp only [hearK]
    split
    · unfold HK.chg
      split
      · exact Nat.zero_le _
      · split
        · exact Nat.zero_le _
        · have := free_len (h := h.done n c.set c.worth) ⟨w.nd, w.few⟩
          show _ + 1 ≤ 122
          omega
    · exact Nat.zero_le _
  | part n b rows =>
    simp only [hearK]
    split
    · split
      · unfold HK.row
        split
        · rename_i r _ _
          have := free_len (h := { h with worth := r.1, since := r.2, upto := n }) ⟨w.nd, w.few⟩
          omega
        · exact Nat.zero_le _
      · exact Nat.zero_le _
    · exact Nat.zero_le _
  | beat n lasts =>
    simp only [hearK]
    split <;> exact Nat.zero_le _
theorem flat_len {b : Nat} : ∀ {xs : List (List Int)}, (∀ x ∈ xs, x.length ≤ b) → xs.flatten.length ≤ b * xs.length
  | [], _ => Nat.zero_le _
  | x :: xs, h => by
    have ih := flat_len (xs := xs) fun y hy => h y (List.mem_cons_of_mem _ hy)
    have h1 := h x List.mem_cons_self
    rw [List.flatten_cons, List.length_append, List.length_cons, Nat.mul_add]
    omega
theorem fnd_len {hs : List HK} {l : Letter} {m : Nat} (w : ∀ h ∈ hs, Wf h) (h8 : hs.length ≤ 8) : (fnd hs l m).length ≤ 976 := by
  unfold fnd
  refine Nat.le_trans (flat_len (b := 122) fun x hx => ?_) ?_
  · have hx := List.mem_of_mem_take hx
    obtain ⟨k, hk⟩ := List.getElem?_of_mem hx
    rw [List.getElem?_mapIdx] at hk
    cases ek : hs[k]? with
    | none =>
      rw [ek] at hk
      cases hk
    | some g =>
      rw [ek] at hk
      have e1 : (hearK k g l).2 = x := Option.some.inj hk
      rw [← e1]
      exact hearK_len (w g (List.mem_of_getElem? ek))
  · rw [List.length_take, List.length_mapIdx]
    have : min m hs.length ≤ 8 := Nat.le_trans (Nat.min_le_right _ _) h8
    omega
theorem hear_change {hs : List HK} {n ahead : Nat} {ch : Ch} {h : HK} (e : hs[ch.key]? = some h) : hear hs (.change n ch ahead) = hs.set ch.key (h.chg n ch ahead).1 ∧ heard hs (.change n ch ahead) = (h.chg n ch ahead).2 := by
  have ek : hearK ch.key h (.change n ch ahead) = h.chg n ch ahead := by simp only [hearK, if_pos]
  obtain ⟨a1, a2⟩ := prt_low (hs := hs) (l := .change n ch ahead) (b := ch.key) fun k g hk => by
    simp only [hearK]
    rw [if_neg (by omega)]
  obtain ⟨b1, b2⟩ := prt_high (hs := hs) (l := .change n ch ahead) (e := ch.key + 1) fun k g hk => by
    simp only [hearK]
    rw [if_neg (by omega)]
  rw [prt_succ e, a1, ek] at b1
  rw [fnd_succ e, a2, ek] at b2
  exact ⟨b1.symm, b2.symm⟩
end Cu

namespace Cu
open PySem PySem.Spec PyProof.Rows L2
/-! enumerate over a tuple -/
theorem newE (t : Addr) (ys : Array Value) :
    Meets (Builtin.«enumerate.__new__» ⟨[.type "enumerate", .ref t], []⟩) (fun _ R z => z.heap.IsTuple t ys ∧
      R (.ok (.ret (.ref (z.heap.push { cls := .type "tuple_iterator", data := .fields #[.ref t, .int 0 0] }).objs.size)))
        { z with heap := (z.heap.push { cls := .type "tuple_iterator", data := .fields #[.ref t, .int 0 0] }).push { cls := .type "enumerate", data := .fields #[.none, .bool false, .ref z.heap.objs.size, rawInt 0, .none, .none] } }) :=
  .of_wp fun P w A R z hz => by
    obtain ⟨h0, g0, d0, k0, os0⟩ := z
    obtain ⟨ht, hR⟩ := hz
    have hsub := sub_enumerate
    have q1 : ∀ {A' : Around} {E : Value → Shared → Prop} {Q : Value → Shared → Prop}, Q (.ref h0.objs.size) ⟨h0.push { cls := .type "tuple_iterator", data := .fields #[.ref t, .int 0 0] }, g0, d0, k0, os0⟩ →
        wpAny (model P w) A' (pyIter (.ref t)) Q E ⟨h0, g0, d0, k0, os0⟩ := fun q => wpAny_pyIter_tuple ht q
    wp_walk using q1
    refine wpAny_stack_any fun stk => wpAny_pure ?_
    split
    · rename_i c _ _ _ _ _
      cases (c == Value.type "enumerate") <;> (wp_walk using q1; exact ⟨_, rfl, hR⟩)
    · wp_walk using q1
      exact ⟨_, rfl, hR⟩
section
variable {P : Program} {w : World} {A : Around} {E : Value → Shared → Prop} {s : Shared}
theorem callE {t : Addr} {ys : Array Value} {Q : Value → Shared → Prop} (ht : s.heap.IsTuple t ys)
    (q : ∀ h2, IsEnum h2 (s.heap.objs.size + 1) s.heap.objs.size 0 .none → h2.IsTupleIter s.heap.objs.size t 0 → h2.objs.size = s.heap.objs.size + 2 →
      (∀ b o, s.heap.get? b = some o → h2.get? b = some o) → Q (.ref (s.heap.objs.size + 1)) { s with heap := h2 }) :
    wpAny (model P w) A (call (.type "enumerate") [.ref t]) Q E s := by
  refine callType_new F.called_enumerate (by decide) (F.typeCall_enumerate_1 _) (F.newCall_enumerate_1 _) (fun o => F.args_object_init_2 o _) F.entry_enumerate_new (newE t ys) ⟨ht, ?_⟩
  have z1 : (s.heap.push { cls := .type "tuple_iterator", data := .fields #[.ref t, .int 0 0] }).objs.size = s.heap.objs.size + 1 := Heap.size_push ..
  show _ ∧ _
  rw [z1]
  have e1 : IsEnum ((s.heap.push { cls := .type "tuple_iterator", data := .fields #[.ref t, .int 0 0] }).push
      { cls := .type "enumerate", data := .fields #[.none, .bool false, .ref s.heap.objs.size, rawInt 0, .none, .none] }) (s.heap.objs.size + 1) s.heap.objs.size 0 .none := by
    have := Heap.get?_push_size (s.heap.push { cls := .type "tuple_iterator", data := .fields #[.ref t, .int 0 0] })
      (o := { cls := .type "enumerate", data := .fields #[.none, .bool false, .ref s.heap.objs.size, rawInt 0, .none, .none] }) rfl
    rw [z1] at this
    exact this
  exact ⟨⟨_, e1, rfl⟩, q _ e1 ⟨_, Heap.get?_push_of_some _ (Heap.get?_push_size _ rfl), rfl, rfl⟩ (by rw [Heap.size_push, z1]) fun b o x => Heap.get?_push_of_some _ (Heap.get?_push_of_some _ x)⟩
end
/-- the tuple at a, its items in new pairs with their places -/
def Iet (K : PySem.W.Frag) (a : Addr) : It :=
  ⟨fun i H => ∃ (ys : List V) (y : V), SqT K H a ys ∧ ys[i]? = some y,
   fun i H v H2 => ∃ p y, v = .ref p ∧ H p = none ∧ H2 = upd H p (.tup [.int (i : Nat), y]) ∧ ∀ ys, SqT K H a ys → ys[i]? = some y,
   fun i H => ∃ ys : List V, SqT K H a ys ∧ ys.length = i⟩
theorem turnE {P : Program} {w : World} {K : PySem.W.Frag} {elts : List Expr} {kk : Nat} {tp : Pos} (a e it : Addr) :
    Turn P w K (.Tuple elts kk tp) (Iet K a) [e, it] e (fun i h => (∃ old, IsEnum h e it ((i : Nat) : Int) old) ∧ h.IsTupleIter it a i ∧ e ≠ it ∧ a ≠ e ∧ a ≠ it) where
  mem := by simp
  obj := fun i h st b hb => by
    obtain ⟨⟨old, he⟩, ⟨o, ho, hc, hd⟩, _⟩ := st
    rcases (show b = e ∨ b = it by simpa using hb) with z | z
    · rw [z]
      exact ⟨_, he, fun v q => nomatch q⟩
    · rw [z]
      exact ⟨o, ho, fun v q => by rw [hd] at q; cases q⟩
  keep := fun i h h2 st kp => by
    obtain ⟨⟨old, he⟩, hi, hne⟩ := st
    exact ⟨⟨old, kp e (by simp) _ he⟩, hi.at fun o q => kp it (by simp) o q, hne⟩
  item := by
    intro X hP hw hK hc i pins s σ H E I hf st hg
    subst hP hw hK
    obtain ⟨⟨old, he⟩, hit, hne, hae, hai⟩ := st
    obtain ⟨ys, y, hq, hy⟩ := hg
    obtain ⟨its, rv, p, hz⟩ := I.tuple hq
    obtain ⟨u, hu, ru⟩ := rv.get hy
    have hel : e < s.heap.objs.size := Heap.lt_size he
    have hil : it < s.heap.objs.size := by
      obtain ⟨_, q, _⟩ := hit
      exact Heap.lt_size q
    have hlt : i < its.toArray.size := by
      have := (List.getElem?_eq_some_iff.mp hu).1
      simpa using this
    have pT : s.heap.IsTuple a its.toArray := let ⟨o, ho, hc, n, hd⟩ := p; ⟨o, ho, hc, n, hd⟩
    refine wpAny_pyNext_enum_itemD (Draws.tuple (prog := X.prog) (w := X.w) (A := X.A.in1) (I.ok.hd hc) it a hai its.toArray) he ⟨hit, pT⟩ hlt hne (by simp [hne, Ne.symm hae]) fun x h2 tk hx ho hit2 hT hsz hk => ?_
    have hxu : x = u := by
      have q : its.toArray[i]? = some x := hx
      rw [List.getElem?_toArray, hu] at q
      exact (Option.some.inj q).symm
    subst hxu
    refine ⟨_, rfl, wpAny_letOwnedTupleGo_enum (s := { s with heap := h2, toks := tk + 1 }) ho fun h3 he3 sb => ?_⟩
    have hT3 : h3.get? s.heap.objs.size = some { cls := .type "tuple", data := .seq #[.int i tk, x] } := (sb.2 _ (Nat.ne_of_gt hel)).trans hT
    have new : ObjOk X.prog X.w (upd H s.heap.objs.size (.tup [.int (i : Nat), y])) h3 s.heap.objs.size (.tup [.int (i : Nat), y]) :=
      ⟨by show 2 ≤ sizeLine; decide, [.int i tk, x], .cons ⟨_, rfl⟩ (.cons ru .nil), ⟨_, hT3, rfl, _, rfl⟩⟩
    have I1 : Inv X pins σ (upd H s.heap.objs.size (.tup [.int (i : Nat), y])) { s with heap := h3, toks := tk + 1 } :=
      I.turnedNew (ch := [e, it]) (fun b ob hb q => (sb.2 b (fun z => hb (by simp [z]))).trans (hk b ob (fun z => hb (by simp [z])) (fun z => hb (by simp [z])) q)) hf (Nat.le_refl _) new
    refine ⟨.ref s.heap.objs.size, _, I1, rfl, ⟨_, y, rfl, I.hok.fresh (Nat.le_refl _), rfl, fun zs hzs => by rw [I.tuple_inj hzs hq]; exact hy⟩, ⟨⟨x, ?_⟩, hit2.1.at fun o q => (sb.2 it (Ne.symm hne)).trans q, hne, hae, hai⟩, fun b hb => ?_⟩
    · have e1 : ((i + 1 : Nat) : Int) = (i : Int) + 1 := by omega
      rw [e1]
      exact he3
    · have hb2 : b < s.heap.objs.size := by
        rcases (show b = e ∨ b = it by simpa using hb) with z | z
        · rw [z]
          exact hel
        · rw [z]
          exact hil
      rw [upd_ne (Nat.ne_of_lt hb2)]
      exact (hf b hb).1
  done := by
    intro X hP hw hK hc i pins s σ H E I hf st hg
    subst hP hw hK
    obtain ⟨⟨old, he⟩, hit, hne, hae, hai⟩ := st
    obtain ⟨ys, hq, hy⟩ := hg
    obtain ⟨its, rv, p, hz⟩ := I.tuple hq
    obtain ⟨f0, f1, f2, f3, f4, f5⟩ := hf it (by simp)
    have pT : s.heap.IsTuple a its.toArray := let ⟨o, ho, hc, n, hd⟩ := p; ⟨o, ho, hc, n, hd⟩
    have hn : its.toArray.size = i := by
      have := rv.length
      simp
      omega
    exact wpAny_pyNext_enum_endD (Draws.tuple (prog := X.prog) (w := X.w) (A := X.A.in1) (I.ok.hd hc) it a hai its.toArray) he ⟨by rw [hn]; exact hit, pT⟩ fun h2 eb => ⟨rfl, I.turned (t' := s.toks) (fun b o hb q => eb b o hb q) f0 f1 f3 f4 f5⟩
  self := fun A i s Q E st h => let ⟨⟨_, he⟩, _⟩ := st; wpAny_pyIter_enum he h
def iEnumT (K : PySem.W.Frag) (ta : TA) : TI := fun σ H R => ta σ H fun vs H1 => ∃ a ys, vs = [.ref a] ∧ SqT K H1 a ys ∧ R (Iet K a) H1
theorem pi_enumT {X : Cx} {e : Expr} {ta : TA} {p pos tp : Pos} {elts : List Expr} {kk : Nat} (hg : Gl X "enumerate") (hm : X.mg "enumerate" = none) (ha : PA X [e] ta) (hs : starEach [e] X.env = [(false, eval e X.env)] := by rfl) :
    PI X (.Tuple elts kk tp) (.Call (.Name "enumerate" p) [e] [] pos) (iEnumT X.K ta) := by
  refine ⟨fun pins s σ H R I h => ?_⟩
  refine Call_ (ld_blt I hg hm boot_enumerate (PyProof.Rows.callWith_type1 (thn (ha.run pos pins s σ H _ I h) fun us s1 ⟨vs, H1, I1, r1, q1⟩ => ?_) hs rfl))
  obtain ⟨a, ys, ex, hq, q⟩ := q1
  subst ex
  cases r1 with
  | cons r rr =>
    cases rr
    cases r
    obtain ⟨its, rv, p', hz⟩ := I1.tuple hq
    have pT : s1.heap.IsTuple a its.toArray := let ⟨o, ho, hc, n, hd⟩ := p'; ⟨o, ho, hc, n, hd⟩
    have hal : a < s1.heap.objs.size := let ⟨_, ho, _⟩ := p'; Heap.lt_size ho
    refine callE pT fun h2 he hit hsz hk => wpAny_pyIter_enum he ?_
    have I2 : Inv X pins σ H1 { s1 with heap := h2 } := I1.kept (t' := s1.toks) hk
    refine ⟨s1.heap.objs.size + 1, [s1.heap.objs.size + 1, s1.heap.objs.size], _, _, H1, rfl, I2, turnE a (s1.heap.objs.size + 1) s1.heap.objs.size, ⟨⟨.none, he⟩, hit, Nat.succ_ne_self _, Nat.ne_of_lt (Nat.lt_succ_of_lt hal), Nat.ne_of_lt hal⟩, fun b hb => ?_, q⟩
    have hle : s1.heap.objs.size ≤ b := by
      rcases (show b = s1.heap.objs.size + 1 ∨ b = s1.heap.objs.size by simpa using hb) with z | z
      · rw [z]
        exact Nat.le_add_right _ _
      · rw [z]
        exact Nat.le_refl _
    exact I1.fpOk hle (I1.hok.fresh hle)
theorem walk_enumT {K : PySem.W.Frag} {a : Addr} {xs : List V} : Walk (Iet K a) xs.length (fun H => SqT K H a xs) (YPair (fun i => some (.int (i : Nat))) (fun i => xs[i]?)) := by
  refine ⟨fun i _ hi q => ⟨xs, xs[i], q, by simp [hi]⟩, fun _ q => ⟨xs, q, rfl⟩, fun i H v H2 _ q y => ?_⟩
  obtain ⟨p, z, h1, h2, h3, h4⟩ := y
  exact ⟨p, .int (i : Nat), z, h1, h2, h3, rfl, h4 xs q⟩
end Cu

namespace Cu
open PySem PySem.Spec PyProof.Rows L2
abbrev s_Hearer_do : Stmt := (inClass (top 14) 7)
theorem sc_Hearer_do : FnScope ["self", "letter", "word", "number", "key", "kind", "worth", "ahead"] ["self", "letter"] (defScope s_Hearer_do) := ⟨rfl, rfl, rfl, by decide +kernel, rfl, by decide +kernel, by decide +kernel⟩

abbrev s_Hearer_freed : Stmt := (inClass (top 14) 9)
theorem sc_Hearer_freed : FnScope ["self", "key", "found", "number", "letter"] ["self", "key"] (defScope s_Hearer_freed) := ⟨rfl, rfl, rfl, by decide +kernel, rfl, by decide +kernel, by decide +kernel⟩

abbrev s_Hearer_changed : Stmt := (inClass (top 14) 6)
theorem sc_Hearer_changed : FnScope ["self", "letter", "word", "number", "key", "kind", "worth", "ahead"] ["self", "letter"] (defScope s_Hearer_changed) := ⟨rfl, rfl, rfl, by decide +kernel, rfl, by decide +kernel, by decide +kernel⟩

abbrev s_Hearer_copied : Stmt := (inClass (top 14) 8)
theorem sc_Hearer_copied : FnScope ["self", "letter", "word", "number", "begin", "rows", "found", "at", "worth", "last", "key"] ["self", "letter"] (defScope s_Hearer_copied) := ⟨rfl, rfl, rfl, by decide +kernel, rfl, by decide +kernel, by decide +kernel⟩

abbrev s_Hearer_hear : Stmt := (inClass (top 14) 5)
theorem sc_Hearer_hear : FnScope ["self", "letter", "key"] ["self", "letter"] (defScope s_Hearer_hear) := ⟨rfl, rfl, rfl, by decide +kernel, rfl, by decide +kernel, by decide +kernel⟩

section
variable {P : Program} {w : World} {K : PySem.W.Frag} {mg : Str → Option Value} {base : Heap} {C : Addr}
theorem ok_do (F : Md K C "do" "Hearer.do" s_Hearer_do) (Bm : Blt mg) (CHearer : CHr K C) : Mf P w K mg base 1 C "do" ["self", "letter"] (spDo K C) := by
  refine F.ok sc_Hearer_do (fun _ _ _ _ _ _ us hl => match us, hl with | [_, _], _ => rfl) len_of fun qual f cdv A0 outer s H vs Q E hr h => ?_
  obtain ⟨_, A, hs, c, v, n, ahead, ch, h, rfl, r, hc, rv, eh, k⟩ := h
  obtain ⟨a, rfl, ha⟩ := rv.chg_inv
  have hk : ch.key < hs.length := (List.getElem?_eq_some_iff.mp eh).1
  have a1 : atI (hs.map fun h => V.int h.worth) (ch.key : Int) = some (V.int h.worth) := at_of (j := ch.key) rfl (by rw [List.getElem?_map, eh]; rfl)
  refine ⟨_, (pss_cons (ps_asg (pv 1) (pg_tup rfl (pgs_cons (pg_name (i := 2) sc_Hearer_do.nd rfl (Or.inl rfl)) (pgs_cons (pg_name (i := 3) sc_Hearer_do.nd rfl (Or.inl rfl)) (pgs_cons (pg_name (i := 4) sc_Hearer_do.nd rfl (Or.inl rfl)) (pgs_cons (pg_name (i := 5) sc_Hearer_do.nd rfl (Or.inl rfl)) (pgs_cons (pg_name (i := 6) sc_Hearer_do.nd rfl (Or.inl rfl)) (pgs_cons (pg_name (i := 7) sc_Hearer_do.nd rfl (Or.inl rfl)) pgs_nil))))))))
      (pss_cons (ps_asg (pe_ifExp (pt_cmpR op_eq (pv 5) pe_str (nomark _)) (pv 6) (pe_op op_add (pe_ix ix_list (pe_fld (pv 0) rfl) (pv 4) (fun _ _ => rfl)) (pv 6))) (pg_sub (pe_fld (pv 0) rfl) (pv 4) set_list))
      (pss_cons (ps_asg (pv 3) (pg_sub (pe_fld (pv 0) rfl) (pv 4) set_list))
      (pss_one (ps_asg (pv 3) (pg_sub (pe_fld (pv 0) rfl) (pv 4) set_list)))))), ?_⟩
  refine ⟨_, rfl, a, _, rfl, SqT.of ha, rfl, _, _, rfl, _, _, rfl, _, _, rfl, _, _, rfl, _, _, rfl, _, _, rfl, rfl, ?_⟩
  have ix1 : ∀ {α : Type} (g : HK → α), ixN (hs.map g).length (ch.key : Int) = some ch.key := fun g => ixN_nat (by rw [List.length_map]; exact hk)
  refine ⟨_, rfl, rfl, _, rfl, ite2 (fun h0 => ?_) fun h0 => ?_⟩
  · rw [wd_set] at h0
    refine ⟨_, rfl, _, rfl, _, C, _, _, _, rfl, r.at_p hc, CHearer.cl, CHearer.n1, hF1 A, _, rfl, _, _, _, _, rfl, rfl, r.at1 hc, ix1 _, ?_⟩
    obtain ⟨c1, r1, t1⟩ := r.set1 hc eh ch.worth
    have hc1 := t1.now hc
    have e1 : (hs.set ch.key { h with worth := ch.worth })[ch.key]? = some { h with worth := ch.worth } := List.getElem?_set_self hk
    refine ⟨_, rfl, _, rfl, _, C, _, _, _, rfl, r1.at_p hc1, CHearer.cl, CHearer.n2, hF2 A, _, rfl, _, _, _, _, rfl, rfl, r1.at2 hc1, ixN_nat (by rw [List.length_map, List.length_set]; exact hk), ?_⟩
    obtain ⟨c2, r2, t2⟩ := r1.set2 hc1 e1 n
    rw [List.set_set] at r2
    have hc2 := t2.now hc1
    have e2 : (hs.set ch.key { h with worth := ch.worth, since := n })[ch.key]? = some { h with worth := ch.worth, since := n } := List.getElem?_set_self hk
    refine ⟨_, rfl, _, rfl, _, C, _, _, _, rfl, r2.at_p hc2, CHearer.cl, CHearer.n3, hF3 A, _, rfl, _, _, _, _, rfl, rfl, r2.at3 hc2, ixN_nat (by rw [List.length_map, List.length_set]; exact hk), ?_⟩
    obtain ⟨c3, r3, t3⟩ := r2.set3 hc2 e2 n
    rw [List.set_set] at r3
    refine k c3 _ ?_ ((t1.trans t2).trans t3)
    have ee : h.done n ch.set ch.worth = { h with worth := ch.worth, since := n, upto := n } := by
      unfold HK.done
      rw [if_pos h0]
    rw [ee]
    exact r3
  · rw [wd_set] at h0
    refine ⟨_, rfl, _, C, _, _, _, rfl, r.at_p hc, CHearer.cl, CHearer.n1, hF1 A, _, rfl, _, _, _, _, rfl, rfl, SqL.of (r.at1 hc), a1, _, rfl, _, _, rfl, rfl, _, rfl, _, C, _, _, _, rfl, r.at_p hc, CHearer.cl, CHearer.n1, hF1 A, _, rfl, _, _, _, _, rfl, rfl, r.at1 hc, ix1 _, ?_⟩
    obtain ⟨c1, r1, t1⟩ := r.set1 hc eh (h.worth + ch.worth)
    have hc1 := t1.now hc
    have e1 : (hs.set ch.key { h with worth := h.worth + ch.worth })[ch.key]? = some { h with worth := h.worth + ch.worth } := List.getElem?_set_self hk
    refine ⟨_, rfl, _, rfl, _, C, _, _, _, rfl, r1.at_p hc1, CHearer.cl, CHearer.n2, hF2 A, _, rfl, _, _, _, _, rfl, rfl, r1.at2 hc1, ixN_nat (by rw [List.length_map, List.length_set]; exact hk), ?_⟩
    obtain ⟨c2, r2, t2⟩ := r1.set2 hc1 e1 n
    rw [List.set_set] at r2
    have hc2 := t2.now hc1
    have e2 : (hs.set ch.key { h with worth := h.worth + ch.worth, since := n })[ch.key]? = some { h with worth := h.worth + ch.worth, since := n } := List.getElem?_set_self hk
    refine ⟨_, rfl, _, rfl, _, C, _, _, _, rfl, r2.at_p hc2, CHearer.cl, CHearer.n3, hF3 A, _, rfl, _, _, _, _, rfl, rfl, r2.at3 hc2, ixN_nat (by rw [List.length_map, List.length_set]; exact hk), ?_⟩
    obtain ⟨c3, r3, t3⟩ := r2.set3 hc2 e2 n
    rw [List.set_set] at r3
    refine k c3 _ ?_ ((t1.trans t2).trans t3)
    have ee : h.done n ch.set ch.worth = { h with worth := h.worth + ch.worth, since := n, upto := n } := by
      unfold HK.done
      rw [if_neg h0]
    rw [ee]
    exact r3
end
end Cu

namespace Cu
open PySem PySem.Spec PyProof.Rows L2
section
variable {P : Program} {w : World} {K : PySem.W.Frag} {mg : Str → Option Value} {base : Heap} {C : Addr}
theorem ok_freed (F : Md K C "freed" "Hearer.freed" s_Hearer_freed) (Bm : Blt mg) (CHearer : CHr K C) (m_Hearer_do : Mf P w K mg base 1 C "do" ["self", "letter"] (spDo K C)) : Mf P w K mg base 2 C "freed" ["self", "key"] (spFreed K C) := by
  refine F.ok sc_Hearer_freed (fun _ _ _ _ _ _ us hl => match us, hl with | [_, _], _ => rfl) len_of fun qual f cdv A0 outer s H vs Q E hr h => ?_
  obtain ⟨_, A, hs, c, k, h, rfl, r, hc, eh, wf, go⟩ := h
  have hk : k < hs.length := (List.getElem?_eq_some_iff.mp eh).1
  refine ⟨_, (pss_cons (ps_set (i := 2) sc_Hearer_freed.nd rfl (Or.inl rfl) (pe_lst pa_nil))
      (pss_cons (ps_for PassesOwn.never rfl (pi_list (pe_callB (call_sortedDIw rfl) rfl Bm.sorted (by decide +kernel) (pa_cons (pe_ix ix_list (pe_fld (pv 0) rfl) (pv 1) (fun _ _ => rfl)) pa_nil))) (pg_name (i := 3) sc_Hearer_freed.nd rfl (Or.inl rfl))
        (pss_cons (ps_set (i := 4) sc_Hearer_freed.nd rfl (Or.inl rfl) (pe_dget (hu_of hr) (pe_ix ix_list (pe_fld (pv 0) rfl) (pv 1) (fun _ _ => rfl)) (pv 3) (fun _ _ => rfl)))
        (pss_one (ps_if (pt_cmpR op_le (pv 3) (pe_ix ix_list (pe_fld (pv 0) rfl) (pv 1) (fun _ _ => rfl)) (nomark _))
          (pss_one (ps_expr (pe_dpop1 (pe_ix ix_list (pe_fld (pv 0) rfl) (pv 1) (fun _ _ => rfl)) (pv 3) ⟨rfl, rfl, rfl, rfl⟩)))
          (pss_one (ps_if (pt_cmpR op_le (pe_ix ix_tup (pv 4) pe_int (fun _ _ => rfl)) (pe_ix ix_list (pe_fld (pv 0) rfl) (pv 1) (fun _ _ => rfl)) (nomark _))
            (pss_cons (ps_expr (pe_dpop1 (pe_ix ix_list (pe_fld (pv 0) rfl) (pv 1) (fun _ _ => rfl)) (pv 3) ⟨rfl, rfl, rfl, rfl⟩))
            (pss_cons (ps_expr (pm (pv 0) CHearer.cl m_Hearer_do hr (pa_cons (pv 4) pa_nil)))
            (pss_one (ps_expr (pe_bm PySem.F.plainAttrs_list PySem.F.slot_list_append PySem.F.type_list_append mt_append (pv 2) (pa_cons (pv 3) pa_nil))))))
            pss_nil))))))
      (pss_one (ps_ret (pv 2))))), ?_⟩
  refine ⟨(by show 0 ≤ sizeLine; decide), fun p hp => ?_⟩
  have t1 := (Tr.refl H c).new (o := .lst []) hp nl
  have hc1 := (t1.now hc).tail
  have r1 := r.mono t1.mono
  obtain ⟨d, kvs, ed, hd, ok⟩ := r1.dict hc1 eh
  have ad : atI (A.ds.map V.ref) (k : Int) = some (.ref d) := at_of (j := k) rfl (by rw [List.getElem?_map, ed]; rfl)
  refine ⟨_, rfl, _, C, _, _, _, rfl, r1.at_p hc1, CHearer.cl, CHearer.n4, hF4 A, _, rfl, _, _, _, _, rfl, rfl, SqL.of (r1.at4 hc1), ad, d, kvs, asN h.aside, rfl, .inl hd, ok.keys, by rw [asN, List.length_map]; exact Nat.le_trans (Nat.le_of_lt wf.few) (by decide), fun ys q hperm hsort hq => ?_⟩
  have e := srt_eq hperm hsort
  subst e
  have t2 := t1.new (o := .lst ((srt (asN h.aside)).map V.int)) hq nl
  have hnd : (srt (asN h.aside)).Nodup := (srt_perm _).nodup_iff.mpr wf.nd
  have hsz : (srt (asN h.aside)).length < 122 := by rw [(srt_perm _).length_eq, asN, List.length_map]; exact wf.few
  refine ⟨q, rfl, ⟨_, SqL.of upd_same⟩, for_list (K := K) (a := q) (xs := (srt (asN h.aside)).map V.int) (fun i σ H2 => ∃ (v3 v4 : Option V) (c' : Lg) (st : HK × List Int), σ = [some (.ref A.p), some (.int k), some (.ref p), v3, v4] ∧
      st = ((srt (asN h.aside)).take i).foldl HK.fstep (h, []) ∧ HR K C A (hs.set k st.1) H2 c' ∧ Tr H c H2 ((q, .lst ((srt (asN h.aside)).map V.int)) :: (p, .lst (st.2.map V.int)) :: c'))
    ⟨none, none, c, (h, []), rfl, rfl, by rw [set_back eh]; exact r.mono t2.mono, t2⟩ (fun i σ H2 _ ⟨_, _, _, _, _, _, _, t⟩ => SqL.of (t.now hc).head) ?_ ?_⟩
  · rintro i x σ H2 hi ⟨v3, v4, c', st, rfl, est, r2, t3⟩
    rw [List.getElem?_map] at hi
    obtain ⟨n, en, rfl⟩ : ∃ n, (srt (asN h.aside))[i]? = some n ∧ x = V.int n := by
      cases e1 : (srt (asN h.aside))[i]? with
      | none =>
        rw [e1] at hi
        cases hi
      | some n =>
        rw [e1] at hi
        exact ⟨n, rfl, (Option.some.inj hi).symm⟩
    have hil : i < 122 := by
      have := (List.getElem?_eq_some_iff.mp en).1
      omega
    have hh := t3.now hc
    have hc3 := hh.tail.tail
    have eg : (hs.set k st.1)[k]? = some st.1 := List.getElem?_set_self hk
    have hnot : n ∉ (srt (asN h.aside)).take i := fun hm => by
      obtain ⟨j, hj⟩ := List.getElem?_of_mem hm
      have hji : j < i := by
        have := (List.getElem?_eq_some_iff.mp hj).1
        rw [List.length_take] at this
        omega
      rw [List.getElem?_take_of_lt hji] at hj
      have := nd_ix hnd hj en
      omega
    have hin : n ∈ asN h.aside := (srt_perm _).mem_iff.mp (List.mem_of_getElem? en)
    obtain ⟨a, ha, ean⟩ := findA_some hin
    have ha2 : findA st.1.aside n = some a := by
      rw [est, fold_find hnot]
      exact ha
    have est' : HK.fstep st n = ((srt (asN h.aside)).take (i + 1)).foldl HK.fstep (h, []) := by
      rw [take_snoc en, List.foldl_append, ← est]
      rfl
    have hst2 : st.2.length ≤ i := by
      have := fold_len (l := (srt (asN h.aside)).take i) (st := (h, []))
      rw [← est] at this
      refine Nat.le_trans this ?_
      rw [List.length_take]
      show 0 + _ ≤ _
      omega
    obtain ⟨d2, kvs2, ed2, hd2, ok2⟩ := r2.dict hc3 eg
    rw [ed] at ed2
    cases ed2
    obtain ⟨v, hv, rv⟩ := ok2.find ha2
    obtain ⟨av, rfl, hav⟩ := Rp.chg_inv rv
    have a3 : atI ((hs.set k st.1).map fun h => V.int h.upto) (k : Int) = some (V.int st.1.upto) := at_of (j := k) rfl (by rw [List.getElem?_map, eg]; rfl)
    have dg : DGet H2 d (.int n) (some (.ref av)) := by
      rw [← hv]
      exact DGet.k (k := Sum.inl n) hd2
    -- letter = self.aside[key][number]
    refine ⟨_, rfl, _, C, _, _, _, rfl, r2.at_p hc3, CHearer.cl, CHearer.n4, hF4 A, _, rfl, _, _, _, _, rfl, rfl, SqL.of (r2.at4 hc3), ad, _, rfl, d, _, rfl, dg, ?_⟩
    refine ⟨_, rfl, _, rfl, _, C, _, _, _, rfl, r2.at_p hc3, CHearer.cl, CHearer.n3, hF3 A, _, rfl, _, _, _, _, rfl, rfl, SqL.of (r2.at3 hc3), a3, _, _, rfl, rfl, _, rfl, ite2 (fun h0 => ?_) fun h0 => ?_⟩
    · -- number <= upto: dropped
      have h0' := of_decide_eq_true h0
      refine ⟨_, rfl, _, C, _, _, _, rfl, r2.at_p hc3, CHearer.cl, CHearer.n4, hF4 A, _, rfl, _, _, _, _, rfl, rfl, SqL.of (r2.at4 hc3), ad, d, rfl, .inl ⟨_, .inl hd2⟩, _, rfl, _, Sum.inl n, _, hd2, rfl, hv, ?_⟩
      obtain ⟨c4, r4, t4⟩ := r2.set4 hc3 eg ed (ok2.drop n)
      rw [List.set_set] at r4
      refine ⟨_, _, c4, HK.fstep st n, rfl, est', ?_, ?_⟩
      · have : HK.fstep st n = ({ st.1 with aside := dropA st.1.aside n }, st.2) := by
          unfold HK.fstep
          rw [ha2]
          dsimp only
          rw [if_pos h0']
        rw [this]
        exact r4
      · have : HK.fstep st n = ({ st.1 with aside := dropA st.1.aside n }, st.2) := by
          unfold HK.fstep
          rw [ha2]
          dsimp only
          rw [if_pos h0']
        rw [this]
        exact t3.trans (t4.left (D := [(q, .lst ((srt (asN h.aside)).map V.int)), (p, .lst (st.2.map V.int))]))
    · have h0' := ndec h0
      refine ⟨_, rfl, _, _, _, _, rfl, rfl, SqT.of hav, rfl, _, rfl, _, C, _, _, _, rfl, r2.at_p hc3, CHearer.cl, CHearer.n3, hF3 A, _, rfl, _, _, _, _, rfl, rfl, SqL.of (r2.at3 hc3), a3, _, _, rfl, rfl, _, rfl, ite2 (fun h1 => ?_) fun h1 => ?_⟩
      · -- it can be done
        have h1' := of_decide_eq_true h1
        refine ⟨_, rfl, _, C, _, _, _, rfl, r2.at_p hc3, CHearer.cl, CHearer.n4, hF4 A, _, rfl, _, _, _, _, rfl, rfl, SqL.of (r2.at4 hc3), ad, d, rfl, .inl ⟨_, .inl hd2⟩, _, rfl, _, Sum.inl n, _, hd2, rfl, hv, ?_⟩
        obtain ⟨c4, r4, t4⟩ := r2.set4 hc3 eg ed (ok2.drop n)
        rw [List.set_set] at r4
        have t5 := t3.trans (t4.left (D := [(q, .lst ((srt (asN h.aside)).map V.int)), (p, .lst (st.2.map V.int))]))
        have hh5 := t5.now hc
        have hc5 := hh5.tail.tail
        have e5 : (hs.set k { st.1 with aside := dropA st.1.aside n })[(asL k a |> fun _ => k)]? = some { st.1 with aside := dropA st.1.aside n } := List.getElem?_set_self hk
        refine ⟨_, rfl, A.p, _, _, rfl, r4.at_p hc5, hFno, _, rfl, rfl, A, _, c4, .ref av, a.n, a.ahead, ⟨k, false, a.worth⟩, _, rfl, r4, hc5, rv.mono t4.mono, e5, fun c6 H6 r6 t6 => ?_⟩
        have t7 := t5.trans (t6.left (D := [(q, .lst ((srt (asN h.aside)).map V.int)), (p, .lst (st.2.map V.int))]))
        have hh7 := t7.now hc
        refine ⟨_, rfl, .inl ⟨rfl, _, SqL.of hh7.tail.head⟩, _, rfl, _, _, _, rfl, rfl, hh7.tail.head, by rw [List.length_map]; exact small1000 (by omega), ?_⟩
        have t8 := (t7.swap2.put (o' := .lst (st.2.map V.int ++ [.int n])) hc nl).swap2
        have e8 : HK.fstep st n = (({ st.1 with aside := dropA st.1.aside n } : HK).done a.n false a.worth, st.2 ++ [n]) := by
          unfold HK.fstep
          rw [ha2]
          dsimp only
          rw [if_neg h0', if_pos h1']
        have ns := hh7.swap2.mono_put (o' := .lst (st.2.map V.int ++ [.int n]))
        refine ⟨_, _, c6, HK.fstep st n, rfl, est', ?_, ?_⟩
        · rw [e8]
          have : (hs.set k { st.1 with aside := dropA st.1.aside n }).set k (({ st.1 with aside := dropA st.1.aside n } : HK).done a.n false a.worth) = hs.set k (({ st.1 with aside := dropA st.1.aside n } : HK).done a.n false a.worth) := List.set_set ..
          rw [← this]
          exact r6.mono ns
        · rw [e8, List.map_append]
          exact t8
      · have h1' := ndec h1
        have e8 : HK.fstep st n = st := by
          unfold HK.fstep
          rw [ha2]
          dsimp only
          rw [if_neg h0', if_neg h1']
        exact ⟨_, _, c', st, rfl, by rw [← est', e8], r2, t3⟩
  · rintro σ H2 ⟨v3, v4, c', st, rfl, est, r2, t3⟩
    have e1 : st = h.free := by
      rw [est, List.take_of_length_le (by rw [List.length_map]; exact Nat.le_refl _)]
      rfl
    subst e1
    exact ⟨_, rfl, go p c' H2 r2 t3.tail⟩
theorem ok_changed (F : Md K C "changed" "Hearer.changed" s_Hearer_changed) (Bm : Blt mg) (CHearer : CHr K C) (m_Hearer_do : Mf P w K mg base 1 C "do" ["self", "letter"] (spDo K C)) (m_Hearer_freed : Mf P w K mg base 2 C "freed" ["self", "key"] (spFreed K C)) :
    Mf P w K mg base 3 C "changed" ["self", "letter"] (spChanged K C) := by
  refine F.ok sc_Hearer_changed (fun _ _ _ _ _ _ us hl => match us, hl with | [_, _], _ => rfl) len_of fun qual f cdv A0 outer s H vs Q E hr h => ?_
  obtain ⟨_, A, hs, c, v, n, ahead, ch, h, rfl, r, hc, rv, eh, wf, go⟩ := h
  obtain ⟨a, rfl, ha⟩ := rv.chg_inv
  have hk : ch.key < hs.length := (List.getElem?_eq_some_iff.mp eh).1
  have a3 : atI (hs.map fun h => V.int h.upto) (ch.key : Int) = some (V.int h.upto) := at_of (j := ch.key) rfl (by rw [List.getElem?_map, eh]; rfl)
  refine ⟨_, (pss_cons (ps_asg (pv 1) (pg_tup rfl (pgs_cons (pg_name (i := 2) sc_Hearer_changed.nd rfl (Or.inl rfl)) (pgs_cons (pg_name (i := 3) sc_Hearer_changed.nd rfl (Or.inl rfl)) (pgs_cons (pg_name (i := 4) sc_Hearer_changed.nd rfl (Or.inl rfl)) (pgs_cons (pg_name (i := 5) sc_Hearer_changed.nd rfl (Or.inl rfl)) (pgs_cons (pg_name (i := 6) sc_Hearer_changed.nd rfl (Or.inl rfl)) (pgs_cons (pg_name (i := 7) sc_Hearer_changed.nd rfl (Or.inl rfl)) pgs_nil))))))))
      (pss_cons (ps_if (pt_cmpR op_le (pv 3) (pe_ix ix_list (pe_fld (pv 0) rfl) (pv 4) (fun _ _ => rfl)) (nomark _))
        (pss_one (ps_ret (pe_lst pa_nil)))
        pss_nil)
      (pss_cons (ps_if (PW.pt (pw_and (pt_cmpR op_eq (pv 5) pe_str (nomark _)) (pw_and1 (pt_cmpR op_lt (pe_ix ix_list (pe_fld (pv 0) rfl) (pv 4) (fun _ _ => rfl)) (pv 7) (nomark _)))))
        (pss_cons (ps_dput (hu_of hr) (pe_ix ix_list (pe_fld (pv 0) rfl) (pv 4) (fun _ _ => rfl)) (pv 3) (pv 1) rfl)
        (pss_one (ps_ret (pe_lst pa_nil))))
        pss_nil)
      (pss_cons (ps_expr (pm (pv 0) CHearer.cl m_Hearer_do hr (pa_cons (pv 1) pa_nil)))
      (pss_one (ps_ret (pe_op op_cat (pe_lst (pa_cons (pv 3) pa_nil)) (pm (pv 0) CHearer.cl m_Hearer_freed hr (pa_cons (pv 4) pa_nil))))))))), ?_⟩
  refine ⟨_, rfl, a, _, rfl, SqT.of ha, rfl, _, _, rfl, _, _, rfl, _, _, rfl, _, _, rfl, _, _, rfl, _, _, rfl, rfl, ?_⟩
  refine ⟨_, rfl, _, rfl, _, C, _, _, _, rfl, r.at_p hc, CHearer.cl, CHearer.n3, hF3 A, _, rfl, _, _, _, _, rfl, rfl, SqL.of (r.at3 hc), a3, _, _, rfl, rfl, _, rfl, ite2 (fun h0 => ?_) fun h0 => ?_⟩
  · -- known farther
    refine ⟨(by show 0 ≤ sizeLine; decide), fun l hl => ?_⟩
    have e : h.chg n ch ahead = (h, []) := by
      unfold HK.chg
      rw [if_pos (of_decide_eq_true h0)]
    rw [e] at go
    have t := (Tr.refl H c).new (o := .lst []) hl nl
    exact go l c _ (by rw [set_back eh]; exact r.mono t.mono) t
  have h0' := ndec h0
  have doit : (¬ (ch.set = false ∧ h.upto < (ahead : Int))) → h.chg n ch ahead = (((h.done n ch.set ch.worth).free).1, (n : Int) :: ((h.done n ch.set ch.worth).free).2) := fun q => by
    unfold HK.chg
    rw [if_neg h0', if_neg q]
  -- what is done behind the two tests
  have rest : (¬ (ch.set = false ∧ h.upto < (ahead : Int))) → ∀ (c4 : Lg) (H4 : Hp), HR K C A (hs.set ch.key (h.done n ch.set ch.worth)) H4 c4 → Tr H c H4 c4 → ∀ l, H4 l = none → ∀ (r5 : Addr) (c5 : Lg) (H5 : Hp),
      HR K C A (hs.set ch.key (h.done n ch.set ch.worth).free.1) H5 c5 → Tr (upd H4 l (.lst [.int n])) ((l, .lst [.int n]) :: c4) H5 ((r5, .lst ((h.done n ch.set ch.worth).free.2.map V.int)) :: (l, .lst [.int n]) :: c5) → ∀ q, H5 q = none →
      Q (.ref q) (upd H5 q (.lst ([.int n] ++ (h.done n ch.set ch.worth).free.2.map V.int))) := fun hq c4 H4 r4 t4 l hl r5 c5 H5 r6 t6 q hq2 => by
    have t7 := (t4.new (o := .lst [.int n]) hl nl).trans t6
    have t8 := t7.new (o := .lst ([.int n] ++ (h.done n ch.set ch.worth).free.2.map V.int)) hq2 nl
    rw [doit hq] at go
    refine go q c5 _ (r6.mono (Mono.new hq2)) ?_
    show Tr H c _ ((q, .lst ([.int n] ++ (h.done n ch.set ch.worth).free.2.map V.int)) :: c5)
    exact t8.sub (List.Sublist.cons_cons _ (List.sublist_append_right [_, _] c5))
  refine ⟨_, rfl, rfl, _, rfl, ?_⟩
  rw [wd_add]
  have wf' : Wf (h.done n ch.set ch.worth) := ⟨wf.nd, wf.few⟩
  have e4 : (hs.set ch.key (h.done n ch.set ch.worth))[ch.key]? = some (h.done n ch.set ch.worth) := List.getElem?_set_self hk
  have tail : (¬ (ch.set = false ∧ h.upto < (ahead : Int))) → ∀ (c4 : Lg) (H4 : Hp), HR K C A (hs.set ch.key (h.done n ch.set ch.worth)) H4 c4 → Tr H c H4 c4 → ∀ l, H4 l = none →
      spFreed K C [.ref A.p, .int ch.key] (upd H4 l (.lst [.int n])) (fun y H5 => rCat (.ref l) y H5 Q) E0 := fun hq c4 H4 r4 t4 l hl => by
    have t5 := (Tr.refl H4 c4).new (o := .lst [.int n]) hl nl
    have hc4 := t4.now hc
    refine ⟨rfl, A, _, c4, ch.key, _, rfl, r4.mono t5.mono, (t5.now hc4).tail, e4, wf', fun r5 c5 H5 r6 t6 => ?_⟩
    rw [List.set_set] at r6
    have t7 : Tr (upd H4 l (.lst [.int n])) ((l, .lst [.int n]) :: c4) H5 ((r5, .lst ((h.done n ch.set ch.worth).free.2.map V.int)) :: (l, .lst [.int n]) :: c5) := (t6.left (D := [(l, .lst [.int n])])).swap2
    have hh7 := t7.now (t5.now hc4)
    refine ⟨l, r5, _, _, rfl, rfl, hh7.tail.head, hh7.head, ?_, fun q hq2 => rest hq c4 H4 r4 t4 l hl r5 c5 H5 r6 t7 q hq2⟩
    have : (h.done n ch.set ch.worth).free.2.length ≤ 122 := by
      refine Nat.le_trans fold_len ?_
      rw [(srt_perm _).length_eq, asN, List.length_map]
      exact Nat.le_trans (Nat.add_le_add (Nat.le_refl _) (Nat.le_of_lt wf'.few)) (by simp)
    rw [List.length_map]
    exact Nat.le_trans (show 1 + _ ≤ 2000 by omega) (by decide)
  cases hset : ch.set with
  | true =>
    have hq : ¬ (ch.set = false ∧ h.upto < (ahead : Int)) := fun q => by
      rw [hset] at q
      cases q.1
    refine ⟨_, rfl, A.p, _, _, rfl, r.at_p hc, hFno, _, rfl, rfl, A, hs, c, .ref a, n, ahead, ch, h, rfl, r, hc, rv, eh, fun c4 H4 r4 t4 => ?_⟩
    refine ⟨_, rfl, (by show 1 ≤ sizeLine; decide), fun l hl => ?_⟩
    have hc4 := t4.now hc
    exact ⟨_, rfl, A.p, _, _, rfl, by rw [upd_ne (ne_of_none (r4.at_p hc4) hl)]; exact r4.at_p hc4, hFno, _, rfl, tail hq c4 H4 r4 t4 l hl⟩
  | false =>
    refine ⟨_, rfl, _, C, _, _, _, rfl, r.at_p hc, CHearer.cl, CHearer.n3, hF3 A, _, rfl, _, _, _, _, rfl, rfl, SqL.of (r.at3 hc), a3, _, rfl, _, _, rfl, rfl, _, rfl, ite2 (fun h1 => ?_) fun h1 => ?_⟩
    · -- put aside
      have h1' := of_decide_eq_true h1
      obtain ⟨d, kvs, ed, hd, ok⟩ := r.dict hc eh
      have ad : atI (A.ds.map V.ref) (ch.key : Int) = some (.ref d) := at_of (j := ch.key) rfl (by rw [List.getElem?_map, ed]; rfl)
      have el : asL ch.key ⟨n, ch.worth, ahead⟩ = .change n ch ahead := by
        unfold asL
        cases ch
        cases hset
        rfl
      obtain ⟨c4, r4, t4⟩ := r.set4 hc eh ed (ok.put (a := ⟨n, ch.worth, ahead⟩) (v := .ref a) (by rw [el]; exact rv))
      have hlen : kvs.length < sizeLine := by
        rw [ok.len]
        exact small1000 (by have := wf.few; omega)
      refine ⟨_, rfl, _, rfl, _, C, _, _, _, rfl, r.at_p hc, CHearer.cl, CHearer.n4, hF4 A, _, rfl, _, _, _, _, rfl, rfl, SqL.of (r.at4 hc), ad, _, rfl, d, _, rfl, DPut.k (k := Sum.inl (n : Int)) hd hlen, ?_⟩
      refine ⟨(by show 0 ≤ sizeLine; decide), fun l hl => ?_⟩
      have e : h.chg n ch ahead = ({ h with aside := putA h.aside ⟨n, ch.worth, ahead⟩ }, []) := by
        unfold HK.chg
        rw [if_neg h0', if_pos ⟨hset, h1'⟩]
      rw [e] at go
      exact go l c4 _ (r4.mono (Mono.new hl)) (t4.new hl nl)
    · have h1' := ndec h1
      have hq : ¬ (ch.set = false ∧ h.upto < (ahead : Int)) := fun q => h1' q.2
      refine ⟨_, rfl, A.p, _, _, rfl, r.at_p hc, hFno, _, rfl, rfl, A, hs, c, .ref a, n, ahead, ch, h, rfl, r, hc, rv, eh, fun c4 H4 r4 t4 => ?_⟩
      refine ⟨_, rfl, (by show 1 ≤ sizeLine; decide), fun l hl => ?_⟩
      have hc4 := t4.now hc
      exact ⟨_, rfl, A.p, _, _, rfl, by rw [upd_ne (ne_of_none (r4.at_p hc4) hl)]; exact r4.at_p hc4, hFno, _, rfl, tail hq c4 H4 r4 t4 l hl⟩
end
end Cu

namespace Cu
open PySem PySem.Spec PyProof.Rows L2
section
variable {P : Program} {w : World} {K : PySem.W.Frag} {mg : Str → Option Value} {base : Heap} {C : Addr}
theorem ok_copied (F : Md K C "copied" "Hearer.copied" s_Hearer_copied) (Bm : Blt mg) (CHearer : CHr K C) (m_Hearer_freed : Mf P w K mg base 2 C "freed" ["self", "key"] (spFreed K C)) : Mf P w K mg base 3 C "copied" ["self", "letter"] (spCopied K C) := by
  refine F.ok sc_Hearer_copied (fun _ _ _ _ _ _ us hl => match us, hl with | [_, _], _ => rfl) len_of fun qual f cdv A0 outer s H vs Q E hr h => ?_
  obtain ⟨_, A, hs, c, v, n, b, rows, rfl, r, hc, rv, h8, wf, hb, go⟩ := h
  obtain ⟨a, t, xs, rfl, ha, ht, hxs, hrow⟩ := rv.part_inv
  refine ⟨_, (pss_cons (ps_asg (pv 1) (pg_tup rfl (pgs_cons (pg_name (i := 2) sc_Hearer_copied.nd rfl (Or.inl rfl)) (pgs_cons (pg_name (i := 3) sc_Hearer_copied.nd rfl (Or.inl rfl)) (pgs_cons (pg_name (i := 4) sc_Hearer_copied.nd rfl (Or.inl rfl)) (pgs_cons (pg_name (i := 5) sc_Hearer_copied.nd rfl (Or.inl rfl)) pgs_nil))))))
      (pss_cons (ps_set (i := 6) sc_Hearer_copied.nd rfl (Or.inl rfl) (pe_lst pa_nil))
      (pss_cons (ps_for PassesOwn.never rfl (pi_enumT rfl Bm.enumerate (pa_cons (pv 5) pa_nil)) (pg_tup rfl (pgs_cons (pg_name (i := 7) sc_Hearer_copied.nd rfl (Or.inl rfl)) (pgs_cons (pg_tup rfl (pgs_cons (pg_name (i := 8) sc_Hearer_copied.nd rfl (Or.inl rfl)) (pgs_cons (pg_name (i := 9) sc_Hearer_copied.nd rfl (Or.inl rfl)) pgs_nil))) pgs_nil)))
        (pss_cons (ps_set (i := 10) sc_Hearer_copied.nd rfl (Or.inl rfl) (pe_op op_add (pv 4) (pv 7)))
        (pss_one (ps_if (pt_cmpR op_gt (pv 3) (pe_ix ix_list (pe_fld (pv 0) rfl) (pv 10) (fun _ _ => rfl)) (nomark _))
          (pss_cons (ps_asg (pv 8) (pg_sub (pe_fld (pv 0) rfl) (pv 10) set_list))
          (pss_cons (ps_asg (pv 9) (pg_sub (pe_fld (pv 0) rfl) (pv 10) set_list))
          (pss_cons (ps_asg (pv 3) (pg_sub (pe_fld (pv 0) rfl) (pv 10) set_list))
          (pss_one (ps_expr (pe_bm PySem.F.plainAttrs_list PySem.F.slot_list_extend PySem.F.type_list_extend mt_extend (pv 6) (pa_cons (pm (pv 0) CHearer.cl m_Hearer_freed hr (pa_cons (pv 10) pa_nil)) pa_nil)))))))
          pss_nil))))
      (pss_one (ps_ret (pv 6)))))), ?_⟩
  refine ⟨_, rfl, a, _, rfl, SqT.of ha, rfl, _, _, rfl, _, _, rfl, _, _, rfl, _, _, rfl, rfl, ?_⟩
  refine ⟨(by show 0 ≤ sizeLine; decide), fun p hp => ?_⟩
  have t1 := (Tr.refl H c).new (o := .lst []) hp nl
  obtain ⟨a1, a2⟩ := prt_low (hs := hs) (l := .part n b rows) (b := b) fun k g hk => by
    simp only [hearK]
    rw [if_neg (by omega)]
  obtain ⟨b1, b2⟩ := prt_high (hs := hs) (l := .part n b rows) (e := b + rows.length) fun k g hk => by
    simp only [hearK]
    rw [if_pos (by omega), List.getElem?_eq_none (by omega)]
  refine ⟨_, rfl, t, xs, rfl, SqT.of (t1.mono _ _ ht trivial), for_it (walk_enumT (xs := xs)) (fun i σ H2 => ∃ (v7 v8 v9 v10 : Option V) (c' : Lg), σ = [some (.ref A.p), some (.ref a), some (.str "part"), some (.int n), some (.int b), some (.ref t), some (.ref p), v7, v8, v9, v10] ∧
      HR K C A (prt hs (.part n b rows) (b + i)) H2 c' ∧ Tr H c H2 ((p, .lst ((fnd hs (.part n b rows) (b + i)).map V.int)) :: c'))
    ⟨none, none, none, none, c, rfl, by rw [Nat.add_zero, a1]; exact r.mono t1.mono, by rw [Nat.add_zero, a2]; exact t1⟩ (fun i σ H2 _ ⟨_, _, _, _, _, _, _, t2⟩ => SqT.of (t2.mono _ _ ht trivial)) ?_ ?_⟩
  · rintro i x σ H2 H3 hi ⟨v7, v8, v9, v10, c', rfl, r2, t2⟩ ⟨T, x1, y1, rfl, hT, rfl, e1, e2⟩
    cases e1
    have hi' : i < rows.length := by omega
    obtain ⟨rw', er⟩ : ∃ r, rows[i]? = some r := ⟨rows[i], List.getElem?_eq_getElem hi'⟩
    obtain ⟨q, eq, hq⟩ := hrow i rw' er
    have e2 : xs[i]? = some y1 := e2
    rw [eq] at e2
    cases e2
    have t3 := t2.old (o := .tup [.int (i : Nat), .ref q]) hT
    have r3 := r2.mono (Mono.new (o := .tup [.int (i : Nat), .ref q]) hT)
    have hbi : b + i < hs.length := by omega
    obtain ⟨g, eg⟩ : ∃ g, hs[b + i]? = some g := ⟨hs[b + i], List.getElem?_eq_getElem hbi⟩
    have eg2 : (prt hs (.part n b rows) (b + i))[b + i]? = some g := by
      rw [prt_get eg, if_neg (Nat.lt_irrefl _)]
    have eK : hearK (b + i) g (.part n b rows) = g.row n rw'.1 rw'.2 := by
      simp only [hearK]
      rw [if_pos (Nat.le_add_right _ _), Nat.add_sub_cancel_left, er]
    have eP : prt hs (.part n b rows) (b + (i + 1)) = (prt hs (.part n b rows) (b + i)).set (b + i) (g.row n rw'.1 rw'.2).1 := by
      rw [← Nat.add_assoc, prt_succ eg, eK]
    have eF : fnd hs (.part n b rows) (b + (i + 1)) = fnd hs (.part n b rows) (b + i) ++ (g.row n rw'.1 rw'.2).2 := by
      rw [← Nat.add_assoc, fnd_succ eg, eK]
    have ez : ((b : Int) + (i : Nat)) = ((b + i : Nat) : Int) := by omega
    have hh := t3.now hc
    have hc3 := hh.tail
    have plen := prt_len hs (.part n b rows) (b + i)
    have a3 : atI ((prt hs (.part n b rows) (b + i)).map fun h => V.int h.upto) ((b : Int) + (i : Nat)) = some (V.int g.upto) := at_of (j := b + i) ez (by rw [List.getElem?_map, eg2]; rfl)
    refine ⟨T, _, rfl, SqT.of upd_same, rfl, _, _, rfl, _, _, rfl, q, _, rfl, SqT.of (t3.mono _ _ hq trivial), rfl, _, _, rfl, _, _, rfl, rfl, rfl, ?_⟩
    refine ⟨_, rfl, _, rfl, _, _, rfl, rfl, ?_⟩
    refine ⟨_, rfl, _, rfl, _, C, _, _, _, rfl, r3.at_p hc3, CHearer.cl, CHearer.n3, hF3 A, _, rfl, _, _, _, _, rfl, rfl, SqL.of (r3.at3 hc3), a3, _, _, rfl, rfl, _, rfl, ite2 (fun h0 => ?_) fun h0 => ?_⟩
    · have h0' := of_decide_eq_true h0
      have eRow : g.row n rw'.1 rw'.2 = ({ g with worth := rw'.1, since := rw'.2, upto := n } : HK).free := by
        unfold HK.row
        rw [if_pos h0']
      have ix1 : ∀ {α : Type} (gs : List HK) (f : HK → α), gs.length = hs.length → ixN (gs.map f).length ((b : Int) + (i : Nat)) = some (b + i) := fun gs f hl => ixN_of ez (by rw [List.length_map, hl]; exact hbi)
      refine ⟨_, rfl, _, rfl, _, C, _, _, _, rfl, r3.at_p hc3, CHearer.cl, CHearer.n1, hF1 A, _, rfl, _, _, _, _, rfl, rfl, r3.at1 hc3, ix1 _ _ plen, ?_⟩
      obtain ⟨c4, r4, t4⟩ := r3.set1 hc3 eg2 rw'.1
      have hc4 := t4.now hc3
      have e4 : ((prt hs (.part n b rows) (b + i)).set (b + i) { g with worth := rw'.1 })[b + i]? = some { g with worth := rw'.1 } := List.getElem?_set_self (by omega)
      refine ⟨_, rfl, _, rfl, _, C, _, _, _, rfl, r4.at_p hc4, CHearer.cl, CHearer.n2, hF2 A, _, rfl, _, _, _, _, rfl, rfl, r4.at2 hc4, ix1 _ _ (by rw [List.length_set]; exact plen), ?_⟩
      obtain ⟨c5, r5, t5⟩ := r4.set2 hc4 e4 rw'.2
      rw [List.set_set] at r5
      have hc5 := t5.now hc4
      have e5 : ((prt hs (.part n b rows) (b + i)).set (b + i) { g with worth := rw'.1, since := rw'.2 })[b + i]? = some { g with worth := rw'.1, since := rw'.2 } := List.getElem?_set_self (by omega)
      refine ⟨_, rfl, _, rfl, _, C, _, _, _, rfl, r5.at_p hc5, CHearer.cl, CHearer.n3, hF3 A, _, rfl, _, _, _, _, rfl, rfl, r5.at3 hc5, ix1 _ _ (by rw [List.length_set]; exact plen), ?_⟩
      obtain ⟨c6, r6, t6⟩ := r5.set3 hc5 e5 n
      rw [List.set_set] at r6
      have hc6 := t6.now hc5
      have e6 : ((prt hs (.part n b rows) (b + i)).set (b + i) { g with worth := rw'.1, since := rw'.2, upto := n })[b + i]? = some { g with worth := rw'.1, since := rw'.2, upto := n } := List.getElem?_set_self (by omega)
      have t7 := t3.trans (((t4.trans t5).trans t6).left (D := [(p, .lst ((fnd hs (.part n b rows) (b + i)).map V.int))]))
      have hh7 := t7.now hc
      have wfg : Wf ({ g with worth := rw'.1, since := rw'.2, upto := n } : HK) := ⟨(wf g (List.mem_of_getElem? eg)).nd, (wf g (List.mem_of_getElem? eg)).few⟩
      refine ⟨_, rfl, .inl ⟨rfl, _, SqL.of hh7.head⟩, _, rfl, A.p, _, _, rfl, r6.at_p hc6, hFno, _, rfl, rfl, A, _, c6, b + i, _, congrArg (fun z => [V.ref A.p, V.int z]) ez, r6, hc6, e6, wfg, fun r8 c8 H8 q8 t8 => ?_⟩
      rw [List.set_set] at q8
      have t9 := (t7.trans (t8.left (D := [(p, .lst ((fnd hs (.part n b rows) (b + i)).map V.int))])))
      have hh9 := t9.now hc
      refine ⟨p, r8, _, _, rfl, rfl, hh9.head, hh9.tail.head, ?_, ?_⟩
      · have := fnd_len (l := .part n b rows) (m := b + i) wf h8
        have := free_len wfg
        rw [List.length_map, List.length_map]
        exact Nat.le_trans (show _ ≤ 2000 by omega) (by decide)
      · have t10 := t9.put (o' := .lst ((fnd hs (.part n b rows) (b + i)).map V.int ++ ({ g with worth := rw'.1, since := rw'.2, upto := n } : HK).free.2.map V.int)) hc nl
        refine ⟨_, _, _, _, c8, rfl, ?_, ?_⟩
        · rw [eP, eRow]
          exact q8.mono hh9.mono_put
        · rw [eF, eRow, List.map_append]
          exact t10.sub (List.Sublist.cons_cons _ (List.sublist_cons_self _ _))
    · have h0' := ndec h0
      have eRow : g.row n rw'.1 rw'.2 = (g, []) := by
        unfold HK.row
        rw [if_neg h0']
      refine ⟨_, _, _, _, c', rfl, ?_, ?_⟩
      · rw [eP, eRow, set_back eg2]
        exact r3
      · rw [eF, eRow, List.append_nil]
        exact t3
  · rintro σ H2 ⟨v7, v8, v9, v10, c', rfl, r2, t2⟩
    rw [hxs, b1] at r2
    rw [hxs, b2] at t2
    exact ⟨_, rfl, go p c' H2 r2 t2⟩
theorem ok_hear (F : Md K C "hear" "Hearer.hear" s_Hearer_hear) (Bm : Blt mg) (CHearer : CHr K C) (m_Hearer_changed : Mf P w K mg base 3 C "changed" ["self", "letter"] (spChanged K C)) (m_Hearer_copied : Mf P w K mg base 3 C "copied" ["self", "letter"] (spCopied K C)) :
    Mf P w K mg base 4 C "hear" ["self", "letter"] (spHear K C) := by
  refine F.ok sc_Hearer_hear (fun _ _ _ _ _ _ us hl => match us, hl with | [_, _], _ => rfl) len_of fun qual f cdv A0 outer s H vs Q E hr h => ?_
  obtain ⟨_, A, hs, c, v, l, rfl, r, hc, rv, h8, wf, hl, go⟩ := h
  refine ⟨_, (pss_cons (ps_if (pt_cmpR op_eq (pe_ix ix_tup (pv 1) pe_int (fun _ _ => rfl)) pe_str (nomark _))
        (pss_one (ps_ret (pm (pv 0) CHearer.cl m_Hearer_changed hr (pa_cons (pv 1) pa_nil))))
        pss_nil)
      (pss_cons (ps_if (pt_cmpR op_eq (pe_ix ix_tup (pv 1) pe_int (fun _ _ => rfl)) pe_str (nomark _))
        (pss_one (ps_ret (pm (pv 0) CHearer.cl m_Hearer_copied hr (pa_cons (pv 1) pa_nil))))
        pss_nil)
      (pss_cons (ps_for PassesOwn.never rfl (pi_range1 rfl Bm.range (pa_cons (pe_callB call_len_seq rfl Bm.len (by decide +kernel) (pa_cons (pe_fld (pv 0) rfl) pa_nil)) pa_nil)) (pg_name (i := 2) sc_Hearer_hear.nd rfl (Or.inl rfl))
        (pss_one (ps_if (pt_chain op_le op_lt (pe_ix ix_tup (pe_ix ix_tup (pv 1) pe_int (fun _ _ => rfl)) (pv 2) (fun _ _ => rfl)) (pe_ix ix_list (pe_fld (pv 0) rfl) (pv 2) (fun _ _ => rfl)) (pe_ix ix_tup (pv 1) pe_int (fun _ _ => rfl)))
          (pss_one (ps_asg (pe_ix ix_tup (pv 1) pe_int (fun _ _ => rfl)) (pg_sub (pe_fld (pv 0) rfl) (pv 2) set_list)))
          pss_nil)))
      (pss_one (ps_ret (pe_lst pa_nil)))))), ?_⟩
  cases l with
  | change n ch ahead =>
    obtain ⟨a, rfl, ha⟩ := rv.chg_inv
    obtain ⟨g, eg⟩ : ∃ g, hs[ch.key]? = some g := ⟨hs[ch.key], List.getElem?_eq_getElem hl⟩
    obtain ⟨e1, e2⟩ := hear_change (n := n) (ahead := ahead) eg
    rw [e1, e2] at go
    exact ⟨_, rfl, a, _, _, _, rfl, rfl, SqT.of ha, rfl, rfl, _, rfl, iteP (by decide +kernel) ⟨_, rfl, A.p, _, _, rfl, r.at_p hc, hFno, _, rfl, rfl, A, hs, c, .ref a, n, ahead, ch, g, rfl, r, hc, rv, eg, wf g (List.mem_of_getElem? eg), go⟩⟩
  | part n b rows =>
    obtain ⟨a, t, xs, rfl, ha, _⟩ := id rv.part_inv
    exact ⟨_, rfl, a, _, _, _, rfl, rfl, SqT.of ha, rfl, rfl, _, rfl, iteM (by decide +kernel) ⟨_, rfl, a, _, _, _, rfl, rfl, SqT.of ha, rfl, rfl, _, rfl, iteP (by decide +kernel) ⟨_, rfl, A.p, _, _, rfl, r.at_p hc, hFno, _, rfl, rfl, A, hs, c, .ref a, n, b, rows, rfl, r, hc, rv, h8, wf, hl, go⟩⟩⟩
  | beat n lasts =>
    obtain ⟨a, t, rfl, ha, ht⟩ := rv.beat_inv
    have hl : lasts.length = hs.length := hl
    refine ⟨_, rfl, a, _, _, _, rfl, rfl, SqT.of ha, rfl, rfl, _, rfl, iteM (by decide +kernel) ⟨_, rfl, a, _, _, _, rfl, rfl, SqT.of ha, rfl, rfl, _, rfl, iteM (by decide +kernel) ?_⟩⟩
    refine ⟨_, rfl, _, C, _, _, _, rfl, r.at_p hc, CHearer.cl, CHearer.n3, hF3 A, _, _, rfl, .inl (SqL.of (r.at3 hc)), _, rfl, by rw [List.length_map]; omega, by rw [List.length_map]; omega, ?_⟩
    refine for_range (lo := 0) (n := ((hs.map fun h => V.int h.upto).length : Int).toNat) (fun i σ H2 => ∃ (v2 : Option V) (c' : Lg), σ = [some (.ref A.p), some (.ref a), v2] ∧ HR K C A (prt hs (.beat n lasts) i) H2 c' ∧ Tr H c H2 c' ∧ fnd hs (.beat n lasts) i = [])
      ⟨none, c, rfl, ?_, Tr.refl H c, rfl⟩ ?_ ?_
    · rw [(prt_low (hs := hs) (l := .beat n lasts) (b := 0) fun k g hk => absurd hk (Nat.not_lt_zero _)).1]
      exact r
    · rintro i σ H2 hi ⟨v2, c', rfl, r2, t2, f2⟩
      rw [List.length_map] at hi
      have hi' : i < hs.length := by omega
      obtain ⟨g, eg⟩ : ∃ g, hs[i]? = some g := ⟨hs[i], List.getElem?_eq_getElem hi'⟩
      obtain ⟨la, el⟩ : ∃ la, lasts[i]? = some la := ⟨lasts[i], List.getElem?_eq_getElem (by omega)⟩
      have eg2 : (prt hs (.beat n lasts) i)[i]? = some g := by rw [prt_get eg, if_neg (Nat.lt_irrefl _)]
      have eK : hearK i g (.beat n lasts) = (g.beat n la, []) := by
        simp only [hearK]
        rw [el]
      have eP : prt hs (.beat n lasts) (i + 1) = (prt hs (.beat n lasts) i).set i (g.beat n la) := by rw [prt_succ eg, eK]
      have eF : fnd hs (.beat n lasts) (i + 1) = [] := by rw [fnd_succ eg, eK, f2]; rfl
      have ez : ((0 : Int) + i) = (i : Int) := by omega
      have hc2 := t2.now hc
      have plen := prt_len hs (.beat n lasts) i
      have a3 : atI ((prt hs (.beat n lasts) i).map fun h => V.int h.upto) ((0 : Int) + i) = some (V.int g.upto) := at_of (j := i) ez (by rw [List.getElem?_map, eg2]; rfl)
      have a4 : atI (lasts.map fun k : Nat => V.int k) ((0 : Int) + i) = some (V.int la) := at_of (j := i) ez (by rw [List.getElem?_map, el]; rfl)
      have ha2 := t2.mono _ _ ha trivial
      have same : (¬ ((la : Int) ≤ g.upto ∧ g.upto < (n : Int))) → ∃ (v2' : Option V) (c'' : Lg), ([some (V.ref A.p), some (.ref a), some (.int (0 + i))] : L2.St) = [some (.ref A.p), some (.ref a), v2'] ∧ HR K C A (prt hs (.beat n lasts) (i + 1)) H2 c'' ∧ Tr H c H2 c'' ∧ fnd hs (.beat n lasts) (i + 1) = [] := fun q => by
        have eB : g.beat n la = g := by
          unfold HK.beat
          rw [if_neg q]
        refine ⟨_, c', rfl, ?_, t2, eF⟩
        rw [eP, eB, set_back eg2]
        exact r2
      refine ⟨_, rfl, a, _, _, _, rfl, rfl, SqT.of ha2, rfl, _, rfl, t, _, _, _, rfl, rfl, SqT.of (t2.mono _ _ ht trivial), a4, _, rfl, _, C, _, _, _, rfl, r2.at_p hc2, CHearer.cl, CHearer.n3, hF3 A, _, rfl, _, _, _, _, rfl, rfl, SqL.of (r2.at3 hc2), a3, _, _, rfl, rfl, _, rfl, ite2 (fun h0 => ?_) fun h0 => ?_⟩
      · refine ⟨_, rfl, a, _, _, _, rfl, rfl, SqT.of ha2, rfl, _, _, rfl, rfl, _, rfl, ite2 (fun h1 => ?_) fun h1 => ?_⟩
        · refine ⟨_, rfl, a, _, _, _, rfl, rfl, SqT.of ha2, rfl, _, rfl, _, C, _, _, _, rfl, r2.at_p hc2, CHearer.cl, CHearer.n3, hF3 A, _, rfl, _, _, _, _, rfl, rfl, r2.at3 hc2, ixN_of ez (by rw [List.length_map, plen]; exact hi'), ?_⟩
          obtain ⟨c4, r4, t4⟩ := r2.set3 hc2 eg2 n
          have eB : g.beat n la = { g with upto := n } := by
            unfold HK.beat
            rw [if_pos ⟨of_decide_eq_true h0, of_decide_eq_true h1⟩]
          refine ⟨_, c4, rfl, ?_, t2.trans t4, eF⟩
          rw [eP, eB]
          exact r4
        · exact same fun q => ndec h1 q.2
      · exact ⟨_, rfl, iteM (by decide) (same fun q => ndec h0 q.1)⟩
    · rintro σ H2 ⟨v2, c', rfl, r2, t2, f2⟩
      refine ⟨(by show 0 ≤ sizeLine; decide), fun l hl2 => ?_⟩
      have e1 : prt hs (.beat n lasts) ((hs.map fun h => V.int h.upto).length : Int).toNat = hear hs (.beat n lasts) := prt_all (by rw [List.length_map]; omega)
      have e2 : fnd hs (.beat n lasts) ((hs.map fun h => V.int h.upto).length : Int).toNat = heard hs (.beat n lasts) := fnd_all (by rw [List.length_map]; omega)
      rw [e1] at r2
      rw [e2] at f2
      rw [f2] at go
      exact go l c' _ (r2.mono (Mono.new hl2)) (t2.new hl2 nl)
end
end Cu

namespace Cu
open PySem PySem.Spec PyProof.Rows L2
/-! what a hearer holds is right -/
theorem lof_le (cs : List Ch) (k : Nat) : lof cs k ≤ cs.length := by
  induction cs using snoc_ind with
  | h0 => exact Nat.le_refl _
  | h1 cs c ih =>
    rw [lof_snoc, List.length_append, List.length_singleton]
    split <;> omega
theorem take_le_len {cs : List Ch} {j : Nat} : (cs.take j).length ≤ j := by
  rw [List.length_take]
  exact Nat.min_le_left _ _
theorem lof_take_le (cs : List Ch) (j k : Nat) : lof (cs.take j) k ≤ j := Nat.le_trans (lof_le _ _) take_le_len
/-- a step of a story -/
theorem lof_step {cs : List Ch} {j k : Nat} : lof (cs.take (j + 1)) k = lof (cs.take j) k ∨ (lof (cs.take (j + 1)) k = j + 1 ∧ ∃ c, cs[j]? = some c ∧ c.key = k) := by
  cases e : cs[j]? with
  | none =>
    left
    have hj := List.getElem?_eq_none_iff.mp e
    rw [List.take_of_length_le hj, List.take_of_length_le (Nat.le_succ_of_le hj)]
  | some c =>
    have hj := (List.getElem?_eq_some_iff.mp e).1
    rw [take_snoc e, lof_snoc]
    by_cases hk : c.key = k
    · right
      rw [if_pos hk, List.length_take, Nat.min_eq_left (Nat.le_of_lt hj)]
      exact ⟨rfl, c, rfl, hk⟩
    · left
      rw [if_neg hk]
theorem lof_mono {cs : List Ch} {k i j : Nat} (h : i ≤ j) : lof (cs.take i) k ≤ lof (cs.take j) k := by
  induction j with
  | zero =>
    have : i = 0 := by omega
    subst this
    exact Nat.le_refl _
  | succ j ih =>
    by_cases e : i = j + 1
    · subst e
      exact Nat.le_refl _
    · have := ih (by omega)
      rcases lof_step (cs := cs) (j := j) (k := k) with q | ⟨q, _⟩
      · omega
      · have := lof_take_le cs j k
        omega
theorem lof_ge {cs : List Ch} {k m j : Nat} {c : Ch} (e : cs[m]? = some c) (hk : c.key = k) (h : m < j) : m + 1 ≤ lof (cs.take j) k := by
  have h1 : lof (cs.take (m + 1)) k = m + 1 := by
    have hm := (List.getElem?_eq_some_iff.mp e).1
    rw [take_snoc e, lof_snoc, if_pos hk, List.length_take, Nat.min_eq_left (Nat.le_of_lt hm)]
  have := lof_mono (cs := cs) (k := k) (show m + 1 ≤ j by omega)
  omega
/-- nothing happens to a key behind its last change -/
theorem wof_const {cs : List Ch} {k i j : Nat} (h : i ≤ j) (hl : lof (cs.take j) k ≤ i) : wof (cs.take j) k = wof (cs.take i) k ∧ lof (cs.take j) k = lof (cs.take i) k := by
  induction j with
  | zero =>
    have : i = 0 := by omega
    subst this
    exact ⟨rfl, rfl⟩
  | succ j ih =>
    by_cases e : i = j + 1
    · subst e
      exact ⟨rfl, rfl⟩
    · have hij : i ≤ j := by omega
      cases ec : cs[j]? with
      | none =>
        have hj := List.getElem?_eq_none_iff.mp ec
        have e1 : cs.take (j + 1) = cs.take j := by rw [List.take_of_length_le hj, List.take_of_length_le (Nat.le_succ_of_le hj)]
        rw [e1] at hl ⊢
        exact ih hij hl
      | some c =>
        have hk : ¬ c.key = k := fun q => by
          have := lof_ge (j := j + 1) ec q (Nat.lt_succ_self _)
          omega
        rw [take_snoc ec, lof_snoc, if_neg hk] at hl
        rw [take_snoc ec, wof_snoc, lof_snoc, if_neg hk, wst, if_neg hk]
        exact ih hij hl
/-- the change of a key -/
theorem wof_at {cs : List Ch} {m : Nat} {c : Ch} (e : cs[m]? = some c) : wof (cs.take (m + 1)) c.key = (if c.set then 0 else wof (cs.take m) c.key) + c.worth ∧ lof (cs.take (m + 1)) c.key = m + 1 := by
  have hm := (List.getElem?_eq_some_iff.mp e).1
  rw [take_snoc e, wof_snoc, lof_snoc, if_pos rfl, wst, if_pos rfl, List.length_take, Nat.min_eq_left (Nat.le_of_lt hm)]
  exact ⟨rfl, rfl⟩
/-- put aside is a true adding change -/
def AsIn (cs : List Ch) (k : Nat) (a : As) : Prop := ∃ m, a.n = m + 1 ∧ cs[m]? = some ⟨k, false, a.worth⟩ ∧ a.ahead = lof (cs.take m) k
theorem AsIn.lt {cs : List Ch} {k : Nat} {a : As} (h : AsIn cs k a) : a.ahead < a.n := by
  obtain ⟨m, e1, e2, e3⟩ := h
  have := lof_take_le cs m k
  omega
theorem AsIn.le {cs : List Ch} {k : Nat} {a : As} (h : AsIn cs k a) : a.n ≤ cs.length ∧ 0 < a.n := by
  obtain ⟨m, e1, e2, e3⟩ := h
  have := (List.getElem?_eq_some_iff.mp e2).1
  omega
/-- of two changes of a key the later one is behind the other one -/
theorem AsIn.after {cs : List Ch} {k : Nat} {a b : As} (ha : AsIn cs k a) (hb : AsIn cs k b) (h : a.n < b.n) : a.n ≤ b.ahead := by
  obtain ⟨m, e1, e2, e3⟩ := ha
  obtain ⟨m', f1, f2, f3⟩ := hb
  have := lof_ge (k := k) (j := m') e2 rfl (by omega)
  omega
/-- what is held is right -/
structure KR (cs : List Ch) (k : Nat) (h : HK) : Prop where
  lo : -1 ≤ h.upto
  hi : h.upto ≤ cs.length
  ok : ∀ u : Nat, h.upto = u → h.worth = wof (cs.take u) k ∧ h.since = lof (cs.take u) k
  as : ∀ a ∈ h.aside, AsIn cs k a
  nd : (asN h.aside).Nodup
structure KI (cs : List Ch) (k : Nat) (h : HK) : Prop extends KR cs k h where
  ahead : ∀ a ∈ h.aside, h.upto < (a.ahead : Int)
theorem KI.ini (cs : List Ch) (k : Nat) : KI cs k HK.ini := ⟨⟨Int.le_refl _, by show (-1 : Int) ≤ _; omega, fun u e => by
  have e : (-1 : Int) = u := e
  omega, fun _ h => (nomatch h), List.nodup_nil⟩, fun _ h => (nomatch h)⟩
theorem dropA_mem {as : List As} {n : Int} {a : As} : a ∈ dropA as n ↔ a ∈ as ∧ (a.n : Int) ≠ n := by
  unfold dropA
  rw [List.mem_filter]
  simp
theorem asN_drop (as : List As) (n : Int) : (asN (dropA as n)).Sublist (asN as) := (List.filter_sublist (p := _)).map _
theorem findA_mem {as : List As} {n : Int} {a : As} (h : findA as n = some a) : a ∈ as := List.mem_of_find?_eq_some h
theorem asN_of {as : List As} {b : As} (hb : b ∈ as) : (b.n : Int) ∈ asN as := List.mem_map.mpr ⟨b, hb, rfl⟩
theorem nd_same {as : List As} (nd : (asN as).Nodup) {a b : As} (ha : a ∈ as) (hb : b ∈ as) (e : a.n = b.n) : a = b := by
  induction as with
  | nil => cases ha
  | cons x as ih =>
    obtain ⟨h1, h2⟩ := List.nodup_cons.mp (show ((x.n : Int) :: asN as).Nodup from nd)
    rcases List.mem_cons.mp ha with ha' | ha'
    · rcases List.mem_cons.mp hb with hb' | hb'
      · rw [ha', hb']
      · refine absurd ?_ h1
        have q := asN_of hb'
        rw [← e, ha'] at q
        exact q
    · rcases List.mem_cons.mp hb with hb' | hb'
      · refine absurd ?_ h1
        have q := asN_of ha'
        rw [e, hb'] at q
        exact q
      · exact ih h2 ha' hb'
/-- a number that stands for a change of the key -/
def IsN (cs : List Ch) (k : Nat) (n : Int) : Prop := ∃ m c, n = ((m + 1 : Nat) : Int) ∧ cs[m]? = some c ∧ c.key = k
theorem fold_inv {cs : List Ch} {k : Nat} {u0 : Int} : ∀ {L : List Int} {st : HK × List Int}, KR cs k st.1 → 0 ≤ st.1.upto → L.Pairwise (· < ·) → (∀ n ∈ L, n ∈ asN st.1.aside) →
    (∀ a ∈ st.1.aside, (a.n : Int) ∉ L → st.1.upto < (a.ahead : Int) ∧ ∀ n ∈ L, (a.n : Int) < n) →
    u0 ≤ st.1.upto → (∀ n ∈ st.2, u0 < n ∧ n ≤ st.1.upto ∧ IsN cs k n) → st.2.Pairwise (· < ·) →
    KI cs k (L.foldl HK.fstep st).1 ∧ st.1.upto ≤ (L.foldl HK.fstep st).1.upto ∧ (∀ n ∈ (L.foldl HK.fstep st).2, u0 < n ∧ n ≤ (L.foldl HK.fstep st).1.upto ∧ IsN cs k n) ∧ (L.foldl HK.fstep st).2.Pairwise (· < ·)
  | [], st, r, h0, _, _, hrem, hu, hf, hp => ⟨⟨r, fun a ha => (hrem a ha (List.not_mem_nil)).1⟩, Int.le_refl _, hf, hp⟩
  | n :: L, st, r, h0, hL, hin, hrem, hu, hf, hp => by
    rw [List.foldl_cons]
    obtain ⟨hL1, hL2⟩ := List.pairwise_cons.mp hL
    obtain ⟨a, ha, ean⟩ := findA_some (hin n List.mem_cons_self)
    have hnL : n ∉ L := fun q => Int.lt_irrefl _ (hL1 n q)
    have ham := findA_mem ha
    have hain := r.as a ham
    obtain ⟨u, hu'⟩ : ∃ u : Nat, st.1.upto = u := ⟨st.1.upto.toNat, by omega⟩
    have stay : ∀ m ∈ L, m ∈ asN (dropA st.1.aside n) := fun m hm => by
      obtain ⟨b, hb, eb⟩ := List.mem_map.mp (hin m (List.mem_cons_of_mem _ hm))
      refine List.mem_map.mpr ⟨b, dropA_mem.mpr ⟨hb, fun q => ?_⟩, eb⟩
      have := hL1 m hm
      omega
    by_cases h1 : n ≤ st.1.upto
    · have e1 : HK.fstep st n = ({ st.1 with aside := dropA st.1.aside n }, st.2) := by
        unfold HK.fstep
        rw [ha]
        dsimp only
        rw [if_pos h1]
      rw [e1]
      exact fold_inv (st := ({ st.1 with aside := dropA st.1.aside n }, st.2)) ⟨r.lo, r.hi, r.ok, fun b hb => r.as b (dropA_mem.mp hb).1, r.nd.sublist (asN_drop _ _)⟩ h0 hL2 stay
        (fun b hb hbL => by
          obtain ⟨hb1, hb2⟩ := dropA_mem.mp hb
          obtain ⟨q1, q2⟩ := hrem b hb1 fun q => by
            rcases List.mem_cons.mp q with q | q
            · exact hb2 q
            · exact hbL q
          exact ⟨q1, fun m hm => q2 m (List.mem_cons_of_mem _ hm)⟩) hu hf hp
    · by_cases h2 : (a.ahead : Int) ≤ st.1.upto
      · have e1 : HK.fstep st n = (({ st.1 with aside := dropA st.1.aside n } : HK).done a.n false a.worth, st.2 ++ [n]) := by
          unfold HK.fstep
          rw [ha]
          dsimp only
          rw [if_neg h1, if_pos h2]
        rw [e1]
        obtain ⟨m, em1, em2, em3⟩ := id hain
        have hle := hain.le
        have hright : st.1.worth + a.worth = wof (cs.take a.n) k ∧ a.n = lof (cs.take a.n) k := by
          obtain ⟨w1, w2⟩ := wof_at em2
          obtain ⟨w3, _⟩ := wof_const (cs := cs) (k := k) (i := u) (j := m) (by omega) (by omega)
          rw [em1]
          refine ⟨?_, w2.symm⟩
          rw [show wof (cs.take (m + 1)) k = (if false = true then (0 : Int) else wof (cs.take m) k) + a.worth from w1, if_neg (by decide), w3, (r.ok u hu').1]
        have hdone : KR cs k (({ st.1 with aside := dropA st.1.aside n } : HK).done a.n false a.worth) := by
          refine ⟨?_, ?_, fun v hv => ?_, fun b hb => r.as b (dropA_mem.mp hb).1, r.nd.sublist (asN_drop _ _)⟩
          · show (-1 : Int) ≤ (a.n : Int)
            omega
          · show (a.n : Int) ≤ cs.length
            omega
          · have hv : (a.n : Int) = v := hv
            have : a.n = v := by omega
            subst this
            exact ⟨hright.1, hright.2⟩
        have hrem' : ∀ b ∈ (({ st.1 with aside := dropA st.1.aside n } : HK).done a.n false a.worth).aside, (b.n : Int) ∉ L → (({ st.1 with aside := dropA st.1.aside n } : HK).done a.n false a.worth).upto < (b.ahead : Int) ∧ ∀ n ∈ L, (b.n : Int) < n := by
          intro b hb hbL
          obtain ⟨hb1, hb2⟩ := dropA_mem.mp hb
          obtain ⟨q1, q2⟩ := hrem b hb1 fun q => by
            rcases List.mem_cons.mp q with q | q
            · exact hb2 q
            · exact hbL q
          have q3 := q2 n List.mem_cons_self
          have := (r.as b hb1).after hain (by omega)
          have := (r.as b hb1).lt
          omega
        have hf' : ∀ x ∈ st.2 ++ [n], u0 < x ∧ x ≤ (({ st.1 with aside := dropA st.1.aside n } : HK).done a.n false a.worth).upto ∧ IsN cs k x := by
          intro x hx
          show u0 < x ∧ x ≤ (a.n : Int) ∧ IsN cs k x
          rcases List.mem_append.mp hx with hx | hx
          · obtain ⟨p1, p2, p3⟩ := hf x hx
            exact ⟨p1, by omega, p3⟩
          · rw [List.mem_singleton] at hx
            subst hx
            exact ⟨by omega, by omega, m, _, by omega, em2, rfl⟩
        have hp' : (st.2 ++ [n]).Pairwise (· < ·) := by
          refine List.pairwise_append.mpr ⟨hp, List.pairwise_singleton _ _, fun x hx y hy => ?_⟩
          rw [List.mem_singleton] at hy
          subst hy
          have := (hf x hx).2.1
          omega
        have q := fold_inv (u0 := u0) (L := L) (st := (({ st.1 with aside := dropA st.1.aside n } : HK).done a.n false a.worth, st.2 ++ [n])) hdone (by show (0 : Int) ≤ (a.n : Int); omega) hL2 stay hrem' (by show u0 ≤ (a.n : Int); omega) hf' hp'
        exact ⟨q.1, Int.le_trans (by show st.1.upto ≤ (a.n : Int); omega) q.2.1, q.2.2⟩
      · have e1 : HK.fstep st n = st := by
          unfold HK.fstep
          rw [ha]
          dsimp only
          rw [if_neg h1, if_neg h2]
        rw [e1]
        refine fold_inv r h0 hL2 (fun m hm => hin m (List.mem_cons_of_mem _ hm)) (fun b hb hbL => ?_) hu hf hp
        by_cases hbn : (b.n : Int) = n
        · have : b = a := nd_same r.nd hb ham (by omega)
          subst this
          exact ⟨by omega, fun m hm => by rw [hbn]; exact hL1 m hm⟩
        · obtain ⟨q1, q2⟩ := hrem b hb fun q => by
            rcases List.mem_cons.mp q with q | q
            · exact hbn q
            · exact hbL q
          exact ⟨q1, fun m hm => q2 m (List.mem_cons_of_mem _ hm)⟩
theorem srt_lt {ns : List Int} (nd : ns.Nodup) : (srt ns).Pairwise (· < ·) := by
  have h1 : (srt ns).Pairwise (· ≤ ·) := by
    have := List.pairwise_mergeSort (le := fun a b : Int => decide (a ≤ b)) (fun a b c h1 h2 => by simp at h1 h2 ⊢; omega) (fun a b => by simp; omega) ns
    exact this.imp fun h => by simpa using h
  have h2 : (srt ns).Nodup := (srt_perm ns).nodup_iff.mpr nd
  exact (List.pairwise_and_iff.mpr ⟨h1, h2⟩).imp fun ⟨a, b⟩ => by omega
/-- what is told as done by a letter, for a key: between what was known and what is known, changes of the key, rising -/
structure Told (cs : List Ch) (k : Nat) (u : Int) (r : HK × List Int) : Prop where
  inv : KI cs k r.1
  up : u ≤ r.1.upto
  num : ∀ n ∈ r.2, u < n ∧ n ≤ r.1.upto ∧ IsN cs k n
  rise : r.2.Pairwise (· < ·)
theorem free_told {cs : List Ch} {k : Nat} {h : HK} {u0 : Int} (r : KR cs k h) (h0 : 0 ≤ h.upto) (hu : u0 ≤ h.upto) : Told cs k u0 h.free ∧ h.upto ≤ h.free.1.upto := by
  obtain ⟨q1, q2, q3, q4⟩ := fold_inv (u0 := u0) (L := srt (asN h.aside)) (st := (h, [])) r h0 (srt_lt r.nd) (fun n hn => (srt_perm _).mem_iff.mp hn)
    (fun a ha q => absurd ((srt_perm _).mem_iff.mpr (List.mem_map.mpr ⟨a, ha, rfl⟩)) q) hu (fun _ q => (nomatch q)) List.Pairwise.nil
  exact ⟨⟨q1, Int.le_trans hu q2, q3, q4⟩, q2⟩
theorem Told.none {cs : List Ch} {k : Nat} {h : HK} (i : KI cs k h) : Told cs k h.upto (h, []) := ⟨i, Int.le_refl _, fun _ q => (nomatch q), List.Pairwise.nil⟩
theorem putA_mem {as : List As} {a b : As} (h : b ∈ putA as a) : b = a ∨ b ∈ as := by
  unfold putA at h
  split at h
  · obtain ⟨x, hx, e⟩ := List.mem_map.mp h
    split at e
    · exact .inl e.symm
    · exact .inr (e ▸ hx)
  · rcases List.mem_append.mp h with h | h
    · exact .inr h
    · exact .inl (List.mem_singleton.mp h)
theorem putA_nd {as : List As} {a : As} (nd : (asN as).Nodup) : (asN (putA as a)).Nodup := by
  unfold putA
  split
  · have : asN (as.map fun x => if x.n = a.n then a else x) = asN as := by
      unfold asN
      rw [List.map_map]
      apply List.map_congr_left
      intro x _
      show ((if x.n = a.n then a else x).n : Int) = x.n
      split
      · rename_i h
        rw [h]
      · rfl
    rw [this]
    exact nd
  · rename_i h
    unfold asN
    rw [List.map_append]
    refine List.nodup_append.mpr ⟨nd, by simp, fun x hx y hy q => h ?_⟩
    obtain ⟨b, hb, eb⟩ := List.mem_map.mp hx
    have hy : y = (a.n : Int) := by simpa using hy
    rw [List.any_eq_true]
    exact ⟨b, hb, by simp; omega⟩
/-- THE STEP -/
theorem hearK_told {nk : Nat} {cs : List Ch} {k : Nat} {h : HK} {l : Letter} (i : KI cs k h) (hk : k < nk) (hl : IsLet nk cs l) : Told cs k h.upto (hearK k h l) := by
  cases hl with
  | @change n c e =>
    simp only [hearK]
    split
    · rename_i hck
      subst hck
      unfold HK.chg
      split
      · exact .none i
      · rename_i h1
        split
        · rename_i h2
          have hin : AsIn cs c.key ⟨n + 1, c.worth, lof (cs.take n) c.key⟩ := by
            refine ⟨n, rfl, ?_, rfl⟩
            rw [e]
            cases c
            cases h2.1
            rfl
          refine ⟨⟨⟨i.lo, i.hi, i.ok, fun a ha => ?_, putA_nd i.nd⟩, fun a ha => ?_⟩, Int.le_refl _, fun _ q => (nomatch q), List.Pairwise.nil⟩
          · rcases putA_mem ha with q | q
            · rw [q]
              exact hin
            · exact i.as a q
          · rcases putA_mem ha with q | q
            · rw [q]
              exact h2.2
            · exact i.ahead a q
        · rename_i h2
          have hn := (List.getElem?_eq_some_iff.mp e).1
          have hr : KR cs c.key (h.done (n + 1) c.set c.worth) := by
            refine ⟨?_, ?_, fun u hu => ?_, i.as, i.nd⟩
            · show (-1 : Int) ≤ ((n + 1 : Nat) : Int)
              omega
            · show ((n + 1 : Nat) : Int) ≤ cs.length
              omega
            · have hu : ((n + 1 : Nat) : Int) = u := hu
              have : n + 1 = u := by omega
              subst this
              obtain ⟨w1, w2⟩ := wof_at e
              refine ⟨?_, w2.symm⟩
              show (if c.set then c.worth else h.worth + c.worth) = _
              rw [w1]
              cases hs : c.set with
              | true => simp
              | false =>
                have hua : (lof (cs.take n) c.key : Int) ≤ h.upto := by
                  by_cases q : h.upto < (lof (cs.take n) c.key : Int)
                  · exact absurd ⟨hs, q⟩ h2
                  · omega
                obtain ⟨v, hv⟩ : ∃ v : Nat, h.upto = v := ⟨h.upto.toNat, by omega⟩
                obtain ⟨w3, _⟩ := wof_const (cs := cs) (k := c.key) (i := v) (j := n) (by omega) (by omega)
                rw [(i.ok v hv).1, w3]
                simp
          obtain ⟨q1, q2⟩ := free_told (u0 := ((n + 1 : Nat) : Int)) hr (by show (0 : Int) ≤ ((n + 1 : Nat) : Int); omega) (Int.le_refl _)
          refine ⟨q1.inv, by show h.upto ≤ (h.done (n + 1) c.set c.worth).free.1.upto; have := q1.up; omega, fun x hx => ?_, List.pairwise_cons.mpr ⟨fun x hx => (q1.num x hx).1, q1.rise⟩⟩
          rcases List.mem_cons.mp hx with hx | hx
          · subst hx
            exact ⟨by omega, q1.up, n, c, rfl, e, rfl⟩
          · obtain ⟨p1, p2, p3⟩ := q1.num x hx
            exact ⟨by omega, p2, p3⟩
    · exact .none i
  | @part n b e hn hbe hek =>
    show Told cs k h.upto (hearK k h (.part n b (partRows cs n b (e - b))))
    simp only [hearK]
    split
    · rename_i hbk
      cases er : (partRows cs n b (e - b))[k - b]? with
      | none => exact .none i
      | some r =>
        have hr : r = (wof (cs.take n) k, lof (cs.take n) k) := by
          have hlt := (List.getElem?_eq_some_iff.mp er).1
          rw [partRows, List.length_map, List.length_range] at hlt
          rw [partRows, List.getElem?_map, List.getElem?_range hlt] at er
          have := Option.some.inj er
          rw [← this]
          show (wof (cs.take n) (b + (k - b)), lof (cs.take n) (b + (k - b))) = _
          rw [show b + (k - b) = k by omega]
        subst hr
        show Told cs k h.upto (h.row n (wof (cs.take n) k) (lof (cs.take n) k))
        unfold HK.row
        split
        · rename_i h1
          have hr : KR cs k { h with worth := wof (cs.take n) k, since := lof (cs.take n) k, upto := n } := by
            refine ⟨by show (-1 : Int) ≤ (n : Int); omega, by show (n : Int) ≤ cs.length; omega, fun u hu => ?_, i.as, i.nd⟩
            have hu : (n : Int) = u := hu
            have : n = u := by omega
            subst this
            exact ⟨rfl, rfl⟩
          exact (free_told hr (by show (0 : Int) ≤ (n : Int); omega) (by show h.upto ≤ (n : Int); omega)).1
        · exact .none i
    · exact .none i
  | @beat n hn =>
    show Told cs k h.upto (hearK k h (.beat n ((List.range nk).map fun k => lof (cs.take n) k)))
    simp only [hearK]
    rw [List.getElem?_map, List.getElem?_range hk]
    show Told cs k h.upto (h.beat n (lof (cs.take n) k), [])
    unfold HK.beat
    split
    · rename_i h1
      obtain ⟨v, hv⟩ : ∃ v : Nat, h.upto = v := ⟨h.upto.toNat, by omega⟩
      obtain ⟨w3, w4⟩ := wof_const (cs := cs) (k := k) (i := v) (j := n) (by omega) (by omega)
      refine ⟨⟨⟨by show (-1 : Int) ≤ (n : Int); omega, by show (n : Int) ≤ cs.length; omega, fun u hu => ?_, i.as, i.nd⟩, fun a ha => ?_⟩, by show h.upto ≤ (n : Int); omega, fun _ q => (nomatch q), List.Pairwise.nil⟩
      · have hu : (n : Int) = u := hu
        have : n = u := by omega
        subst this
        rw [w3, w4]
        exact i.ok v hv
      · show (n : Int) < (a.ahead : Int)
        have h2 := i.ahead a ha
        rcases Nat.lt_or_ge n a.ahead with q | q
        · omega
        · exfalso
          obtain ⟨m, e1, e2, e3⟩ := i.as a ha
          -- the change ahead is one of the key's, at n at the latest
          have h3 : lof (cs.take a.ahead) k = a.ahead := by
            have : lof (cs.take m) k ≤ a.ahead := by omega
            have := wof_const (cs := cs) (k := k) (i := a.ahead) (j := m) (by have := lof_take_le cs m k; omega) this
            omega
          have h4 := lof_mono (cs := cs) (k := k) q
          omega
    · exact .none i
end Cu

namespace Cu
open PySem PySem.Spec PyProof.Rows L2
def wholeD (hs : List HK) : PyData := match wholeM hs with
  | none => .none
  | some (n, ws) => .tuple [.int n, ilst ws]
def standD (hs : List HK) : PyData := .list [.list (hs.map lookM), ilst (hs.map fun h => h.upto), ilst (heldM hs), wholeD hs]
theorem Gd.look {n : Nat} (h : HK) : Gd (n + 2) (lookM h) := by
  unfold lookM
  split
  · exact .none
  · exact .tuple (.all_cons .int (.all_cons .int (.all_cons .int .all_nil)))
theorem Gd.whole {n : Nat} (hs : List HK) : Gd (n + 3) (wholeD hs) := by
  unfold wholeD
  split
  · exact .none
  · exact .tuple (.all_cons .int (.all_cons (.ilst _) .all_nil))
theorem Gd.stand (hs : List HK) : Gd 5 (standD hs) := .list (.all_cons (.list fun d hd => by
  obtain ⟨h, _, rfl⟩ := List.mem_map.mp hd
  exact .look h) (.all_cons (.ilst _) (.all_cons (.ilst _) (.all_cons (.whole _) .all_nil))))
section
variable {K : PySem.W.Frag} {H : Hp} {C : Addr} {σ : L2.St} {Q : VK} {i : Nat} {A : HA} {hs : List HK} {c : Lg} {te : TE}
theorem rd_known (h1 : σ[i]? = some (some (.ref A.p))) (r : HR K C A hs H c) (hc : Has H c) (q : ∀ p H', Grow H H' → FzL K H' p ((hs.map fun h => h.upto).map V.int) → Q (.ref p) H') :
    tFz (tMeth C "known" (spKnown K C) [] E0 (tVar i) tNil) σ H Q :=
  rd_fz ⟨_, h1, A.p, _, _, rfl, r.at_p hc, hFno, rfl, A, hs, c, rfl, r, hc, fun _ _ t => ⟨_, _, rfl, t.own.head, fun _ => q _ _ (t.fz .nil) FzL.frz⟩⟩
theorem rd_held (h1 : σ[i]? = some (some (.ref A.p))) (r : HR K C A hs H c) (hc : Has H c) (hsz : (hs.map fun h => asN h.aside).flatten.length ≤ 1000) (q : ∀ p H', Grow H H' → FzL K H' p ((heldM hs).map V.int) → Q (.ref p) H') :
    tFz (tMeth C "held" (spHeld K C) [] E0 (tVar i) tNil) σ H Q :=
  rd_fz ⟨_, h1, A.p, _, _, rfl, r.at_p hc, hFno, rfl, A, hs, c, rfl, r, hc, hsz, fun _ _ t => ⟨_, _, rfl, t.own.head, fun _ => q _ _ (t.fz .nil) FzL.frz⟩⟩
theorem rd_whole (h1 : σ[i]? = some (some (.ref A.p))) (r : HR K C A hs H c) (hc : Has H c) (hn : 0 < hs.length) (q : ∀ v H', Grow H H' → Rp K H' (wholeD hs) v → Q v H') :
    tFzw (tMeth C "whole" (spWhole K C) [] E0 (tVar i) tNil) σ H Q := by
  refine rd_fzw ⟨_, h1, A.p, _, _, rfl, r.at_p hc, hFno, rfl, A, hs, c, rfl, r, hc, hn, fun hw => .inl (q _ _ (Grow.refl _) ?_), fun n ws hw p t H' t8 ht => .inr ⟨_, _, t8.own.head, fun o => q _ _ (t8.fz (ob := o) .nil) ?_⟩⟩
  · rw [wholeD, hw]
    exact .non
  · rw [wholeD, hw]
    exact .tup (t8.own.mono_put (o' := .frz o (.lst (ws.map V.int))) _ _ ht trivial) (.cons .int (.cons (.il FzL.frz) .nil))
theorem rd_look {k : Nat} {h : HK} {j : Nat} {z : Int} (h1 : σ[i]? = some (some (.ref A.p))) (r : HR K C A hs H c) (hc : Has H c) (h2 : σ[j]? = some (some (.int z))) (ez : z = k) (e : hs[k]? = some h) (q : ∀ v H', Grow H H' → Rp K H' (lookM h) v → Q v H') :
    tMeth C "look" (spLook K C) [] E0 (tVar i) (tCons (tVar j) tNil) σ H Q := by
  subst ez
  exact ⟨_, h1, A.p, _, _, rfl, r.at_p hc, hFno, _, h2, rfl, A, hs, c, k, h, rfl, r, hc, e, q⟩
theorem Rp.look_inv {h : HK} {v : V} (r : Rp K H (lookM h) v) (hu : 0 ≤ h.upto) : ∃ t, v = .ref t ∧ H t = some (.tup [.int h.worth, .int h.since, .int h.upto]) := by
  unfold lookM at r
  rw [if_neg (by omega)] at r
  obtain ⟨a, xs, e, f, r⟩ := r.tup_inv
  obtain ⟨v1, r1, e1, g1, r⟩ := r.cons_inv
  obtain ⟨v2, r2, e2, g2, r⟩ := r.cons_inv
  obtain ⟨v3, r3, e3, g3, r⟩ := r.cons_inv
  have := r.nil_inv
  subst this e3 e2 e1
  have g1 := Rp.int_iff.mp g1
  have g2 := Rp.int_iff.mp g2
  have g3 := Rp.int_iff.mp g3
  subst g1 g2 g3
  exact ⟨a, e, f⟩
theorem Rp.whole_inv {v : V} (r : Rp K H (wholeD hs) v) : (wholeM hs = none ∧ v = .non) ∨ ∃ n ws t p, wholeM hs = some (n, ws) ∧ v = .ref t ∧ H t = some (.tup [.int n, .ref p]) ∧ FzL K H p (ws.map V.int) := by
  unfold wholeD at r
  cases e : wholeM hs with
  | none =>
    rw [e] at r
    exact .inl ⟨rfl, Rp.none_iff.mp r⟩
  | some x =>
    obtain ⟨n, ws⟩ := x
    rw [e] at r
    obtain ⟨a, xs, e1, f, r⟩ := Rp.tup_inv r
    obtain ⟨v1, r1, e2, g1, r⟩ := r.cons_inv
    obtain ⟨v2, r2, e3, g2, r⟩ := r.cons_inv
    have := r.nil_inv
    subst this e3 e2
    have g1 := Rp.int_iff.mp g1
    obtain ⟨p, e4, f4⟩ := g2.il_inv
    subst g1 e4
    exact .inr ⟨n, ws, a, p, rfl, e1, f, f4⟩
end
end Cu

namespace Cu
open PySem PySem.Spec PyProof.Rows L2
/-! all keys of a hearer, by letters of one board -/
theorem IsN.key {cs : List Ch} {k k' : Nat} {n : Int} (h : IsN cs k n) (h' : IsN cs k' n) : k = k' := by
  obtain ⟨m, c, e1, e2, e3⟩ := h
  obtain ⟨m', c', e4, e5, e6⟩ := h'
  have : m = m' := by omega
  subst this
  rw [e2] at e5
  cases e5
  omega
theorem IsN.bd {cs : List Ch} {k : Nat} {n : Int} (h : IsN cs k n) : 0 < n ∧ n ≤ cs.length := by
  obtain ⟨m, c, e1, e2, _⟩ := h
  have := (List.getElem?_eq_some_iff.mp e2).1
  omega
theorem AsIn.isN {cs : List Ch} {k : Nat} {a : As} (h : AsIn cs k a) : IsN cs k a.n := by
  obtain ⟨m, e1, e2, _⟩ := h
  exact ⟨m, _, by omega, e2, rfl⟩
theorem rise_len : ∀ {l : List Int} {a b : Int}, l.Pairwise (· < ·) → (∀ n ∈ l, a < n ∧ n ≤ b) → (l.length : Int) ≤ if a ≤ b then b - a else 0
  | [], a, b, _, _ => by
    show (0 : Int) ≤ _
    split <;> omega
  | n :: l, a, b, h, q => by
    obtain ⟨h1, h2⟩ := List.pairwise_cons.mp h
    have q0 := q n List.mem_cons_self
    have ih := rise_len (a := n) (b := b) h2 fun m hm => ⟨h1 m hm, (q m (List.mem_cons_of_mem _ hm)).2⟩
    rw [if_pos (by omega)] at ih
    rw [if_pos (by omega), List.length_cons]
    omega
theorem nodup_len {l : List Int} {b : Nat} (nd : l.Nodup) (h : ∀ n ∈ l, 0 < n ∧ n ≤ b) : l.length ≤ b := by
  have h1 := rise_len (a := 0) (b := b) (srt_lt nd) fun n hn => h n ((srt_perm l).mem_iff.mp hn)
  rw [(srt_perm l).length_eq, if_pos (by omega)] at h1
  omega
theorem KI.few {cs : List Ch} {k : Nat} {h : HK} (i : KI cs k h) : h.aside.length ≤ cs.length := by
  have := nodup_len (b := cs.length) i.nd fun n hn => by
    obtain ⟨a, ha, e⟩ := List.mem_map.mp hn
    have := (i.as a ha).le
    omega
  rwa [asN, List.length_map] at this
theorem KI.wf {cs : List Ch} {k : Nat} {h : HK} (i : KI cs k h) (hl : cs.length < 122) : Wf h := ⟨i.nd, Nat.lt_of_le_of_lt i.few hl⟩
/-- a letter heard again -/
theorem putA_twice (as : List As) (a : As) : putA (putA as a) a = putA as a := by
  have hany : ((putA as a).any fun x => decide (x.n = a.n)) = true := by
    rw [List.any_eq_true]
    unfold putA
    split
    · rename_i h
      obtain ⟨x, hx, e⟩ := List.any_eq_true.mp h
      have e : x.n = a.n := of_decide_eq_true e
      exact ⟨a, List.mem_map.mpr ⟨x, hx, if_pos e⟩, by simp⟩
    · exact ⟨a, by simp, by simp⟩
  have e : putA (putA as a) a = (putA as a).map fun x => if x.n = a.n then a else x := by
    rw [putA, if_pos hany]
  rw [e]
  unfold putA
  split
  · rw [List.map_map]
    apply List.map_congr_left
    intro x _
    show (if (if x.n = a.n then a else x).n = a.n then a else (if x.n = a.n then a else x)) = if x.n = a.n then a else x
    by_cases h : x.n = a.n
    · rw [if_pos h, if_pos rfl]
    · rw [if_neg h, if_neg h]
  · rename_i h
    rw [List.map_append]
    have : as.map (fun x => if x.n = a.n then a else x) = as := by
      have : as.map (fun x => if x.n = a.n then a else x) = as.map id := by
        apply List.map_congr_left
        intro x hx
        rw [if_neg fun q => h (List.any_eq_true.mpr ⟨x, hx, by simpa using q⟩)]
        rfl
      rw [this, List.map_id]
    rw [this]
    simp
theorem fold_up {l : List Int} {st : HK × List Int} : st.1.upto ≤ (l.foldl HK.fstep st).1.upto := by
  induction l generalizing st with
  | nil => exact Int.le_refl _
  | cons n l ih =>
    rw [List.foldl_cons]
    refine Int.le_trans ?_ ih
    unfold HK.fstep
    cases h : findA st.1.aside n with
    | none => exact Int.le_refl _
    | some a =>
      dsimp only
      split
      · exact Int.le_refl _
      · split
        · have := findA_n h
          show st.1.upto ≤ (a.n : Int)
          omega
        · exact Int.le_refl _
theorem free_up (h : HK) : h.upto ≤ h.free.1.upto := fold_up (st := (h, []))
theorem hearK_twice (k : Nat) (h : HK) (l : Letter) : hearK k (hearK k h l).1 l = ((hearK k h l).1, []) := by
  cases l with
  | change n c ahead =>
    simp only [hearK]
    by_cases hk : c.key = k
    · simp only [if_pos hk]
      by_cases h1 : (n : Int) ≤ h.upto
      · have e : h.chg n c ahead = (h, []) := by rw [HK.chg, if_pos h1]
        rw [e]
        exact e
      · by_cases h2 : c.set = false ∧ h.upto < (ahead : Int)
        · have e : h.chg n c ahead = ({ h with aside := putA h.aside ⟨n, c.worth, ahead⟩ }, []) := by rw [HK.chg, if_neg h1, if_pos h2]
          rw [e]
          show HK.chg { h with aside := putA h.aside ⟨n, c.worth, ahead⟩ } n c ahead = _
          rw [HK.chg, if_neg h1, if_pos h2]
          simp only [putA_twice]
        · have e : h.chg n c ahead = (((h.done n c.set c.worth).free).1, (n : Int) :: ((h.done n c.set c.worth).free).2) := by rw [HK.chg, if_neg h1, if_neg h2]
          rw [e]
          have := free_up (h.done n c.set c.worth)
          have h3 : (n : Int) ≤ ((h.done n c.set c.worth).free).1.upto := this
          show HK.chg ((h.done n c.set c.worth).free).1 n c ahead = _
          rw [HK.chg, if_pos h3]
    · simp only [if_neg hk]
  | part n b rows =>
    simp only [hearK]
    by_cases hk : b ≤ k
    · simp only [if_pos hk]
      cases rows[k - b]? with
      | none => rfl
      | some r =>
        show HK.row (h.row n r.1 r.2).1 n r.1 r.2 = ((h.row n r.1 r.2).1, [])
        by_cases h1 : h.upto < (n : Int)
        · have e : h.row n r.1 r.2 = ({ h with worth := r.1, since := r.2, upto := n } : HK).free := by rw [HK.row, if_pos h1]
          rw [e]
          have h3 : (n : Int) ≤ (({ h with worth := r.1, since := r.2, upto := n } : HK).free).1.upto := free_up { h with worth := r.1, since := r.2, upto := n }
          rw [HK.row, if_neg (by omega)]
        · have e : h.row n r.1 r.2 = (h, []) := by rw [HK.row, if_neg h1]
          rw [e]
          exact e
    · simp only [if_neg hk]
  | beat n lasts =>
    simp only [hearK]
    cases lasts[k]? with
    | none => rfl
    | some x =>
      show ((h.beat n x).beat n x, ([] : List Int)) = (h.beat n x, [])
      congr 1
      unfold HK.beat
      by_cases h1 : (x : Int) ≤ h.upto ∧ h.upto < (n : Int)
      · rw [if_pos h1, if_neg fun q => absurd q.2 (Int.lt_irrefl _)]
      · rw [if_neg h1, if_neg h1]
theorem hear_get {hs : List HK} {l : Letter} {k : Nat} {h : HK} (e : hs[k]? = some h) : (hear hs l)[k]? = some (hearK k h l).1 := by
  rw [hear, List.getElem?_mapIdx, e]
  rfl
theorem hear_inv {hs : List HK} {l : Letter} {k : Nat} {h' : HK} (e : (hear hs l)[k]? = some h') : ∃ h, hs[k]? = some h ∧ h' = (hearK k h l).1 := by
  cases eh : hs[k]? with
  | none =>
    rw [hear, List.getElem?_mapIdx, eh] at e
    cases e
  | some h =>
    rw [hear_get eh] at e
    exact ⟨h, rfl, (Option.some.inj e).symm⟩
theorem heard_mem {hs : List HK} {l : Letter} {n : Int} (h : n ∈ heard hs l) : ∃ k g, hs[k]? = some g ∧ n ∈ (hearK k g l).2 := by
  obtain ⟨x, hx, hn⟩ := List.mem_flatten.mp h
  obtain ⟨k, hk⟩ := List.getElem?_of_mem hx
  rw [List.getElem?_mapIdx] at hk
  cases eh : hs[k]? with
  | none =>
    rw [eh] at hk
    cases hk
  | some g =>
    rw [eh] at hk
    have e : (hearK k g l).2 = x := Option.some.inj hk
    exact ⟨k, g, eh, by rw [e]; exact hn⟩
theorem hear_twice (hs : List HK) (l : Letter) : hear (hear hs l) l = hear hs l ∧ heard (hear hs l) l = [] := by
  constructor
  · apply List.ext_getElem?
    intro k
    cases eh : hs[k]? with
    | none => rw [List.getElem?_eq_none (by rw [hear_len, hear_len]; exact List.getElem?_eq_none_iff.mp eh), List.getElem?_eq_none (by rw [hear_len]; exact List.getElem?_eq_none_iff.mp eh)]
    | some h => rw [hear_get (hear_get eh), hear_get eh, hearK_twice]
  · refine List.eq_nil_iff_forall_not_mem.mpr fun n hn => ?_
    obtain ⟨k, g, e1, e2⟩ := heard_mem hn
    obtain ⟨h, e3, rfl⟩ := hear_inv e1
    rw [hearK_twice] at e2
    cases e2
/-- a hearer, all of whose keys are right -/
def AllI (nk : Nat) (cs : List Ch) (hs : List HK) : Prop := hs.length = nk ∧ ∀ k h, hs[k]? = some h → KI cs k h
theorem AllI.ini (nk : Nat) (cs : List Ch) : AllI nk cs (List.replicate nk HK.ini) := ⟨List.length_replicate, fun k h e => by
  rw [List.getElem?_replicate] at e
  split at e
  · cases e
    exact KI.ini cs k
  · cases e⟩
theorem AllI.told {nk : Nat} {cs : List Ch} {hs : List HK} {l : Letter} {k : Nat} {h : HK} (i : AllI nk cs hs) (hl : IsLet nk cs l) (e : hs[k]? = some h) : Told cs k h.upto (hearK k h l) :=
  hearK_told (i.2 k h e) (by have := (List.getElem?_eq_some_iff.mp e).1; have := i.1; omega) hl
theorem AllI.hear {nk : Nat} {cs : List Ch} {hs : List HK} {l : Letter} (i : AllI nk cs hs) (hl : IsLet nk cs l) : AllI nk cs (hear hs l) := ⟨by rw [hear_len]; exact i.1, fun k h e => by
  obtain ⟨g, eg, rfl⟩ := hear_inv e
  exact (i.told hl eg).inv⟩
theorem AllI.wf {nk : Nat} {cs : List Ch} {hs : List HK} (i : AllI nk cs hs) (hl : cs.length < 122) : ∀ h ∈ hs, Wf h := fun h hm => by
  obtain ⟨k, e⟩ := List.getElem?_of_mem hm
  exact (i.2 k h e).wf hl
theorem flat_le {α β : Type} {f : α → List β} {b : Nat} : ∀ {xs : List α}, (∀ x ∈ xs, (f x).length ≤ b) → ((xs.map f).flatten).length ≤ xs.length * b
  | [], _ => by simp
  | x :: xs, h => by
    have h1 := h x List.mem_cons_self
    have ih := flat_le (xs := xs) fun y hy => h y (List.mem_cons_of_mem _ hy)
    rw [List.map_cons, List.flatten_cons, List.length_append, List.length_cons, Nat.succ_mul]
    omega
theorem AllI.held {nk : Nat} {cs : List Ch} {hs : List HK} (i : AllI nk cs hs) (hl : cs.length ≤ 122) (hn : nk ≤ 8) : (hs.map fun h => asN h.aside).flatten.length ≤ 1000 := by
  have h1 := flat_le (f := fun h : HK => asN h.aside) (b := 122) (xs := hs) fun h hm => by
    obtain ⟨k, e⟩ := List.getElem?_of_mem hm
    have := (i.2 k h e).few
    rw [asN, List.length_map]
    omega
  have := i.1
  have h2 : hs.length * 122 ≤ 8 * 122 := Nat.mul_le_mul_right _ (by omega)
  omega
/-- the number's change is done -/
def Dn (cs : List Ch) (hs : List HK) (n : Int) : Prop := ∃ k h, hs[k]? = some h ∧ n ≤ h.upto ∧ IsN cs k n
section
variable {nk : Nat} {cs : List Ch} {hs : List HK} {l : Letter} {n : Int}
theorem Dn.hear (i : AllI nk cs hs) (hl : IsLet nk cs l) (h : Dn cs hs n) : Dn cs (hear hs l) n := by
  obtain ⟨k, g, e, h1, h2⟩ := h
  exact ⟨k, _, hear_get e, Int.le_trans h1 (i.told hl e).up, h2⟩
theorem heard_dn (i : AllI nk cs hs) (hl : IsLet nk cs l) (h : n ∈ heard hs l) : Dn cs (hear hs l) n ∧ ¬ Dn cs hs n := by
  obtain ⟨k, g, e1, e2⟩ := heard_mem h
  obtain ⟨q1, q2, q3⟩ := (i.told hl e1).num n e2
  refine ⟨⟨k, _, hear_get e1, q2, q3⟩, fun ⟨k', g', e3, q4, q5⟩ => ?_⟩
  have := q3.key q5
  subst this
  rw [e1] at e3
  cases e3
  omega
theorem flat_nodup : ∀ {xs : List (List Int)}, (∀ x ∈ xs, x.Nodup) → (∀ (i j : Nat) x y, xs[i]? = some x → xs[j]? = some y → i < j → ∀ n ∈ x, n ∉ y) → xs.flatten.Nodup
  | [], _, _ => by simp
  | x :: xs, h, q => by
    rw [List.flatten_cons]
    refine List.nodup_append.mpr ⟨h x List.mem_cons_self, flat_nodup (fun y hy => h y (List.mem_cons_of_mem _ hy)) fun i j y z ei ej hij => q (i + 1) (j + 1) y z (by simpa using ei) (by simpa using ej) (by omega), fun a ha b hb e => ?_⟩
    obtain ⟨y, hy, hby⟩ := List.mem_flatten.mp hb
    obtain ⟨j, hj⟩ := List.getElem?_of_mem hy
    subst e
    exact q 0 (j + 1) x y rfl (by simpa using hj) (by omega) a ha hby
theorem heard_nodup (i : AllI nk cs hs) (hl : IsLet nk cs l) : (heard hs l).Nodup := by
  have at_ : ∀ (j : Nat) (x : List Int), (hs.mapIdx fun k h => (hearK k h l).2)[j]? = some x → ∃ g, hs[j]? = some g ∧ x = (hearK j g l).2 := fun j x hx => by
    rw [List.getElem?_mapIdx] at hx
    cases eh : hs[j]? with
    | none =>
      rw [eh] at hx
      cases hx
    | some g =>
      rw [eh] at hx
      exact ⟨g, rfl, (Option.some.inj hx).symm⟩
  refine flat_nodup (fun x hx => ?_) fun a b x y ha hb hab m hm hm' => ?_
  · obtain ⟨j, hj⟩ := List.getElem?_of_mem hx
    obtain ⟨g, eg, rfl⟩ := at_ j x hj
    exact (i.told hl eg).rise.imp fun h => Int.ne_of_lt h
  · obtain ⟨g, eg, rfl⟩ := at_ a x ha
    obtain ⟨g', eg', rfl⟩ := at_ b y hb
    have := ((i.told hl eg).num m hm).2.2.key ((i.told hl eg').num m hm').2.2
    omega
theorem heard_bd (i : AllI nk cs hs) (hl : IsLet nk cs l) (h : n ∈ heard hs l) : 0 < n ∧ n ≤ cs.length := by
  obtain ⟨k, g, e1, e2⟩ := heard_mem h
  exact ((i.told hl e1).num n e2).2.2.bd
theorem heard_few (i : AllI nk cs hs) (hl : IsLet nk cs l) : (heard hs l).length ≤ cs.length := nodup_len (heard_nodup i hl) fun _ h => heard_bd i hl h
theorem held_not (i : AllI nk cs hs) (h : n ∈ heldM hs) : ¬ Dn cs hs n := by
  have h := (srt_perm _).mem_iff.mp h
  obtain ⟨x, hx, hn⟩ := List.mem_flatten.mp h
  obtain ⟨g, hg, rfl⟩ := List.mem_map.mp hx
  obtain ⟨k, ek⟩ := List.getElem?_of_mem hg
  obtain ⟨a, ha, rfl⟩ := List.mem_map.mp hn
  rintro ⟨k', g', e1, q1, q2⟩
  have hin := (i.2 k g ek).as a ha
  have := hin.isN.key q2
  subst this
  rw [ek] at e1
  cases e1
  have h1 := (i.2 k g ek).ahead a ha
  have h2 := hin.lt
  omega
theorem let_ok (hc : ∀ c ∈ cs, c.key < nk) (h : hs.length = nk) : IsLet nk cs l →
    match l with | .change _ ch _ => ch.key < hs.length | .part _ b rows => b + rows.length ≤ hs.length | .beat _ lasts => lasts.length = hs.length := by
  intro hl
  cases hl with
  | change e =>
    show _ < hs.length
    rw [h]
    exact hc _ (List.mem_of_getElem? e)
  | @part n b e hn hbe hek =>
    show b + (partRows cs n b (e - b)).length ≤ hs.length
    rw [partRows, List.length_map, List.length_range]
    omega
  | beat hn =>
    show ((List.range nk).map _).length = hs.length
    rw [List.length_map, List.length_range]
    omega
end
theorem set_srt {ns ms : List Int} (nd : ns.Nodup) (h1 : ms.Pairwise (· < ·)) (h2 : ∀ k : Int, k ∈ ms ↔ decide (k ∈ ns) = true) : ms = srt ns := by
  refine srt_eq ?_ (h1.imp fun h => Int.le_of_lt h)
  exact (List.perm_ext_iff_of_nodup (h1.imp fun h => Int.ne_of_lt h) nd).mpr fun a => by rw [h2 a, decide_eq_true_eq]
end Cu

namespace Cu
open PySem PySem.Spec PyProof.Rows L2
theorem mk_tr {H : Hp} {x dx C : Addr} (h1 : H x = none) (h2 : H dx = none) (n : dx ≠ x) : Tr H [] (upd (upd H dx (.own x)) x (.ins C dx [])) [(x, .ins C dx [])] :=
  ((Tr.refl H []).old h2).new (by rw [upd_ne n.symm]; exact h1) nins
theorem inV_ints (n : Int) (ns : List Int) : inV (.int n) (ns.map V.int) = decide (n ∈ ns) := by
  induction ns with
  | nil => rfl
  | cons m ns ih =>
    have e : inV (.int n) ((m :: ns).map V.int) = (eqV (.int m) (.int n) || inV (.int n) (ns.map V.int)) := rfl
    rw [e, ih]
    have e2 : eqV (.int m) (.int n) = decide (m = n) := by
      by_cases h : m = n <;> simp [eqV, h]
    rw [e2]
    by_cases h : m = n
    · simp [h]
    · simp [h, Ne.symm h]
theorem flat_ints (ns : List Int) : (ns.map V.int).all flatV = true := by
  rw [List.all_eq_true]
  intro x hx
  obtain ⟨n, _, rfl⟩ := List.mem_map.mp hx
  rfl
theorem int_get {ns : List Int} {i : Nat} {x : V} (h : (ns.map V.int)[i]? = some x) : ∃ n, ns[i]? = some n ∧ x = .int n := by
  rw [List.getElem?_map] at h
  cases e : ns[i]? with
  | none =>
    rw [e] at h
    cases h
  | some n =>
    rw [e] at h
    exact ⟨n, rfl, (Option.some.inj h).symm⟩
theorem Dp.ints' {K : PySem.W.Frag} {H : Hp} {a : Addr} {ns : List Int} (h : H a = some (.lst (ns.map V.int))) : Dp K H (.ref a) (ilst ns) := Dp.ints (SqL.of h)
theorem Dp.il {K : PySem.W.Frag} {H : Hp} {a : Addr} {ns : List Int} (h : SqL K H a (ns.map V.int)) : Dp K H (.ref a) (ilst ns) := Dp.ints h
def spLaw (K : PySem.W.Frag) : Sp := fun vs H Q _ => vs.length = 1 ∧ ∃ (c : Addr) (ns : List Int), vs = [.ref c] ∧ ns.length ≤ 63 ∧ FzL K H c (ns.map V.int) ∧ ∀ H', Q (.bl true) H'
end Cu

namespace Cu
open PySem PySem.Spec PyProof.Rows L2
/-! two hearers of a key, of which the one has heard more -/
def Closed (as : List As) (U : Int) : Prop := ∀ a ∈ as, (a.ahead : Int) ≤ U → (a.n : Int) ≤ U
theorem fstep_cases (st : HK × List Int) (n : Int) : HK.fstep st n = st ∨ (∃ a, findA st.1.aside n = some a ∧ n ≤ st.1.upto ∧ HK.fstep st n = ({ st.1 with aside := dropA st.1.aside n }, st.2)) ∨
    (∃ a, findA st.1.aside n = some a ∧ st.1.upto < n ∧ (a.ahead : Int) ≤ st.1.upto ∧ HK.fstep st n = (({ st.1 with aside := dropA st.1.aside n } : HK).done a.n false a.worth, st.2 ++ [n])) := by
  unfold HK.fstep
  cases h : findA st.1.aside n with
  | none => exact .inl rfl
  | some a =>
    dsimp only
    by_cases h1 : n ≤ st.1.upto
    · exact .inr (.inl ⟨a, rfl, h1, by rw [if_pos h1]⟩)
    · by_cases h2 : (a.ahead : Int) ≤ st.1.upto
      · exact .inr (.inr ⟨a, rfl, by omega, h2, by rw [if_neg h1, if_pos h2]⟩)
      · exact .inl (by rw [if_neg h1, if_neg h2])
theorem fold_le {U : Int} : ∀ {L : List Int} {st : HK × List Int}, st.1.upto ≤ U → Closed st.1.aside U → (L.foldl HK.fstep st).1.upto ≤ U
  | [], st, h, _ => h
  | n :: L, st, h, c => by
    rw [List.foldl_cons]
    rcases fstep_cases st n with e | ⟨a, ha, h1, e⟩ | ⟨a, ha, h1, h2, e⟩
    · rw [e]
      exact fold_le h c
    · rw [e]
      exact fold_le (st := ({ st.1 with aside := dropA st.1.aside n }, st.2)) h fun b hb => c b (dropA_mem.mp hb).1
    · rw [e]
      exact fold_le (st := (({ st.1 with aside := dropA st.1.aside n } : HK).done a.n false a.worth, st.2 ++ [n])) (c a (findA_mem ha) (Int.le_trans h2 h)) fun b hb => c b (dropA_mem.mp hb).1
theorem fold_keep : ∀ {L : List Int} {st : HK × List Int} {b : As}, b ∈ st.1.aside → b ∈ (L.foldl HK.fstep st).1.aside ∨ (b.n : Int) ≤ (L.foldl HK.fstep st).1.upto
  | [], _, _, h => .inl h
  | n :: L, st, b, h => by
    rw [List.foldl_cons]
    rcases fstep_cases st n with e | ⟨a, ha, h1, e⟩ | ⟨a, ha, h1, h2, e⟩
    · rw [e]
      exact fold_keep h
    · rw [e]
      by_cases hb : (b.n : Int) = n
      · exact .inr (Int.le_trans (by show (b.n : Int) ≤ st.1.upto; omega) fold_up)
      · exact fold_keep (st := ({ st.1 with aside := dropA st.1.aside n }, st.2)) (dropA_mem.mpr ⟨h, hb⟩)
    · rw [e]
      by_cases hb : (b.n : Int) = n
      · have := findA_n ha
        exact .inr (Int.le_trans (by show (b.n : Int) ≤ (a.n : Int); omega) fold_up)
      · exact fold_keep (st := (({ st.1 with aside := dropA st.1.aside n } : HK).done a.n false a.worth, st.2 ++ [n])) (dropA_mem.mpr ⟨h, hb⟩)
theorem fold_sub : ∀ {L : List Int} {st : HK × List Int} {b : As}, b ∈ (L.foldl HK.fstep st).1.aside → b ∈ st.1.aside
  | [], _, _, h => h
  | n :: L, st, b, h => by
    rw [List.foldl_cons] at h
    have h := fold_sub h
    rcases fstep_cases st n with e | ⟨a, ha, h1, e⟩ | ⟨a, ha, h1, h2, e⟩
    · rwa [e] at h
    · rw [e] at h
      exact (dropA_mem.mp h).1
    · rw [e] at h
      exact (dropA_mem.mp h).1
theorem putA_new (as : List As) (a : As) : a ∈ putA as a := by
  unfold putA
  split
  · rename_i h
    obtain ⟨x, hx, e⟩ := List.any_eq_true.mp h
    exact List.mem_map.mpr ⟨x, hx, if_pos (of_decide_eq_true e)⟩
  · simp
theorem putA_old {as : List As} {a b : As} (h : b ∈ as) : b ∈ putA as a ∨ b.n = a.n := by
  by_cases e : b.n = a.n
  · exact .inr e
  · left
    unfold putA
    split
    · exact List.mem_map.mpr ⟨b, h, if_neg e⟩
    · exact List.mem_append_left _ h
theorem AsIn.same {cs : List Ch} {k : Nat} {a b : As} (ha : AsIn cs k a) (hb : AsIn cs k b) (e : a.n = b.n) : a = b := by
  obtain ⟨m, e1, e2, e3⟩ := ha
  obtain ⟨m', e4, e5, e6⟩ := hb
  have : m = m' := by omega
  subst this
  rw [e2] at e5
  cases a
  cases b
  simp only at e e3 e6 e5
  cases e5
  simp_all
structure Rel (h1 h2 : HK) : Prop where
  up : h2.upto ≤ h1.upto
  as : ∀ a ∈ h2.aside, a ∈ h1.aside ∨ (a.n : Int) ≤ h1.upto
theorem Rel.refl (h : HK) : Rel h h := ⟨Int.le_refl _, fun _ h => .inl h⟩
section
variable {nk : Nat} {cs : List Ch} {k : Nat} {h h1 h2 : HK} {l : Letter}
theorem hearK_keep (i : KI cs k h) (hl : IsLet nk cs l) {b : As} (hb : b ∈ h.aside) : b ∈ (hearK k h l).1.aside ∨ (b.n : Int) ≤ (hearK k h l).1.upto := by
  cases hl with
  | @change n c e =>
    simp only [hearK]
    split
    · rename_i hck
      subst hck
      unfold HK.chg
      split
      · exact .inl hb
      · split
        · rename_i h1 h2
          rcases putA_old (a := ⟨n + 1, c.worth, lof (cs.take n) c.key⟩) hb with q | q
          · exact .inl q
          · have hin : AsIn cs c.key ⟨n + 1, c.worth, lof (cs.take n) c.key⟩ := by
              refine ⟨n, rfl, ?_, rfl⟩
              rw [e]
              cases c
              cases h2.1
              rfl
            rw [(i.as b hb).same hin q]
            exact .inl (putA_new _ _)
        · exact fold_keep (st := (h.done (n + 1) c.set c.worth, [])) hb
    · exact .inl hb
  | @part n b e hn hbe hek =>
    unfold partL
    simp only [hearK]
    split
    · split
      · unfold HK.row
        split
        · rename_i r _ _
          exact fold_keep (st := ({ h with worth := r.1, since := r.2, upto := n }, [])) hb
        · exact .inl hb
      · exact .inl hb
    · exact .inl hb
  | @beat n hn =>
    unfold beatL
    simp only [hearK]
    split
    · unfold HK.beat
      split
      · exact .inl hb
      · exact .inl hb
    · exact .inl hb
theorem Rel.lost (i : KI cs k h1) (hk : k < nk) (hl : IsLet nk cs l) (r : Rel h1 h2) : Rel (hearK k h1 l).1 h2 := by
  have up := (hearK_told i hk hl).up
  refine ⟨Int.le_trans r.up up, fun a ha => ?_⟩
  rcases r.as a ha with q | q
  · exact hearK_keep i hl q
  · exact .inr (Int.le_trans q up)
theorem Rel.closed (i : KI cs k h1) (hk : k < nk) (hl : IsLet nk cs l) (r : Rel h1 h2) : Closed h2.aside (hearK k h1 l).1.upto := fun a ha hah => by
  have t := hearK_told i hk hl
  rcases (r.lost i hk hl).as a ha with q | q
  · have := t.inv.ahead a q
    omega
  · exact q
theorem Rel.both (i1 : KI cs k h1) (i2 : KI cs k h2) (hk : k < nk) (hl : IsLet nk cs l) (r : Rel h1 h2) : Rel (hearK k h1 l).1 (hearK k h2 l).1 := by
  have rl := r.lost i1 hk hl
  have rc := r.closed i1 hk hl
  have t1 := hearK_told i1 hk hl
  cases hl with
  | @change n c e =>
    by_cases hck : c.key = k
    · by_cases q1 : ((n + 1 : Nat) : Int) ≤ h2.upto
      · have e2 : (hearK k h2 (.change (n + 1) c (lof (cs.take n) c.key))).1 = h2 := by
          simp only [hearK, if_pos hck, HK.chg, if_pos q1]
        rw [e2]
        exact rl
      · by_cases q2 : c.set = false ∧ h2.upto < (lof (cs.take n) c.key : Int)
        · have e2 : (hearK k h2 (.change (n + 1) c (lof (cs.take n) c.key))).1 = { h2 with aside := putA h2.aside ⟨n + 1, c.worth, lof (cs.take n) c.key⟩ } := by
            simp only [hearK, if_pos hck, HK.chg, if_neg q1, if_pos q2]
          rw [e2]
          refine ⟨rl.up, fun a ha => ?_⟩
          rcases putA_mem ha with q | q
          · subst q
            simp only [hearK, if_pos hck, HK.chg]
            split
            · exact .inr (by assumption)
            · split
              · exact .inl (putA_new _ _)
              · exact .inr (free_up (h1.done (n + 1) c.set c.worth))
          · exact rl.as a q
        · have e2 : (hearK k h2 (.change (n + 1) c (lof (cs.take n) c.key))).1 = ((h2.done (n + 1) c.set c.worth).free).1 := by
            simp only [hearK, if_pos hck, HK.chg, if_neg q1, if_neg q2]
          have hbase : ((n + 1 : Nat) : Int) ≤ (hearK k h1 (.change (n + 1) c (lof (cs.take n) c.key))).1.upto := by
            simp only [hearK, if_pos hck, HK.chg]
            split
            · assumption
            · split
              · rename_i q3 q4
                refine absurd ⟨q4.1, ?_⟩ q2
                have := r.up
                omega
              · exact free_up (h1.done (n + 1) c.set c.worth)
          rw [e2]
          exact ⟨fold_le (st := (h2.done (n + 1) c.set c.worth, [])) hbase rc, fun a ha => rl.as a (fold_sub (st := (h2.done (n + 1) c.set c.worth, [])) ha)⟩
    · have e2 : (hearK k h2 (.change (n + 1) c (lof (cs.take n) c.key))).1 = h2 := by
        simp only [hearK, if_neg hck]
      rw [e2]
      exact rl
  | @part n b e hn hbe hek =>
    unfold partL at rl rc t1 ⊢
    by_cases hbk : b ≤ k
    · cases er : (partRows cs n b (e - b))[k - b]? with
      | none =>
        have e2 : (hearK k h2 (.part n b (partRows cs n b (e - b)))).1 = h2 := by simp only [hearK, if_pos hbk, er]
        rw [e2]
        exact rl
      | some x =>
        by_cases q1 : h2.upto < (n : Int)
        · have e2 : (hearK k h2 (.part n b (partRows cs n b (e - b)))).1 = (({ h2 with worth := x.1, since := x.2, upto := n } : HK).free).1 := by simp only [hearK, if_pos hbk, er, HK.row, if_pos q1]
          have hbase : (n : Int) ≤ (hearK k h1 (.part n b (partRows cs n b (e - b)))).1.upto := by
            simp only [hearK, if_pos hbk, er, HK.row]
            split
            · exact free_up { h1 with worth := x.1, since := x.2, upto := n }
            · show (n : Int) ≤ h1.upto
              omega
          rw [e2]
          exact ⟨fold_le (st := ({ h2 with worth := x.1, since := x.2, upto := n }, [])) hbase rc, fun a ha => rl.as a (fold_sub (st := ({ h2 with worth := x.1, since := x.2, upto := n }, [])) ha)⟩
        · have e2 : (hearK k h2 (.part n b (partRows cs n b (e - b)))).1 = h2 := by simp only [hearK, if_pos hbk, er, HK.row, if_neg q1]
          rw [e2]
          exact rl
    · have e2 : (hearK k h2 (.part n b (partRows cs n b (e - b)))).1 = h2 := by simp only [hearK, if_neg hbk]
      rw [e2]
      exact rl
  | @beat n hn =>
    unfold beatL at rl rc t1 ⊢
    cases er : ((List.range nk).map fun k => lof (cs.take n) k)[k]? with
    | none =>
      have e2 : (hearK k h2 (.beat n ((List.range nk).map fun k => lof (cs.take n) k))).1 = h2 := by simp only [hearK, er]
      rw [e2]
      exact rl
    | some x =>
      have e2 : ∀ h : HK, (hearK k h (.beat n ((List.range nk).map fun k => lof (cs.take n) k))).1 = h.beat n x := fun h => by simp only [hearK, er]
      rw [e2, e2] at *
      by_cases q1 : (x : Int) ≤ h2.upto ∧ h2.upto < (n : Int)
      · have e3 : h2.beat n x = { h2 with upto := n } := by rw [HK.beat, if_pos q1]
        rw [e3]
        refine ⟨?_, rl.as⟩
        show (n : Int) ≤ (h1.beat n x).upto
        unfold HK.beat
        have := r.up
        split
        · exact Int.le_refl _
        · rename_i q2
          by_cases q3 : h1.upto < (n : Int)
          · exact absurd ⟨by omega, q3⟩ q2
          · show (n : Int) ≤ h1.upto
            omega
      · have e3 : h2.beat n x = h2 := by rw [HK.beat, if_neg q1]
        rw [e3]
        exact rl
/-- what is known up to the same number is the same -/
theorem look_same (i1 : KI cs k h1) (i2 : KI cs k h2) (e : h2.upto = h1.upto) : lookM h1 = lookM h2 := by
  unfold lookM
  rw [e]
  split
  · rfl
  · obtain ⟨u, hu⟩ : ∃ u : Nat, h1.upto = u := ⟨h1.upto.toNat, by omega⟩
    rw [(i1.ok u hu).1, (i1.ok u hu).2, (i2.ok u (e.trans hu)).1, (i2.ok u (e.trans hu)).2]
end
theorem min_le {hs : List HK} {m : Int} {k : Nat} {h : HK} (e : minU hs = m) (hk : hs[k]? = some h) : m ≤ h.upto := by
  unfold minU at e
  cases q : (hs.map fun h => h.upto).min? with
  | none =>
    rw [List.min?_eq_none_iff, List.map_eq_nil_iff] at q
    rw [q] at hk
    cases hk
  | some x =>
    rw [q] at e
    have e : x = m := e
    subst e
    exact (List.min?_eq_some_iff.mp q).2 _ (List.mem_map.mpr ⟨h, List.mem_of_getElem? hk, rfl⟩)
theorem le_max {hs : List HK} {k : Nat} {h : HK} (hk : hs[k]? = some h) : (h.since : Int) ≤ maxS hs := by
  unfold maxS
  cases q : (hs.map fun h => (h.since : Int)).max? with
  | none =>
    rw [List.max?_eq_none_iff, List.map_eq_nil_iff] at q
    rw [q] at hk
    cases hk
  | some x => exact (List.max?_eq_some_iff.mp q).2 _ (List.mem_map.mpr ⟨h, List.mem_of_getElem? hk, rfl⟩)
/-- whole is the board, at its number -/
theorem whole_row {nk : Nat} {cs : List Ch} {hs : List HK} {n : Int} {ws : List Int} (i : AllI nk cs hs) (hne : 0 < nk) (h : wholeM hs = some (n, ws)) : ∃ m : Nat, n = m ∧ m ≤ cs.length ∧ ws = wrow nk (cs.take m) := by
  unfold wholeM at h
  split at h
  · cases h
  · rename_i h1
    split at h
    · rename_i h2
      cases h
      obtain ⟨m, em⟩ : ∃ m : Nat, minU hs = m := ⟨(minU hs).toNat, by omega⟩
      have hm : m ≤ cs.length := by
        obtain ⟨g, eg⟩ : ∃ g, hs[0]? = some g := ⟨hs[0]'(by rw [i.1]; exact hne), List.getElem?_eq_getElem _⟩
        have := min_le em eg
        have := (i.2 0 g eg).hi
        omega
      refine ⟨m, em, hm, ?_⟩
      apply List.ext_getElem?
      intro k
      rw [List.getElem?_map]
      cases ek : hs[k]? with
      | none =>
        have := List.getElem?_eq_none_iff.mp ek
        rw [List.getElem?_eq_none (by rw [wrow_len]; have := i.1; omega)]
        rfl
      | some g =>
        have hk : k < nk := by
          have := (List.getElem?_eq_some_iff.mp ek).1
          have := i.1
          omega
        rw [wrow_get hk]
        have q1 := min_le em ek
        have q2 := le_max ek
        have ki := i.2 k g ek
        obtain ⟨u, hu⟩ : ∃ u : Nat, g.upto = u := ⟨g.upto.toNat, by omega⟩
        obtain ⟨w1, w2⟩ := ki.ok u hu
        have w3 := (wof_const (cs := cs) (k := k) (i := m) (j := u) (by omega) (by omega)).1
        show some g.worth = some (wof (cs.take m) k)
        rw [w1, w3]
    · cases h
end Cu

namespace Cu
open PySem PySem.Spec PyProof.Rows L2
/-! what has been heard of is known, or put aside -/
theorem fold_told : ∀ {L : List Int} {st : HK × List Int} {n : Int}, n ∈ (L.foldl HK.fstep st).2 → n ∈ st.2 ∨ n ∈ asN st.1.aside
  | [], _, _, h => .inl h
  | m :: L, st, n, h => by
    rw [List.foldl_cons] at h
    have h := fold_told h
    rcases fstep_cases st m with e | ⟨a, ha, h1, e⟩ | ⟨a, ha, h1, h2, e⟩
    · rwa [e] at h
    · rw [e] at h
      rcases h with h | h
      · exact .inl h
      · exact .inr ((asN_drop _ _).subset h)
    · rw [e] at h
      rcases h with h | h
      · rcases List.mem_append.mp h with h | h
        · exact .inl h
        · rw [List.mem_singleton] at h
          have := findA_n ha
          exact .inr (by rw [h, ← this]; exact asN_of (findA_mem ha))
      · exact .inr ((asN_drop _ _).subset h)
/-- a letter of changes behind n0 alone -/
def Fresh (n0 : Nat) : Letter → Prop
  | .change n _ _ => n0 < n
  | .part n _ _ => n0 ≤ n
  | .beat _ _ => True
def Lo (n0 : Nat) (h : HK) : Prop := ∀ a ∈ h.aside, n0 < a.n
theorem hearK_lo {n0 k : Nat} {h : HK} {l : Letter} (lo : Lo n0 h) (fr : Fresh n0 l) : Lo n0 (hearK k h l).1 ∧ ∀ n ∈ (hearK k h l).2, (n0 : Int) < n := by
  have fre : ∀ g : HK, g.aside = h.aside → Lo n0 g.free.1 ∧ ∀ n ∈ g.free.2, (n0 : Int) < n := fun g eg => by
    refine ⟨fun a ha => lo a (by rw [← eg]; exact fold_sub (st := (g, [])) ha), fun n hn => ?_⟩
    rcases fold_told (st := (g, [])) hn with q | q
    · cases q
    · obtain ⟨a, ha, e⟩ := List.mem_map.mp q
      have := lo a (by rw [← eg]; exact ha)
      omega
  have no : Lo n0 h ∧ ∀ n ∈ ([] : List Int), (n0 : Int) < n := ⟨lo, fun _ q => (nomatch q)⟩
  cases l with
  | change n c ahead =>
    simp only [hearK]
    split
    · unfold HK.chg
      split
      · exact no
      · split
        · refine ⟨fun a ha => ?_, fun _ q => (nomatch q)⟩
          rcases putA_mem ha with q | q
          · rw [q]
            exact fr
          · exact lo a q
        · obtain ⟨q1, q2⟩ := fre (h.done n c.set c.worth) rfl
          refine ⟨q1, fun m hm => ?_⟩
          rcases List.mem_cons.mp hm with q | q
          · have : n0 < n := fr
            omega
          · exact q2 m q
    · exact no
  | part n b rows =>
    simp only [hearK]
    split
    · split
      · unfold HK.row
        split
        · rename_i r _ _
          exact fre { h with worth := r.1, since := r.2, upto := n } rfl
        · exact no
      · exact no
    · exact no
  | beat n lasts =>
    simp only [hearK]
    split
    · unfold HK.beat
      split
      · exact no
      · exact no
    · exact no
def Got (k : Nat) (l : Letter) (h : HK) : Prop := match l with
  | .change n c _ => c.key = k → (n : Int) ≤ h.upto ∨ (c.set = false ∧ (n : Int) ∈ asN h.aside)
  | .part n b rows => b ≤ k → k < b + rows.length → (n : Int) ≤ h.upto
  | .beat _ _ => True
theorem got_self (k : Nat) (h : HK) (l : Letter) : Got k l (hearK k h l).1 := by
  cases l with
  | change n c ahead =>
    intro hk
    simp only [hearK, if_pos hk]
    unfold HK.chg
    split
    · exact .inl (by assumption)
    · split
      · rename_i q
        exact .inr ⟨q.1, asN_of (putA_new h.aside ⟨n, c.worth, ahead⟩)⟩
      · exact .inl (free_up (h.done n c.set c.worth))
  | part n b rows =>
    intro h1 h2
    simp only [hearK, if_pos h1]
    obtain ⟨r, er⟩ : ∃ r, rows[k - b]? = some r := ⟨rows[k - b], List.getElem?_eq_getElem (by omega)⟩
    rw [er]
    show (n : Int) ≤ (h.row n r.1 r.2).1.upto
    unfold HK.row
    split
    · exact free_up { h with worth := r.1, since := r.2, upto := n }
    · show (n : Int) ≤ h.upto
      omega
  | beat n lasts => trivial
theorem got_keep {nk : Nat} {cs : List Ch} {k : Nat} {h : HK} {l l' : Letter} (i : KI cs k h) (hk : k < nk) (hl : IsLet nk cs l') (g : Got k l h) : Got k l (hearK k h l').1 := by
  have up := (hearK_told i hk hl).up
  cases l with
  | change n c ahead =>
    intro q
    rcases g q with g | ⟨gs, g⟩
    · exact .inl (Int.le_trans g up)
    · obtain ⟨a, ha, e⟩ := List.mem_map.mp g
      rcases hearK_keep i hl ha with z | z
      · exact .inr ⟨gs, by rw [← e]; exact asN_of z⟩
      · exact .inl (by rw [← e]; exact z)
  | part n b rows => exact fun q1 q2 => Int.le_trans (g q1 q2) up
  | beat n lasts => trivial
theorem lof_is (cs : List Ch) (k : Nat) : lof cs k = 0 ∨ ∃ j c, cs[j]? = some c ∧ c.key = k ∧ lof cs k = j + 1 := by
  induction cs using snoc_ind with
  | h0 => exact .inl rfl
  | h1 cs c ih =>
    rw [lof_snoc]
    by_cases h : c.key = k
    · rw [if_pos h]
      exact .inr ⟨cs.length, c, by simp, h, rfl⟩
    · rw [if_neg h]
      rcases ih with q | ⟨j, d, q1, q2, q3⟩
      · exact .inl q
      · exact .inr ⟨j, d, by rw [List.getElem?_append_left (List.getElem?_eq_some_iff.mp q1).1]; exact q1, q2, q3⟩
theorem take_get {cs : List Ch} {m j : Nat} {c : Ch} (h : (cs.take m)[j]? = some c) : cs[j]? = some c ∧ j < m := by
  have hj : j < m := by
    have := (List.getElem?_eq_some_iff.mp h).1
    rw [List.length_take] at this
    omega
  rw [List.getElem?_take_of_lt hj] at h
  exact ⟨h, hj⟩
/-- all changes behind n0 have been heard of, and n0 is known: nothing is put aside, all is known -/
theorem got_end {cs : List Ch} {k n0 : Nat} {h : HK} (i : KI cs k h) (h0 : (n0 : Int) ≤ h.upto) (g : ∀ m c, cs[m]? = some c → c.key = k → n0 < m + 1 → ((m + 1 : Nat) : Int) ≤ h.upto ∨ ((m + 1 : Nat) : Int) ∈ asN h.aside) :
    h.aside = [] ∧ (lof cs k : Int) ≤ h.upto := by
  have ind : ∀ N, ∀ a ∈ h.aside, a.n ≤ N → False := fun N => by
    induction N with
    | zero =>
      intro a ha hn
      have := (i.as a ha).le
      omega
    | succ N ih =>
      intro a ha hn
      have q1 := i.ahead a ha
      obtain ⟨m, e1, e2, e3⟩ := i.as a ha
      rcases lof_is (cs.take m) k with q | ⟨j, c, e4, e5, e6⟩
      · omega
      · obtain ⟨e7, e8⟩ := take_get e4
        rcases g j c e7 e5 (by omega) with z | z
        · omega
        · obtain ⟨b, hb, eb⟩ := List.mem_map.mp z
          exact ih b hb (by omega)
  have e : h.aside = [] := by
    cases ha : h.aside with
    | nil => rfl
    | cons a as => exact (ind a.n a (by rw [ha]; exact List.mem_cons_self) (Nat.le_refl _)).elim
  refine ⟨e, ?_⟩
  rcases lof_is cs k with q | ⟨j, c, e4, e5, e6⟩
  · omega
  · by_cases hj : n0 < j + 1
    · rcases g j c e4 e5 hj with z | z
      · omega
      · rw [e] at z
        cases z
    · omega
theorem full_look {cs : List Ch} {k : Nat} {h : HK} (i : KI cs k h) (hl : (lof cs k : Int) ≤ h.upto) : h.worth = wof cs k ∧ h.since = lof cs k := by
  obtain ⟨u, hu⟩ : ∃ u : Nat, h.upto = u := ⟨h.upto.toNat, by omega⟩
  have hi := i.hi
  obtain ⟨w1, w2⟩ := i.ok u hu
  have := wof_const (cs := cs) (k := k) (i := u) (j := cs.length) (by omega) (by rw [List.take_length]; omega)
  rw [List.take_length] at this
  exact ⟨w1.trans this.1.symm, w2.trans this.2.symm⟩
/-- behind a beat all keys are known up to it -/
theorem beat_whole {nk : Nat} {cs : List Ch} {hs : List HK} (i : AllI nk cs hs) (hne : 0 < nk) (hl : ∀ (k : Nat) (h : HK), hs[k]? = some h → (lof cs k : Int) ≤ h.upto) :
    wholeM (hear hs (beatL nk cs cs.length)) = some ((cs.length : Int), wrow nk cs) ∧ ∀ (k : Nat) (h : HK), (hear hs (beatL nk cs cs.length))[k]? = some h → h.upto = cs.length := by
  have il : IsLet nk cs (beatL nk cs cs.length) := .beat (Nat.le_refl _)
  have i' := i.hear il
  have hup : ∀ (k : Nat) (h : HK), (hear hs (beatL nk cs cs.length))[k]? = some h → h.upto = cs.length := fun k h e => by
    obtain ⟨g, eg, rfl⟩ := hear_inv e
    have hk : k < nk := by
      have := (List.getElem?_eq_some_iff.mp eg).1
      have := i.1
      omega
    have hi := (i.2 k g eg).hi
    have := hl k g eg
    unfold beatL
    simp only [hearK]
    rw [List.getElem?_map, List.getElem?_range hk]
    show (g.beat cs.length (lof (cs.take cs.length) k)).upto = _
    rw [List.take_length]
    unfold HK.beat
    split
    · rfl
    · rename_i q
      by_cases z : g.upto < (cs.length : Int)
      · exact absurd ⟨this, z⟩ q
      · show g.upto = _
        omega
  refine ⟨?_, hup⟩
  have hlen := i'.1
  obtain ⟨g0, e0⟩ : ∃ g, (hear hs (beatL nk cs cs.length))[0]? = some g := ⟨(hear hs (beatL nk cs cs.length))[0]'(by omega), List.getElem?_eq_getElem _⟩
  have em : minU (hear hs (beatL nk cs cs.length)) = cs.length := by
    unfold minU
    rw [List.min?_eq_some_iff.mpr ⟨List.mem_map.mpr ⟨g0, List.mem_of_getElem? e0, hup 0 g0 e0⟩, fun b hb => ?_⟩]
    · rfl
    · obtain ⟨g, hg, rfl⟩ := List.mem_map.mp hb
      obtain ⟨k, ek⟩ := List.getElem?_of_mem hg
      rw [hup k g ek]
      exact Int.le_refl _
  have es : maxS (hear hs (beatL nk cs cs.length)) ≤ cs.length := by
    unfold maxS
    cases q : ((hear hs (beatL nk cs cs.length)).map fun h => (h.since : Int)).max? with
    | none => show (0 : Int) ≤ _; omega
    | some x =>
      obtain ⟨g, hg, e⟩ := List.mem_map.mp (List.max?_eq_some_iff.mp q).1
      obtain ⟨k, ek⟩ := List.getElem?_of_mem hg
      have := ((i'.2 k g ek).ok cs.length (hup k g ek)).2
      have := lof_take_le cs cs.length k
      show x ≤ _
      omega
  unfold wholeM
  rw [em, if_neg (by omega), if_pos (by omega)]
  congr 2
  apply List.ext_getElem?
  intro k
  rw [List.getElem?_map]
  cases ek : (hear hs (beatL nk cs cs.length))[k]? with
  | none =>
    have := List.getElem?_eq_none_iff.mp ek
    rw [List.getElem?_eq_none (by rw [wrow_len]; omega)]
    rfl
  | some g =>
    have hk : k < nk := by
      have := (List.getElem?_eq_some_iff.mp ek).1
      omega
    rw [wrow_get hk]
    show some g.worth = some (wof cs k)
    rw [((i'.2 k g ek).ok cs.length (hup k g ek)).1, List.take_length]
/-! a story that goes on -/
theorem IsLet.on {nk : Nat} {cs ds : List Ch} {l : Letter} (h : IsLet nk cs l) : IsLet nk (cs ++ ds) l := by
  have tk : ∀ {n : Nat}, n ≤ cs.length → (cs ++ ds).take n = cs.take n := fun hn => List.take_append_of_le_length hn
  cases h with
  | @change n c e =>
    have hn := (List.getElem?_eq_some_iff.mp e).1
    rw [← tk (Nat.le_of_lt hn)]
    exact .change (by rw [List.getElem?_append_left hn]; exact e)
  | @part n b e hn hbe hek =>
    have : partL cs n b e = partL (cs ++ ds) n b e := by
      unfold partL partRows
      rw [tk hn]
    rw [this]
    exact .part (by rw [List.length_append]; omega) hbe hek
  | @beat n hn =>
    have : beatL nk cs n = beatL nk (cs ++ ds) n := by
      unfold beatL
      rw [tk hn]
    rw [this]
    exact .beat (by rw [List.length_append]; omega)
theorem partL_on {cs ds : List Ch} {n b e : Nat} (hn : n ≤ cs.length) : partL (cs ++ ds) n b e = partL cs n b e := by
  unfold partL partRows
  rw [List.take_append_of_le_length hn]
theorem few_from {cs : List Ch} {k n0 : Nat} {h : HK} (i : KI cs k h) (lo : Lo n0 h) (hn : n0 ≤ cs.length) : h.aside.length + n0 ≤ cs.length := by
  have h1 := rise_len (a := n0) (b := cs.length) (srt_lt i.nd) fun n hn => by
    obtain ⟨a, ha, e⟩ := List.mem_map.mp ((srt_perm _).mem_iff.mp hn)
    have := lo a ha
    have := (i.as a ha).le
    omega
  rw [(srt_perm _).length_eq, asN, List.length_map, if_pos (by omega)] at h1
  omega
theorem nodup_from {l : List Int} {a b : Nat} (nd : l.Nodup) (h : ∀ n ∈ l, (a : Int) < n ∧ n ≤ b) (hab : a ≤ b) : l.length + a ≤ b := by
  have h1 := rise_len (a := a) (b := b) (srt_lt nd) fun n hn => h n ((srt_perm l).mem_iff.mp hn)
  rw [(srt_perm l).length_eq, if_pos (by omega)] at h1
  omega
end Cu

namespace Cu
open PySem PySem.Spec PyProof.Rows L2
/-! a board: where it lies -/
structure BA where
  p : Addr
  dx : Addr
  l1 : Addr
  l2 : Addr
  l3 : Addr
def bF (B : BA) (keep many : Int) : List (Str × V) := [("now", .ref B.l1), ("keep", .int keep), ("rows", .ref B.l2), ("many", .int many), ("last", .ref B.l3)]
/-- the letters that a board keeps -/
def tailL (keep : Nat) (cs : List Ch) : List Letter := (lets cs).drop (cs.length - keep)
structure BR (K : PySem.W.Frag) (C : Addr) (B : BA) (nk keep : Nat) (cs : List Ch) (H : Hp) (c : Lg) : Prop where
  ex : ∃ xs, c = [(B.p, HO.ins C B.dx (bF B keep cs.length)), (B.l1, HO.lst ((wrow nk cs).map V.int)), (B.l2, HO.lst xs), (B.l3, HO.lst ((lrow nk cs).map V.int))] ∧ RpL K H ((tailL keep cs).map Letter.enc) xs
section
variable {K : PySem.W.Frag} {C : Addr} {B : BA} {nk keep : Nat} {cs : List Ch} {H H' : Hp} {c : Lg}
theorem BR.mono (r : BR K C B nk keep cs H c) (m : Mono H H') : BR K C B nk keep cs H' c :=
  let ⟨xs, e, q⟩ := r.ex
  ⟨xs, e, q.mono m⟩
theorem BR.at_p (r : BR K C B nk keep cs H c) (h : Has H c) : H B.p = some (.ins C B.dx (bF B keep cs.length)) := by
  obtain ⟨xs, rfl, _⟩ := r.ex
  exact h.head
theorem BR.at1 (r : BR K C B nk keep cs H c) (h : Has H c) : H B.l1 = some (.lst ((wrow nk cs).map V.int)) := by
  obtain ⟨xs, rfl, _⟩ := r.ex
  exact h.tail.head
theorem BR.at3 (r : BR K C B nk keep cs H c) (h : Has H c) : H B.l3 = some (.lst ((lrow nk cs).map V.int)) := by
  obtain ⟨xs, rfl, _⟩ := r.ex
  exact h.tail.tail.tail.head
theorem BR.at2 (r : BR K C B nk keep cs H c) (h : Has H c) : ∃ xs, H B.l2 = some (.lst xs) ∧ RpL K H ((tailL keep cs).map Letter.enc) xs := by
  obtain ⟨xs, rfl, q⟩ := r.ex
  exact ⟨xs, h.tail.tail.head, q⟩
end
/-- what a class of boards is -/
structure CBo (K : PySem.W.Frag) (C : Addr) : Prop where
  cl : Cls K C
  n1 : NoAttr K C "now"
  n2 : NoAttr K C "keep"
  n3 : NoAttr K C "rows"
  n4 : NoAttr K C "many"
  n5 : NoAttr K C "last"
theorem bF1 (B : BA) (a b : Int) : (bF B a b).lookup ("now" : Str) = some (.ref B.l1) := by rfl
theorem bF2 (B : BA) (a b : Int) : (bF B a b).lookup ("keep" : Str) = some (.int a) := by rfl
theorem bF3 (B : BA) (a b : Int) : (bF B a b).lookup ("rows" : Str) = some (.ref B.l2) := by rfl
theorem bF4 (B : BA) (a b : Int) : (bF B a b).lookup ("many" : Str) = some (.int b) := by rfl
theorem bF5 (B : BA) (a b : Int) : (bF B a b).lookup ("last" : Str) = some (.ref B.l3) := by rfl
theorem tailL_len (keep : Nat) (cs : List Ch) : (tailL keep cs).length = min cs.length keep := by
  unfold tailL
  rw [List.length_drop, lets_length]
  omega
theorem tailL_snoc (keep : Nat) (cs : List Ch) (ch : Ch) : tailL keep (cs ++ [ch]) = if cs.length + 1 ≤ keep then tailL keep cs ++ [Letter.change (cs.length + 1) ch (lof cs ch.key)] else (tailL keep cs ++ [Letter.change (cs.length + 1) ch (lof cs ch.key)]).drop 1 := by
  unfold tailL
  rw [lets_snoc, List.length_append]
  show List.drop (cs.length + 1 - keep) _ = _
  split
  · rw [show cs.length + 1 - keep = 0 by omega, show cs.length - keep = 0 by omega]
    rfl
  · rw [List.drop_append, List.drop_append, List.drop_drop, List.length_drop, lets_length]
    rw [show cs.length - keep + 1 = cs.length + 1 - keep by omega, show cs.length + 1 - keep - cs.length = 1 - (cs.length - (cs.length - keep)) by omega]
theorem wdS (b : Bool) : decide (V.str (wd b) = V.str "set") = b := by cases b <;> decide +kernel
/-! promises -/
def spBinit (K : PySem.W.Frag) (C : Addr) : Sp := fun vs H Q _ => vs.length = 3 ∧ ∃ (p dx : Addr) (nk keep : Nat), vs = [.ref p, .int nk, .int keep] ∧ 0 < nk ∧ nk ≤ 8 ∧ keep ≤ 20 ∧ H p = some (.ins C dx []) ∧
  ∀ (B : BA) (c : Lg) (H' : Hp), B.p = p → BR K C B nk keep [] H' c → Tr H [(p, .ins C dx [])] H' c → Q .non H'
def spBnumber (K : PySem.W.Frag) (C : Addr) : Sp := fun vs H Q _ => vs.length = 1 ∧ ∃ (B : BA) (nk keep : Nat) (cs : List Ch) (c : Lg), vs = [.ref B.p] ∧ BR K C B nk keep cs H c ∧ Has H c ∧ Q (.int cs.length) H
def spBworths (K : PySem.W.Frag) (C : Addr) : Sp := fun vs H Q _ => vs.length = 1 ∧ ∃ (B : BA) (nk keep : Nat) (cs : List Ch) (c : Lg), vs = [.ref B.p] ∧ BR K C B nk keep cs H c ∧ Has H c ∧ ∀ (r : Addr) (H' : Hp), Tr H [] H' [(r, .lst ((wrow nk cs).map V.int))] → Q (.ref r) H'
def spBlasts (K : PySem.W.Frag) (C : Addr) : Sp := fun vs H Q _ => vs.length = 1 ∧ ∃ (B : BA) (nk keep : Nat) (cs : List Ch) (c : Lg), vs = [.ref B.p] ∧ BR K C B nk keep cs H c ∧ Has H c ∧ ∀ (r : Addr) (H' : Hp), Tr H [] H' [(r, .lst ((lrow nk cs).map V.int))] → Q (.ref r) H'
def spBtail (K : PySem.W.Frag) (C : Addr) : Sp := fun vs H Q _ => vs.length = 1 ∧ ∃ (B : BA) (nk keep : Nat) (cs : List Ch) (c : Lg), vs = [.ref B.p] ∧ BR K C B nk keep cs H c ∧ Has H c ∧
  ∀ (r : Addr) (xs : List V) (H' : Hp), Tr H [] H' [(r, .lst xs)] → RpL K H' ((tailL keep cs).map Letter.enc) xs → Q (.ref r) H'
def spBchange (K : PySem.W.Frag) (C : Addr) : Sp := fun vs H Q _ => vs.length = 4 ∧ ∃ (B : BA) (nk keep : Nat) (cs : List Ch) (c : Lg) (ch : Ch), vs = [.ref B.p, .int ch.key, .str (wd ch.set), .int ch.worth] ∧ BR K C B nk keep cs H c ∧ Has H c ∧ ch.key < nk ∧ nk ≤ 8 ∧ keep ≤ 20 ∧
  ∀ (v : V) (c' : Lg) (H' : Hp), BR K C B nk keep (cs ++ [ch]) H' c' → Tr H c H' c' → Rp K H' (Letter.change (cs.length + 1) ch (lof cs ch.key)).enc v → Q v H'
def spBpart (K : PySem.W.Frag) (C : Addr) : Sp := fun vs H Q _ => vs.length = 3 ∧ ∃ (B : BA) (nk keep : Nat) (cs : List Ch) (c : Lg) (b e : Nat), vs = [.ref B.p, .int b, .int e] ∧ BR K C B nk keep cs H c ∧ Has H c ∧ b < e ∧ e ≤ nk ∧ nk ≤ 8 ∧
  ∀ (v : V) (H' : Hp), Grow H H' → Rp K H' (partL cs cs.length b e).enc v → Q v H'
def spBbeat (K : PySem.W.Frag) (C : Addr) : Sp := fun vs H Q _ => vs.length = 1 ∧ ∃ (B : BA) (nk keep : Nat) (cs : List Ch) (c : Lg), vs = [.ref B.p] ∧ BR K C B nk keep cs H c ∧ Has H c ∧
  ∀ (v : V) (H' : Hp), Grow H H' → Rp K H' (beatL nk cs cs.length).enc v → Q v H'
abbrev s_Board_init : Stmt := (inClass (top 12) 0)
theorem sc_Board_init : FnScope ["self", "keys", "keep", "key"] ["self", "keys", "keep"] (defScope s_Board_init) := ⟨rfl, rfl, rfl, by decide +kernel, rfl, by decide +kernel, by decide +kernel⟩

abbrev s_Board_number : Stmt := (inClass (top 12) 2)
theorem sc_Board_number : FnScope ["self"] ["self"] (defScope s_Board_number) := ⟨rfl, rfl, rfl, by decide +kernel, rfl, by decide +kernel, by decide +kernel⟩

abbrev s_Board_worths : Stmt := (inClass (top 12) 3)
theorem sc_Board_worths : FnScope ["self"] ["self"] (defScope s_Board_worths) := ⟨rfl, rfl, rfl, by decide +kernel, rfl, by decide +kernel, by decide +kernel⟩

abbrev s_Board_lasts : Stmt := (inClass (top 12) 4)
theorem sc_Board_lasts : FnScope ["self"] ["self"] (defScope s_Board_lasts) := ⟨rfl, rfl, rfl, by decide +kernel, rfl, by decide +kernel, by decide +kernel⟩

abbrev s_Board_tail : Stmt := (inClass (top 12) 5)
theorem sc_Board_tail : FnScope ["self"] ["self"] (defScope s_Board_tail) := ⟨rfl, rfl, rfl, by decide +kernel, rfl, by decide +kernel, by decide +kernel⟩

abbrev s_Board_change : Stmt := (inClass (top 12) 6)
theorem sc_Board_change : FnScope ["self", "key", "word", "worth", "letter"] ["self", "key", "word", "worth"] (defScope s_Board_change) := ⟨rfl, rfl, rfl, by decide +kernel, rfl, by decide +kernel, by decide +kernel⟩

abbrev s_Board_part : Stmt := (inClass (top 12) 7)
theorem sc_Board_part : FnScope ["self", "begin", "end", "rows", "key"] ["self", "begin", "end"] (defScope s_Board_part) := ⟨rfl, rfl, rfl, by decide +kernel, rfl, by decide +kernel, by decide +kernel⟩

abbrev s_Board_beat : Stmt := (inClass (top 12) 8)
theorem sc_Board_beat : FnScope ["self"] ["self"] (defScope s_Board_beat) := ⟨rfl, rfl, rfl, by decide +kernel, rfl, by decide +kernel, by decide +kernel⟩

end Cu

namespace Cu
open PySem PySem.Spec PyProof.Rows L2
section
variable {P : Program} {w : World} {K : PySem.W.Frag} {mg : Str → Option Value} {base : Heap} {C : Addr}
theorem ok_Binit {tk tk2 : Tok} (F : Kd K mg "Board" C "Board.__init__" s_Board_init) (Bm : Blt mg) (CBoard : CBo K C) (km_MOST_KEYS : mg "MOST_KEYS" = some (.int 8 tk)) (km_MOST_TAIL : mg "MOST_TAIL" = some (.int 20 tk2)) : Kf P w K mg base 1 "Board" C ["self", "keys", "keep"] (spBinit K C) := by
  refine F.ok sc_Board_init (fun _ _ _ _ _ _ us hl => match us, hl with | [_, _, _], _ => rfl) len_of fun qual f cdv A0 outer s H vs Q E hr h => ?_
  obtain ⟨_, p, dx, nk, keep, rfl, hk, hk8, hkp, hp, go⟩ := h
  refine ⟨_, (pss_cons (ps_if (PW.pt (pw_or (pt_not (pt_chain op_le op_le pe_int (pv 1) (pe_glob (v := .int 8) rfl km_MOST_KEYS ⟨_, rfl⟩))) (pw_or1 (pt_not (pt_chain op_le op_le pe_int (pv 2) (pe_glob (v := .int 20) rfl km_MOST_TAIL ⟨_, rfl⟩))))))
        (pss_one ps_never)
        pss_nil)
      (pss_cons (ps_fld (pv 0) (pe_I (pe_lc (own := [("key", 3)]) (g := (gName 3)) (tt := tYes) rfl sc_Board_init.nd (pi_range1 rfl Bm.range (pa_cons (pv 1) pa_nil)) (blkOk_by (N := ["self", "keys", "keep", "key"]) (sc := defScope s_Board_init) (by decide +kernel)) (fun _ _ _ _ _ => (pg_name (i := 3) sc_Board_init.nd rfl (Or.inl rfl))) (fun _ _ _ _ _ => pts_nil) (fun _ _ _ _ _ => pe_int))) rfl)
      (pss_cons (ps_fld (pv 0) (pv 2) rfl)
      (pss_cons (ps_fld (pv 0) (pe_lst pa_nil) rfl)
      (pss_cons (ps_fld (pv 0) pe_int rfl)
      (pss_one (ps_fld (pv 0) (pe_I (pe_lc (own := [("key", 3)]) (g := (gName 3)) (tt := tYes) rfl sc_Board_init.nd (pi_range1 rfl Bm.range (pa_cons (pv 1) pa_nil)) (blkOk_by (N := ["self", "keys", "keep", "key"]) (sc := defScope s_Board_init) (by decide +kernel)) (fun _ _ _ _ _ => (pg_name (i := 3) sc_Board_init.nd rfl (Or.inl rfl))) (fun _ _ _ _ _ => pts_nil) (fun _ _ _ _ _ => pe_int))) rfl))))))), ?_⟩
  have h0 := Has.one hp nins
  refine ⟨_, rfl, _, _, rfl, rfl, _, rfl, iteP (decide_eq_true (by omega)) ⟨_, _, rfl, rfl, _, rfl, iteM (by simp; omega) ?_⟩⟩
  refine ⟨_, rfl, _, _, rfl, rfl, _, rfl, iteP (decide_eq_true (by omega)) ⟨_, _, rfl, rfl, _, rfl, iteM (by simp; omega) ?_⟩⟩
  refine rd_const (v := .int 0) (by rfl) hk8 (fun _ => rfl) (fun _ _ _ q => q) fun p1 H1 t1 => ?_
  have s1 := (show Tr H [(p, .ins C dx [])] H1 [(p1, .lst (List.replicate nk (.int 0))), (p, .ins C dx [])] from t1.right (D := [(p, .ins C dx [])])).swap2
  refine ⟨_, rfl, p, C, dx, [], rfl, (s1.now h0).head, CBoard.cl, CBoard.n1, (by show 0 < 1000; decide), ?_⟩
  have s2 := s1.put (o' := .ins C dx [("now", .ref p1)]) h0 nins
  refine ⟨_, rfl, _, rfl, p, C, dx, [("now", .ref p1)], rfl, (s2.now h0).head, CBoard.cl, CBoard.n2, (by show 1 < 1000; decide), ?_⟩
  have s3 := s2.put (o' := .ins C dx [("now", .ref p1), ("keep", .int keep)]) h0 nins
  refine ⟨(by show 0 ≤ sizeLine; decide), fun p2 hp2 => ?_⟩
  have s4 := (s3.new (o := .lst []) hp2 nl).swap2
  refine ⟨_, rfl, p, C, dx, [("now", .ref p1), ("keep", .int keep)], rfl, (s4.now h0).head, CBoard.cl, CBoard.n3, (by show 2 < 1000; decide), ?_⟩
  have s5 := s4.put (o' := .ins C dx [("now", .ref p1), ("keep", .int keep), ("rows", .ref p2)]) h0 nins
  refine ⟨_, rfl, p, C, dx, [("now", .ref p1), ("keep", .int keep), ("rows", .ref p2)], rfl, (s5.now h0).head, CBoard.cl, CBoard.n4, (by show 3 < 1000; decide), ?_⟩
  have s6 := s5.put (o' := .ins C dx [("now", .ref p1), ("keep", .int keep), ("rows", .ref p2), ("many", .int 0)]) h0 nins
  refine rd_const (v := .int 0) (by rfl) hk8 (fun _ => rfl) (fun _ _ _ q => q) fun p3 H3 t3 => ?_
  have s7 := (s6.trans (t3.right (D := [(p, .ins C dx [("now", .ref p1), ("keep", .int keep), ("rows", .ref p2), ("many", .int 0)]), (p2, .lst []), (p1, .lst (List.replicate nk (.int 0)))]))).swap2
  refine ⟨_, rfl, p, C, dx, [("now", .ref p1), ("keep", .int keep), ("rows", .ref p2), ("many", .int 0)], rfl, (s7.now h0).head, CBoard.cl, CBoard.n5, (by show 4 < 1000; decide), ?_⟩
  have s8 := s7.put (o' := .ins C dx [("now", .ref p1), ("keep", .int keep), ("rows", .ref p2), ("many", .int 0), ("last", .ref p3)]) h0 nins
  have e0 : ∀ n : Nat, (List.replicate n (0 : Int)).map V.int = List.replicate n (V.int 0) := fun n => List.map_replicate
  refine go ⟨p, dx, p1, p2, p3⟩ _ _ rfl ⟨[], ?_, by unfold tailL; rw [lets_nil, List.drop_nil]; exact .nil⟩ (s8.perm (List.Perm.cons _ (List.reverse_perm [(p1, HO.lst (List.replicate nk (V.int 0))), (p2, HO.lst []), (p3, HO.lst (List.replicate nk (V.int 0)))])))
  rw [wrow_nil, lrow_nil, e0]
  rfl
end
end Cu

namespace Cu
open PySem PySem.Spec PyProof.Rows L2
section
variable {P : Program} {w : World} {K : PySem.W.Frag} {mg : Str → Option Value} {base : Heap} {C : Addr}
theorem ok_Bnumber (F : Md K C "number" "Board.number" s_Board_number) (Bm : Blt mg) (CBoard : CBo K C) : Mf P w K mg base 1 C "number" ["self"] (spBnumber K C) := by
  refine F.ok sc_Board_number (fun _ _ _ _ _ _ us hl => match us, hl with | [_], _ => rfl) len_of fun qual f cdv A0 outer s H vs Q E hr h => ?_
  obtain ⟨_, B, nk, keep, cs, c, rfl, r, hc, go⟩ := h
  refine ⟨_, (pss_one (ps_ret (pe_fld (pv 0) rfl))), ?_⟩
  exact ⟨_, rfl, _, C, _, _, _, rfl, r.at_p hc, CBoard.cl, CBoard.n4, bF4 B _ _, go⟩
end
end Cu

namespace Cu
open PySem PySem.Spec PyProof.Rows L2
section
variable {P : Program} {w : World} {K : PySem.W.Frag} {mg : Str → Option Value} {base : Heap} {C : Addr}
theorem ok_Bworths (F : Md K C "worths" "Board.worths" s_Board_worths) (Bm : Blt mg) (CBoard : CBo K C) : Mf P w K mg base 1 C "worths" ["self"] (spBworths K C) := by
  refine F.ok sc_Board_worths (fun _ _ _ _ _ _ us hl => match us, hl with | [_], _ => rfl) len_of fun qual f cdv A0 outer s H vs Q E hr h => ?_
  obtain ⟨_, B, nk, keep, cs, c, rfl, r, hc, go⟩ := h
  refine ⟨_, (pss_one (ps_ret (pe_callTy call_list_of rfl Bm.list (by decide +kernel) (pa_cons (pe_fld (pv 0) rfl) pa_nil)))), ?_⟩
  exact ⟨_, rfl, _, C, _, _, _, rfl, r.at_p hc, CBoard.cl, CBoard.n1, bF1 B _ _, _, _, rfl, .inl (SqL.of (r.at1 hc)), fun l hl => go l _ ((Tr.refl H []).new hl nl)⟩
end
end Cu

namespace Cu
open PySem PySem.Spec PyProof.Rows L2
section
variable {P : Program} {w : World} {K : PySem.W.Frag} {mg : Str → Option Value} {base : Heap} {C : Addr}
theorem ok_Blasts (F : Md K C "lasts" "Board.lasts" s_Board_lasts) (Bm : Blt mg) (CBoard : CBo K C) : Mf P w K mg base 1 C "lasts" ["self"] (spBlasts K C) := by
  refine F.ok sc_Board_lasts (fun _ _ _ _ _ _ us hl => match us, hl with | [_], _ => rfl) len_of fun qual f cdv A0 outer s H vs Q E hr h => ?_
  obtain ⟨_, B, nk, keep, cs, c, rfl, r, hc, go⟩ := h
  refine ⟨_, (pss_one (ps_ret (pe_callTy call_list_of rfl Bm.list (by decide +kernel) (pa_cons (pe_fld (pv 0) rfl) pa_nil)))), ?_⟩
  exact ⟨_, rfl, _, C, _, _, _, rfl, r.at_p hc, CBoard.cl, CBoard.n5, bF5 B _ _, _, _, rfl, .inl (SqL.of (r.at3 hc)), fun l hl => go l _ ((Tr.refl H []).new hl nl)⟩
end
end Cu

namespace Cu
open PySem PySem.Spec PyProof.Rows L2
section
variable {P : Program} {w : World} {K : PySem.W.Frag} {mg : Str → Option Value} {base : Heap} {C : Addr}
theorem ok_Btail (F : Md K C "tail" "Board.tail" s_Board_tail) (Bm : Blt mg) (CBoard : CBo K C) : Mf P w K mg base 1 C "tail" ["self"] (spBtail K C) := by
  refine F.ok sc_Board_tail (fun _ _ _ _ _ _ us hl => match us, hl with | [_], _ => rfl) len_of fun qual f cdv A0 outer s H vs Q E hr h => ?_
  obtain ⟨_, B, nk, keep, cs, c, rfl, r, hc, go⟩ := h
  refine ⟨_, (pss_one (ps_ret (pe_callTy call_list_of rfl Bm.list (by decide +kernel) (pa_cons (pe_fld (pv 0) rfl) pa_nil)))), ?_⟩
  obtain ⟨xs, e2, q2⟩ := r.at2 hc
  exact ⟨_, rfl, _, C, _, _, _, rfl, r.at_p hc, CBoard.cl, CBoard.n3, bF3 B _ _, _, _, rfl, .inl (SqL.of e2), fun l hl => go l xs _ ((Tr.refl H []).new hl nl) (q2.mono (Mono.new hl))⟩
end
end Cu

namespace Cu
open PySem PySem.Spec PyProof.Rows L2
section
variable {P : Program} {w : World} {K : PySem.W.Frag} {mg : Str → Option Value} {base : Heap} {C : Addr}
theorem ok_Bpart (F : Md K C "part" "Board.part" s_Board_part) (Bm : Blt mg) (CBoard : CBo K C) : Mf P w K mg base 1 C "part" ["self", "begin", "end"] (spBpart K C) := by
  refine F.ok sc_Board_part (fun _ _ _ _ _ _ us hl => match us, hl with | [_, _, _], _ => rfl) len_of fun qual f cdv A0 outer s H vs Q E hr h => ?_
  obtain ⟨_, B, nk, keep, cs, c, b, e, rfl, r, hc, hbe, hek, hk8, go⟩ := h
  refine ⟨_, (pss_cons (ps_if (pt_not (pt_chain3 op_le op_lt op_le pe_int (pv 1) (pv 2) (pe_callB call_len_seq rfl Bm.len (by decide +kernel) (pa_cons (pe_fld (pv 0) rfl) pa_nil))))
        (pss_one ps_never)
        pss_nil)
      (pss_cons (ps_setLc (i := 3) (own := [("key", 4)]) (g := (gName 4)) (tt := tYes) rfl sc_Board_part.nd rfl rfl (sw_true rfl rfl rfl (by decide +kernel)) (pi_range2 rfl Bm.range (pa_cons (pv 1) (pa_cons (pv 2) pa_nil))) (blkOk_by (N := ["self", "begin", "end", "rows", "key"]) (sc := defScope s_Board_part) (by decide +kernel)) (fun _ _ _ _ _ => (pg_name (i := 4) sc_Board_part.nd rfl (Or.inl rfl))) (fun _ _ _ _ _ => pts_nil) (fun _ _ _ _ _ => (pe_tup (pa_cons (pe_ix (ix_listK K rfl) (pe_fldK K rfl (pv 0) rfl) (pv 4) (fun _ _ => rfl)) (pa_cons (pe_ix (ix_listK K rfl) (pe_fldK K rfl (pv 0) rfl) (pv 4) (fun _ _ => rfl)) pa_nil)))))
      (pss_one (ps_ret (pe_tup (pa_cons pe_str (pa_cons (pe_fld (pv 0) rfl) (pa_cons (pv 1) (pa_cons (pe_callTy call_tuple_of rfl Bm.tuple (by decide +kernel) (pa_cons (pv 3) pa_nil)) pa_nil))))))))), ?_⟩
  refine ⟨_, rfl, _, _, rfl, rfl, _, rfl, iteP (decide_eq_true (by omega)) ⟨_, rfl, _, _, rfl, rfl, _, rfl, iteP (decide_eq_true (by omega)) ⟨_, rfl, _, C, _, _, _, rfl, r.at_p hc, CBoard.cl, CBoard.n1, bF1 B _ _, _, _, rfl, .inl (SqL.of (r.at1 hc)), _, _, rfl, rfl, _, rfl, iteM (by rw [List.length_map, wrow_len]; simp; omega) ?_⟩⟩⟩
  have up : ∀ {H2 : Hp} {O : Lg}, Tr H [] H2 O → Has H2 c ∧ BR K C B nk keep cs H2 c := fun t => ⟨(t.has c hc).right, r.mono t.mono⟩
  refine ⟨_, rfl, _, rfl, _, _, rfl, ⟨by omega, by omega, by omega, by omega⟩, fun D hD => ?_⟩
  refine lc_range (lo := b) (n := ((e : Int) - b).toNat) (fun i H2 => ∃ xs, Tr H [] H2 [(D, .lst xs)] ∧ RpL K H2 ((partRows cs cs.length b i).map fun r => .tuple [.int r.1, .int r.2]) xs)
    ⟨[], (Tr.refl H []).new hD nl, .nil⟩ ?_ ?_
  · rintro i H2 hi ⟨xs, t2, rx⟩
    have hbi : b + i < nk := by omega
    have e1 : ((b : Int) + i) = ((b + i : Nat) : Int) := by omega
    have u := up t2
    refine ⟨rfl, ?_⟩
    refine ⟨_, rfl, _, C, _, _, _, rfl, u.2.at_p u.1, CBoard.cl, CBoard.n1, bF1 B _ _, _, rfl, _, _, _, _, rfl, rfl, SqL.of (u.2.at1 u.1), at_of (j := b + i) e1 (by rw [List.getElem?_map, wrow_get hbi]; rfl),
      _, rfl, _, C, _, _, _, rfl, u.2.at_p u.1, CBoard.cl, CBoard.n5, bF5 B _ _, _, rfl, _, _, _, _, rfl, rfl, SqL.of (u.2.at3 u.1), at_of (j := b + i) e1 (by rw [List.getElem?_map, lrow_get hbi]; rfl), ⟨(by show 2 ≤ sizeLine; decide), fun t ht => ?_⟩⟩
    obtain ⟨s3, r3⟩ := snoc_tup (K := K) (ds := [.int (wof cs (b + i)), .int (lof cs (b + i))]) t2.own ht (.cons .int (.cons .int .nil))
    have hx : xs.length = i := by rw [rx.length, List.length_map, partRows, List.length_map, List.length_range]
    refine ⟨xs, by rw [upd_ne (ne_of_none t2.own.head ht)]; exact t2.own.head, by rw [hx]; exact small1000 (by omega), xs ++ [.ref t], t2.trans s3, ?_⟩
    unfold partRows at rx ⊢
    rw [List.take_length] at rx ⊢
    rw [List.range_succ, List.map_append, List.map_append]
    exact (rx.mono s3.mono).snoc r3
  · rintro H2 ⟨xs, t2, rx⟩
    have e2 : ((e : Int) - b).toNat = e - b := by omega
    rw [e2] at rx
    have u := up t2
    refine ⟨_, rfl, _, C, _, _, _, rfl, u.2.at_p u.1, CBoard.cl, CBoard.n4, bF4 B _ _, _, rfl, _, rfl, D, xs, rfl, .inl ⟨SqL.of t2.own.head, fun l hl => ⟨(by show 4 ≤ sizeLine; decide), fun t ht => ?_⟩⟩⟩
    have g := ((t2.old (o := .tup xs) hl).old (o := .tup [.str "part", .int cs.length, .int b, .ref l]) ht).tail
    refine go _ _ g (.tup upd_same (.cons .str (.cons .int (.cons .int (.cons (.tup ((Mono.new ht) _ _ upd_same trivial) (rx.mono ((Mono.new hl).trans (Mono.new ht)))) .nil)))))
end
end Cu

namespace Cu
open PySem PySem.Spec PyProof.Rows L2
section
variable {P : Program} {w : World} {K : PySem.W.Frag} {mg : Str → Option Value} {base : Heap} {C : Addr}
theorem ok_Bchange (F : Md K C "change" "Board.change" s_Board_change) (Bm : Blt mg) (CBoard : CBo K C) : Mf P w K mg base 1 C "change" ["self", "key", "word", "worth"] (spBchange K C) := by
  refine F.ok sc_Board_change (fun _ _ _ _ _ _ us hl => match us, hl with | [_, _, _, _], _ => rfl) len_of fun qual f cdv A0 outer s H vs Q E hr h => ?_
  obtain ⟨_, B, nk, keep, cs, c, ch, rfl, r, hc, hk, hk8, hkp, go⟩ := h
  refine ⟨_, (pss_cons (ps_if (pt_not (pt_chain op_le op_lt pe_int (pv 1) (pe_callB call_len_seq rfl Bm.len (by decide +kernel) (pa_cons (pe_fld (pv 0) rfl) pa_nil))))
        (pss_one ps_never)
        pss_nil)
      (pss_cons (ps_if (pt_cmpR op_notIn_seq (pv 2) (pe_tup (pa_cons pe_str (pa_cons pe_str pa_nil))) (by rfl))
        (pss_one ps_never)
        pss_nil)
      (pss_cons (ps_fld (pv 0) (pe_op op_add (pe_fld (pv 0) rfl) pe_int) rfl)
      (pss_cons (ps_set (i := 4) sc_Board_change.nd rfl (Or.inl rfl) (pe_tup (pa_cons pe_str (pa_cons (pe_fld (pv 0) rfl) (pa_cons (pv 1) (pa_cons (pv 2) (pa_cons (pv 3) (pa_cons (pe_ix ix_list (pe_fld (pv 0) rfl) (pv 1) (fun _ _ => rfl)) pa_nil))))))))
      (pss_cons (ps_mid (ps_asg (pe_ifExp (pt_cmpR op_eq (pv 2) pe_str (nomark _)) (pv 3) (pe_op op_add (pe_ix ix_list (pe_fld (pv 0) rfl) (pv 1) (fun _ _ => rfl)) (pv 3))) (pg_sub (pe_fld (pv 0) rfl) (pv 1) set_list)))
      (pss_cons (ps_asg (pe_fld (pv 0) rfl) (pg_sub (pe_fld (pv 0) rfl) (pv 1) set_list))
      (pss_cons (ps_expr (pe_bm PySem.F.plainAttrs_list PySem.F.slot_list_append PySem.F.type_list_append mt_append (pe_fld (pv 0) rfl) (pa_cons (pv 4) pa_nil)))
      (pss_cons (ps_mid (ps_if (pt_cmpR op_gt (pe_callB call_len_seq rfl Bm.len (by decide +kernel) (pa_cons (pe_fld (pv 0) rfl) pa_nil)) (pe_fld (pv 0) rfl) (nomark _))
        (pss_one (ps_expr (pe_bm PySem.F.plainAttrs_list PySem.F.slot_list_pop PySem.F.type_list_pop mt_popAt (pe_fld (pv 0) rfl) (pa_cons pe_int pa_nil))))
        pss_nil))
      (pss_one (ps_ret (pv 4))))))))))), ?_⟩
  refine ⟨_, rfl, _, _, rfl, rfl, _, rfl, iteP (decide_eq_true (by omega)) ⟨_, rfl, _, C, _, _, _, rfl, r.at_p hc, CBoard.cl, CBoard.n1, bF1 B _ _, _, _, rfl, .inl (SqL.of (r.at1 hc)), _, _, rfl, rfl, _, rfl, iteM (by rw [List.length_map, wrow_len]; simp; omega) ?_⟩⟩
  refine ⟨_, rfl, ⟨(by show 2 ≤ sizeLine; decide), fun t1 ht1 => ⟨t1, _, rfl, .inr (SqT.of upd_same), rfl, rfl, _, rfl, iteM (by cases ch.set <;> decide +kernel) ?_⟩⟩⟩
  obtain ⟨xs, ec, rxs⟩ := r.ex
  subst ec
  have u0 := (Tr.refl H [(B.p, HO.ins C B.dx (bF B keep cs.length)), (B.l1, HO.lst ((wrow nk cs).map V.int)), (B.l2, HO.lst xs), (B.l3, HO.lst ((lrow nk cs).map V.int))]).old (o := .tup [V.str "set", .str "add"]) ht1
  have h0 := u0.now hc
  have n1 : ((cs.length : Int) + 1) = ((cs.length + 1 : Nat) : Int) := by omega
  refine ⟨_, rfl, _, C, _, _, _, rfl, h0.head, CBoard.cl, CBoard.n4, bF4 B _ _, _, _, rfl, rfl, _, rfl, B.p, C, B.dx, _, rfl, h0.head, CBoard.cl, CBoard.n4, (by show 5 < 1000; decide), ?_⟩
  have u1 := u0.put (o' := .ins C B.dx (bF B keep ((cs.length : Int) + 1))) hc nins
  have h1 := u1.now hc
  have gl : (lrow nk cs)[ch.key]? = some (lof cs ch.key : Int) := lrow_get hk
  have gw : (wrow nk cs)[ch.key]? = some (wof cs ch.key) := wrow_get hk
  -- letter
  refine ⟨_, rfl, _, C, _, _, _, rfl, h1.head, CBoard.cl, CBoard.n4, bF4 B _ _, _, rfl, _, rfl, _, rfl, _, rfl, _, C, _, _, _, rfl, h1.head, CBoard.cl, CBoard.n5, bF5 B _ _, _, rfl, _, _, _, _, rfl, rfl, SqL.of h1.tail.tail.tail.head, at_of (j := ch.key) rfl (by rw [List.getElem?_map, gl]; rfl), ⟨(by show 6 ≤ sizeLine; decide), fun tl htl => ?_⟩⟩
  have u2 := u1.old (o := .tup [V.str "change", .int ((cs.length : Int) + 1), .int ch.key, .str (wd ch.set), .int ch.worth, .int (lof cs ch.key)]) htl
  have h2 := u2.now hc
  have htl2 : (upd (upd (upd H t1 (.tup [V.str "set", .str "add"])) B.p (.ins C B.dx (bF B keep ((cs.length : Int) + 1)))) tl (.tup [V.str "change", .int ((cs.length : Int) + 1), .int ch.key, .str (wd ch.set), .int ch.worth, .int (lof cs ch.key)])) tl = some (HO.tup [V.str "change", .int ((cs.length : Int) + 1), .int ch.key, .str (wd ch.set), .int ch.worth, .int (lof cs ch.key)]) := upd_same
  -- self.now[key] = ..
  have ix1 : ∀ (g : List Int), g.length = nk → ixN (g.map V.int).length (ch.key : Int) = some ch.key := fun g e => ixN_nat (by rw [List.length_map, e]; exact hk)
  have ew : (wrow nk (cs ++ [ch])).map V.int = ((wrow nk cs).map V.int).set ch.key (.int (wst ch.key (wof cs ch.key) ch)) := by rw [wrow_snoc, List.map_set]
  have el : (lrow nk (cs ++ [ch])).map V.int = ((lrow nk cs).map V.int).set ch.key (.int ((cs.length + 1 : Nat) : Int)) := by rw [lrow_snoc, List.map_set]
  refine rd_mid (fun σ' H' => σ' = [some (.ref B.p), some (.int ch.key), some (.str (wd ch.set)), some (.int ch.worth), some (.ref tl)] ∧ H' = upd (upd (upd (upd H t1 (.tup [V.str "set", .str "add"])) B.p (.ins C B.dx (bF B keep ((cs.length : Int) + 1)))) tl (.tup [V.str "change", .int ((cs.length : Int) + 1), .int ch.key, .str (wd ch.set), .int ch.worth, .int (lof cs ch.key)])) B.l1 (.lst ((wrow nk (cs ++ [ch])).map V.int))) ?_ ?_
  · refine ⟨_, rfl, rfl, _, rfl, ite2 (fun hs => ?_) fun hs => ?_⟩
    · rw [wdS] at hs
      refine ⟨_, rfl, _, rfl, _, C, _, _, _, rfl, h2.head, CBoard.cl, CBoard.n1, bF1 B _ _, _, rfl, _, _, _, _, rfl, rfl, h2.tail.head, ix1 _ (wrow_len nk cs), rfl, ?_⟩
      exact congrArg (fun z => upd _ _ (HO.lst z)) (by rw [ew, wst, if_pos rfl, if_pos hs, Int.zero_add])
    · rw [wdS] at hs
      refine ⟨_, rfl, _, C, _, _, _, rfl, h2.head, CBoard.cl, CBoard.n1, bF1 B _ _, _, rfl, _, _, _, _, rfl, rfl, SqL.of h2.tail.head, at_of (j := ch.key) rfl (by rw [List.getElem?_map, gw]; rfl), _, rfl, _, _, rfl, rfl, ?_⟩
      refine ⟨_, rfl, _, C, _, _, _, rfl, h2.head, CBoard.cl, CBoard.n1, bF1 B _ _, _, rfl, _, _, _, _, rfl, rfl, h2.tail.head, ix1 _ (wrow_len nk cs), rfl, ?_⟩
      exact congrArg (fun z => upd _ _ (HO.lst z)) (by rw [ew, wst, if_pos rfl, if_neg hs])
  rintro _ _ ⟨rfl, rfl⟩
  have u3 := (u2.swap2.put (o' := .lst ((wrow nk (cs ++ [ch])).map V.int)) hc nl).swap2
  have h3 := u3.now hc
  -- self.last[key] = self.many
  refine ⟨_, rfl, _, C, _, _, _, rfl, h3.head, CBoard.cl, CBoard.n4, bF4 B _ _, _, rfl, _, C, _, _, _, rfl, h3.head, CBoard.cl, CBoard.n5, bF5 B _ _, _, rfl, _, _, _, _, rfl, rfl, h3.tail.tail.tail.head, ix1 _ (lrow_len nk cs), ?_⟩
  have u4 := ((u3.perm (List.reverse_perm _).symm).put (o' := .lst (((lrow nk cs).map V.int).set ch.key (.int ((cs.length : Int) + 1)))) hc nl).perm (List.reverse_perm _).symm
  have h4 := u4.now hc
  -- self.rows.append(letter)
  have hxs : xs.length ≤ 20 := by
    rw [rxs.length, List.length_map, tailL_len]
    omega
  refine ⟨_, rfl, _, C, _, _, _, rfl, h4.head, CBoard.cl, CBoard.n3, bF3 B _ _, .inl ⟨rfl, _, SqL.of h4.tail.tail.head⟩, _, rfl, _, _, _, rfl, rfl, h4.tail.tail.head, small1000 (by omega), ?_⟩
  have u5 := ((((u4.perm (List.reverse_perm _).symm).swap2.put (o' := .lst (xs ++ [.ref tl])) hc nl).swap2).perm (List.reverse_perm _).symm)
  have h5 := u5.now hc
  have m25 := ((h2.swap2.mono_put (o' := .lst ((wrow nk (cs ++ [ch])).map V.int))).trans ((h3.perm (List.reverse_perm _).symm).mono_put (o' := .lst (((lrow nk cs).map V.int).set ch.key (.int ((cs.length : Int) + 1)))))).trans ((h4.perm (List.reverse_perm _).symm).swap2.mono_put (o' := .lst (xs ++ [.ref tl])))
  have htl5 := m25 tl _ htl2 trivial
  have rl := Rp.tup (K := K) (ds := [.str "change", .int ((cs.length + 1 : Nat) : Int), .int ch.key, .str (wd ch.set), .int ch.worth, .int (lof cs ch.key)]) htl5 (by
    rw [← n1]
    exact .cons .str (.cons .int (.cons .int (.cons .str (.cons .int (.cons .int .nil))))))
  have rxs5 := (rxs.mono u5.mono).snoc rl
  have e5 : (tailL keep cs).map Letter.enc ++ [PyData.tuple [.str "change", .int ((cs.length + 1 : Nat) : Int), .int ch.key, .str (wd ch.set), .int ch.worth, .int (lof cs ch.key)]] = (tailL keep cs ++ [Letter.change (cs.length + 1) ch (lof cs ch.key)]).map Letter.enc := by
    rw [List.map_append]
    rfl
  rw [e5] at rxs5
  have hx5 : xs.length = min cs.length keep := by rw [rxs.length, List.length_map, tailL_len]
  have efin : ∀ (ys : List V) (H' : Hp), Tr H [(B.p, HO.ins C B.dx (bF B keep cs.length)), (B.l1, HO.lst ((wrow nk cs).map V.int)), (B.l2, HO.lst xs), (B.l3, HO.lst ((lrow nk cs).map V.int))] H'
      [(B.p, HO.ins C B.dx (bF B keep ((cs.length : Int) + 1))), (B.l1, HO.lst ((wrow nk (cs ++ [ch])).map V.int)), (B.l2, HO.lst ys), (B.l3, HO.lst (((lrow nk cs).map V.int).set ch.key (.int ((cs.length : Int) + 1))))] →
      RpL K H' ((tailL keep (cs ++ [ch])).map Letter.enc) ys → Rp K H' (Letter.change (cs.length + 1) ch (lof cs ch.key)).enc (.ref tl) → Q (.ref tl) H' := fun ys H' u q ql => by
    refine go _ _ H' ⟨ys, ?_, q⟩ u ql
    rw [n1, ← el, List.length_append]
    rfl
  refine rd_mid (fun σ' H' => σ' = [some (.ref B.p), some (.int ch.key), some (.str (wd ch.set)), some (.int ch.worth), some (.ref tl)] ∧ Q (.ref tl) H') ?_ ?_
  · refine ⟨_, rfl, _, C, _, _, _, rfl, h5.head, CBoard.cl, CBoard.n3, bF3 B _ _, _, _, rfl, .inl (SqL.of h5.tail.tail.head), _, rfl, _, C, _, _, _, rfl, h5.head, CBoard.cl, CBoard.n2, bF2 B _ _, _, _, rfl, rfl, _, rfl, ite2 (fun h0 => ?_) fun h0 => ?_⟩
    · have hgt := of_decide_eq_true h0
      rw [List.length_append, List.length_singleton] at hgt
      obtain ⟨y, ys, ey⟩ : ∃ y ys, xs ++ [V.ref tl] = y :: ys := by
        cases xs with
        | nil => exact ⟨_, _, rfl⟩
        | cons a b => exact ⟨_, _, rfl⟩
      refine ⟨_, rfl, _, C, _, _, _, rfl, h5.head, CBoard.cl, CBoard.n3, bF3 B _ _, .inl ⟨rfl, _, SqL.of h5.tail.tail.head⟩, B.l2, _, 0, 0, y, rfl, rfl, h5.tail.tail.head, by decide, by decide, (by rw [List.length_append, List.length_singleton]; simp [seqIndex?]), (by rw [ey]; rfl), rfl, ?_⟩
      have u6 := ((((u5.perm (List.reverse_perm _).symm).swap2.put (o' := .lst ((xs ++ [V.ref tl]).eraseIdx 0)) hc nl).swap2).perm (List.reverse_perm _).symm)
      have m6 := (h5.perm (List.reverse_perm _).symm).swap2.mono_put (o' := .lst ((xs ++ [V.ref tl]).eraseIdx 0))
      refine efin _ _ u6 ?_ (rl.mono m6)
      have ed : (xs ++ [V.ref tl]).drop 1 = (xs ++ [V.ref tl]).eraseIdx 0 := by rw [List.eraseIdx_zero, List.drop_one]
      have q := (rxs5.drop 1).mono m6
      rw [ed] at q
      rw [tailL_snoc, if_neg (by omega), List.map_drop]
      exact q
    · have hle : ¬ ((keep : Int) < ((xs ++ [V.ref tl]).length : Nat)) := fun q => h0 (decide_eq_true q)
      rw [List.length_append, List.length_singleton] at hle
      refine ⟨rfl, efin _ _ u5 ?_ rl⟩
      rw [tailL_snoc, if_pos (by omega)]
      exact rxs5
  rintro _ H9 ⟨rfl, q⟩
  exact ⟨_, rfl, q⟩
end
end Cu

namespace Cu
open PySem PySem.Spec PyProof.Rows L2
theorem bFno {B : BA} {a b : Int} {m : Str} (h : ((bF B a b).lookup m) = none := by rfl) : (bF B a b).lookup m = none := h
section
variable {K : PySem.W.Frag} {H : Hp} {C : Addr} {σ : L2.St} {Q : VK} {i : Nat} {B : BA} {nk keep : Nat} {cs : List Ch} {c : Lg}
theorem rd_bnumber (h1 : σ[i]? = some (some (.ref B.p))) (r : BR K C B nk keep cs H c) (hc : Has H c) (q : Q (.int cs.length) H) :
    tMeth C "number" (spBnumber K C) [] E0 (tVar i) tNil σ H Q := ⟨_, h1, B.p, _, _, rfl, r.at_p hc, bFno, rfl, B, nk, keep, cs, c, rfl, r, hc, q⟩
theorem rd_bworths (h1 : σ[i]? = some (some (.ref B.p))) (r : BR K C B nk keep cs H c) (hc : Has H c) (q : ∀ p H', Grow H H' → FzL K H' p ((wrow nk cs).map V.int) → Q (.ref p) H') :
    tFz (tMeth C "worths" (spBworths K C) [] E0 (tVar i) tNil) σ H Q :=
  rd_fz ⟨_, h1, B.p, _, _, rfl, r.at_p hc, bFno, rfl, B, nk, keep, cs, c, rfl, r, hc, fun _ _ t => ⟨_, _, rfl, t.own.head, fun _ => q _ _ (t.fz .nil) FzL.frz⟩⟩
theorem rd_blasts (h1 : σ[i]? = some (some (.ref B.p))) (r : BR K C B nk keep cs H c) (hc : Has H c) (q : ∀ p H', Grow H H' → FzL K H' p ((lrow nk cs).map V.int) → Q (.ref p) H') :
    tFz (tMeth C "lasts" (spBlasts K C) [] E0 (tVar i) tNil) σ H Q :=
  rd_fz ⟨_, h1, B.p, _, _, rfl, r.at_p hc, bFno, rfl, B, nk, keep, cs, c, rfl, r, hc, fun _ _ t => ⟨_, _, rfl, t.own.head, fun _ => q _ _ (t.fz .nil) FzL.frz⟩⟩
theorem rd_bbeat (h1 : σ[i]? = some (some (.ref B.p))) (r : BR K C B nk keep cs H c) (hc : Has H c) (q : ∀ v H', Grow H H' → Rp K H' (beatL nk cs cs.length).enc v → Q v H') :
    tMeth C "beat" (spBbeat K C) [] E0 (tVar i) tNil σ H Q := ⟨_, h1, B.p, _, _, rfl, r.at_p hc, bFno, rfl, B, nk, keep, cs, c, rfl, r, hc, q⟩
theorem rd_btail (h1 : σ[i]? = some (some (.ref B.p))) (r : BR K C B nk keep cs H c) (hc : Has H c) (q : ∀ p xs H', Grow H H' → FzL K H' p xs → RpL K H' ((tailL keep cs).map Letter.enc) xs → Q (.ref p) H') :
    tFz (tMeth C "tail" (spBtail K C) [] E0 (tVar i) tNil) σ H Q :=
  rd_fz ⟨_, h1, B.p, _, _, rfl, r.at_p hc, bFno, rfl, B, nk, keep, cs, c, rfl, r, hc, fun _ xs _ t rx => ⟨_, _, rfl, t.own.head, fun _ => q _ xs _ (t.fz .nil) FzL.frz (rx.mono t.own.mono_put)⟩⟩
end
end Cu

namespace Cu
open PySem PySem.Spec PyProof.Rows L2
/-! min(t, u) of two tuples of ints -/
theorem tup_keeps {h h' : Heap} {p : Addr} {its : Array Value} (t : IsTup h p its) (k : ∀ b o, h.get? b = some o → h'.get? b = some o) : IsTup h' p its := by
  obtain ⟨o, ho, q⟩ := t
  exact ⟨o, k _ _ ho, q⟩
theorem min_pair {prog : Program} {w : World} {A : Around} {E : Value → Shared → Prop} {s : Shared} {p q : Addr} {i1 i2 : Array Value} {ns ms : List Int} {Q : Value → Shared → Prop} (hh : A.handled = none) (hp : IsTup s.heap p i1) (hq : IsTup s.heap q i2) (n1 : IntsAre i1.toList ns) (n2 : IntsAre i2.toList ms) (hu : A.units + 1 < cLine)
    (h : ∀ h' tk, (∀ c o, s.heap.get? c = some o → h'.get? c = some o) → Q (if HT.lexLt ms ns = true then .ref q else .ref p) { s with heap := h', toks := tk }) : wpAny (model prog w) A (call (.builtin "min") [.ref p, .ref q]) Q E s := by
  have nm : (toString "min" ++ toString ".loop" : String) = "min.loop" := by decide
  refine call_function_tree F.kind_min F.plain_min F.entry_min (F.args_min2 _ _) ?_; show wpAny _ A.in1 (Builtin.Builtins.bindParams "min" ["key", "default"] 0 ⟨[], []⟩ >>= _) _ _ s
  refine wpAny_bind (wpAny_of_eq (show Builtin.Builtins.bindParams "min" ["key", "default"] 0 ⟨[], []⟩ = pure [none, none] from rfl) ?_); show wpAny _ A.in1 (newTuple [.ref p, .ref q] >>= _) _ _ s
  refine wpAny_bind (wpAny_newObj_type (wpAny_bind (PySem.W.iter_tupleW (A := A.in1) (vs := #[.ref p, .ref q]) hh ⟨_, Heap.get?_push_size _ rfl, rfl, 0, rfl⟩ fun s2 e W st hfp hw hk => wpAny_bind (wpAny_newObj_type ?_))))
  have fr : s2.heap.objs.size ∉ [(s.heap.push { cls := .type "tuple", data := .seq #[.ref p, .ref q] }).objs.size, s.heap.objs.size] := fun hm => Nat.lt_irrefl _ (hfp _ hm)
  have k1 : ∀ b o, s.heap.get? b = some o → (s.heap.push { cls := .type "tuple", data := .seq #[.ref p, .ref q] }).get? b = some o := fun b o e => Heap.get?_push_of_some _ e
  have cmp : CmpIn prog w A.in1 .Lt (s.heap.push { cls := .type "tuple", data := .seq #[.ref p, .ref q] }) (fun i v => #[Value.ref p, .ref q][i]? = some v) (fun i j => HT.lexLt (if i = 0 then ns else ms) (if j = 0 then ns else ms)) := fun i j vi vj s' Q' E' hk' hi hj hq' => by
    have two : ∀ {i : Nat} {v : Value}, #[Value.ref p, .ref q][i]? = some v → ∃ r its, v = .ref r ∧ IsTup s'.heap r its ∧ IntsAre its.toList (if i = 0 then ns else ms) := fun {i v} hv => by
      match i, hv with
      | 0, hv => exact ⟨p, i1, by simpa using hv.symm, tup_keeps (tup_keeps hp k1) hk', n1⟩
      | 1, hv => exact ⟨q, i2, by simpa using hv.symm, tup_keeps (tup_keeps hq k1) hk', n2⟩
      | k + 2, hv => simp at hv
    obtain ⟨r, its, rfl, t1, t2⟩ := two hi
    obtain ⟨r', its', rfl, t3, t4⟩ := two hj
    exact HT.lt_tupInts t1 t3 t2 t4 (by show A.units + 1 < cLine; exact hu) hq'
  rw [nm]; refine wpAny_pure ⟨plainId_quiet F.plain_min_loop _, codeAny_min_loop_firstH W (s.heap.push { cls := .type "tuple", data := .seq #[.ref p, .ref q] }) hw _ cmp s2.heap.objs.size fr (fresh_in hk) _ (by show 0 < 2; decide) (fun b o e => Heap.get?_push_of_some _ (hk b o e)) (W.frame 0 s2 _ s2.toks st (Nat.le_refl _) fun b _ o e => Heap.get?_push_of_some _ e) (Heap.get?_push_size _ rfl) fun v s' hP hm => ?_⟩
  obtain ⟨h', tk, rfl, hk'⟩ := PySem.W.moved_old e rfl (Moved.drop_new (tk := s2.toks) hm (Nat.le_refl _))
  have hv : v = if HT.lexLt ms ns = true then Value.ref q else Value.ref p := by
    cases hc : HT.lexLt ms ns <;> simp [argBest, hc] at hP <;> simp [hP]
  rw [hv]
  exact h h' tk fun c o e => hk' c o (k1 c o e)
def rMin2T (K : PySem.W.Frag) : List V → Hp → VK → Prop := fun vs H Q => ∃ (p q : Addr) (i j i' j' : Int), vs = [.ref p, .ref q] ∧ SqT K H p [.int i, .int j] ∧ SqT K H q [.int i', .int j'] ∧ Q (if i' < i ∨ (i' = i ∧ j' < j) then .ref q else .ref p) H
theorem lex2 (i j i' j' : Int) : HT.lexLt [i', j'] [i, j] = decide (i' < i ∨ (i' = i ∧ j' < j)) := by
  rw [HT.lexLt_cons, HT.lexLt_cons, HT.lexLt_nil_nil]
  by_cases h1 : i' = i
  · by_cases h2 : j' = j
    · subst h1 h2
      simp
    · rw [if_pos h1, if_neg h2]
      subst h1
      simp
  · rw [if_neg h1]
    simp [h1]
theorem call_min2T {X : Cx} (hc : X.calm = true) (hu : X.A.units + 64 < cLine) : CallR X (.builtin "min") (rMin2T X.K) := by
  intro pins s σ H vs us Q I r h
  obtain ⟨p, q, i, j, i', j', rfl, hp, hq, go⟩ := h
  obtain ⟨u, w', rfl, r1, r2⟩ := vals2 r
  cases r1
  cases r2
  obtain ⟨t1, v1, p1, _⟩ := I.tuple hp
  obtain ⟨t2, v2, p2, _⟩ := I.tuple hq
  refine min_pair (I.ok.hd hc) p1 p2 (intsAre_of (ns := [i, j]) v1) (intsAre_of (ns := [i', j']) v2) (by omega) fun h' tk k => ⟨_, H, I.kept k, ?_, go⟩
  rw [lex2]
  by_cases z : i' < i ∨ (i' = i ∧ j' < j)
  · rw [if_pos z, if_pos (decide_eq_true z)]
    rfl
  · rw [if_neg z, if_neg (by rw [decide_eq_false z]; decide)]
    rfl
end Cu

namespace Cu
open PySem PySem.Spec PyProof.Rows L2
/-! what brings a key up; the least weights -/
def Letter.keyOf : Letter → Nat
  | .change _ c _ => c.key
  | _ => 0
def Letter.numOf : Letter → Nat
  | .change n _ _ => n
  | .part n _ _ => n
  | .beat n _ => n
def Letter.isSet : Letter → Bool
  | .change _ c _ => c.set
  | _ => false
def Letter.ahd : Letter → Nat
  | .change _ _ a => a
  | _ => 0
def Letter.wt : Letter → Nat
  | .part _ _ rows => 2 + rows.length
  | _ => 1
def wtL (ls : List Letter) : Nat := (ls.map Letter.wt).sum
theorem wtL_app (a b : List Letter) : wtL (a ++ b) = wtL a + wtL b := by simp [wtL]
def someL (keep : Nat) (cs : List Ch) (u : Int) (k : Nat) : List Letter := (tailL keep cs).filter fun l => decide (l.keyOf = k) && decide (u < (l.numOf : Int))
def setsL (ls : List Letter) : List Nat := (List.range ls.length).filter fun i => (ls[i]?.map Letter.isSet) == some true
def firstOk (sm : List Letter) (u : Int) : Bool := match sm with
  | [] => false
  | l :: _ => decide ((l.ahd : Int) ≤ u)
def wantS (sm : List Letter) (u : Int) : Option (List Letter) := match (setsL sm).getLast? with
  | some i => some (sm.drop i)
  | none => if firstOk sm u = true then some sm else none
theorem wantS_set {sm : List Letter} {u : Int} {ini : List Nat} {i : Nat} (e : setsL sm = ini ++ [i]) : wantS sm u = some (sm.drop i) := by
  unfold wantS
  rw [e]
  simp
theorem wantS_no {sm : List Letter} {u : Int} (e : setsL sm = []) : wantS sm u = if firstOk sm u = true then some sm else none := by
  unfold wantS
  rw [e]
  rfl
def wantL (keep : Nat) (cs : List Ch) (u : Int) (k : Nat) : Option (List Letter) := if (lof cs k : Int) ≤ u then some [] else wantS (someL keep cs u k) u
def costL (keep : Nat) (cs : List Ch) (ns : List Int) (k : Nat) : Option Nat := (wantL keep cs (ns.getD k 0) k).map List.length
def mn (p q : Int × Int) : Int × Int := if q.1 < p.1 ∨ (q.1 = p.1 ∧ q.2 < p.2) then q else p
def up1 (b : Option (Int × Int)) (q : Int × Int) : Int × Int := match b with
  | none => q
  | some p => mn p q
def moreK (F : List Int) (key b : Nat) : Int × Int := (F.getD b 0 + 2 + key + 1 - b, b)
def bestU (F : List Int) (key : Nat) (c : Option Nat) : Nat → Option (Int × Int)
  | 0 => c.map fun n => (F.getD key 0 + n, (0 : Int) - key - 1)
  | b + 1 => some (up1 (bestU F key c b) (moreK F key b))
def bestK (F : List Int) (key : Nat) (c : Option Nat) : Int × Int := up1 (bestU F key c key) (moreK F key key)
theorem bestU_all (F : List Int) (key : Nat) (c : Option Nat) : bestU F key c (key + 1) = some (bestK F key c) := rfl
def lev (cost : Nat → Option Nat) : Nat → List Int × List Int
  | 0 => ([0], [0])
  | k + 1 => ((lev cost k).1 ++ [(bestK (lev cost k).1 k (cost k)).1], (lev cost k).2 ++ [(bestK (lev cost k).1 k (cost k)).2])
theorem lev_len (cost : Nat → Option Nat) (n : Nat) : (lev cost n).1.length = n + 1 ∧ (lev cost n).2.length = n + 1 := by
  induction n with
  | zero => exact ⟨rfl, rfl⟩
  | succ n ih =>
    refine ⟨?_, ?_⟩
    · show ((lev cost n).1 ++ [_]).length = _
      rw [List.length_append, ih.1]
      rfl
    · show ((lev cost n).2 ++ [_]).length = _
      rw [List.length_append, ih.2]
      rfl
/-- the least weight for the keys ahead of e -/
def lwt (cost : Nat → Option Nat) (e : Nat) : Int := (lev cost e).1.getD e 0
def lbg (cost : Nat → Option Nat) (e : Nat) : Int := (lev cost e).2.getD e 0
theorem getD_last {xs : List Int} {x : Int} {n : Nat} (h : xs.length = n) : (xs ++ [x]).getD n 0 = x := by
  subst h
  simp
theorem getD_left {xs ys : List Int} {n : Nat} (h : n < xs.length) : (xs ++ ys).getD n 0 = xs.getD n 0 := by
  simp [List.getD_eq_getElem?_getD, List.getElem?_append_left h]
theorem lev_get (cost : Nat → Option Nat) {e n : Nat} (h : e ≤ n) : (lev cost n).1.getD e 0 = lwt cost e ∧ (lev cost n).2.getD e 0 = lbg cost e := by
  induction n with
  | zero =>
    have : e = 0 := by omega
    subst this
    exact ⟨rfl, rfl⟩
  | succ n ih =>
    by_cases q : e = n + 1
    · subst q
      exact ⟨rfl, rfl⟩
    · have hl := lev_len cost n
      obtain ⟨i1, i2⟩ := ih (by omega)
      refine ⟨?_, ?_⟩
      · show ((lev cost n).1 ++ [_]).getD e 0 = _
        rw [getD_left (by omega), i1]
      · show ((lev cost n).2 ++ [_]).getD e 0 = _
        rw [getD_left (by omega), i2]
theorem lwt_succ (cost : Nat → Option Nat) (k : Nat) : lwt cost (k + 1) = (bestK (lev cost k).1 k (cost k)).1 ∧ lbg cost (k + 1) = (bestK (lev cost k).1 k (cost k)).2 :=
  ⟨getD_last (lev_len cost k).1, getD_last (lev_len cost k).2⟩
theorem mn_le (p q : Int × Int) : (mn p q).1 ≤ p.1 ∧ (mn p q).1 ≤ q.1 ∧ (mn p q = p ∨ mn p q = q) := by
  unfold mn
  split
  · rename_i h
    exact ⟨by omega, Int.le_refl _, .inr rfl⟩
  · rename_i h
    exact ⟨Int.le_refl _, by omega, .inl rfl⟩
/-- what may be the best -/
def Cand (cost : Nat → Option Nat) (k b : Nat) (p : Int × Int) : Prop := (∃ n, cost k = some n ∧ p = (lwt cost k + n, (0 : Int) - k - 1)) ∨ ∃ j, j < b ∧ p = (lwt cost j + 2 + k + 1 - j, (j : Int))
theorem bestU_ok (cost : Nat → Option Nat) (k : Nat) : ∀ b, b ≤ k + 1 → match bestU (lev cost k).1 k (cost k) b with
    | none => b = 0 ∧ cost k = none
    | some p => Cand cost k b p ∧ (∀ n, cost k = some n → p.1 ≤ lwt cost k + n) ∧ ∀ j, j < b → p.1 ≤ lwt cost j + 2 + k + 1 - j := fun b => by
  induction b with
  | zero =>
    intro _
    cases hc : cost k with
    | none => exact ⟨rfl, rfl⟩
    | some n =>
      show Cand cost k 0 ((lev cost k).1.getD k 0 + n, (0 : Int) - k - 1) ∧ _
      rw [(lev_get cost (Nat.le_refl k)).1]
      refine ⟨.inl ⟨n, hc, rfl⟩, fun m hm => ?_, fun j h => absurd h (Nat.not_lt_zero j)⟩
      cases hm
      exact Int.le_refl _
  | succ b ih =>
    intro hb
    have ih := ih (by omega)
    have em : moreK (lev cost k).1 k b = (lwt cost b + 2 + k + 1 - b, (b : Int)) := by
      unfold moreK
      rw [(lev_get cost (show b ≤ k by omega)).1]
    have lift : ∀ {p}, Cand cost k b p → Cand cost k (b + 1) p := fun h => by
      rcases h with h | ⟨j, h1, h2⟩
      · exact .inl h
      · exact .inr ⟨j, by omega, h2⟩
    cases hu : bestU (lev cost k).1 k (cost k) b with
    | none =>
      rw [hu] at ih
      have e : bestU (lev cost k).1 k (cost k) (b + 1) = some (moreK (lev cost k).1 k b) := by
        show some (up1 (bestU (lev cost k).1 k (cost k) b) _) = _
        rw [hu]
        rfl
      rw [e, em]
      refine ⟨.inr ⟨b, Nat.lt_succ_self b, rfl⟩, fun n hn => ?_, fun j hj => ?_⟩
      · rw [ih.2] at hn
        cases hn
      · have : j = b := by omega
        subst this
        exact Int.le_refl _
    | some p =>
      rw [hu] at ih
      have e : bestU (lev cost k).1 k (cost k) (b + 1) = some (mn p (moreK (lev cost k).1 k b)) := by
        show some (up1 (bestU (lev cost k).1 k (cost k) b) _) = _
        rw [hu]
        rfl
      rw [e]
      obtain ⟨m1, m2, m3⟩ := mn_le p (moreK (lev cost k).1 k b)
      rw [em] at m1 m2 m3 ⊢
      obtain ⟨c1, c2, c3⟩ := ih
      refine ⟨?_, fun n hn => Int.le_trans m1 (c2 n hn), fun j hj => ?_⟩
      · rcases m3 with m3 | m3
        · rw [m3]
          exact lift c1
        · rw [m3]
          exact .inr ⟨b, Nat.lt_succ_self b, rfl⟩
      · by_cases q : j = b
        · subst q
          exact m2
        · exact Int.le_trans m1 (c3 j (by omega))
theorem lev_ok (cost : Nat → Option Nat) (k : Nat) : Cand cost k (k + 1) (lwt cost (k + 1), lbg cost (k + 1)) ∧ (∀ n, cost k = some n → lwt cost (k + 1) ≤ lwt cost k + n) ∧ ∀ j, j ≤ k → lwt cost (k + 1) ≤ lwt cost j + 2 + k + 1 - j := by
  have h := bestU_ok cost k (k + 1) (Nat.le_refl _)
  rw [bestU_all] at h
  obtain ⟨h1, h2, h3⟩ := h
  rw [(lwt_succ cost k).1, (lwt_succ cost k).2]
  exact ⟨h1, h2, fun j hj => h3 j (by omega)⟩
theorem lwt_zero (cost : Nat → Option Nat) : lwt cost 0 = 0 := rfl
theorem lwt_nonneg (cost : Nat → Option Nat) : ∀ e, 0 ≤ lwt cost e := fun e => by
  have : ∀ n e, e ≤ n → 0 ≤ lwt cost e := fun n => by
    induction n with
    | zero =>
      intro e he
      have : e = 0 := by omega
      subst this
      exact Int.le_refl _
    | succ n ih =>
      intro e he
      cases e with
      | zero => exact Int.le_refl _
      | succ k =>
        rcases (lev_ok cost k).1 with ⟨m, _, h⟩ | ⟨j, hj, h⟩
        · have h1 : lwt cost (k + 1) = lwt cost k + m := congrArg Prod.fst h
          have := ih k (by omega)
          omega
        · have h1 : lwt cost (k + 1) = lwt cost j + 2 + k + 1 - j := congrArg Prod.fst h
          have := ih j (by omega)
          omega
  exact this e e (Nat.le_refl _)
/-- letters that bring up the keys ahead of e -/
inductive Brings (keep : Nat) (cs : List Ch) (ns : List Int) : Nat → List Letter → Prop
  | nil : Brings keep cs ns 0 []
  | want {e : Nat} {ls w : List Letter} : Brings keep cs ns e ls → wantL keep cs (ns.getD e 0) e = some w → Brings keep cs ns (e + 1) (ls ++ w)
  | part {b e : Nat} {ls : List Letter} : Brings keep cs ns b ls → b < e → Brings keep cs ns e (ls ++ [partL cs cs.length b e])
theorem filter_sub_mem {α : Type} {p : α → Bool} {xs : List α} {x : α} (h : x ∈ xs.filter p) : x ∈ xs := (List.mem_filter.mp h).1
theorem lets_mem {cs : List Ch} {l : Letter} (h : l ∈ lets cs) : ∃ m c, cs[m]? = some c ∧ l = .change (m + 1) c (lof (cs.take m) c.key) := by
  obtain ⟨m, hm⟩ := List.getElem?_of_mem h
  have hl := (List.getElem?_eq_some_iff.mp hm).1
  rw [lets_length] at hl
  refine ⟨m, cs[m], List.getElem?_eq_getElem hl, ?_⟩
  rw [lets_get (List.getElem?_eq_getElem hl)] at hm
  exact (Option.some.inj hm).symm
theorem tailL_mem {keep : Nat} {cs : List Ch} {l : Letter} (h : l ∈ tailL keep cs) : ∃ m c, cs[m]? = some c ∧ l = .change (m + 1) c (lof (cs.take m) c.key) := lets_mem (List.mem_of_mem_drop h)
theorem wantS_mem {sm : List Letter} {u : Int} {w : List Letter} (h : wantS sm u = some w) : ∀ l ∈ w, l ∈ sm := by
  rcases List.eq_nil_or_concat (setsL sm) with es | ⟨ini, i, es⟩
  · rw [wantS_no es] at h
    split at h
    · cases h
      exact fun _ q => q
    · cases h
  · rw [List.concat_eq_append] at es
    rw [wantS_set es] at h
    cases h
    exact fun l hl => List.mem_of_mem_drop hl
theorem wantL_mem {keep : Nat} {cs : List Ch} {u : Int} {k : Nat} {w : List Letter} (h : wantL keep cs u k = some w) : ∀ l ∈ w, l ∈ someL keep cs u k := by
  unfold wantL at h
  split at h
  · cases h
    exact fun _ q => (nomatch q)
  · exact wantS_mem h
theorem wantS_len {sm : List Letter} {u : Int} {w : List Letter} (h : wantS sm u = some w) : w.length ≤ sm.length := by
  rcases List.eq_nil_or_concat (setsL sm) with es | ⟨ini, i, es⟩
  · rw [wantS_no es] at h
    split at h
    · cases h
      exact Nat.le_refl _
    · cases h
  · rw [List.concat_eq_append] at es
    rw [wantS_set es] at h
    cases h
    rw [List.length_drop]
    omega
theorem wtL_chg : ∀ {w : List Letter}, (∀ l ∈ w, l.wt = 1) → wtL w = w.length
  | [], _ => rfl
  | l :: w, h => by
    have ih := wtL_chg (w := w) fun x hx => h x (List.mem_cons_of_mem _ hx)
    have h1 := h l List.mem_cons_self
    show (l.wt :: w.map Letter.wt).sum = _
    rw [List.sum_cons, h1, show (w.map Letter.wt).sum = w.length from ih, List.length_cons]
    omega
theorem wantL_wt {keep : Nat} {cs : List Ch} {u : Int} {k : Nat} {w : List Letter} (h : wantL keep cs u k = some w) : wtL w = w.length := wtL_chg fun l hl => by
  obtain ⟨m, c, _, rfl⟩ := tailL_mem (filter_sub_mem (wantL_mem h l hl))
  rfl
theorem partL_wt (cs : List Ch) (n b e : Nat) : (partL cs n b e).wt = 2 + (e - b) := by
  show 2 + (partRows cs n b (e - b)).length = _
  rw [partRows, List.length_map, List.length_range]
theorem Brings.least {keep : Nat} {cs : List Ch} {ns : List Int} {e : Nat} {ls : List Letter} (h : Brings keep cs ns e ls) : lwt (costL keep cs ns) e ≤ wtL ls := by
  induction h with
  | nil => exact Int.le_refl _
  | @want e ls w _ hw ih =>
    rw [wtL_app, wantL_wt hw]
    have := (lev_ok (costL keep cs ns) e).2.1 w.length (by rw [costL, hw]; rfl)
    omega
  | @part b e ls _ hbe ih =>
    rw [wtL_app]
    have h1 : wtL [partL cs cs.length b e] = 2 + (e - b) := by
      show (partL cs cs.length b e).wt + 0 = _
      rw [partL_wt]
      rfl
    rw [h1]
    obtain ⟨k, rfl⟩ : ∃ k, e = k + 1 := ⟨e - 1, by omega⟩
    have := (lev_ok (costL keep cs ns) k).2.2 b (by omega)
    omega
/-- numbers that may be known of a board -/
structure Kn (nk : Nat) (cs : List Ch) (ns : List Int) : Prop where
  len : ns.length = nk
  bd : ∀ n ∈ ns, -1 ≤ n ∧ n ≤ cs.length
end Cu

namespace Cu
open PySem PySem.Spec PyProof.Rows L2
abbrev s_wanted : Stmt := (top 18)
theorem sc_wanted : FnScope ["board", "known", "key", "some", "sets", "letter", "at"] ["board", "known", "key"] (defScope s_wanted) := ⟨rfl, rfl, rfl, by decide +kernel, rfl, by decide +kernel, by decide +kernel⟩

/-- a list that stays as long as nothing that is owned is written -/
def StL (K : PySem.W.Frag) (H : Hp) (a : Addr) (xs : List V) : Prop := ∀ (H' : Hp) (O : Lg), Tr H [] H' O → SqL K H' a xs
section
variable {K : PySem.W.Frag} {H H' : Hp} {a : Addr} {xs : List V} {O c : Lg}
theorem StL.tr (s : StL K H a xs) (t : Tr H [] H' O) : StL K H' a xs := fun H2 O2 t2 => s H2 (O2 ++ O) (t.trans (by simpa using t2.right (D := O)))
theorem StL.sq (s : StL K H a xs) : SqL K H a xs := s H [] (Tr.refl H [])
theorem StL.fz (f : FzL K H a xs) : StL K H a xs := fun _ _ t => (f.mono t.mono).sq
theorem StL.has (h : Has H c) (m : (a, HO.lst xs) ∈ c) : StL K H a xs := fun _ _ t => SqL.of ((t.has c h).right.mem m)
end
theorem getD_at {ns : List Int} {k : Nat} (h : k < ns.length) : atI (ns.map V.int) (k : Int) = some (V.int (ns.getD k 0)) :=
  at_of (j := k) rfl (by rw [List.getElem?_map, List.getElem?_eq_getElem h, List.getD_eq_getElem?_getD, List.getElem?_eq_getElem h]; rfl)
def spWanted (K : PySem.W.Frag) (CB : Addr) : Sp := fun vs H Q _ => vs.length = 3 ∧ ∃ (B : BA) (nk keep : Nat) (cs : List Ch) (c : Lg) (kn : Addr) (ns : List Int) (k : Nat), vs = [.ref B.p, .ref kn, .int k] ∧ BR K CB B nk keep cs H c ∧ Has H c ∧ StL K H kn (ns.map V.int) ∧ ns.length = nk ∧ k < nk ∧ keep ≤ 20 ∧
  (wantL keep cs (ns.getD k 0) k = none → ∀ H', Grow H H' → Q .non H') ∧
  (∀ w, wantL keep cs (ns.getD k 0) k = some w → ∀ (r : Addr) (xs : List V) (H' : Hp), Tr H [] H' [(r, .lst xs)] → RpL K H' (w.map Letter.enc) xs → Q (.ref r) H')
theorem someL_len (keep : Nat) (cs : List Ch) (u : Int) (k : Nat) : (someL keep cs u k).length ≤ keep := by
  have h1 : (someL keep cs u k).length ≤ (tailL keep cs).length := List.length_filter_le _ _
  rw [tailL_len] at h1
  omega
section
variable {P : Program} {w : World} {K : PySem.W.Frag} {mg : Str → Option Value} {base : Heap} {CB : Addr}
theorem ok_wanted (F : Fd K mg "wanted" s_wanted) (Bm : Blt mg) (CBoard : CBo K CB) (m_Board_lasts : Mf P w K mg base 1 CB "lasts" ["self"] (spBlasts K CB)) (m_Board_tail : Mf P w K mg base 1 CB "tail" ["self"] (spBtail K CB)) :
    Gf P w K mg base 2 "wanted" ["board", "known", "key"] (spWanted K CB) := by
  refine F.ok sc_wanted (fun _ _ _ _ _ _ us hl => match us, hl with | [_, _, _], _ => rfl) len_of fun qual f cdv A0 outer s H vs Q E hr h => ?_
  obtain ⟨_, B, nk, keep, cs, c, kn, ns, k, rfl, r, hc, st, hlen, hk, hkp, gN, gS⟩ := h
  refine ⟨_, (pss_cons (ps_if (pt_cmpR op_le (pe_ix ix_list (pe_fz (pm0 (pv 0) CBoard.cl m_Board_lasts hr)) (pv 2) (fun _ _ => rfl)) (pe_ix ix_list (pv 1) (pv 2) (fun _ _ => rfl)) (nomark _))
        (pss_one (ps_ret (pe_lst pa_nil)))
        pss_nil)
      (pss_cons (ps_set (i := 3) sc_wanted.nd rfl (Or.inr rfl) (pe_lc (own := [("letter", 5)]) (g := (gName 5)) rfl sc_wanted.nd (pi_list (pe_fz (pm0 (pv 0) CBoard.cl m_Board_tail hr))) (blkOk_by (N := ["board", "known", "key", "some", "sets", "letter", "at"]) (sc := defScope s_wanted) (by decide +kernel)) (fun _ _ _ _ _ => (pg_name (i := 5) sc_wanted.nd rfl (Or.inl rfl))) (fun _ _ _ _ _ => (pts_one (PW.pt (pw_and (pt_cmpR op_eq (pe_ix (ix_tupK K rfl) (pv 5) pe_int (fun _ _ => rfl)) (pv 2) (nomark _)) (pw_and1 (pt_cmpR op_gt (pe_ix (ix_tupK K rfl) (pv 5) pe_int (fun _ _ => rfl)) (pe_ix (ix_listK K rfl) (pv 1) (pv 2) (fun _ _ => rfl)) (nomark _))))))) (fun _ _ _ _ _ => (pv 5))))
      (pss_cons (ps_setLc (i := 4) (own := [("at", 6)]) (g := (gName 6)) rfl sc_wanted.nd rfl rfl (sw_true rfl rfl rfl (by decide +kernel)) (pi_range1 rfl Bm.range (pa_cons (pe_callB call_len_seq rfl Bm.len (by decide +kernel) (pa_cons (pv 3) pa_nil)) pa_nil)) (blkOk_by (N := ["board", "known", "key", "some", "sets", "letter", "at"]) (sc := defScope s_wanted) (by decide +kernel)) (fun _ _ _ _ _ => (pg_name (i := 6) sc_wanted.nd rfl (Or.inl rfl))) (fun _ _ _ _ _ => (pts_one (pt_cmpR op_eq (pe_ix (ix_tupK K rfl) (pe_ix (ix_listK K rfl) (pv 3) (pv 6) (fun _ _ => rfl)) pe_int (fun _ _ => rfl)) pe_str (nomark _)))) (fun _ _ _ _ _ => (pv 6)))
      (pss_cons (ps_if (pt_cmpR (op_neD hr.units) (pv 4) (pe_lst pa_nil) (nomark _))
        (pss_one (ps_ret (pe_slice sl_list (pv 3) (po_some (pe_ix ix_list (pv 4) (pe_un un_neg pe_int) (fun _ _ => rfl))) po_none)))
        pss_nil)
      (pss_one (ps_ret (pe_ifExp (PW.pt (pw_and (pt_cmpR (op_neD hr.units) (pv 3) (pe_lst pa_nil) (nomark _)) (pw_and1 (pt_cmpR op_le (pe_ix ix_tup (pe_ix ix_list (pv 3) pe_int (fun _ _ => rfl)) pe_int (fun _ _ => rfl)) (pe_ix ix_list (pv 1) (pv 2) (fun _ _ => rfl)) (nomark _))))) (pv 3) pe_non))))))), ?_⟩
  have hat := getD_at (ns := ns) (k := k) (by omega)
  generalize eu : ns.getD k 0 = u at hat gN gS
  have z0 : 0 ≤ sizeLine := by decide
  have up : ∀ {H2 : Hp} {O : Lg}, Tr H [] H2 O → Has H2 c ∧ BR K CB B nk keep cs H2 c ∧ SqL K H2 kn (ns.map V.int) := fun t => ⟨(t.has c hc).right, r.mono t.mono, (st.tr t).sq⟩
  refine rd_blasts (by rfl) r hc fun p1 H1 g1 f1 => ?_
  refine ⟨_, rfl, p1, _, _, _, rfl, rfl, f1.sq, at_of (j := k) rfl (by rw [List.getElem?_map, lrow_get hk]; rfl), _, rfl, _, rfl, kn, _, _, _, rfl, rfl, (up g1).2.2, hat, _, _, rfl, rfl, _, rfl, ite2 (fun h0 => ?_) fun h0 => ?_⟩
  · refine ⟨z0, fun l hl => gS [] ?_ l [] _ (Tr.new g1 hl nl) .nil⟩
    unfold wantL
    rw [if_pos (of_decide_eq_true h0)]
  have h0' := ndec h0
  refine rd_btail (by rfl) (up g1).2.1 (up g1).1 fun p2 xs2 H2 g2 f2 rx2 => ?_
  have g12 := g1.trans g2
  have hx2 : xs2.length = (tailL keep cs).length := by rw [rx2.length, List.length_map]
  refine ⟨p2, rfl, ⟨_, f2.sq⟩, fun D hD => ?_⟩
  refine lc_list (K := K) (a := p2) (xs := xs2) (fun i H3 => ∃ ys, Tr H [] H3 [(D, .lst ys)] ∧ Mono H2 H3 ∧ RpL K H3 ((((tailL keep cs).take i).filter fun l => decide (l.keyOf = k) && decide (u < (l.numOf : Int))).map Letter.enc) ys)
    ⟨[], g12.new hD nl, Mono.new hD, .nil⟩ (fun i H3 _ ⟨_, _, m, _⟩ => (f2.mono m).sq) ?_ ?_
  · rintro i x H3 hi ⟨ys, t3, m3, ry⟩
    have hi' : i < (tailL keep cs).length := by
      have := (List.getElem?_eq_some_iff.mp hi).1
      omega
    obtain ⟨l, el⟩ : ∃ l, (tailL keep cs)[i]? = some l := ⟨(tailL keep cs)[i], List.getElem?_eq_getElem hi'⟩
    obtain ⟨x', ex, rx⟩ := (rx2.mono m3).get (i := i) (d := l.enc) (by rw [List.getElem?_map, el]; rfl)
    rw [hi] at ex
    cases ex
    obtain ⟨m, ch, _, rfl⟩ := tailL_mem (List.mem_of_getElem? el)
    obtain ⟨a, rfl, ha⟩ := rx.chg_inv
    have hy : ys.length ≤ 20 := by
      rw [ry.length, List.length_map]
      refine Nat.le_trans (List.length_filter_le _ _) ?_
      have := tailL_len keep cs
      rw [List.length_take]
      omega
    have no : (decide ((Letter.change (m + 1) ch (lof (cs.take m) ch.key)).keyOf = k) && decide (u < ((Letter.change (m + 1) ch (lof (cs.take m) ch.key)).numOf : Int))) = false → ∃ ys, Tr H [] H3 [(D, .lst ys)] ∧ Mono H2 H3 ∧ RpL K H3 ((((tailL keep cs).take (i + 1)).filter fun l => decide (l.keyOf = k) && decide (u < (l.numOf : Int))).map Letter.enc) ys := fun q => by
      refine ⟨ys, t3, m3, ?_⟩
      rw [take_snoc el, List.filter_append, List.filter_cons_of_neg (by rw [q]; decide), List.filter_nil, List.append_nil]
      exact ry
    have hu3 := (up t3).2.2
    refine ⟨rfl, _, rfl, a, _, _, _, rfl, rfl, SqT.of ha, rfl, _, rfl, rfl, _, rfl, ite2 (fun h1 => ?_) fun h1 => ?_⟩
    · have h1' : ch.key = k := by
        have := of_decide_eq_true h1
        injection this with q
        omega
      refine ⟨_, rfl, a, _, _, _, rfl, rfl, SqT.of ha, rfl, _, rfl, _, rfl, kn, _, _, _, rfl, rfl, hu3, hat, _, _, rfl, rfl, _, rfl, ite2 (fun h2 => ?_) fun h2 => ?_⟩
      · have h2' := of_decide_eq_true h2
        refine ⟨_, rfl, ys, t3.own.head, small1000 (by omega), ys ++ [.ref a], t3.put .nil nl, m3.trans t3.own.mono_put, ?_⟩
        have q : (decide ((Letter.change (m + 1) ch (lof (cs.take m) ch.key)).keyOf = k) && decide (u < ((Letter.change (m + 1) ch (lof (cs.take m) ch.key)).numOf : Int))) = true := by
          rw [Bool.and_eq_true]
          exact ⟨decide_eq_true h1', decide_eq_true h2'⟩
        have e1 : List.filter (fun l => decide (l.keyOf = k) && decide (u < (l.numOf : Int))) [Letter.change (m + 1) ch (lof (cs.take m) ch.key)] = [Letter.change (m + 1) ch (lof (cs.take m) ch.key)] := List.filter_cons_of_pos (l := []) q
        rw [take_snoc el, List.filter_append, e1, List.map_append]
        exact (ry.snoc rx).mono t3.own.mono_put
      · refine no ?_
        rw [Bool.and_eq_false_iff]
        exact .inr (decide_eq_false (ndec h2))
    · refine iteM (by decide) (no ?_)
      rw [Bool.and_eq_false_iff]
      exact .inl (decide_eq_false fun q => h1 (decide_eq_true (by show V.int (ch.key : Int) = V.int (k : Int); rw [show ch.key = k from q])))
  rintro H3 ⟨ys, t3, m3, ry⟩
  rw [List.take_of_length_le (by omega)] at ry
  change RpL K H3 ((someL keep cs u k).map Letter.enc) ys at ry
  have hsl := someL_len keep cs u k
  have hall : ∀ l ∈ someL keep cs u k, ∃ m c, cs[m]? = some c ∧ l = .change (m + 1) c (lof (cs.take m) c.key) := fun l hl => tailL_mem (filter_sub_mem hl)
  have hw : wantL keep cs u k = wantS (someL keep cs u k) u := by
    unfold wantL
    rw [if_neg h0']
  generalize someL keep cs u k = sm at *
  have hy : ys.length = sm.length := by rw [ry.length, List.length_map]
  -- sets
  refine ⟨_, rfl, D, ys, rfl, .inl (SqL.of t3.own.head), _, rfl, by omega, by omega, fun D2 hD2 => ?_⟩
  refine lc_range (lo := 0) (n := (ys.length : Int).toNat) (fun i H4 => Tr H [] H4 [(D2, .lst ((((List.range i).filter fun i => (sm[i]?.map Letter.isSet) == some true).map fun (i : Nat) => (i : Int)).map V.int)), (D, .lst ys)] ∧ Mono H3 H4)
    ⟨t3.new hD2 nl, Mono.new hD2⟩ ?_ ?_
  · rintro i H4 hi ⟨t4, m4⟩
    have hi' : i < sm.length := by omega
    obtain ⟨l, el⟩ : ∃ l, sm[i]? = some l := ⟨sm[i], List.getElem?_eq_getElem hi'⟩
    obtain ⟨y, ey, rl⟩ := (ry.mono m4).get (i := i) (d := l.enc) (by rw [List.getElem?_map, el]; rfl)
    obtain ⟨m, ch, _, rfl⟩ := hall l (List.mem_of_getElem? el)
    obtain ⟨a, rfl, ha⟩ := rl.chg_inv
    have ez : ((0 : Int) + i) = (i : Int) := by omega
    refine ⟨rfl, _, rfl, _, rfl, D, _, _, _, rfl, rfl, SqL.of t4.own.tail.head, at_of (j := i) ez ey, a, _, _, _, rfl, rfl, SqT.of ha, rfl, rfl, _, rfl, ?_⟩
    rw [wdS]
    have es : ((sm[i]?.map Letter.isSet) == some true) = ch.set := by
      rw [el]
      show (some ch.set == some true) = ch.set
      cases ch.set <;> rfl
    refine ite2 (fun h1 => ?_) fun h1 => ?_
    · refine ⟨_, rfl, _, t4.own.head, ?_, ?_, m4.trans t4.own.mono_put⟩
      · rw [List.length_map, List.length_map]
        refine Nat.lt_of_le_of_lt (List.length_filter_le _ _) ?_
        rw [List.length_range]
        exact small1000 (by omega)
      · have := t4.put (o' := .lst (((((List.range i).filter fun i => (sm[i]?.map Letter.isSet) == some true).map fun (i : Nat) => (i : Int)).map V.int) ++ [V.int ((0 : Int) + i)])) .nil nl
        rw [List.range_succ, List.filter_append, List.filter_cons_of_pos (by rw [es]; exact h1), List.filter_nil, List.map_append, List.map_append]
        rw [ez] at this ⊢
        exact this
    · refine ⟨?_, m4⟩
      rw [List.range_succ, List.filter_append, List.filter_cons_of_neg (by rw [es]; exact h1), List.filter_nil, List.append_nil]
      exact t4
  rintro H4 ⟨t4, m4⟩
  have e4 : ((List.range (ys.length : Int).toNat).filter fun i => (sm[i]?.map Letter.isSet) == some true) = setsL sm := by
    rw [Int.toNat_natCast, hy]
    rfl
  rw [e4] at t4
  have ry4 := ry.mono m4
  refine ⟨_, rfl, z0, fun e0 he0 => ?_⟩
  have t5 := t4.old (o := .lst []) he0
  have me := Mono.new (o := .lst []) he0
  refine ⟨ilst ((setsL sm).map fun (i : Nat) => (i : Int)), .list [], Dp.ints' t5.own.head, Dp.nil upd_same, (Gd.ilst (n := 0) _).shaped, (Gd.nil (n := 0)).shaped, _, rfl, ?_⟩
  rw [ilst, eqv_nil]
  have ry5 := ry4.mono me
  generalize hH5 : upd H4 e0 (.lst []) = H5 at t5 ry5
  rcases List.eq_nil_or_concat (setsL sm) with es | ⟨ini, i, es⟩
  · rw [wantS_no es] at hw
    rw [es]
    refine iteM (by decide) ?_
    -- some if some != [] and ..
    refine ⟨_, rfl, z0, fun e1 he1 => ?_⟩
    have t6 := t5.old (o := .lst []) he1
    have ry6 := ry5.mono (Mono.new (o := .lst []) he1)
    refine ⟨.list (sm.map Letter.enc), .list [], .lst (SqL.of t6.own.tail.head) ry6.dp, Dp.nil upd_same, (Gd.letters sm).shaped, (Gd.nil (n := 0)).shaped, _, rfl, ?_⟩
    rw [eqv_nil]
    cases sm with
    | nil =>
      have hw : wantL keep cs u k = none := hw
      refine iteM (by decide) ?_
      exact iteM (by decide) (gN hw _ (t6.sub (List.nil_sublist _)))
    | cons l ls =>
      refine iteP (by rfl) ?_
      obtain ⟨y, ey, rl⟩ := ry6.get (i := 0) (d := l.enc) rfl
      obtain ⟨m, ch, _, rfl⟩ := hall l List.mem_cons_self
      obtain ⟨a, rfl, ha⟩ := rl.chg_inv
      refine ⟨_, rfl, D, _, _, _, rfl, rfl, SqL.of t6.own.tail.head, at_of (j := 0) rfl ey, a, _, _, _, rfl, rfl, SqT.of ha, rfl, _, rfl, _, rfl, kn, _, _, _, rfl, rfl, (up t6).2.2, hat, _, _, rfl, rfl, _, rfl, ite2 (fun h1 => ?_) fun h1 => ?_⟩
      · have h1' := of_decide_eq_true h1
        rw [if_pos (show firstOk (Letter.change (m + 1) ch (lof (cs.take m) ch.key) :: ls) u = true from decide_eq_true h1')] at hw
        exact ⟨_, rfl, gS _ hw D ys _ t6.tail ry6⟩
      · have h1' := ndec h1
        rw [if_neg (show ¬ firstOk (Letter.change (m + 1) ch (lof (cs.take m) ch.key) :: ls) u = true from fun q => h1' (of_decide_eq_true q))] at hw
        exact gN hw _ (t6.sub (List.nil_sublist _))
  · have es : setsL sm = ini ++ [i] := by rw [es, List.concat_eq_append]
    rw [wantS_set es] at hw
    rw [es] at t5 ⊢
    have hil : i < sm.length := by
      have : i ∈ setsL sm := by rw [es]; simp
      have := (List.mem_filter.mp this).1
      exact List.mem_range.mp this
    refine iteP (by simp) ?_
    refine ⟨_, rfl, _, rfl, _, rfl, D2, _, _, _, rfl, rfl, SqL.of t5.own.head, (by rw [List.map_append, List.map_append]; exact atI_last _ _), _, rfl, D, ys, rfl, SqL.of t5.own.tail.head, fun p6 hp6 => ?_⟩
    rw [cutV_from (by omega)]
    refine gS _ hw p6 _ _ ((t5.new hp6 nl).sub (List.Sublist.cons_cons _ (List.nil_sublist _))) ?_
    rw [List.map_drop]
    exact (ry5.drop i).mono (Mono.new hp6)
end
end Cu

namespace Cu
open PySem PySem.Spec PyProof.Rows L2
abbrev s_Board_size : Stmt := (inClass (top 12) 1)
theorem sc_Board_size : FnScope ["self"] ["self"] (defScope s_Board_size) := ⟨rfl, rfl, rfl, by decide +kernel, rfl, by decide +kernel, by decide +kernel⟩

def spBsize (K : PySem.W.Frag) (C : Addr) : Sp := fun vs H Q _ => vs.length = 1 ∧ ∃ (B : BA) (nk keep : Nat) (cs : List Ch) (c : Lg), vs = [.ref B.p] ∧ BR K C B nk keep cs H c ∧ Has H c ∧ Q (.int nk) H
theorem rd_bsize {K : PySem.W.Frag} {H : Hp} {C : Addr} {σ : L2.St} {Q : VK} {i : Nat} {B : BA} {nk keep : Nat} {cs : List Ch} {c : Lg} (h1 : σ[i]? = some (some (.ref B.p))) (r : BR K C B nk keep cs H c) (hc : Has H c) (q : Q (.int nk) H) :
    tMeth C "size" (spBsize K C) [] E0 (tVar i) tNil σ H Q := ⟨_, h1, B.p, _, _, rfl, r.at_p hc, bFno, rfl, B, nk, keep, cs, c, rfl, r, hc, q⟩
section
variable {P : Program} {w : World} {K : PySem.W.Frag} {mg : Str → Option Value} {base : Heap} {C : Addr}
theorem ok_Bsize (F : Md K C "size" "Board.size" s_Board_size) (Bm : Blt mg) (CBoard : CBo K C) : Mf P w K mg base 1 C "size" ["self"] (spBsize K C) := by
  refine F.ok sc_Board_size (fun _ _ _ _ _ _ us hl => match us, hl with | [_], _ => rfl) len_of fun qual f cdv A0 outer s H vs Q E hr h => ?_
  obtain ⟨_, B, nk, keep, cs, c, rfl, r, hc, go⟩ := h
  refine ⟨_, (pss_one (ps_ret (pe_callB call_len_seq rfl Bm.len (by decide +kernel) (pa_cons (pe_fld (pv 0) rfl) pa_nil)))), ?_⟩
  have e : (((wrow nk cs).map V.int).length : Int) = (nk : Int) := by rw [List.length_map, wrow_len]
  refine ⟨_, rfl, _, C, _, _, _, rfl, r.at_p hc, CBoard.cl, CBoard.n1, bF1 B _ _, _, _, rfl, .inl (SqL.of (r.at1 hc)), ?_⟩
  rw [e]
  exact go
end
end Cu

namespace Cu
open PySem PySem.Spec PyProof.Rows L2
abbrev s_levels : Stmt := (top 19)
theorem sc_levels : FnScope ["board", "known", "found", "begins", "key", "some", "best", "begin", "more"] ["board", "known"] (defScope s_levels) := ⟨rfl, rfl, rfl, by decide +kernel, rfl, by decide +kernel, by decide +kernel⟩

def spLevels (K : PySem.W.Frag) (CB : Addr) : Sp := fun vs H Q _ => vs.length = 2 ∧ ∃ (B : BA) (nk keep : Nat) (cs : List Ch) (c : Lg) (kn : Addr) (ns : List Int), vs = [.ref B.p, .ref kn] ∧ BR K CB B nk keep cs H c ∧ Has H c ∧ StL K H kn (ns.map V.int) ∧ ns.length = nk ∧ nk ≤ 8 ∧ keep ≤ 20 ∧
  ∀ (t p q : Addr) (H' : Hp), Tr H [] H' [(q, .lst ((lev (costL keep cs ns) nk).2.map V.int)), (p, .lst ((lev (costL keep cs ns) nk).1.map V.int))] → H' t = some (.tup [.ref p, .ref q]) → Q (.ref t) H'
/-- what is best so far -/
def BestV (H : Hp) : Option (Int × Int) → V → Prop
  | none, v => v = .non
  | some x, v => ∃ t, v = .ref t ∧ H t = some (.tup [.int x.1, .int x.2])
theorem BestV.mono {H H' : Hp} (m : Mono H H') : ∀ {o : Option (Int × Int)} {v : V}, BestV H o v → BestV H' o v
  | none, _, h => h
  | some _, _, ⟨t, e, h⟩ => ⟨t, e, m _ _ h trivial⟩
theorem lev_at {cost : Nat → Option Nat} {i b : Nat} (h : b ≤ i) {z : Int} (ez : z = b) : atI ((lev cost i).1.map V.int) z = some (V.int ((lev cost i).1.getD b 0)) := by
  have hl := (lev_len cost i).1
  subst ez
  exact getD_at (by omega)
section
variable {P : Program} {w : World} {K : PySem.W.Frag} {mg : Str → Option Value} {base : Heap} {CB : Addr}
theorem ok_levels {tk : Tok} (F : Fd K mg "levels" s_levels) (Bm : Blt mg) (CBoard : CBo K CB) (km_PART : mg "PART" = some (.int 2 tk)) (m_Board_size : Mf P w K mg base 1 CB "size" ["self"] (spBsize K CB)) (g_wanted : Gf P w K mg base 2 "wanted" ["board", "known", "key"] (spWanted K CB)) :
    Gf P w K mg base 3 "levels" ["board", "known"] (spLevels K CB) := by
  refine F.ok sc_levels (fun _ _ _ _ _ _ us hl => match us, hl with | [_, _], _ => rfl) len_of fun qual f cdv A0 outer s H vs Q E hr h => ?_
  obtain ⟨_, B, nk, keep, cs, c, kn, ns, rfl, r, hc, st, hlen, h8, hkp, go⟩ := h
  refine ⟨_, (pss_cons (ps_set (i := 2) sc_levels.nd rfl (Or.inl rfl) (pe_lst (pa_cons pe_int pa_nil)))
      (pss_cons (ps_set (i := 3) sc_levels.nd rfl (Or.inl rfl) (pe_lst (pa_cons pe_int pa_nil)))
      (pss_cons (ps_for PassesOwn.never rfl (pi_range1 rfl Bm.range (pa_cons (pm0 (pv 0) CBoard.cl m_Board_size hr) pa_nil)) (pg_name (i := 4) sc_levels.nd rfl (Or.inl rfl))
        (pss_cons (ps_mid (ps_set (i := 5) sc_levels.nd rfl (Or.inl rfl) (pc g_wanted hr (pa_cons (pv 0) (pa_cons (pv 1) (pa_cons (pv 4) pa_nil))))))
        (pss_cons (ps_set (i := 6) sc_levels.nd rfl (Or.inl rfl) pe_non)
        (pss_cons (ps_mid (ps_if (pt_cmpR op_notN (pv 5) pe_non (nomark _))
          (pss_one (ps_set (i := 6) sc_levels.nd rfl (Or.inl rfl) (pe_tup (pa_cons (pe_op op_add (pe_ix ix_list (pv 2) (pv 4) (fun _ _ => rfl)) (pe_callB call_len_seq rfl Bm.len (by decide +kernel) (pa_cons (pv 5) pa_nil))) (pa_cons (pe_op op_sub (pe_op op_sub pe_int (pv 4)) pe_int) pa_nil)))))
          pss_nil))
        (pss_cons (ps_for PassesOwn.never rfl (pi_range1 rfl Bm.range (pa_cons (pe_op op_add (pv 4) pe_int) pa_nil)) (pg_name (i := 7) sc_levels.nd rfl (Or.inl rfl))
          (pss_cons (ps_set (i := 8) sc_levels.nd rfl (Or.inl rfl) (pe_tup (pa_cons (pe_op op_sub (pe_op op_add (pe_op op_add (pe_op op_add (pe_ix ix_list (pv 2) (pv 7) (fun _ _ => rfl)) (pe_glob (v := .int 2) rfl km_PART ⟨_, rfl⟩)) (pv 4)) pe_int) (pv 7)) (pa_cons (pv 7) pa_nil))))
          (pss_one (ps_mid (ps_set (i := 6) sc_levels.nd rfl (Or.inl rfl) (pe_ifExp (pt_cmpR op_isN (pv 6) pe_non (nomark _)) (pv 8) (pe_callB (call_min2T rfl hr.units) rfl Bm.min (by decide +kernel) (pa_cons (pv 6) (pa_cons (pv 8) pa_nil)))))))))
        (pss_cons (ps_expr (pe_bm PySem.F.plainAttrs_list PySem.F.slot_list_append PySem.F.type_list_append mt_append (pv 2) (pa_cons (pe_ix ix_tup (pv 6) pe_int (fun _ _ => rfl)) pa_nil)))
        (pss_one (ps_expr (pe_bm PySem.F.plainAttrs_list PySem.F.slot_list_append PySem.F.type_list_append mt_append (pv 3) (pa_cons (pe_ix ix_tup (pv 6) pe_int (fun _ _ => rfl)) pa_nil))))))))))
      (pss_one (ps_ret (pe_tup (pa_cons (pv 2) (pa_cons (pv 3) pa_nil)))))))), ?_⟩
  have up : ∀ {H2 : Hp} {O : Lg}, Tr H [] H2 O → Has H2 c ∧ BR K CB B nk keep cs H2 c ∧ StL K H2 kn (ns.map V.int) := fun t => ⟨(t.has c hc).right, r.mono t.mono, st.tr t⟩
  generalize ec : costL keep cs ns = cost at go
  refine ⟨(by show 1 ≤ sizeLine; decide), fun p hp => ⟨(by show 1 ≤ sizeLine; decide), fun q hq => ?_⟩⟩
  have t1 := ((Tr.refl H []).new (o := .lst [.int 0]) hp nl).new (o := .lst [.int 0]) hq nl
  refine rd_bsize (by rfl) (up t1).2.1 (up t1).1 ⟨_, rfl, by omega, by omega, for_range (lo := 0) (n := (nk : Int).toNat) (fun i σ H' => ∃ v4 v5 v6 v7 v8, σ = [some (.ref B.p), some (.ref kn), some (.ref p), some (.ref q), v4, v5, v6, v7, v8] ∧
      Tr H [] H' [(q, .lst ((lev cost i).2.map V.int)), (p, .lst ((lev cost i).1.map V.int))]) ⟨none, none, none, none, none, rfl, t1⟩ ?_ ?_⟩
  · rintro i σ H2 hi ⟨v4, v5, v6, v7, v8, rfl, t2⟩
    have hi' : i < nk := by omega
    have ez : ((0 : Int) + i) = (i : Int) := by omega
    have ecost : cost i = (wantL keep cs (ns.getD i 0) i).map List.length := by rw [← ec]; rfl
    -- some = wanted(board, known, key)
    refine rd_mid (fun σ H3 => ∃ v5, σ = [some (.ref B.p), some (.ref kn), some (.ref p), some (.ref q), some (.int (0 + i)), some v5, v6, v7, v8] ∧ Tr H [] H3 [(q, .lst ((lev cost i).2.map V.int)), (p, .lst ((lev cost i).1.map V.int))] ∧
        ((cost i = none ∧ v5 = .non) ∨ ∃ n r xs, cost i = some n ∧ v5 = .ref r ∧ H3 r = some (.lst xs) ∧ xs.length = n)) ?_ ?_
    · refine ⟨_, rfl, _, rfl, _, rfl, rfl, B, nk, keep, cs, c, kn, ns, i, (by rw [ez]; rfl), (up t2).2.1, (up t2).1, (up t2).2.2, hlen, hi', hkp, fun hw H3 g3 => ?_, fun w hw rr xs H3 t3 rx => ?_⟩
      · exact ⟨_, rfl, t2.grow g3, .inl ⟨by rw [ecost, hw]; rfl, rfl⟩⟩
      · have t4 := t2.trans (by simpa using t3.right (D := [(q, HO.lst ((lev cost i).2.map V.int)), (p, HO.lst ((lev cost i).1.map V.int))]))
        exact ⟨_, rfl, t4.tail, .inr ⟨w.length, rr, xs, by rw [ecost, hw]; rfl, rfl, t4.own.head, by rw [rx.length, List.length_map]⟩⟩
    rintro σ H3 ⟨v5, rfl, t3, h3⟩
    -- best = None; if some is not None
    refine rd_mid (fun σ H4 => ∃ v6, σ = [some (.ref B.p), some (.ref kn), some (.ref p), some (.ref q), some (.int (0 + i)), some v5, some v6, v7, v8] ∧ Tr H [] H4 [(q, .lst ((lev cost i).2.map V.int)), (p, .lst ((lev cost i).1.map V.int))] ∧ BestV H4 (bestU (lev cost i).1 i (cost i) 0) v6) ?_ ?_
    · rcases h3 with ⟨hc0, rfl⟩ | ⟨n, rr, xs, hc0, rfl, hr3, hxn⟩
      · refine ⟨_, rfl, rfl, _, rfl, iteM (by decide) ?_⟩
        refine ⟨_, rfl, t3, ?_⟩
        rw [hc0]
        rfl
      · refine ⟨_, rfl, rfl, _, rfl, iteP (by rfl) ?_⟩
        refine ⟨_, rfl, _, rfl, p, _, _, _, rfl, rfl, SqL.of t3.own.tail.head, lev_at (Nat.le_refl i) ez, _, rfl, rr, xs, rfl, .inl (SqL.of hr3), _, _, rfl, rfl, _, rfl, _, _, rfl, rfl, _, _, rfl, rfl, (by show 2 ≤ sizeLine; decide), fun t ht => ?_⟩
        refine ⟨_, rfl, t3.old ht, ?_⟩
        rw [hc0]
        refine ⟨t, rfl, ?_⟩
        rw [hxn, ez]
        exact upd_same
    rintro σ H4 ⟨v6, rfl, t4, h4⟩
    -- for begin in range(key + 1)
    refine ⟨_, rfl, _, _, rfl, rfl, _, rfl, by omega, by omega, for_range (lo := 0) (n := ((0 : Int) + i + 1).toNat) (fun j σ H5 => ∃ v6 v7 v8, σ = [some (.ref B.p), some (.ref kn), some (.ref p), some (.ref q), some (.int (0 + i)), some v5, some v6, v7, v8] ∧
        Tr H [] H5 [(q, .lst ((lev cost i).2.map V.int)), (p, .lst ((lev cost i).1.map V.int))] ∧ BestV H5 (bestU (lev cost i).1 i (cost i) j) v6) ⟨v6, v7, v8, rfl, t4, h4⟩ ?_ ?_⟩
    · rintro j σ H5 hj ⟨v6, v7, v8, rfl, t5, h5⟩
      have hj' : j ≤ i := by omega
      have ezj : ((0 : Int) + j) = (j : Int) := by omega
      refine ⟨_, rfl, _, rfl, p, _, _, _, rfl, rfl, SqL.of t5.own.tail.head, lev_at hj' ezj, _, _, rfl, rfl, _, rfl, _, _, rfl, rfl, _, _, rfl, rfl, _, rfl, _, _, rfl, rfl, _, rfl, (by show 2 ≤ sizeLine; decide), fun t ht => ?_⟩
      have t6 := t5.old (o := .tup [.int ((lev cost i).1.getD j 0 + 2 + (0 + i) + 1 - (0 + j)), .int (0 + j)]) ht
      have m6 := Mono.new (o := .tup [.int ((lev cost i).1.getD j 0 + 2 + (0 + i) + 1 - (0 + j)), .int (0 + j)]) ht
      have ht6 : (upd H5 t (.tup [.int ((lev cost i).1.getD j 0 + 2 + (0 + i) + 1 - (0 + j)), .int (0 + j)])) t = some (HO.tup [.int (moreK (lev cost i).1 i j).1, .int (moreK (lev cost i).1 i j).2]) := by
        rw [ez, ezj]
        exact upd_same
      have h6 := h5.mono m6
      refine rd_mid (fun σ H7 => ∃ v6, σ = [some (.ref B.p), some (.ref kn), some (.ref p), some (.ref q), some (.int (0 + i)), some v5, some v6, some (.int (0 + j)), some (.ref t)] ∧
          Tr H [] H7 [(q, .lst ((lev cost i).2.map V.int)), (p, .lst ((lev cost i).1.map V.int))] ∧ BestV H7 (bestU (lev cost i).1 i (cost i) (j + 1)) v6) ?_ ?_
      · have eb : bestU (lev cost i).1 i (cost i) (j + 1) = some (up1 (bestU (lev cost i).1 i (cost i) j) (moreK (lev cost i).1 i j)) := rfl
        rw [eb]
        cases hb : bestU (lev cost i).1 i (cost i) j with
        | none =>
          rw [hb] at h6
          cases h6
          exact ⟨_, rfl, rfl, _, rfl, iteP (by rfl) ⟨_, rfl, _, rfl, t6, t, rfl, ht6⟩⟩
        | some x =>
          rw [hb] at h6
          obtain ⟨t7, rfl, ht7⟩ := h6
          refine ⟨_, rfl, rfl, _, rfl, iteM (fun z => nomatch (of_decide_eq_true z)) ?_⟩
          refine ⟨_, rfl, _, rfl, t7, t, x.1, x.2, (moreK (lev cost i).1 i j).1, (moreK (lev cost i).1 i j).2, rfl, SqT.of ht7, SqT.of ht6, ?_⟩
          refine ⟨_, rfl, t6, ?_⟩
          show BestV _ (some (mn x (moreK (lev cost i).1 i j))) _
          unfold mn
          by_cases z : (moreK (lev cost i).1 i j).1 < x.1 ∨ ((moreK (lev cost i).1 i j).1 = x.1 ∧ (moreK (lev cost i).1 i j).2 < x.2)
          · rw [if_pos z, if_pos z]
            exact ⟨t, rfl, ht6⟩
          · rw [if_neg z, if_neg z]
            exact ⟨t7, rfl, ht7⟩
      · rintro σ H7 ⟨v6, rfl, t7, h7⟩
        exact ⟨_, _, _, rfl, t7, h7⟩
    · rintro σ H5 ⟨v6, v7, v8, rfl, t5, h5⟩
      have e1 : ((0 : Int) + i + 1).toNat = i + 1 := by omega
      rw [e1, bestU_all] at h5
      obtain ⟨t, rfl, ht⟩ := h5
      have hl := lev_len cost i
      refine ⟨_, rfl, .inl ⟨rfl, _, SqL.of t5.own.tail.head⟩, _, rfl, t, _, _, _, rfl, rfl, SqT.of ht, rfl, _, _, _, rfl, rfl, t5.own.tail.head, by rw [List.length_map, hl.1]; exact small1000 (by omega), ?_⟩
      have t6 := (t5.swap2.put (o' := .lst ((lev cost i).1.map V.int ++ [.int (bestK (lev cost i).1 i (cost i)).1])) .nil nl).swap2
      have m6 := t5.own.swap2.mono_put (o' := .lst ((lev cost i).1.map V.int ++ [.int (bestK (lev cost i).1 i (cost i)).1]))
      refine ⟨_, rfl, .inl ⟨rfl, _, SqL.of t6.own.head⟩, _, rfl, t, _, _, _, rfl, rfl, SqT.of (m6 _ _ ht trivial), rfl, _, _, _, rfl, rfl, t6.own.head, by rw [List.length_map, hl.2]; exact small1000 (by omega), ?_⟩
      have t7 := t6.put (o' := .lst ((lev cost i).2.map V.int ++ [.int (bestK (lev cost i).1 i (cost i)).2])) .nil nl
      refine ⟨_, _, _, _, _, rfl, ?_⟩
      have ea : (lev cost (i + 1)).1.map V.int = (lev cost i).1.map V.int ++ [.int (bestK (lev cost i).1 i (cost i)).1] := by
        show ((lev cost i).1 ++ [_]).map V.int = _
        rw [List.map_append]
        rfl
      have eb : (lev cost (i + 1)).2.map V.int = (lev cost i).2.map V.int ++ [.int (bestK (lev cost i).1 i (cost i)).2] := by
        show ((lev cost i).2 ++ [_]).map V.int = _
        rw [List.map_append]
        rfl
      rw [ea, eb]
      exact t7
  · rintro σ H2 ⟨v4, v5, v6, v7, v8, rfl, t2⟩
    rw [Int.toNat_natCast] at t2
    exact ⟨_, rfl, _, rfl, (by show 2 ≤ sizeLine; decide), fun t ht => go t p q _ (t2.old ht) upd_same⟩
end
end Cu

namespace Cu
open PySem PySem.Spec PyProof.Rows L2
/-! own exceptions: a class with an own __init__ (one field), what a def that raises promises -/
/-- CatchError.__init__ is ValueError's -/
structure CeR (K : PySem.W.Frag) (mg : Str → Option Value) (CE : Addr) : Prop where
  gm : mg "CatchError" = some (.ref CE)
  rd : PySem.W.readsIn K CE (.type "type") = true
  ga : PySem.W.specialIn K (.ref CE) "__getattribute__" = some (some (.builtin "type.__getattribute__"))
  at_ : PySem.W.findCls K (.ref CE) (.type "type") "__init__" = some (.val (.builtin "ValueError.__init__"))
section
variable {X : Cx} {e : Expr} {es : List Expr} {ta : TA} {p1 p2 pos : Pos} {CE : Addr}
theorem pe_ceinit {pl : Sem Bool} (T : CeR X.K X.mg CE) (ha : PA X (e :: es) ta) (hg : Gl X "CatchError" := by rfl)
    (hc : eval (.Call (.Attribute (.Name "CatchError" p1) "__init__" p2) (e :: es) [] pos) X.env = (do
      let ov ← eval (.Name "CatchError" p1) X.env
      standAt p2.atName
      let (f, first) ← holding [ov] (getMethod ov "__init__" pl)
      callWith pos f first (backTo pos (starEach (e :: es) X.env)) (backToKw pos (keywordEach [] X.env))) := by rfl)
    (he : starEach (e :: es) X.env = (false, eval e X.env) :: starEach es X.env := by rfl) (hpl : (backTo pos (starEach es X.env)).any (·.1) = false := by rfl) :
    PE X (.Call (.Attribute (.Name "CatchError" p1) "__init__" p2) (e :: es) [] pos) (tVeI X.K ta) := by
  refine ⟨fun pins s σ H Q I h => ?_⟩
  refine PySem.W.methodCall_KW (ld_glob I hg T.gm ?_) hc
  refine PySem.W.method_cls I.kIn T.ga (PySem.W.cls_value I.kIn T.rd T.at_ (by decide +kernel) ?_)
  show wpAny _ _ (callWith pos (Value.builtin "ValueError.__init__") [] (backTo pos (starEach (e :: es) X.env)) []) _ _ _
  refine PyProof.Rows.callWith_method1 (thn (ha.run pos pins _ σ H _ (I.tok _) h) fun us s1 ⟨vs, H1, I1, r1, a, C, ws, ev, hl, T, ea, q⟩ => ?_) he hpl
  subst ev
  cases r1 with
  | @cons _ u0 _ ur ra rw' =>
    obtain rfl : u0 = Value.ref a := ra
    have hlen : ur.length ≤ sizeLine := by
      rw [← Paired.length rw', sizeLine_eq]
      omega
    exact oinit_ok T I1 ea hlen fun s' J => ⟨.non, H1, J, rfl, q⟩
end
/-- a class over CatchError with an own __init__ and one field f -/
structure Xc (K : PySem.W.Frag) (C : Addr) (f : Str) : Prop where
  ox : OexC K C
  xf : XfC K C
  no : PySem.W.findIn K (.ref C) f = some none
/-- its text -/
structure Xd (K : PySem.W.Frag) (mg : Str → Option Value) (x : Str) (C : Addr) (qual : Str) (st : Stmt) : Prop where
  ex : ∃ f fd, Fun K "__init__" qual st f fd ∧ PySem.W.findIn K (.ref C) "__init__" = some (some (.ref f)) ∧ PySem.W.typeIn K (.ref f) = some (.type "function")
  gC : mg x = some (.ref C)
section
variable (P : Program) (w : World) (K : PySem.W.Frag) (mg : Str → Option Value) (base : Heap)
structure Xf (j : Nat) (x : Str) (C : Addr) (ps : List Str) (sp : Sp) : Prop where
  ex : ∃ f fd, FnOk P w K mg base CX0 j f fd ps sp ∧ PySem.W.findIn K (.ref C) "__init__" = some (some (.ref f)) ∧ PySem.W.typeIn K (.ref f) = some (.type "function") ∧ Binds K fd ps []
  gC : mg x = some (.ref C)
/-- a def that may raise -/
structure Gx (j : Nat) (x : Str) (ps : List Str) (sp : Sp) : Prop where
  ex : ∃ f fd, FnOk P w K mg base (L2.CX P w) j f fd ps sp ∧ mg x = some (.ref f) ∧ PySem.W.keepIn K (.ref f) = true ∧ Binds K fd ps []
end
section
variable {P : Program} {w : World} {K : PySem.W.Frag} {mg : Str → Option Value} {base : Heap} {x m qual : Str} {C : Addr} {st : Stmt} {N ps : List Str} {k : Nat} {sp : Sp}
theorem Xd.ok (F : Xd K mg x C qual st) (S : FnScope N ps (defScope st)) (b : Bnd "__init__" qual st ps) (len : ∀ vs H Q E, sp vs H Q E → vs.length = ps.length)
    (hbody : ∀ (qual : Str) (f : Addr) (cdv : Value) (A : Around) (outer : List Env) (s : Shared) (H : Hp) (vs : List V) (Q : VK) (E : XK), Room k (A.deeper (envOfC qual (defScope st) s.heap.objs.size f cdv)) → sp vs H Q E →
      ∃ t, PSs (cxOf CX0 P w K mg base N qual (defScope st) f cdv A outer s H E).nox (defBody st) t ∧ t { nx := fun _ H' => Q .non H', rt := Q } (start N vs) H) : Xf P w K mg base (k + 1) x C ps sp := by
  obtain ⟨⟨f, fd, F, hm, ht⟩, hx⟩ := F
  exact ⟨⟨f, fd, F.ok S len fun cdv A outer s H vs Q E hr h => hbody qual f cdv A outer s H vs Q E hr h, hm, ht, F.binds b⟩, hx⟩
theorem Fd.okX (F : Fd K mg x st) (S : FnScope N ps (defScope st)) (b : Bnd x x st ps) (len : ∀ vs H Q E, sp vs H Q E → vs.length = ps.length)
    (hbody : ∀ (qual : Str) (f : Addr) (cdv : Value) (A : Around) (outer : List Env) (s : Shared) (H : Hp) (vs : List V) (Q : VK) (E : XK), Room k (A.deeper (envOfC qual (defScope st) s.heap.objs.size f cdv)) → sp vs H Q E →
      ∃ t, PSs (cxOf (L2.CX P w) P w K mg base N qual (defScope st) f cdv A outer s H E) (defBody st) t ∧ t { nx := fun _ H' => Q .non H', rt := Q } (start N vs) H) : Gx P w K mg base (k + 1) x ps sp := by
  obtain ⟨f, fd, F, hm⟩ := F.ex
  exact ⟨f, fd, F.okX S len fun cdv A outer s H vs Q E hr h => hbody x f cdv A outer s H vs Q E hr h, hm, F.kp, F.binds b⟩
end
section
variable {X : Cx} {j k : Nat} {x m : Str} {C : Addr} {ps : List Str} {sp : Sp} {p pos apos : Pos} {e o : Expr} {es : List Expr} {t : TA} {to : TE}
/-- x(..), nothing raised -/
theorem pcx (g : Gx X.prog X.w X.K X.mg X.base j x ps sp) (hr : Room k X.A) (ha : PA X (e :: es) t) (hg : Gl X x := by rfl) (hj : j ≤ k := by decide) (hdb : (x == ("__debug__" : Str)) = false := by decide)
    (he : starEach (e :: es) X.env = (false, eval e X.env) :: starEach es X.env := by rfl) (hpl : (backTo pos (starEach es X.env)).any (·.1) = false := by rfl) :
    PE X (.Call (.Name x p) (e :: es) [] pos) (tCall sp [] E0 t) := by
  obtain ⟨f, fd, F, hm, hk, hb⟩ := g.ex
  exact pe_call F (hr.mono hj) hg hm hk hb .nil passL ha hdb he hpl
/-- x(..), which may raise: W takes it -/
theorem pcy {W : WX} (tk : Takes X W) (g : Gx X.prog X.w X.K X.mg X.base j x ps sp) (hr : Room k X.A) (ha : PA X (e :: es) t) (hg : Gl X x := by rfl) (hj : j ≤ k := by decide) (hdb : (x == ("__debug__" : Str)) = false := by decide)
    (he : starEach (e :: es) X.env = (false, eval e X.env) :: starEach es X.env := by rfl) (hpl : (backTo pos (starEach es X.env)).any (·.1) = false := by rfl) :
    PE X (.Call (.Name x p) (e :: es) [] pos) (tCallS sp (WE W) t) := by
  obtain ⟨f, fd, F, hm, hk, hb⟩ := g.ex
  exact pe_callS F (hr.mono hj) hg hm hk hb (passAt tk) ha hdb he hpl
/-- C(..), made to be raised -/
theorem px (T : OexC X.K C) (g : Xf X.prog X.w X.K X.mg X.base j x C ps sp) (hr : Room k X.A) (ha : PA X (e :: es) t) (hg : Gl X x := by rfl) (hj : j + 1 ≤ k := by decide) (hdb : (x == ("__debug__" : Str)) = false := by decide)
    (he : starEach (e :: es) X.env = (false, eval e X.env) :: starEach es X.env := by rfl) (hpl : (backTo pos (starEach es X.env)).any (·.1) = false := by rfl) :
    PMk X (.Call (.Name x p) (e :: es) [] pos) (tMkO C sp [] t) := by
  obtain ⟨f, fd, F, hm, ht, hb⟩ := g.ex
  exact pmk_oex T hm ht F (hr.mono hj) hb .nil pass0 hg g.gC ha hdb he hpl
end
/-- C.__init__(self, v): self.f = v -/
def spXi (C : Addr) (f : Str) : Sp := fun vs H Q _ => vs.length = 2 ∧ ∃ (a : Addr) (v : V), vs = [.ref a, v] ∧ H a = some (exo a C none) ∧ ∀ dx, H dx = none → dx ≠ a → Q .non (upd (upd H dx (exd dx [(f, v)])) a (exo a C (some dx)))
/-- what is behind making it -/
theorem xmade {C : Addr} {f : Str} {v : V} {H : Hp} {Q : XK} (h : ∀ d, H d = none → Q (.ref C) (some d) (upd H d (.xd [(f, v)]))) (a : Addr) (ha : H a = none) :
    spXi C f (.ref a :: ([v] ++ [])) (upd H a (exo a C none)) (fun u H2 => u = .non ∧ ∃ (d : Addr) (fs : List (Str × V)), H2 a = some (exo a C (some d)) ∧ H2 d = some (exd d fs) ∧ H d = none ∧ Q (.ref C) (some d) (upd (del H2 a) d (.xd fs))) (fun _ _ _ => False) := by
  refine ⟨rfl, a, v, rfl, upd_same, fun dx hdx hne => ⟨rfl, dx, [(f, v)], upd_same, ?_, ?_, ?_⟩⟩
  · rw [upd_ne hne]
    exact upd_same
  · rw [upd_ne hne] at hdx
    exact hdx
  · have hdx' : H dx = none := by rw [upd_ne hne] at hdx; exact hdx
    have e : upd (del (upd (upd (upd H a (exo a C none)) dx (exd dx [(f, v)])) a (exo a C (some dx))) a) dx (.xd [(f, v)]) = upd H dx (.xd [(f, v)]) := by
      funext b
      by_cases hb : b = dx
      · subst hb
        rw [upd_same, upd_same]
      · rw [upd_ne hb, upd_ne hb]
        by_cases hba : b = a
        · subst hba
          rw [del_same, ha]
        · rw [del_ne hba, upd_ne hba, upd_ne hb, upd_ne hba]
    rw [e]
    exact h dx hdx'
/-- such a class in an except clause of its own -/
theorem exm_of {K : PySem.W.Frag} {C : Addr} (T : Xc K C "place") (h : PySem.W.subIn K (.ref C) (.ref C) = some true) : PySem.W.exmOne K (.ref C) (.ref C) = some true :=
  PySem.W.exm_ref T.ox.exC T.xf.hdC T.ox.tyC h
end Cu

namespace Cu
open PySem PySem.Spec PyProof.Rows L2
section
variable {X : Cx} {x n : Str} {c : Value} {i : Nat} {body suite : List Stmt} {b₀ : Stmt} {np pos pos' : Pos} {Wout : WX}
/-- try .. except x as n: the readings may name what the body's and the suite's own contexts hold -/
theorem ps_tryT {tt : WX → List (Addr × Obj) → (Value → Shared → Prop) → TS} {ts : Addr → Obj → Value → Option Addr → List (Addr × Obj) → TS}
    (hs : X.stack = X.env :: X.outer) (hf : X.env.frame = some X.env.locals) (hN : X.N.Nodup) (hi : X.N[i]? = some n) (hln : X.env.kindOf n = some .local) (hc : Names X x c) (tk : Takes X Wout)
    (hb : ∀ (W : WX) (pn : List (Addr × Obj)) (xe : Value → Shared → Prop), Takes (X.tr pn xe) W → PassesOwn (model X.prog X.w) X.A X.env xe → PSs (X.tr pn xe) body (tt W pn xe))
    (hsu : ∀ (a : Addr) (oe : Obj) (cls : Value) (d : Option Addr) (pn : List (Addr × Obj)), Zc cls d oe → (∃ vs, oe.data = .fields vs) → PSs (X.suite a ((a, oe) :: pn)) (b₀ :: suite) (ts a oe cls d pn)) :
    PS X (.Try body [.ExceptHandler (some (.Name x np)) (some n) (b₀ :: suite) pos'] [] [] pos)
      (fun D σ H => ∀ pn xe, tt (wAs X.K c i (fun a cls d D σ H => ∀ oe pn, ts a oe cls d pn D σ H) Wout D) pn xe D σ H) :=
  ps_try_as (tb := fun W D σ H => ∀ pn xe, tt W pn xe D σ H) (ts := fun a cls d D σ H => ∀ oe pn, ts a oe cls d pn D σ H) hs hf hN hi hln hc tk
    (fun W pn xe tk po => ⟨fun pins s σ H D I h => (hb W pn xe tk po).run pins s σ H D I (h pn xe)⟩)
    (fun a oe cls d pn hz hf => ⟨fun pins s σ H D I h => (hsu a oe cls d pn hz hf).run pins s σ H D I (h oe pn)⟩)
end
end Cu

namespace Cu
open PySem PySem.Spec PyProof.Rows L2
abbrev s_BadKnown_init : Stmt := (inClass (top 7) 0)
theorem sc_BadKnown_init : FnScope ["self", "key"] ["self", "key"] (defScope s_BadKnown_init) := ⟨rfl, rfl, rfl, by decide +kernel, rfl, by decide +kernel, by decide +kernel⟩

def xdK (n : Nat) : HO := .xd [("key", .int n)]
section
variable {P : Program} {w : World} {K : PySem.W.Frag} {mg : Str → Option Value} {base : Heap} {C CE : Addr}
theorem ok_BadKnown (F : Xd K mg "BadKnown" C "BadKnown.__init__" s_BadKnown_init) (CCatchError : CeR K mg CE) (XBadKnown : Xc K C "key") : Xf P w K mg base 1 "BadKnown" C ["self", "key"] (spXi C "key") := by
  refine F.ok sc_BadKnown_init (fun _ _ _ _ _ _ us hl => match us, hl with | [_, _], _ => rfl) len_of fun qual f cdv A0 outer s H vs Q E hr h => ?_
  obtain ⟨_, a, v, rfl, ha, k⟩ := h
  refine ⟨_, (pss_cons (ps_expr (pe_ceinit CCatchError (pa_cons (pv 0) (pa_cons pe_str pa_nil)))) (pss_one (ps_ost (pv 0) (pv 1)))), ?_⟩
  refine ⟨_, rfl, a, C, _, rfl, (by decide), XBadKnown.ox, ha, ?_⟩
  exact ⟨_, rfl, _, rfl, a, C, rfl, XBadKnown.ox, XBadKnown.no, .inl ⟨ha, k⟩⟩
end
end Cu

namespace Cu
open PySem PySem.Spec PyProof.Rows L2
abbrev s_need_known : Stmt := (top 17)
theorem sc_need_known : FnScope ["board", "known", "key"] ["board", "known"] (defScope s_need_known) := ⟨rfl, rfl, rfl, by decide +kernel, rfl, by decide +kernel, by decide +kernel⟩

def badK1 (n : Nat) (ns : List Int) (k : Nat) : Bool := decide (ns.length ≤ k) || !(decide (-1 ≤ ns.getD k 0) && decide (ns.getD k 0 ≤ (n : Int)))
/-- the first key whose number nobody can know, or how many keys there are -/
def badN (nk n : Nat) (ns : List Int) : Option Nat := match (List.range nk).find? (badK1 n ns) with
  | some k => some k
  | none => if nk < ns.length then some nk else none
theorem badN_at {nk n k : Nat} {ns : List Int} (hk : k < nk) (h : ∀ j, j < k → badK1 n ns j = false) (hb : badK1 n ns k = true) : badN nk n ns = some k := by
  have e : (List.range nk).find? (badK1 n ns) = some k := by
    rw [List.find?_range_eq_some]
    exact ⟨hb, List.mem_range.mpr hk, fun j hj => by rw [h j hj]; rfl⟩
  unfold badN
  rw [e]
theorem badN_end {nk n : Nat} {ns : List Int} (h : ∀ j, j < nk → badK1 n ns j = false) : badN nk n ns = if nk < ns.length then some nk else none := by
  have e : (List.range nk).find? (badK1 n ns) = none := by
    rw [List.find?_eq_none]
    intro i hi
    rw [h i (List.mem_range.mp hi)]
    simp
  unfold badN
  rw [e]
theorem getD_mem {ns : List Int} {k : Nat} (h : k < ns.length) : ns.getD k 0 ∈ ns := by
  rw [List.getD_eq_getElem?_getD, List.getElem?_eq_getElem h]
  exact List.getElem_mem h
theorem kn_of {nk : Nat} {cs : List Ch} {ns : List Int} (h : ∀ j, j < nk → badK1 cs.length ns j = false) (hl : ¬ nk < ns.length) : Kn nk cs ns := by
  have hlen : ns.length = nk := by
    rcases Nat.lt_or_ge ns.length nk with q | q
    · have := h ns.length q
      unfold badK1 at this
      rw [decide_eq_true (Nat.le_refl _), Bool.true_or] at this
      cases this
    · omega
  refine ⟨hlen, fun z hz => ?_⟩
  obtain ⟨j, hj⟩ := List.getElem?_of_mem hz
  have hj' := (List.getElem?_eq_some_iff.mp hj).1
  have e : ns.getD j 0 = z := by rw [List.getD_eq_getElem?_getD, hj]; rfl
  have := h j (by omega)
  unfold badK1 at this
  rw [e, Bool.or_eq_false_iff, Bool.not_eq_false', Bool.and_eq_true] at this
  exact ⟨of_decide_eq_true this.2.1, of_decide_eq_true this.2.2⟩
def spNeedX (K : PySem.W.Frag) (CB CK : Addr) : Sp := fun vs H Q E => vs.length = 2 ∧ ∃ (B : BA) (nk keep : Nat) (cs : List Ch) (c : Lg) (kn : Addr) (ns : List Int), vs = [.ref B.p, .ref kn] ∧ BR K CB B nk keep cs H c ∧ Has H c ∧ SqL K H kn (ns.map V.int) ∧ nk ≤ 8 ∧
  (∀ k, badN nk cs.length ns = some k → ∀ d H', Grow H H' → H' d = some (xdK k) → E (.ref CK) (some d) H') ∧ (badN nk cs.length ns = none → Kn nk cs ns → Q .non H)
section
variable {P : Program} {w : World} {K : PySem.W.Frag} {mg : Str → Option Value} {base : Heap} {CB CK : Addr}
theorem ok_need_knownX (F : Fd K mg "need_known" s_need_known) (Bm : Blt mg) (CBoard : CBo K CB) (m_Board_size : Mf P w K mg base 1 CB "size" ["self"] (spBsize K CB)) (m_Board_number : Mf P w K mg base 1 CB "number" ["self"] (spBnumber K CB))
    (x_BadKnown : Xf P w K mg base 1 "BadKnown" CK ["self", "key"] (spXi CK "key")) (XBadKnown : Xc K CK "key") : Gx P w K mg base 3 "need_known" ["board", "known"] (spNeedX K CB CK) := by
  refine F.okX sc_need_known (fun _ _ _ _ _ _ us hl => match us, hl with | [_, _], _ => rfl) len_of fun qual f cdv A0 outer s H vs Q E hr h => ?_
  obtain ⟨_, B, nk, keep, cs, c, kn, ns, rfl, r, hc, hs, h8, kE, go⟩ := h
  refine ⟨_, (pss_cons (ps_for (passes_of rfl) rfl (pi_range1 rfl Bm.range (pa_cons (pm0 (pv 0) CBoard.cl m_Board_size hr) pa_nil)) (pg_name (i := 2) sc_need_known.nd rfl (Or.inl rfl))
        (pss_one (ps_if (PW.pt (pw_or (pt_cmpR op_ge (pv 2) (pe_callB call_len_seq rfl Bm.len (by decide +kernel) (pa_cons (pv 1) pa_nil)) (nomark _)) (pw_or1 (pt_not (pt_chain op_le op_le (pe_un un_neg pe_int) (pe_ix ix_list (pv 1) (pv 2) (fun _ _ => rfl)) (pm0 (pv 0) CBoard.cl m_Board_number hr))))))
          (pss_one (ps_raise rfl (takes_of rfl rfl rfl rfl) (px XBadKnown.ox x_BadKnown hr (pa_cons (pv 2) pa_nil))))
          pss_nil)))
      (pss_one (ps_if (pt_cmpR op_gt (pe_callB call_len_seq rfl Bm.len (by decide +kernel) (pa_cons (pv 1) pa_nil)) (pm0 (pv 0) CBoard.cl m_Board_size hr) (nomark _))
        (pss_one (ps_raise rfl (takes_of rfl rfl rfl rfl) (px XBadKnown.ox x_BadKnown hr (pa_cons (pm0 (pv 0) CBoard.cl m_Board_size hr) pa_nil))))
        pss_nil))), ?_⟩
  have hln : (ns.map V.int).length = ns.length := List.length_map ..
  refine rd_bsize (by rfl) r hc ⟨_, rfl, by omega, by omega, for_range (lo := 0) (n := (nk : Int).toNat) (fun i σ H' => ∃ v, σ = [some (.ref B.p), some (.ref kn), v] ∧ H' = H ∧ ∀ j, j < i → badK1 cs.length ns j = false) ⟨none, rfl, rfl, fun _ h => absurd h (Nat.not_lt_zero _)⟩ ?_ ?_⟩
  · rintro i σ H' hi ⟨v, rfl, rfl, hj⟩
    have hi' : i < nk := by omega
    have ez : ((0 : Int) + i) = (i : Int) := by omega
    rw [ez]
    have raise_ : badK1 cs.length ns i = true → ∀ d, H' d = none → E (.ref CK) (some d) (upd H' d (.xd [("key", .int (i : Int))])) := fun hb d hd => kE i (badN_at hi' hj hb) d _ ((Grow.refl _).old hd) upd_same
    have next_ : badK1 cs.length ns i = false → ∀ j, j < i + 1 → badK1 cs.length ns j = false := fun hb j h => by
      rcases Nat.lt_succ_iff_lt_or_eq.mp h with h | rfl
      · exact hj j h
      · exact hb
    refine ⟨_, rfl, _, rfl, kn, _, rfl, .inl hs, _, _, rfl, rfl, _, rfl, ite2 (fun c1 => ?_) fun c1 => ?_⟩
    · have h1 : ns.length ≤ i := by
        have := of_decide_eq_true c1
        rw [hln] at this
        omega
      refine iteP rfl ⟨_, rfl, (by show 1 ≤ 1000; decide), xmade fun d hd => raise_ ?_ d hd⟩
      unfold badK1
      rw [decide_eq_true h1, Bool.true_or]
    have h1 : i < ns.length := by
      rcases Nat.lt_or_ge i ns.length with q | q
      · exact q
      · exact absurd (decide_eq_true (show (((ns.map V.int).length : Nat) : Int) ≤ (i : Int) by rw [hln]; omega)) c1
    have hat := getD_at h1
    refine ⟨_, rfl, _, rfl, _, rfl, kn, _, _, _, rfl, rfl, hs, hat, _, _, rfl, rfl, _, rfl, ite2 (fun c2 => ?_) fun c2 => ?_⟩
    · have h2 : -1 ≤ ns.getD i 0 := of_decide_eq_true c2
      refine rd_bnumber (by rfl) r hc ⟨_, _, rfl, rfl, _, rfl, ite2 (fun c3 => ?_) fun c3 => ?_⟩
      · refine ⟨_, rfl, (by show 1 ≤ 1000; decide), xmade fun d hd => raise_ ?_ d hd⟩
        have h3 : ¬ ns.getD i 0 ≤ (cs.length : Int) := by simpa using c3
        unfold badK1
        rw [decide_eq_false h3, Bool.and_false]
        simp
      · refine ⟨_, rfl, rfl, next_ ?_⟩
        have h3 : ns.getD i 0 ≤ (cs.length : Int) := by simpa using c3
        unfold badK1
        rw [decide_eq_false (show ¬ ns.length ≤ i by omega), decide_eq_true h2, decide_eq_true h3]
        rfl
    · refine ⟨_, rfl, iteP rfl ⟨_, rfl, (by show 1 ≤ 1000; decide), xmade fun d hd => raise_ ?_ d hd⟩⟩
      have h2 : ¬ -1 ≤ ns.getD i 0 := fun z => c2 (decide_eq_true z)
      unfold badK1
      rw [decide_eq_false h2, Bool.false_and]
      simp
  · rintro σ H' ⟨v, rfl, rfl, hj⟩
    rw [Int.toNat_natCast] at hj
    have en := badN_end hj
    refine ⟨_, rfl, kn, _, rfl, .inl hs, ?_⟩
    refine rd_bsize (by rfl) r hc ⟨_, _, rfl, rfl, _, rfl, ite2 (fun c1 => ?_) fun c1 => ?_⟩
    · have h1 : nk < ns.length := by
        have := of_decide_eq_true c1
        rw [hln] at this
        omega
      rw [if_pos h1] at en
      refine rd_bsize (by rfl) r hc ⟨(by show 1 ≤ 1000; decide), xmade fun d hd => kE nk en d _ ((Grow.refl _).old hd) upd_same⟩
    · have h1 : ¬ nk < ns.length := fun z => c1 (decide_eq_true (show (nk : Int) < (((ns.map V.int).length : Nat) : Int) by rw [hln]; omega))
      rw [if_neg h1] at en
      exact go en (kn_of hj h1)
end
end Cu

namespace Cu
open PySem PySem.Spec PyProof.Rows L2
/-! a hearer that is up to date -/
theorem KI.on {cs : List Ch} {k : Nat} {h : HK} (i : KI cs k h) (ds : List Ch) : KI (cs ++ ds) k h := by
  have hi := i.hi
  refine ⟨⟨i.lo, by rw [List.length_append]; omega, fun u hu => ?_, fun a ha => ?_, i.nd⟩, i.ahead⟩
  · rw [List.take_append_of_le_length (by omega)]
    exact i.ok u hu
  · obtain ⟨m, e1, e2, e3⟩ := i.as a ha
    have hm := (List.getElem?_eq_some_iff.mp e2).1
    exact ⟨m, e1, by rw [List.getElem?_append_left hm]; exact e2, by rw [List.take_append_of_le_length (Nat.le_of_lt hm)]; exact e3⟩
theorem AllI.on {nk : Nat} {cs : List Ch} {hs : List HK} (i : AllI nk cs hs) (ds : List Ch) : AllI nk (cs ++ ds) hs := ⟨i.1, fun k h e => (i.2 k h e).on ds⟩
theorem up_nil {cs : List Ch} {k : Nat} {h : HK} (i : KI cs k h) (hl : (lof cs k : Int) ≤ h.upto) : h.aside = [] := by
  cases ha : h.aside with
  | nil => rfl
  | cons a as =>
    exfalso
    have hm : a ∈ h.aside := by rw [ha]; exact List.mem_cons_self
    have q1 := i.ahead a hm
    obtain ⟨m, e1, e2, e3⟩ := i.as a hm
    have hml := (List.getElem?_eq_some_iff.mp e2).1
    have := lof_mono (cs := cs) (k := k) (show m ≤ cs.length by omega)
    rw [List.take_length] at this
    omega
theorem srt_nil : srt [] = [] := by simp [srt]
theorem free_nil {h : HK} (e : h.aside = []) : h.free = (h, []) := by
  unfold HK.free
  rw [e]
  show (srt []).foldl _ _ = _
  rw [srt_nil]
  rfl
theorem hearK_part_nil {k n b : Nat} {h : HK} {rows : List (Int × Nat)} (e : h.aside = []) : (hearK k h (.part n b rows)).2 = [] ∧ (hearK k h (.part n b rows)).1.aside = [] := by
  simp only [hearK]
  split
  · split
    · unfold HK.row
      split
      · rename_i r _ _
        rw [free_nil (h := { h with worth := r.1, since := r.2, upto := n }) e]
        exact ⟨rfl, e⟩
      · exact ⟨rfl, e⟩
    · exact ⟨rfl, e⟩
  · exact ⟨rfl, e⟩
theorem heard_nil {hs : List HK} {l : Letter} (h : ∀ (k : Nat) (g : HK), hs[k]? = some g → (hearK k g l).2 = []) : heard hs l = [] := by
  refine List.eq_nil_iff_forall_not_mem.mpr fun n hn => ?_
  obtain ⟨k, g, e, q⟩ := heard_mem hn
  rw [h k g e] at q
  cases q
/-- a change heard by one that is up to date -/
theorem change_now {nk : Nat} {cs : List Ch} {hs : List HK} {ch : Ch} (i : AllI nk cs hs) (up : ∀ (k : Nat) (h : HK), hs[k]? = some h → (lof cs k : Int) ≤ h.upto) (hk : ch.key < nk) :
    heard hs (.change (cs.length + 1) ch (lof cs ch.key)) = [((cs.length + 1 : Nat) : Int)] ∧ AllI nk (cs ++ [ch]) (hear hs (.change (cs.length + 1) ch (lof cs ch.key))) ∧
    (∀ (k : Nat) (h : HK), (hear hs (.change (cs.length + 1) ch (lof cs ch.key)))[k]? = some h → (lof (cs ++ [ch]) k : Int) ≤ h.upto ∧ (k = ch.key → h.upto = ((cs.length + 1 : Nat) : Int))) ∧
    ∀ (k : Nat) (g h : HK), hs[k]? = some g → (hear hs (.change (cs.length + 1) ch (lof cs ch.key)))[k]? = some h → g.upto ≤ h.upto := by
  have il : IsLet nk (cs ++ [ch]) (.change (cs.length + 1) ch (lof cs ch.key)) := by
    have := IsLet.change (nk := nk) (cs := cs ++ [ch]) (n := cs.length) (c := ch) (by simp)
    rwa [List.take_append_of_le_length (Nat.le_refl _), List.take_length] at this
  have i' := (i.on [ch]).hear il
  obtain ⟨g, eg⟩ : ∃ g, hs[ch.key]? = some g := ⟨hs[ch.key]'(by rw [i.1]; exact hk), List.getElem?_eq_getElem _⟩
  have ua := up_nil (i.2 _ g eg) (up _ g eg)
  have hi := (i.2 _ g eg).hi
  have hu := up _ g eg
  have ec : g.chg (cs.length + 1) ch (lof cs ch.key) = (g.done (cs.length + 1) ch.set ch.worth, [((cs.length + 1 : Nat) : Int)]) := by
    unfold HK.chg
    rw [if_neg (by omega), if_neg (by omega), free_nil (h := g.done (cs.length + 1) ch.set ch.worth) ua]
  obtain ⟨e1, e2⟩ := hear_change (n := cs.length + 1) (ahead := lof cs ch.key) eg
  rw [ec] at e1 e2
  have toldup : ∀ (k : Nat) (g h : HK), hs[k]? = some g → (hear hs (.change (cs.length + 1) ch (lof cs ch.key)))[k]? = some h → g.upto ≤ h.upto := fun k g h e1 e2 => by
    rw [hear_get e1] at e2
    cases e2
    exact ((i.on [ch]).told il e1).up
  refine ⟨e2, i', fun k h eh => ?_, toldup⟩
  rw [lof_snoc]
  by_cases q : ch.key = k
  · subst q
    rw [e1, List.getElem?_set_self (List.getElem?_eq_some_iff.mp eg).1] at eh
    cases eh
    rw [if_pos rfl]
    exact ⟨Int.le_refl _, fun _ => rfl⟩
  · rw [if_neg q]
    refine ⟨?_, fun z => absurd z.symm q⟩
    obtain ⟨g', eg', _⟩ := hear_inv eh
    exact Int.le_trans (up k g' eg') (toldup k g' h eg' eh)
theorem lwt_none {cost : Nat → Option Nat} : ∀ {n : Nat}, (∀ k, k < n → cost k = some 0) → lwt cost n = 0
  | 0, _ => rfl
  | n + 1, h => by
    have ih := lwt_none (cost := cost) (n := n) fun k hk => h k (by omega)
    have h1 := (lev_ok cost n).2.1 0 (h n (by omega))
    have h2 := lwt_nonneg cost (n + 1)
    omega
theorem wt_pos (l : Letter) : 0 < l.wt := by
  cases l with
  | part n b rows =>
    show 0 < 2 + rows.length
    omega
  | change n c a => exact Nat.one_pos
  | beat n ls => exact Nat.one_pos
theorem wtL_zero {ls : List Letter} (h : wtL ls = 0) : ls = [] := by
  cases ls with
  | nil => rfl
  | cons l ls =>
    have := wt_pos l
    have e : wtL (l :: ls) = l.wt + wtL ls := by simp [wtL]
    omega
/-- of one who is up to date nothing is wanted -/
theorem cost_none {keep : Nat} {cs : List Ch} {ns : List Int} {nk : Nat} (h : ∀ k, k < nk → (lof cs k : Int) ≤ ns.getD k 0) : lwt (costL keep cs ns) nk = 0 := lwt_none fun k hk => by
  unfold costL wantL
  rw [if_pos (h k hk)]
  rfl
theorem ups_getD {hs : List HK} {k : Nat} {h : HK} (e : hs[k]? = some h) : (hs.map fun h => h.upto).getD k 0 = h.upto := by
  rw [List.getD_eq_getElem?_getD, List.getElem?_map, e]
  rfl
theorem AllI.kn {nk : Nat} {cs : List Ch} {hs : List HK} (i : AllI nk cs hs) : Kn nk cs (hs.map fun h => h.upto) := by
  refine ⟨by rw [List.length_map]; exact i.1, fun n hn => ?_⟩
  obtain ⟨g, hg, rfl⟩ := List.mem_map.mp hn
  obtain ⟨k, ek⟩ := List.getElem?_of_mem hg
  exact ⟨(i.2 k g ek).lo, (i.2 k g ek).hi⟩
theorem flat_up {nk : Nat} {cs : List Ch} {hs : List HK} (i : AllI nk cs hs) (up : ∀ (k : Nat) (h : HK), hs[k]? = some h → (lof cs k : Int) ≤ h.upto) : (hs.map fun h => asN h.aside).flatten = [] := flat_nil fun x hx => by
  obtain ⟨g, hg, rfl⟩ := List.mem_map.mp hx
  obtain ⟨k, ek⟩ := List.getElem?_of_mem hg
  rw [up_nil (i.2 k g ek) (up k g ek)]
  rfl
theorem wf_up {nk : Nat} {cs : List Ch} {hs : List HK} (i : AllI nk cs hs) (up : ∀ (k : Nat) (h : HK), hs[k]? = some h → (lof cs k : Int) ≤ h.upto) : ∀ h ∈ hs, Wf h := fun h hh => by
  obtain ⟨k, ek⟩ := List.getElem?_of_mem hh
  refine ⟨(i.2 k h ek).nd, ?_⟩
  rw [up_nil (i.2 k h ek) (up k h ek)]
  decide
end Cu

namespace Cu
open PySem PySem.Spec PyProof.Rows L2
theorem RpL.erase {K : PySem.W.Frag} {H : Hp} {ds : List PyData} {vs : List V} (k : Nat) (h : RpL K H ds vs) : RpL K H (ds.eraseIdx k) (vs.eraseIdx k) := by
  rw [List.eraseIdx_eq_take_drop_succ, List.eraseIdx_eq_take_drop_succ]
  exact (h.take k).append (h.drop (k + 1))
theorem mem_erase {α : Type} {xs : List α} {k : Nat} {x y : α} (e : xs[k]? = some x) (h : y ∈ xs) : y = x ∨ y ∈ xs.eraseIdx k := by
  obtain ⟨i, hi⟩ := List.getElem?_of_mem h
  by_cases q : i = k
  · subst q
    rw [hi] at e
    exact .inl (Option.some.inj e)
  · exact .inr (List.mem_eraseIdx_iff_getElem?.mpr ⟨i, q, hi⟩)
theorem erase_mem {α : Type} {xs : List α} {k : Nat} {y : α} (h : y ∈ xs.eraseIdx k) : y ∈ xs := List.mem_of_mem_eraseIdx h
theorem seqIx {i : Int} {n : Nat} (h0 : 0 ≤ i) (h1 : i < n) : seqIndex? i n = some i.toNat := by
  have h : ixN n i = some i.toNat := by
    unfold ixN
    rw [if_pos h0, if_pos h1]
  exact (ixN_seq h).1
theorem erase_map {α β : Type} (f : α → β) (xs : List α) (k : Nat) : (xs.eraseIdx k).map f = (xs.map f).eraseIdx k := by
  rw [List.eraseIdx_eq_take_drop_succ, List.eraseIdx_eq_take_drop_succ, List.map_append, List.map_take, List.map_drop]
/-! letters told behind n0 changes: all the changes behind, and parts -/
structure Pool (nk n0 : Nat) (cs : List Ch) (ls : List Letter) : Prop where
  le : n0 ≤ cs.length
  lt : ∀ l ∈ ls, IsLet nk cs l ∧ Fresh n0 l
  all : ∀ (m : Nat) (c : Ch), n0 ≤ m → cs[m]? = some c → Letter.change (m + 1) c (lof (cs.take m) c.key) ∈ ls
def Covd (n0 : Nat) (cs : List Ch) (ls : List Letter) (p : Nat × Nat) : Prop := ∃ n, n0 ≤ n ∧ n ≤ cs.length ∧ partL cs n p.1 p.2 ∈ ls
section
variable {nk n0 : Nat} {cs : List Ch} {ls : List Letter}
theorem Pool.ini (cs : List Ch) : Pool nk cs.length cs [] := ⟨Nat.le_refl _, fun _ h => (nomatch h), fun m c h e => by
  have := (List.getElem?_eq_some_iff.mp e).1
  omega⟩
theorem Pool.change (p : Pool nk n0 cs ls) (ch : Ch) : Pool nk n0 (cs ++ [ch]) (ls ++ [.change (cs.length + 1) ch (lof cs ch.key)]) := by
  have h0 := p.le
  refine ⟨by rw [List.length_append]; omega, fun l hl => ?_, fun m c hm e => ?_⟩
  · rcases List.mem_append.mp hl with hl | hl
    · exact ⟨(p.lt l hl).1.on, (p.lt l hl).2⟩
    · rw [List.mem_singleton.mp hl]
      refine ⟨?_, by show n0 < cs.length + 1; omega⟩
      have := IsLet.change (nk := nk) (cs := cs ++ [ch]) (n := cs.length) (c := ch) (by simp)
      rwa [List.take_append_of_le_length (Nat.le_refl _), List.take_length] at this
  · by_cases h : m < cs.length
    · rw [List.getElem?_append_left h] at e
      rw [List.take_append_of_le_length (Nat.le_of_lt h)]
      exact List.mem_append_left _ (p.all m c hm e)
    · have hm' := (List.getElem?_eq_some_iff.mp e).1
      rw [List.length_append, List.length_singleton] at hm'
      have : m = cs.length := by omega
      subst this
      rw [List.take_append_of_le_length (Nat.le_refl _), List.take_length]
      have : c = ch := by simpa using e.symm
      subst this
      exact List.mem_append_right _ (List.mem_singleton_self _)
theorem Pool.part (p : Pool nk n0 cs ls) {b e : Nat} (h1 : b < e) (h2 : e ≤ nk) : Pool nk n0 cs (ls ++ [partL cs cs.length b e]) := by
  refine ⟨p.le, fun l hl => ?_, fun m c hm e => List.mem_append_left _ (p.all m c hm e)⟩
  rcases List.mem_append.mp hl with hl | hl
  · exact p.lt l hl
  · rw [List.mem_singleton.mp hl]
    exact ⟨.part (Nat.le_refl _) h1 h2, p.le⟩
theorem Pool.more (p : Pool nk n0 cs ls) {ms : List Letter} (h : ∀ l ∈ ms, l ∈ ls) : Pool nk n0 cs (ls ++ ms) :=
  ⟨p.le, fun l hl => p.lt l ((List.mem_append.mp hl).elim id (h l)), fun m c hm e => List.mem_append_left _ (p.all m c hm e)⟩
theorem Covd.on {p : Nat × Nat} (h : Covd n0 cs ls p) (ds : List Ch) (ms : List Letter) : Covd n0 (cs ++ ds) (ls ++ ms) p := by
  obtain ⟨n, h1, h2, h3⟩ := h
  exact ⟨n, h1, by rw [List.length_append]; omega, by rw [partL_on h2]; exact List.mem_append_left _ h3⟩
theorem Covd.on1 {p : Nat × Nat} (h : Covd n0 cs ls p) (ms : List Letter) : Covd n0 cs (ls ++ ms) p := by
  have := h.on [] ms
  rwa [List.append_nil] at this
theorem pool_end {hs : List HK} (i : AllI nk cs hs) (pl : Pool nk n0 cs ls) (cov : ∀ k, k < nk → ∃ p : Nat × Nat, (p.1 ≤ k ∧ k < p.2) ∧ Covd n0 cs ls p) (got : ∀ l ∈ ls, ∀ (k : Nat) (h : HK), hs[k]? = some h → Got k l h) :
    ∀ (k : Nat) (h : HK), hs[k]? = some h → h.aside = [] ∧ (lof cs k : Int) ≤ h.upto ∧ 0 ≤ h.upto := fun k h eh => by
  have hk : k < nk := by
    have := (List.getElem?_eq_some_iff.mp eh).1
    have := i.1
    omega
  obtain ⟨p, hp, n, h1, h2, h3⟩ := cov k hk
  have h4 : (n : Int) ≤ h.upto := got _ h3 k h eh hp.1 (by
    rw [partRows, List.length_map, List.length_range]
    omega)
  obtain ⟨q1, q2⟩ := got_end (n0 := n0) (i.2 k h eh) (by omega) fun m c em ek hm => by
    have q : ((m + 1 : Nat) : Int) ≤ h.upto ∨ (c.set = false ∧ ((m + 1 : Nat) : Int) ∈ asN h.aside) := got _ (pl.all m c (by omega) em) k h eh ek
    exact q.imp id And.right
  exact ⟨q1, q2, by omega⟩
theorem Dp.nil' {K : PySem.W.Frag} {H : Hp} {a : Addr} (h : FzL K H a []) : Dp K H (.ref a) (.list []) := .lst h.sq .nil
theorem held_nil {hs : List HK} (h : ∀ (k : Nat) (g : HK), hs[k]? = some g → g.aside = []) : heldM hs = [] := by
  refine List.eq_nil_iff_forall_not_mem.mpr fun n hn => ?_
  have hn := (srt_perm _).mem_iff.mp hn
  obtain ⟨x, hx, hn⟩ := List.mem_flatten.mp hn
  obtain ⟨g, hg, rfl⟩ := List.mem_map.mp hx
  obtain ⟨k, ek⟩ := List.getElem?_of_mem hg
  rw [h k g ek] at hn
  cases hn
end
end Cu

namespace Cu
open PySem PySem.Spec PyProof.Rows L2
/-! letters that bring a hearer up -/
theorem letsP (cs : List Ch) : (lets cs).Pairwise fun a b => a.numOf < b.numOf := by
  induction cs using snoc_ind with
  | h0 => exact List.Pairwise.nil
  | h1 cs c ih =>
    rw [lets_snoc]
    refine List.pairwise_append.mpr ⟨ih, List.pairwise_singleton _ _, fun a ha b hb => ?_⟩
    rw [List.mem_singleton] at hb
    subst hb
    obtain ⟨m, d, e, rfl⟩ := lets_mem ha
    have := (List.getElem?_eq_some_iff.mp e).1
    show m + 1 < cs.length + 1
    omega
theorem someL_pw (keep : Nat) (cs : List Ch) (u : Int) (k : Nat) : (someL keep cs u k).Pairwise fun a b => a.numOf < b.numOf := ((letsP cs).sublist (List.drop_sublist _ _)).filter _
/-- a change of the key behind one that is kept is kept, too -/
theorem someL_in {keep : Nat} {cs : List Ch} {u : Int} {k m j : Nat} {c : Ch} {l : Letter} (hl : l ∈ someL keep cs u k) (hm : l.numOf = m + 1) (hj : cs[j]? = some c) (hk : c.key = k) (hmj : m ≤ j) (hu : u < ((j + 1 : Nat) : Int)) :
    Letter.change (j + 1) c (lof (cs.take j) c.key) ∈ someL keep cs u k := by
  obtain ⟨h1, h2⟩ := List.mem_filter.mp hl
  refine List.mem_filter.mpr ⟨?_, ?_⟩
  · obtain ⟨i, hi⟩ := List.getElem?_of_mem h1
    unfold tailL at hi ⊢
    rw [List.getElem?_drop] at hi
    have hil := (List.getElem?_eq_some_iff.mp hi).1
    rw [lets_length] at hil
    rw [lets_get (List.getElem?_eq_getElem hil)] at hi
    have e := Option.some.inj hi
    subst e
    have hmi : cs.length - keep + i + 1 = m + 1 := hm
    refine List.mem_of_getElem? (i := j - (cs.length - keep)) ?_
    rw [List.getElem?_drop, show cs.length - keep + (j - (cs.length - keep)) = j by omega]
    exact lets_get hj
  · rw [Bool.and_eq_true]
    exact ⟨decide_eq_true hk, decide_eq_true hu⟩
theorem pw_drop {sm : List Letter} {i : Nat} {l l' : Letter} (pw : sm.Pairwise fun a b => a.numOf < b.numOf) (hi : sm[i]? = some l) (hm : l' ∈ sm) (h : l.numOf < l'.numOf) : l' ∈ sm.drop i := by
  obtain ⟨j, hj⟩ := List.getElem?_of_mem hm
  have hjl := (List.getElem?_eq_some_iff.mp hj).1
  have hil := (List.getElem?_eq_some_iff.mp hi).1
  by_cases q : i ≤ j
  · refine List.mem_of_getElem? (i := j - i) ?_
    rw [List.getElem?_drop, show i + (j - i) = j by omega]
    exact hj
  · have := (List.pairwise_iff_getElem.mp pw) j i hjl hil (by omega)
    rw [(List.getElem?_eq_some_iff.mp hj).2, (List.getElem?_eq_some_iff.mp hi).2] at this
    omega
/-- what a want gives: a number from which on all is wanted -/
theorem want_base {keep : Nat} {cs : List Ch} {u : Int} {k : Nat} {w : List Letter} (hu : -1 ≤ u) (h : wantL keep cs u k = some w) :
    ∃ n0 : Nat, (((n0 : Int) ≤ u) ∨ ∃ c a, Letter.change n0 c a ∈ w ∧ c.key = k ∧ c.set = true) ∧ n0 ≤ max cs.length u.toNat ∧
      ∀ (j : Nat) (c : Ch), cs[j]? = some c → c.key = k → n0 < j + 1 → Letter.change (j + 1) c (lof (cs.take j) c.key) ∈ w := by
  unfold wantL at h
  by_cases h0 : (lof cs k : Int) ≤ u
  · refine ⟨u.toNat, .inl (by omega), Nat.le_max_right _ _, fun j c hj hk hn => ?_⟩
    have hjl := (List.getElem?_eq_some_iff.mp hj).1
    have := lof_ge (j := cs.length) hj hk hjl
    rw [List.take_length] at this
    omega
  · rw [if_neg h0] at h
    rcases List.eq_nil_or_concat (setsL (someL keep cs u k)) with es | ⟨ini, i, es⟩
    · rw [wantS_no es] at h
      split at h
      · rename_i hf
        cases h
        cases hsm : someL keep cs u k with
        | nil =>
          rw [hsm] at hf
          cases hf
        | cons l0 ls =>
          rw [hsm] at hf
          have hf : (l0.ahd : Int) ≤ u := of_decide_eq_true hf
          have hl0 : l0 ∈ someL keep cs u k := by rw [hsm]; exact List.mem_cons_self
          obtain ⟨m, c0, e0, rfl⟩ := tailL_mem (filter_sub_mem hl0)
          have hk0 : c0.key = k := of_decide_eq_true (Bool.and_eq_true _ _ ▸ (List.mem_filter.mp hl0).2).1
          have hf : (lof (cs.take m) c0.key : Int) ≤ u := hf
          refine ⟨u.toNat, .inl (by omega), Nat.le_max_right _ _, fun j c hj hk hn => ?_⟩
          rw [← hsm]
          refine someL_in hl0 (m := m) rfl hj hk ?_ (by omega)
          by_cases q : m ≤ j
          · exact q
          · have := lof_ge (j := m) hj hk (by omega)
            rw [hk0] at hf
            omega
      · cases h
    · rw [List.concat_eq_append] at es
      rw [wantS_set es] at h
      cases h
      have hi : i ∈ setsL (someL keep cs u k) := by rw [es]; simp
      obtain ⟨h1, h2⟩ := List.mem_filter.mp hi
      have h1 := List.mem_range.mp h1
      obtain ⟨l, el⟩ : ∃ l, (someL keep cs u k)[i]? = some l := ⟨(someL keep cs u k)[i], List.getElem?_eq_getElem h1⟩
      have hl := List.mem_of_getElem? el
      obtain ⟨m, c0, e0, rfl⟩ := tailL_mem (filter_sub_mem hl)
      have hk0 : c0.key = k := of_decide_eq_true (Bool.and_eq_true _ _ ▸ (List.mem_filter.mp hl).2).1
      have hu0 : u < ((m + 1 : Nat) : Int) := of_decide_eq_true (Bool.and_eq_true _ _ ▸ (List.mem_filter.mp hl).2).2
      have hs0 : c0.set = true := by
        rw [el] at h2
        have h2 : (some c0.set == some true) = true := h2
        simpa using h2
      have hml := (List.getElem?_eq_some_iff.mp e0).1
      refine ⟨m + 1, .inr ⟨c0, lof (cs.take m) c0.key, ?_, hk0, hs0⟩, by omega, fun j c hj hk hn => ?_⟩
      · refine List.mem_of_getElem? (i := 0) ?_
        rw [List.getElem?_drop]
        exact el
      · exact pw_drop (someL_pw keep cs u k) el (someL_in hl (m := m) rfl hj hk (by omega) (by omega)) (by show m + 1 < j + 1; omega)
theorem Brings.cover {keep : Nat} {cs : List Ch} {ns : List Int} {e : Nat} {ls : List Letter} (h : Brings keep cs ns e ls) : ∀ k, k < e → (∃ b e', b ≤ k ∧ k < e' ∧ partL cs cs.length b e' ∈ ls) ∨ ∃ w, wantL keep cs (ns.getD k 0) k = some w ∧ ∀ l ∈ w, l ∈ ls := by
  induction h with
  | nil => exact fun k hk => absurd hk (Nat.not_lt_zero k)
  | @want e ls w _ hw ih =>
    intro k hk
    by_cases q : k = e
    · subst q
      exact .inr ⟨w, hw, fun l hl => List.mem_append_right _ hl⟩
    · rcases ih k (by omega) with ⟨b, e', h1, h2, h3⟩ | ⟨w', h1, h2⟩
      · exact .inl ⟨b, e', h1, h2, List.mem_append_left _ h3⟩
      · exact .inr ⟨w', h1, fun l hl => List.mem_append_left _ (h2 l hl)⟩
  | @part b e ls _ hbe ih =>
    intro k hk
    by_cases q : b ≤ k
    · exact .inl ⟨b, e, q, hk, List.mem_append_right _ (List.mem_singleton_self _)⟩
    · rcases ih k (by omega) with ⟨b', e', h1, h2, h3⟩ | ⟨w', h1, h2⟩
      · exact .inl ⟨b', e', h1, h2, List.mem_append_left _ h3⟩
      · exact .inr ⟨w', h1, fun l hl => List.mem_append_left _ (h2 l hl)⟩
/-- what brings up brings up, with all the changes behind -/
theorem bring_up {nk keep : Nat} {cs ds : List Ch} {ns : List Int} {ls ms : List Letter} {hs : List HK} (i : AllI nk (cs ++ ds) hs) (br : Brings keep cs ns nk ls) (kn : Kn nk cs ns) (hns : ∀ (k : Nat) (h : HK), hs[k]? = some h → ns.getD k 0 ≤ h.upto)
    (hls : ∀ l ∈ ls, l ∈ ms) (hds : ∀ (j : Nat) (c : Ch), cs.length ≤ j → (cs ++ ds)[j]? = some c → Letter.change (j + 1) c (lof ((cs ++ ds).take j) c.key) ∈ ms)
    (got : ∀ l ∈ ms, ∀ (k : Nat) (h : HK), hs[k]? = some h → Got k l h) : ∀ (k : Nat) (h : HK), hs[k]? = some h → (lof (cs ++ ds) k : Int) ≤ h.upto := fun k h eh => by
  have hk : k < nk := by
    have := (List.getElem?_eq_some_iff.mp eh).1
    have := i.1
    omega
  have hkn : k < ns.length := by rw [kn.len]; exact hk
  have hb := kn.bd _ (getD_mem hkn)
  have old : ∀ (j : Nat) (c : Ch), (cs ++ ds)[j]? = some c → j < cs.length → cs[j]? = some c ∧ (cs ++ ds).take j = cs.take j := fun j c e hj => by
    rw [List.getElem?_append_left hj] at e
    exact ⟨e, List.take_append_of_le_length (Nat.le_of_lt hj)⟩
  have gchg : ∀ (j : Nat) (c : Ch) (a : Nat), Letter.change (j + 1) c a ∈ ms → c.key = k → ((j + 1 : Nat) : Int) ≤ h.upto ∨ ((j + 1 : Nat) : Int) ∈ asN h.aside := fun j c a hm hck => by
    have q : ((j + 1 : Nat) : Int) ≤ h.upto ∨ (c.set = false ∧ ((j + 1 : Nat) : Int) ∈ asN h.aside) := got _ hm k h eh hck
    exact q.imp id And.right
  have fin : ∀ n0 : Nat, (n0 : Int) ≤ h.upto → (∀ (j : Nat) (c : Ch), cs[j]? = some c → c.key = k → n0 < j + 1 → Letter.change (j + 1) c (lof (cs.take j) c.key) ∈ ms) → (lof (cs ++ ds) k : Int) ≤ h.upto := fun n0 h0 hw =>
    (got_end (n0 := n0) (i.2 k h eh) h0 fun j c ej ek hj => by
      by_cases q : j < cs.length
      · obtain ⟨e1, e2⟩ := old j c ej q
        exact gchg j c _ (hw j c e1 ek hj) ek
      · exact gchg j c _ (hds j c (by omega) ej) ek).2
  rcases br.cover k hk with ⟨b, e', h1, h2, h3⟩ | ⟨w, hw, hwl⟩
  · have h4 : (cs.length : Int) ≤ h.upto := got _ (hls _ h3) k h eh h1 (by
      rw [partRows, List.length_map, List.length_range]
      omega)
    refine fin cs.length h4 fun j c ej ek hj => ?_
    have := (List.getElem?_eq_some_iff.mp ej).1
    omega
  · obtain ⟨n0, hn0, _, hall⟩ := want_base hb.1 hw
    refine fin n0 ?_ fun j c ej ek hj => hls _ (hwl _ (hall j c ej ek hj))
    rcases hn0 with q | ⟨c, a, q1, q2, q3⟩
    · exact Int.le_trans q (hns k h eh)
    · have q : ((n0 : Nat) : Int) ≤ h.upto ∨ (c.set = false ∧ ((n0 : Nat) : Int) ∈ asN h.aside) := got _ (hls _ (hwl _ q1)) k h eh q2
      rcases q with q | q
      · exact q
      · rw [q3] at q
        cases q.1
theorem Brings.lets {nk keep : Nat} {cs : List Ch} {ns : List Int} {e : Nat} {ls : List Letter} (h : Brings keep cs ns e ls) : e ≤ nk → ∀ l ∈ ls, IsLet nk cs l := by
  induction h with
  | nil => exact fun _ _ q => (nomatch q)
  | @want e ls w _ hw ih =>
    intro he l hl
    rcases List.mem_append.mp hl with hl | hl
    · exact ih (by omega) l hl
    · obtain ⟨m, c, e1, rfl⟩ := tailL_mem (filter_sub_mem (wantL_mem hw l hl))
      exact .change e1
  | @part b e ls _ hbe ih =>
    intro he l hl
    rcases List.mem_append.mp hl with hl | hl
    · exact ih (by omega) l hl
    · rw [List.mem_singleton.mp hl]
      exact .part (Nat.le_refl _) hbe he
theorem bring_up0 {nk keep : Nat} {cs : List Ch} {ns : List Int} {ls ms : List Letter} {hs : List HK} (i : AllI nk cs hs) (br : Brings keep cs ns nk ls) (kn : Kn nk cs ns) (hns : ∀ (k : Nat) (h : HK), hs[k]? = some h → ns.getD k 0 ≤ h.upto)
    (hls : ∀ l ∈ ls, l ∈ ms) (got : ∀ l ∈ ms, ∀ (k : Nat) (h : HK), hs[k]? = some h → Got k l h) : ∀ (k : Nat) (h : HK), hs[k]? = some h → (lof cs k : Int) ≤ h.upto := fun k h eh => by
  have := bring_up (ds := []) (i.on []) br kn hns hls (fun j c hj e => by
    rw [List.append_nil] at e
    have := (List.getElem?_eq_some_iff.mp e).1
    omega) got k h eh
  rwa [List.append_nil] at this
end Cu

namespace Cu
open PySem PySem.Spec PyProof.Rows L2
abbrev s_answer : Stmt := (top 20)
theorem sc_answer : FnScope ["board", "known", "begins", "found", "end", "begin"] ["board", "known"] (defScope s_answer) := ⟨rfl, rfl, rfl, by decide +kernel, rfl, by decide +kernel, by decide +kernel⟩

def spAnswerX (K : PySem.W.Frag) (CB CK : Addr) : Sp := fun vs H Q E => vs.length = 2 ∧ ∃ (B : BA) (nk keep : Nat) (cs : List Ch) (c : Lg) (kn : Addr) (ns : List Int), vs = [.ref B.p, .ref kn] ∧ BR K CB B nk keep cs H c ∧ Has H c ∧ StL K H kn (ns.map V.int) ∧ nk ≤ 8 ∧ keep ≤ 20 ∧
  (∀ k, badN nk cs.length ns = some k → ∀ d H', Grow H H' → H' d = some (xdK k) → E (.ref CK) (some d) H') ∧ (Kn nk cs ns → ∀ (r : Addr) (xs : List V) (ls : List Letter) (H' : Hp), Tr H [] H' [(r, .lst xs)] → RpL K H' (ls.map Letter.enc) xs → Brings keep cs ns nk ls → (wtL ls : Int) = lwt (costL keep cs ns) nk → ls.length ≤ 21 * nk → Q (.ref r) H')
section
variable {P : Program} {w : World} {K : PySem.W.Frag} {mg : Str → Option Value} {base : Heap} {CB CK : Addr}
theorem ok_answerX (F : Fd K mg "answer" s_answer) (Bm : Blt mg) (CBoard : CBo K CB) (g_need_known : Gx P w K mg base 3 "need_known" ["board", "known"] (spNeedX K CB CK)) (g_levels : Gf P w K mg base 3 "levels" ["board", "known"] (spLevels K CB)) (g_wanted : Gf P w K mg base 2 "wanted" ["board", "known", "key"] (spWanted K CB))
    (m_Board_size : Mf P w K mg base 1 CB "size" ["self"] (spBsize K CB)) (m_Board_part : Mf P w K mg base 1 CB "part" ["self", "begin", "end"] (spBpart K CB)) : Gx P w K mg base 4 "answer" ["board", "known"] (spAnswerX K CB CK) := by
  refine F.okX sc_answer (fun _ _ _ _ _ _ us hl => match us, hl with | [_, _], _ => rfl) len_of fun qual f cdv A0 outer s H vs Q E hr h => ?_
  obtain ⟨_, B, nk, keep, cs, c, kn, ns, rfl, r, hc, st, h8, hkp, kE, go0⟩ := h
  refine ⟨_, (pss_cons (ps_expr (pcy (takes_of rfl rfl rfl rfl) g_need_known hr (pa_cons (pv 0) (pa_cons (pv 1) pa_nil))))
      (pss_cons (ps_set (i := 2) sc_answer.nd rfl (Or.inl rfl) (pe_ix ix_tup (pc g_levels hr (pa_cons (pv 0) (pa_cons (pv 1) pa_nil))) pe_int (fun _ _ => rfl)))
      (pss_cons (ps_set (i := 3) sc_answer.nd rfl (Or.inl rfl) (pe_lst pa_nil))
      (pss_cons (ps_set (i := 4) sc_answer.nd rfl (Or.inl rfl) (pm0 (pv 0) CBoard.cl m_Board_size hr))
      (pss_cons (ps_while (passes_of rfl) (pt_cmpR op_gt (pv 4) pe_int (nomark _))
        (pss_cons (ps_set (i := 5) sc_answer.nd rfl (Or.inl rfl) (pe_ix ix_list (pv 2) (pv 4) (fun _ _ => rfl)))
        (pss_one (ps_if (pt_cmpR op_lt (pv 5) pe_int (nomark _))
          (pss_cons (ps_set (i := 3) sc_answer.nd rfl (Or.inl rfl) (pe_op op_cat (pc g_wanted hr (pa_cons (pv 0) (pa_cons (pv 1) (pa_cons (pe_op op_sub (pv 4) pe_int) pa_nil)))) (pv 3)))
          (pss_one (ps_set (i := 4) sc_answer.nd rfl (Or.inl rfl) (pe_op op_sub (pv 4) pe_int))))
          (pss_cons (ps_set (i := 3) sc_answer.nd rfl (Or.inl rfl) (pe_op op_cat (pe_lst (pa_cons (pm (pv 0) CBoard.cl m_Board_part hr (pa_cons (pv 5) (pa_cons (pv 4) pa_nil))) pa_nil)) (pv 3)))
          (pss_one (ps_set (i := 4) sc_answer.nd rfl (Or.inl rfl) (pv 5))))))))
      (pss_one (ps_ret (pv 3)))))))), ?_⟩
  have up : ∀ {H2 : Hp} {O : Lg}, Tr H [] H2 O → Has H2 c ∧ BR K CB B nk keep cs H2 c ∧ StL K H2 kn (ns.map V.int) := fun t => ⟨(t.has c hc).right, r.mono t.mono, st.tr t⟩
  refine ⟨_, rfl, _, rfl, rfl, B, nk, keep, cs, c, kn, ns, rfl, r, hc, st.sq, h8, kE, fun _ kk => ?_⟩
  have go := go0 kk
  have hlen := kk.len
  refine ⟨_, rfl, _, rfl, rfl, B, nk, keep, cs, c, kn, ns, rfl, r, hc, st, hlen, h8, hkp, fun t p q H1 t1 ht => ?_⟩
  generalize ec : costL keep cs ns = cost at t1 go
  refine ⟨t, _, _, _, rfl, rfl, SqT.of ht, rfl, (by show 0 ≤ sizeLine; decide), fun p0 hp0 => ?_⟩
  have t2 := (t1.sub (C2 := [(q, .lst ((lev cost nk).2.map V.int))]) (List.Sublist.cons_cons _ (List.nil_sublist _))).new (o := .lst []) hp0 nl
  refine rd_bsize (by rfl) (up t2).2.1 (up t2).1 ?_
  obtain ⟨W, hW⟩ : ∃ W : Nat → L2.St → Hp → Prop, ∀ m σ H2, W m σ H2 ↔ ∃ (e : Nat) (fnd : Addr) (xs : List V) (S : List Letter) (v5 : Option V), m = e ∧ e ≤ nk ∧ σ = [some (.ref B.p), some (.ref kn), some (.ref q), some (.ref fnd), some (.int e), v5] ∧
      Tr H [] H2 [(fnd, .lst xs), (q, .lst ((lev cost nk).2.map V.int))] ∧ RpL K H2 (S.map Letter.enc) xs ∧ (∀ ls, Brings keep cs ns e ls → Brings keep cs ns nk (ls ++ S)) ∧ lwt cost e + wtL S = lwt cost nk ∧ S.length + 21 * e ≤ 21 * nk := ⟨_, fun _ _ _ => Iff.rfl⟩
  refine ⟨W, ⟨nk, (hW _ _ _).mpr ⟨nk, p0, [], [], none, rfl, Nat.le_refl _, rfl, t2, .nil, fun ls h => by rw [List.append_nil]; exact h, by show _ + ((0 : Nat) : Int) = _; omega, by show 0 + _ ≤ _; omega⟩⟩, fun m σ H2 hw => ?_⟩
  obtain ⟨e, fnd, xs, S, v5, rfl, he, rfl, t3, rx, hbr, hwt, hsl⟩ := (hW _ _ _).mp hw
  have hxs : xs.length = S.length := by rw [rx.length, List.length_map]
  refine ⟨_, rfl, _, _, rfl, rfl, _, rfl, ite2 (fun h0 => ?_) fun h0 => ?_⟩
  · obtain ⟨k, rfl⟩ : ∃ k, m = k + 1 := ⟨m - 1, by have := of_decide_eq_true h0; omega⟩
    refine ⟨fun σ' H' => ∃ m', m' < k + 1 ∧ W m' σ' H', fun _ _ h => h, ?_⟩
    have hl := lev_len cost nk
    have hg : atI ((lev cost nk).2.map V.int) ((k + 1 : Nat) : Int) = some (V.int (lbg cost (k + 1))) := by
      rw [← (lev_get cost he).2]
      exact getD_at (by omega)
    refine ⟨_, rfl, _, rfl, q, _, _, _, rfl, rfl, SqL.of t3.own.tail.head, hg, ?_⟩
    obtain ⟨hcand, _, _⟩ := lev_ok cost k
    refine ⟨_, rfl, _, _, rfl, rfl, _, rfl, ite2 (fun h1 => ?_) fun h1 => ?_⟩
    · have h1' := of_decide_eq_true h1
      rcases hcand with ⟨n, hn, hq⟩ | ⟨j, hj, hq⟩
      · have hq1 : lwt cost (k + 1) = lwt cost k + n := congrArg Prod.fst hq
        have ez : (((k + 1 : Nat) : Int) - 1) = (k : Int) := by omega
        have hcost : (wantL keep cs (ns.getD k 0) k).map List.length = some n := by
          have : costL keep cs ns k = some n := by rw [ec]; exact hn
          exact this
        refine ⟨_, rfl, _, rfl, _, rfl, _, _, rfl, rfl, rfl, B, nk, keep, cs, c, kn, ns, k, (congrArg (fun z => [V.ref B.p, V.ref kn, V.int z]) ez), (up t3).2.1, (up t3).1, (up t3).2.2, hlen, by omega, hkp, fun hw0 => ?_, fun w hw0 rr ys H4 t4 ry => ?_⟩
        · rw [hw0] at hcost
          cases hcost
        · rw [hw0] at hcost
          have hn' : w.length = n := Option.some.inj hcost
          have hyl : ys.length = w.length := by rw [ry.length, List.length_map]
          have hw20 : w.length ≤ 20 := by
            have h1 := someL_len keep cs (ns.getD k 0) k
            have : w.length ≤ (someL keep cs (ns.getD k 0) k).length := by
              unfold wantL at hw0
              split at hw0
              · cases hw0
                exact Nat.zero_le _
              · exact wantS_len hw0
            omega
          have t5 := t3.trans (by simpa using t4.right (D := [(fnd, HO.lst xs), (q, HO.lst ((lev cost nk).2.map V.int))]))
          refine ⟨_, rfl, rr, fnd, _, _, rfl, rfl, t5.own.head, t5.own.tail.head, Nat.le_trans (show _ ≤ 1000 by omega) (by decide), fun f2 hf2 => ?_⟩
          have t6 := (t5.new (o := .lst (ys ++ xs)) hf2 nl).sub (C2 := [(f2, .lst (ys ++ xs)), (q, .lst ((lev cost nk).2.map V.int))]) (List.Sublist.cons_cons _ (List.Sublist.cons _ (List.Sublist.cons _ (List.Sublist.refl _))))
          refine ⟨_, rfl, _, _, rfl, rfl, k, by omega, (hW _ _ _).mpr ⟨k, f2, ys ++ xs, w ++ S, some (V.int (lbg cost (k + 1))), rfl, by omega, (congrArg (fun z => [some (V.ref B.p), some (V.ref kn), some (V.ref q), some (V.ref f2), some (V.int z), some (V.int (lbg cost (k + 1)))]) ez), t6, ?_, fun ls hls => ?_, ?_, ?_⟩⟩
          · rw [List.map_append]
            exact (ry.append (rx.mono t4.mono)).mono (Mono.new hf2)
          · rw [← List.append_assoc]
            exact hbr _ (.want hls hw0)
          · rw [wtL_app, wantL_wt hw0]
            omega
          · rw [List.length_append]
            omega
      · have : lbg cost (k + 1) = (j : Int) := congrArg Prod.snd hq
        omega
    · have h1' := ndec h1
      rcases hcand with ⟨n, hn, hq⟩ | ⟨j, hj, hq⟩
      · have : lbg cost (k + 1) = (0 : Int) - k - 1 := congrArg Prod.snd hq
        omega
      · have hq1 : lwt cost (k + 1) = lwt cost j + 2 + k + 1 - j := congrArg Prod.fst hq
        have hq2 : lbg cost (k + 1) = (j : Int) := congrArg Prod.snd hq
        rw [hq2]
        refine ⟨_, rfl, B.p, _, _, rfl, (up t3).2.1.at_p (up t3).1, bFno, _, rfl, _, rfl, rfl, B, nk, keep, cs, c, j, k + 1, rfl, (up t3).2.1, (up t3).1, hj, by omega, h8, fun v4 H4 g4 r4 => ⟨(by show 1 ≤ sizeLine; decide), fun l4 hl4 => ?_⟩⟩
        have t5 := (t3.grow g4).new (o := .lst [v4]) hl4 nl
        refine ⟨_, rfl, l4, fnd, _, _, rfl, rfl, t5.own.head, t5.own.tail.head, Nat.le_trans (show 1 + xs.length ≤ 1000 by omega) (by decide), fun f2 hf2 => ?_⟩
        have t6 := (t5.new (o := .lst ([v4] ++ xs)) hf2 nl).sub (C2 := [(f2, .lst ([v4] ++ xs)), (q, .lst ((lev cost nk).2.map V.int))]) (List.Sublist.cons_cons _ (List.Sublist.cons _ (List.Sublist.cons _ (List.Sublist.refl _))))
        refine ⟨_, rfl, j, by omega, (hW _ _ _).mpr ⟨j, f2, [v4] ++ xs, [partL cs cs.length j (k + 1)] ++ S, _, rfl, by omega, rfl, t6, ?_, fun ls hls => ?_, ?_, ?_⟩⟩
        · exact ((RpL.cons r4 (rx.mono g4.mono)).mono (Mono.new hl4)).mono (Mono.new hf2)
        · rw [← List.append_assoc]
          exact hbr _ (.part hls hj)
        · have hp1 : wtL [partL cs cs.length j (k + 1)] = 2 + (k + 1 - j) := by
            show (partL cs cs.length j (k + 1)).wt + 0 = _
            rw [partL_wt]
            rfl
          rw [wtL_app, hp1]
          omega
        · rw [List.length_append]
          show 1 + S.length + _ ≤ _
          omega
  · have h0' := ndec h0
    have : m = 0 := by omega
    subst this
    refine ⟨_, rfl, go fnd xs S H2 (t3.sub (List.Sublist.cons_cons _ (List.nil_sublist _))) rx ?_ ?_ (by omega)⟩
    · have := hbr [] .nil
      rwa [List.nil_append] at this
    · rw [lwt_zero] at hwt
      omega
end
end Cu

namespace Cu
open PySem PySem.Spec PyProof.Rows L2
/-! more known, more kept: less is wanted -/
def mine (cs : List Ch) (k : Nat) : List Letter := (lets cs).filter fun l => decide (l.keyOf = k)
theorem mineP (cs : List Ch) (k : Nat) : (mine cs k).Pairwise fun a b => a.numOf < b.numOf := (letsP cs).filter _
/-- of a rising list what is above a bound is what is left behind some -/
theorem above_drop (p : Letter → Bool) (hp : ∀ a b : Letter, a.numOf < b.numOf → p a = true → p b = true) : ∀ {ls : List Letter}, ls.Pairwise (fun a b => a.numOf < b.numOf) → ∃ j, j ≤ ls.length ∧ ls.filter p = ls.drop j ∧ ∀ (i : Nat) (l : Letter), ls[i]? = some l → (p l = true ↔ j ≤ i)
  | [], _ => ⟨0, Nat.le_refl _, rfl, fun i l e => by simp at e⟩
  | l :: ls, h => by
    obtain ⟨h1, h2⟩ := List.pairwise_cons.mp h
    by_cases q : p l = true
    · refine ⟨0, Nat.zero_le _, ?_, fun i x e => ⟨fun _ => Nat.zero_le _, fun _ => ?_⟩⟩
      · rw [List.drop_zero]
        refine List.filter_eq_self.mpr fun x hx => ?_
        rcases List.mem_cons.mp hx with hx | hx
        · rw [hx]
          exact q
        · exact hp l x (h1 x hx) q
      · rcases List.mem_cons.mp (List.mem_of_getElem? e) with hx | hx
        · rw [hx]
          exact q
        · exact hp l x (h1 x hx) q
    · obtain ⟨j, j1, j2, j3⟩ := above_drop p hp h2
      refine ⟨j + 1, by rw [List.length_cons]; omega, ?_, fun i x e => ?_⟩
      · rw [List.filter_cons_of_neg q, List.drop_succ_cons]
        exact j2
      · cases i with
        | zero =>
          have e : l = x := by simpa using e
          subst e
          exact ⟨fun z => absurd z q, fun z => absurd z (Nat.not_succ_le_zero j)⟩
        | succ i =>
          rw [j3 i x (by simpa using e)]
          omega
theorem lets_num {cs : List Ch} {i : Nat} {l : Letter} (e : (lets cs)[i]? = some l) : l.numOf = i + 1 := by
  have hi := (List.getElem?_eq_some_iff.mp e).1
  rw [lets_length] at hi
  rw [lets_get (List.getElem?_eq_getElem hi)] at e
  cases e
  rfl
theorem tailL_filter (keep : Nat) (cs : List Ch) : tailL keep cs = (lets cs).filter fun l => decide (cs.length - keep < l.numOf) := by
  obtain ⟨j, j1, j2, j3⟩ := above_drop (fun l => decide (cs.length - keep < l.numOf)) (fun a b h q => decide_eq_true (by have := of_decide_eq_true q; omega)) (letsP cs)
  rw [j2]
  unfold tailL
  rw [lets_length] at j1
  by_cases q : j = cs.length - keep
  · rw [q]
  · exfalso
    by_cases hlt : j < cs.length - keep
    · have hjl : j < (lets cs).length := by rw [lets_length]; omega
      have e := List.getElem?_eq_getElem hjl
      have h1 := of_decide_eq_true ((j3 j _ e).mpr (Nat.le_refl j))
      rw [lets_num e] at h1
      omega
    · have hlt : cs.length - keep < (lets cs).length := by rw [lets_length]; omega
      have e := List.getElem?_eq_getElem hlt
      have h1 := (j3 (cs.length - keep) _ e).mp (decide_eq_true (by rw [lets_num e]; omega))
      omega
theorem someL_mine (keep : Nat) (cs : List Ch) (u : Int) (k : Nat) : someL keep cs u k = (mine cs k).filter fun l => decide (cs.length - keep < l.numOf) && decide (u < (l.numOf : Int)) := by
  unfold someL mine
  rw [tailL_filter, List.filter_filter, List.filter_filter]
  refine List.filter_congr fun l _ => ?_
  cases decide (l.keyOf = k) <;> cases decide (cs.length - keep < l.numOf) <;> cases decide (u < (l.numOf : Int)) <;> rfl
theorem someL_drop (keep : Nat) (cs : List Ch) (u : Int) (k : Nat) : ∃ j, j ≤ (mine cs k).length ∧ someL keep cs u k = (mine cs k).drop j ∧ ∀ (i : Nat) (l : Letter), (mine cs k)[i]? = some l → ((cs.length - keep < l.numOf ∧ u < (l.numOf : Int)) ↔ j ≤ i) := by
  obtain ⟨j, j1, j2, j3⟩ := above_drop (fun l => decide (cs.length - keep < l.numOf) && decide (u < (l.numOf : Int))) (fun a b h q => by
    rw [Bool.and_eq_true] at q ⊢
    have q1 := of_decide_eq_true q.1
    have q2 := of_decide_eq_true q.2
    exact ⟨decide_eq_true (by omega), decide_eq_true (by omega)⟩) (mineP cs k)
  refine ⟨j, j1, by rw [someL_mine]; exact j2, fun i l e => ?_⟩
  rw [← j3 i l e, Bool.and_eq_true, decide_eq_true_eq, decide_eq_true_eq]
theorem mine_in {cs : List Ch} {k : Nat} {l : Letter} (h : l ∈ mine cs k) : ∃ m c, cs[m]? = some c ∧ c.key = k ∧ l = .change (m + 1) c (lof (cs.take m) c.key) := by
  obtain ⟨h1, h2⟩ := List.mem_filter.mp h
  obtain ⟨m, c, e, rfl⟩ := lets_mem h1
  exact ⟨m, c, e, of_decide_eq_true h2, rfl⟩
theorem in_mine {cs : List Ch} {k m : Nat} {c : Ch} (e : cs[m]? = some c) (hk : c.key = k) : Letter.change (m + 1) c (lof (cs.take m) c.key) ∈ mine cs k :=
  List.mem_filter.mpr ⟨List.mem_of_getElem? (lets_get e), decide_eq_true hk⟩
/-- ahead of a change of a key is the one before it -/
theorem mine_ahd {cs : List Ch} {k i : Nat} {l l0 : Letter} (e0 : (mine cs k)[i]? = some l0) (e1 : (mine cs k)[i + 1]? = some l) : l.ahd = l0.numOf := by
  obtain ⟨m, c, a1, a2, rfl⟩ := mine_in (List.mem_of_getElem? e1)
  obtain ⟨m0, c0, b1, b2, rfl⟩ := mine_in (List.mem_of_getElem? e0)
  have pw := mineP cs k
  have hi1 := (List.getElem?_eq_some_iff.mp e1).1
  have hi0 := (List.getElem?_eq_some_iff.mp e0).1
  have lt := (List.pairwise_iff_getElem.mp pw) i (i + 1) hi0 hi1 (Nat.lt_succ_self i)
  rw [(List.getElem?_eq_some_iff.mp e0).2, (List.getElem?_eq_some_iff.mp e1).2] at lt
  have lt : m0 + 1 < m + 1 := lt
  show lof (cs.take m) c.key = m0 + 1
  have ge := lof_ge (j := m) b1 b2 (by omega)
  rw [a2]
  rcases lof_is (cs.take m) k with q | ⟨j, d, q1, q2, q3⟩
  · omega
  · obtain ⟨q4, q5⟩ := take_get q1
    obtain ⟨x, hx⟩ := List.getElem?_of_mem (in_mine q4 q2)
    have hxl := (List.getElem?_eq_some_iff.mp hx).1
    have num : ∀ {y : Nat} {z : Letter}, (mine cs k)[y]? = some z → ∀ (h : y < (mine cs k).length), (mine cs k)[y] = z := fun e h => (List.getElem?_eq_some_iff.mp e).2
    have hxi : x = i := by
      by_cases r1 : x < i
      · have := (List.pairwise_iff_getElem.mp pw) x i hxl hi0 r1
        rw [num hx, num e0] at this
        have : j + 1 < m0 + 1 := this
        omega
      · by_cases r2 : i + 1 < x
        · have := (List.pairwise_iff_getElem.mp pw) (i + 1) x hi1 hxl r2
          rw [num hx, num e1] at this
          have : m + 1 < j + 1 := this
          omega
        · by_cases r3 : x = i + 1
          · subst r3
            rw [hx] at e1
            have e1 := Option.some.inj e1
            injection e1 with e1 _ _
            omega
          · omega
    subst hxi
    rw [hx] at e0
    have e0 := Option.some.inj e0
    injection e0 with e0 _ _
    omega
theorem mine_last {cs : List Ch} {k : Nat} {u : Int} (hu : u < (lof cs k : Int)) (h0 : 0 < lof cs k) : ∃ i l, i + 1 = (mine cs k).length ∧ (mine cs k)[i]? = some l ∧ l.numOf = lof cs k := by
  rcases lof_is cs k with q | ⟨j, c, q1, q2, q3⟩
  · omega
  · obtain ⟨x, hx⟩ := List.getElem?_of_mem (in_mine q1 q2)
    have hxl := (List.getElem?_eq_some_iff.mp hx).1
    refine ⟨x, _, ?_, hx, by rw [q3]; rfl⟩
    by_cases r : x + 1 < (mine cs k).length
    · exfalso
      have e2 := List.getElem?_eq_getElem r
      obtain ⟨m, d, a1, a2, a3⟩ := mine_in (List.mem_of_getElem? e2)
      have := (List.pairwise_iff_getElem.mp (mineP cs k)) x (x + 1) hxl r (Nat.lt_succ_self x)
      rw [(List.getElem?_eq_some_iff.mp hx).2, a3] at this
      have : j + 1 < m + 1 := this
      have hm := (List.getElem?_eq_some_iff.mp a1).1
      have := lof_ge (j := cs.length) a1 a2 hm
      rw [List.take_length] at this
      omega
    · omega
/-- the i-th change of the key and those behind it bring it up -/
def Use (T : Nat) (u : Int) (M : List Letter) (i : Nat) : Prop := ∃ l, M[i]? = some l ∧ T < l.numOf ∧ (l.isSet = true ∨ (l.ahd : Int) ≤ u)
theorem setsL_mem {sm : List Letter} {i : Nat} : i ∈ setsL sm ↔ ∃ l, sm[i]? = some l ∧ l.isSet = true := by
  unfold setsL
  rw [List.mem_filter, List.mem_range]
  constructor
  · rintro ⟨h1, h2⟩
    rw [List.getElem?_eq_getElem h1] at h2
    have h2 : (some sm[i].isSet == some true) = true := h2
    exact ⟨sm[i], List.getElem?_eq_getElem h1, by simpa using h2⟩
  · rintro ⟨l, h1, h2⟩
    refine ⟨(List.getElem?_eq_some_iff.mp h1).1, ?_⟩
    rw [h1]
    show (some l.isSet == some true) = true
    rw [h2]
    rfl
theorem setsL_last {sm : List Letter} {ini : List Nat} {i : Nat} (e : setsL sm = ini ++ [i]) : (∃ l, sm[i]? = some l ∧ l.isSet = true) ∧ ∀ j l, sm[j]? = some l → l.isSet = true → j ≤ i := by
  refine ⟨setsL_mem.mp (by rw [e]; simp), fun j l h1 h2 => ?_⟩
  have hj : j ∈ setsL sm := setsL_mem.mpr ⟨l, h1, h2⟩
  have pw : (setsL sm).Pairwise (· < ·) := (List.pairwise_lt_range).filter _
  rw [e] at hj pw
  rcases List.mem_append.mp hj with q | q
  · exact Nat.le_of_lt ((List.pairwise_append.mp pw).2.2 j q i (List.mem_singleton_self i))
  · rw [List.mem_singleton.mp q]
    exact Nat.le_refl _
theorem wantL_use {keep : Nat} {cs : List Ch} {u : Int} {k : Nat} {w : List Letter} (h0 : ¬ (lof cs k : Int) ≤ u) (h : wantL keep cs u k = some w) : ∃ i, Use (cs.length - keep) u (mine cs k) i ∧ w.length = (mine cs k).length - i := by
  unfold wantL at h
  rw [if_neg h0] at h
  obtain ⟨j, j1, j2, j3⟩ := someL_drop keep cs u k
  rw [j2] at h
  rcases List.eq_nil_or_concat (setsL ((mine cs k).drop j)) with es | ⟨ini, i, es⟩
  · rw [wantS_no es] at h
    split at h
    · rename_i hf
      cases h
      cases hsm : (mine cs k).drop j with
      | nil =>
        rw [hsm] at hf
        cases hf
      | cons l ls =>
        rw [hsm] at hf
        have hf : (l.ahd : Int) ≤ u := of_decide_eq_true hf
        have el : (mine cs k)[j]? = some l := by
          have : ((mine cs k).drop j)[0]? = some l := by rw [hsm]; rfl
          rwa [List.getElem?_drop, Nat.add_zero] at this
        exact ⟨j, ⟨l, el, ((j3 j l el).mpr (Nat.le_refl j)).1, .inr hf⟩, by rw [← hsm, List.length_drop]⟩
    · cases h
  · rw [List.concat_eq_append] at es
    rw [wantS_set es] at h
    cases h
    obtain ⟨⟨l, e1, e2⟩, _⟩ := setsL_last es
    rw [List.getElem?_drop] at e1
    refine ⟨j + i, ⟨l, e1, ((j3 _ l e1).mpr (Nat.le_add_right j i)).1, .inl e2⟩, ?_⟩
    rw [List.length_drop, List.length_drop]
    omega
theorem use_want {keep : Nat} {cs : List Ch} {u : Int} {k i : Nat} (h : Use (cs.length - keep) u (mine cs k) i) : ∃ w, wantL keep cs u k = some w ∧ w.length ≤ (mine cs k).length - i := by
  obtain ⟨l, el, hT, hs⟩ := h
  have hil := (List.getElem?_eq_some_iff.mp el).1
  unfold wantL
  by_cases h0 : (lof cs k : Int) ≤ u
  · rw [if_pos h0]
    exact ⟨[], rfl, Nat.zero_le _⟩
  · rw [if_neg h0]
    obtain ⟨j, j1, j2, j3⟩ := someL_drop keep cs u k
    rw [j2]
    have hpos : 0 < lof cs k := by
      obtain ⟨m, c, a1, a2, rfl⟩ := mine_in (List.mem_of_getElem? el)
      have := lof_ge (j := cs.length) a1 a2 (List.getElem?_eq_some_iff.mp a1).1
      rw [List.take_length] at this
      omega
    obtain ⟨x, lx, x1, x2, x3⟩ := mine_last (u := u) (by omega) hpos
    have hjx : j ≤ x := by
      refine (j3 x lx x2).mp ⟨?_, by rw [x3]; omega⟩
      by_cases r : i = x
      · subst r
        rw [x2] at el
        cases el
        exact hT
      · have := (List.pairwise_iff_getElem.mp (mineP cs k)) i x hil (by omega) (by omega)
        rw [(List.getElem?_eq_some_iff.mp el).2, (List.getElem?_eq_some_iff.mp x2).2] at this
        omega
    rcases List.eq_nil_or_concat (setsL ((mine cs k).drop j)) with es | ⟨ini, y, es⟩
    · rw [wantS_no es]
      obtain ⟨l0, e0⟩ : ∃ l0, (mine cs k)[j]? = some l0 := ⟨(mine cs k)[j]'(by omega), List.getElem?_eq_getElem _⟩
      have hij : i ≤ j := by
        by_cases r : i ≤ j
        · exact r
        · exfalso
          rcases hs with hs | hs
          · have : i - j ∈ setsL ((mine cs k).drop j) := setsL_mem.mpr ⟨l, by rw [List.getElem?_drop, show j + (i - j) = i by omega]; exact el, hs⟩
            rw [es] at this
            cases this
          · obtain ⟨lp, ep⟩ : ∃ lp, (mine cs k)[i - 1]? = some lp := ⟨(mine cs k)[i - 1]'(by omega), List.getElem?_eq_getElem _⟩
            have := mine_ahd (i := i - 1) ep (by rw [show i - 1 + 1 = i by omega]; exact el)
            have := ((j3 (i - 1) lp ep).mpr (by omega)).2
            omega
      have hf : (l0.ahd : Int) ≤ u := by
        by_cases r : i = j
        · subst r
          rw [el] at e0
          cases e0
          rcases hs with hs | hs
          · exfalso
            have : 0 ∈ setsL ((mine cs k).drop i) := setsL_mem.mpr ⟨l, by rw [List.getElem?_drop]; exact el, hs⟩
            rw [es] at this
            cases this
          · exact hs
        · obtain ⟨lp, ep⟩ : ∃ lp, (mine cs k)[j - 1]? = some lp := ⟨(mine cs k)[j - 1]'(by omega), List.getElem?_eq_getElem _⟩
          rw [mine_ahd (i := j - 1) ep (by rw [show j - 1 + 1 = j by omega]; exact e0)]
          have hTp : cs.length - keep < lp.numOf := by
            by_cases r2 : i = j - 1
            · subst r2
              rw [el] at ep
              cases ep
              exact hT
            · have := (List.pairwise_iff_getElem.mp (mineP cs k)) i (j - 1) hil (by omega) (by omega)
              rw [(List.getElem?_eq_some_iff.mp el).2, (List.getElem?_eq_some_iff.mp ep).2] at this
              omega
          by_cases r3 : u < (lp.numOf : Int)
          · have := (j3 (j - 1) lp ep).mp ⟨hTp, r3⟩
            omega
          · omega
      have hfo : firstOk ((mine cs k).drop j) u = true := by
        have : (mine cs k).drop j = l0 :: (mine cs k).drop (j + 1) := by
          rw [List.drop_eq_getElem_cons (by omega), (List.getElem?_eq_some_iff.mp e0).2]
        rw [this]
        exact decide_eq_true hf
      rw [if_pos hfo]
      exact ⟨_, rfl, by rw [List.length_drop]; omega⟩
    · rw [List.concat_eq_append] at es
      rw [wantS_set es]
      obtain ⟨⟨ly, e1, e2⟩, hmax⟩ := setsL_last es
      rw [List.getElem?_drop] at e1
      refine ⟨_, rfl, ?_⟩
      rw [List.length_drop, List.length_drop]
      have hiy : i ≤ j + y := by
        by_cases r : i ≤ j + y
        · exact r
        · exfalso
          rcases hs with hs | hs
          · have := hmax (i - j) l (by rw [List.getElem?_drop, show j + (i - j) = i by omega]; exact el) hs
            omega
          · obtain ⟨lp, ep⟩ : ∃ lp, (mine cs k)[i - 1]? = some lp := ⟨(mine cs k)[i - 1]'(by omega), List.getElem?_eq_getElem _⟩
            have := mine_ahd (i := i - 1) ep (by rw [show i - 1 + 1 = i by omega]; exact el)
            have := ((j3 (i - 1) lp ep).mpr (by omega)).2
            omega
      omega
/-- more known, more kept -/
theorem want_mono {keep keep' : Nat} {cs : List Ch} {u u' : Int} {k : Nat} {w : List Letter} (hk : keep ≤ keep') (hu : u ≤ u') (h : wantL keep cs u k = some w) : ∃ w', wantL keep' cs u' k = some w' ∧ w'.length ≤ w.length := by
  by_cases h0 : (lof cs k : Int) ≤ u
  · refine ⟨[], ?_, Nat.zero_le _⟩
    unfold wantL
    rw [if_pos (by omega)]
  · obtain ⟨i, ⟨l, e, hT, hs⟩, hw⟩ := wantL_use h0 h
    obtain ⟨w', h1, h2⟩ := use_want (keep := keep') (cs := cs) (u := u') (k := k) (i := i) ⟨l, e, by omega, hs.imp id fun q => by omega⟩
    exact ⟨w', h1, by omega⟩
theorem want_nil {keep : Nat} {cs : List Ch} {u : Int} {k : Nat} (h : wantL keep cs u k = some []) : (lof cs k : Int) ≤ u := by
  by_cases h0 : (lof cs k : Int) ≤ u
  · exact h0
  · exfalso
    obtain ⟨i, ⟨l, e, _⟩, hw⟩ := wantL_use h0 h
    have := (List.getElem?_eq_some_iff.mp e).1
    have : (0 : Nat) = (mine cs k).length - i := hw
    omega
/-! the least weights -/
theorem lwt_le {cost cost' : Nat → Option Nat} {n : Nat} (h : ∀ k, k < n → ∀ c, cost k = some c → ∃ c', cost' k = some c' ∧ c' ≤ c) : ∀ e, e ≤ n → lwt cost' e ≤ lwt cost e := fun e => by
  have ind : ∀ m e, e ≤ m → e ≤ n → lwt cost' e ≤ lwt cost e := fun m => by
    induction m with
    | zero =>
      intro e he _
      have : e = 0 := by omega
      subst this
      exact Int.le_refl _
    | succ m ih =>
      intro e he hn
      cases e with
      | zero => exact Int.le_refl _
      | succ k =>
        have q := lev_ok cost' k
        rcases (lev_ok cost k).1 with ⟨c, hc, h1⟩ | ⟨j, hj, h1⟩
        · have h1 : lwt cost (k + 1) = lwt cost k + c := congrArg Prod.fst h1
          obtain ⟨c', hc', hle⟩ := h k (by omega) c hc
          have := q.2.1 c' hc'
          have := ih k (by omega) (by omega)
          omega
        · have h1 : lwt cost (k + 1) = lwt cost j + 2 + k + 1 - j := congrArg Prod.fst h1
          have := q.2.2 j (by omega)
          have := ih j (by omega) (by omega)
          omega
  exact ind e e (Nat.le_refl _)
theorem lwt_same {cost cost' : Nat → Option Nat} {n : Nat} (h : ∀ k, k < n → cost k = cost' k) : lwt cost n = lwt cost' n := by
  refine Int.le_antisymm (lwt_le (fun k hk c hc => ⟨c, by rw [h k hk]; exact hc, Nat.le_refl _⟩) n (Nat.le_refl n)) (lwt_le (fun k hk c hc => ⟨c, by rw [← h k hk]; exact hc, Nat.le_refl _⟩) n (Nat.le_refl n))
theorem lwt_step (cost : Nat → Option Nat) (k : Nat) : lwt cost k ≤ lwt cost (k + 1) := by
  rcases (lev_ok cost k).1 with ⟨c, hc, h1⟩ | ⟨j, hj, h1⟩
  · have h1 : lwt cost (k + 1) = lwt cost k + c := congrArg Prod.fst h1
    omega
  · have h1 : lwt cost (k + 1) = lwt cost j + 2 + k + 1 - j := congrArg Prod.fst h1
    by_cases q : j = k
    · subst q
      omega
    · obtain ⟨k', rfl⟩ : ∃ k', k = k' + 1 := ⟨k - 1, by omega⟩
      have := (lev_ok cost k').2.2 j (by omega)
      omega
theorem lwt_most (cost : Nat → Option Nat) {n : Nat} (h : 0 < n) : lwt cost n ≤ 2 + n := by
  obtain ⟨k, rfl⟩ : ∃ k, n = k + 1 := ⟨n - 1, by omega⟩
  have := (lev_ok cost k).2.2 0 (Nat.zero_le k)
  rw [lwt_zero] at this
  omega
theorem lwt_all_zero {cost : Nat → Option Nat} : ∀ {n : Nat}, lwt cost n = 0 → ∀ k, k < n → cost k = some 0
  | 0, _, k, hk => absurd hk (Nat.not_lt_zero k)
  | n + 1, h, k, hk => by
    have hn := lwt_nonneg cost n
    have hs := lwt_step cost n
    rcases (lev_ok cost n).1 with ⟨c, hc, h1⟩ | ⟨j, hj, h1⟩
    · have h1 : lwt cost (n + 1) = lwt cost n + c := congrArg Prod.fst h1
      by_cases q : k = n
      · subst q
        have : c = 0 := by omega
        rw [hc, this]
      · exact lwt_all_zero (n := n) (by omega) k (by omega)
    · have h1 : lwt cost (n + 1) = lwt cost j + 2 + n + 1 - j := congrArg Prod.fst h1
      have := lwt_nonneg cost j
      omega
def pricesM (cost : Nat → Option Nat) (n : Nat) : List Int := (List.range n).map fun k => lwt cost (k + 1) - lwt cost k
theorem prices_sum (cost : Nat → Option Nat) : ∀ n, (pricesM cost n).sum = lwt cost n
  | 0 => rfl
  | n + 1 => by
    have ih := prices_sum cost n
    unfold pricesM at ih ⊢
    rw [List.range_succ, List.map_append, List.sum_append, ih]
    show lwt cost n + (lwt cost (n + 1) - lwt cost n + 0) = _
    omega
end Cu

namespace Cu
open PySem PySem.Spec PyProof.Rows L2
abbrev s_prices : Stmt := (top 21)
theorem sc_prices : FnScope ["board", "known", "found", "key"] ["board", "known"] (defScope s_prices) := ⟨rfl, rfl, rfl, by decide +kernel, rfl, by decide +kernel, by decide +kernel⟩

def spPricesX (K : PySem.W.Frag) (CB CK : Addr) : Sp := fun vs H Q E => vs.length = 2 ∧ ∃ (B : BA) (nk keep : Nat) (cs : List Ch) (c : Lg) (kn : Addr) (ns : List Int), vs = [.ref B.p, .ref kn] ∧ BR K CB B nk keep cs H c ∧ Has H c ∧ StL K H kn (ns.map V.int) ∧ nk ≤ 8 ∧ keep ≤ 20 ∧
  (∀ k, badN nk cs.length ns = some k → ∀ d H', Grow H H' → H' d = some (xdK k) → E (.ref CK) (some d) H') ∧ (Kn nk cs ns → ∀ (r : Addr) (H' : Hp), Tr H [] H' [(r, .lst ((pricesM (costL keep cs ns) nk).map V.int))] → Q (.ref r) H')
section
variable {P : Program} {w : World} {K : PySem.W.Frag} {mg : Str → Option Value} {base : Heap} {CB CK : Addr}
theorem ok_pricesX (F : Fd K mg "prices" s_prices) (Bm : Blt mg) (CBoard : CBo K CB) (g_need_known : Gx P w K mg base 3 "need_known" ["board", "known"] (spNeedX K CB CK)) (g_levels : Gf P w K mg base 3 "levels" ["board", "known"] (spLevels K CB)) (m_Board_size : Mf P w K mg base 1 CB "size" ["self"] (spBsize K CB)) :
    Gx P w K mg base 4 "prices" ["board", "known"] (spPricesX K CB CK) := by
  refine F.okX sc_prices (fun _ _ _ _ _ _ us hl => match us, hl with | [_, _], _ => rfl) len_of fun qual f cdv A0 outer s H vs Q E hr h => ?_
  obtain ⟨_, B, nk, keep, cs, c, kn, ns, rfl, r, hc, st, h8, hkp, kE, go0⟩ := h
  refine ⟨_, (pss_cons (ps_expr (pcy (takes_of rfl rfl rfl rfl) g_need_known hr (pa_cons (pv 0) (pa_cons (pv 1) pa_nil))))
      (pss_cons (ps_set (i := 2) sc_prices.nd rfl (Or.inr rfl) (pe_ix ix_tup (pc g_levels hr (pa_cons (pv 0) (pa_cons (pv 1) pa_nil))) pe_int (fun _ _ => rfl)))
      (pss_one (ps_ret (pe_lc (own := [("key", 3)]) (g := (gName 3)) (tt := tYes) rfl sc_prices.nd (pi_range1 rfl Bm.range (pa_cons (pm0 (pv 0) CBoard.cl m_Board_size hr) pa_nil)) (blkOk_by (N := ["board", "known", "found", "key"]) (sc := defScope s_prices) (by decide +kernel)) (fun _ _ _ _ _ => (pg_name (i := 3) sc_prices.nd rfl (Or.inl rfl))) (fun _ _ _ _ _ => pts_nil) (fun _ _ _ _ _ => (pe_op op_sub (pe_ix (ix_listK K rfl) (pv 2) (pe_op op_add (pv 3) pe_int) (fun _ _ => rfl)) (pe_ix (ix_listK K rfl) (pv 2) (pv 3) (fun _ _ => rfl))))))))), ?_⟩
  have up : ∀ {H2 : Hp} {O : Lg}, Tr H [] H2 O → Has H2 c ∧ BR K CB B nk keep cs H2 c := fun t => ⟨(t.has c hc).right, r.mono t.mono⟩
  refine ⟨_, rfl, _, rfl, rfl, B, nk, keep, cs, c, kn, ns, rfl, r, hc, st.sq, h8, kE, fun _ kk => ?_⟩
  have go := go0 kk
  have hlen := kk.len
  refine ⟨_, rfl, _, rfl, rfl, B, nk, keep, cs, c, kn, ns, rfl, r, hc, st, kk.len, h8, hkp, fun t p q H1 t1 ht => ?_⟩
  generalize costL keep cs ns = cost at t1 go
  refine ⟨t, _, _, _, rfl, rfl, SqT.of ht, rfl, ?_⟩
  have t2 := t1.tail
  refine rd_bsize (by rfl) (up t2).2 (up t2).1 ⟨_, rfl, by omega, by omega, fun D hD => ?_⟩
  refine lc_range (lo := 0) (n := (nk : Int).toNat) (fun i H2 => Tr H [] H2 [(D, .lst ((pricesM cost i).map V.int)), (p, .lst ((lev cost nk).1.map V.int))]) (t2.new hD nl) ?_ ?_
  · rintro i H2 hi t3
    have hl := (lev_len cost nk).1
    have ez : ((0 : Int) + i) = (i : Int) := by omega
    have ez1 : ((0 : Int) + i + 1) = ((i + 1 : Nat) : Int) := by omega
    have at_ : ∀ {e : Nat} {z : Int}, e ≤ nk → z = e → atI ((lev cost nk).1.map V.int) z = some (V.int (lwt cost e)) := fun {e z} he hz => by
      rw [← (lev_get cost he).1]
      subst hz
      exact getD_at (by omega)
    refine ⟨rfl, _, rfl, _, rfl, _, _, rfl, rfl, p, _, _, _, rfl, rfl, SqL.of t3.own.tail.head, at_ (e := i + 1) (by omega) ez1, _, rfl, _, rfl, p, _, _, _, rfl, rfl, SqL.of t3.own.tail.head, at_ (e := i) (by omega) ez, _, _, rfl, rfl, _, t3.own.head, ?_, ?_⟩
    · rw [List.length_map, pricesM, List.length_map, List.length_range]
      exact small1000 (by omega)
    · have e : pricesM cost (i + 1) = pricesM cost i ++ [lwt cost (i + 1) - lwt cost i] := by
        unfold pricesM
        rw [List.range_succ, List.map_append]
        rfl
      rw [e, List.map_append]
      exact t3.put .nil nl
  · rintro H2 t3
    rw [Int.toNat_natCast] at t3
    exact go D H2 (t3.sub (List.Sublist.cons_cons _ (List.nil_sublist _)))
end
end Cu

namespace Cu
open PySem PySem.Spec PyProof.Rows L2
/-! prices that show -/
def Shows (cost : Nat → Option Nat) (ps : List Int) (nk : Nat) : Prop := ∀ k, k < nk → 0 ≤ ps.getD k 0 ∧ (∀ n, cost k = some n → ps.getD k 0 ≤ (n : Int)) ∧ ∀ e, k < e → e ≤ nk → ((ps.drop k).take (e - k)).sum ≤ 2 + (e : Int) - k
theorem cutV_mid {xs : List V} {k e : Nat} (h : k ≤ e) (h2 : e ≤ xs.length) : cutV xs (some (k : Int)) (some (e : Int)) = (xs.drop k).take (e - k) := by
  unfold cutV
  rw [HT.sIx_nat, HT.sIx_nat, Nat.min_eq_left h2, Nat.min_eq_left (Nat.le_trans h h2)]
theorem sum_split {ps : List Int} {j n : Nat} (h : j ≤ n) : (ps.take n).sum = (ps.take j).sum + ((ps.drop j).take (n - j)).sum := by
  have : ps.take n = ps.take j ++ (ps.drop j).take (n - j) := by
    rw [← List.take_add, show j + (n - j) = n by omega]
  rw [this, List.sum_append]
theorem sum_one {ps : List Int} {k : Nat} (h : k < ps.length) : ((ps.drop k).take 1).sum = ps.getD k 0 := by
  rw [List.drop_eq_getElem_cons h, List.take_succ_cons, List.take_zero, List.getD_eq_getElem?_getD, List.getElem?_eq_getElem h]
  simp
/-- no prices that show are more than the least weight -/
theorem shows_least {cost : Nat → Option Nat} {ps : List Int} {nk : Nat} (h : Shows cost ps nk) (hl : ps.length = nk) : ∀ e, e ≤ nk → (ps.take e).sum ≤ lwt cost e := fun e => by
  have ind : ∀ m e, e ≤ m → e ≤ nk → (ps.take e).sum ≤ lwt cost e := fun m => by
    induction m with
    | zero =>
      intro e he _
      have : e = 0 := by omega
      subst this
      exact Int.le_refl _
    | succ m ih =>
      intro e he hn
      cases e with
      | zero => exact Int.le_refl _
      | succ k =>
        rcases (lev_ok cost k).1 with ⟨c, hc, h1⟩ | ⟨j, hj, h1⟩
        · have h1 : lwt cost (k + 1) = lwt cost k + c := congrArg Prod.fst h1
          have i1 := ih k (by omega) (by omega)
          have i2 := (h k (by omega)).2.1 c hc
          rw [sum_split (show k ≤ k + 1 by omega), show k + 1 - k = 1 by omega, sum_one (by omega)]
          omega
        · have h1 : lwt cost (k + 1) = lwt cost j + 2 + k + 1 - j := congrArg Prod.fst h1
          have i1 := ih j (by omega) (by omega)
          have i2 := (h j (by omega)).2.2 (k + 1) (by omega) (by omega)
          rw [sum_split (show j ≤ k + 1 by omega)]
          omega
  exact ind e e (Nat.le_refl _)
theorem prices_get {cost : Nat → Option Nat} {n k : Nat} (h : k < n) : (pricesM cost n).getD k 0 = lwt cost (k + 1) - lwt cost k := by
  unfold pricesM
  rw [List.getD_eq_getElem?_getD, List.getElem?_map, List.getElem?_range h]
  rfl
theorem prices_take {cost : Nat → Option Nat} {n e : Nat} (h : e ≤ n) : ((pricesM cost n).take e).sum = lwt cost e := by
  have : (pricesM cost n).take e = pricesM cost e := by
    unfold pricesM
    rw [← List.map_take, List.take_range, Nat.min_eq_left h]
  rw [this, prices_sum]
theorem prices_show (cost : Nat → Option Nat) (nk : Nat) : Shows cost (pricesM cost nk) nk := fun k hk => by
  rw [prices_get hk]
  have hs := lwt_step cost k
  refine ⟨by omega, fun n hn => ?_, fun e h1 h2 => ?_⟩
  · have := (lev_ok cost k).2.1 n hn
    omega
  · have e1 := prices_take (cost := cost) (n := nk) (e := k) (by omega)
    have e2 := prices_take (cost := cost) (n := nk) (e := e) h2
    rw [sum_split (show k ≤ e by omega)] at e2
    obtain ⟨e', rfl⟩ : ∃ e', e = e' + 1 := ⟨e - 1, by omega⟩
    have := (lev_ok cost e').2.2 k (by omega)
    omega
theorem wantS_last {sm : List Letter} {u : Int} {i : Nat} {l : Letter} (e : sm[i]? = some l) (hs : l.isSet = true) (h : ∀ (j : Nat) (x : Letter), i < j → sm[j]? = some x → x.isSet = false) : wantS sm u = some (sm.drop i) := by
  have hi : i ∈ setsL sm := setsL_mem.mpr ⟨l, e, hs⟩
  rcases List.eq_nil_or_concat (setsL sm) with es | ⟨ini, y, es⟩
  · rw [es] at hi
    cases hi
  · rw [List.concat_eq_append] at es
    rw [wantS_set es]
    obtain ⟨⟨ly, e1, e2⟩, hm⟩ := setsL_last es
    have := hm i l e hs
    by_cases q : i < y
    · have := h y ly q e1
      rw [this] at e2
      cases e2
    · rw [show y = i by omega]
theorem wantS_none {sm : List Letter} {u : Int} (h : ∀ (j : Nat) (x : Letter), sm[j]? = some x → x.isSet = false) : wantS sm u = if firstOk sm u = true then some sm else none := by
  refine wantS_no (List.eq_nil_iff_forall_not_mem.mpr fun i hi => ?_)
  obtain ⟨l, e1, e2⟩ := setsL_mem.mp hi
  rw [h i l e1] at e2
  cases e2
theorem cost_mine {keep : Nat} {cs : List Ch} {ns : List Int} {k n : Nat} (h : costL keep cs ns k = some n) : n ≤ (mine cs k).length := by
  unfold costL at h
  cases hw : wantL keep cs (ns.getD k 0) k with
  | none =>
    rw [hw] at h
    cases h
  | some w =>
    rw [hw] at h
    have h : w.length = n := Option.some.inj h
    by_cases h0 : (lof cs k : Int) ≤ ns.getD k 0
    · unfold wantL at hw
      rw [if_pos h0] at hw
      cases hw
      have h : 0 = n := h
      omega
    · obtain ⟨i, _, hi⟩ := wantL_use h0 hw
      omega
end Cu

namespace Cu
open PySem PySem.Spec PyProof.Rows L2
/-- an own class over CatchError without an own __init__ -/
structure Xo (K : PySem.W.Frag) (mg : Str → Option Value) (x : Str) (C : Addr) : Prop where
  gC : mg x = some (.ref C)
  ex : PySem.W.excIn K C [.type "ValueError", .type "Exception", .type "BaseException", .type "object"] "ValueError.__new__" = true
  kC : PySem.W.keepIn K (.ref C) = true
  su : PySem.W.subIn K (.ref C) (.type "BaseException") = some true
  ty : PySem.W.typeIn K (.ref C) = some (.type "type")
theorem pxo {X : Cx} {x m : Str} {C : Addr} {j : Nat} {p p2 pos : Pos} (T : Xo X.K X.mg x C) (hg : Gl X x := by rfl) (hdb : (x == ("__debug__" : Str)) = false := by decide) : PMk X (.Call (.Name x p) [.Constant (.str m) j p2] [] pos) (fun _ H Q => Q (.ref C) none H) :=
  pmk_own PySem.F.excBase_ValueError T.ex T.gC T.kC (raises_own T.su T.ty) hg hdb
end Cu

namespace Cu
open PySem PySem.Spec PyProof.Rows L2
abbrev s_shows : Stmt := (top 22)
theorem sc_shows : FnScope ["board", "known", "told", "key", "some", "end"] ["board", "known", "told"] (defScope s_shows) := ⟨rfl, rfl, rfl, by decide +kernel, rfl, by decide +kernel, by decide +kernel⟩

/-- shows, where it refuses -/
def spShowsX (K : PySem.W.Frag) (CB CK CP : Addr) : Sp := fun vs H Q E => vs.length = 3 ∧ ∃ (B : BA) (nk keep : Nat) (cs : List Ch) (c : Lg) (kn pt : Addr) (ns ps : List Int), vs = [.ref B.p, .ref kn, .ref pt] ∧ BR K CB B nk keep cs H c ∧ Has H c ∧ SqL K H kn (ns.map V.int) ∧ SqL K H pt (ps.map V.int) ∧ nk ≤ 8 ∧ ps.length ≠ nk ∧
  (∀ k, badN nk cs.length ns = some k → ∀ d H', Grow H H' → H' d = some (xdK k) → E (.ref CK) (some d) H') ∧ (badN nk cs.length ns = none → E (.ref CP) none H)
section
variable {P : Program} {w : World} {K : PySem.W.Frag} {mg : Str → Option Value} {base : Heap} {CB CK CP : Addr}
theorem ok_showsX {tk : Tok} (F : Fd K mg "shows" s_shows) (Bm : Blt mg) (CBoard : CBo K CB) (km_PART : mg "PART" = some (.int 2 tk)) (g_need_known : Gx P w K mg base 3 "need_known" ["board", "known"] (spNeedX K CB CK)) (g_wanted : Gf P w K mg base 2 "wanted" ["board", "known", "key"] (spWanted K CB))
    (m_Board_size : Mf P w K mg base 1 CB "size" ["self"] (spBsize K CB)) (XBadPrices : Xo K mg "BadPrices" CP) : Gx P w K mg base 4 "shows" ["board", "known", "told"] (spShowsX K CB CK CP) := by
  refine F.okX sc_shows (fun _ _ _ _ _ _ us hl => match us, hl with | [_, _, _], _ => rfl) len_of fun qual f cdv A0 outer s H vs Q E hr h => ?_
  obtain ⟨_, B, nk, keep, cs, c, kn, pt, ns, ps, rfl, r, hc, st, sp, h8, hps, kE, go⟩ := h
  refine ⟨_, (pss_cons (ps_expr (pcy (takes_of rfl rfl rfl rfl) g_need_known hr (pa_cons (pv 0) (pa_cons (pv 1) pa_nil))))
      (pss_cons (ps_if (pt_cmpR op_ne (pe_callB call_len_seq rfl Bm.len (by decide +kernel) (pa_cons (pv 2) pa_nil)) (pm0 (pv 0) CBoard.cl m_Board_size hr) (nomark _))
        (pss_one (ps_raise rfl (takes_of rfl rfl rfl rfl) (pxo XBadPrices)))
        pss_nil)
      (pss_cons (ps_for (passes_of rfl) rfl (pi_range1 rfl Bm.range (pa_cons (pe_callB call_len_seq rfl Bm.len (by decide +kernel) (pa_cons (pv 2) pa_nil)) pa_nil)) (pg_name (i := 3) sc_shows.nd rfl (Or.inl rfl))
        (pss_cons (ps_mid (ps_set (i := 4) sc_shows.nd rfl (Or.inl rfl) (pc g_wanted hr (pa_cons (pv 0) (pa_cons (pv 1) (pa_cons (pv 3) pa_nil))))))
        (pss_cons (ps_mid (ps_if (PW.pt (pw_or (pt_cmpR op_lt (pe_ix ix_list (pv 2) (pv 3) (fun _ _ => rfl)) pe_int (nomark _)) (pw_or1 (PW.pt (pw_and (pt_cmpR op_notN (pv 4) pe_non (nomark _)) (pw_and1 (pt_cmpR op_gt (pe_ix ix_list (pv 2) (pv 3) (fun _ _ => rfl)) (pe_callB call_len_seq rfl Bm.len (by decide +kernel) (pa_cons (pv 4) pa_nil)) (nomark _))))))))
          (pss_one (ps_ret pe_bl))
          pss_nil))
        (pss_one (ps_for (passes_of rfl) rfl (pi_range2 rfl Bm.range (pa_cons (pe_op op_add (pv 3) pe_int) (pa_cons (pe_op op_add (pe_callB call_len_seq rfl Bm.len (by decide +kernel) (pa_cons (pv 2) pa_nil)) pe_int) pa_nil))) (pg_name (i := 5) sc_shows.nd rfl (Or.inl rfl))
          (pss_one (ps_if (pt_cmpR op_gt (pe_callB (cr_sum rfl) rfl Bm.sum (by decide +kernel) (pa_cons (pe_slice sl_list (pv 2) (po_some (pv 3)) (po_some (pv 5))) pa_nil)) (pe_op op_sub (pe_op op_add (pe_glob (v := .int 2) rfl km_PART ⟨_, rfl⟩) (pv 5)) (pv 3)) (nomark _))
            (pss_one (ps_ret pe_bl))
            pss_nil)))))))
      (pss_one (ps_ret pe_bl))))), ?_⟩
  refine ⟨_, rfl, _, rfl, rfl, B, nk, keep, cs, c, kn, ns, rfl, r, hc, st, h8, kE, fun hn _ => ?_⟩
  refine ⟨_, rfl, pt, _, rfl, .inl sp, ?_⟩
  refine rd_bsize (by rfl) r hc ⟨rfl, _, rfl, iteP ?_ (go hn)⟩
  have : ¬ (((ps.map V.int).length : Nat) : Int) = (nk : Int) := by rw [List.length_map]; omega
  simpa using this
end
end Cu

namespace Cu
open PySem PySem.Spec PyProof.Rows L2
open PySem.W (findIn subIn hasDictIn specialIn takesIn mroIn InstAt looks_findIn looks_find looks_subIn any_some clsIn check_slot class_get KitX findObj)
section
variable {prog : Program} {w : World} {A : Around} {E : Value → Shared → Prop} {s : Shared} {K : PySem.W.Frag} {x D : Addr} {ox : Obj} {od : Option Obj}
/-- a data attribute of the class is found whatever the dict holds -/
theorem find_data {C : Addr} {name : Str} {a g : Value} (hc : (clsIn K C).isSome = true) (ha : findIn K (.ref C) name = some (some a)) (hg : specialIn K a "__get__" = some (some g)) (ht : takesIn K a = some true) : findObj K C od name = some (.bind g a) := by
  obtain ⟨cd, hc⟩ := Option.isSome_iff_exists.mp hc
  unfold findObj
  rw [hc, Option.bind_some, ha, Option.bind_some]
  simp [hg, ht]
/-- e.__class__, e an exception of an own class, with or without a dict -/
theorem exc_class (T : ExcC K D) {Q : Option Value → Shared → Prop} (X : K.In s.heap) (I : InstAt s.heap x ox D od) (h : Q (some (.ref D)) { s with toks := s.toks + 1 }) : wpAny (model prog w) A (getAttr? (.ref x) "__class__") Q E s := by
  have hf : findObj K D od "__class__" = some (.bind (.builtin "getset_descriptor.__get__") (.builtin "object.__class__")) := find_data (by obtain ⟨cd, hc, _⟩ := any_some T.hd; rw [hc]; rfl) T.ha T.hn T.ht
  obtain ⟨hp, g, d, t, os⟩ := s
  have L0 := I.type (M := model prog w)
  have L1 := looks_findIn (M := model prog w) X T.hg
  have L2 := looks_findIn (M := model prog w) X T.hk
  have L3 := looks_find (M := model prog w) X I hf
  have sub : PySem.W.Looks (model prog w) hp (isInstance (.ref x) (.type "BaseException")) true := L0.andThen (looks_subIn X T.hs)
  have n1 : (false && onTheHeap (Value.builtin "BaseException.__getattribute__")) = false := rfl
  have n2 : (Value.builtin "BaseException.__getattribute__" == Value.builtin "object.__getattribute__") = false := by decide +kernel
  have n3 : (onTheHeap (Value.ref D) && Value.builtin "BaseException.__getattribute__" == Value.builtin "object.__getattribute__") = false := by rw [n2]; rfl
  unfold getAttr? getAttrBy? getAttrBy
  refine wpAny_bind (wpAny_mkText (wpAny_bind (wpAny_attempt (wpAny_holding (wpAny_bind (L0.at (wpAny_bind (L1.at ?_))))))))
  show wpAny _ _ (if (onTheHeap (Value.ref D) && Value.builtin "BaseException.__getattribute__" == Value.builtin "object.__getattribute__") = true then _ else _) _ _ _
  rw [n3, if_neg Bool.false_ne_true]
  unfold getAttrByItsOwn hookBefore
  refine wpAny_bind ?_
  rw [if_pos (show onTheHeap (Value.ref D) = true from rfl)]
  refine L2.at ?_
  refine wpAny_bind (wpAny_attempt (wpAny_holding ?_))
  unfold callGetattribute
  rw [n1, if_neg Bool.false_ne_true]
  unfold boundAndCalled
  rw [PySem.F.excAttr_ValueError.ga.bind (.ref x)]
  refine wpAny_bind (wpAny_pure ?_)
  show wpAny _ _ (call (.builtin "BaseException.__getattribute__") [.ref x, .str "__class__" t]) _ _ _
  refine wpAny_call (codeAny_call_builtin PySem.F.excAttr_ValueError.ga.plain PySem.F.entry_bexc_ga ?_)
  refine @check_slot (model prog w) _ _ ⟨hp, g, d, t + 1, os⟩ "BaseException.__getattribute__" "BaseException" "__getattribute__" (.ref x) [.str "__class__" t] [] _ (by decide +kernel) (by decide +kernel) sub (PySem.F.args_bexc_ga (.ref x) (.str "__class__" t)) ?_
  unfold Builtin.«object.__getattribute__»
  refine wpAny_bind (wpAny_of_eq (a := ((Value.ref x : Value), [Value.str "__class__" t])) (by first | rfl | (simp only [slotArgs]; rfl)) ?_)
  refine wpAny_bind (wpAny_pure (wpAny_bind (L0.at (wpAny_bind (L3.at ?_)))))
  show wpAny _ _ (holding [Value.builtin "object.__class__"] (call (.builtin "getset_descriptor.__get__") [.builtin "object.__class__", .ref x, .ref D]) >>= ret) _ _ _
  refine wpAny_bind (wpAny_holding (wpAny_call (class_get (s := ⟨hp, g, d, t + 1, os⟩) X I T.hm ?_)))
  refine wpAny_pure ?_
  show wpAny _ _ (handedOut (.ref D)) _ _ _
  rw [PySem.W.handedOut_of (v := .ref D) rfl]
  first
    | exact wpAny_pure (wpAny_pure h)
    | exact wpAny_pure h
    | exact wpAny_pure (wpAny_bind (wpAny_pure (wpAny_pure h)))
theorem kitx_exc (T : ExcC K D) : KitX K (.ref x) (.ref D) (fun h => ∃ od, InstAt h x ox D od) where
  ty := fun _ _ _ ⟨_, I⟩ => I.type
  it := fun _ _ X _ => by
    obtain ⟨cdD, hcD, _⟩ := any_some T.hd
    unfold PySem.W.clsIn at hcD
    split at hcD
    · rename_i c' d' cd' sl' ho
      intro A' Q' E' s' k q
      unfold isType loadHead
      exact wpAny_bind (wpAny_loadPart (k _ _ (X _ _ ho)) (wpAny_pure q))
    · cases hcD
  ne := fun h tp dd its n sl X htp => by
    obtain ⟨cdD, hcD, _⟩ := any_some T.hd
    refine Bool.eq_false_iff.mpr fun q => ?_
    have e : D = tp := Value.ref.inj (beq_iff_eq.mp q)
    subst e
    unfold PySem.W.clsIn at hcD
    split at hcD
    · rename_i c' d' cd' sl' ho
      have z := (X _ _ ho).symm.trans htp
      cases z
    · cases hcD
  ca := fun X ⟨_, I⟩ k => exc_class T X I k
end
/-- isinstance(e, c), e the exception that the suite holds (its class D, its dict d) -/
def rIsX (K : PySem.W.Frag) (D a : Addr) (d : Option Addr) : List V → Hp → VK → Prop := fun xs H Q => ∃ (c : V) (cv : Value) (b : Bool), xs = [.ref a, c] ∧ (∀ u, RelV c u → u = cv) ∧ PySem.W.kitOne K (.ref D) cv = some b ∧ (∀ dd, d = some dd → ∃ fs, H dd = some (.xd fs)) ∧ Q (.bl b) H
theorem call_isX {X : Cx} {a : Addr} {oe : Obj} {cls : Value} {d : Option Addr} {pn : List (Addr × Obj)} (hz : Zc cls d oe) (hf : ∃ vs, oe.data = .fields vs) :
    CallR (X.suite a ((a, oe) :: pn)) (.builtin "isinstance") (fun xs H Q => ∃ D, cls = .ref D ∧ ExcC X.K D ∧ rIsX X.K D a d xs H Q) := by
  intro pins s σ H xs us Q I r h
  obtain ⟨D, ec, C, c, cv, b, rfl, hcv, e, hd, q⟩ := h
  subst ec
  cases r with
  | cons rx rr =>
    cases rr with
    | cons rt rr =>
      cases rr
      cases rx
      have ec := hcv _ rt
      subst ec
      obtain ⟨hget, _⟩ := I.pin (a, oe) (List.mem_append.mpr (.inl List.mem_cons_self))
      obtain ⟨vs, hv⟩ := hf
      have J : ∃ od, InstAt s.heap a oe D od := by
        obtain ⟨oc, od, oda, osl⟩ := oe
        obtain ⟨h1, h2⟩ := hz
        dsimp only at h1 h2 hv
        subst h1 h2 hv
        cases od with
        | none => exact ⟨none, hget, rfl, rfl, trivial⟩
        | some dd =>
          obtain ⟨fs, hfs⟩ := hd dd rfl
          have hx : ObjOk X.prog X.w H s.heap dd (.xd fs) := I.hok dd _ hfs
          obtain ⟨mA, hns, _⟩ := hx
          obtain ⟨o, ho, _⟩ := lookIn_ns hns
          exact ⟨some o, hget, rfl, rfl, ho⟩
      exact PySem.W.kia_one (kitx_exc (ox := oe) C) I.kIn J e (fun z => nomatch z) fun tk => ⟨.bl b, H, I.kept (t' := tk) fun _ _ z => z, rfl, q⟩
end Cu

namespace Cu
open PySem PySem.Spec PyProof.Rows L2
open LamX (TabS Tabs ExtN CodeO TabB)
/-! a lambda's code table, owned -/
/-- what is known of the table's entries -/
def TabI (H : Hp) (q : Str) (ps : Array Value) : Prop := PySem.TriplesOk ps.toList ∧ ∀ (pos : Pos) (cv : Value), codeAmong pos ps.toList = some cv → ∃ c, cv = .ref c ∧ H c = some (CodeO c q)
theorem codeO_imm (c : Addr) (q : Str) : Imm (CodeO c q) := by
  unfold CodeO
  exact trivial
theorem TabI.mono {H H' : Hp} {q : Str} {ps : Array Value} (t : TabI H q ps) (m : Mono H H') : TabI H' q ps :=
  ⟨t.1, fun pos cv h => let ⟨c, e1, e2⟩ := t.2 pos cv h; ⟨c, e1, m _ _ e2 (codeO_imm c q)⟩⟩
theorem TabI.nil (H : Hp) (q : Str) : TabI H q #[] := ⟨trivial, fun pos cv h => by simp [codeAmong] at h⟩
theorem ntbl {ps : Array Value} : ¬ Imm (.tbl ps) := fun h => h
theorem ExtN.mono {H H' : Hp} (e : ExtN H H') : Mono H H' := fun b o h i => e b o h fun ps z => by
  rw [z] at i
  exact i
/-- the table, and behind the making of a lambda -/
theorem tabs_of {H : Hp} {P : Addr} {q : Str} {ps : Array Value} (h : H P = some (.tbl ps)) (t : TabI H q ps) : Tabs [(P, q)] H := fun p hp => by
  rw [List.mem_singleton.mp hp]
  exact ⟨ps, h, t.1, t.2⟩
theorem has_lam {H H1 : Hp} {P : Addr} {q : Str} {ps : Array Value} {l : Lg} (h : Has H ((P, .tbl ps) :: l)) (nt : ∀ p ∈ l, ∀ qs, p.2 ≠ .tbl qs) (e : ExtN H H1) (t : Tabs [(P, q)] H1) : ∃ ps', H1 P = some (.tbl ps') ∧ Has H1 ((P, .tbl ps') :: l) ∧ TabI H1 q ps' := by
  obtain ⟨ps', h1, h2, h3⟩ := t (P, q) List.mem_cons_self
  refine ⟨ps', h1, ⟨h.nd, fun p hp => ?_⟩, h2, h3⟩
  rcases List.mem_cons.mp hp with rfl | hp
  · exact ⟨h1, ntbl⟩
  · have := h.at_ p (List.mem_cons_of_mem _ hp)
    exact ⟨e _ _ this.1 (nt p hp), this.2⟩
theorem Dice.lam {K : PySem.W.Frag} {H H1 : Hp} {a P : Addr} {q : Str} {ps : Array Value} {R : Lg} (d : Dice K H a ((P, .tbl ps) :: R)) (nt : ∀ p ∈ R, ∀ qs, p.2 ≠ .tbl qs) (e : ExtN H H1) (t : Tabs [(P, q)] H1) : ∃ ps', Dice K H1 a ((P, .tbl ps') :: R) ∧ TabI H1 q ps' := by
  obtain ⟨c, ns, i, m, r, h1, h2, h3, h⟩ := d
  obtain ⟨ps', _, hb, hc⟩ := has_lam h.swap2 (fun p hp qs => by
    rcases List.mem_cons.mp hp with rfl | hp
    · exact fun z => nomatch z
    · exact nt p hp qs) e t
  exact ⟨ps', ⟨c, ns, i, m, r, h1, h2, h3.mono (ExtN.mono e), hb.swap2⟩, hc⟩
/-- a def whose code object is known -/
theorem Fun.okC {P : Program} {w : World} {K : PySem.W.Frag} {mg : Str → Option Value} {base : Heap} {x qual : Str} {st : Stmt} {f c : Addr} {fd : FuncData} {N ps : List Str} {k : Nat} {sp : Sp} (F : Fun K x qual st f fd) (hc : fd.code = .ref c) (S : FnScope N ps (defScope st)) (len : ∀ vs H Q E, sp vs H Q E → vs.length = ps.length)
    (hbody : ∀ (A : Around) (outer : List Env) (s : Shared) (H : Hp) (vs : List V) (Q : VK) (E : XK), Room k (A.deeper (envOfC qual (defScope st) s.heap.objs.size f (.ref c))) → sp vs H Q E →
      ∃ t, PSs (cxOf CX0 P w K mg base N qual (defScope st) f (.ref c) A outer s H E).nox (defBody st) t ∧ t { nx := fun _ H' => Q .non H', rt := Q } (start N vs) H) : FnOk P w K mg base CX0 (k + 1) f fd ps sp := by
  obtain ⟨oc, od, kV, doc, pm, an, cdv, ct, osl, rfl, lk, hcd⟩ := F.ex
  have e : cdv = .ref c := hc
  subst e
  refine fn_of lk hcd S len fun A outer s H vs Q E hr hsp => ?_
  obtain ⟨t, h, q⟩ := hbody A outer s H vs Q E hr hsp
  exact ⟨t, h.nox, q⟩
/-- a law that makes lambdas: the script's list, the table of its code -/
def spLawT (K : PySem.W.Frag) (P : Addr) : Sp := fun vs H Q _ => vs.length = 1 ∧ ∃ (a : Addr) (ns : List Int), vs = [.ref a] ∧ ns.length ≤ 63 ∧ SqL K H a (ns.map V.int) ∧ H P = some (.tbl #[]) ∧ ∀ H', Q (.bl true) H'
/-- the list is frozen already, or is from now on -/
theorem sq_fz {K : PySem.W.Frag} {H : Hp} {a : Addr} {xs : List V} (h : SqL K H a xs) : FzL K H a xs ∨ H a = some (.lst xs) := by
  rcases h with (h | ⟨o, h⟩) | h
  · exact .inr h
  · exact .inl (FzL.of h)
  · exact .inl fun H' _ => .inr h
end Cu

namespace Cu
open PySem PySem.Spec PyProof.Rows L2
open LamX (CodeO TabB ExtN inv_table LamS)
/-! a lambda as a value: its object stands, its code's table is owned -/
/-- at f: a lambda's object; dV: its default values' tuple, or none -/
def LamO (f : Addr) (q : Str) (params : Arguments) (body : Expr) (scope : Scope) (clos : List (Str × Addr)) (dV : Value) (c' : Addr) : HO := .ext fun h => ∃ doc pm ctv : Value, h.get? f = some (PySem.W.kdv_obj "<lambda>" q params (.expr body) scope clos dV doc pm c' ctv)
theorem lamO_imm {f : Addr} {q : Str} {params : Arguments} {body : Expr} {scope : Scope} {clos : List (Str × Addr)} {dV : Value} {c' : Addr} : Imm (LamO f q params body scope clos dV c') := by
  unfold LamO
  exact trivial
theorem lamO_ok {P : Program} {w : World} {H : Hp} {h : Heap} {f : Addr} {q : Str} {params : Arguments} {body : Expr} {scope : Scope} {clos : List (Str × Addr)} {dV : Value} {c' : Addr} {doc pm ctv : Value}
    (e : h.get? f = some (PySem.W.kdv_obj "<lambda>" q params (.expr body) scope clos dV doc pm c' ctv)) : ObjOk P w H h f (LamO f q params body scope clos dV c') :=
  ⟨⟨doc, pm, ctv, e⟩, ⟨_, e⟩, fun h1 h2 z k => by
    obtain ⟨doc, pm, ctv, q⟩ := z
    exact ⟨doc, pm, ctv, k _ q⟩⟩
theorem lamO_at {P : Program} {w : World} {H : Hp} {h : Heap} {f : Addr} {q : Str} {params : Arguments} {body : Expr} {scope : Scope} {clos : List (Str × Addr)} {dV : Value} {c' : Addr} (hok : HOk P w H h) (e : H f = some (LamO f q params body scope clos dV c')) :
    ∃ doc pm ctv : Value, h.get? f = some (PySem.W.kdv_obj "<lambda>" q params (.expr body) scope clos dV doc pm c' ctv) := by
  have x : ObjOk P w H h f (.ext fun h => ∃ doc pm ctv : Value, h.get? f = some (PySem.W.kdv_obj "<lambda>" q params (.expr body) scope clos dV doc pm c' ctv)) := hok f _ e
  exact x.1
section
variable {X : Cx} {pins : List (Addr × Obj)} {σ : L2.St} {H : Hp} {s : Shared}
theorem lamv_make {c Pt : Addr} {ps : Array Value} {params : Arguments} {body : Expr} {scope : Scope} {pos : Pos} {dV : Value} {E : Value → Shared → Prop} {Q : Value → Shared → Prop} (I : Inv X pins σ H s) (TB : TabB X.base X.mg c Pt) (hcode : X.env.code = .ref c)
    (hP : H Pt = some (.tbl ps)) (ti : TabI H (X.env.qual ++ "<lambda>") ps) (hfree : ∀ y ∈ scope.names, y.2 = .free → ∃ c, X.env.cells.lookup y.1 = some c)
    (h : ∀ (f c' : Addr) (H1 : Hp) (ps' : Array Value) (s' : Shared), ExtN H H1 → H1 Pt = some (.tbl ps') → TabI H1 (X.env.qual ++ "<lambda>") ps' → H1 f = none → H1 c' = some (CodeO c' (X.env.qual ++ "<lambda>")) →
      Inv X pins σ (upd H1 f (LamO f (X.env.qual ++ "<lambda>") params body scope (cloFrom X.env.cells scope.names []) dV c')) s' → Q (.ref f) s') :
    wpAny (model X.prog X.w) X.A (makeTail "<lambda>" (X.env.qual ++ "<lambda>") params (.expr body) scope X.env dV .none none pos pos.line) Q E s := by
  obtain ⟨ht, ha⟩ := ti
  have bP : s.heap.BuiltinsAt X.mg Pt := TB.bm.keeps I.bk
  have hP' : s.heap.get? Pt = some { cls := .none, data := .fields ps } := I.hok Pt _ hP
  cases hc : codeAmong pos ps.toList with
  | none =>
    refine PySem.W.kdv_makeTail (mg := X.mg) (c := c) (P := Pt) (ps := ps) (closure_ok hfree) I.ok.glob (I.mod.glob.keeps I.bk) hcode (TB.code.keeps I.bk) hP' ht hc TB.gP bP fun c' ctv doc h' tk hx hge hlt hrec htb => ?_
    obtain ⟨c2, oc, vs, t, e2, hoc, hd, hv⟩ := hrec
    cases e2
    have nC : H c' = none := I.hok.fresh hge
    have I1 := inv_table (t' := tk) (more := #[rawInt pos.line, rawInt pos.col, .ref c']) (h' := h') (q := X.env.qual ++ "<lambda>") I hP hx htb hge ⟨oc, vs, t, hoc, hd, hv⟩
    have hE : ExtN H (upd (upd H Pt (.tbl (ps ++ #[rawInt pos.line, rawInt pos.col, .ref c']))) c' (CodeO c' (X.env.qual ++ "<lambda>"))) := fun b o e n => by
      rw [upd_ne (ne_of_none e nC), upd_ne (fun z => n ps (Option.some.inj (e.symm.trans (by rw [z]; exact hP))))]
      exact e
    have eL : (ps ++ #[rawInt pos.line, rawInt pos.col, .ref c']).toList = ps.toList ++ [rawInt pos.line, rawInt pos.col, .ref c'] := by simp
    have I2 := I1.laid (t' := tk) (a := h'.objs.size) (o := LamO h'.objs.size (X.env.qual ++ "<lambda>") params body scope (cloFrom X.env.cells scope.names []) dV c')
      (h' := h'.push (PySem.W.kdv_obj "<lambda>" (X.env.qual ++ "<lambda>") params (.expr body) scope (cloFrom X.env.cells scope.names []) dV doc ((X.mg "__name__").getD .none) c' ctv)) (fun b o e => Heap.get?_push_of_some _ e) (Nat.le_refl _) (lamO_ok (Heap.get?_push_size _ rfl))
    refine h h'.objs.size c' _ (ps ++ #[rawInt pos.line, rawInt pos.col, .ref c']) _ hE (by rw [upd_ne (ne_of_none hP nC), upd_same]) ⟨by rw [eL]; exact PySem.TriplesOk_snoc _ _ _ _ ht, fun p' cv hcv => ?_⟩ (I1.hok.fresh (Nat.le_refl _)) upd_same I2
    rw [eL] at hcv
    rcases LamX.among_app _ ht hcv with z | z
    · obtain ⟨c0, e1, e2⟩ := ha p' cv z
      exact ⟨c0, e1, hE _ _ e2 LamX.codeO_ne⟩
    · exact ⟨c', z, upd_same⟩
  | some cv =>
    obtain ⟨c', e, hco⟩ := ha pos cv hc
    subst e
    refine PySem.W.kdv_makeTailHit (mg := X.mg) (c := c) (P := Pt) (ps := ps) (closure_ok hfree) I.ok.glob (I.mod.glob.keeps I.bk) hcode (TB.code.keeps I.bk) hP' ht hc bP fun ctv doc h' tk hx hsz => ?_
    have I1 : Inv X pins σ H { s with heap := h', toks := tk } := I.kept hx
    have I2 := I1.laid (t' := tk) (a := h'.objs.size) (o := LamO h'.objs.size (X.env.qual ++ "<lambda>") params body scope (cloFrom X.env.cells scope.names []) dV c')
      (h' := h'.push (PySem.W.kdv_obj "<lambda>" (X.env.qual ++ "<lambda>") params (.expr body) scope (cloFrom X.env.cells scope.names []) dV doc ((X.mg "__name__").getD .none) c' ctv)) (fun b o e => Heap.get?_push_of_some _ e) (Nat.le_refl _) (lamO_ok (Heap.get?_push_size _ rfl))
    exact h h'.objs.size c' H ps _ (ExtN.refl H) hP ⟨ht, ha⟩ (I1.hok.fresh (Nat.le_refl _)) hco I2
/-- lambda: body -/
def tLamV (Pt : Addr) (q : Str) (params : Arguments) (body : Expr) (scope : Scope) (clos : List (Str × Addr)) : TE := fun _ H Q => ∃ ps, H Pt = some (.tbl ps) ∧ TabI H q ps ∧ ∀ (f c' : Addr) (H1 : Hp) (ps' : Array Value), ExtN H H1 → H1 Pt = some (.tbl ps') → TabI H1 q ps' → H1 f = none →
  H1 c' = some (CodeO c' q) → Q (.ref f) (upd H1 f (LamO f q params body scope clos .none c'))
theorem pe_lamv {c Pt : Addr} {params : Arguments} {body : Expr} {scope : Scope} {pos : Pos} (TB : TabB X.base X.mg c Pt) (hcode : X.env.code = .ref c) (hdef : defaultsOf params X.env = ([], [])) (hfr : ∀ y ∈ scope.names, y.2 = .free → X.env.scope.names.lookup y.1 = some .cell ∨ X.env.scope.names.lookup y.1 = some .free) :
    PE X (.Lambda params body scope pos) (tLamV Pt (X.env.qual ++ "<lambda>") params body scope (cloFrom X.env.cells scope.names [])) := by
  refine ⟨fun pins s σ H Q I ⟨ps, hP, ti, h⟩ => ?_⟩
  refine PySem.W.kla_eval hdef ?_
  rw [makeFunction_eq]
  simp only [List.zip_nil_right, List.filterMap_nil, List.isEmpty_nil, if_true, pure_bind]
  refine lamv_make I TB hcode hP ti (fun y hy e => ?_) fun f c' H1 ps' s' eN hP1 t1 hf hc I' => ⟨.ref f, _, I', rfl, h f c' H1 ps' eN hP1 t1 hf hc⟩
  rcases hfr y hy e with k | k
  · exact I.ok.has _ (.inl k)
  · exact I.ok.has _ (.inr k)
/-- at T: the tuple of one default value, 0 -/
def TupO (T : Addr) : HO := .ext fun h => ∃ t : Tok, h.get? T = some (PySem.W.kdv_tup [.int 0 t])
theorem tupO_imm {T : Addr} : Imm (TupO T) := by
  unfold TupO
  exact trivial
theorem tupO_at {P : Program} {w : World} {H : Hp} {h : Heap} {T : Addr} (hok : HOk P w H h) (e : H T = some (TupO T)) : ∃ t : Tok, h.get? T = some (PySem.W.kdv_tup [.int 0 t]) := by
  have x : ObjOk P w H h T (.ext fun h => ∃ t : Tok, h.get? T = some (PySem.W.kdv_tup [.int 0 t])) := hok T _ e
  exact x.1
/-- lambda a=0: body -/
def tLamD (Pt : Addr) (q : Str) (params : Arguments) (body : Expr) (scope : Scope) (clos : List (Str × Addr)) : TE := fun _ H Q => ∃ ps, H Pt = some (.tbl ps) ∧ TabI H q ps ∧ ∀ (T : Addr), H T = none → ∀ (f c' : Addr) (H1 : Hp) (ps' : Array Value), ExtN (upd H T (TupO T)) H1 →
  H1 Pt = some (.tbl ps') → TabI H1 q ps' → H1 f = none → H1 c' = some (CodeO c' q) → Q (.ref f) (upd H1 f (LamO f q params body scope clos (.ref T) c'))
theorem pe_lamd {c Pt : Addr} {params : Arguments} {body : Expr} {scope : Scope} {pos p0 : Pos} {j : Nat} (TB : TabB X.base X.mg c Pt) (hcode : X.env.code = .ref c) (hd : params.defaults = [.Constant (.int 0) j p0]) (hk : params.kw_defaults = [])
    (hfr : ∀ y ∈ scope.names, y.2 = .free → X.env.scope.names.lookup y.1 = some .cell ∨ X.env.scope.names.lookup y.1 = some .free) :
    PE X (.Lambda params body scope pos) (tLamD Pt (X.env.qual ++ "<lambda>") params body scope (cloFrom X.env.cells scope.names [])) := by
  refine ⟨fun pins s σ H Q I ⟨ps, hP, ti, h⟩ => ?_⟩
  refine PySem.W.kdv_lam (by rw [hd]; rfl) hk ?_
  rw [hd]
  refine PySem.W.kdv_all1 ?_
  refine thn ((pe_int (X := X) (i := 0) (j := j) (pos := p0)).run pins s σ H (fun v H1 => v = .int 0 ∧ H1 = H) I ⟨rfl, rfl⟩) fun u s1 ⟨v, H1, I1, r1, ev, eH⟩ => ?_
  subst ev
  subst eH
  obtain ⟨t0, rfl⟩ := r1
  refine PySem.W.kdv_all0 ?_
  rw [makeFunction_eq]
  simp only [List.zip_nil_right, List.filterMap_nil, List.isEmpty_nil, if_true, pure_bind, List.isEmpty_cons, Bool.false_eq_true, if_false]
  refine wpAny_bind (wpAny_newTextTuple ?_)
  have nT : H1 s1.heap.objs.size = none := I1.hok.fresh (Nat.le_refl _)
  have I2 : Inv X pins σ (upd H1 s1.heap.objs.size (TupO s1.heap.objs.size)) { s1 with heap := s1.heap.push { cls := .type "tuple", data := .seq ([Value.int 0 t0] : List Value).toArray } } :=
    I1.laid (t' := s1.toks) (fun b o e => Heap.get?_push_of_some _ e) (Nat.le_refl _) (by
      refine ⟨⟨t0, Heap.get?_push_size _ rfl⟩, ⟨_, Heap.get?_push_size _ rfl⟩, fun h1 h2 z k => ?_⟩
      obtain ⟨t, q⟩ := z
      exact ⟨t, k _ q⟩)
  have hP2 : upd H1 s1.heap.objs.size (TupO s1.heap.objs.size) Pt = some (.tbl ps) := by rw [upd_ne (ne_of_none hP nT)]; exact hP
  refine lamv_make I2 TB hcode hP2 (ti.mono (Mono.new nT)) (fun y hy e => ?_) fun f c' H2 ps' s' eN hP1 t1 hf hc I' => ⟨.ref f, _, I', rfl, h _ nT f c' H2 ps' eN hP1 t1 hf hc⟩
  rcases hfr y hy e with k | k
  · exact I2.ok.has _ (.inl k)
  · exact I2.ok.has _ (.inr k)
end
end Cu

namespace Cu
open PySem PySem.Spec PyProof.Rows L2
open LamX (CodeO lamEnv lamCx)
/-! a lambda that stands is called -/
/-- captured names, globals, and own names that the maker has not -/
structure LamN (N : List Str) (sc scope : Scope) : Prop where
  kind : scope.kind = .function
  co : scope.isCoroutine = false
  gen : scope.isGenerator = false
  noc : ∀ y ∈ scope.names, y.2 ≠ .cell
  own : ∀ y ∈ scope.names, y.2 = .local → y.1 ∉ N
  free : ∀ y ∈ scope.names, y.2 = .free → sc.names.lookup y.1 = some .cell ∨ sc.names.lookup y.1 = some .free
def lamNB (N : List Str) (sc scope : Scope) : Bool :=
  decide (scope.kind = .function) && !scope.isCoroutine && !scope.isGenerator && scope.names.all fun y => !decide (y.2 = .cell) && (!decide (y.2 = .local) || !decide (y.1 ∈ N)) && (!decide (y.2 = .free) || decide (sc.names.lookup y.1 = some .cell) || decide (sc.names.lookup y.1 = some .free))
theorem lamN_by {N : List Str} {sc scope : Scope} (h : lamNB N sc scope = true) : LamN N sc scope := by
  unfold lamNB at h
  simp only [Bool.and_eq_true, Bool.or_eq_true, Bool.not_eq_true', decide_eq_true_eq, decide_eq_false_iff_not, List.all_eq_true] at h
  obtain ⟨⟨⟨h1, h2⟩, h3⟩, h4⟩ := h
  refine ⟨h1, h2, h3, fun y hy => (h4 y hy).1.1, fun y hy e => ?_, fun y hy e => ?_⟩
  · rcases (h4 y hy).1.2 with z | z
    · exact absurd e z
    · exact z
  · rcases (h4 y hy).2 with (z | z) | z
    · exact absurd e z
    · exact .inl z
    · exact .inr z
section
variable {X : Cx} {pins : List (Addr × Obj)} {σ : L2.St} {H HZ : Hp} {s s1 : Shared}
theorem LamN.has {scope : Scope} (L : LamN X.N X.env.scope scope) (ok : X.Ok) : ∀ y ∈ scope.names, y.2 = .free → ∃ c, X.env.cells.lookup y.1 = some c := fun y hy e => by
  rcases L.free y hy e with k | k
  · exact ok.has _ (.inl k)
  · exact ok.has _ (.inr k)
theorem lamn_start {A : Around} {outer : List Env} {E : XK} {scope : Scope} {f c' : Addr} {h₁ : Heap} {tk : Nat} {m : Str → Option Value} (I : Inv X pins σ H s) (L : LamN X.N X.env.scope scope) (e0 : Env0 X.prog X.w X.K X.mg X.base A outer s1 HZ) (hd : A.handled = none)
    (un : Un (frs X.stack) [] H HZ s.heap s1.heap) (hns : h₁.Ns s1.heap.objs.size m) (kp : ∀ b o, s1.heap.get? b = some o → h₁.get? b = some o) :
    Inv (lamCx X A outer s1 HZ E scope f c') [] σ HZ { s1 with heap := h₁, toks := tk } := by
  have hfree := L.has I.ok
  have cm : ∀ {y c}, (cloFrom X.env.cells scope.names []).lookup y = some c → X.env.cells.lookup y = some c := fun {y c} e => by
    rcases cloFrom_mem (PySem.mem_of_lookup e) with hm | ⟨h1, h2⟩
    · cases hm
    · obtain ⟨c1, hc⟩ := hfree _ h1 rfl
      have hc : X.env.cells.lookup y = some c1 := hc
      have e2 : c = c1 := by
        rw [h2, hc] <;> rfl
      rw [e2]
      exact hc
  have look : ∀ {y}, scope.names.lookup y = some .free → ∃ c, (cloFrom X.env.cells scope.names []).lookup y = some c := fun {y} hl => by
    have hy : (y, NameKind.free) ∈ scope.names := PySem.mem_of_lookup hl
    exact mem_lookup (cloFrom_has (cells := X.env.cells) (acc := []) hy)
  have cellK : ∀ {c : Addr} {v : Option Value}, H c = none → s.heap.IsCell c v → h₁.IsCell c v := fun {c v} n ⟨o, ho, hd⟩ => by
    obtain ⟨sl, q⟩ := un.any ho n (by simp)
    exact ⟨_, kp _ _ q, hd⟩
  have noA : ∀ b : Addr, b ∉ (lamCx X A outer s1 HZ E scope f c').ex := fun b z => absurd (show b ∈ ([] : List Addr) from z) (by simp)
  refine ⟨⟨e0.mod, L.kind, rfl, rfl, Nat.le_refl _, fun y z c e1 e2 => I.ok.inj y z c (cm e1) (cm e2), fun y hy => ?_, fun y c z _ => ?_, fun _ => hd, Around.frames_deeper e0.frames, .inr ⟨rfl, rfl⟩, fun b z => absurd z (noA b), e0.bs, e0.bsz, fun b _ _ => noA b,
      fun b z => absurd z (noA b), e0.funs, e0.frf⟩,
    rfl, e0.bare, Un.kept kp, ⟨_, hns, fun i y v e1 e2 e3 => ?_⟩, fun y c e => ?_, e0.hok.fresh (Nat.le_refl _), fun y c e => ?_, fun q hq => absurd (show q ∈ ([] : List (Addr × Obj)) ++ [] from hq) (by simp), e0.hok.kept kp, I.len⟩
  · have hy : scope.names.lookup y = some .cell ∨ scope.names.lookup y = some .free := hy
    rcases hy with hy | hy
    · exact absurd rfl (L.noc _ (PySem.mem_of_lookup hy))
    · exact look hy
  · have z : false = true := z
    cases z
  · have e3 : Vis scope y := e3
    have hyN : y ∈ X.N := List.mem_of_getElem? e1
    rcases e3 with k | k | k
    · exact absurd hyN (L.own _ (PySem.mem_of_lookup k) rfl)
    · exact absurd rfl (L.noc _ (PySem.mem_of_lookup k))
    · obtain ⟨m, hn, hl⟩ := I.loc
      have hvis : Vis X.env.scope y := (L.free _ (PySem.mem_of_lookup k) rfl).elim (fun k => .inr (.inl k)) (fun k => .inr (.inr k))
      obtain ⟨w', r, q⟩ := hl i y v e1 e2 hvis
      obtain ⟨c2, h2⟩ := look k
      refine ⟨w', r, .inr ⟨.inr k, c2, h2, ?_⟩⟩
      have c1 := cm h2
      rcases q with ⟨k', _⟩ | ⟨_, c3, e', z⟩
      · have k' : X.env.scope.names.lookup y = some .local := k'
        rcases L.free _ (PySem.mem_of_lookup k) rfl with k2 | k2 <;> rw [show X.env.scope.names.lookup y = _ from k2] at k' <;> cases k'
      · rw [c1] at e'
        cases e'
        exact cellK (I.freeC y _ c1) z
  · obtain ⟨w', z⟩ := I.cell y c (cm e)
    exact ⟨w', cellK (I.freeC y c (cm e)) z⟩
  · obtain ⟨v, o, ho, hd⟩ := I.cell y c (cm e)
    exact un.free c o ho (I.freeC y c (cm e)) (by simp)
/-- how no argument comes to the lambda's parameters -/
def NoArgs (P : Program) (w : World) (HZ : Hp) (q : Str) (params : Arguments) (body : Expr) (scope : Scope) (clos : List (Str × Addr)) (dV : Value) (c' : Addr) : Prop :=
  ∀ (s : Shared) (doc pm ctv : Value), HOk P w HZ s.heap → ∃ binds : List (Str × Value), BindsTo s (PySem.W.kdv_fn "<lambda>" q params (.expr body) scope clos dV doc pm (.ref c') ctv) ⟨[], []⟩ binds ∧ ∀ y ∈ binds, scope.names.lookup y.1 = some .local
/-- x(), x a lambda of the maker X, in a def that was called while X stood -/
theorem pe_actV {CXg : CXT} {Eg : XK} {Ng : List Str} {qg : Str} {sg : Scope} {g f c' : Addr} {cdg dV : Value} {params : Arguments} {body : Expr} {scope : Scope} {k i : Nat} {a : Str} {pn : List (Addr × Obj)} {xe : Value → Shared → Prop} {W : WX} {E : XK} {tb : TE} {p1 p2 : Pos}
    (I : Inv X pins σ H s) (L : LamN X.N X.env.scope scope) (tk : Takes ((cxOf CXg X.prog X.w X.K X.mg X.base Ng qg sg g cdg X.A X.stack s H Eg).tr pn xe) W) (hW : ∀ cls d σ' H', E cls d H' → W cls d σ' H') (hr : Room (k + 1) (X.A.deeper (envOfC qg sg s.heap.objs.size g cdg)))
    (hbody : ∀ (A : Around) (outer : List Env) (s : Shared) (H : Hp), Room k (A.deeper (lamEnv X scope s.heap.objs.size f c')) → PE (lamCx X A outer s H E scope f c') body tb)
    (hN : Ng[i]? = some a) (hv : Vis sg a) (hd : (a == ("__debug__" : Str)) = false := by decide) (hcd : (a == ("__classdict__" : Str)) = false := by decide) :
    PE ((cxOf CXg X.prog X.w X.K X.mg X.base Ng qg sg g cdg X.A X.stack s H Eg).tr pn xe) (.Call (.Name a p1) [] [] p2)
      (fun σZ HZ Q => σZ[i]? = some (some (.ref f)) ∧ HZ c' = some (CodeO c' (X.env.qual ++ "<lambda>")) ∧ HZ f = some (LamO f (X.env.qual ++ "<lambda>") params body scope (cloFrom X.env.cells scope.names []) dV c') ∧
        NoArgs X.prog X.w HZ (X.env.qual ++ "<lambda>") params body scope (cloFrom X.env.cells scope.names []) dV c' ∧ tb σ HZ Q) := by
  refine ⟨fun pinsZ sZ σZ HZ Q IZ h => ?_⟩
  obtain ⟨hs, hc, hf, hna, ht⟩ := h
  refine wpAny_Call_Name_kw (thn ((pe_var (pos := p1) (i := i) hN hv hd hcd).run pinsZ sZ σZ HZ (fun v H1 => v = .ref f ∧ H1 = HZ) IZ ⟨.ref f, hs, rfl, rfl⟩) fun u s1 ⟨v, H1, I1, r1, q1⟩ => ?_)
  obtain ⟨ev, eH⟩ := q1
  subst ev
  rw [eH] at I1
  obtain rfl : u = Value.ref f := r1
  obtain ⟨doc, pm, ctv, of1⟩ := lamO_at I1.hok hf
  obtain ⟨binds, hbt, hbl⟩ := hna s1 doc pm ctv I1.hok
  refine PySem.W.callWith_F0 ⟨_, _, _, _, of1⟩ ?_
  have un : Un (frs X.stack) [] H HZ s.heap s1.heap := I1.base
  obtain ⟨⟨oc, vs, t, hoc, hdc, hvc⟩, _, _⟩ := I1.hok c' _ hc
  have rc : codeAny (model X.prog X.w) (X.A.deeper (envOfC qg sg s.heap.objs.size g cdg)) (.call (.ref f) ⟨[], []⟩) (CR (L2.CX X.prog X.w) (envOfC qg sg s.heap.objs.size g cdg :: X.stack) X.prog X.w HZ s1 Q E) s1 := by
    refine PySem.W.kla_callFunE hr.depth of1 rfl L.co L.gen rfl ⟨c', oc, vs, t, rfl, hoc, hdc, hvc⟩ ?_
    refine hbt _ _ _ _ (wpAny_newFunctionEnv (fun y hy => L.noc y hy) hbl (fun h₁ hns hsb => ⟨I1.nolimit.fresh _ hsb, ?_⟩) L.kind)
    show codeAny _ _ (.expr body (lamEnv X scope s1.heap.objs.size f c')) _ _
    have kp : ∀ b o, s1.heap.get? b = some o → h₁.get? b = some o := fun b o e => hsb.extBut b o (Nat.ne_of_lt (Heap.lt_size e)) (Heap.get?_push_of_some _ e)
    have J : Inv (lamCx X (X.A.deeper (envOfC qg sg s.heap.objs.size g cdg)) (envOfC qg sg s.heap.objs.size g cdg :: X.stack) s1 HZ E scope f c') [] σ HZ { s1 with heap := h₁, toks := s1.toks + binds.length } :=
      lamn_start I L I1.env0 hr.hd un hns kp
    refine PySem.W.kla_codeExpr (wpAny_mono ((hbody _ _ s1 HZ (hr.deeper _)).run [] _ _ HZ Q J ht) (fun v s' hq => ?_) fun e s' hq => hq)
    obtain ⟨w', H', J', rv, q⟩ := hq
    exact ⟨w', H', J'.os, J'.bare, J'.base, J'.hok, rv, q⟩
  have hx : Passes (L2.CX X.prog X.w) ((cxOf CXg X.prog X.w X.K X.mg X.base Ng qg sg g cdg X.A X.stack s H Eg).tr pn xe) E := passes_call tk hW
  refine wpAny_call (codeAny_mono rc fun r s' hq => ?_)
  cases r with
  | error e => exact hx pinsZ σZ HZ s1 e s' I1 hq
  | ok fl =>
    cases fl with
    | ret u => exact I1.after hq
    | next => exact False.elim hq
    | brk => exact False.elim hq
    | cont => exact False.elim hq
end
end Cu

namespace Cu
open PySem PySem.Spec PyProof.Rows L2
/-! a comprehension whose test may use what is known of the maker's own frame -/
/-- the maker stands as it was when the block began -/
def Stood (X : Cx) (σ : L2.St) (s : Shared) (H : Hp) (fp : List Addr) : Prop := ∃ pins, Inv X pins σ H s ∧ ∀ b ∈ fp, FpOk X pins H b
/-- .. and so it stands at any time in the block -/
theorem Stood.now {X : Cx} {σ σ' : L2.St} {s s' : Shared} {H H' : Hp} {fp : List Addr} {scope : Scope} {ce : Env} {pins' : List (Addr × Obj)} (st : Stood X σ s H fp) (I : Inv (X.blk s H scope ce fp) pins' σ' H' s') : ∃ pins, Inv X pins σ H' s' := by
  obtain ⟨pins, I0, hf⟩ := st
  exact ⟨pins, I0.call' (ch := fp) I.os I.base I.hok I.bare fun b hb => ⟨(hf b hb).2.2.2.1, (hf b hb).2.1, (hf b hb).2.2.2.2.1, (hf b hb).2.2.2.2.2⟩⟩
/-- between two turns of the block -/
def Btw (B : Cx) (σ0 : L2.St) (fp : List Addr) (tn : Nat → Heap → Prop) (W : Nat → Nat → Hp → Prop) (m : Nat) (s : Shared) : Prop :=
  ∃ i H, Inv B [] σ0 H s ∧ tn i s.heap ∧ (∀ b ∈ fp, H b = none) ∧ W i m H
/-- the footprint is the block's own outside -/
theorem blk_fp {X : Cx} {s0 s : Shared} {H0 H : Hp} {scope : Scope} {ce : Env} {fp : List Addr} {σ : L2.St} (I : Inv (X.blk s0 H0 scope ce fp) [] σ H s) (hn : ∀ b ∈ fp, H b = none) : ∀ b ∈ fp, FpOk (X.blk s0 H0 scope ce fp) [] H b :=
  fun b hb => ⟨hn b hb, (I.ok.exf b hb).1, I.ok.exfs b hb, .inl hb, (I.ok.exf b hb).2, fun _ hp => nomatch hp⟩
/-- the loop of the block: turn after turn the block's own text stands, and the footprint is as the iterator left it -/
theorem lcin_loop {X : Cx} {s0 : Shared} {H0 : Hp} {scope : Scope} {ce : Env} {elt tg iter : Expr} {ifs : List Expr} {sc : Scope} {pos : Pos} {g : TG} {tt : TT} {te : TE} {J : It} {it D : Addr} {fp : List Addr} {tn : Nat → Heap → Prop} {σ : L2.St} {vs : List Nat} {Q : VK} {W : Nat → Nat → Hp → Prop} {R : Result → Shared → Prop} (hc : X.calm = true)
    (T : Turn X.prog X.w X.K tg J fp it tn) (hg : PG (X.blk s0 H0 scope ce fp) tg g) (ht : PTs (X.blk s0 H0 scope ce fp) ifs tt) (he : PE (X.blk s0 H0 scope ce fp) elt te)
    (turn : ∀ i m H, W i m H → (J.stop i H ∧ Q (.ref D) H) ∨ (J.go i H ∧ ∃ Nx : Hp → Prop, (∀ H', Nx H' → ∃ m', m' < m ∧ W (i + 1) m' H') ∧ ∀ x H', J.yld i H x H' → g x (wipe σ vs) H' fun σ2 H2 => wipe σ2 vs = wipe σ vs ∧ tt σ2 H2 fun b H3 =>
      if b = true then te σ2 H3 fun y H4 => ∃ acc, H4 D = some (.lst acc) ∧ acc.length < sizeLine ∧ Nx (upd H4 D (.lst (acc ++ [y]))) else Nx H3))
    (done : ∀ H s, Inv (X.blk s0 H0 scope ce fp) [] (wipe σ vs) H s → Q (.ref D) H → R (.ok .next) s)
    (m : Nat) (s : Shared) (h : Btw (X.blk s0 H0 scope ce fp) (wipe σ vs) fp tn W m s) :
    codeAny (model X.prog X.w) X.A (.compLoop (.ListComp elt [⟨tg, iter, ifs, 0⟩] sc pos) 0 (.ref it) (.ref D) ce) R s := by
  -- a turn ends as it began
  have over : ∀ {i n : Nat} {Nx : Hp → Prop} {sy s' : Shared} {σ2 : L2.St} {H' : Hp}, (∀ H', Nx H' → ∃ m', m' < n ∧ W (i + 1) m' H') → tn (i + 1) sy.heap → wipe σ2 vs = wipe σ vs →
      Inv (X.blk s0 H0 scope ce fp) ([] ++ pinsAt fp sy.heap) σ2 H' s' → Nx H' → ∃ m, m < n ∧ Btw (X.blk s0 H0 scope ce fp) (wipe σ vs) fp tn W m s' := by
    intro i n Nx sy s' σ2 H' hm hy hw I nx
    obtain ⟨m', lt, w'⟩ := hm H' nx
    have pinned : ∀ b ∈ fp, ∀ o, sy.heap.get? b = some o → s'.heap.get? b = some o ∧ H' b = none := fun b hb o e => by
      have z := I.pin (b, o) (List.mem_append_right _ (List.mem_append_right _ (mem_pinsAt hb e)))
      exact ⟨z.1, z.2.1⟩
    have ln : (wipe σ vs).length = σ2.length := by rw [← hw, wipe_length]
    refine ⟨m', lt, i + 1, H', Inv.weak (Inv.unpinned (pins := []) I) ln (fun j v e => ?_), T.keep _ _ _ hy fun b hb o e => (pinned b hb o e).1, fun b hb => ?_, w'⟩
    · rw [← hw] at e; exact (wipe_some e).1
    · obtain ⟨o, e, _⟩ := T.obj _ _ hy b hb
      exact (pinned b hb o e).2
  refine compLoop_any (Btw (X.blk s0 H0 scope ce fp) (wipe σ vs) fp tn W) (fun n s5 ⟨i, H5, I5, t5, n5, w5⟩ => ?_) m h
  obtain ⟨stop, qq⟩ | ⟨goes, Nx, hm, step⟩ := turn i n H5 w5
  · refine thnF (T.done (X.blk s0 H0 scope ce fp) rfl rfl rfl hc i [] s5 _ H5 (fun _ _ => False) I5 (blk_fp I5 n5) t5 stop) ?_
    rintro _ s6 ⟨rfl, I6⟩
    exact done H5 s6 I6 qq
  · refine thnF (T.item (X.blk s0 H0 scope ce fp) rfl rfl rfl hc i [] s5 _ H5 (fun _ _ => False) I5 (blk_fp I5 n5) t5 goes) ?_
    rintro _ s6 ⟨u, rfl, h6⟩
    refine thnF h6 ?_
    rintro _ s7 ⟨x, H7, I7, r7, y7, t7, n7⟩
    refine thnF (hg.run _ s7 _ H7 x u _ (I7.pinned (blk_fp I7 n7) (T.obj _ _ t7)) r7 (step x H7 y7)) ?_
    rintro _ s8 ⟨σ8, H8, I8, hw, q8⟩
    refine thnF (ht.run _ s8 σ8 H8 _ I8 q8) ?_
    rintro (_ | _) s9 ⟨H9, I9, q9⟩
    · exact over hm t7 hw I9 q9
    · refine thnF (he.run _ s9 σ8 H9 _ I9 q9) ?_
      rintro y s10 ⟨yv, H10, I10, r10, acc, hD, hz, nx⟩
      exact app_ok (X := X.blk s0 H0 scope ce fp) I10 hD hz r10 fun s11 I11 => over hm t7 hw I11 nx
/-- a reading of the tests that is told the maker's slots -/
theorem pe_lcin {X : Cx} {elt tg iter : Expr} {ifs : List Expr} {scope : Scope} {own : List (Str × Nat)} {pos : Pos} {wi : TI} {g : TG} {tt : L2.St → TT} {te : TE} (hc : X.calm = true) (hN : X.N.Nodup) (hi : PI X tg iter wi) (ok : BlkOk X.N X.env.scope scope own)
    (hg : ∀ (s : Shared) (H : Hp) (C : Addr) (cl : List (Str × Addr)) (fp : List Addr), PG (X.blk s H scope (compEnvC scope cl C X.env) fp) tg g)
    (ht : ∀ (σ : L2.St) (s : Shared) (H : Hp) (C : Addr) (cl : List (Str × Addr)) (fp : List Addr), Stood X σ s H fp → PTs (X.blk s H scope (compEnvC scope cl C X.env) fp) ifs (tt σ))
    (he : ∀ (s : Shared) (H : Hp) (C : Addr) (cl : List (Str × Addr)) (fp : List Addr), PE (X.blk s H scope (compEnvC scope cl C X.env) fp) elt te) (hs : ∀ x, foldedSetIterable iter X.env x = pure x := by intro _; rfl) :
    PE X (.ListComp elt [⟨tg, iter, ifs, 0⟩] scope pos) (fun σ H Q => tLc wi g (tt σ) te (own.map (·.2)) σ H Q) := by
  refine ⟨fun pins s σ H Q I h => ?_⟩
  have cells : ∀ y ∈ scope.names, y.2 = .free → ∃ c, X.env.cells.lookup y.1 = some c := fun y hy e => (ok.free y hy e).elim (fun k => I.ok.has _ (.inl k)) fun k => I.ok.has _ (.inr k)
  rw [eval_ListComp]
  refine wpAny_comprehension_free (use := none) rfl hs (closure_ok cells) ok.kind (fun y hy e => by rw [ok.uniq y hy, e]) (thn (hi.run pins s σ H _ I h) fun xv s1 hx => thn hx fun itv s2 h2 => ?_)
  obtain ⟨it, fp, tn, J, H2, e, I2, T, st2, f2, q⟩ := h2
  subst e
  refine wpAny_newObj_type (newEnv_comp ?_) (by show 0 ≤ sizeLine; decide)
  -- the new list stands at D
  obtain ⟨D, hD⟩ : ∃ D, s2.heap.objs.size = D := ⟨_, rfl⟩
  have nD : H2 D = none := I2.hok.fresh (Nat.le_of_eq hD)
  obtain ⟨W, ⟨m0, w0⟩, turn⟩ := q D nD
  have I3 : Inv X pins σ (upd H2 D (.lst [])) { s2 with heap := s2.heap.push { cls := .type "list", data := .seq ([] : List Value).toArray } } :=
    I2.laid (t' := s2.toks) (fun b o e => Heap.get?_push_of_some _ e) (Nat.le_of_eq hD) ⟨Nat.zero_le _, [], 0, .nil, by rw [← hD]; exact Heap.get?_push_size _ rfl⟩
  have fok : ∀ b ∈ fp, FpOk X pins (upd H2 D (.lst [])) b ∧ b < (s2.heap.push { cls := .type "list", data := .seq ([] : List Value).toArray }).objs.size := fun b hb => by
    obtain ⟨o, eo, _⟩ := T.obj _ _ st2 b hb
    have hlt := Heap.lt_size eo
    refine ⟨⟨by rw [upd_ne (by rw [← hD]; exact Nat.ne_of_lt hlt)]; exact (f2 b hb).1, (f2 b hb).2⟩, by rw [Heap.size_push]; exact Nat.lt_succ_of_lt hlt⟩
  have st3 := T.keep _ _ (s2.heap.push { cls := .type "list", data := .seq ([] : List Value).toArray }) st2 fun b _ o e => Heap.get?_push_of_some _ e
  generalize hs3 : ({ s2 with heap := s2.heap.push { cls := .type "list", data := .seq ([] : List Value).toArray } } : Shared) = s3 at I3 ⊢
  have h3 : s2.heap.push { cls := .type "list", data := .seq ([] : List Value).toArray } = s3.heap := by rw [← hs3]
  rw [h3] at fok st3
  have nfp : ∀ b ∈ fp, upd H2 D (.lst []) b = none := fun b hb => (fok b hb).1.1
  generalize upd H2 D (.lst []) = H3 at *
  have stood : Stood X σ s3 H3 fp := ⟨pins, I3, fun b hb => (fok b hb).1⟩
  have I4 := block_start I3 ok hN fok
  have hcl := hg s3 H3 s3.heap.objs.size (cellsFrom (s3.heap.objs.size + 1) scope.names (cloFrom X.env.cells scope.names [])) fp
  have htl := ht σ s3 H3 s3.heap.objs.size (cellsFrom (s3.heap.objs.size + 1) scope.names (cloFrom X.env.cells scope.names [])) fp stood
  have hel := he s3 H3 s3.heap.objs.size (cellsFrom (s3.heap.objs.size + 1) scope.names (cloFrom X.env.cells scope.names [])) fp
  have st5 := T.keep _ _ (pushCells (s3.heap.push { cls := .type "dict", data := .dict #[] }) scope.names) st3 fun b _ o e => pushCells_keeps _ _ _ _ (Heap.get?_push_of_some _ e)
  rw [hD]
  show codeAny _ _ (.compStart (.ListComp elt [⟨tg, iter, ifs, 0⟩] scope pos) 0 (.ref it) (.ref D) (compEnvC scope (cellsFrom (s3.heap.objs.size + 1) scope.names (cloFrom X.env.cells scope.names [])) s3.heap.objs.size X.env)) (compPost (model X.prog X.w) X.A X.xe none (EP X pins σ Q) (.ref D) s3.heap.objs.size) { s3 with heap := pushCells (s3.heap.push { cls := .type "dict", data := .dict #[] }) scope.names }
  obtain ⟨ce, hce⟩ : ∃ ce, compEnvC scope (cellsFrom (s3.heap.objs.size + 1) scope.names (cloFrom X.env.cells scope.names [])) s3.heap.objs.size X.env = ce := ⟨_, rfl⟩
  have cel : ce.locals = s3.heap.objs.size := by rw [← hce]; rfl
  rw [hce] at I4 hcl htl hel
  rw [hce]
  have go := lcin_loop (elt := elt) (ifs := ifs) (tg := tg) (iter := iter) (sc := scope) (pos := pos) (σ := σ) (vs := own.map (·.2)) (Q := Q) (R := compPost (model X.prog X.w) X.A X.xe none (EP X pins σ Q) (.ref D) s3.heap.objs.size) hc T hcl htl hel turn
    (fun H5 s5 I5 qq => by
      have I7 : Inv X pins σ H5 s5 := I3.call' (ch := fp) I5.os I5.base I5.hok I5.bare fun b hb => ⟨(fok b hb).1.2.2.2.1, (fok b hb).1.2.1, (fok b hb).1.2.2.2.2.1, (fok b hb).1.2.2.2.2.2⟩
      have nC : H5 s3.heap.objs.size = none := by have z := I5.free; rw [← cel]; exact z
      obtain ⟨k, hk, _⟩ := I5.loc
      have hk : s5.heap.Ns ce.locals k := hk
      rw [cel] at hk
      have f := I3.fpOk (Nat.le_refl _) nC
      exact ⟨k, hk, fun h'' sb => ⟨.ref D, H5, I7.turned (t' := s5.toks) (fun b o hb e => (sb.2 b hb).trans e) f.1 f.2.1 f.2.2.2.1 f.2.2.2.2.1 f.2.2.2.2.2, rfl, qq⟩⟩)
    m0 _ ⟨0, H3, I4, st5, nfp, w0⟩
  exact codeAny_compStart_list go (T.self X.A 0 _ _ _ st5 go)
end Cu

namespace Cu
open PySem PySem.Spec PyProof.Rows L2
/-- the work is called, whatever it may let out -/
theorem takesLen {X : Cx} {W : WX} (tk : Takes X W) : Takes X (fun cls d σ H => σ.length = X.N.length → W cls d σ H) := fun u s' ⟨a, B, sI, pins, σ, H, cls, d, e, I, nb, up, sky, na, os, ag, w⟩ =>
  tk u s' ⟨a, B, sI, pins, σ, H, cls, d, e, I, nb, up, sky, na, os, ag, w I.len⟩
theorem pe_act1 {X : Cx} {a : Str} {W : WX} {n : Nat} {t : XK → TE} {p1 p2 : Pos} (act : ∀ (E : XK) (q1 q2 : Pos), (∀ cls d σ' H', E cls d H' → σ'.length = n → W cls d σ' H') → PE X (.Call (.Name a q1) [] [] q2) (t E)) :
    PE X (.Call (.Name a p1) [] [] p2) (fun σ H Q => ∃ E : XK, (∀ cls d σ' H', E cls d H' → σ'.length = n → W cls d σ' H') ∧ t E σ H Q) :=
  ⟨fun pins s σ H Q I ⟨E, hW, h⟩ => (act E p1 p2 hW).run pins s σ H Q I h⟩
end Cu

namespace Cu
open PySem PySem.Spec PyProof.Rows L2
open LamX (GivesTo CodeO)
/-! _law_bad: the key of a refused wish; its call of a lambda that stands -/
theorem noArgs0 {P : Program} {w : World} {HZ : Hp} {q : Str} {params : Arguments} {body : Expr} {scope : Scope} {clos : List (Str × Addr)} {c' : Addr}
    (h : ∀ (doc pm ctv : Value), bindArgs (PySem.W.kdv_fn "<lambda>" q params (.expr body) scope clos .none doc pm (.ref c') ctv) ⟨[], []⟩ = pure []) : NoArgs P w HZ q params body scope clos .none c' :=
  fun _ doc pm ctv _ => ⟨[], BindsTo.of_eq (h doc pm ctv), fun _ hy => nomatch hy⟩
theorem noArgs1 {P : Program} {w : World} {HZ : Hp} {q a : Str} {params : Arguments} {body : Expr} {scope : Scope} {clos : List (Str × Addr)} {T c' : Addr} (hT : HZ T = some (TupO T)) (hl : scope.names.lookup a = some .local)
    (h : ∀ (doc pm ctv : Value), ∃ k : Option (Array Value) → Sem (List (Str × Value)), bindArgs (PySem.W.kdv_fn "<lambda>" q params (.expr body) scope clos (.ref T) doc pm (.ref c') ctv) ⟨[], []⟩ = seqItems? (.ref T) >>= k ∧ ∀ v, k (some #[v]) = pure [(a, v)]) : NoArgs P w HZ q params body scope clos (.ref T) c' := by
  intro s doc pm ctv hok
  obtain ⟨t, e⟩ := tupO_at hok hT
  obtain ⟨k, h1, h2⟩ := h doc pm ctv
  refine ⟨[(a, .int 0 t)], BindsTo.of_defaults (items := #[.int 0 t]) rfl e rfl h1 (h2 _), fun y hy => ?_⟩
  rw [List.mem_singleton.mp hy]
  exact hl
abbrev s_bad : Stmt := (top 26)
theorem sc_bad : FnScope ["_law_work", "e"] ["_law_work"] (defScope s_bad) := ⟨rfl, rfl, rfl, by decide +kernel, rfl, by decide +kernel, by decide +kernel⟩

structure Nm (mg : Str → Option Value) (x : Str) (C : Addr) : Prop where
  gC : mg x = some (.ref C)
theorem exm_key {K : PySem.W.Frag} {C : Addr} (T : Xc K C "key") (h : PySem.W.subIn K (.ref C) (.ref C) = some true) : PySem.W.exmOne K (.ref C) (.ref C) = some true :=
  PySem.W.exm_ref T.ox.exC T.xf.hdC T.ox.tyC h
/-- what _law_bad makes of the work's reading -/
def TTb (CB : Addr) : (XK → Hp → VK → Prop) → Hp → VK → Prop := fun tl H Q =>
  tl (fun cls d H' => cls = .ref CB ∧ ∃ (dd : Addr) (n : Int), d = some dd ∧ H' dd = some (.xd [("key", .int n)]) ∧ Q (.int n) H') H fun _ H' => Q .non H'
theorem bad_gives {X : Cx} {g : Addr} {cdg : Value} {q : Str} {CB : Addr} (x_BadKnown : Nm X.mg "BadKnown" CB) (XBadKnown : Xc X.K CB "key") (em : PySem.W.exmOne X.K (.ref CB) (.ref CB) = some true) :
    GivesTo X ["_law_work", "e"] "_law_bad" (defScope s_bad) g cdg (defBody s_bad) "_law_work" q (TTb CB) := by
  intro f c' s H Q tl act hc h
  refine ⟨_, (pss_one (ps_tryT (i := 1) rfl rfl sc_bad.nd rfl rfl ⟨rfl, by decide, .inl x_BadKnown.gC⟩ takes0 (fun W pn xe tk po => by exact (pss_cons (ps_expr (pe_act1 (n := 2) (fun E q1 q2 hW => act _ pn xe E q1 q2 (takesLen tk) hW)))
        (pss_one (ps_ret pe_non))))
        (fun a oe cls d pn hz hf => by exact (pss_one (ps_ret (pe_xf XBadKnown.xf XBadKnown.no hz hf (pv 1))))))), ?_⟩
  intro pn xe
  refine ⟨_, ?_, rfl, hc, h⟩
  rintro cls d σ' H' ⟨rfl, dd, n, rfl, hdd, k⟩ hlen
  obtain ⟨w0, w1, rfl⟩ : ∃ w0 w1, σ' = [w0, w1] := by
    match σ', hlen with
    | [a, b], _ => exact ⟨a, b, rfl⟩
  refine ⟨true, em, fun _ ea hea oe pn2 => ?_, fun z => nomatch z⟩
  exact ⟨_, rfl, rfl, rfl, dd, _, _, rfl, hdd, rfl, k⟩
theorem bad_cx {P : Program} {w : World} {K : PySem.W.Frag} {mg : Str → Option Value} {base : Heap} {N : List Str} {qual : Str} {scope : Scope} {f : Addr} {cd : Value} {A : Around} {outer : List Env} {s : Shared} {H : Hp} {E : XK} {g : Addr} {cdg : Value} {q : Str} {CB : Addr}
    (x_BadKnown : Nm mg "BadKnown" CB) (XBadKnown : Xc K CB "key") (em : PySem.W.exmOne K (.ref CB) (.ref CB) = some true) :
    GivesTo (cxOf CX0 P w K mg base N qual scope f cd A outer s H E).nox ["_law_work", "e"] "_law_bad" (defScope s_bad) g cdg (defBody s_bad) "_law_work" q (TTb CB) :=
  bad_gives (X := (cxOf CX0 P w K mg base N qual scope f cd A outer s H E).nox) x_BadKnown XBadKnown em
/-- a lambda that stands, by its reading t -/
def Lamb (X : Cx) (k : Nat) (σ : L2.St) (f c' : Addr) (t : XK → TE) (H : Hp) : Prop :=
  ∃ (params : Arguments) (body : Expr) (scope : Scope) (dV : Value), H f = some (LamO f (X.env.qual ++ "<lambda>") params body scope (cloFrom X.env.cells scope.names []) dV c') ∧ H c' = some (CodeO c' (X.env.qual ++ "<lambda>")) ∧
    NoArgs X.prog X.w H (X.env.qual ++ "<lambda>") params body scope (cloFrom X.env.cells scope.names []) dV c' ∧ LamN X.N X.env.scope scope ∧
    ∀ (E : XK) (A : Around) (outer : List Env) (s : Shared) (H : Hp), Room k (A.deeper (LamX.lamEnv X scope s.heap.objs.size f c')) → PE (LamX.lamCx X A outer s H E scope f c') body (t E)
section
variable {X : Cx}
/-- _law_bad(x), x a lambda of X that stands, in a block of X -/
theorem pe_lbad {σ0 : L2.St} {s0 : Shared} {H0 : Hp} {scope : Scope} {ce : Env} {fp : List Addr} {k i : Nat} {a : Str} {TT : (XK → Hp → VK → Prop) → Hp → VK → Prop} {p p1 pos : Pos} (st : Stood X σ0 s0 H0 fp) (F : Fd X.K X.mg "_law_bad" s_bad)
    (hG : ∀ (g : Addr) (cdg : Value), GivesTo X ["_law_work", "e"] "_law_bad" (defScope s_bad) g cdg (defBody s_bad) "_law_work" (X.env.qual ++ "<lambda>") TT)
    (hr : Room (k + 2) X.A) (ha : (X.blk s0 H0 scope ce fp).N[i]? = some a) (hv : Vis (X.blk s0 H0 scope ce fp).env.scope a) (hg : Gl (X.blk s0 H0 scope ce fp) "_law_bad") (hd : (a == ("__debug__" : Str)) = false := by decide) (hcd : (a == ("__classdict__" : Str)) = false := by decide)
    (he : starEach [.Name a p1] (X.blk s0 H0 scope ce fp).env = (false, eval (.Name a p1) (X.blk s0 H0 scope ce fp).env) :: starEach [] (X.blk s0 H0 scope ce fp).env := by rfl) :
    PE (X.blk s0 H0 scope ce fp) (.Call (.Name "_law_bad" p) [.Name a p1] [] pos) (fun σ H Q => ∃ (f c' : Addr) (t : XK → TE), σ[i]? = some (some (.ref f)) ∧ Lamb X k σ0 f c' t H ∧ TT (fun E H' Q' => H' = H ∧ t E σ0 H' Q') H Q) := by
  obtain ⟨g, fd, F', hm⟩ := F.ex
  have hb := F'.binds (ps := ["_law_work"]) fun _ _ _ _ _ _ us hl => match us, hl with | [_], _ => rfl
  obtain ⟨oc, od, kV, doc, pm, an, cdv, ct, osl, rfl, lk, hcg⟩ := F'.ex
  refine ⟨fun pins s σ H Q I h => ?_⟩
  obtain ⟨f, c', t, hs, ⟨params, body, lsc, dV, hf, hc, hna, L, hbody⟩, ht⟩ := h
  refine wpAny_Call_Name_kw (ld_glob I hg hm ?_ (by decide))
  refine PySem.W.callWith_K (h₀ := X.base) I.ok.mod.kin F'.kp ?_ (by rfl) (by rfl)
  rw [he]
  refine Calls.spliced_cons (thn ((pe_var (pos := p1) (i := i) ha hv hd hcd).run pins _ σ H (fun v H1 => v = .ref f ∧ H1 = H) (I.tok _) ⟨.ref f, hs, rfl, rfl⟩) fun u s' hq => ?_)
  obtain ⟨v, H1, I1, r1, ev, eH⟩ := hq
  subst ev eH
  obtain rfl : u = Value.ref f := r1
  refine Calls.spliced_nil ⟨I1.kIn, ?_⟩
  obtain ⟨pns, I2⟩ := st.now I1
  have rc : codeAny (model X.prog X.w) X.A (.call (.ref g) ⟨[.ref f], []⟩) (CR C8.CX0 X.stack X.prog X.w H1 s' Q C8.E0) s' := by
    refine LamX.run_ofS (N := ["_law_work", "e"]) (ps := ["_law_work"]) (us := [.ref f]) (vs := [.ref f]) lk hcg sc_bad hr I2.env0 (hb s' [.ref f] I2.kIn rfl) (.cons rfl .nil) rfl fun hr' => ?_
    obtain ⟨t', ht', hq'⟩ := hG g cdv f c' s' H1 Q (fun E H' Q' => H' = H1 ∧ t E σ0 H' Q') (fun W pn xe E q1 q2 tk hW => ⟨fun pinsZ sZ σZ HZ QZ IZ hZ => by
      obtain ⟨z1, z2, rfl, z3⟩ := hZ
      exact (pe_actV (i := 0) I2 L tk hW hr' (fun A outer s H hr2 => hbody E A outer s H hr2) rfl (.inl rfl)).run pinsZ sZ σZ HZ QZ IZ ⟨z1, z2, hf, hna, z3⟩⟩) hc ht
    exact ⟨t', ht'.nox, hq'⟩
  refine wpAny_call (codeAny_mono rc fun r s2 hq => ?_)
  cases r with
  | error e => exact (show False from hq).elim
  | ok fl =>
    cases fl with
    | ret u => exact I1.after hq
    | next => exact False.elim hq
    | brk => exact False.elim hq
    | cont => exact False.elim hq
end
end Cu

namespace Cu
open PySem PySem.Spec PyProof.Rows L2
/-! k90's story: each key twice -/
def ad5 (k : Nat) : Ch := ⟨k, false, 5⟩
def cs1 (m : Nat) : List Ch := (List.range m).map fun k => (⟨k, false, 1 + (k : Int)⟩ : Ch)
theorem cs1_len (m : Nat) : (cs1 m).length = m := by simp [cs1]
theorem cs1_succ (m : Nat) : cs1 (m + 1) = cs1 m ++ [⟨m, false, 1 + (m : Int)⟩] := by
  unfold cs1
  rw [List.range_succ, List.map_append]
  rfl
theorem cs1_lof {m k : Nat} (h : k < m) : lof (cs1 m) k = k + 1 := by
  induction m with
  | zero => omega
  | succ m ih =>
    rw [cs1_succ, lof_snoc, cs1_len]
    split
    · rename_i e
      have e : m = k := e
      omega
    · rename_i e
      have e : ¬ m = k := e
      exact ih (by omega)
def cs2 (nk : Nat) (π : List Nat) : List Ch := cs1 nk ++ π.map ad5
theorem cs2_nil (nk : Nat) : cs2 nk [] = cs1 nk := List.append_nil _
theorem cs2_snoc (nk : Nat) (π : List Nat) (k : Nat) : cs2 nk (π ++ [k]) = cs2 nk π ++ [ad5 k] := by
  unfold cs2
  rw [List.map_append, ← List.append_assoc]
  rfl
theorem cs2_len (nk : Nat) (π : List Nat) : (cs2 nk π).length = nk + π.length := by
  unfold cs2
  rw [List.length_append, cs1_len, List.length_map]
theorem nat_snoc {p : List Nat → Prop} (h0 : p []) (h1 : ∀ l a, p l → p (l ++ [a])) (l : List Nat) : p l := by
  rw [← List.reverse_reverse l]
  induction l.reverse with
  | nil => exact h0
  | cons a l ih =>
    rw [List.reverse_cons]
    exact h1 _ _ ih
theorem cs2_lof_not {nk k : Nat} {π : List Nat} (h : k ∉ π) (hk : k < nk) : lof (cs2 nk π) k = k + 1 := by
  induction π using nat_snoc with
  | h0 => rw [cs2_nil, cs1_lof hk]
  | h1 l a ih =>
    rw [cs2_snoc, lof_snoc, if_neg fun e => h (by
      have e : a = k := e
      subst e
      simp)]
    exact ih fun z => h (List.mem_append_left _ z)
theorem cs2_lof_new {nk k : Nat} {π : List Nat} : lof (cs2 nk (π ++ [k])) k = nk + π.length + 1 := by
  rw [cs2_snoc, lof_snoc, if_pos (show (ad5 k).key = k from rfl), cs2_len]
theorem cs2_lof_old {nk k a : Nat} {π : List Nat} (h : a ≠ k) : lof (cs2 nk (π ++ [a])) k = lof (cs2 nk π) k := by
  rw [cs2_snoc, lof_snoc, if_neg (show ¬ (ad5 a).key = k from h)]
theorem cs2_lof_at {nk j k : Nat} {π : List Nat} (nd : π.Nodup) (e : π[j]? = some k) : lof (cs2 nk π) k = nk + j + 1 := by
  induction π using nat_snoc with
  | h0 => simp at e
  | h1 l a ih =>
    have hj := (List.getElem?_eq_some_iff.mp e).1
    rw [List.length_append, List.length_singleton] at hj
    by_cases hl : j = l.length
    · subst hl
      rw [List.getElem?_append_right (Nat.le_refl _), Nat.sub_self] at e
      have e : a = k := Option.some.inj e
      subst e
      rw [cs2_lof_new]
    · rw [List.getElem?_append_left (by omega)] at e
      have hm := List.mem_of_getElem? e
      rw [cs2_lof_old fun z => by
        subst z
        exact (List.nodup_append.mp nd).2.2 a hm a (by simp) rfl]
      exact ih (List.nodup_append.mp nd).1 e
/-- the letter of the j-th change behind the part -/
def lt5 (nk j k : Nat) : Letter := .change (nk + j + 1) (ad5 k) (k + 1)
/-- a dict of numbers by key -/
def Nkv (f : Nat → Int) (S : List Nat) : List (Key × V) := S.map fun (j : Nat) => (Sum.inl (j : Int), V.int (f j))
theorem Nkv_get {f : Nat → Int} {k : Nat} : ∀ {S : List Nat}, valV (Nkv f S) (Sum.inl (k : Int)) = if k ∈ S then some (V.int (f k)) else none
  | [] => rfl
  | j :: S => by
    show valV ((Sum.inl (j : Int), V.int (f j)) :: Nkv f S) _ = _
    by_cases h : j = k
    · subst h
      rw [valV_pos rfl, if_pos List.mem_cons_self]
    · rw [valV_neg (by show ¬ (Sum.inl (j : Int) : Key) = Sum.inl (k : Int); intro q; injection q with q; omega), Nkv_get (S := S)]
      by_cases q : k ∈ S
      · rw [if_pos q, if_pos (List.mem_cons_of_mem _ q)]
      · rw [if_neg q, if_neg fun z => (List.mem_cons.mp z).elim (fun z => h z.symm) q]
theorem Nkv_put {f g : Nat → Int} {k : Nat} {S : List Nat} (h : ¬ k ∈ S) (hg : ∀ j ∈ S, g j = f j) : putK (Nkv f S) (Sum.inl (k : Int)) (V.int (g k)) = Nkv g (S ++ [k]) := by
  unfold putK
  rw [valV_any, Nkv_get, if_neg h]
  show Nkv f S ++ _ = _
  unfold Nkv
  rw [List.map_append]
  congr 1
  apply List.map_congr_left
  intro j hj
  rw [hg j hj]
/-- the hearer behind some of the letters, told from the end -/
def as5 (nk : Nat) (π : List Nat) (k : Nat) : HK := { HK.ini with aside := [⟨lof (cs2 nk π) k, 5, k + 1⟩] }
def hA (nk : Nat) (π : List Nat) (i : Nat) : List HK := (List.range nk).map fun k => if k ∈ π.drop (π.length - i) then as5 nk π k else HK.ini
theorem hA_zero (nk : Nat) (π : List Nat) : hA nk π 0 = List.replicate nk HK.ini := by
  unfold hA
  rw [Nat.sub_zero, List.drop_length]
  apply List.ext_getElem?
  intro j
  rw [List.getElem?_map, List.getElem?_replicate]
  by_cases hj : j < nk
  · rw [List.getElem?_range hj, if_pos hj]
    simp
  · rw [if_neg hj, List.getElem?_eq_none (by simpa using hj)]
    rfl
theorem hA_get {nk i k : Nat} {π : List Nat} {h : HK} (e : (hA nk π i)[k]? = some h) : k < nk ∧ h = if k ∈ π.drop (π.length - i) then as5 nk π k else HK.ini := by
  have hk := (List.getElem?_eq_some_iff.mp e).1
  unfold hA at e hk
  rw [List.length_map, List.length_range] at hk
  rw [List.getElem?_map, List.getElem?_range hk] at e
  exact ⟨hk, (Option.some.inj e).symm⟩
theorem hA_len (nk i : Nat) (π : List Nat) : (hA nk π i).length = nk := by simp [hA]
theorem hA_wf {nk i : Nat} {π : List Nat} : ∀ h ∈ hA nk π i, Wf h := fun h hh => by
  obtain ⟨k, ek⟩ := List.getElem?_of_mem hh
  obtain ⟨_, rfl⟩ := hA_get ek
  split
  · exact ⟨by simp [as5, asN], by simp [as5]⟩
  · exact ⟨List.nodup_nil, by simp [HK.ini]⟩
theorem hA_step {nk i k : Nat} {π : List Nat} (nd : π.Nodup) (hi : i < π.length) (ek : π[π.length - 1 - i]? = some k) : hear (hA nk π i) (lt5 nk (π.length - 1 - i) k) = hA nk π (i + 1) ∧ heard (hA nk π i) (lt5 nk (π.length - 1 - i) k) = [] := by
  have en : nk + (π.length - 1 - i) + 1 = lof (cs2 nk π) k := (cs2_lof_at nd ek).symm
  have hlt : π.length - 1 - i < π.length := by omega
  have ed : π.drop (π.length - (i + 1)) = k :: π.drop (π.length - i) := by
    rw [show π.length - (i + 1) = π.length - 1 - i by omega, List.drop_eq_getElem_cons hlt]
    congr 1
    · rw [List.getElem?_eq_getElem hlt] at ek
      exact Option.some.inj ek
    · congr 1
      omega
  have hk : k ∉ π.drop (π.length - i) := fun z => by
    have : (π.drop (π.length - (i + 1))).Nodup := nd.sublist (List.drop_sublist _ _)
    rw [ed] at this
    exact (List.nodup_cons.mp this).1 z
  have step : ∀ j h, (hA nk π i)[j]? = some h → hearK j h (lt5 nk (π.length - 1 - i) k) = (if j ∈ π.drop (π.length - (i + 1)) then as5 nk π j else HK.ini, []) := fun j h e => by
    obtain ⟨hj, rfl⟩ := hA_get e
    unfold lt5
    simp only [hearK]
    rw [en, ed]
    by_cases hkj : k = j
    · subst hkj
      rw [if_pos (show (ad5 k).key = k from rfl), if_neg hk, if_pos List.mem_cons_self, HK.chg, if_neg (by show ¬ ((_ : Nat) : Int) ≤ -1; omega), if_pos ⟨rfl, by show (-1 : Int) < ((_ : Nat) : Int); omega⟩]
      rfl
    · rw [if_neg (show ¬ (ad5 k).key = j from hkj)]
      by_cases hm : j ∈ π.drop (π.length - i)
      · rw [if_pos hm, if_pos (List.mem_cons_of_mem _ hm)]
      · rw [if_neg hm, if_neg fun z => (List.mem_cons.mp z).elim (fun z => hkj z.symm) hm]
  constructor
  · apply List.ext_getElem?
    intro j
    rw [hear, List.getElem?_mapIdx]
    cases e : (hA nk π i)[j]? with
    | none =>
      have := List.getElem?_eq_none_iff.mp e
      rw [hA_len] at this
      rw [List.getElem?_eq_none (by rw [hA_len]; exact this)]
      rfl
    | some h =>
      obtain ⟨hj, _⟩ := hA_get e
      show some (hearK j h _).1 = _
      rw [step j h e]
      unfold hA
      rw [List.getElem?_map, List.getElem?_range hj]
      rfl
  · unfold heard
    refine flat_nil fun x hx => ?_
    obtain ⟨j, ej⟩ := List.getElem?_of_mem hx
    rw [List.getElem?_mapIdx] at ej
    cases e : (hA nk π i)[j]? with
    | none =>
      rw [e] at ej
      cases ej
    | some h =>
      rw [e] at ej
      rw [← Option.some.inj ej]
      show (hearK j h _).2 = []
      rw [step j h e]
/-- the keys, drawn -/
structure Drawn (nk : Nat) (π : List Nat) : Prop where
  nd : π.Nodup
  len : π.length = nk
  all : ∀ k, k < nk → k ∈ π
  lt : ∀ k ∈ π, k < nk
def numL (nk : Nat) (π : List Nat) : List Int := (List.range nk).map fun k => (lof (cs2 nk π) k : Int)
theorem hA_end {nk : Nat} {π : List Nat} (d : Drawn nk π) : hA nk π π.length = (List.range nk).map (as5 nk π) := by
  unfold hA
  rw [Nat.sub_self, List.drop_zero]
  apply List.map_congr_left
  intro k hk
  rw [if_pos (d.all k (List.mem_range.mp hk))]
theorem hA_held {nk : Nat} {π : List Nat} (d : Drawn nk π) : ((hA nk π π.length).map fun h => asN h.aside).flatten = numL nk π := by
  rw [hA_end d, List.map_map]
  unfold numL
  induction (List.range nk) with
  | nil => rfl
  | cons k l ih =>
    rw [List.map_cons, List.flatten_cons, ih, List.map_cons]
    rfl
theorem srt_one (n : Int) : srt [n] = [n] := by simp [srt]
/-- behind the part -/
def hB (nk : Nat) (π : List Nat) (k : Nat) : HK := (({ as5 nk π k with worth := wof (cs1 nk) k, since := k + 1, upto := nk, aside := [] } : HK).done (lof (cs2 nk π) k) false 5)
theorem hA_part {nk k : Nat} {π : List Nat} (d : Drawn nk π) (hk : k < nk) : hearK k (as5 nk π k) (partL (cs1 nk) (cs1 nk).length 0 nk) = (hB nk π k, [(lof (cs2 nk π) k : Int)]) := by
  obtain ⟨j, ej⟩ := List.getElem?_of_mem (d.all k hk)
  have hl := cs2_lof_at (nk := nk) d.nd ej
  unfold partL partRows
  simp only [hearK]
  rw [if_pos (Nat.zero_le _), Nat.sub_zero, Nat.sub_zero, List.getElem?_map, List.getElem?_range hk]
  show HK.row (as5 nk π k) (cs1 nk).length (wof ((cs1 nk).take (cs1 nk).length) (0 + k)) (lof ((cs1 nk).take (cs1 nk).length) (0 + k)) = _
  rw [List.take_length, cs1_len, Nat.zero_add, cs1_lof hk, HK.row, if_pos (by show (-1 : Int) < (nk : Int); omega)]
  unfold HK.free
  rw [show asN ({ as5 nk π k with worth := wof (cs1 nk) k, since := k + 1, upto := (nk : Int) } : HK).aside = [(lof (cs2 nk π) k : Int)] from rfl, srt_one, List.foldl_cons, List.foldl_nil]
  have hf : findA (as5 nk π k).aside (lof (cs2 nk π) k : Int) = some ⟨lof (cs2 nk π) k, 5, k + 1⟩ := by simp [findA, as5]
  have hd : dropA (as5 nk π k).aside (lof (cs2 nk π) k : Int) = [] := by simp [dropA, as5]
  unfold HK.fstep
  show (match findA (as5 nk π k).aside (lof (cs2 nk π) k : Int) with
    | none => _
    | some a => _) = _
  rw [hf]
  dsimp only
  rw [if_neg (by omega), if_pos (by omega), hd]
  rfl
theorem part_hear {nk : Nat} {π : List Nat} (d : Drawn nk π) : hear ((List.range nk).map (as5 nk π)) (partL (cs1 nk) (cs1 nk).length 0 nk) = (List.range nk).map (hB nk π) ∧ heard ((List.range nk).map (as5 nk π)) (partL (cs1 nk) (cs1 nk).length 0 nk) = numL nk π := by
  have e1 : (((List.range nk).map (as5 nk π)).mapIdx fun k h => hearK k h (partL (cs1 nk) (cs1 nk).length 0 nk)) = (List.range nk).map fun k => (hB nk π k, [(lof (cs2 nk π) k : Int)]) := by
    apply List.ext_getElem?
    intro j
    rw [List.getElem?_mapIdx, List.getElem?_map, List.getElem?_map]
    by_cases hj : j < nk
    · rw [List.getElem?_range hj]
      show some (hearK j (as5 nk π j) _) = _
      rw [hA_part d hj]
      rfl
    · rw [List.getElem?_eq_none (by simpa using hj)]
      rfl
  constructor
  · have : hear ((List.range nk).map (as5 nk π)) (partL (cs1 nk) (cs1 nk).length 0 nk) = (((List.range nk).map (as5 nk π)).mapIdx fun k h => hearK k h (partL (cs1 nk) (cs1 nk).length 0 nk)).map (·.1) := by
      unfold hear
      apply List.ext_getElem?
      intro j
      rw [List.getElem?_map, List.getElem?_mapIdx, List.getElem?_mapIdx, Option.map_map]
      rfl
    rw [this, e1, List.map_map]
    rfl
  · have : heard ((List.range nk).map (as5 nk π)) (partL (cs1 nk) (cs1 nk).length 0 nk) = ((((List.range nk).map (as5 nk π)).mapIdx fun k h => hearK k h (partL (cs1 nk) (cs1 nk).length 0 nk)).map (·.2)).flatten := by
      unfold heard
      congr 1
      apply List.ext_getElem?
      intro j
      rw [List.getElem?_map, List.getElem?_mapIdx, List.getElem?_mapIdx, Option.map_map]
      rfl
    rw [this, e1, List.map_map]
    unfold numL
    induction (List.range nk) with
    | nil => rfl
    | cons k l ih =>
      rw [List.map_cons, List.flatten_cons, ih, List.map_cons]
      rfl
theorem hB_ups (nk : Nat) (π : List Nat) : (((List.range nk).map (hB nk π)).map fun h => h.upto) = numL nk π := by
  rw [List.map_map]
  rfl
theorem hB_held (nk : Nat) (π : List Nat) : heldM ((List.range nk).map (hB nk π)) = [] := held_nil fun k g ek => by
  have hk := (List.getElem?_eq_some_iff.mp ek).1
  rw [List.length_map, List.length_range] at hk
  rw [List.getElem?_map, List.getElem?_range hk] at ek
  rw [← Option.some.inj ek]
  rfl
/-! what nobody can know -/
theorem badK1_ok {n k : Nat} {ns : List Int} {z : Int} (e : ns[k]? = some z) (h0 : -1 ≤ z) (h1 : z ≤ n) : badK1 n ns k = false := by
  have hk := (List.getElem?_eq_some_iff.mp e).1
  have ed : ns.getD k 0 = z := by rw [List.getD_eq_getElem?_getD, e]; rfl
  unfold badK1
  rw [ed, decide_eq_false (by omega), decide_eq_true h0, decide_eq_true h1]
  rfl
theorem badK1_bad {n k : Nat} {ns : List Int} {z : Int} (e : ns[k]? = some z) (h : ¬ (-1 ≤ z ∧ z ≤ n)) : badK1 n ns k = true := by
  have ed : ns.getD k 0 = z := by rw [List.getD_eq_getElem?_getD, e]; rfl
  unfold badK1
  rw [ed]
  by_cases h0 : -1 ≤ z
  · rw [decide_eq_true h0, decide_eq_false fun q => h ⟨h0, q⟩]
    simp
  · rw [decide_eq_false h0]
    simp
theorem badK1_end {n k : Nat} {ns : List Int} (h : ns.length ≤ k) : badK1 n ns k = true := by
  unfold badK1
  rw [decide_eq_true h, Bool.true_or]
/-- numbers that can be known -/
structure GoodN (nk n : Nat) (ns : List Int) : Prop where
  len : ns.length = nk
  all : ∀ z ∈ ns, -1 ≤ z ∧ z ≤ n
section
variable {nk n o : Nat} {ns : List Int}
theorem GoodN.at_ (g : GoodN nk n ns) {j : Nat} (h : j < nk) : ∃ z, ns[j]? = some z ∧ -1 ≤ z ∧ z ≤ n := by
  have hj : j < ns.length := by rw [g.len]; exact h
  exact ⟨_, List.getElem?_eq_getElem hj, g.all _ (List.getElem_mem hj)⟩
theorem GoodN.none (g : GoodN nk n ns) : badN nk n ns = none := by
  rw [badN_end fun j hj => let ⟨z, e, h0, h1⟩ := g.at_ hj; badK1_ok e h0 h1, if_neg (by rw [g.len]; omega)]
theorem GoodN.put (g : GoodN nk n ns) (ho : o < nk) {z : Int} (hz : ¬ (-1 ≤ z ∧ z ≤ n)) : badN nk n (ns.take o ++ [z] ++ ns.drop (o + 1)) = some o := by
  have hl := g.len
  have et : (ns.take o).length = o := by rw [List.length_take]; omega
  refine badN_at ho (fun j hj => ?_) (badK1_bad (z := z) ?_ hz)
  · obtain ⟨y, e, h0, h1⟩ := g.at_ (show j < nk by omega)
    refine badK1_ok (z := y) ?_ h0 h1
    rw [List.append_assoc, List.getElem?_append_left (by omega), List.getElem?_take_of_lt hj]
    exact e
  · rw [List.append_assoc, List.getElem?_append_right (by omega), et, Nat.sub_self]
    rfl
theorem GoodN.short (g : GoodN nk n ns) (ho : o < nk) : badN nk n (ns.take o) = some o := by
  have hl := g.len
  refine badN_at ho (fun j hj => ?_) (badK1_end (by rw [List.length_take]; omega))
  obtain ⟨y, e, h0, h1⟩ := g.at_ (show j < nk by omega)
  refine badK1_ok (z := y) ?_ h0 h1
  rw [List.getElem?_take_of_lt hj]
  exact e
theorem GoodN.long (g : GoodN nk n ns) (z : Int) : badN nk n (ns ++ [z]) = some nk := by
  have hl := g.len
  rw [badN_end fun j hj => ?_, if_pos (by rw [List.length_append, List.length_singleton]; omega)]
  obtain ⟨y, e, h0, h1⟩ := g.at_ hj
  refine badK1_ok (z := y) ?_ h0 h1
  rw [List.getElem?_append_left (by omega)]
  exact e
theorem GoodN.rep {z : Int} (h0 : -1 ≤ z) (h1 : z ≤ n) : GoodN nk n (List.replicate nk z) := ⟨List.length_replicate, fun y hy => by
  rw [List.eq_of_mem_replicate hy]
  exact ⟨h0, h1⟩⟩
theorem kn_bad {cs : List Ch} (k : Kn nk cs ns) : badN nk cs.length ns = none := GoodN.none ⟨k.len, k.2⟩
end
theorem sx_nat {n k : Nat} (h : k < n) : seqIndex? (k : Int) n = some k := by
  have h0 : ¬ ((k : Int) < 0) := by omega
  unfold seqIndex?
  simp [h0, h]
theorem era_map {α β : Type} (f : α → β) : ∀ (l : List α) (j : Nat), (l.map f).eraseIdx j = (l.eraseIdx j).map f
  | [], _ => rfl
  | _ :: _, 0 => rfl
  | a :: l, j + 1 => by
    show f a :: (l.map f).eraseIdx j = _
    rw [era_map f l j]
    rfl
theorem perm_2 {α : Type} {A B : List α} {x y : α} : (A ++ x :: y :: B).Perm (y :: (A ++ x :: B)) :=
  (List.Perm.append_left A (List.Perm.swap y x B)).trans List.perm_middle
theorem perm_3 {α : Type} {A B : List α} {x y z : α} : (A ++ x :: y :: z :: B).Perm (z :: (A ++ x :: y :: B)) := by
  refine (List.Perm.append_left A ?_).trans List.perm_middle
  exact ((List.Perm.swap z y B).cons x).trans (List.Perm.swap z x _)
theorem perm_L3 {α : Type} {A C : List α} {x y z t : α} : (A ++ x :: y :: z :: (C ++ [t])).Perm ([x, z] ++ (C ++ (y :: (A ++ [t])))) := by
  refine List.perm_middle.trans (List.Perm.cons x ?_)
  refine perm_2.trans (List.Perm.cons z ?_)
  refine List.perm_middle.trans ?_
  exact (List.Perm.cons y (List.perm_append_comm_assoc A C [t])).trans List.perm_middle.symm
theorem draw_perm {π L : List Nat} {k : Nat} {n : Nat} (h : (π ++ L).Perm (List.range n)) (hk : k < L.length) : ((π ++ [L[k]]) ++ L.eraseIdx k).Perm (List.range n) := by
  rw [List.append_assoc]
  refine (List.Perm.append_left π ?_).trans h
  have e : L = L.take k ++ (L[k] :: L.drop (k + 1)) := by
    rw [← List.drop_eq_getElem_cons hk, List.take_append_drop]
  rw [List.eraseIdx_eq_take_drop_succ]
  conv => rhs; rw [e]
  rw [List.singleton_append]
  exact List.perm_middle.symm
theorem rgV_keys (n : Nat) : rgV 0 (n : Int) = (List.range n).map fun k => V.int (k : Nat) := by
  unfold rgV
  rw [show ((n : Int) - 0).toNat = n by omega]
  apply List.map_congr_left
  intro k _
  rw [Int.zero_add]
theorem lts_snoc (nk : Nat) (π : List Nat) (k : Nat) : ((π ++ [k]).mapIdx (lt5 nk)).map Letter.enc = (π.mapIdx (lt5 nk)).map Letter.enc ++ [(lt5 nk π.length k).enc] := by
  rw [List.mapIdx_concat, List.map_append]
  rfl
theorem Drawn.of {nk : Nat} {π L : List Nat} (h : (π ++ L).Perm (List.range nk)) (hl : π.length = nk) : Drawn nk π := by
  have h1 := h.length_eq
  rw [List.length_append, List.length_range] at h1
  have : L = [] := List.eq_nil_of_length_eq_zero (by omega)
  subst this
  rw [List.append_nil] at h
  exact ⟨h.nodup_iff.mpr List.nodup_range, hl, fun k hk => h.mem_iff.mpr (List.mem_range.mpr hk), fun k hk => List.mem_range.mp (h.mem_iff.mp hk)⟩
def dueV : Option Nat → V
  | some k => .int (k : Nat)
  | none => .non
theorem hB_flat (nk : Nat) (π : List Nat) : (((List.range nk).map (hB nk π)).map fun h => asN h.aside).flatten = [] := by
  rw [List.map_map]
  induction (List.range nk) with
  | nil => rfl
  | cons k l ih =>
    rw [List.map_cons, List.flatten_cons, ih]
    rfl
/-- a case: what is said to be known, what is due -/
def CaseOk (K : PySem.W.Frag) (H : Hp) (nk n : Nat) (x : V) : Prop := ∃ (t p : Addr) (ns : List Int), x = .ref t ∧ H t = some (.tup [.ref p, dueV (badN nk n ns)]) ∧ FzL K H p (ns.map V.int)
theorem CaseOk.mono {K : PySem.W.Frag} {H H' : Hp} {nk n : Nat} {x : V} (c : CaseOk K H nk n x) (m : Mono H H') : CaseOk K H' nk n x :=
  let ⟨t, p, ns, e, h, f⟩ := c
  ⟨t, p, ns, e, m _ _ h trivial, f.mono m⟩
section
variable {K : PySem.W.Frag} {σ : L2.St} {H : Hp} {Q : VK} {i j k nk : Nat} {te : TE} {a : Addr} {ns : List Int} {z : Int}
theorem rd_var9 (h1 : σ[i]? = some (some (.ref a))) (q : Q (.ref a) H) : tFzw (tVar i) σ H Q := rd_fzw ⟨_, h1, .inl q⟩
/-- xs[:k], from now on never changed -/
theorem rd_short9 (h1 : σ[i]? = some (some (.ref a))) (h2 : σ[j]? = some (some (.int k))) (f : FzL K H a (ns.map V.int)) (hk : k < ns.length) (q : ∀ p H', Grow H H' → FzL K H' p ((ns.take k).map V.int) → Q (.ref p) H') :
    tFz (tSl (rSlL K) (tFzw (tVar i)) tNoPart (tPart (tVar j))) σ H Q := by
  refine rd_fz ?_
  refine rd_var9 h1 ⟨_, h2, _, rfl, a, _, rfl, f.sq, fun p1 hp1 => ⟨_, _, rfl, upd_same, fun o => ?_⟩⟩
  rw [cutV_to (by rw [List.length_map]; omega), ← List.map_take]
  exact q _ _ ((Grow.refl H).nfz hp1) FzL.frz
/-- xs[:k] + [z] + xs[k + 1:], from now on never changed -/
theorem rd_cut9 (h1 : σ[i]? = some (some (.ref a))) (h2 : σ[j]? = some (some (.int k))) (f : FzL K H a (ns.map V.int)) (hk : k < ns.length) (hl : ns.length ≤ 1000) (he : ∀ (H1 : Hp) (Q1 : VK), Q1 (.int z) H1 → te σ H1 Q1)
    (q : ∀ p H', Grow H H' → FzL K H' p ((ns.take k ++ [z] ++ ns.drop (k + 1)).map V.int) → Q (.ref p) H') :
    tFz (tOp rCat (tOp rCat (tSl (rSlL K) (tFzw (tVar i)) tNoPart (tPart (tVar j))) (tLst (tCons te tNil))) (tSl (rSlL K) (tFzw (tVar i)) (tPart (tOp (rI0 fun i j => .int (i + j)) (tVar j) (tC (.int 1)))) tNoPart)) σ H Q := by
  have hk' : k < (ns.map V.int).length := by rw [List.length_map]; exact hk
  have hl' : (ns.map V.int).length ≤ 1000 := by rw [List.length_map]; exact hl
  have z1 : 1000 ≤ sizeLine := by decide
  refine rd_fz ?_
  refine rd_var9 h1 ⟨_, h2, _, rfl, a, _, rfl, f.sq, fun p1 hp1 => he _ _ ⟨(by show 1 ≤ sizeLine; decide), fun p2 hp2 => ?_⟩⟩
  have n12 : p1 ≠ p2 := ne_of_none upd_same hp2
  rw [cutV_to (Nat.le_of_lt hk')] at hp2 ⊢
  refine ⟨_, _, _, _, rfl, rfl, (by rw [upd_ne n12]; exact upd_same), upd_same, ?_, fun p3 hp3 => ?_⟩
  · rw [List.length_take, Nat.min_eq_left (Nat.le_of_lt hk')]
    exact Nat.le_trans (show k + 1 ≤ 1000 by omega) z1
  have g1 := (((Grow.refl H).old (o := .lst ((ns.map V.int).take k)) hp1).old (o := .lst [.int z]) hp2).old (o := .lst ((ns.map V.int).take k ++ [.int z])) hp3
  refine rd_var9 h1 ⟨_, h2, _, _, rfl, rfl, _, rfl, a, _, rfl, (f.mono g1.mono).sq, fun p4 hp4 => ?_⟩
  have e1 : ((k : Int) + 1) = ((k + 1 : Nat) : Int) := by omega
  rw [e1, cutV_from hk']
  have n34 : p3 ≠ p4 := ne_of_none upd_same hp4
  refine ⟨_, _, _, _, rfl, rfl, (by rw [upd_ne n34]; exact upd_same), upd_same, ?_, fun p5 hp5 => ⟨_, _, rfl, upd_same, fun o => ?_⟩⟩
  · rw [List.length_append, List.length_take, List.length_drop, Nat.min_eq_left (Nat.le_of_lt hk')]
    exact Nat.le_trans (show k + 1 + _ ≤ 1000 by omega) z1
  have eq : (ns.take k ++ [z] ++ ns.drop (k + 1)).map V.int = (ns.map V.int).take k ++ [V.int z] ++ (ns.map V.int).drop (k + 1) := by
    rw [List.map_append, List.map_append, List.map_take, List.map_drop]
    rfl
  rw [← eq]
  exact q _ _ ((g1.old hp4).nfz hp5) FzL.frz
/-- xs + [z], from now on never changed -/
theorem rd_long9 (h1 : σ[i]? = some (some (.ref a))) (f : FzL K H a (ns.map V.int)) (hl : ns.length ≤ 999) (q : ∀ p H', Grow H H' → FzL K H' p ((ns ++ [z]).map V.int) → Q (.ref p) H') :
    tFz (tOp (rCatZ K) (tFzw (tVar i)) (tLst (tCons (tC (.int z)) tNil))) σ H Q := by
  refine rd_fz ?_
  refine rd_var9 h1 ⟨(by show 1 ≤ sizeLine; decide), fun p1 hp1 => ⟨a, p1, _, _, rfl, rfl, (f.mono (Mono.new hp1)).sq, SqL.of upd_same, Nat.le_trans (show _ ≤ 1000 by rw [List.length_map]; show ns.length + 1 ≤ 1000; omega) (by decide), fun p2 hp2 => ⟨_, _, rfl, upd_same, fun o => ?_⟩⟩⟩
  have eq : (ns ++ [z]).map V.int = ns.map V.int ++ [V.int z] := List.map_append
  rw [← eq]
  exact q _ _ ((Grow.new hp1).nfz hp2) FzL.frz
/-- [z] * keys, from now on never changed -/
theorem rd_rep9 (h1 : σ[i]? = some (some (.int nk))) (hk : nk ≤ 8) (he : ∀ (Q1 : VK), Q1 (.int z) H → te σ H Q1) (q : ∀ p H', Grow H H' → FzL K H' p ((List.replicate nk z).map V.int) → Q (.ref p) H') :
    tFz (tOp rRep (tLst (tCons te tNil)) (tVar i)) σ H Q := by
  refine rd_fz ?_
  refine he _ ⟨(by show 1 ≤ sizeLine; decide), fun p1 hp1 => ⟨_, h1, p1, (nk : Int), _, rfl, rfl, upd_same, by omega, by omega, ?_, fun p2 hp2 => ⟨_, _, rfl, upd_same, fun o => ?_⟩⟩⟩
  · show 1 * (nk : Int).toNat ≤ sizeLine
    rw [Nat.one_mul, Int.toNat_natCast]
    exact Nat.le_trans hk (by decide)
  · have e : (List.replicate ((nk : Int).toNat) [V.int z]).flatten = (List.replicate nk z).map V.int := by
      rw [Int.toNat_natCast, List.map_replicate]
      clear q h1 hk
      induction nk with
      | zero => rfl
      | succ n ih =>
        rw [List.replicate_succ, List.replicate_succ, List.flatten_cons, ih]
        rfl
    rw [e]
    exact q _ _ ((Grow.new hp1).nfz hp2) FzL.frz
end
def dueP : Option Nat → PyData
  | some k => .int (k : Nat)
  | none => .none
theorem ne_due {K : PySem.W.Frag} {H : Hp} {Q : VK} (o : Option Nat) (q : Q (.bl false) H) : rNeD K (dueV o) (dueV o) H Q := by
  cases o with
  | none =>
    have g : Gd 1 (dueP none) := Gd.none
    refine ⟨dueP none, dueP none, .non, .non, g.shaped, g.shaped, ?_⟩
    rw [g.refl]
    exact q
  | some k =>
    have g : Gd 1 (dueP (some k)) := Gd.int
    refine ⟨dueP (some k), dueP (some k), .int _, .int _, g.shaped, g.shaped, ?_⟩
    rw [g.refl]
    exact q
end Cu

namespace Cu
open PySem PySem.Spec PyProof.Rows L2
/-- the script's list, frozen from now on if it was not; the table stays -/
theorem rd_scr {K : PySem.W.Frag} {H : Hp} {a Pt : Addr} {i : Nat} {σ : L2.St} {xs : List V} {ps : Array Value} {Q : VK} (hv : σ[i]? = some (some (.ref a))) (hS : SqL K H a xs) (hP : H Pt = some (.tbl ps))
    (k : ∀ H0, FzL K H0 a xs → H0 Pt = some (.tbl ps) → Q (.ref a) H0) : tFzw (tVar i) σ H Q := by
  refine rd_fzw ⟨_, hv, ?_⟩
  rcases sq_fz hS with hF | hL
  · exact .inl (k H hF hP)
  · refine .inr ⟨a, xs, hL, fun o => k _ FzL.frz ?_⟩
    have : Pt ≠ a := fun z => by
      rw [z, hL] at hP
      cases hP
    rw [upd_ne this]
    exact hP
end Cu

namespace Cu
open PySem PySem.Spec PyProof.Rows L2
open LamX (CodeO ExtN Tabs)
abbrev lamQ : Str := (("law" : Str) ++ (".<locals>." : Str)) ++ ("<lambda>" : Str)
abbrev s_law : Stmt := (top 27)
theorem sc_law : FnScope ["_law_script", "_law_d", "_law_keys", "_law_board", "_law_hearer", "_law_left", "_law_key", "_law_part", "_law_letters", "_law_numbers", "_law_turn", "_law_letter", "_law_now", "_law_odd", "_law_good", "_law_cases", "_law_known", "_law_due", "_law_works", "_law_work"] ["_law_script"] (defScope s_law) := ⟨rfl, rfl, rfl, by decide +kernel, rfl, by decide +kernel, by decide +kernel⟩

abbrev nm90 : List Str := ["_law_script", "_law_d", "_law_keys", "_law_board", "_law_hearer", "_law_left", "_law_key", "_law_part", "_law_letters", "_law_numbers", "_law_turn", "_law_letter", "_law_now", "_law_odd", "_law_good", "_law_cases", "_law_known", "_law_due", "_law_works", "_law_work"]
theorem rd_cb1 {r : List V → Hp → VK → Prop} {te : TE} {σ : L2.St} {H : Hp} {Q : VK} (h : te σ H fun x H1 => r [x] H1 Q) : tCB r (tCons te tNil) σ H Q := h
/-- the numbers, key by key -/
theorem rd_nums {σ : L2.St} {H : Hp} {Q : VK} {nk : Nat} {π : List Nat} {pn : Addr} {R : Lg} (dr : Drawn nk π) (h1 : σ[2]? = some (some (.int nk))) (hk8 : nk ≤ 8) (hw : ∀ x, wipe ((wipe σ [6]).set 6 (some x)) [6] = wipe σ [6])
    (h9 : ∀ x, ((wipe σ [6]).set 6 (some x))[9]? = some (some (.ref pn))) (h6 : ∀ x, ((wipe σ [6]).set 6 (some x))[6]? = some (some x)) (hh : Has H R) (hm : (pn, HO.dK (Nkv (fun k => lof (cs2 nk π) k) π)) ∈ R)
    (q : ∀ p H', Tr H [] H' [(p, .lst ((numL nk π).map V.int))] → Q (.ref p) H') :
    tLc (iRng1 (tCons (tVar 2) tNil)) (gName 6) tYes (tDGet (tVar 9) (tVar 6)) [6] σ H Q := by
  refine ⟨_, h1, _, rfl, by omega, by omega, fun D hD => ?_⟩
  refine lc_range (lo := 0) (n := (nk : Int).toNat) (fun m H2 => Tr H [] H2 [(D, .lst (((List.range m).map fun k => (lof (cs2 nk π) k : Int)).map V.int))]) ((Tr.refl H []).new hD nl) ?_ fun H2 t => q D H2 (by rw [Int.toNat_natCast] at t; exact t)
  intro m H2 hm' t
  have ez : ((0 : Int) + m) = (m : Int) := by omega
  rw [ez]
  have hg : DGet H2 pn (.int (m : Nat)) (some (.int (lof (cs2 nk π) m : Nat))) := by
    have := DGet.k (k := Sum.inl (m : Int)) ((t.has R hh).right.mem hm)
    rw [Nkv_get, if_pos (dr.all m (by omega))] at this
    exact this
  refine ⟨hw _, _, h9 _, _, h6 _, pn, _, rfl, hg, _, t.own.head, by rw [List.length_map, List.length_map, List.length_range]; exact small1000 (by omega), ?_⟩
  rw [List.range_succ, List.map_append, List.map_append]
  exact t.put .nil nl
section
variable {P : Program} {w : World} {K : PySem.W.Frag} {mg : Str → Option Value} {base : Heap} {C CB CK CP c_law P_law : Addr}
theorem ok_law {f : Addr} {fd : FuncData} (F : Fun K "law" "law" s_law f fd) (Bm : Blt mg) (hcode : fd.code = .ref c_law) (TBl : LamX.TabB base mg c_law P_law) (CHearer : CHr K C) (CBoard : CBo K CB) (F_bad : Fd K mg "_law_bad" s_bad)
    (x_BadKnown : Xf P w K mg base 1 "BadKnown" CK ["self", "key"] (spXi CK "key")) (XBadKnown : Xc K CK "key") (sub_BadKnown : PySem.W.subIn K (.ref CK) (.ref CK) = some true)
    (g_dice : Gf P w K mg base 1 "_law_dice" ["_law_script"] (spDice K)) (g_next : Gf P w K mg base 1 "_law_next" ["_law_dice_here", "_law_many"] (spNext K)) (k_Board : Kf P w K mg base 1 "Board" CB ["self", "keys", "keep"] (spBinit K CB))
    (m_Board_number : Mf P w K mg base 1 CB "number" ["self"] (spBnumber K CB)) (m_Board_part : Mf P w K mg base 1 CB "part" ["self", "begin", "end"] (spBpart K CB))
    (m_Board_change : Mf P w K mg base 1 CB "change" ["self", "key", "word", "worth"] (spBchange K CB)) (k_Hearer : Kf P w K mg base 1 "Hearer" C ["self", "keys"] (spHinit K C)) (m_Hearer_hear : Mf P w K mg base 4 C "hear" ["self", "letter"] (spHear K C))
    (m_Hearer_held : Mf P w K mg base 1 C "held" ["self"] (spHeld K C)) (m_Hearer_known : Mf P w K mg base 1 C "known" ["self"] (spKnown K C))
    (g_answer : Gx P w K mg base 4 "answer" ["board", "known"] (spAnswerX K CB CK)) (g_prices : Gx P w K mg base 4 "prices" ["board", "known"] (spPricesX K CB CK)) (g_shows : Gx P w K mg base 4 "shows" ["board", "known", "told"] (spShowsX K CB CK CP)) :
    FnOk P w K mg base CX0 7 f fd ["_law_script"] (spLawT K P_law) := by
  refine Cu.Fun.okC F hcode sc_law len_of fun A0 outer s H vs Q E hr h => ?_
  obtain ⟨_, c, ns, rfl, hns, hS, hP, go⟩ := h
  refine ⟨_, (pss_cons (ps_set (i := 1) sc_law.nd rfl (Or.inr rfl) (pc g_dice hr (pa_cons (pe_fzw (pv 0)) pa_nil)))
      (pss_cons (ps_set (i := 2) sc_law.nd rfl (Or.inl rfl) (pe_op op_add pe_int (pc g_next hr (pa_cons (pv 1) (pa_cons pe_int pa_nil)))))
      (pss_cons (ps_asg (pe_tup (pa_cons (pk k_Board hr (pa_cons (pv 2) (pa_cons pe_int pa_nil))) (pa_cons (pk k_Hearer hr (pa_cons (pv 2) pa_nil)) (pa_cons (pe_listRg rfl rfl Bm.list (prg_1 rfl Bm.range (pv 2))) pa_nil)))) (pg_tup rfl (pgs_cons (pg_name (i := 3) sc_law.nd rfl (Or.inr rfl)) (pgs_cons (pg_name (i := 4) sc_law.nd rfl (Or.inl rfl)) (pgs_cons (pg_name (i := 5) sc_law.nd rfl (Or.inl rfl)) pgs_nil)))))
      (pss_cons (ps_for PassesOwn.never rfl (pi_range1 rfl Bm.range (pa_cons (pv 2) pa_nil)) (pg_name (i := 6) sc_law.nd rfl (Or.inl rfl))
        (pss_one (ps_expr (pm (pv 3) CBoard.cl m_Board_change hr (pa_cons (pv 6) (pa_cons pe_str (pa_cons (pe_op op_add pe_int (pv 6)) pa_nil)))))))
      (pss_cons (ps_asg (pe_tup (pa_cons (pm (pv 3) CBoard.cl m_Board_part hr (pa_cons pe_int (pa_cons (pv 2) pa_nil))) (pa_cons (pe_lst pa_nil) (pa_cons pe_dnewK pa_nil)))) (pg_tup rfl (pgs_cons (pg_name (i := 7) sc_law.nd rfl (Or.inl rfl)) (pgs_cons (pg_name (i := 8) sc_law.nd rfl (Or.inl rfl)) (pgs_cons (pg_name (i := 9) sc_law.nd rfl (Or.inr rfl)) pgs_nil)))))
      (pss_cons (ps_for PassesOwn.never rfl (pi_range1 rfl Bm.range (pa_cons (pv 2) pa_nil)) (pg_name (i := 10) sc_law.nd rfl (Or.inl rfl))
        (pss_cons (ps_set (i := 6) sc_law.nd rfl (Or.inl rfl) (pe_bm PySem.F.plainAttrs_list PySem.F.slot_list_pop PySem.F.type_list_pop mt_popAt (pv 5) (pa_cons (pc g_next hr (pa_cons (pv 1) (pa_cons (pe_callB call_len_seq rfl Bm.len (by decide +kernel) (pa_cons (pv 5) pa_nil)) pa_nil))) pa_nil)))
        (pss_cons (ps_expr (pe_bm PySem.F.plainAttrs_list PySem.F.slot_list_append PySem.F.type_list_append mt_append (pv 8) (pa_cons (pm (pv 3) CBoard.cl m_Board_change hr (pa_cons (pv 6) (pa_cons pe_str (pa_cons pe_int pa_nil)))) pa_nil)))
        (pss_one (ps_dput (hu_of hr) (pv 9) (pv 6) (pm0 (pv 3) CBoard.cl m_Board_number hr) rfl)))))
      (pss_cons (ps_for PassesOwn.never rfl (pi_list (pe_fz (pe_revL (pv 8)))) (pg_name (i := 11) sc_law.nd rfl (Or.inl rfl))
        (pss_one (ps_if (pt_cmpR (op_neD hr.units) (pm (pv 4) CHearer.cl m_Hearer_hear hr (pa_cons (pv 11) pa_nil)) (pe_lst pa_nil) (nomark _))
          (pss_one (ps_ret pe_bl))
          pss_nil)))
      (pss_cons (ps_if (pt_cmpR (op_neD hr.units) (pe_fz (pm0 (pv 4) CHearer.cl m_Hearer_held hr)) (pe_callB cr_sortedI rfl Bm.sorted (by decide +kernel) (pa_cons (pe_lc (own := [("_law_key", 6)]) (g := (gName 6)) (tt := tYes) rfl sc_law.nd (pi_range1 rfl Bm.range (pa_cons (pv 2) pa_nil)) (blkOk_by (N := ["_law_script", "_law_d", "_law_keys", "_law_board", "_law_hearer", "_law_left", "_law_key", "_law_part", "_law_letters", "_law_numbers", "_law_turn", "_law_letter", "_law_now", "_law_odd", "_law_good", "_law_cases", "_law_known", "_law_due", "_law_works", "_law_work"]) (sc := defScope s_law) (by decide +kernel)) (fun _ _ _ _ _ => (pg_name (i := 6) sc_law.nd rfl (Or.inl rfl))) (fun _ _ _ _ _ => pts_nil) (fun _ _ _ _ _ => (pe_dget (hu_of hr) (pv 9) (pv 6) (fun _ _ => rfl)))) pa_nil)) (nomark _))
        (pss_one (ps_ret pe_bl))
        pss_nil)
      (pss_cons (ps_if (PW.pt (pw_or (pt_cmpR (op_neD hr.units) (pm (pv 4) CHearer.cl m_Hearer_hear hr (pa_cons (pv 7) pa_nil)) (pe_lc (own := [("_law_key", 6)]) (g := (gName 6)) (tt := tYes) rfl sc_law.nd (pi_range1 rfl Bm.range (pa_cons (pv 2) pa_nil)) (blkOk_by (N := ["_law_script", "_law_d", "_law_keys", "_law_board", "_law_hearer", "_law_left", "_law_key", "_law_part", "_law_letters", "_law_numbers", "_law_turn", "_law_letter", "_law_now", "_law_odd", "_law_good", "_law_cases", "_law_known", "_law_due", "_law_works", "_law_work"]) (sc := defScope s_law) (by decide +kernel)) (fun _ _ _ _ _ => (pg_name (i := 6) sc_law.nd rfl (Or.inl rfl))) (fun _ _ _ _ _ => pts_nil) (fun _ _ _ _ _ => (pe_dget (hu_of hr) (pv 9) (pv 6) (fun _ _ => rfl)))) (nomark _)) (pw_or1 (pt_cmpR (op_neD hr.units) (pe_fz (pm0 (pv 4) CHearer.cl m_Hearer_held hr)) (pe_lst pa_nil) (nomark _)))))
        (pss_one (ps_ret pe_bl))
        pss_nil)
      (pss_cons (ps_if (pt_cmpR (op_neD hr.units) (pe_fz (pm0 (pv 4) CHearer.cl m_Hearer_known hr)) (pe_lc (own := [("_law_key", 6)]) (g := (gName 6)) (tt := tYes) rfl sc_law.nd (pi_range1 rfl Bm.range (pa_cons (pv 2) pa_nil)) (blkOk_by (N := ["_law_script", "_law_d", "_law_keys", "_law_board", "_law_hearer", "_law_left", "_law_key", "_law_part", "_law_letters", "_law_numbers", "_law_turn", "_law_letter", "_law_now", "_law_odd", "_law_good", "_law_cases", "_law_known", "_law_due", "_law_works", "_law_work"]) (sc := defScope s_law) (by decide +kernel)) (fun _ _ _ _ _ => (pg_name (i := 6) sc_law.nd rfl (Or.inl rfl))) (fun _ _ _ _ _ => pts_nil) (fun _ _ _ _ _ => (pe_dget (hu_of hr) (pv 9) (pv 6) (fun _ _ => rfl)))) (nomark _))
        (pss_one (ps_ret pe_bl))
        pss_nil)
      (pss_cons (ps_asg (pe_tup (pa_cons (pm0 (pv 3) CBoard.cl m_Board_number hr) (pa_cons (pc g_next hr (pa_cons (pv 1) (pa_cons (pv 2) pa_nil))) pa_nil))) (pg_tup rfl (pgs_cons (pg_name (i := 12) sc_law.nd rfl (Or.inr rfl)) (pgs_cons (pg_name (i := 13) sc_law.nd rfl (Or.inl rfl)) pgs_nil))))
      (pss_cons (ps_setLc (i := 14) (own := [("_law_key", 6)]) (g := (gName 6)) (tt := tYes) rfl sc_law.nd rfl rfl (sw_true rfl rfl rfl (by decide +kernel)) (pi_range1 rfl Bm.range (pa_cons (pv 2) pa_nil)) (blkOk_by (N := ["_law_script", "_law_d", "_law_keys", "_law_board", "_law_hearer", "_law_left", "_law_key", "_law_part", "_law_letters", "_law_numbers", "_law_turn", "_law_letter", "_law_now", "_law_odd", "_law_good", "_law_cases", "_law_known", "_law_due", "_law_works", "_law_work"]) (sc := defScope s_law) (by decide +kernel)) (fun _ _ _ _ _ => (pg_name (i := 6) sc_law.nd rfl (Or.inl rfl))) (fun _ _ _ _ _ => pts_nil) (fun _ _ _ _ _ => (pe_op op_sub (pc g_next hr (pa_cons (pv 1) (pa_cons (pe_op op_add (pv 12) pe_int) pa_nil))) pe_int)))
      (pss_cons (ps_set (i := 15) sc_law.nd rfl (Or.inl rfl) (pe_lst (pa_cons (pe_tup (pa_cons (pe_fzw (pv 14)) (pa_cons pe_non pa_nil))) (pa_cons (pe_tup (pa_cons (pe_fz (pe_op op_cat (pe_op op_cat (pe_slice sl_list (pe_fzw (pv 14)) po_none (po_some (pv 13))) (pe_lst (pa_cons (pe_op op_add (pv 12) pe_int) pa_nil))) (pe_slice sl_list (pe_fzw (pv 14)) (po_some (pe_op op_add (pv 13) pe_int)) po_none))) (pa_cons (pv 13) pa_nil))) (pa_cons (pe_tup (pa_cons (pe_fz (pe_op op_cat (pe_op op_cat (pe_slice sl_list (pe_fzw (pv 14)) po_none (po_some (pv 13))) (pe_lst (pa_cons (pe_un un_neg pe_int) pa_nil))) (pe_slice sl_list (pe_fzw (pv 14)) (po_some (pe_op op_add (pv 13) pe_int)) po_none))) (pa_cons (pv 13) pa_nil))) pa_nil)))))
      (pss_cons (ps_set (i := 15) sc_law.nd rfl (Or.inl rfl) (pe_fz (pe_op op_cat (pv 15) (pe_lst (pa_cons (pe_tup (pa_cons (pe_fz (pe_slice sl_list (pe_fzw (pv 14)) po_none (po_some (pv 13)))) (pa_cons (pv 13) pa_nil))) (pa_cons (pe_tup (pa_cons (pe_fz (pe_op op_catZ (pe_fzw (pv 14)) (pe_lst (pa_cons pe_int pa_nil)))) (pa_cons (pv 2) pa_nil))) (pa_cons (pe_tup (pa_cons (pe_fz (pe_op op_rep (pe_lst (pa_cons (pv 12) pa_nil)) (pv 2))) (pa_cons pe_non pa_nil))) (pa_cons (pe_tup (pa_cons (pe_fz (pe_op op_rep (pe_lst (pa_cons (pe_un un_neg pe_int) pa_nil)) (pv 2))) (pa_cons pe_non pa_nil))) pa_nil))))))))
      (pss_cons (ps_for PassesOwn.never rfl (pi_list (pv 15)) (pg_tup rfl (pgs_cons (pg_name (i := 16) sc_law.nd rfl (Or.inr rfl)) (pgs_cons (pg_name (i := 17) sc_law.nd rfl (Or.inr rfl)) pgs_nil)))
        (pss_cons (ps_set (i := 18) sc_law.nd rfl (Or.inl rfl) (pe_lst (pa_cons (pe_lamv TBl rfl rfl (lamN_by (N := ["_law_script", "_law_d", "_law_keys", "_law_board", "_law_hearer", "_law_left", "_law_key", "_law_part", "_law_letters", "_law_numbers", "_law_turn", "_law_letter", "_law_now", "_law_odd", "_law_good", "_law_cases", "_law_known", "_law_due", "_law_works", "_law_work"]) (sc := defScope s_law) (by decide +kernel)).free) (pa_cons (pe_lamd TBl rfl rfl rfl (lamN_by (N := ["_law_script", "_law_d", "_law_keys", "_law_board", "_law_hearer", "_law_left", "_law_key", "_law_part", "_law_letters", "_law_numbers", "_law_turn", "_law_letter", "_law_now", "_law_odd", "_law_good", "_law_cases", "_law_known", "_law_due", "_law_works", "_law_work"]) (sc := defScope s_law) (by decide +kernel)).free) (pa_cons (pe_lamd TBl rfl rfl rfl (lamN_by (N := ["_law_script", "_law_d", "_law_keys", "_law_board", "_law_hearer", "_law_left", "_law_key", "_law_part", "_law_letters", "_law_numbers", "_law_turn", "_law_letter", "_law_now", "_law_odd", "_law_good", "_law_cases", "_law_known", "_law_due", "_law_works", "_law_work"]) (sc := defScope s_law) (by decide +kernel)).free) pa_nil)))))
        (pss_cons (ps_mid (ps_if (pt_cmpR op_isN (pv 17) pe_non (nomark _))
          (pss_one (ps_set (i := 18) sc_law.nd rfl (Or.inl rfl) (pe_slice sl_list (pv 18) po_none (po_some pe_int))))
          pss_nil))
        (pss_one (ps_if (pt_cmpR (op_neD hr.units) (pe_lcin (own := [("_law_work", 19)]) (g := (gName 19)) rfl sc_law.nd (pi_list (pv 18)) (blkOk_by (N := ["_law_script", "_law_d", "_law_keys", "_law_board", "_law_hearer", "_law_left", "_law_key", "_law_part", "_law_letters", "_law_numbers", "_law_turn", "_law_letter", "_law_now", "_law_odd", "_law_good", "_law_cases", "_law_known", "_law_due", "_law_works", "_law_work"]) (sc := defScope s_law) (by decide +kernel)) (fun _ _ _ _ _ => (pg_name (i := 19) sc_law.nd rfl (Or.inl rfl))) (fun _ _ _ _ _ _ st => (pts_one (pt_cmpR (op_neDK K rfl hr.units) (pe_lbad (i := 19) (k := 4) (TT := TTb CK) st F_bad (fun _ _ => bad_cx ⟨x_BadKnown.gC⟩ XBadKnown (exm_key XBadKnown sub_BadKnown)) (hr.mono (by decide)) rfl (.inl rfl) rfl) (pv 17) (nomark _)))) (fun _ _ _ _ _ => (pv 19))) (pe_lst pa_nil) (nomark _))
          (pss_one (ps_ret pe_bl))
          pss_nil)))))
      (pss_one (ps_ret pe_bl))))))))))))))))), ?_⟩
  have z0 : 0 ≤ sizeLine := by decide
  refine rd_scr rfl hS hP fun H0 fc hP0 => ?_
  refine ⟨rfl, c, ns, [(P_law, .tbl #[])], rfl, by omega, fc, Has.one hP0 ntbl, fun a H1 m1 d1 => ?_⟩
  refine ⟨_, rfl, rfl, a, 8, _, rfl, by decide, by decide, d1, fun r2 H2 p2 q2 m2 d2 => ⟨_, _, rfl, rfl, ?_⟩⟩
  obtain ⟨nk, enk, hk, hk8⟩ : ∃ nk : Nat, (1 : Int) + r2 = nk ∧ 0 < nk ∧ nk ≤ 8 := ⟨(1 + r2).toNat, by omega, by omega, by omega⟩
  show gName 2 (V.int (1 + r2)) _ _ _
  rw [enk]
  refine ⟨_, rfl, fun x1 dx1 hx1 hd1 hn1 => ?_⟩
  have t3 := mk_tr (C := CB) hx1 hd1 hn1
  refine ⟨rfl, x1, dx1, nk, 20, rfl, hk, hk8, by decide, upd_same, fun B bc H3 e1 R3 u3 => ⟨rfl, ?_⟩⟩
  subst e1
  have t4 := t3.trans u3
  have d3 := Dice.tr (C := []) d2 t4
  refine ⟨_, rfl, fun x2 dx2 hx2 hd2 hn2 => ?_⟩
  have t5 := mk_tr (C := C) hx2 hd2 hn2
  refine ⟨rfl, x2, dx2, nk, rfl, hk, hk8, upd_same, fun A hc H4 e2 HR4 u4 => ⟨rfl, ?_⟩⟩
  subst e2
  have t6 := t5.trans u4
  have d4 := Dice.tr (C := []) d3 t6
  have R4 := R3.mono t6.mono
  refine ⟨_, rfl, _, rfl, RgOk.of_le (by omega) (by omega) (by omega) (by omega), fun pl hpl => ?_⟩
  have d5 := d4.new (o := .lst (rgV 0 nk)) hpl nl
  refine ⟨(by show 3 ≤ sizeLine; decide), fun tt htt => ⟨tt, _, rfl, SqT.of upd_same, rfl, _, _, rfl, _, _, rfl, _, _, rfl, rfl, ?_⟩⟩
  have d6 := d5.old (o := .tup [V.ref B.p, .ref A.p, .ref pl]) htt
  have m6 := (Mono.new (o := .lst (rgV 0 nk)) hpl).trans (Mono.new (o := .tup [V.ref B.p, .ref A.p, .ref pl]) htt)
  have R6 := R4.mono m6
  have HR6 := HR4.mono m6
  generalize upd (upd H4 pl (.lst (rgV 0 nk))) tt (.tup [V.ref B.p, .ref A.p, .ref pl]) = H6 at *
  have d6 : Dice K H6 a (bc ++ ((pl, .lst (rgV 0 nk)) :: (hc ++ [(P_law, .tbl #[])]))) := d6.perm (by
    refine (List.Perm.cons _ (List.perm_append_comm_assoc _ _ _)).trans List.perm_middle.symm)
  -- the first changes
  refine ⟨_, rfl, _, rfl, by omega, by omega, for_range (lo := 0) (n := (nk : Int).toNat) (fun i σ H => ∃ (bc : Lg) (v6 : Option V), σ = [some (.ref c), some (.ref a), some (.int nk), some (.ref B.p), some (.ref A.p), some (.ref pl), v6, none, none, none, none, none, none, none, none, none, none, none, none, none] ∧
      Dice K H a (bc ++ ((pl, .lst (rgV 0 nk)) :: (hc ++ [(P_law, .tbl #[])]))) ∧ BR K CB B nk 20 (cs1 i) H bc ∧ HR K C A (List.replicate nk HK.ini) H hc)
    ⟨bc, none, rfl, d6, R6, HR6⟩ ?_ ?_⟩
  · rintro i σ H7 hi ⟨bc, v6, rfl, d7, R7, HR7⟩
    have ez : ((0 : Int) + i) = (i : Int) := by omega
    rw [ez]
    refine ⟨_, rfl, B.p, _, _, rfl, R7.at_p d7.has.left, bFno, _, rfl, _, rfl, _, _, rfl, rfl, rfl, B, nk, 20, cs1 i, bc, ⟨i, false, 1 + (i : Int)⟩, rfl, R7, d7.has.left, by show i < nk; omega, hk8, by decide, fun v8 bc' H8 R8 t8 _ => ?_⟩
    exact ⟨bc', _, rfl, Dice.tr d7 t8, by rw [cs1_succ]; exact R8, HR7.mono t8.mono⟩
  rintro σ H7 ⟨bc, v6, rfl, d7, R7, HR7⟩
  rw [Int.toNat_natCast] at R7
  -- the part; the changes behind it
  refine ⟨_, rfl, B.p, _, _, rfl, R7.at_p d7.has.left, bFno, _, rfl, rfl, B, nk, 20, cs1 nk, bc, 0, nk, rfl, R7, d7.has.left, hk, Nat.le_refl _, hk8, fun vp H8 g8 rp8 => ⟨z0, fun pq hpq => fun pn hpn => ⟨(by show 3 ≤ sizeLine; decide), fun tt htt => ⟨tt, _, rfl, SqT.of upd_same, rfl, _, _, rfl, _, _, rfl, _, _, rfl, rfl, ?_⟩⟩⟩⟩
  have d8 := d7.grow g8
  have d9 := ((d8.new (o := .lst []) hpq nl).new (o := .dK []) hpn ndk).old (o := .tup [vp, .ref pq, .ref pn]) htt
  have m9 := ((Mono.new (o := .lst []) hpq).trans (Mono.new (o := .dK []) hpn)).trans (Mono.new (o := .tup [vp, .ref pq, .ref pn]) htt)
  have R9 := (R7.mono g8.mono).mono m9
  have HR9 := (HR7.mono g8.mono).mono m9
  have rp9 := rp8.mono m9
  generalize upd (upd (upd H8 pq (.lst [])) pn (.dK [])) tt (.tup [vp, .ref pq, .ref pn]) = H9 at *
  have d9 : Dice K H9 a (bc ++ ((pl, .lst (rgV 0 nk)) :: (pn, .dK []) :: (pq, .lst []) :: (hc ++ [(P_law, .tbl #[])]))) := d9.perm (by
    refine (List.perm_append_comm_assoc [(pn, HO.dK []), (pq, .lst [])] bc _).trans (List.Perm.append_left bc ?_)
    exact List.perm_append_comm_assoc [(pn, HO.dK []), (pq, .lst [])] [(pl, .lst (rgV 0 nk))] _)
  rw [rgV_keys] at d9
  refine ⟨_, rfl, _, rfl, by omega, by omega, for_range (lo := 0) (n := (nk : Int).toNat) (fun i σ H => ∃ (bc : Lg) (π L : List Nat) (xs : List V) (v6 v10 : Option V), σ = [some (.ref c), some (.ref a), some (.int nk), some (.ref B.p), some (.ref A.p), some (.ref pl), v6, some vp, some (.ref pq), some (.ref pn), v10, none, none, none, none, none, none, none, none, none] ∧
      Dice K H a (bc ++ ((pl, .lst (L.map fun k => V.int (k : Nat))) :: (pn, .dK (Nkv (fun k => lof (cs2 nk π) k) π)) :: (pq, .lst xs) :: (hc ++ [(P_law, .tbl #[])]))) ∧ BR K CB B nk 20 (cs2 nk π) H bc ∧ HR K C A (List.replicate nk HK.ini) H hc ∧ Rp K H (partL (cs1 nk) (cs1 nk).length 0 nk).enc vp ∧
      RpL K H ((π.mapIdx (lt5 nk)).map Letter.enc) xs ∧ π.length = i ∧ (π ++ L).Perm (List.range nk))
    ⟨bc, [], List.range nk, [], _, none, rfl, d9, by rw [cs2_nil]; exact R9, HR9, rp9, .nil, rfl, List.Perm.refl _⟩ ?_ ?_⟩
  · rintro i σ H10 hi ⟨bc, π, L, xs, v6, v10, rfl, d10, R10, HR10, rp10, rx10, hπ, hp⟩
    have hL : L.length = nk - i := by
      have h1 := hp.length_eq
      rw [List.length_append, List.length_range] at h1
      omega
    -- key = left.pop(..)
    have dl := d10.perm List.perm_middle
    refine ⟨_, rfl, .inl ⟨rfl, _, SqL.of dl.at_⟩, _, rfl, _, rfl, pl, _, rfl, .inl (SqL.of dl.at_), rfl, a, ((L.map fun k => V.int (k : Nat)).length : Nat), _, rfl, by rw [List.length_map]; omega, by rw [List.length_map]; omega, dl, fun r11 H11 p11 q11 m11 d11 => ?_⟩
    rw [List.length_map] at q11
    obtain ⟨j, rfl, hj⟩ : ∃ j : Nat, r11 = j ∧ j < L.length := ⟨r11.toNat, by omega, by omega⟩
    refine ⟨pl, _, j, j, .int (L[j] : Nat), rfl, rfl, d11.at_, by omega, by omega, sx_nat (by rw [List.length_map]; exact hj), by rw [List.getElem?_map, List.getElem?_eq_getElem hj]; rfl, ?_⟩
    have m12 := m11.trans (d11.mput (o' := .lst ((L.map fun k => V.int (k : Nat)).eraseIdx j)))
    have d12 := (d11.put (o' := .lst ((L.map fun k => V.int (k : Nat)).eraseIdx j)) nl).perm List.perm_middle.symm
    rw [era_map] at m12 d12
    have hp' := draw_perm hp hj
    obtain ⟨key, ekey⟩ : ∃ key, L[j] = key := ⟨_, rfl⟩
    rw [ekey] at hp' ⊢
    have hkey : key < nk := List.mem_range.mp (hp'.mem_iff.mp (by simp))
    have hnk : key ∉ π := fun z => by
      have := hp'.nodup_iff.mpr List.nodup_range
      exact (List.nodup_append.mp (List.nodup_append.mp this).1).2.2 key z key (by simp) rfl
    have R12 := R10.mono m12
    rw [era_map]
    generalize (upd H11 pl (.lst ((L.eraseIdx j).map fun k => V.int (k : Nat)))) = H12 at *
    have hx : xs.length ≤ 8 := by
      rw [rx10.length, List.length_map, List.length_mapIdx]
      omega
    refine ⟨_, rfl, .inl ⟨rfl, _, SqL.of (d12.has.right.tail.tail.head)⟩, _, rfl, B.p, _, _, rfl, R12.at_p d12.has.left, bFno, _, rfl, rfl, B, nk, 20, cs2 nk π, bc, ad5 key, rfl, R12, d12.has.left, hkey, hk8, by decide, fun v13 bc' H13 R13 t13 r13 => ?_⟩
    have d13 := Dice.tr d12 t13
    have m13 := m12.trans t13.mono
    refine ⟨pq, xs, _, rfl, rfl, d13.has.right.tail.tail.head, small1000 (by omega), ?_⟩
    have e13 : (Letter.change ((cs2 nk π).length + 1) (ad5 key) (lof (cs2 nk π) (ad5 key).key)) = lt5 nk π.length key := by
      rw [cs2_len, show lof (cs2 nk π) (ad5 key).key = key + 1 from cs2_lof_not hnk hkey]
      rfl
    rw [e13] at r13
    have d13 := d13.perm perm_3
    have d14 := d13.put (o' := .lst (xs ++ [v13])) nl
    have m14 := d13.mput (o' := .lst (xs ++ [v13]))
    have d14 := d14.perm perm_3.symm
    have R14 := R13.mono m14
    have rx14 := ((rx10.mono m13).mono m14).snoc (r13.mono m14)
    generalize (upd H13 pq (.lst (xs ++ [v13]))) = H14 at *
    refine rd_bnumber (by rfl) R14 d14.has.left ⟨_, rfl, _, rfl, pn, _, rfl, DPut.k (k := Sum.inl (key : Int)) d14.has.right.tail.head (by rw [Nkv, List.length_map]; exact small1000 (by omega)), ?_⟩
    have d14 := d14.perm perm_2
    have m15 := d14.mput (o' := .dK (putK (Nkv (fun k => lof (cs2 nk π) k) π) (Sum.inl (key : Int)) (V.int ((cs2 nk π ++ [ad5 key]).length : Nat))))
    have d15 := (d14.put (o' := .dK (putK (Nkv (fun k => lof (cs2 nk π) k) π) (Sum.inl (key : Int)) (V.int ((cs2 nk π ++ [ad5 key]).length : Nat)))) ndk).perm perm_2.symm
    have e15 : putK (Nkv (fun k => lof (cs2 nk π) k) π) (Sum.inl (key : Int)) (V.int ((cs2 nk π ++ [ad5 key]).length : Nat)) = Nkv (fun k => lof (cs2 nk (π ++ [key])) k) (π ++ [key]) := by
      have := Nkv_put (f := fun k => (lof (cs2 nk π) k : Int)) (g := fun k => (lof (cs2 nk (π ++ [key])) k : Int)) hnk fun j hj => by
        show (lof _ j : Int) = lof _ j
        rw [cs2_lof_old fun z => hnk (by rw [z]; exact hj)]
      rw [← this]
      show _ = putK _ _ (V.int (lof (cs2 nk (π ++ [key])) key : Nat))
      rw [cs2_lof_new, List.length_append, cs2_len]
      rfl
    rw [e15] at m15 d15 ⊢
    rw [← lts_snoc] at rx14
    exact ⟨bc', π ++ [key], L.eraseIdx j, xs ++ [v13], _, _, rfl, d15, by have q := R14.mono m15; rw [← cs2_snoc] at q; exact q, HR10.mono ((m13.trans m14).trans m15), rp10.mono ((m13.trans m14).trans m15), rx14.mono m15, by rw [List.length_append, hπ]; rfl, hp'⟩
  rintro σ H10 ⟨bc, π, L, xs, v6, v10, rfl, d10, R10, HR10, rp10, rx10, hπ, hp⟩
  rw [Int.toNat_natCast] at hπ
  have dr := Drawn.of hp hπ
  clear hp
  have hx : xs.length = π.length := by rw [rx10.length, List.length_map, List.length_mapIdx]
  -- the letters, from the end
  refine rd_fz ⟨_, rfl, pq, xs, rfl, SqL.of d10.has.right.tail.tail.head, fun p11 hp11 => ⟨p11, _, rfl, upd_same, fun o11 => ?_⟩⟩
  have d10 : Dice K H10 a (hc ++ ((pn, .dK (Nkv (fun k => lof (cs2 nk π) k) π)) :: (bc ++ [(P_law, .tbl #[])]))) := (d10.perm perm_L3).sub (List.sublist_append_right _ _)
  have g11 := (Grow.refl H10).nfz (xs := xs.reverse) (ob := o11) hp11
  have f11 : FzL K (upd (upd H10 p11 (.lst xs.reverse)) p11 (.frz o11 (.lst xs.reverse))) p11 xs.reverse := FzL.frz
  have d11 := d10.grow g11
  have R11 := R10.mono g11.mono
  have HR11 := HR10.mono g11.mono
  have rp11 := rp10.mono g11.mono
  have rx11 := rx10.mono g11.mono
  generalize (upd (upd H10 p11 (.lst xs.reverse)) p11 (.frz o11 (.lst xs.reverse))) = H11 at *
  rw [← hA_zero nk π] at HR11
  refine ⟨p11, rfl, ⟨_, f11.sq⟩, for_list (K := K) (a := p11) (xs := xs.reverse) (fun i σ H => ∃ (hc : Lg) (v11 : Option V), σ = [some (.ref c), some (.ref a), some (.int nk), some (.ref B.p), some (.ref A.p), some (.ref pl), v6, some vp, some (.ref pq), some (.ref pn), v10, v11, none, none, none, none, none, none, none, none] ∧
      Mono H11 H ∧ Dice K H a (hc ++ ((pn, .dK (Nkv (fun k => lof (cs2 nk π) k) π)) :: (bc ++ [(P_law, .tbl #[])]))) ∧ HR K C A (hA nk π i) H hc)
    ⟨hc, none, rfl, Mono.refl _, d11, HR11⟩ (fun i σ H _ ⟨_, _, _, m, _⟩ => (f11.mono m).sq) ?_ ?_⟩
  · rintro i x σ H12 hi ⟨hc, v11, rfl, m12, d12, HR12⟩
    have hi' : i < π.length := by
      have := (List.getElem?_eq_some_iff.mp hi).1
      rw [List.length_reverse] at this
      omega
    rw [List.getElem?_reverse (by omega), hx] at hi
    obtain ⟨key, ek⟩ : ∃ key, π[π.length - 1 - i]? = some key := ⟨π[π.length - 1 - i], List.getElem?_eq_getElem (by omega)⟩
    obtain ⟨u, hu, ru⟩ := (rx11.mono m12).get (i := π.length - 1 - i) (d := (lt5 nk (π.length - 1 - i) key).enc) (by rw [List.getElem?_map, List.getElem?_mapIdx, ek]; rfl)
    rw [hi] at hu
    cases hu
    obtain ⟨st1, st2⟩ := hA_step (nk := nk) dr.nd hi' ek
    have hkey : key < nk := dr.lt key (List.mem_of_getElem? ek)
    refine ⟨_, rfl, A.p, _, _, rfl, HR12.at_p d12.has.left, hFno, _, rfl, rfl, A, _, hc, x, _, rfl, HR12, d12.has.left, ru, by rw [hA_len]; exact hk8, hA_wf, by show key < _; rw [hA_len]; exact hkey, fun f1 hc' H13 HR13 t13 => ?_⟩
    rw [st1] at HR13
    rw [st2] at t13
    have d13 := d12.tr0 (t13.right (D := _))
    refine ⟨z0, fun e0 he0 => ⟨_, _, Dp.nil (by rw [upd_ne (ne_of_none d13.has.head he0)]; exact d13.has.head), Dp.nil upd_same, (Gd.nil (n := 0)).shaped, (Gd.nil (n := 0)).shaped, _, rfl, ?_⟩⟩
    rw [(Gd.nil (n := 0)).refl]
    refine iteM (by decide) ?_
    exact ⟨hc', _, rfl, (m12.trans t13.mono).trans (Mono.new he0), d13.tail.old he0, HR13.mono (Mono.new he0)⟩
  rintro σ H12 ⟨hc, v11, rfl, m12, d12, HR12⟩
  rw [List.length_reverse, hx] at HR12
  have hnl : (numL nk π).length = nk := by simp [numL]
  have gN : Gd 1 (ilst (numL nk π)) := Gd.ilst _
  -- held
  refine rd_held (by rfl) HR12 d12.has.left (by rw [hA_held dr, hnl]; omega) fun p13 H13 g13 f13 => ?_
  have d13 := d12.grow g13
  have HR13 := HR12.mono g13.mono
  have m13 := m12.trans g13.mono
  refine rd_cb1 (rd_nums dr (by rfl) hk8 (fun _ => rfl) (fun _ => rfl) (fun _ => rfl) d13.has (List.mem_append_right _ List.mem_cons_self) fun p14 H14 t14 => ⟨p14, numL nk π, rfl, SqL.of t14.own.head, fun ns' p15 hp1 hs1 hp15 => ?_⟩)
  have en := srt_eq hp1 hs1
  have eh : heldM (hA nk π π.length) = srt (numL nk π) := by rw [heldM, hA_held dr]
  rw [eh] at f13
  subst en
  have t15 := (t14.tail).old (o := .lst ((srt (numL nk π)).map V.int)) hp15
  refine ⟨_, _, Dp.il (f13.mono t15.mono).sq, Dp.ints' upd_same, (Gd.ilst (n := 0) _).shaped, (Gd.ilst (n := 0) _).shaped, _, rfl, ?_⟩
  rw [(Gd.ilst (n := 0) (srt (numL nk π))).refl]
  refine iteM (by decide) ?_
  have d15 := d13.grow t15
  have HR15 := HR13.mono t15.mono
  have m15 := m13.trans t15.mono
  rw [hA_end dr] at HR15
  -- hear(part)
  obtain ⟨hp1', hp2'⟩ := part_hear dr
  refine ⟨_, rfl, A.p, _, _, rfl, HR15.at_p d15.has.left, hFno, _, rfl, rfl, A, _, hc, vp, _, rfl, HR15, d15.has.left, rp11.mono m15, by rw [List.length_map, List.length_range]; exact hk8, (fun h hh => hA_wf h (by rw [hA_end dr]; exact hh)), (by show 0 + (partRows _ _ _ _).length ≤ _; rw [partRows, List.length_map, List.length_map, List.length_range, List.length_range]; omega), fun f1 hc' H16 HR16 t16 => ?_⟩
  rw [hp1'] at HR16
  rw [hp2'] at t16
  have d16 := d15.tr0 (t16.right (D := _))
  refine rd_nums dr (by rfl) hk8 (fun _ => rfl) (fun _ => rfl) (fun _ => rfl) d16.has (List.mem_cons_of_mem _ (List.mem_append_right _ List.mem_cons_self)) fun p17 H17 t17 => ?_
  refine ⟨_, _, Dp.ints' (t17.has _ d16.has).tail.head, Dp.ints' t17.own.head, (Gd.ilst (n := 0) _).shaped, (Gd.ilst (n := 0) _).shaped, _, rfl, ?_⟩
  rw [(Gd.ilst (n := 0) (numL nk π)).refl]
  refine iteM (by decide) ?_
  have d17 := (d16.grow t17.tail).tail
  have HR17 := HR16.mono t17.mono
  refine rd_held (by rfl) HR17 d17.has.left (by rw [hB_flat]; exact Nat.zero_le _) fun p18 H18 g18 f18 => ?_
  rw [hB_held] at f18
  refine ⟨z0, fun e1 he1 => ⟨_, _, Dp.nil' (f18.mono (Mono.new he1)), Dp.nil upd_same, (Gd.nil (n := 0)).shaped, (Gd.nil (n := 0)).shaped, _, rfl, ?_⟩⟩
  rw [(Gd.nil (n := 0)).refl]
  refine iteM (by decide) ?_
  have g19 := g18.old (o := .lst []) he1
  have d19 := d17.grow g19
  have HR19 := HR17.mono g19.mono
  have m19 := ((m15.trans t16.mono).trans t17.mono).trans g19.mono
  generalize upd H18 e1 (.lst []) = H19 at *
  -- known
  refine rd_known (by rfl) HR19 d19.has.left fun p20 H20 g20 f20 => ?_
  rw [hB_ups] at f20
  have d20 := d19.grow g20
  refine rd_nums dr (by rfl) hk8 (fun _ => rfl) (fun _ => rfl) (fun _ => rfl) d20.has (List.mem_append_right _ List.mem_cons_self) fun p21 H21 t21 => ?_
  refine ⟨_, _, Dp.il (f20.mono t21.mono).sq, Dp.ints' t21.own.head, (Gd.ilst (n := 0) _).shaped, (Gd.ilst (n := 0) _).shaped, _, rfl, ?_⟩
  rw [(Gd.ilst (n := 0) (numL nk π)).refl]
  refine iteM (by decide) ?_
  have d21 := d20.grow t21.tail
  have R21 := R11.mono ((m19.trans g20.mono).trans t21.mono)
  -- now on the board alone
  have d21 : Dice K H21 a (bc ++ [(P_law, .tbl #[])]) := d21.sub ((List.sublist_cons_self _ _).trans (List.sublist_append_right _ _))
  obtain ⟨N, eN⟩ : ∃ N, (cs2 nk π).length = N := ⟨_, rfl⟩
  have hN : N = nk + nk := by rw [← eN, cs2_len, dr.len]
  refine ⟨_, rfl, B.p, _, _, rfl, R21.at_p d21.has.left, bFno, rfl, B, nk, 20, cs2 nk π, bc, rfl, R21, d21.has.left, _, rfl, _, rfl, rfl, a, nk, _, rfl, by omega, by omega, d21, fun r22 H22 p22 q22 m22 d22 => ⟨(by show 2 ≤ sizeLine; decide), fun tt htt => ⟨tt, _, rfl, SqT.of upd_same, rfl, _, _, rfl, _, _, rfl, rfl, ?_⟩⟩⟩
  rw [eN]
  obtain ⟨odd, rfl, hodd⟩ : ∃ odd : Nat, r22 = odd ∧ odd < nk := ⟨r22.toNat, by omega, by omega⟩
  have d23 := d22.old (o := .tup [.int N, .int odd]) htt
  have m23 := m22.trans (Mono.new (o := .tup [.int N, .int odd]) htt)
  have R23 := R21.mono m23
  generalize upd H22 tt (.tup [.int N, .int odd]) = H23 at *
  -- good
  refine ⟨_, rfl, _, rfl, by omega, by omega, fun pg hpg => ?_⟩
  refine lc_range (lo := 0) (n := (nk : Int).toNat) (fun i H => ∃ gs : List Int, gs.length = i ∧ (∀ z ∈ gs, -1 ≤ z ∧ z ≤ (N : Int)) ∧ Mono H23 H ∧ Dice K H a ((pg, .lst (gs.map V.int)) :: (bc ++ [(P_law, .tbl #[])])))
    ⟨[], rfl, (fun _ h => nomatch h), Mono.new hpg, d23.new hpg nl⟩ ?_ ?_
  · rintro i H24 hi ⟨gs, hgl, hga, m24, d24⟩
    refine ⟨rfl, _, rfl, _, rfl, _, _, rfl, rfl, rfl, a, (N : Int) + 2, _, rfl, by omega, by omega, d24, fun r25 H25 p25 q25 m25 d25 => ⟨_, _, rfl, rfl, _, d25.at_, by rw [List.length_map, hgl]; exact small1000 (by omega), gs ++ [r25 - 1], by rw [List.length_append, hgl]; rfl, fun z hz => ?_, (m24.trans m25).trans d25.mput, ?_⟩⟩
    · rcases List.mem_append.mp hz with hz | hz
      · exact hga z hz
      · rw [List.mem_singleton.mp hz]
        omega
    · rw [List.map_append]
      exact d25.put nl
  rintro H24 ⟨gs, hgl, hga, m24, d24⟩
  rw [Int.toNat_natCast] at hgl
  have gd : GoodN nk N gs := ⟨hgl, hga⟩
  -- the cases
  refine rd_fzw ⟨_, rfl, .inr ⟨pg, _, d24.at_, fun o25 => ?_⟩⟩
  have d25 := d24.fz (ob := o25)
  have f25 : FzL K (upd H24 pg (.frz o25 (.lst (gs.map V.int)))) pg (gs.map V.int) := FzL.frz
  have R25 := R23.mono (m24.trans (d24.mfz (ob := o25)))
  generalize upd H24 pg (.frz o25 (.lst (gs.map V.int))) = H25 at *
  refine ⟨(by show 2 ≤ sizeLine; decide), fun t1 ht1 => ?_⟩
  have c1 : CaseOk K (upd H25 t1 (.tup [.ref pg, .non])) nk N (.ref t1) := ⟨t1, pg, gs, rfl, by rw [gd.none]; exact upd_same, f25.mono (Mono.new ht1)⟩
  have g1 := (Grow.refl H25).old (o := .tup [.ref pg, .non]) ht1
  generalize upd H25 t1 (.tup [.ref pg, .non]) = H26 at *
  refine rd_cut9 (K := K) (z := (N : Int) + 1) (by rfl) (by rfl) (f25.mono g1.mono) (by omega) (by omega) (fun _ _ q => ⟨_, rfl, _, _, rfl, rfl, q⟩) fun p2 H27 g2 f2 => ?_
  refine ⟨_, rfl, (by show 2 ≤ sizeLine; decide), fun t2 ht2 => ?_⟩
  have c2 : CaseOk K (upd H27 t2 (.tup [.ref p2, .int odd])) nk N (.ref t2) := ⟨t2, p2, _, rfl, by rw [gd.put hodd (show ¬ (-1 ≤ (N : Int) + 1 ∧ (N : Int) + 1 ≤ N) by omega)]; exact upd_same, f2.mono (Mono.new ht2)⟩
  have g3 := (g1.trans g2).old (o := .tup [.ref p2, .int odd]) ht2
  have c1 := c1.mono (g2.mono.trans (Mono.new (o := .tup [.ref p2, .int odd]) ht2))
  generalize upd H27 t2 (.tup [.ref p2, .int odd]) = H28 at *
  refine rd_cut9 (K := K) (z := -2) (by rfl) (by rfl) (f25.mono g3.mono) (by omega) (by omega) (fun _ _ q => ⟨_, rfl, q⟩) fun p3 H29 g4 f3 => ?_
  refine ⟨_, rfl, (by show 2 ≤ sizeLine; decide), fun t3 ht3 => ⟨(by show 3 ≤ sizeLine; decide), fun pc hpc => ?_⟩⟩
  have c3 : CaseOk K (upd H29 t3 (.tup [.ref p3, .int odd])) nk N (.ref t3) := ⟨t3, p3, _, rfl, by rw [gd.put hodd (show ¬ (-1 ≤ (-2 : Int) ∧ (-2 : Int) ≤ N) by omega)]; exact upd_same, f3.mono (Mono.new ht3)⟩
  have g5 := (g3.trans g4).old (o := .tup [.ref p3, .int odd]) ht3
  have m5 := g4.mono.trans (Mono.new (o := .tup [.ref p3, .int odd]) ht3)
  have c1 := (c1.mono m5).mono (Mono.new (o := .lst [.ref t1, .ref t2, .ref t3]) hpc)
  have c2 := (c2.mono m5).mono (Mono.new (o := .lst [.ref t1, .ref t2, .ref t3]) hpc)
  have c3 := c3.mono (Mono.new (o := .lst [.ref t1, .ref t2, .ref t3]) hpc)
  have d30 := (d25.grow g5).new (o := .lst [.ref t1, .ref t2, .ref t3]) hpc nl
  have m30 := g5.mono.trans (Mono.new (o := .lst [.ref t1, .ref t2, .ref t3]) hpc)
  generalize upd (upd H29 t3 (.tup [.ref p3, .int odd])) pc (.lst [.ref t1, .ref t2, .ref t3]) = H30 at *
  have f30 := f25.mono m30
  have R30 := R25.mono m30
  clear g1 g2 g3 g4 g5 m5 f2 f3
  -- the other cases
  refine rd_fz ?_
  refine ⟨_, rfl, ?_⟩
  refine rd_short9 (K := K) (by rfl) (by rfl) f30 (by omega) fun p4 H31 g1 f4 => ⟨_, rfl, (by show 2 ≤ sizeLine; decide), fun t4 ht4 => ?_⟩
  have c4 : CaseOk K (upd H31 t4 (.tup [.ref p4, .int odd])) nk N (.ref t4) := ⟨t4, p4, _, rfl, by rw [gd.short hodd]; exact upd_same, f4.mono (Mono.new ht4)⟩
  have g2 := g1.old (o := .tup [.ref p4, .int odd]) ht4
  generalize upd H31 t4 (.tup [.ref p4, .int odd]) = H32 at *
  refine rd_long9 (K := K) (by rfl) (f30.mono g2.mono) (by omega) fun p5 H33 g3 f5 => ⟨_, rfl, (by show 2 ≤ sizeLine; decide), fun t5 ht5 => ?_⟩
  have c5 : CaseOk K (upd H33 t5 (.tup [.ref p5, .int nk])) nk N (.ref t5) := ⟨t5, p5, _, rfl, by rw [gd.long]; exact upd_same, f5.mono (Mono.new ht5)⟩
  have c4 := c4.mono (g3.mono.trans (Mono.new (o := .tup [.ref p5, .int nk]) ht5))
  have g4 := (g2.trans g3).old (o := .tup [.ref p5, .int nk]) ht5
  generalize upd H33 t5 (.tup [.ref p5, .int nk]) = H34 at *
  refine rd_rep9 (K := K) (z := (N : Int)) (by rfl) hk8 (fun _ q => ⟨_, rfl, q⟩) fun p6 H35 g5 f6 => ⟨(by show 2 ≤ sizeLine; decide), fun t6 ht6 => ?_⟩
  have c6 : CaseOk K (upd H35 t6 (.tup [.ref p6, .non])) nk N (.ref t6) := ⟨t6, p6, _, rfl, by rw [(GoodN.rep (nk := nk) (n := N) (z := (N : Int)) (by omega) (by omega)).none]; exact upd_same, f6.mono (Mono.new ht6)⟩
  have m6 := g5.mono.trans (Mono.new (o := .tup [.ref p6, .non]) ht6)
  have c4 := c4.mono m6
  have c5 := c5.mono m6
  have g6 := (g4.trans g5).old (o := .tup [.ref p6, .non]) ht6
  generalize upd H35 t6 (.tup [.ref p6, .non]) = H36 at *
  refine rd_rep9 (K := K) (z := -1) (by rfl) hk8 (fun _ q => ⟨_, rfl, q⟩) fun p7 H37 g7 f7 => ⟨(by show 2 ≤ sizeLine; decide), fun t7 ht7 => ⟨(by show 4 ≤ sizeLine; decide), fun pd hpd => ?_⟩⟩
  have c7 : CaseOk K (upd H37 t7 (.tup [.ref p7, .non])) nk N (.ref t7) := ⟨t7, p7, _, rfl, by rw [(GoodN.rep (nk := nk) (n := N) (z := -1) (by omega) (by omega)).none]; exact upd_same, f7.mono (Mono.new ht7)⟩
  have m7 := g7.mono.trans (Mono.new (o := .tup [.ref p7, .non]) ht7)
  have g8 := ((g6.trans g7).old (o := .tup [.ref p7, .non]) ht7).old (o := .lst [.ref t4, .ref t5, .ref t6, .ref t7]) hpd
  have m8 := Mono.new (o := .lst [.ref t4, .ref t5, .ref t6, .ref t7]) hpd
  have d38 := d30.grow g8
  refine ⟨pc, pd, _, _, rfl, rfl, d38.at_, upd_same, (by show 3 + 4 ≤ sizeLine; decide), fun pe hpe => ⟨pe, _, rfl, upd_same, fun o40 => ?_⟩⟩
  have g9 := (Grow.refl _).nfz (xs := [V.ref t1, .ref t2, .ref t3] ++ [.ref t4, .ref t5, .ref t6, .ref t7]) (ob := o40) hpe
  have fz40 : FzL K (upd (upd (upd (upd H37 t7 (.tup [.ref p7, .non])) pd (.lst [.ref t4, .ref t5, .ref t6, .ref t7])) pe (.lst ([V.ref t1, .ref t2, .ref t3] ++ [.ref t4, .ref t5, .ref t6, .ref t7]))) pe (.frz o40 (.lst ([V.ref t1, .ref t2, .ref t3] ++ [.ref t4, .ref t5, .ref t6, .ref t7])))) pe ([V.ref t1, .ref t2, .ref t3] ++ [.ref t4, .ref t5, .ref t6, .ref t7]) := FzL.frz
  have d40 := (d38.grow g9).tail
  have R40 := (R30.mono g8.mono).mono g9.mono
  have cases : ∀ x ∈ ([V.ref t1, .ref t2, .ref t3] ++ [.ref t4, .ref t5, .ref t6, .ref t7] : List V), CaseOk K (upd (upd (upd (upd H37 t7 (.tup [.ref p7, .non])) pd (.lst [.ref t4, .ref t5, .ref t6, .ref t7])) pe (.lst ([V.ref t1, .ref t2, .ref t3] ++ [.ref t4, .ref t5, .ref t6, .ref t7]))) pe (.frz o40 (.lst ([V.ref t1, .ref t2, .ref t3] ++ [.ref t4, .ref t5, .ref t6, .ref t7])))) nk N x := fun x hx => by
    simp only [List.cons_append, List.nil_append, List.mem_cons, List.not_mem_nil, or_false] at hx
    rcases hx with rfl | rfl | rfl | rfl | rfl | rfl | rfl
    · exact (c1.mono g8.mono).mono g9.mono
    · exact (c2.mono g8.mono).mono g9.mono
    · exact (c3.mono g8.mono).mono g9.mono
    · exact ((c4.mono m7).mono m8).mono g9.mono
    · exact ((c5.mono m7).mono m8).mono g9.mono
    · exact ((c6.mono m7).mono m8).mono g9.mono
    · exact (c7.mono m8).mono g9.mono
  generalize (upd (upd (upd (upd H37 t7 (.tup [.ref p7, .non])) pd (.lst [.ref t4, .ref t5, .ref t6, .ref t7])) pe (.lst ([V.ref t1, .ref t2, .ref t3] ++ [.ref t4, .ref t5, .ref t6, .ref t7]))) pe (.frz o40 (.lst ([V.ref t1, .ref t2, .ref t3] ++ [.ref t4, .ref t5, .ref t6, .ref t7])))) = H40 at *
  generalize ([V.ref t1, .ref t2, .ref t3] ++ [.ref t4, .ref t5, .ref t6, .ref t7] : List V) = xc at *
  clear c1 c2 c3 c4 c5 c6 c7 g1 g2 g3 g4 g5 g6 g7 g8 g9 m7 m8 m6 d38 d30 d25
  have d40 : Dice K H40 a ((P_law, .tbl #[]) :: bc) := d40.perm List.perm_append_comm
  refine ⟨_, rfl, pe, rfl, ⟨_, fz40.sq⟩, for_list (K := K) (a := pe) (xs := xc) (fun i σ H => ∃ (ps : Array Value) (v16 v17 v18 : Option V), σ = [some (.ref c), some (.ref a), some (.int nk), some (.ref B.p), some (.ref A.p), some (.ref pl), v6, some vp, some (.ref pq), some (.ref pn), v10, v11, some (.int N), some (.int odd), some (.ref pg), some (.ref pe), v16, v17, v18, none] ∧
      Mono H40 H ∧ Dice K H a ((P_law, .tbl ps) :: bc) ∧ TabI H lamQ ps)
    ⟨#[], none, none, none, rfl, Mono.refl _, d40, TabI.nil _ _⟩ (fun i σ H _ ⟨_, _, _, _, _, m, _⟩ => (fz40.mono m).sq) ?_ ?_⟩
  · rintro i x σ H41 hi ⟨ps, v16, v17, v18, rfl, m41, d41, ti⟩
    obtain ⟨t, p, kn, rfl, ht, f41⟩ := (cases x (List.mem_of_getElem? hi)).mono m41
    refine ⟨t, _, rfl, SqT.of ht, rfl, _, _, rfl, _, _, rfl, rfl, ?_⟩
    refine ⟨ps, d41.has.head, ti, fun f1 c1 H42 ps1 e42 hP42 ti1 hf1 hc1 => ?_⟩
    have hQ : ∀ {H' : Hp} {b : Addr} {o : HO}, H' b = none → ExtN H' (upd H' b o) := fun hb => ExtN.of fun b' o' e => by
      rw [upd_ne (ne_of_none e hb)]
      exact e
    generalize eL1 : LamO f1 _ _ _ _ _ _ c1 = L1
    have iL1 : Imm L1 := by rw [← eL1]; exact lamO_imm
    have e1 : ExtN H41 (upd H42 f1 L1) := e42.trans (hQ hf1)
    have hP1 : (upd H42 f1 L1) P_law = some (.tbl ps1) := by rw [upd_ne (ne_of_none hP42 hf1)]; exact hP42
    have ti1 := ti1.mono (Mono.new (o := L1) hf1)
    have hc1' : (upd H42 f1 L1) c1 = some (CodeO c1 lamQ) := by rw [upd_ne (ne_of_none hc1 hf1)]; exact hc1
    have hL1 : (upd H42 f1 L1) f1 = some L1 := upd_same
    generalize (upd H42 f1 L1) = Ha at *
    refine ⟨ps1, hP1, ti1, fun T2 hT2 f2 c2 H43 ps2 e43 hP43 ti2 hf2 hc2 => ?_⟩
    generalize eL2 : LamO f2 _ _ _ _ _ _ c2 = L2
    have iL2 : Imm L2 := by rw [← eL2]; exact lamO_imm
    have nT2 : P_law ≠ T2 := ne_of_none hP1 hT2
    have e2 : ExtN Ha (upd H43 f2 L2) := ((hQ hT2).trans e43).trans (hQ hf2)
    have hP2 : (upd H43 f2 L2) P_law = some (.tbl ps2) := by rw [upd_ne (ne_of_none hP43 hf2)]; exact hP43
    have ti2 := ti2.mono (Mono.new (o := L2) hf2)
    have hc2' : (upd H43 f2 L2) c2 = some (CodeO c2 lamQ) := by rw [upd_ne (ne_of_none hc2 hf2)]; exact hc2
    have hT2' : (upd H43 f2 L2) T2 = some (TupO T2) := (Mono.new (o := L2) hf2) _ _ ((ExtN.mono e43) _ _ upd_same tupO_imm) tupO_imm
    have hL2 : (upd H43 f2 L2) f2 = some L2 := upd_same
    generalize (upd H43 f2 L2) = Hb at *
    refine ⟨ps2, hP2, ti2, fun T3 hT3 f3 c3 H44 ps3 e44 hP44 ti3 hf3 hc3 => ⟨(by show 3 ≤ sizeLine; decide), fun pw hpw => ?_⟩⟩
    generalize eL3 : LamO f3 _ _ _ _ _ _ c3 = L3 at hpw ⊢
    have iL3 : Imm L3 := by rw [← eL3]; exact lamO_imm
    have e3 : ExtN Hb (upd H44 f3 L3) := ((hQ hT3).trans e44).trans (hQ hf3)
    have hP3 : (upd H44 f3 L3) P_law = some (.tbl ps3) := by rw [upd_ne (ne_of_none hP44 hf3)]; exact hP44
    have ti3 := ti3.mono (Mono.new (o := L3) hf3)
    have hc3' : (upd H44 f3 L3) c3 = some (CodeO c3 lamQ) := by rw [upd_ne (ne_of_none hc3 hf3)]; exact hc3
    have hT3' : (upd H44 f3 L3) T3 = some (TupO T3) := (Mono.new (o := L3) hf3) _ _ ((ExtN.mono e44) _ _ upd_same tupO_imm) tupO_imm
    have hL3 : (upd H44 f3 L3) f3 = some L3 := upd_same
    generalize (upd H44 f3 L3) = Hc at *
    have e123 := (e1.trans e2).trans e3
    have ntb : ∀ q ∈ bc, ∀ qs, q.2 ≠ .tbl qs := by
      obtain ⟨xs, rfl, _⟩ := R40.ex
      intro q hq qs
      simp only [List.mem_cons, List.not_mem_nil, or_false] at hq
      rcases hq with rfl | rfl | rfl | rfl <;> exact fun z => nomatch z
    obtain ⟨ps4, d45, ti4⟩ := d41.lam ntb e123 (tabs_of hP3 ti3)
    have m45 := m41.trans (ExtN.mono e123)
    have f45 := f41.mono (ExtN.mono e123)
    have m2c := ExtN.mono (e2.trans e3)
    have m3c := ExtN.mono e3
    have hL1 := m2c _ _ hL1 iL1
    have hc1' := m2c _ _ hc1' (codeO_imm _ _)
    have hL2 := m3c _ _ hL2 iL2
    have hc2' := m3c _ _ hc2' (codeO_imm _ _)
    have hT2' := m3c _ _ hT2' tupO_imm
    have d46 := d45.new (o := .lst [.ref f1, .ref f2, .ref f3]) hpw nl
    have m46 := Mono.new (o := .lst [.ref f1, .ref f2, .ref f3]) hpw
    have ti46 := ti4.mono m46
    generalize upd Hc pw (.lst [.ref f1, .ref f2, .ref f3]) = Hd at *
    have hL1 := m46 _ _ hL1 iL1
    have hc1' := m46 _ _ hc1' (codeO_imm _ _)
    have hL2 := m46 _ _ hL2 iL2
    have hc2' := m46 _ _ hc2' (codeO_imm _ _)
    have hT2' := m46 _ _ hT2' tupO_imm
    have hL3 := m46 _ _ hL3 iL3
    have hc3' := m46 _ _ hc3' (codeO_imm _ _)
    have hT3' := m46 _ _ hT3' tupO_imm
    have f46 := f45.mono m46
    have m46' := m45.trans m46
    have R46 := R40.mono m46'
    clear e1 e2 e3 e42 e43 e44 hP1 hP2 hP3 ti1 ti2 ti3 e123 m2c m3c hT2 hT3 hf1 hf2 hf3 hc1 hc2 hc3 hP42 hP43 hP44
    refine rd_mid (fun σ H => ∃ (pv : Addr) (ws : List V), σ = [some (.ref c), some (.ref a), some (.int nk), some (.ref B.p), some (.ref A.p), some (.ref pl), v6, some vp, some (.ref pq), some (.ref pn), v10, v11, some (.int N), some (.int odd), some (.ref pg), some (.ref pe), some (.ref p), some (dueV (badN nk N kn)), some (.ref pv), none] ∧
        Mono Hd H ∧ Dice K H a ((pv, .lst ws) :: (P_law, .tbl ps4) :: bc) ∧ ∀ x ∈ ws, x = .ref f1 ∨ x = .ref f2 ∨ (x = .ref f3 ∧ badN nk N kn ≠ none)) ?_ ?_
    · cases hb : badN nk N kn with
      | none =>
        refine ⟨_, rfl, rfl, _, rfl, iteP (by decide) ?_⟩
        refine ⟨_, rfl, _, rfl, pw, _, rfl, SqL.of d46.at_, fun pv hpv => ?_⟩
        have ec : cutV [V.ref f1, .ref f2, .ref f3] none (some 2) = [.ref f1, .ref f2] := cutV_to (k := 2) (by show 2 ≤ 3; decide)
        rw [ec]
        refine ⟨pv, [.ref f1, .ref f2], rfl, Mono.new hpv, d46.tail.new hpv nl, fun x hx => ?_⟩
        simp only [List.mem_cons, List.not_mem_nil, or_false] at hx
        rcases hx with rfl | rfl
        · exact .inl rfl
        · exact .inr (.inl rfl)
      | some kb =>
        refine ⟨_, rfl, rfl, _, rfl, iteM (by simp [dueV]) ?_⟩
        refine ⟨pw, [.ref f1, .ref f2, .ref f3], rfl, Mono.refl _, d46, fun x hx => ?_⟩
        simp only [List.mem_cons, List.not_mem_nil, or_false] at hx
        rcases hx with rfl | rfl | rfl
        · exact .inl rfl
        · exact .inr (.inl rfl)
        · exact .inr (.inr ⟨rfl, fun z => nomatch z⟩)
    rintro σ He ⟨pz, ws, rfl, me, de, hws⟩
    subst eL1 eL2 eL3
    refine ⟨_, rfl, pz, rfl, ⟨_, SqL.of de.at_⟩, fun D hD => ?_⟩
    refine lc_list (K := K) (a := pz) (xs := ws) (fun i H => Mono He H ∧ Dice K H a ((D, .lst []) :: (pz, .lst ws) :: (P_law, .tbl ps4) :: bc)) ⟨Mono.new hD, de.new hD nl⟩ (fun i H _ ⟨_, d⟩ => SqL.of d.has.tail.head) ?_ ?_
    · rintro j x H47 hj ⟨m47, d47⟩
      have m48 := me.trans m47
      have R47 := R46.mono m48
      have f47 := f46.mono m48
      have hb47 : Has H47 bc := d47.has.tail.tail.tail
      refine ⟨rfl, ?_⟩
      have hl1 := m48 _ _ hL1 iL1
      have hl2 := m48 _ _ hL2 iL2
      have hl3 := m48 _ _ hL3 iL3
      have hd1 := m48 _ _ hc1' (codeO_imm _ _)
      have hd2 := m48 _ _ hc2' (codeO_imm _ _)
      have hd3 := m48 _ _ hc3' (codeO_imm _ _)
      have ht2 := m48 _ _ hT2' tupO_imm
      have ht3 := m48 _ _ hT3' tupO_imm
      rcases hws x (List.mem_of_getElem? hj) with rfl | rfl | ⟨rfl, hne⟩
      · refine ⟨f1, c1, _, rfl, ⟨_, _, _, _, hl1, hd1, noArgs0 (fun _ _ _ => rfl), lamN_by (N := nm90) (sc := defScope s_law) (by decide +kernel), fun E A outer s H hr => pcy (takes_of rfl rfl rfl rfl) g_answer hr (pa_cons (pv 3) (pa_cons (pv 16) pa_nil))⟩, rfl, ?_⟩
        refine ⟨_, rfl, _, rfl, rfl, B, nk, 20, cs2 nk π, bc, p, kn, rfl, R47, hb47, StL.fz f47, hk8, by decide, fun kb hkb d H2 g hd => ⟨rfl, d, kb, rfl, hd, ?_⟩, fun kk r xs ls H2 t2 _ _ _ _ => ?_⟩
        · rw [eN] at hkb
          rw [hkb]
          exact ⟨_, rfl, ne_due (some kb) ⟨_, rfl, iteM (by decide) ⟨m47.trans g.mono, d47.grow g⟩⟩⟩
        · have := kn_bad kk
          rw [eN] at this
          rw [this]
          exact ⟨_, rfl, ne_due none ⟨_, rfl, iteM (by decide) ⟨m47.trans t2.mono, (Dice.tr (C := []) d47 t2).tail⟩⟩⟩
      · refine ⟨f2, c2, _, rfl, ⟨_, _, _, _, hl2, hd2, noArgs1 (a := "_law_a") ht2 rfl (fun _ _ _ => ⟨_, rfl, fun _ => rfl⟩), lamN_by (N := nm90) (sc := defScope s_law) (by decide +kernel), fun E A outer s H hr => pcy (takes_of rfl rfl rfl rfl) g_prices hr (pa_cons (pv 3) (pa_cons (pv 16) pa_nil))⟩, rfl, ?_⟩
        refine ⟨_, rfl, _, rfl, rfl, B, nk, 20, cs2 nk π, bc, p, kn, rfl, R47, hb47, StL.fz f47, hk8, by decide, fun kb hkb d H2 g hd => ⟨rfl, d, kb, rfl, hd, ?_⟩, fun kk r H2 t2 => ?_⟩
        · rw [eN] at hkb
          rw [hkb]
          exact ⟨_, rfl, ne_due (some kb) ⟨_, rfl, iteM (by decide) ⟨m47.trans g.mono, d47.grow g⟩⟩⟩
        · have := kn_bad kk
          rw [eN] at this
          rw [this]
          exact ⟨_, rfl, ne_due none ⟨_, rfl, iteM (by decide) ⟨m47.trans t2.mono, (Dice.tr (C := []) d47 t2).tail⟩⟩⟩
      · refine ⟨f3, c3, _, rfl, ⟨_, _, _, _, hl3, hd3, noArgs1 (a := "_law_b") ht3 rfl (fun _ _ _ => ⟨_, rfl, fun _ => rfl⟩), lamN_by (N := nm90) (sc := defScope s_law) (by decide +kernel), fun E A outer s H hr => pcy (takes_of rfl rfl rfl rfl) g_shows hr (pa_cons (pv 3) (pa_cons (pv 16) (pa_cons (pe_lst pa_nil) pa_nil)))⟩, rfl, ?_⟩
        refine ⟨_, rfl, _, rfl, z0, fun pt hpt => ?_⟩
        have g0 := (Grow.refl H47).old (o := .lst []) hpt
        refine ⟨rfl, B, nk, 20, cs2 nk π, bc, p, pt, kn, [], rfl, R47.mono g0.mono, (d47.grow g0).has.tail.tail.tail, (f47.mono g0.mono).sq, SqL.of upd_same, hk8, (show (0 : Nat) ≠ nk by omega), fun kb hkb d H2 g hd => ⟨rfl, d, kb, rfl, hd, ?_⟩, fun hn => ?_⟩
        · rw [eN] at hkb
          rw [hkb]
          exact ⟨_, rfl, ne_due (some kb) ⟨_, rfl, iteM (by decide) ⟨m47.trans (g0.trans g).mono, d47.grow (g0.trans g)⟩⟩⟩
        · rw [eN] at hn
          exact absurd hn hne
    rintro H47 ⟨m47, d47⟩
    refine ⟨z0, fun e1 he1 => ⟨_, _, Dp.nil (by rw [upd_ne (ne_of_none d47.at_ he1)]; exact d47.at_), Dp.nil upd_same, (Gd.nil (n := 0)).shaped, (Gd.nil (n := 0)).shaped, _, rfl, ?_⟩⟩
    rw [(Gd.nil (n := 0)).refl]
    refine iteM (by decide) ?_
    have m49 := (me.trans m47).trans (Mono.new (o := .lst []) he1)
    exact ⟨ps4, _, _, _, rfl, m46'.trans m49, (d47.old (o := .lst []) he1).tail.tail, ti46.mono m49⟩
  rintro σ H41 ⟨ps, v16, v17, v18, rfl, m41, d41, ti⟩
  exact go _
end
end Cu

namespace Cu
open PySem PySem.Spec PyProof.Rows L2
theorem facts {l : PySem.W.OpenLaw} {w : World} {K : PySem.W.Frag} {h : Heap} {mg : Str → Option Value} {fa C_Hearer C_Board C_CatchError C_BadKnown C_BadPrices f1 f2 f3 f4 f5 f6 f7 f8 f9 f10 f11 f12 f13 f14 f15 f16 f17 f18 f19 f20 f21 f22 f23 f24 f25 f26 c_law P_law : Addr} (X : K.In h) (G : h.Ns mainGlobals mg) (hfa : mg "law" = some (.ref fa))
    {od1 an1 od2 an2 od3 an3 od4 an4 od5 an5 od6 an6 od7 an7 od8 an8 od9 an9 od10 an10 od11 an11 od12 an12 od13 an13 od14 an14 od15 an15 od16 an16 od17 an17 od18 an18 od19 an19 od20 an20 od21 an21 od22 an22 od23 an23 od24 an24 od25 an25 od26 an26 ld_law : Option Addr} {sl1 sl2 sl3 sl4 sl5 sl6 sl7 sl8 sl9 sl10 sl11 sl12 sl13 sl14 sl15 sl16 sl17 sl18 sl19 sl20 sl21 sl22 sl23 sl24 sl25 sl26 lsl_law : Array (Option Value)} {oc1 kV1 dc1 pm1 cd1 ct1 oc2 kV2 dc2 pm2 cd2 ct2 oc3 kV3 dc3 pm3 cd3 ct3 oc4 kV4 dc4 pm4 cd4 ct4 oc5 kV5 dc5 pm5 cd5 ct5 oc6 kV6 dc6 pm6 cd6 ct6 oc7 kV7 dc7 pm7 cd7 ct7 oc8 kV8 dc8 pm8 cd8 ct8 oc9 kV9 dc9 pm9 cd9 ct9 oc10 kV10 dc10 pm10 cd10 ct10 oc11 kV11 dc11 pm11 cd11 ct11 oc12 kV12 dc12 pm12 cd12 ct12 oc13 kV13 dc13 pm13 cd13 ct13 oc14 kV14 dc14 pm14 cd14 ct14 oc15 kV15 dc15 pm15 cd15 ct15 oc16 kV16 dc16 pm16 cd16 ct16 oc17 kV17 dc17 pm17 cd17 ct17 oc18 kV18 dc18 pm18 cd18 ct18 oc19 kV19 dc19 pm19 cd19 ct19 oc20 kV20 dc20 pm20 cd20 ct20 oc21 kV21 dc21 pm21 cd21 ct21 oc22 kV22 dc22 pm22 cd22 ct22 oc23 kV23 dc23 pm23 cd23 ct23 oc24 kV24 dc24 pm24 cd24 ct24 oc25 kV25 dc25 pm25 cd25 ct25 oc26 kV26 dc26 pm26 cd26 ct26 le_law : Value} {tk_MOST_KEYS tk_MOST_TAIL tk_PART : Tok} {nm_BadKnown qn_BadKnown : Str} {N_BadKnown : Addr} {bs_BadKnown : List Value} {sn_BadKnown : List Str} {sb_BadKnown : List Value} {ab_BadKnown : Bool} {col_BadKnown : Option Bool} {dd_BadKnown : Option Addr} {m0_BadKnown m1_BadKnown m2_BadKnown m3_BadKnown m5_BadKnown : Option Value} {lvs_law : Array Value}
    (b_len : PySem.W.nsIn K mainGlobals "len" = some none)
    (b_range : PySem.W.nsIn K mainGlobals "range" = some none)
    (b_int : PySem.W.nsIn K mainGlobals "int" = some none)
    (b_list : PySem.W.nsIn K mainGlobals "list" = some none)
    (b_tuple : PySem.W.nsIn K mainGlobals "tuple" = some none)
    (b_sorted : PySem.W.nsIn K mainGlobals "sorted" = some none)
    (b_min : PySem.W.nsIn K mainGlobals "min" = some none)
    (b_max : PySem.W.nsIn K mainGlobals "max" = some none)
    (b_sum : PySem.W.nsIn K mainGlobals "sum" = some none)
    (b_set : PySem.W.nsIn K mainGlobals "set" = some none)
    (b_str : PySem.W.nsIn K mainGlobals "str" = some none)
    (b_isinstance : PySem.W.nsIn K mainGlobals "isinstance" = some none)
    (b_enumerate : PySem.W.nsIn K mainGlobals "enumerate" = some none)
    (b_zip : PySem.W.nsIn K mainGlobals "zip" = some none)
    (b_bool : PySem.W.nsIn K mainGlobals "bool" = some none)
    (b_dict : PySem.W.nsIn K mainGlobals "dict" = some none)
    (c_MOST_KEYS : PySem.W.nsIn K mainGlobals "MOST_KEYS" = some (some (.int 8 tk_MOST_KEYS)))
    (c_MOST_TAIL : PySem.W.nsIn K mainGlobals "MOST_TAIL" = some (some (.int 20 tk_MOST_TAIL)))
    (c_PART : PySem.W.nsIn K mainGlobals "PART" = some (some (.int 2 tk_PART)))
    (ac_Hearer : PySem.W.nsIn K mainGlobals "Hearer" = some (some (.ref C_Hearer)))
    (pg_Hearer : PySem.W.plainGet K C_Hearer Str.empty = true)
    (hd_Hearer : PySem.W.hasDictIn K C_Hearer = true)
    (po_Hearer : PySem.W.plainOver K C_Hearer = true)
    (sa_Hearer : PySem.W.findIn K (.ref C_Hearer) "__setattr__" = some (some (.builtin "object.__setattr__")))
    (no0_Hearer : PySem.W.findIn K (.ref C_Hearer) "worth" = some none)
    (no1_Hearer : PySem.W.findIn K (.ref C_Hearer) "since" = some none)
    (no2_Hearer : PySem.W.findIn K (.ref C_Hearer) "upto" = some none)
    (no3_Hearer : PySem.W.findIn K (.ref C_Hearer) "aside" = some none)
    (ac_Board : PySem.W.nsIn K mainGlobals "Board" = some (some (.ref C_Board)))
    (pg_Board : PySem.W.plainGet K C_Board Str.empty = true)
    (hd_Board : PySem.W.hasDictIn K C_Board = true)
    (po_Board : PySem.W.plainOver K C_Board = true)
    (sa_Board : PySem.W.findIn K (.ref C_Board) "__setattr__" = some (some (.builtin "object.__setattr__")))
    (no0_Board : PySem.W.findIn K (.ref C_Board) "now" = some none)
    (no1_Board : PySem.W.findIn K (.ref C_Board) "keep" = some none)
    (no2_Board : PySem.W.findIn K (.ref C_Board) "rows" = some none)
    (no3_Board : PySem.W.findIn K (.ref C_Board) "many" = some none)
    (no4_Board : PySem.W.findIn K (.ref C_Board) "last" = some none)
    (ac_CatchError : PySem.W.nsIn K mainGlobals "CatchError" = some (some (.ref C_CatchError)))
    (rd_CatchError : PySem.W.readsIn K C_CatchError (.type "type") = true)
    (ge_CatchError : PySem.W.specialIn K (.ref C_CatchError) "__getattribute__" = some (some (.builtin "type.__getattribute__")))
    (ci_CatchError : PySem.W.findCls K (.ref C_CatchError) (.type "type") "__init__" = some (.val (.builtin "ValueError.__init__")))
    (ac_BadKnown : PySem.W.nsIn K mainGlobals "BadKnown" = some (some (.ref C_BadKnown)))
    (xl_BadKnown : K.lookup C_BadKnown = some (excClassObj nm_BadKnown qn_BadKnown C_BadKnown N_BadKnown bs_BadKnown [.ref C_CatchError, .type "ValueError", .type "Exception", .type "BaseException", .type "object"] true sn_BadKnown sb_BadKnown ab_BadKnown col_BadKnown dd_BadKnown m0_BadKnown m1_BadKnown m2_BadKnown m3_BadKnown m5_BadKnown "ValueError.__new__"))
    (sa_BadKnown : PySem.W.findIn K (.ref C_BadKnown) "__setattr__" = some (some (.builtin "object.__setattr__")))
    (eC_BadKnown : PySem.W.subIn K (.ref C_BadKnown) (.type "BaseException") = some true)
    (tC_BadKnown : PySem.W.typeIn K (.ref C_BadKnown) = some (.type "type"))
    (kC_BadKnown : PySem.W.keepIn K (.ref C_BadKnown) = true)
    (ga_BadKnown : PySem.W.findIn K (.ref C_BadKnown) "__getattribute__" = some (some (.builtin "BaseException.__getattribute__")))
    (gg_BadKnown : PySem.W.findIn K (.ref C_BadKnown) "__getattr__" = some none)
    (hC_BadKnown : PySem.W.hasDictIn K C_BadKnown = true)
    (nf_BadKnown : PySem.W.findIn K (.ref C_BadKnown) "key" = some none)
    (ac_BadPrices : PySem.W.nsIn K mainGlobals "BadPrices" = some (some (.ref C_BadPrices)))
    (xi_BadPrices : PySem.W.excIn K C_BadPrices [.type "ValueError", .type "Exception", .type "BaseException", .type "object"] "ValueError.__new__" = true)
    (kC_BadPrices : PySem.W.keepIn K (.ref C_BadPrices) = true)
    (eC_BadPrices : PySem.W.subIn K (.ref C_BadPrices) (.type "BaseException") = some true)
    (tC_BadPrices : PySem.W.typeIn K (.ref C_BadPrices) = some (.type "type"))
    (sub_BadKnown : PySem.W.subIn K (.ref C_BadKnown) (.ref C_BadKnown) = some true)
    (a1 : PySem.W.nsIn K mainGlobals "_law_bad" = some (some (.ref f1)))
    (l1 : K.lookup f1 = some ⟨oc1, od1, .func (PySem.W.fnOf "_law_bad" "_law_bad" (defArgs s_bad) (defBody s_bad) (defScope s_bad) .none kV1 dc1 pm1 an1 cd1 ct1), sl1⟩)
    (d1 : PySem.W.codeIn K cd1 "_law_bad" = true)
    (k1 : PySem.W.keepIn K (.ref f1) = true)
    (a2 : PySem.W.findIn K (.ref C_BadKnown) "__init__" = some (some (.ref f2)))
    (i2 : PySem.W.typeIn K (.ref f2) = some (.type "function"))
    (l2 : K.lookup f2 = some ⟨oc2, od2, .func (PySem.W.fnOf "__init__" "BadKnown.__init__" (defArgs s_BadKnown_init) (defBody s_BadKnown_init) (defScope s_BadKnown_init) .none kV2 dc2 pm2 an2 cd2 ct2), sl2⟩)
    (d2 : PySem.W.codeIn K cd2 "BadKnown.__init__" = true)
    (k2 : PySem.W.keepIn K (.ref f2) = true)
    (a3 : PySem.W.nsIn K mainGlobals "_law_dice" = some (some (.ref f3)))
    (l3 : K.lookup f3 = some ⟨oc3, od3, .func (PySem.W.fnOf "_law_dice" "_law_dice" (defArgs s_dice) (defBody s_dice) (defScope s_dice) .none kV3 dc3 pm3 an3 cd3 ct3), sl3⟩)
    (d3 : PySem.W.codeIn K cd3 "_law_dice" = true)
    (k3 : PySem.W.keepIn K (.ref f3) = true)
    (a4 : PySem.W.nsIn K mainGlobals "_law_next" = some (some (.ref f4)))
    (l4 : K.lookup f4 = some ⟨oc4, od4, .func (PySem.W.fnOf "_law_next" "_law_next" (defArgs s_next) (defBody s_next) (defScope s_next) .none kV4 dc4 pm4 an4 cd4 ct4), sl4⟩)
    (d4 : PySem.W.codeIn K cd4 "_law_next" = true)
    (k4 : PySem.W.keepIn K (.ref f4) = true)
    (a5 : PySem.W.findIn K (.ref C_Board) "__init__" = some (some (.ref f5)))
    (i5 : PySem.W.isFn K (.ref f5) = true)
    (l5 : K.lookup f5 = some ⟨oc5, od5, .func (PySem.W.fnOf "__init__" "Board.__init__" (defArgs s_Board_init) (defBody s_Board_init) (defScope s_Board_init) .none kV5 dc5 pm5 an5 cd5 ct5), sl5⟩)
    (d5 : PySem.W.codeIn K cd5 "Board.__init__" = true)
    (k5 : PySem.W.keepIn K (.ref f5) = true)
    (mk_Board : PySem.W.makesIn K C_Board = true)
    (kc_Board : PySem.W.keepIn K (.ref C_Board) = true)
    (a6 : PySem.W.findIn K (.ref C_Board) "number" = some (some (.ref f6)))
    (i6 : PySem.W.isFn K (.ref f6) = true)
    (l6 : K.lookup f6 = some ⟨oc6, od6, .func (PySem.W.fnOf "number" "Board.number" (defArgs s_Board_number) (defBody s_Board_number) (defScope s_Board_number) .none kV6 dc6 pm6 an6 cd6 ct6), sl6⟩)
    (d6 : PySem.W.codeIn K cd6 "Board.number" = true)
    (k6 : PySem.W.keepIn K (.ref f6) = true)
    (a7 : PySem.W.findIn K (.ref C_Board) "part" = some (some (.ref f7)))
    (i7 : PySem.W.isFn K (.ref f7) = true)
    (l7 : K.lookup f7 = some ⟨oc7, od7, .func (PySem.W.fnOf "part" "Board.part" (defArgs s_Board_part) (defBody s_Board_part) (defScope s_Board_part) .none kV7 dc7 pm7 an7 cd7 ct7), sl7⟩)
    (d7 : PySem.W.codeIn K cd7 "Board.part" = true)
    (k7 : PySem.W.keepIn K (.ref f7) = true)
    (a8 : PySem.W.findIn K (.ref C_Board) "change" = some (some (.ref f8)))
    (i8 : PySem.W.isFn K (.ref f8) = true)
    (l8 : K.lookup f8 = some ⟨oc8, od8, .func (PySem.W.fnOf "change" "Board.change" (defArgs s_Board_change) (defBody s_Board_change) (defScope s_Board_change) .none kV8 dc8 pm8 an8 cd8 ct8), sl8⟩)
    (d8 : PySem.W.codeIn K cd8 "Board.change" = true)
    (k8 : PySem.W.keepIn K (.ref f8) = true)
    (a9 : PySem.W.findIn K (.ref C_Hearer) "__init__" = some (some (.ref f9)))
    (i9 : PySem.W.isFn K (.ref f9) = true)
    (l9 : K.lookup f9 = some ⟨oc9, od9, .func (PySem.W.fnOf "__init__" "Hearer.__init__" (defArgs s_Hearer_init) (defBody s_Hearer_init) (defScope s_Hearer_init) .none kV9 dc9 pm9 an9 cd9 ct9), sl9⟩)
    (d9 : PySem.W.codeIn K cd9 "Hearer.__init__" = true)
    (k9 : PySem.W.keepIn K (.ref f9) = true)
    (mk_Hearer : PySem.W.makesIn K C_Hearer = true)
    (kc_Hearer : PySem.W.keepIn K (.ref C_Hearer) = true)
    (a10 : PySem.W.findIn K (.ref C_Hearer) "do" = some (some (.ref f10)))
    (i10 : PySem.W.isFn K (.ref f10) = true)
    (l10 : K.lookup f10 = some ⟨oc10, od10, .func (PySem.W.fnOf "do" "Hearer.do" (defArgs s_Hearer_do) (defBody s_Hearer_do) (defScope s_Hearer_do) .none kV10 dc10 pm10 an10 cd10 ct10), sl10⟩)
    (d10 : PySem.W.codeIn K cd10 "Hearer.do" = true)
    (k10 : PySem.W.keepIn K (.ref f10) = true)
    (a11 : PySem.W.findIn K (.ref C_Hearer) "freed" = some (some (.ref f11)))
    (i11 : PySem.W.isFn K (.ref f11) = true)
    (l11 : K.lookup f11 = some ⟨oc11, od11, .func (PySem.W.fnOf "freed" "Hearer.freed" (defArgs s_Hearer_freed) (defBody s_Hearer_freed) (defScope s_Hearer_freed) .none kV11 dc11 pm11 an11 cd11 ct11), sl11⟩)
    (d11 : PySem.W.codeIn K cd11 "Hearer.freed" = true)
    (k11 : PySem.W.keepIn K (.ref f11) = true)
    (a12 : PySem.W.findIn K (.ref C_Hearer) "changed" = some (some (.ref f12)))
    (i12 : PySem.W.isFn K (.ref f12) = true)
    (l12 : K.lookup f12 = some ⟨oc12, od12, .func (PySem.W.fnOf "changed" "Hearer.changed" (defArgs s_Hearer_changed) (defBody s_Hearer_changed) (defScope s_Hearer_changed) .none kV12 dc12 pm12 an12 cd12 ct12), sl12⟩)
    (d12 : PySem.W.codeIn K cd12 "Hearer.changed" = true)
    (k12 : PySem.W.keepIn K (.ref f12) = true)
    (a13 : PySem.W.findIn K (.ref C_Hearer) "copied" = some (some (.ref f13)))
    (i13 : PySem.W.isFn K (.ref f13) = true)
    (l13 : K.lookup f13 = some ⟨oc13, od13, .func (PySem.W.fnOf "copied" "Hearer.copied" (defArgs s_Hearer_copied) (defBody s_Hearer_copied) (defScope s_Hearer_copied) .none kV13 dc13 pm13 an13 cd13 ct13), sl13⟩)
    (d13 : PySem.W.codeIn K cd13 "Hearer.copied" = true)
    (k13 : PySem.W.keepIn K (.ref f13) = true)
    (a14 : PySem.W.findIn K (.ref C_Hearer) "hear" = some (some (.ref f14)))
    (i14 : PySem.W.isFn K (.ref f14) = true)
    (l14 : K.lookup f14 = some ⟨oc14, od14, .func (PySem.W.fnOf "hear" "Hearer.hear" (defArgs s_Hearer_hear) (defBody s_Hearer_hear) (defScope s_Hearer_hear) .none kV14 dc14 pm14 an14 cd14 ct14), sl14⟩)
    (d14 : PySem.W.codeIn K cd14 "Hearer.hear" = true)
    (k14 : PySem.W.keepIn K (.ref f14) = true)
    (a15 : PySem.W.findIn K (.ref C_Hearer) "held" = some (some (.ref f15)))
    (i15 : PySem.W.isFn K (.ref f15) = true)
    (l15 : K.lookup f15 = some ⟨oc15, od15, .func (PySem.W.fnOf "held" "Hearer.held" (defArgs s_Hearer_held) (defBody s_Hearer_held) (defScope s_Hearer_held) .none kV15 dc15 pm15 an15 cd15 ct15), sl15⟩)
    (d15 : PySem.W.codeIn K cd15 "Hearer.held" = true)
    (k15 : PySem.W.keepIn K (.ref f15) = true)
    (a16 : PySem.W.findIn K (.ref C_Hearer) "known" = some (some (.ref f16)))
    (i16 : PySem.W.isFn K (.ref f16) = true)
    (l16 : K.lookup f16 = some ⟨oc16, od16, .func (PySem.W.fnOf "known" "Hearer.known" (defArgs s_Hearer_known) (defBody s_Hearer_known) (defScope s_Hearer_known) .none kV16 dc16 pm16 an16 cd16 ct16), sl16⟩)
    (d16 : PySem.W.codeIn K cd16 "Hearer.known" = true)
    (k16 : PySem.W.keepIn K (.ref f16) = true)
    (a17 : PySem.W.findIn K (.ref C_Board) "size" = some (some (.ref f17)))
    (i17 : PySem.W.isFn K (.ref f17) = true)
    (l17 : K.lookup f17 = some ⟨oc17, od17, .func (PySem.W.fnOf "size" "Board.size" (defArgs s_Board_size) (defBody s_Board_size) (defScope s_Board_size) .none kV17 dc17 pm17 an17 cd17 ct17), sl17⟩)
    (d17 : PySem.W.codeIn K cd17 "Board.size" = true)
    (k17 : PySem.W.keepIn K (.ref f17) = true)
    (a18 : PySem.W.nsIn K mainGlobals "need_known" = some (some (.ref f18)))
    (l18 : K.lookup f18 = some ⟨oc18, od18, .func (PySem.W.fnOf "need_known" "need_known" (defArgs s_need_known) (defBody s_need_known) (defScope s_need_known) .none kV18 dc18 pm18 an18 cd18 ct18), sl18⟩)
    (d18 : PySem.W.codeIn K cd18 "need_known" = true)
    (k18 : PySem.W.keepIn K (.ref f18) = true)
    (a19 : PySem.W.findIn K (.ref C_Board) "lasts" = some (some (.ref f19)))
    (i19 : PySem.W.isFn K (.ref f19) = true)
    (l19 : K.lookup f19 = some ⟨oc19, od19, .func (PySem.W.fnOf "lasts" "Board.lasts" (defArgs s_Board_lasts) (defBody s_Board_lasts) (defScope s_Board_lasts) .none kV19 dc19 pm19 an19 cd19 ct19), sl19⟩)
    (d19 : PySem.W.codeIn K cd19 "Board.lasts" = true)
    (k19 : PySem.W.keepIn K (.ref f19) = true)
    (a20 : PySem.W.findIn K (.ref C_Board) "tail" = some (some (.ref f20)))
    (i20 : PySem.W.isFn K (.ref f20) = true)
    (l20 : K.lookup f20 = some ⟨oc20, od20, .func (PySem.W.fnOf "tail" "Board.tail" (defArgs s_Board_tail) (defBody s_Board_tail) (defScope s_Board_tail) .none kV20 dc20 pm20 an20 cd20 ct20), sl20⟩)
    (d20 : PySem.W.codeIn K cd20 "Board.tail" = true)
    (k20 : PySem.W.keepIn K (.ref f20) = true)
    (a21 : PySem.W.nsIn K mainGlobals "wanted" = some (some (.ref f21)))
    (l21 : K.lookup f21 = some ⟨oc21, od21, .func (PySem.W.fnOf "wanted" "wanted" (defArgs s_wanted) (defBody s_wanted) (defScope s_wanted) .none kV21 dc21 pm21 an21 cd21 ct21), sl21⟩)
    (d21 : PySem.W.codeIn K cd21 "wanted" = true)
    (k21 : PySem.W.keepIn K (.ref f21) = true)
    (a22 : PySem.W.nsIn K mainGlobals "levels" = some (some (.ref f22)))
    (l22 : K.lookup f22 = some ⟨oc22, od22, .func (PySem.W.fnOf "levels" "levels" (defArgs s_levels) (defBody s_levels) (defScope s_levels) .none kV22 dc22 pm22 an22 cd22 ct22), sl22⟩)
    (d22 : PySem.W.codeIn K cd22 "levels" = true)
    (k22 : PySem.W.keepIn K (.ref f22) = true)
    (a23 : PySem.W.nsIn K mainGlobals "answer" = some (some (.ref f23)))
    (l23 : K.lookup f23 = some ⟨oc23, od23, .func (PySem.W.fnOf "answer" "answer" (defArgs s_answer) (defBody s_answer) (defScope s_answer) .none kV23 dc23 pm23 an23 cd23 ct23), sl23⟩)
    (d23 : PySem.W.codeIn K cd23 "answer" = true)
    (k23 : PySem.W.keepIn K (.ref f23) = true)
    (a24 : PySem.W.nsIn K mainGlobals "prices" = some (some (.ref f24)))
    (l24 : K.lookup f24 = some ⟨oc24, od24, .func (PySem.W.fnOf "prices" "prices" (defArgs s_prices) (defBody s_prices) (defScope s_prices) .none kV24 dc24 pm24 an24 cd24 ct24), sl24⟩)
    (d24 : PySem.W.codeIn K cd24 "prices" = true)
    (k24 : PySem.W.keepIn K (.ref f24) = true)
    (a25 : PySem.W.nsIn K mainGlobals "shows" = some (some (.ref f25)))
    (l25 : K.lookup f25 = some ⟨oc25, od25, .func (PySem.W.fnOf "shows" "shows" (defArgs s_shows) (defBody s_shows) (defScope s_shows) .none kV25 dc25 pm25 an25 cd25 ct25), sl25⟩)
    (d25 : PySem.W.codeIn K cd25 "shows" = true)
    (k25 : PySem.W.keepIn K (.ref f25) = true)
    (a26 : PySem.W.nsIn K mainGlobals "law" = some (some (.ref f26)))
    (l26 : K.lookup f26 = some ⟨oc26, od26, .func (PySem.W.fnOf "law" "law" (defArgs s_law) (defBody s_law) (defScope s_law) .none kV26 dc26 pm26 an26 cd26 ct26), sl26⟩)
    (d26 : PySem.W.codeIn K cd26 "law" = true)
    (k26 : PySem.W.keepIn K (.ref f26) = true)
    (lc_law : cd26 = .ref c_law)
    (ll_law : K.lookup c_law = some ⟨le_law, ld_law, .fields lvs_law, lsl_law⟩)
    (lp_law : lvs_law[11]? = some (.ref P_law))
    (ln_law : K.lookup P_law = none)
    (lh_law : PySem.W.codeHdIn K c_law P_law = true)
    (own : LamX.OwnTab K fa h) : LamX.LawAtS l w K CX0 7 63 "_law_script" mg fa h := by
  have e := hfa.symm.trans (PySem.W.mg_of X G a26)
  cases e
  subst lc_law
  have hP := own c_law P_law _ _ le_law ld_law lvs_law lsl_law l26 rfl rfl ll_law lp_law
  have Bm : Blt mg := ⟨PySem.W.mg_none_of X G b_len, PySem.W.mg_none_of X G b_range, PySem.W.mg_none_of X G b_int, PySem.W.mg_none_of X G b_list, PySem.W.mg_none_of X G b_tuple, PySem.W.mg_none_of X G b_sorted, PySem.W.mg_none_of X G b_min, PySem.W.mg_none_of X G b_max, PySem.W.mg_none_of X G b_sum, PySem.W.mg_none_of X G b_set, PySem.W.mg_none_of X G b_str, PySem.W.mg_none_of X G b_isinstance, PySem.W.mg_none_of X G b_enumerate, PySem.W.mg_none_of X G b_zip, PySem.W.mg_none_of X G b_bool, PySem.W.mg_none_of X G b_dict⟩
  have km_MOST_KEYS := PySem.W.mg_of X G c_MOST_KEYS
  have km_MOST_TAIL := PySem.W.mg_of X G c_MOST_TAIL
  have km_PART := PySem.W.mg_of X G c_PART
  have CHearer : CHr K C_Hearer := ⟨⟨pg_Hearer, hd_Hearer, po_Hearer, sa_Hearer⟩, no0_Hearer, no1_Hearer, no2_Hearer, no3_Hearer⟩
  have CBoard : CBo K C_Board := ⟨⟨pg_Board, hd_Board, po_Board, sa_Board⟩, no0_Board, no1_Board, no2_Board, no3_Board, no4_Board⟩
  have CCatchError : CeR K mg C_CatchError := ⟨PySem.W.mg_of X G ac_CatchError, rd_CatchError, ge_CatchError, ci_CatchError⟩
  have XBadKnown : Xc K C_BadKnown "key" := ⟨⟨⟨nm_BadKnown, qn_BadKnown, N_BadKnown, bs_BadKnown, _, sn_BadKnown, sb_BadKnown, ab_BadKnown, col_BadKnown, dd_BadKnown, m0_BadKnown, m1_BadKnown, m2_BadKnown, m3_BadKnown, m5_BadKnown, xl_BadKnown, rfl⟩, sa_BadKnown, eC_BadKnown, tC_BadKnown, kC_BadKnown⟩, ⟨ga_BadKnown, gg_BadKnown, eC_BadKnown, hC_BadKnown⟩, nf_BadKnown⟩
  have XBadPrices : Xo K mg "BadPrices" C_BadPrices := ⟨PySem.W.mg_of X G ac_BadPrices, xi_BadPrices, kC_BadPrices, eC_BadPrices, tC_BadPrices⟩
  have F_bad : Fd K mg "_law_bad" s_bad := ⟨_, _, fun_mk (st := s_bad) l1 d1 k1, PySem.W.mg_of X G a1⟩
  have F2 : Xd K mg "BadKnown" C_BadKnown "BadKnown.__init__" s_BadKnown_init := ⟨⟨_, _, fun_mk (st := s_BadKnown_init) l2 d2 k2, a2, i2⟩, PySem.W.mg_of X G ac_BadKnown⟩
  have F3 : Fd K mg "_law_dice" s_dice := ⟨_, _, fun_mk (st := s_dice) l3 d3 k3, PySem.W.mg_of X G a3⟩
  have F4 : Fd K mg "_law_next" s_next := ⟨_, _, fun_mk (st := s_next) l4 d4 k4, PySem.W.mg_of X G a4⟩
  have F5 : Kd K mg "Board" C_Board "Board.__init__" s_Board_init := ⟨_, _, fun_mk (st := s_Board_init) l5 d5 k5, ⟨mk_Board, a5, i5, kc_Board⟩, PySem.W.mg_of X G ac_Board⟩
  have F6 : Md K C_Board "number" "Board.number" s_Board_number := ⟨_, _, fun_mk (st := s_Board_number) l6 d6 k6, ⟨a6, i6, k6⟩⟩
  have F7 : Md K C_Board "part" "Board.part" s_Board_part := ⟨_, _, fun_mk (st := s_Board_part) l7 d7 k7, ⟨a7, i7, k7⟩⟩
  have F8 : Md K C_Board "change" "Board.change" s_Board_change := ⟨_, _, fun_mk (st := s_Board_change) l8 d8 k8, ⟨a8, i8, k8⟩⟩
  have F9 : Kd K mg "Hearer" C_Hearer "Hearer.__init__" s_Hearer_init := ⟨_, _, fun_mk (st := s_Hearer_init) l9 d9 k9, ⟨mk_Hearer, a9, i9, kc_Hearer⟩, PySem.W.mg_of X G ac_Hearer⟩
  have F10 : Md K C_Hearer "do" "Hearer.do" s_Hearer_do := ⟨_, _, fun_mk (st := s_Hearer_do) l10 d10 k10, ⟨a10, i10, k10⟩⟩
  have F11 : Md K C_Hearer "freed" "Hearer.freed" s_Hearer_freed := ⟨_, _, fun_mk (st := s_Hearer_freed) l11 d11 k11, ⟨a11, i11, k11⟩⟩
  have F12 : Md K C_Hearer "changed" "Hearer.changed" s_Hearer_changed := ⟨_, _, fun_mk (st := s_Hearer_changed) l12 d12 k12, ⟨a12, i12, k12⟩⟩
  have F13 : Md K C_Hearer "copied" "Hearer.copied" s_Hearer_copied := ⟨_, _, fun_mk (st := s_Hearer_copied) l13 d13 k13, ⟨a13, i13, k13⟩⟩
  have F14 : Md K C_Hearer "hear" "Hearer.hear" s_Hearer_hear := ⟨_, _, fun_mk (st := s_Hearer_hear) l14 d14 k14, ⟨a14, i14, k14⟩⟩
  have F15 : Md K C_Hearer "held" "Hearer.held" s_Hearer_held := ⟨_, _, fun_mk (st := s_Hearer_held) l15 d15 k15, ⟨a15, i15, k15⟩⟩
  have F16 : Md K C_Hearer "known" "Hearer.known" s_Hearer_known := ⟨_, _, fun_mk (st := s_Hearer_known) l16 d16 k16, ⟨a16, i16, k16⟩⟩
  have F17 : Md K C_Board "size" "Board.size" s_Board_size := ⟨_, _, fun_mk (st := s_Board_size) l17 d17 k17, ⟨a17, i17, k17⟩⟩
  have F18 : Fd K mg "need_known" s_need_known := ⟨_, _, fun_mk (st := s_need_known) l18 d18 k18, PySem.W.mg_of X G a18⟩
  have F19 : Md K C_Board "lasts" "Board.lasts" s_Board_lasts := ⟨_, _, fun_mk (st := s_Board_lasts) l19 d19 k19, ⟨a19, i19, k19⟩⟩
  have F20 : Md K C_Board "tail" "Board.tail" s_Board_tail := ⟨_, _, fun_mk (st := s_Board_tail) l20 d20 k20, ⟨a20, i20, k20⟩⟩
  have F21 : Fd K mg "wanted" s_wanted := ⟨_, _, fun_mk (st := s_wanted) l21 d21 k21, PySem.W.mg_of X G a21⟩
  have F22 : Fd K mg "levels" s_levels := ⟨_, _, fun_mk (st := s_levels) l22 d22 k22, PySem.W.mg_of X G a22⟩
  have F23 : Fd K mg "answer" s_answer := ⟨_, _, fun_mk (st := s_answer) l23 d23 k23, PySem.W.mg_of X G a23⟩
  have F24 : Fd K mg "prices" s_prices := ⟨_, _, fun_mk (st := s_prices) l24 d24 k24, PySem.W.mg_of X G a24⟩
  have F25 : Fd K mg "shows" s_shows := ⟨_, _, fun_mk (st := s_shows) l25 d25 k25, PySem.W.mg_of X G a25⟩
  have F26 := fun_mk (st := s_law) l26 d26 k26
  refine ⟨PySem.W.fnOf "law" "law" (defArgs s_law) (defBody s_law) (defScope s_law) .none kV26 dc26 pm26 an26 (.ref c_law) ct26, [(c_law, P_law)], spLawT K P_law, (fun p hp => by rw [List.mem_singleton.mp hp]; exact hP), (fun p hp => by rw [List.mem_singleton.mp hp]; exact ln_law), (fun p hp => by rw [List.mem_singleton.mp hp]; exact PySem.W.codeHd_of_K X lh_law), (fun s v => .of_eq rfl), (fun H a ns hl _ hT hS => ⟨rfl, a, ns, rfl, hl, hS, hT _ (List.mem_singleton.mpr rfl), fun _ => rfl⟩), fun base _ _ hTB => ?_⟩
  have TBl := hTB (c_law, P_law) (List.mem_singleton.mpr rfl)
  have hcode : (PySem.W.fnOf "law" "law" (defArgs s_law) (defBody s_law) (defScope s_law) .none kV26 dc26 pm26 an26 (.ref c_law) ct26).code = .ref c_law := rfl
  have x_BadKnown := ok_BadKnown (P := l.prog) (w := w) (base := base) F2 CCatchError XBadKnown
  have g_dice := ok_dice (P := l.prog) (w := w) (base := base) F3 Bm
  have g_next := ok_next (P := l.prog) (w := w) (base := base) F4 Bm
  have k_Board := ok_Binit (P := l.prog) (w := w) (base := base) F5 Bm CBoard km_MOST_KEYS km_MOST_TAIL
  have m_Board_number := ok_Bnumber (P := l.prog) (w := w) (base := base) F6 Bm CBoard
  have m_Board_part := ok_Bpart (P := l.prog) (w := w) (base := base) F7 Bm CBoard
  have m_Board_change := ok_Bchange (P := l.prog) (w := w) (base := base) F8 Bm CBoard
  have k_Hearer := ok_Hinit (P := l.prog) (w := w) (base := base) F9 Bm CHearer km_MOST_KEYS
  have m_Hearer_do := ok_do (P := l.prog) (w := w) (base := base) F10 Bm CHearer
  have m_Hearer_freed := ok_freed (P := l.prog) (w := w) (base := base) F11 Bm CHearer m_Hearer_do
  have m_Hearer_changed := ok_changed (P := l.prog) (w := w) (base := base) F12 Bm CHearer m_Hearer_do m_Hearer_freed
  have m_Hearer_copied := ok_copied (P := l.prog) (w := w) (base := base) F13 Bm CHearer m_Hearer_freed
  have m_Hearer_hear := ok_hear (P := l.prog) (w := w) (base := base) F14 Bm CHearer m_Hearer_changed m_Hearer_copied
  have m_Hearer_held := ok_held (P := l.prog) (w := w) (base := base) F15 Bm CHearer
  have m_Hearer_known := ok_known (P := l.prog) (w := w) (base := base) F16 Bm CHearer
  have m_Board_size := ok_Bsize (P := l.prog) (w := w) (base := base) F17 Bm CBoard
  have g_need_known := ok_need_knownX (P := l.prog) (w := w) (base := base) F18 Bm CBoard m_Board_size m_Board_number x_BadKnown XBadKnown
  have m_Board_lasts := ok_Blasts (P := l.prog) (w := w) (base := base) F19 Bm CBoard
  have m_Board_tail := ok_Btail (P := l.prog) (w := w) (base := base) F20 Bm CBoard
  have g_wanted := ok_wanted (P := l.prog) (w := w) (base := base) F21 Bm CBoard m_Board_lasts m_Board_tail
  have g_levels := ok_levels (P := l.prog) (w := w) (base := base) F22 Bm CBoard km_PART m_Board_size g_wanted
  have g_answer := ok_answerX (P := l.prog) (w := w) (base := base) F23 Bm CBoard g_need_known g_levels g_wanted m_Board_size m_Board_part
  have g_prices := ok_pricesX (P := l.prog) (w := w) (base := base) F24 Bm CBoard g_need_known g_levels m_Board_size
  have g_shows := ok_showsX (P := l.prog) (w := w) (base := base) F25 Bm CBoard km_PART g_need_known g_wanted m_Board_size XBadPrices
  exact ok_law (P := l.prog) (w := w) (base := base) F26 Bm hcode TBl CHearer CBoard F_bad x_BadKnown XBadKnown sub_BadKnown g_dice g_next k_Board m_Board_number m_Board_part m_Board_change k_Hearer m_Hearer_hear m_Hearer_held m_Hearer_known g_answer g_prices g_shows
end Cu
open PySem PySem.W PyProof.Rows
set_option maxHeartbeats 0 in
theorem PySem.Challenge.cw_catchup_k90_known_edges_holds : PySem.Challenge.rw_catchup_k90_known_edges.Holds := by
  w_on; o_law; k_head; (case hw => w_witness2)
  k_fill
  refine LamX.walk_ofOwn (l := PySem.Challenge.rw_catchup_k90_known_edges) (n := 63) (k := 7) (x := "_law_script") (CX := fun _ => L2.CX0) rfl (by decide) rfl ⟨rfl, by decide, by decide⟩ (by decide +kernel) (fun w h Y => PySem.W.km_in_of Y) ?F (fun _ _ _ _ _ z => z)
  case F =>
    intro w mg fa h Y KX G hmg own
    refine' Cu.facts KX G hmg ?b_len ?b_range ?b_int ?b_list ?b_tuple ?b_sorted ?b_min ?b_max ?b_sum ?b_set ?b_str ?b_isinstance ?b_enumerate ?b_zip ?b_bool ?b_dict ?c_MOST_KEYS ?c_MOST_TAIL ?c_PART ?ac_Hearer ?pg_Hearer ?hd_Hearer ?po_Hearer ?sa_Hearer ?no0_Hearer ?no1_Hearer ?no2_Hearer ?no3_Hearer ?ac_Board ?pg_Board ?hd_Board ?po_Board ?sa_Board ?no0_Board ?no1_Board ?no2_Board ?no3_Board ?no4_Board ?ac_CatchError ?rd_CatchError ?ge_CatchError ?ci_CatchError ?ac_BadKnown ?xl_BadKnown ?sa_BadKnown ?eC_BadKnown ?tC_BadKnown ?kC_BadKnown ?ga_BadKnown ?gg_BadKnown ?hC_BadKnown ?nf_BadKnown ?ac_BadPrices ?xi_BadPrices ?kC_BadPrices ?eC_BadPrices ?tC_BadPrices ?sub_BadKnown ?a1 ?l1 ?d1 ?k1 ?a2 ?i2 ?l2 ?d2 ?k2 ?a3 ?l3 ?d3 ?k3 ?a4 ?l4 ?d4 ?k4 ?a5 ?i5 ?l5 ?d5 ?k5 ?mk_Board ?kc_Board ?a6 ?i6 ?l6 ?d6 ?k6 ?a7 ?i7 ?l7 ?d7 ?k7 ?a8 ?i8 ?l8 ?d8 ?k8 ?a9 ?i9 ?l9 ?d9 ?k9 ?mk_Hearer ?kc_Hearer ?a10 ?i10 ?l10 ?d10 ?k10 ?a11 ?i11 ?l11 ?d11 ?k11 ?a12 ?i12 ?l12 ?d12 ?k12 ?a13 ?i13 ?l13 ?d13 ?k13 ?a14 ?i14 ?l14 ?d14 ?k14 ?a15 ?i15 ?l15 ?d15 ?k15 ?a16 ?i16 ?l16 ?d16 ?k16 ?a17 ?i17 ?l17 ?d17 ?k17 ?a18 ?l18 ?d18 ?k18 ?a19 ?i19 ?l19 ?d19 ?k19 ?a20 ?i20 ?l20 ?d20 ?k20 ?a21 ?l21 ?d21 ?k21 ?a22 ?l22 ?d22 ?k22 ?a23 ?l23 ?d23 ?k23 ?a24 ?l24 ?d24 ?k24 ?a25 ?l25 ?d25 ?k25 ?a26 ?l26 ?d26 ?k26 ?lc_law ?ll_law ?lp_law ?ln_law ?lh_law own
    (case b_len => k_is)
    (case b_range => k_is)
    (case b_int => k_is)
    (case b_list => k_is)
    (case b_tuple => k_is)
    (case b_sorted => k_is)
    (case b_min => k_is)
    (case b_max => k_is)
    (case b_sum => k_is)
    (case b_set => k_is)
    (case b_str => k_is)
    (case b_isinstance => k_is)
    (case b_enumerate => k_is)
    (case b_zip => k_is)
    (case b_bool => k_is)
    (case b_dict => k_is)
    (case c_MOST_KEYS => k_is)
    (case c_MOST_TAIL => k_is)
    (case c_PART => k_is)
    (case ac_Hearer => k_is)
    (case pg_Hearer => k_is)
    (case hd_Hearer => k_is)
    (case po_Hearer => k_is)
    (case sa_Hearer => k_is)
    (case no0_Hearer => k_is)
    (case no1_Hearer => k_is)
    (case no2_Hearer => k_is)
    (case no3_Hearer => k_is)
    (case ac_Board => k_is)
    (case pg_Board => k_is)
    (case hd_Board => k_is)
    (case po_Board => k_is)
    (case sa_Board => k_is)
    (case no0_Board => k_is)
    (case no1_Board => k_is)
    (case no2_Board => k_is)
    (case no3_Board => k_is)
    (case no4_Board => k_is)
    (case ac_CatchError => k_is)
    (case rd_CatchError => k_is)
    (case ge_CatchError => k_is)
    (case ci_CatchError => k_is)
    (case ac_BadKnown => k_is)
    (case xl_BadKnown => k_is)
    (case sa_BadKnown => k_is)
    (case eC_BadKnown => k_is)
    (case tC_BadKnown => k_is)
    (case kC_BadKnown => k_is)
    (case ga_BadKnown => k_is)
    (case gg_BadKnown => k_is)
    (case hC_BadKnown => k_is)
    (case nf_BadKnown => k_is)
    (case ac_BadPrices => k_is)
    (case xi_BadPrices => (first | k_is | kernel_rfl))
    (case kC_BadPrices => k_is)
    (case eC_BadPrices => k_is)
    (case tC_BadPrices => k_is)
    (case sub_BadKnown => k_is)
    (case a1 => k_is)
    (case l1 => k_is)
    (case d1 => k_is)
    (case k1 => k_is)
    (case a2 => k_is)
    (case i2 => k_is)
    (case l2 => k_is)
    (case d2 => k_is)
    (case k2 => k_is)
    (case a3 => k_is)
    (case l3 => k_is)
    (case d3 => k_is)
    (case k3 => k_is)
    (case a4 => k_is)
    (case l4 => k_is)
    (case d4 => k_is)
    (case k4 => k_is)
    (case a5 => k_is)
    (case i5 => k_is)
    (case l5 => k_is)
    (case d5 => k_is)
    (case k5 => k_is)
    (case mk_Board => k_is)
    (case kc_Board => k_is)
    (case a6 => k_is)
    (case i6 => k_is)
    (case l6 => k_is)
    (case d6 => k_is)
    (case k6 => k_is)
    (case a7 => k_is)
    (case i7 => k_is)
    (case l7 => k_is)
    (case d7 => k_is)
    (case k7 => k_is)
    (case a8 => k_is)
    (case i8 => k_is)
    (case l8 => k_is)
    (case d8 => k_is)
    (case k8 => k_is)
    (case a9 => k_is)
    (case i9 => k_is)
    (case l9 => k_is)
    (case d9 => k_is)
    (case k9 => k_is)
    (case mk_Hearer => k_is)
    (case kc_Hearer => k_is)
    (case a10 => k_is)
    (case i10 => k_is)
    (case l10 => k_is)
    (case d10 => k_is)
    (case k10 => k_is)
    (case a11 => k_is)
    (case i11 => k_is)
    (case l11 => k_is)
    (case d11 => k_is)
    (case k11 => k_is)
    (case a12 => k_is)
    (case i12 => k_is)
    (case l12 => k_is)
    (case d12 => k_is)
    (case k12 => k_is)
    (case a13 => k_is)
    (case i13 => k_is)
    (case l13 => k_is)
    (case d13 => k_is)
    (case k13 => k_is)
    (case a14 => k_is)
    (case i14 => k_is)
    (case l14 => k_is)
    (case d14 => k_is)
    (case k14 => k_is)
    (case a15 => k_is)
    (case i15 => k_is)
    (case l15 => k_is)
    (case d15 => k_is)
    (case k15 => k_is)
    (case a16 => k_is)
    (case i16 => k_is)
    (case l16 => k_is)
    (case d16 => k_is)
    (case k16 => k_is)
    (case a17 => k_is)
    (case i17 => k_is)
    (case l17 => k_is)
    (case d17 => k_is)
    (case k17 => k_is)
    (case a18 => k_is)
    (case l18 => k_is)
    (case d18 => k_is)
    (case k18 => k_is)
    (case a19 => k_is)
    (case i19 => k_is)
    (case l19 => k_is)
    (case d19 => k_is)
    (case k19 => k_is)
    (case a20 => k_is)
    (case i20 => k_is)
    (case l20 => k_is)
    (case d20 => k_is)
    (case k20 => k_is)
    (case a21 => k_is)
    (case l21 => k_is)
    (case d21 => k_is)
    (case k21 => k_is)
    (case a22 => k_is)
    (case l22 => k_is)
    (case d22 => k_is)
    (case k22 => k_is)
    (case a23 => k_is)
    (case l23 => k_is)
    (case d23 => k_is)
    (case k23 => k_is)
    (case a24 => k_is)
    (case l24 => k_is)
    (case d24 => k_is)
    (case k24 => k_is)
    (case a25 => k_is)
    (case l25 => k_is)
    (case d25 => k_is)
    (case k25 => k_is)
    (case a26 => k_is)
    (case l26 => k_is)
    (case d26 => k_is)
    (case k26 => k_is)
    (case lc_law => rfl)
    (case ll_law => k_is)
    (case lp_law => rfl)
    (case ln_law => kernel_rfl)
    (case lh_law => kernel_rfl)
#print axioms PySem.Challenge.cw_catchup_k90_known_edges_holds
